-- Text by a program of this session, over what print.py prints.
import Derived.Test.YtcechlbeghcliaaDoorPAllx0
import Derived.Test.YtcechlbeghcliaaDoorPAllx4
namespace Go.Proofs.YtcechlbeghcliaaDoor.PAll
open Go.RowKit Go.Proofs.YtcechlbeghcliaaDoorW.PrintWords Go.Proofs.YtcechlbeghcliaaDoorW.PrintLast Go.Proofs.YtcechlbeghcliaaDoorW.PrintMore
attribute [local go_sem] max2_int min2_int max_two min_two max_three min_three max_four min_four   -- for this text's walks alone
set_option linter.unusedVariables false
set_option linter.unusedSimpArgs false

/-! ### strings_Builder_WriteByte: function 110, by hand -/
set_option maxHeartbeats 2000000 in
set_option maxRecDepth 100000 in
theorem Builder_WriteByte (B b : Nat) (bs : List Value) (c : Int) (w : World) (h : Lib.IsBuilder 75 5 B b bs w) (hlen : bs.length + 1 ≤ 140737488355328) (hBw : B ≤ w.heap.size) :
    Calls Tryd.prog 110 #[.pointer (some ⟨b, 0, none⟩), .int .u8 c] w fun e w' => e = .returned .nilIface ∧ (Lib.BuilderAt 75 5 B b (.pointer (some ⟨b, 0, none⟩)) (bs ++ [.int .u8 c]) w' ∧ Below B w w' ∧ Lib.OthersKept 5 (some b) w w') := by
  obtain ⟨i0, hi, hz0, hz1, hz2⟩ := info_parts infoByte_
  go_enter Tryd.func110, Tryd.ntmps110
  go_wp2_with (go_at_call 71; refine (Builder_copyCheck B b bs _ h).mono ?_)
  rintro e w1 ⟨rfl, h1, hb1, hk1⟩
  obtain ⟨hB, v, hbk, hown, hne⟩ := h1
  have c0 : w1.cell? ⟨b, 0, none⟩ = some (.pointer (some ⟨b, 0, none⟩)) := by rw [Lib.cell_of_heap hbk]; rfl
  have c1 : w1.cell? ⟨b, 1, none⟩ = some v := by rw [Lib.cell_of_heap hbk]; rfl
  go_wp2_with (at_builtin; refine wpList_append_own _ rfl _ _ 46 rfl B 5 i0 (.int .u8 0) 1 1 Tryd.underlying46 hi hz0 hz1 hz2 rfl (by decide) _ _ _ rfl (hown.alloc _) ⟨w1.heap.size, 0, none⟩ 1 1 [.int .u8 c] rfl rfl ?c1 ?c2 ?c3 ?c4 ?c5 ?_)
  case c1 =>
    intro j u hj
    match j, hj with
    | 0, hj => simp at hj; subst hj; simp [Addr.add]
  case c2 => intro u hu; simp at hu; subst hu; rfl
  case c3 => unfold maxLen; omega
  case c4 => omega
  case c5 => have := hb1.size; simp; omega
  intro v' w2 hown' hgrow _
  have hlt : b < w1.heap.size := by
    rcases Nat.lt_or_ge b w1.heap.size with h' | h'
    · exact h'
    · simp [Array.getElem?_eq_none h'] at hbk
  have hb2 : w2.heap[b]? = some (.cells #[.pointer (some ⟨b, 0, none⟩), v] 75 (0, 0)) := by
    rw [hgrow.block b (by simp; omega) (fun e => hne e.symm), Lib.alloc_old w1 _ b hlt]
    exact hbk
  have d0 : w2.cell? ⟨b, 0, none⟩ = some (.pointer (some ⟨b, 0, none⟩)) := by rw [Lib.cell_of_heap hb2]; rfl
  have d1 : w2.cell? ⟨b, 1, none⟩ = some v := by rw [Lib.cell_of_heap hb2]; rfl
  have f1 : w2.frozen? ⟨b, 1, none⟩ = false := Lib.frozen_of_heap hb2 1
  obtain ⟨g, cap, rfl⟩ : ∃ g cap, v' = .slice (some ⟨g, 0, none⟩) (bs.length + 1) cap := by
    rcases hown'.2 with ⟨_, h0⟩ | ⟨g, cap, cur, hv, _⟩
    · omega
    · exact ⟨g, cap, hv⟩
  go_wp2
  go_ret
  refine ⟨rfl, ?_, ?_, ((hk1.alloc _).grown hgrow (ownsRow_kind (hown.alloc _))).setCell ⟨b, 1, none⟩ rfl _⟩
  · exact Lib.BuilderAt.put (T := 75) (e := 5) hB hb2 (bs' := bs ++ [.int .u8 c]) (by simpa using hown') (by decide)
  · exact ((hb1.alloc (by have := hb1.size; omega) _).grown hgrow (by have := hb1.size; simp; omega) (fun k hk => (hown.lt k hk).1)).setCell (p := ⟨b, 1, none⟩) hB _


/-! ### date_put: function 98, by hand -/
-- over 110
inductive PPart where
  | s (t : ByteArray)
  | n (v k : Int)
def PPart.enc : PPart → Value
  | .s t => .iface 9 (.string t)
  | .n v k => .iface 112 (.agg #[.int .i64 v, .int .i64 k])
def numB (v by_ : Int) : List UInt8 := if 0 < by_ then (48 + v / by_ % 10).toNat.toUInt8 :: numB v (by_ / 10) else []
termination_by by_.toNat
decreasing_by omega
def PPart.bytes : PPart → List UInt8
  | .s t => t.data.toList
  | .n v k => if k = 2 then numB v 10 else numB v 1000
def PPart.ok : PPart → Prop
  | .s _ => True
  | .n v k => 0 ≤ v ∧ v ≤ 9999 ∧ (k = 2 ∨ k = 4)
def partsB (l : List PPart) : List UInt8 := (l.map PPart.bytes).flatten
theorem partsB_take (l : List PPart) (k : Nat) (h : k < l.length) : partsB (l.take (k + 1)) = partsB (l.take k) ++ l[k].bytes := by
  unfold partsB
  rw [List.take_succ_eq_append_getElem h, List.map_append, List.flatten_append]
  simp
theorem partsB_le (l : List PPart) (k : Nat) (h : k < l.length) : (partsB (l.take k)).length + l[k].bytes.length ≤ (partsB l).length := by
  have e : partsB l = partsB (l.take (k + 1)) ++ partsB (l.drop (k + 1)) := by
    unfold partsB
    rw [← List.flatten_append, ← List.map_append, List.take_append_drop]
  rw [e, partsB_take l k h]
  simp
theorem byteCells_append (a b : List UInt8) : Lib.byteCells (a ++ b) = Lib.byteCells a ++ Lib.byteCells b := by simp [Lib.byteCells]
theorem strCells_bytes (s : ByteArray) : Lib.strCells s = Lib.byteCells s.data.toList := by simp [Lib.strCells, Lib.byteCells]
theorem numB_step (v b : Int) (hb : 0 < b) : numB v b = (48 + v / b % 10).toNat.toUInt8 :: numB v (b / 10) := by
  rw [numB, if_pos hb]
theorem numB_zero (v b : Int) (hb : b ≤ 0) : numB v b = [] := by rw [numB, if_neg (by omega)]
theorem digit_byte (v b : Int) (hv : 0 ≤ v) (hb : 0 < b) : 48 ≤ 48 + v / b % 10 ∧ 48 + v / b % 10 ≤ 57 := by
  have h1 : 0 ≤ v / b := Int.ediv_nonneg hv (by omega)
  omega
theorem byteCell_digit (c : Int) (h0 : 48 ≤ c) (h1 : c ≤ 57) : [Value.int .u8 c] = Lib.byteCells [c.toNat.toUInt8] := by
  obtain ⟨n, rfl⟩ := Int.eq_ofNat_of_zero_le (show 0 ≤ c by omega)
  simp [Lib.byteCells]
  omega
theorem isBuilder_below {T e : TypeId} {B b : Nat} {bs : List Value} {w w' : World} (h : Lib.IsBuilder T e B b bs w) (hb : Below w.heap.size w w') : Lib.IsBuilder T e B b bs w' := by
  have key : ∀ p, Lib.BuilderAt T e B b p bs w → Lib.BuilderAt T e B b p bs w' := by
    rintro p hp
    have hlt := hp.lt
    obtain ⟨hB, v, hh, hown, hne⟩ := hp
    exact ⟨hB, v, (hb.block b hlt).trans hh, pw_own_below hown hb, hne⟩
  rcases h with h | h
  · exact .inl (key _ h)
  · exact .inr (key _ h)

set_option maxHeartbeats 2000000 in
set_option maxRecDepth 100000 in
theorem put_calls (l : List PPart) (A : Option Addr) (cap : Nat) (w : World) (hl : l.length ≤ 1000) (hok : ∀ p ∈ l, p.ok) (hB : (partsB l).length ≤ 140737488355328)
    (hc : ∀ j (h : j < l.length), ∃ ad, A = some ad ∧ w.cell? (ad.add j) = some l[j].enc) :
    Calls Tryd.prog 98 #[.slice A l.length cap] w fun e w' => e = .returned (.string ⟨(partsB l).toArray⟩) ∧ Below w.heap.size w w' := by
  have hta9 : ∀ (v : Value) (W : World), (Instr.typeAssert (.iface 9 v) 20 9 true).run Tryd.prog W = .ok (.tuple #[v, .bool true]) W := fun v W => by rfl
  have hta40 : ∀ (v : Value) (W : World), (Instr.typeAssert (.iface 112 v) 20 112 true).run Tryd.prog W = .ok (.tuple #[v, .bool true]) W := fun v W => by rfl
  have htan : ∀ (v : Value) (W : World), (Instr.typeAssert (.iface 112 v) 20 9 true).run Tryd.prog W = .ok (.tuple #[.string ⟨#[]⟩, .bool false]) W := fun v W => by rfl
  have hfr := Lib.fresh_isBuilder 75 5 w
  go_enter Tryd.func98, Tryd.ntmps98
  go_wp2
  go_loopw [11] (fun i wr => ∃ k : Nat, k ≤ l.length ∧ i = .int .i64 k ∧ Lib.IsBuilder 75 5 w.heap.size w.heap.size (Lib.byteCells (partsB (l.take k))) wr ∧ Below w.heap.size w wr) (fun i _ => l.length - (intOf i).toNat)
  case atStart => exact ⟨0, Nat.zero_le _, rfl, hfr, (Below.refl _ _).alloc (Nat.le_refl _) _⟩
  case round =>
    obtain ⟨k, hk, rfl, hb, hbel⟩ := hrel
    by_cases hlt : k < l.length
    · obtain ⟨ad, rfl, hcell⟩ := hc k hlt
      have hcell' : wr.cell? (ad.add k) = some l[k].enc := pw_cell_below hbel hcell
      have hle := partsB_le l k hlt
      have htk := partsB_take l k hlt
      have hpk := hok l[k] (List.getElem_mem hlt)
      generalize hp : l[k] = p at *
      clear hcell hok hc
      have HT := Aside0.mk htk
      clear htk hp
      have hsz : w.heap.size < wr.heap.size := by rcases hb with h | h <;> exact h.lt
      cases p with
      | s x =>
        simp only [PPart.enc] at hcell'
        have HL : (Lib.byteCells (partsB (l.take k))).length + x.size ≤ 140737488355328 := by
          simp only [PPart.bytes] at hle
          rw [Lib.byteCells_length]
          simp at hle
          omega
        clear hle
        go_wp2_with (go_at_call 59; refine (Builder_WriteString w.heap.size w.heap.size _ x _ hb HL (by omega)).mono ?_; rintro e w1 ⟨rfl, hb1, hbb, _⟩)
        go_roundw
        case rel => exact ⟨k + 1, by omega, by go_num, .inr (by rw [HT.out, byteCells_append]; exact hb1), hbel.trans hbb⟩
        case measure => simp [intOf]; omega
      | n v j =>
        simp only [PPart.enc] at hcell'
        obtain ⟨hv0, hv1, hj⟩ := hpk
        obtain ⟨by0, hpow, hby0, hby1, hnum⟩ : ∃ by0, date_pow.f 10 (j - 1) = some by0 ∧ 0 < by0 ∧ by0 ≤ 1000 ∧ (PPart.n v j).bytes = numB v by0 := by
          rcases hj with rfl | rfl
          · exact ⟨10, by decide +kernel, by omega, by omega, rfl⟩
          · exact ⟨1000, by decide +kernel, by omega, by omega, rfl⟩
        have hj1 : 0 ≤ j := by rcases hj with rfl | rfl <;> omega
        have hj2 : j ≤ 4 := by rcases hj with rfl | rfl <;> omega
        have HN := Aside0.mk hnum
        have HP := Aside0.mk hpow
        clear hnum hpow hj
        rw [HN.out] at hle
        go_wp2_with fail
        refine (date_pow.calls 10 _ _ _ HP.out).mono ?_
        rintro e w1 ⟨rfl, ⟨nd, rfl⟩⟩
        go_wp2_with fail
        obtain ⟨wo, hwo⟩ : ∃ wo : World, wo = wr := ⟨_, rfl⟩
        subst hwo
        go_loopw [8] (fun b wq => ∃ (y : Int) (bs : List UInt8), b = .int .i64 y ∧ 0 ≤ y ∧ y ≤ 1000 ∧ Lib.IsBuilder 75 5 w.heap.size w.heap.size (Lib.byteCells (partsB (l.take k) ++ bs)) wq ∧ Aside0 (bs ++ numB v y = numB v by0) ∧ wq.heap[wo.heap.size]? = some (.cells #[.int .i64 v, .int .i64 j] 112 (0, 0)) ∧ Below w.heap.size w wq) (fun b _ => (intOf b).toNat)
        case atStart =>
          have hbl : Below wo.heap.size wo ((wo.alloc (.cells #[.int .i64 v, .int .i64 j] 112)).drewN nd) := pw_below_drewN ((Below.refl _ _).alloc (Nat.le_refl _) _) nd
          have hbw : Below w.heap.size w ((wo.alloc (.cells #[.int .i64 v, .int .i64 j] 112)).drewN nd) := hbel.trans (hbl.mono (by omega))
          exact ⟨by0, [], rfl, by omega, hby1, by rw [List.append_nil]; exact isBuilder_below hb hbl, ⟨by simp⟩, heap_alloc_new wo _, hbw⟩
        case round =>
          obtain ⟨y, bs, rfl, hy0, hy1, hbq, hbs, hcq, hbq2⟩ := hrel
          have hcv : wr.cell? ⟨wo.heap.size, 0, none⟩ = some (.int .i64 v) := by rw [Lib.cell_of_heap hcq]; rfl
          by_cases hy : 0 < y
          · have hd := digit_byte v y hv0 hy
            have hst := numB_step v y hy
            have hlen : bs.length + (numB v y).length = (numB v by0).length := by rw [← hbs.out, List.length_append]
            rw [hst] at hlen
            have HL : (Lib.byteCells (partsB (l.take k) ++ bs)).length + 1 ≤ 140737488355328 := by
              simp only [Lib.byteCells_length, List.length_append, List.length_cons] at *
              omega
            have hszq : w.heap.size < wr.heap.size := by rcases hbq with h | h <;> exact h.lt
            have HS := Aside0.mk hst
            have hq0 : 0 ≤ v / y := Int.ediv_nonneg hv0 (by omega)
            clear hst hlen hle
            go_wp2_with fail
            have hce : wrap64 (48 + v / y % 10) % 256 = 48 + v / y % 10 := by unfold wrap64; omega
            refine (Builder_WriteByte w.heap.size w.heap.size _ _ _ hbq HL (by omega)).mono ?_
            rintro e w1 ⟨rfl, hb1, hbb, hok1⟩
            have hcq1 := hok1 _ _ hcq (by simp; omega) (by simp)
            have hc1 : w1.cell? ⟨wo.heap.size, 0, none⟩ = some (.int .i64 v) := by rw [Lib.cell_of_heap hcq1]; rfl
            go_wp2
            go_roundw
            case rel =>
              refine ⟨y / 10, bs ++ [(48 + v / y % 10).toNat.toUInt8], by go_num, by omega, by omega, .inr ?_, ⟨?_⟩, hcq1, hbq2.trans hbb⟩
              · rw [← List.append_assoc, byteCells_append, ← byteCell_digit _ hd.1 hd.2]; simpa using hb1
              · rw [← hbs.out, HS.out]; simp
            case measure => simp [intOf]; omega
          · have hyz : y = 0 := by omega
            have hz := Aside0.mk (numB_zero v y (by omega))
            subst hyz
            clear hle
            go_wp2
            go_roundw
            case rel =>
              refine ⟨k + 1, by omega, by go_num, ?_, hbq2⟩
              rw [HT.out, HN.out, ← hbs.out, hz.out, List.append_nil]
              exact hbq
            case measure => simp [intOf]; omega
    · have hkl : k = l.length := by omega
      subst hkl
      rw [List.take_length] at hb
      have hsz : w.heap.size < wr.heap.size := by rcases hb with h | h <;> exact h.lt
      go_wp2_with (go_at_call 60; refine (Tryd.Builder_String_any w.heap.size w.heap.size _ _ hb (by omega)).mono ?_; rintro e w1 ⟨rfl, hbb⟩)
      go_ret
      exact ⟨rfl, hbel.trans hbb⟩

/-! ### date_Show: function 79, by hand -/
def weekB : ByteArray := ⟨#[84, 104, 117, 70, 114, 105, 83, 97, 116, 83, 117, 110, 77, 111, 110, 84, 117, 101, 87, 101, 100]⟩
def monthB : ByteArray := ⟨#[74, 97, 110, 70, 101, 98, 77, 97, 114, 65, 112, 114, 77, 97, 121, 74, 117, 110, 74, 117, 108, 65, 117, 103, 83, 101, 112, 79, 99, 116, 78, 111, 118, 68, 101, 99]⟩
theorem run_slice_str {P : Program} (t : TypeId) (s : ByteArray) (i j : Int) (W : World) (h : P.underlying t = some .string) (h0 : 0 ≤ i) (h1 : i ≤ j) (h2 : j ≤ s.size) :
    (Instr.slice t (.string s) (some (.int .i64 i)) (some (.int .i64 j)) none).run P W = .ok (.string (s.extract i.toNat j.toNat)) W := by
  obtain ⟨a, rfl⟩ := Int.eq_ofNat_of_zero_le h0
  obtain ⟨b, rfl⟩ := Int.eq_ofNat_of_zero_le (show 0 ≤ j by omega)
  have h3 : a ≤ b := by omega
  have h4 : b ≤ s.size := by omega
  simp [Instr.slice, Instr.sliceBounds, Instr.sliceBound, asIntOf, run_underlying h, h3, h4]
theorem cells_of_lit (w : World) (cs : Array Value) (T : TypeId) (j : Nat) : (w.alloc (.cells cs T)).cell? ((⟨w.heap.size, 0, none⟩ : Addr).add j) = cs[j]? := by
  rw [add_plain]
  exact Lib.cell_of_heap (heap_alloc_new w _) j
def showParts (t y m d r : Int) : List PPart :=
  [.s (weekB.extract (t / 86400 % 7 * 3).toNat (t / 86400 % 7 * 3 + 3).toNat), .s ⟨#[44, 32]⟩, .n d 2, .s ⟨#[32]⟩, .s (monthB.extract (3 * m - 3).toNat (3 * m - 3 + 3).toNat), .s ⟨#[32]⟩, .n y 4, .s ⟨#[32]⟩,
   .n (r / 3600) 2, .s ⟨#[58]⟩, .n (r / 60 % 60) 2, .s ⟨#[58]⟩, .n (r % 60) 2, .s ⟨#[32, 71, 77, 84]⟩]
def ShowOk (t y m d r : Int) : Prop := (0 ≤ t ∧ t ≤ 253402300799) ∧ (0 ≤ y ∧ y ≤ 9999) ∧ (1 ≤ m ∧ m ≤ 12) ∧ (0 ≤ d ∧ d ≤ 99) ∧ 0 ≤ r ∧ r ≤ 86399
instance (t y m d r : Int) : Decidable (ShowOk t y m d r) := by unfold ShowOk; infer_instance
def date_Show.f (k : Nat) (a0 : Int) : Option (ByteArray × Int) :=
  (date_Split.f k a0).bind fun b => if b.2.2.2.2 = 0 then (if ShowOk a0 b.1 b.2.1 b.2.2.1 b.2.2.2.1 then some (⟨(partsB (showParts a0 b.1 b.2.1 b.2.2.1 b.2.2.2.1)).toArray⟩, 0) else none) else some (⟨#[]⟩, b.2.2.2.2)
theorem date_Show.mono : ∀ a0 k, LeO (date_Show.f k a0) (date_Show.f (k + 1) a0) := by
  intro a0 k
  unfold date_Show.f
  exact LeO.bind (date_Split.mono _ _) (fun _ => LeO.refl _)
theorem showParts_ok {t y m d r : Int} (h : ShowOk t y m d r) : ∀ p ∈ showParts t y m d r, p.ok := by
  obtain ⟨ht, hy, hm, hd, hr⟩ := h
  intro p hp
  simp only [showParts, List.mem_cons, List.not_mem_nil, or_false] at hp
  rcases hp with rfl | rfl | rfl | rfl | rfl | rfl | rfl | rfl | rfl | rfl | rfl | rfl | rfl | rfl <;> first | trivial | exact ⟨by omega, by omega, by simp⟩
theorem numB_len2 (v : Int) : (numB v 10).length ≤ 2 := by
  rw [numB_step _ _ (by omega), numB_step _ _ (by omega), numB_zero _ _ (by omega)]; simp
theorem numB_len4 (v : Int) : (numB v 1000).length ≤ 4 := by
  rw [numB_step _ _ (by omega), numB_step _ _ (by omega), numB_step _ _ (by omega), numB_step _ _ (by omega), numB_zero _ _ (by omega)]; simp
theorem part_len {p : PPart} (h : ∀ t, p = .s t → t.size ≤ 40) : p.bytes.length ≤ 40 := by
  cases p with
  | s t => have := h t rfl; simpa [PPart.bytes] using this
  | n v k =>
    simp only [PPart.bytes]
    split
    · have := numB_len2 v; omega
    · have := numB_len4 v; omega
theorem showParts_len (t y m d r : Int) : (partsB (showParts t y m d r)).length ≤ 560 := by
  have e : ∀ (a : ByteArray) (i j : Nat), a.size ≤ 36 → (a.extract i j).size ≤ 40 := by
    intro a i j h
    rw [ByteArray.size_extract]
    omega
  have key : ∀ l : List PPart, (∀ p ∈ l, p.bytes.length ≤ 40) → (partsB l).length ≤ l.length * 40 := by
    intro l
    induction l with
    | nil => intro _; simp [partsB]
    | cons a l ih =>
      intro h
      have h1 := h a (by simp)
      have h2 := ih (fun p hp => h p (by simp [hp]))
      simp only [partsB, List.map_cons, List.flatten_cons, List.length_append, List.length_cons] at *
      omega
  refine Nat.le_trans (key _ ?_) (by simp [showParts])
  intro p hp
  refine part_len ?_
  rintro s rfl
  simp only [showParts, List.mem_cons, List.not_mem_nil, or_false, PPart.s.injEq, reduceCtorEq, false_or] at hp
  rcases hp with rfl | rfl | rfl | rfl | rfl | rfl | rfl | rfl | rfl
  · exact e _ _ _ (by decide)
  · decide
  · decide
  · exact e _ _ _ (by decide)
  all_goals decide
set_option maxHeartbeats 2000000 in
set_option maxRecDepth 100000 in
theorem date_Show.calls (k : Nat) (a0 : Int) (r1 : ByteArray) (r2 : Int) (w : World) (h : date_Show.f k a0 = some (r1, r2)) :
    Calls Tryd.prog 79 #[.int .i64 a0] w fun e w' => e = .returned (.tuple #[.string r1, .int .i64 r2]) ∧ Below w.heap.size w w' := by
  unfold date_Show.f at h
  cases hs : date_Split.f k a0 with
  | none => rw [hs] at h; simp at h
  | some b =>
    obtain ⟨y, m, d, r, e5⟩ := b
    rw [hs] at h
    simp only [Option.bind_some] at h
    have HS := Aside0.mk hs
    clear hs
    by_cases he : e5 = 0
    · rw [if_pos he] at h
      by_cases hok : ShowOk a0 y m d r
      · rw [if_pos hok] at h
        simp only [Option.some.injEq, Prod.mk.injEq] at h
        obtain ⟨rfl, rfl⟩ := h
        have hpo := Aside0.mk (showParts_ok hok)
        have hln := showParts_len a0 y m d r
        have hok' := hok
        obtain ⟨⟨ht0, ht1⟩, ⟨hy0, hy1⟩, ⟨hm0, hm1⟩, ⟨hd0, hd1⟩, hr0, hr1⟩ := hok'
        subst he
        clear hok
        go_enter Tryd.func79, Tryd.ntmps79
        go_wp2_with (go_at_call 97; refine (date_Split.calls k a0 y m d r 0 w HS.out).mono ?_; rintro e w' ⟨rfl, ⟨nd, rfl⟩⟩)
        have hx0 : 0 ≤ a0 / 86400 % 7 := by omega
        have hx1 : a0 / 86400 % 7 ≤ 6 := by omega
        have hwk0 : 0 ≤ a0 / 86400 % 7 * 3 := by omega
        have hwk1 : a0 / 86400 % 7 * 3 ≤ 18 := by omega
        have hmo0 : 0 ≤ 3 * m - 3 := by omega
        have hmo1 : 3 * m - 3 ≤ 33 := by omega
        have hgoal : ∀ wk mo : Int, wk = a0 / 86400 % 7 * 3 → mo = 3 * m - 3 → showParts a0 y m d r = [.s (weekB.extract wk.toNat (wk + 3).toNat), .s ⟨#[44, 32]⟩, .n d 2, .s ⟨#[32]⟩, .s (monthB.extract mo.toNat (mo + 3).toNat), .s ⟨#[32]⟩, .n y 4, .s ⟨#[32]⟩, .n (r / 3600) 2, .s ⟨#[58]⟩, .n (r / 60 % 60) 2, .s ⟨#[58]⟩, .n (r % 60) 2, .s ⟨#[32, 71, 77, 84]⟩] := by
          rintro wk mo rfl rfl; rfl
        have HG := Aside0.mk (hgoal _ _ rfl rfl)
        clear hgoal
        generalize a0 / 86400 % 7 * 3 = wk at *
        generalize 3 * m - 3 = mo at *
        have e1 : IntKind.i64.wrap (wk + 3) = wk + 3 := IntWalk.i64_in _ (by omega)
        have e2 : IntKind.i64.wrap (mo + 3) = mo + 3 := IntWalk.i64_in _ (by omega)
        have s1 : ∀ W, (Instr.slice 9 (.string ⟨#[84, 104, 117, 70, 114, 105, 83, 97, 116, 83, 117, 110, 77, 111, 110, 84, 117, 101, 87, 101, 100]⟩) (some (.int .i64 wk)) (some (.int .i64 (wk + 3))) none).run Tryd.prog W = .ok (.string (weekB.extract wk.toNat (wk + 3).toNat)) W := fun W => run_slice_str 9 _ wk (wk + 3) W Tryd.underlying9 hwk0 (by omega) (by simp [ByteArray.size]; omega)
        have s2 : ∀ W, (Instr.slice 9 (.string ⟨#[74, 97, 110, 70, 101, 98, 77, 97, 114, 65, 112, 114, 77, 97, 121, 74, 117, 110, 74, 117, 108, 65, 117, 103, 83, 101, 112, 79, 99, 116, 78, 111, 118, 68, 101, 99]⟩) (some (.int .i64 mo)) (some (.int .i64 (mo + 3))) none).run Tryd.prog W = .ok (.string (monthB.extract mo.toNat (mo + 3).toNat)) W := fun W => run_slice_str 9 _ mo (mo + 3) W Tryd.underlying9 hmo0 (by omega) (by simp [ByteArray.size]; omega)
        refine wp_region_still_tail 36 (by kernel_rfl) (by kernel_rfl) ?_
        simp only [List.take_succ_cons, List.take_zero, List.drop_succ_cons, List.drop_zero]
        repeat still_step
        refine wpStill_nil ?_
        obtain ⟨w2, hw2, hb2⟩ : ∃ w2 : World, (w.drewN nd).drew = w2 ∧ Below w.heap.size w w2 := ⟨_, rfl, below_drew (pw_below_drewN (Below.refl _ _) nd)⟩
        change wpList _ _ _ _ _ (w.drewN nd).drew
        rw [hw2]
        clear hw2 s1 s2 e1 e2
        rw [HG.out] at hln
        have hpo' := hpo.out
        rw [HG.out] at hpo'
        have C := put_calls _ (some ⟨w2.heap.size, 0, none⟩) 14 (w2.alloc (.cells #[.iface 9 (.string (weekB.extract wk.toNat (wk + 3).toNat)), .iface 9 (.string ⟨#[44, 32]⟩), .iface 112 (.agg #[.int .i64 d, .int .i64 2]), .iface 9 (.string ⟨#[32]⟩), .iface 9 (.string (monthB.extract mo.toNat (mo + 3).toNat)), .iface 9 (.string ⟨#[32]⟩), .iface 112 (.agg #[.int .i64 y, .int .i64 4]), .iface 9 (.string ⟨#[32]⟩), .iface 112 (.agg #[.int .i64 (r / 3600), .int .i64 2]), .iface 9 (.string ⟨#[58]⟩), .iface 112 (.agg #[.int .i64 (r / 60 % 60), .int .i64 2]), .iface 9 (.string ⟨#[58]⟩), .iface 112 (.agg #[.int .i64 (r % 60), .int .i64 2]), .iface 9 (.string ⟨#[32, 71, 77, 84]⟩)] 20)) (by simp) hpo' (by omega) (by
          intro j hj
          refine ⟨_, rfl, ?_⟩
          simp only [List.length_cons, List.length_nil] at hj
          rw [cells_of_lit]
          rcases j with _ | _ | _ | _ | _ | _ | _ | _ | _ | _ | _ | _ | _ | _ | j
          any_goals rfl
          omega)
        change Calls Tryd.prog 98 #[.slice (some ⟨w2.heap.size, 0, none⟩) 14 14] _ _ at C
        have HC := Aside0.mk C
        rw [← HG.out] at HC
        clear C hpo' hpo hln
        go_wp2_with (go_at_call 98; refine HC.out.mono ?_; rintro e w3 ⟨rfl, hb3⟩)
        go_ret2
        refine ⟨rfl, (hb2.alloc hb2.size _).trans (hb3.mono ?_)⟩
        have := hb2.size
        simp
        omega
      · rw [if_neg hok] at h
        cases h
    · rw [if_neg he] at h
      simp only [Option.some.injEq, Prod.mk.injEq] at h
      obtain ⟨rfl, rfl⟩ := h
      have hb : (e5 != 0) = true := bne_iff_ne.mpr he
      clear he
      go_enter Tryd.func79, Tryd.ntmps79
      go_wp2_with (go_at_call 97; refine (date_Split.calls k a0 y m d r e5 w HS.out).mono ?_; rintro e w' ⟨rfl, ⟨nd, rfl⟩⟩)
      go_ret2
      exact ⟨rfl, pw_below_drewN (Below.refl _ _) nd⟩

end Go.Proofs.YtcechlbeghcliaaDoor.PAll
