-- Text by a program of this session, over what print.py prints.
import Derived.Test.YtagjgnmchgabgaaDoorPAllx0
import Derived.Test.YtagjgnmchgabgaaDoorPAllx1
namespace Go.Proofs.YtagjgnmchgabgaaDoor.PAll
open Go.RowKit Go.Proofs.YtagjgnmchgabgaaDoorW.PrintWords Go.Proofs.YtagjgnmchgabgaaDoorW.PrintLast Go.Proofs.YtagjgnmchgabgaaDoorW.PrintMore
attribute [local go_sem] max2_int min2_int max_two min_two max_three min_three max_four min_four   -- for this text's walks alone
set_option linter.unusedVariables false
set_option linter.unusedSimpArgs false

/-! ### key_Second: function 14, by hand -/
-- over 22 23 20 21
def second_go (k : Nat) (l : List S41) : List ByteArray → Option (List UInt8)
  | [] => some []
  | n :: r => (field_List_Get.f k l n).bind fun p => (second_go k l r).bind fun t => if p.2 = true then (if p.1.size ≤ 1000000000 then some (61 :: markB p.1.data.toList ++ t) else none) else some (45 :: t)
def key_Second.f (k : Nat) (l0 : List S41) (l1 : List ByteArray) : Option ByteArray := if l1.length ≤ 1000 then (second_go k l0 l1).bind fun t => some ⟨t.toArray⟩ else none
theorem second_go_mono (k : Nat) (l : List S41) : ∀ ns, LeO (second_go k l ns) (second_go (k + 1) l ns)
  | [] => LeO.refl _
  | n :: r => LeO.bind (field_List_Get.mono _ _ _) fun _ => LeO.bind (second_go_mono k l r) fun _ => LeO.refl _
theorem key_Second.mono : ∀ a0 a1 k, LeO (key_Second.f k a0 a1) (key_Second.f (k + 1) a0 a1) := by
  intro a0 a1 k
  unfold key_Second.f
  exact LeO.ite (LeO.bind (second_go_mono k a0 a1) fun _ => LeO.refl _) (LeO.refl _)
theorem second_step (k : Nat) (l : List S41) (n : ByteArray) (r : List ByteArray) (t : List UInt8) (h : second_go k l (n :: r) = some t) :
    ∃ s ok t', field_List_Get.f k l n = some (s, ok) ∧ second_go k l r = some t' ∧ (ok = true ∧ s.size ≤ 1000000000 ∧ t = 61 :: markB s.data.toList ++ t' ∨ ok = false ∧ t = 45 :: t') := by
  rw [second_go] at h
  obtain ⟨⟨s, ok⟩, h1, h⟩ := Option.bind_eq_some_iff.1 h
  obtain ⟨t', h2, h⟩ := Option.bind_eq_some_iff.1 h
  refine ⟨s, ok, t', h1, h2, ?_⟩
  cases ok with
  | true =>
    rw [if_pos rfl] at h
    split at h
    · exact .inl ⟨rfl, by assumption, (Option.some.inj h).symm⟩
    · cases h
  | false => rw [if_neg (by simp)] at h; exact .inr ⟨rfl, (Option.some.inj h).symm⟩
theorem second_len (k : Nat) (l : List S41) : ∀ ns t, second_go k l ns = some t → t.length ≤ ns.length * 2000000003
  | [], t, h => by obtain rfl := Option.some.inj h; simp
  | n :: r, t, h => by
    obtain ⟨s, ok, t', _, h2, h3⟩ := second_step k l n r t h
    have ih := second_len k l r t' h2
    rcases h3 with ⟨_, hs, rfl⟩ | ⟨_, rfl⟩
    · have := markB_le s.data.toList
      have h4 : s.data.toList.length = s.size := by simp
      simp only [List.length_cons, List.length_append] at *
      omega
    · simp only [List.length_cons] at *
      omega
theorem strRow_one (w : World) (s : ByteArray) (T : TypeId) : Kd.C Kd.string (w.alloc (.cells #[.string s] T)) (some ⟨w.heap.size, 0, none⟩) 1 [s] := by
  refine ⟨rfl, by omega, fun _ => ⟨_, rfl, fun j p hj => ⟨_, rfl, rfl, fun i u hu => ?_⟩⟩⟩
  rcases j with _ | j
  · obtain rfl : s = p := by simpa using hj
    rcases i with _ | i
    · obtain rfl : Value.string s = u := by simpa using hu
      simp [Addr.add]
    · simp at hu
  · simp at hj
theorem fresh_le_ {T e : TypeId} {B b : Nat} {bs : List Value} {w : World} (h : Lib.IsBuilder T e B b bs w) : b < w.heap.size := by rcases h with h | h <;> exact h.lt
set_option maxHeartbeats 2000000 in
set_option maxRecDepth 100000 in
theorem key_Second.calls (k : Nat) (A0 : Option Addr) (c0 : Nat) (l0 : List S41) (A1 : Option Addr) (c1 : Nat) (l1 : List ByteArray) (r : ByteArray) (w : World) (hr0 : Kd.C k41 w A0 l0.length l0) (hc0 : l0.length ≤ c0) (hr1 : Kd.C Kd.string w A1 l1.length l1) (hc1 : l1.length ≤ c1) (hrW : WF w) (h : key_Second.f k l0 l1 = some r) :
    Calls Tryd.prog 14 #[.slice A0 l0.length c0, .slice A1 l1.length c1] w fun e w' => e = .returned (.string r) ∧ Below w.heap.size w w' := by
  unfold key_Second.f at h
  by_cases hl : l1.length ≤ 1000
  case neg => rw [if_neg hl] at h; cases h
  rw [if_pos hl] at h
  obtain ⟨T, hT, h2⟩ := Option.bind_eq_some_iff.1 h
  obtain rfl := Option.some.inj h2
  clear h h2
  have hTl := second_len k l0 l1 T hT
  have hTb : T.length ≤ 3000000000000 := by
    have : l1.length * 2000000003 ≤ 1000 * 2000000003 := Nat.mul_le_mul_right _ hl
    omega
  have HTB := Aside0.mk hTb
  have HT := Aside0.mk hT
  have HL := Aside0.mk hr0
  have HR := Aside0.mk hr1
  have HC0 := Aside0.mk hc0
  have HW := Aside0.mk hrW
  clear hr0 hr1 hrW hT hTl hTb hc0
  have hfr := Lib.fresh_isBuilder 58 5 w
  go_enter Tryd.func14, Tryd.ntmps14
  go_wp2
  go_loopw [12] (fun i wr => ∃ (j : Nat) (bs : List UInt8), j ≤ l1.length ∧ i = .int .i64 j ∧ Lib.IsBuilder 58 5 w.heap.size w.heap.size (Lib.byteCells bs) wr ∧ Aside0 (∃ t, second_go k l0 (l1.drop j) = some t ∧ bs ++ t = T) ∧ Aside0 (Below w.heap.size w wr)) (fun i _ => l1.length - (intOf i).toNat)
  case atStart => exact ⟨0, [], Nat.zero_le _, rfl, hfr, ⟨T, by rw [List.drop_zero]; exact HT.out, rfl⟩, ⟨(Below.refl _ _).alloc (Nat.le_refl _) _⟩⟩
  case round =>
    clear HT
    obtain ⟨j, bs, hj, rfl, hb, HG, HB⟩ := hrel
    have hsz : w.heap.size < wr.heap.size := fresh_le_ hb
    by_cases hlt : j < l1.length
    · obtain ⟨ad, cs, rfl, _⟩ := Kd.C_get HR.out ByteArray.empty (j : Int) (by omega) (by omega)
      have hcell0 := Kd.foot_string HR.out (j : Int) (by omega) (by omega)
      have hcell := pw_cell_below (HB.out) hcell0
      have hx : rdOf ByteArray.empty l1 (j : Int) = l1[j] := by simp [rdOf, hlt]
      rw [hx] at hcell
      simp only [Int.toNat_natCast] at hcell
      clear hcell0
      obtain ⟨t, hg, ht⟩ := HG.out
      rw [List.drop_eq_getElem_cons hlt] at hg
      obtain ⟨s, ok, t', hget, hg', hcase⟩ := second_step _ _ _ _ _ hg
      obtain ⟨x, hy⟩ : ∃ y, y = l1[j] := ⟨_, rfl⟩
      rw [← hy] at hcell hget
      have CG := (field_List_Get.calls k A0 c0 l0 x s ok wr (Kd.C_below HL.out HB.out) HC0.out hget)
      have HG' := Aside0.mk hg'
      have hlen : bs.length + t.length ≤ 3000000000000 := by
        have := HTB.out
        rw [← ht, List.length_append] at this
        exact this
      clear hg hget hg' hy hx HG
      have p5 : ((0 : Int) ≤ (j : Int)) = True := eq_true (by omega)
      have q5 : ((j : Int) < (l1.length : Int)) = True := eq_true (by omega)
      rcases hcase with ⟨rfl, hs, rfl⟩ | ⟨rfl, rfl⟩
      · have hmk : key_mark.f [s] = some ⟨(marksB [s]).toArray⟩ := by
          unfold key_mark.f
          exact if_pos ⟨by simp, by simpa using hs⟩
        have hmv : marksB [s] = markB s.data.toList := by simp [marksB]
        obtain ⟨D, hD⟩ : ∃ D : ByteArray, D = ⟨(marksB [s]).toArray⟩ := ⟨_, rfl⟩
        have hDl : D.data.toList = markB s.data.toList := by rw [hD, hmv]
        rw [← hD] at hmk
        have hDz : D.data.toList.length = D.size := by simp
        have HDL := Aside0.mk hDl
        have HMK := Aside0.mk hmk
        have HT := Aside0.mk ht
        have hle : bs.length + (1 + D.size) ≤ 3000000000000 := by
          rw [← hDz, HDL.out]
          simp only [List.length_cons, List.length_append] at hlen
          omega
        have p1 : (9223372036854775807 < 1 + D.size) = False := eq_false (by omega)
        have HLA := Aside0.mk (show (Lib.byteCells bs).length + ((⟨#[61]⟩ : ByteArray) ++ D).size ≤ 140737488355328 by
          rw [Lib.byteCells_length, ByteArray.size_append]
          have : (⟨#[61]⟩ : ByteArray).size = 1 := rfl
          omega)
        clear hmk hDl hD hmv hDz hle hlen ht hs
        go_wp2_with (go_at_call 21; refine CG.mono ?_; rintro e w1 ⟨rfl, hb1⟩)
        have CM := key_mark.calls (some ⟨w1.heap.size, 0, none⟩) 1 [s] D (w1.alloc (.cells #[.string s] 9)) (strRow_one w1 s _) (by simp) (((HW.out.below HB.out).below hb1).below ((Below.refl _ _).alloc (Nat.le_refl _) _)) HMK.out
        refine CM.mono ?_
        rintro e w2 ⟨rfl, hb2⟩
        go_wp2_with fail
        have hba := ((Below.refl w1.heap.size w1).alloc (Nat.le_refl _) (.cells #[.string s] 9))
        have hb12 : Below w1.heap.size w1 w2 := hba.trans (hb2.mono (by simp))
        have hbb := isBuilder_below (isBuilder_below hb hb1) hb12
        have hz1 := hb1.size
        have hz2 := hb12.size
        refine (Builder_WriteString w.heap.size w.heap.size _ _ _ hbb HLA.out (by omega)).mono ?_
        rintro e w3 ⟨rfl, hb3, hbel3, _⟩
        go_wp2
        go_roundw
        case rel => exact ⟨j + 1, bs ++ (61 :: markB s.data.toList), by omega, by go_num, .inr (by rw [byteCells_append, ← HDL.out]; rw [strCells_bytes] at hb3; simpa [ByteArray.toList_data_append] using hb3), ⟨t', HG'.out, by rw [← HT.out]; simp⟩, ⟨((HB.out.trans (hb1.mono (by omega))).trans (hb12.mono (by omega))).trans hbel3⟩⟩
        case measure => simp [intOf]; omega
      · have HT := Aside0.mk ht
        have HLA := Aside0.mk (show (Lib.byteCells bs).length + (⟨#[45]⟩ : ByteArray).size ≤ 140737488355328 by
          rw [Lib.byteCells_length]
          have : (⟨#[45]⟩ : ByteArray).size = 1 := rfl
          omega)
        clear hlen ht
        go_wp2_with (go_at_call 21; refine CG.mono ?_; rintro e w1 ⟨rfl, hb1⟩)
        have hbb := isBuilder_below hb hb1
        have hz1 := hb1.size
        refine (Builder_WriteString w.heap.size w.heap.size _ _ _ hbb HLA.out (by omega)).mono ?_
        rintro e w3 ⟨rfl, hb3, hbel3, _⟩
        go_wp2
        go_roundw
        case rel => exact ⟨j + 1, bs ++ [45], by omega, by go_num, .inr (by rw [byteCells_append]; rw [strCells_bytes] at hb3; simpa using hb3), ⟨t', HG'.out, by rw [← HT.out]; simp⟩, ⟨(HB.out.trans (hb1.mono (by omega))).trans hbel3⟩⟩
        case measure => simp [intOf]; omega
    · have hkl : j = l1.length := by omega
      subst hkl
      obtain ⟨t, hg, ht⟩ := HG.out
      rw [List.drop_length] at hg
      obtain rfl := Option.some.inj hg
      rw [List.append_nil] at ht
      have HE := Aside0.mk ht
      clear hg ht
      have q5 : ((l1.length : Int) < (l1.length : Int)) = False := eq_false (by omega)
      go_wp2_with (go_at_call 23; refine (Tryd.Builder_String_any w.heap.size w.heap.size _ _ hb (by omega)).mono ?_; rintro e w1 ⟨rfl, hbb⟩)
      go_ret
      exact ⟨by rw [HE.out]; rfl, HB.out.trans hbb⟩

end Go.Proofs.YtagjgnmchgabgaaDoor.PAll
