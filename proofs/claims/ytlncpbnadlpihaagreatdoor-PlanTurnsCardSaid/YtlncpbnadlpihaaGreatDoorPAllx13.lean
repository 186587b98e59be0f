import Derived.Test.YtlncpbnadlpihaaGreatDoorPAllx0
import Derived.Test.YtlncpbnadlpihaaGreatDoorPAllx8
namespace Go.Proofs.YtlncpbnadlpihaaGreatDoor.PAll
open Go.RowKit Go.Proofs.YtlncpbnadlpihaaGreatDoorW.PrintWords Go.Proofs.YtlncpbnadlpihaaGreatDoorW.PrintLast Go.Proofs.YtlncpbnadlpihaaGreatDoorW.PrintMore
attribute [local go_sem] max2_int min2_int max_two min_two max_three min_three max_four min_four   -- for this text's walks alone
set_option linter.unusedVariables false
set_option linter.unusedSimpArgs false

/-! ### conf_words_1: function 57, by hand -/
-- over 62
/-- A word's cells. -/
abbrev kW : Kd WD := Kd.pair Kd.string (Kd.int .i64)
theorem kW_mk (w : World) (base : Nat) (ok : Nat → Prop) (p : WD) : Kd.M kW w base ok p [.string p.1, .int .i64 p.2] := ⟨[.string p.1], [.int .i64 p.2], rfl, rfl, rfl⟩
theorem infoWord_ : (Tryz.prog.info? 113).map (fun i => (i.zero, i.size, i.bytes)) = some (some (.agg #[.string ⟨#[]⟩, .int .i64 0]), 2, 24) := by kernel_rfl
/-- What words and its closure stand on: four boxes (the text, the words so far, the line, where a word began). -/
structure WI (W w : World) (text : ByteArray) (out : List WD) (line fr : Int) (v : Value) : Prop where
 t1 : w.heap[W.heap.size]? = some (.cells #[.string text] 9 (0, 0))
 t3 : w.heap[W.heap.size + 1]? = some (.cells #[v] 92 (0, 0))
 t4 : w.heap[W.heap.size + 2]? = some (.cells #[.int .i64 line] 3 (0, 0))
 t5 : w.heap[W.heap.size + 3]? = some (.cells #[.int .i64 fr] 3 (0, 0))
 row : Kd.R kW 113 w (W.heap.size + 4) (fun k => W.heap.size + 4 ≤ k) v out
 bel : Below W.heap.size W w
theorem blk_low {w w1 : World} {base g : Nat} {o : Obj} (h : w.heap[g]? = some o) (hb : Below base w w1) (hg : g < base) : w1.heap[g]? = some o := (hb.block g hg).trans h
theorem blk_ne {w : World} {g b i : Nat} {u : Value} {o : Obj} (h : w.heap[g]? = some o) (hne : g ≠ b) : (w.setCell ⟨b, i, none⟩ u).heap[g]? = some o := (Below.heap_setCell w ⟨b, i, none⟩ u g hne).trans h
theorem below_lower {w w1 : World} {b b' : Nat} (h : Below b w w1) (hb : b' ≤ b) : Below b' w w1 := ⟨h.1, h.2, h.3, h.4, fun k hk => h.5 k (Nat.lt_of_lt_of_le hk hb)⟩
/-- The append has run: its value is stored. -/
theorem WI.put {W w w1 : World} {text : ByteArray} {out : List WD} {line fr : Int} {v v1 : Value} (h : WI W w text out line fr v) {ys : List WD} (hr : Kd.R kW 113 w1 (W.heap.size + 4) (fun k => W.heap.size + 4 ≤ k) v1 ys) (hb : Below (W.heap.size + 4) w w1) :
  WI W (w1.setCell ⟨W.heap.size + 1, 0, none⟩ v1) text ys line fr v1 :=
 ⟨blk_ne (blk_low h.t1 hb (by omega)) (by omega), blk_put (blk_low h.t3 hb (by omega)) 0 _ rfl, blk_ne (blk_low h.t4 hb (by omega)) (by omega), blk_ne (blk_low h.t5 hb (by omega)) (by omega), Kd.R_far hr (fun k hk => by simp only; omega) _, (h.bel.trans (below_lower hb (by omega))).setCell (by simp) _⟩
theorem WI.line_ {W w : World} {text : ByteArray} {out : List WD} {line fr : Int} {v : Value} (h : WI W w text out line fr v) (n : Int) : WI W (w.setCell ⟨W.heap.size + 2, 0, none⟩ (.int .i64 n)) text out n fr v :=
 ⟨blk_ne h.t1 (by omega), blk_ne h.t3 (by omega), blk_put h.t4 0 _ rfl, blk_ne h.t5 (by omega), Kd.R_far h.row (fun k hk => by simp only; omega) _, h.bel.setCell (by simp) _⟩
theorem WI.from_ {W w : World} {text : ByteArray} {out : List WD} {line fr : Int} {v : Value} (h : WI W w text out line fr v) (n : Int) : WI W (w.setCell ⟨W.heap.size + 3, 0, none⟩ (.int .i64 n)) text out line n v :=
 ⟨blk_ne h.t1 (by omega), blk_ne h.t3 (by omega), blk_ne h.t4 (by omega), blk_put h.t5 0 _ rfl, Kd.R_far h.row (fun k hk => by simp only; omega) _, h.bel.setCell (by simp) _⟩
theorem WI.drew_ {W w : World} {text : ByteArray} {out : List WD} {line fr : Int} {v : Value} (h : WI W w text out line fr v) : WI W w.drew text out line fr v := ⟨h.t1, h.t3, h.t4, h.t5, h.row, below_drew h.bel⟩
def cutW (text : ByteArray) (a b : Int) : ByteArray := text.extract a.toNat b.toNat
def endW (text : ByteArray) (out : List WD) (line fr i : Int) : List WD := if fr ≥ 0 then out ++ [(cutW text fr i, line)] else out

set_option maxHeartbeats 4000000 in
set_option maxRecDepth 100000 in
theorem words_end (W w : World) (text : ByteArray) (out : List WD) (line fr i : Int) (v : Value) (h : WI W w text out line fr v) (hlen : out.length ≤ 100000) (h0 : 0 ≤ i) (hf : fr ≤ i) (hi : i ≤ (text.size : Int)) :
  Calls Tryz.prog 57 (#[.int .i64 i] ++ #[.pointer (some ⟨W.heap.size + 3, 0, none⟩), .pointer (some ⟨W.heap.size + 1, 0, none⟩), .pointer (some ⟨W.heap.size, 0, none⟩), .pointer (some ⟨W.heap.size + 2, 0, none⟩)]) w fun e w' => e = .returned (.tuple #[]) ∧ ∃ v', WI W w' text (endW text out line fr i) line (-1) v' := by
 have HI := Aside0.mk h
 have HLEN := Aside0.mk hlen
 have B1 := Aside0.mk (bD_ h.t1)
 have B3 := Aside0.mk (bD_ h.t3)
 have B4 := Aside0.mk (bD_ h.t4)
 have B5 := Aside0.mk (bD_ h.t5)
 have c1 := (blk_cell h.t1 0).trans rfl
 have c3 := (blk_cell h.t3 0).trans rfl
 have c4 := (blk_cell h.t4 0).trans rfl
 have c5 := (blk_cell h.t5 0).trans rfl
 have g5 := blk_frozen h.t5 0
 have HSZ : Aside0 (W.heap.size + 4 ≤ w.drew.heap.size) := ⟨by have := blk_lt h.t5; show W.heap.size + 4 ≤ w.heap.size; omega⟩
 have HROW : Aside0 (Kd.R kW 113 w.drew (W.heap.size + 4) (fun k => W.heap.size + 4 ≤ k) v out) := ⟨h.row⟩
 clear h hlen
 show Calls Tryz.prog 57 #[.int .i64 i, .pointer (some ⟨W.heap.size + 3, 0, none⟩), .pointer (some ⟨W.heap.size + 1, 0, none⟩), .pointer (some ⟨W.heap.size, 0, none⟩), .pointer (some ⟨W.heap.size + 2, 0, none⟩)] w _
 by_cases hc : fr ≥ 0
 ·
  have HE := Aside0.mk (show endW text out line fr i = out ++ [(cutW text fr i, line)] from if_pos hc)
  obtain ⟨ys, hys⟩ : ∃ ys, ys = out ++ [(cutW text fr i, line)] := ⟨_, rfl⟩
  rw [← hys] at HE
  have HYS := Aside0.mk hys
  clear hys
  have q1 : decide (fr ≥ 0) = true := decide_eq_true hc
  have q2 : decide (0 ≤ fr) = true := decide_eq_true hc
  have q3 : (0 ≤ fr) = True := eq_true hc
  have q4 : (fr ≤ i) = True := eq_true hf
  have q5 : (i ≤ (text.size : Int)) = True := eq_true hi
  have q6 : (0 ≤ i) = True := eq_true h0
  clear hc hf hi h0
  go_enter Tryz.func57, Tryz.ntmps57
  go_upto_region 1 with fail
  refine start_ (n := 10) (S := fun w' => w'.cell? ⟨W.heap.size + 1, 0, none⟩ = some v ∧ w'.cell? ⟨W.heap.size, 0, none⟩ = some (.string text) ∧ w'.cell? ⟨W.heap.size + 3, 0, none⟩ = some (.int .i64 fr) ∧ w'.cell? ⟨W.heap.size + 2, 0, none⟩ = some (.int .i64 line)) (ds := [9]) #[false, false, false, false, false, false, false, false, false, false] (by kernel_rfl) rfl rfl ⟨c3, c1, c5, c4⟩ (fun hHeld => ?_)
  refine pure_ (i := 3) (N := some 11) (v := ?_) (a' := ?_) #[false, false, false, true, false, false, false, false, false, false] rfl rfl (by kernel_rfl) (fun _ _ _ h => h) (Or.inl ⟨by rfl, ?_⟩) ?_ ?_
  rotate_left
  ·
   intro w'
   go_simp
   with_reducible rfl
  rotate_left
  ·
   simp only [Act.put, sA_, sZ_, sS_, i64_w, i32_w]
   rfl
  refine take_ (i := 0) (N := some 8) (v := ?_) (a' := ?_) #[true, false, false, true, false, false, false, false, false, false] rfl rfl (by kernel_rfl) (fun _ _ _ h => h) (Or.inl ⟨by rfl, ?_⟩) hHeld ?_ ?_
  rotate_left
  ·
   rintro w' ⟨s0, s1, s2, s3⟩
   go_simp
   with_reducible rfl
  rotate_left
  ·
   simp only [Act.put, sA_, sZ_, sS_, i64_w, i32_w]
   rfl
  refine take_ (i := 1) (N := some 9) (v := ?_) (a' := ?_) #[true, true, false, true, false, false, false, false, false, false] rfl rfl (by kernel_rfl) (fun _ _ _ h => h) (Or.inl ⟨by rfl, ?_⟩) hHeld ?_ ?_
  rotate_left
  ·
   rintro w' ⟨s0, s1, s2, s3⟩
   go_simp
   with_reducible rfl
  rotate_left
  ·
   simp only [Act.put, sA_, sZ_, sS_, i64_w, i32_w]
   rfl
  refine take_ (i := 2) (N := some 10) (v := ?_) (a' := ?_) #[true, true, true, true, false, false, false, false, false, false] rfl rfl (by kernel_rfl) (fun _ _ _ h => h) (Or.inl ⟨by rfl, ?_⟩) hHeld ?_ ?_
  rotate_left
  ·
   rintro w' ⟨s0, s1, s2, s3⟩
   go_simp
   with_reducible rfl
  rotate_left
  ·
   simp only [Act.put, sA_, sZ_, sS_, i64_w, i32_w]
   rfl
  refine pure_ (i := 4) (N := some 12) (v := ?_) (a' := ?_) #[true, true, true, true, true, false, false, false, false, false] rfl rfl (by kernel_rfl) (fun _ _ _ h => h) (Or.inl ⟨by rfl, ?_⟩) ?_ ?_
  rotate_left
  ·
   intro w'
   go_simp
   with_reducible rfl
  rotate_left
  ·
   simp only [Act.put, sA_, sZ_, sS_, i64_w, i32_w]
   rfl
  refine take_ (i := 5) (N := some 13) (v := ?_) (a' := ?_) #[true, true, true, true, true, true, false, false, false, false] rfl rfl (by kernel_rfl) (fun _ _ _ h => h) (Or.inl ⟨by rfl, ?_⟩) hHeld ?_ ?_
  rotate_left
  ·
   rintro w' ⟨s0, s1, s2, s3⟩
   go_simp
   with_reducible rfl
  rotate_left
  ·
   simp only [Act.put, sA_, sZ_, sS_, i64_w, i32_w]
   rfl
  refine pure_ (i := 6) (N := some 14) (v := ?_) (a' := ?_) #[true, true, true, true, true, true, true, false, false, false] rfl rfl (by kernel_rfl) (fun _ _ _ h => h) (Or.inl ⟨by rfl, ?_⟩) ?_ ?_
  rotate_left
  ·
   intro w'
   go_simp
   with_reducible rfl
  rotate_left
  ·
   simp only [Act.put, sA_, sZ_, sS_, i64_w, i32_w]
   rfl
  refine one_ (i := 7) (N := some 15) #[true, true, true, true, true, true, true, true, false, false] rfl rfl (by kernel_rfl) (by decide) (fun K hK => ?_)
  refine value_ (w1 := ?_) (v := ?_) (by rfl) rfl ?_ ?_
  rotate_left 2
  ·
   go_simp
   constructor
   ·
    rfl
   ·
    rfl
  refine hK.out _ _ ⟨((Lib.cell_of_heap (bA_ B3.out _) 0).trans rfl), ((Lib.cell_of_heap (bA_ B1.out _) 0).trans rfl), ((Lib.cell_of_heap (bA_ B5.out _) 0).trans rfl), ((Lib.cell_of_heap (bA_ B4.out _) 0).trans rfl)⟩ (fun hHeld => ?_)
  clear hK K
  refine norm_ (a' := ?_) ?_ ?_
  rotate_left
  ·
   show Act.put _ (some 15) _ = _
   simp only [Act.put, sA_, sZ_, sS_, i64_w, i32_w]
   rfl
  refine one_ (i := 8) (N := some 16) #[true, true, true, true, true, true, true, true, true, false] rfl rfl (by kernel_rfl) (by decide) (fun K hK => ?_)
  refine Kd.R_append_step kW (w0 := w.drew) (W.heap.size + 4) (by rfl) (.tmp 8) (.tmp 15) 92 113 (.agg #[.string ⟨#[]⟩, .int .i64 0]) 24 rfl Tryz.underlying92 infoWord_ rfl (by decide) (by omega) v out (cutW text fr i, line) [.string (cutW text fr i), .int .i64 line] (fun k => W.heap.size + 4 ≤ k) (fun _ => False) (by rfl) (by rfl) (kW_mk _ _ _ _) (fun _ hk => hk.elim) (fun k hk => Nat.le_trans HSZ.out hk) HROW.out (Below.refl _ _) HSZ.out (by have h_ := HLEN.out; omega) ?_
  intro v1 w1 r1 hb1 _ _
  rw [← HYS.out] at r1
  obtain ⟨A1, cap1, rfl⟩ := Kd.R_slice r1
  have HR1 := Aside0.mk r1
  have HB1 := Aside0.mk hb1
  clear r1 hb1
  refine hK.out _ _ ⟨((Lib.cell_of_heap (blk_low B3.out HB1.out (by omega)) 0).trans rfl), ((Lib.cell_of_heap (blk_low B1.out HB1.out (by omega)) 0).trans rfl), ((Lib.cell_of_heap (blk_low B5.out HB1.out (by omega)) 0).trans rfl), ((Lib.cell_of_heap (blk_low B4.out HB1.out (by omega)) 0).trans rfl)⟩ (fun hHeld => ?_)
  clear hK K
  refine norm_ (a' := ?_) ?_ ?_
  rotate_left
  ·
   show Act.put _ (some 16) _ = _
   simp only [Act.put, sA_, sZ_, sS_, i64_w, i32_w]
   rfl
  refine last_ (i := 9) (N := none) #[true, true, true, true, true, true, true, true, true, true] rfl rfl (by kernel_rfl) (by decide) (fun K hK => ?_)
  have f3 := blk_frozen (blk_low B3.out HB1.out (by omega)) 0
  have i3 := (blk_cell (blk_low B3.out HB1.out (by omega)) 0).trans rfl
  refine skip_ (w1 := ?_) (by rfl) rfl ?_ ?_
  rotate_left
  ·
   go_simp
   rfl
  refine hK.out _ _ ?_
  clear hK K
  refine done_ (by kernel_rfl) ?_
  have K1 := (HI.out.drew_.put HR1.out HB1.out).from_ (-1)
  have HK := Aside0.mk K1
  have g6 := blk_frozen (HI.out.drew_.put HR1.out HB1.out).t5 0
  have i6 := (blk_cell (HI.out.drew_.put HR1.out HB1.out).t5 0).trans rfl
  clear K1
  go_wp2
  go_end0
  exact ⟨rfl, _, by rw [HE.out]; exact HK.out⟩
 ·
  have HE := Aside0.mk (show endW text out line fr i = out from if_neg hc)
  have q1 : decide (fr ≥ 0) = false := decide_eq_false hc
  have q2 : decide (0 ≤ fr) = false := decide_eq_false hc
  have q3 : (0 ≤ fr) = False := eq_false hc
  clear hc hf hi h0
  go_enter Tryz.func57, Tryz.ntmps57
  go_wp2
  go_end0
  exact ⟨rfl, _, by rw [HE.out]; exact HI.out.from_ (-1)⟩


end Go.Proofs.YtlncpbnadlpihaaGreatDoor.PAll
