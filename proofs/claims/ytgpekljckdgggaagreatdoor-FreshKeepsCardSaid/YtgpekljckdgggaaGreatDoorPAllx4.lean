import Derived.Test.YtgpekljckdgggaaGreatDoorPAllx0
import Derived.Test.YtgpekljckdgggaaGreatDoorPAllx1
import Derived.Test.YtgpekljckdgggaaGreatDoorPAllx2
import Derived.Test.YtgpekljckdgggaaGreatDoorPAllx3
namespace Go.Proofs.YtgpekljckdgggaaGreatDoor.PAll
open Go.RowKit Go.Proofs.YtgpekljckdgggaaGreatDoorW.PrintWords Go.Proofs.YtgpekljckdgggaaGreatDoorW.PrintLast Go.Proofs.YtgpekljckdgggaaGreatDoorW.PrintMore
attribute [local go_sem] max2_int min2_int max_two min_two max_three min_three max_four min_four   -- for this text's walks alone
set_option linter.unusedVariables false
set_option linter.unusedSimpArgs false

/-! ### control_Of: function 27, by hand -/
-- over 45 46 28 50 49 47 48 
theorem put10 (W : World) (g t : Nat) (x0 x1 x2 x3 x4 x5 x6 x7 x8 x9 y0 y1 y2 y3 y4 y5 y6 y7 y8 y9 : Value) (h : W.heap[g]? = some (.cells #[x0, x1, x2, x3, x4, x5, x6, x7, x8, x9] t (0, 0))) : ((((((((((W.setCell ⟨g, 0, none⟩ y0).setCell ⟨g, 1, none⟩ y1).setCell ⟨g, 2, none⟩ y2).setCell ⟨g, 3, none⟩ y3).setCell ⟨g, 4, none⟩ y4).setCell ⟨g, 5, none⟩ y5).setCell ⟨g, 6, none⟩ y6).setCell ⟨g, 7, none⟩ y7).setCell ⟨g, 8, none⟩ y8).setCell ⟨g, 9, none⟩ y9).heap[g]? = some (.cells #[y0, y1, y2, y3, y4, y5, y6, y7, y8, y9] t (0, 0)) := by
 have h1 := blk_put (cs := #[x0, x1, x2, x3, x4, x5, x6, x7, x8, x9]) h 0 y0 (rfl : (#[x0, x1, x2, x3, x4, x5, x6, x7, x8, x9] : Array Value).setIfInBounds 0 y0 = #[y0, x1, x2, x3, x4, x5, x6, x7, x8, x9])
 have h2 := blk_put (cs := #[y0, x1, x2, x3, x4, x5, x6, x7, x8, x9]) h1 1 y1 (rfl : (#[y0, x1, x2, x3, x4, x5, x6, x7, x8, x9] : Array Value).setIfInBounds 1 y1 = #[y0, y1, x2, x3, x4, x5, x6, x7, x8, x9])
 have h3 := blk_put (cs := #[y0, y1, x2, x3, x4, x5, x6, x7, x8, x9]) h2 2 y2 (rfl : (#[y0, y1, x2, x3, x4, x5, x6, x7, x8, x9] : Array Value).setIfInBounds 2 y2 = #[y0, y1, y2, x3, x4, x5, x6, x7, x8, x9])
 have h4 := blk_put (cs := #[y0, y1, y2, x3, x4, x5, x6, x7, x8, x9]) h3 3 y3 (rfl : (#[y0, y1, y2, x3, x4, x5, x6, x7, x8, x9] : Array Value).setIfInBounds 3 y3 = #[y0, y1, y2, y3, x4, x5, x6, x7, x8, x9])
 have h5 := blk_put (cs := #[y0, y1, y2, y3, x4, x5, x6, x7, x8, x9]) h4 4 y4 (rfl : (#[y0, y1, y2, y3, x4, x5, x6, x7, x8, x9] : Array Value).setIfInBounds 4 y4 = #[y0, y1, y2, y3, y4, x5, x6, x7, x8, x9])
 have h6 := blk_put (cs := #[y0, y1, y2, y3, y4, x5, x6, x7, x8, x9]) h5 5 y5 (rfl : (#[y0, y1, y2, y3, y4, x5, x6, x7, x8, x9] : Array Value).setIfInBounds 5 y5 = #[y0, y1, y2, y3, y4, y5, x6, x7, x8, x9])
 have h7 := blk_put (cs := #[y0, y1, y2, y3, y4, y5, x6, x7, x8, x9]) h6 6 y6 (rfl : (#[y0, y1, y2, y3, y4, y5, x6, x7, x8, x9] : Array Value).setIfInBounds 6 y6 = #[y0, y1, y2, y3, y4, y5, y6, x7, x8, x9])
 have h8 := blk_put (cs := #[y0, y1, y2, y3, y4, y5, y6, x7, x8, x9]) h7 7 y7 (rfl : (#[y0, y1, y2, y3, y4, y5, y6, x7, x8, x9] : Array Value).setIfInBounds 7 y7 = #[y0, y1, y2, y3, y4, y5, y6, y7, x8, x9])
 have h9 := blk_put (cs := #[y0, y1, y2, y3, y4, y5, y6, y7, x8, x9]) h8 8 y8 (rfl : (#[y0, y1, y2, y3, y4, y5, y6, y7, x8, x9] : Array Value).setIfInBounds 8 y8 = #[y0, y1, y2, y3, y4, y5, y6, y7, y8, x9])
 have h10 := blk_put (cs := #[y0, y1, y2, y3, y4, y5, y6, y7, y8, x9]) h9 9 y9 (rfl : (#[y0, y1, y2, y3, y4, y5, y6, y7, y8, x9] : Array Value).setIfInBounds 9 y9 = #[y0, y1, y2, y3, y4, y5, y6, y7, y8, y9])
 exact h10
theorem cell_keep {W W' : World} {g q : Nat} (hk : KeepBut W W' g none) (hq : q < W.heap.size) (hne : q ≠ g) (j : Nat) : W'.cell? ⟨q, j, none⟩ = W.cell? ⟨q, j, none⟩ := by
 have := hk.2 q hq hne (by simp)
 simp [World.cell?, this]
def noneC : Ctl := ⟨false, false, false, false, false, false, -1, -1, -1, -1⟩
def ofGo (k : Nat) : Ctl → List ByteArray → Option Ctl
 | c, [] => some c
 | c, e :: l => (dirV k c (lowB (cutA e)) (cutB e) (cutH e)).bind fun c' => ofGo k c' l
theorem ofGo.mono (k : Nat) : ∀ (l : List ByteArray) (c : Ctl), LeO (ofGo k c l) (ofGo (k + 1) c l)
 | [], c => LeO.refl _
 | e :: l, c => LeO.bind (dirV.mono k c _ _ _) (fun c' => ofGo.mono k l c')
def ctTup (c : Ctl) : Bool × Bool × Bool × Bool × Bool × Bool × Int × Int × Int × Int := (c.s0, c.s1, c.s2, c.s3, c.s4, c.s5, c.s6, c.s7, c.s8, c.s9)
def ofOk (es : List ByteArray) : Prop := es.length ≤ 1000000000 ∧ ∀ e ∈ es, e.size ≤ 1000000000
instance (es : List ByteArray) : Decidable (ofOk es) := by unfold ofOk; infer_instance
def ofEnd (k : Nat) (l0 : List S46) (c : Ctl) : Option Ctl := (field_List_Get.f k l0 (⟨#[67, 97, 99, 104, 101, 45, 67, 111, 110, 116, 114, 111, 108]⟩ : ByteArray)).bind fun g => if g.2 = true then some c else (field_List_Has.f k l0 (⟨#[80, 114, 97, 103, 109, 97]⟩ : ByteArray) (⟨#[110, 111, 45, 99, 97, 99, 104, 101]⟩ : ByteArray)).bind fun h => some (if h = true then { c with s1 := true } else c)
def control_Of.f (k : Nat) (l0 : List S46) : Option (Bool × Bool × Bool × Bool × Bool × Bool × Int × Int × Int × Int) :=
 (field_List_Elements.f k l0 (⟨#[67, 97, 99, 104, 101, 45, 67, 111, 110, 116, 114, 111, 108]⟩ : ByteArray)).bind fun es => if ofOk es then (ofGo k noneC es).bind fun c => (ofEnd k l0 c).bind fun d => some (ctTup d) else none
theorem control_Of.mono : ∀ l0 k, LeO (control_Of.f k l0) (control_Of.f (k + 1) l0) := by
 intro l0 k
 unfold control_Of.f
 refine LeO.bind (field_List_Elements.mono _ _ _) (fun es => ?_)
 refine LeO.ite (LeO.bind (ofGo.mono _ _ _) (fun c => LeO.bind ?_ (fun _ => LeO.refl _))) (LeO.refl _)
 unfold ofEnd
 refine LeO.bind (field_List_Get.mono _ _ _) (fun g => ?_)
 exact LeO.ite (LeO.refl _) (LeO.bind (field_List_Has.mono _ _ _ _) (fun _ => LeO.refl _))
theorem cut_small (e : ByteArray) (h : e.size ≤ 1000000000) : (cutA e).size ≤ 1000000000 ∧ (cutB e).size ≤ 1000000000 := by
 unfold cutA cutB
 constructor
 ·
  split
  ·
   rw [ByteArray.size_extract]; omega
  ·
   exact h
 ·
  split
  ·
   rw [ByteArray.size_extract]; omega
  ·
   exact Nat.zero_le _
theorem below10 (w W : World) (g : Nat) (y0 y1 y2 y3 y4 y5 y6 y7 y8 y9 : Value) (h : Below w.heap.size w W) (hg : w.heap.size ≤ g) : Below w.heap.size w ((((((((((W.setCell ⟨g, 0, none⟩ y0).setCell ⟨g, 1, none⟩ y1).setCell ⟨g, 2, none⟩ y2).setCell ⟨g, 3, none⟩ y3).setCell ⟨g, 4, none⟩ y4).setCell ⟨g, 5, none⟩ y5).setCell ⟨g, 6, none⟩ y6).setCell ⟨g, 7, none⟩ y7).setCell ⟨g, 8, none⟩ y8).setCell ⟨g, 9, none⟩ y9) := (below_set (below_set (below_set (below_set (below_set (below_set (below_set (below_set (below_set (below_set h hg) hg) hg) hg) hg) hg) hg) hg) hg) hg)
theorem far10 (W : World) (g q : Nat) (y0 y1 y2 y3 y4 y5 y6 y7 y8 y9 : Value) (hne : q ≠ g) : ((((((((((W.setCell ⟨g, 0, none⟩ y0).setCell ⟨g, 1, none⟩ y1).setCell ⟨g, 2, none⟩ y2).setCell ⟨g, 3, none⟩ y3).setCell ⟨g, 4, none⟩ y4).setCell ⟨g, 5, none⟩ y5).setCell ⟨g, 6, none⟩ y6).setCell ⟨g, 7, none⟩ y7).setCell ⟨g, 8, none⟩ y8).setCell ⟨g, 9, none⟩ y9).heap[q]? = W.heap[q]? := by
 simp only [Below.heap_setCell _ _ _ _ (show q ≠ (⟨g, _, none⟩ : Addr).block from hne)]
set_option maxHeartbeats 16000000 in
set_option maxRecDepth 100000 in
theorem control_Of.calls (k : Nat) (A0 : Option Addr) (c0 : Nat) (l0 : List S46) (r1 : Bool) (r2 : Bool) (r3 : Bool) (r4 : Bool) (r5 : Bool) (r6 : Bool) (r7 : Int) (r8 : Int) (r9 : Int) (r10 : Int) (w : World) (hr0 : Kd.C k46 w A0 l0.length l0) (hc0 : l0.length ≤ c0) (h : control_Of.f k l0 = some (r1, r2, r3, r4, r5, r6, r7, r8, r9, r10)) :
  Calls Tryz.prog 27 #[.slice A0 l0.length c0] w fun e w' => e = .returned (.agg #[.bool r1, .bool r2, .bool r3, .bool r4, .bool r5, .bool r6, .int .i64 r7, .int .i64 r8, .int .i64 r9, .int .i64 r10]) ∧ Below w.heap.size w w' := by
 unfold control_Of.f at h
 obtain ⟨es, hes, h⟩ := Option.bind_eq_some_iff.mp h
 by_cases hok : ofOk es
 case neg => rw [if_neg hok] at h; cases h
 rw [if_pos hok] at h
 obtain ⟨cF, hgo, h⟩ := Option.bind_eq_some_iff.mp h
 obtain ⟨d, hd, h⟩ := Option.bind_eq_some_iff.mp h
 have hu := Tryz.underlying57
 have HES := Aside0.mk hes
 have HGO := Aside0.mk hgo
 have HD := Aside0.mk hd
 have HR0 := Aside0.mk hr0
 have HEND := Aside0.mk h
 have HN : control_None.f = some (ctTup noneC) := rfl
 have HNN := Aside0.mk HN
 obtain ⟨hlen, hsz⟩ := hok
 have HSZ := Aside0.mk hsz
 clear hes hgo hd hr0 h HN hsz
 go_enter Tryz.func27, Tryz.ntmps27
 go_wp2_with (first | ((with_reducible refine gate_dst (N := 2) rfl ?_); refine box_event ?hg (N := 2) ?hd (cs := #[.bool false, .bool false, .bool false, .bool false, .bool false, .bool false, .int .i64 0, .int .i64 0, .int .i64 0, .int .i64 0]) (t := 57) ?hr ?_; (case hd | hg => rfl); (case hr => exact S1_); intro ga hg w1 hbox hbb; have HB1 : Aside0 (Below w.heap.size w w1) := ⟨hbb⟩; have BKA1 := Aside0.mk hbox; have GA : Aside0 (w.heap.size ≤ ga) := ⟨by rw [hg]; exact Nat.le_refl _⟩; clear hg hbox hbb) | ((with_reducible refine gate_dst (N := 3) rfl ?_); refine box_event ?hg (N := 3) ?hd (cs := #[.bool false, .bool false, .bool false, .bool false, .bool false, .bool false, .int .i64 0, .int .i64 0, .int .i64 0, .int .i64 0]) (t := 57) ?hr ?_; (case hd | hg => rfl); (case hr => exact S1_); intro gc hg w3 hbox hbb; have HB3 : Aside0 (Below w.heap.size w w3) := ⟨below_then HB2.out HB2.out.size hbb⟩; have BKC3 := Aside0.mk hbox; have GC : Aside0 (w.heap.size ≤ gc ∧ ga < gc) := ⟨by rw [hg]; exact ⟨HB2.out.size, (Array.getElem?_eq_some_iff.1 BKA2.out).1⟩⟩; have BKA3 := Aside0.mk (blk_below BKA2.out hbb); clear hg hbox hbb HB2 BKA2; have z0 : w3.cell? ⟨gc, 0, none⟩ = some (.bool false) := xC_ BKC3.out 0; have y0 := blk_frozen BKC3.out 0; have z1 : w3.cell? ⟨gc, 1, none⟩ = some (.bool false) := xC_ BKC3.out 1; have y1 := blk_frozen BKC3.out 1; have z2 : w3.cell? ⟨gc, 2, none⟩ = some (.bool false) := xC_ BKC3.out 2; have y2 := blk_frozen BKC3.out 2; have z3 : w3.cell? ⟨gc, 3, none⟩ = some (.bool false) := xC_ BKC3.out 3; have y3 := blk_frozen BKC3.out 3; have z4 : w3.cell? ⟨gc, 4, none⟩ = some (.bool false) := xC_ BKC3.out 4; have y4 := blk_frozen BKC3.out 4; have z5 : w3.cell? ⟨gc, 5, none⟩ = some (.bool false) := xC_ BKC3.out 5; have y5 := blk_frozen BKC3.out 5; have z6 : w3.cell? ⟨gc, 6, none⟩ = some (.int .i64 0) := xC_ BKC3.out 6; have y6 := blk_frozen BKC3.out 6; have z7 : w3.cell? ⟨gc, 7, none⟩ = some (.int .i64 0) := xC_ BKC3.out 7; have y7 := blk_frozen BKC3.out 7; have z8 : w3.cell? ⟨gc, 8, none⟩ = some (.int .i64 0) := xC_ BKC3.out 8; have y8 := blk_frozen BKC3.out 8; have z9 : w3.cell? ⟨gc, 9, none⟩ = some (.int .i64 0) := xC_ BKC3.out 9; have y9 := blk_frozen BKC3.out 9) | ((with_reducible refine gate_store (t := 57) (p := 3) rfl ?_); refine store_event (t := 57) (p := 3) (v := ?vo) (w1 := ((((((((((w3.setCell ⟨gc, 0, none⟩ (.bool noneC.s0)).setCell ⟨gc, 1, none⟩ (.bool noneC.s1)).setCell ⟨gc, 2, none⟩ (.bool noneC.s2)).setCell ⟨gc, 3, none⟩ (.bool noneC.s3)).setCell ⟨gc, 4, none⟩ (.bool noneC.s4)).setCell ⟨gc, 5, none⟩ (.bool noneC.s5)).setCell ⟨gc, 6, none⟩ (.int .i64 noneC.s6)).setCell ⟨gc, 7, none⟩ (.int .i64 noneC.s7)).setCell ⟨gc, 8, none⟩ (.int .i64 noneC.s8)).setCell ⟨gc, 9, none⟩ (.int .i64 noneC.s9))) ?hg ?ho ?hn ?hr ?_; (case ho => rfl); (case hg => rfl); (case hn => rfl); (case hr => first | (go_simp; done) | (go_simp; rfl)); intro w4 hw; have BKC4 : Aside0 (Blk w4 gc noneC) := ⟨by rw [hw]; exact put10 w3 gc _ _ _ _ _ _ _ _ _ _ _ _ _ _ _ _ _ _ _ _ _ BKC3.out⟩; have HB4 : Aside0 (Below w.heap.size w w4) := ⟨by rw [hw]; exact below10 w w3 gc _ _ _ _ _ _ _ _ _ _ HB3.out GC.out.1⟩; have BKA4 : Aside0 (w4.heap[ga]? = some (.cells #[.bool false, .bool false, .bool false, .bool false, .bool false, .bool false, .int .i64 0, .int .i64 0, .int .i64 0, .int .i64 0] 57 (0, 0))) := ⟨by rw [hw, far10 _ _ _ _ _ _ _ _ _ _ _ _ _ (by have := GC.out.2; omega)]; exact BKA3.out⟩; clear hw BKC3 HB3 BKA3; clear z0 y0 z1 y1 z2 y2 z3 y3 z4 y4 z5 y5 z6 y6 z7 y7 z8 y8 z9 y9) | (go_at_call 45; refine (control_None.calls _ _ _ _ _ _ _ _ _ _ _ HNN.out).mono ?_; rintro e w2 ⟨rfl, hb2⟩; have HB2 : Aside0 (Below w.heap.size w w2) := ⟨below_then HB1.out HB1.out.size hb2⟩; have BKA2 := Aside0.mk (blk_below BKA1.out hb2); clear hb2 HB1 BKA1) | (go_at_call 46; refine (field_List_Elements.calls k A0 c0 l0 (⟨#[67, 97, 99, 104, 101, 45, 67, 111, 110, 116, 114, 111, 108]⟩ : ByteArray) es w4 (Kd.C_below HR0.out HB4.out) hc0 HES.out).mono ?_; rintro e w5 ⟨v5, rfl, hR5, hb5⟩; have HB5 : Aside0 (Below w.heap.size w w5) := ⟨below_then HB4.out HB4.out.size hb5⟩; have BKC5 : Aside0 (Blk w5 gc noneC) := ⟨blk_below BKC4.out hb5⟩; have BKA5 := Aside0.mk (blk_below BKA4.out hb5); have HR5 := Aside0.mk hR5; have G4 : Aside0 (gc < w4.heap.size) := ⟨(Array.getElem?_eq_some_iff.1 BKC4.out).1⟩; clear hb5 hR5 HB4 BKC4 BKA4; obtain ⟨A5, c5, rfl⟩ := Kd.R_slice HR5.out))
 have hrow : ∃ q, (0 < es.length → A5 = some ⟨q, 0, none⟩ ∧ gc < q ∧ q < w5.heap.size) ∧ ∀ j (hj : j < es.length), w5.cell? ⟨q, j, none⟩ = some (.string es[j]) := by
  by_cases h0 : 0 < es.length
  ·
   obtain ⟨q, cap, hv, hg1, hg2, _⟩ := Kd.R_form HR5.out h0
   injection hv with hA _ _
   refine ⟨q, fun _ => ⟨hA, Nat.lt_of_lt_of_le G4.out hg1, ?_⟩, fun j hj => ?_⟩
   ·
    have hc := (Kd.R_reads' HR5.out).2.2
    rw [hA] at hc
    have := Kd.foot_string hc 0 (by omega) (by omega)
    exact World.block_lt_of_cell? w5 _ this
   ·
    have hc := (Kd.R_reads' HR5.out).2.2
    rw [hA] at hc
    have := Kd.foot_string hc (j : Int) (by omega) (by omega)
    rw [add_plain] at this
    simpa [rdOf, hj] using this
  ·
   exact ⟨0, fun h => absurd h h0, fun j hj => absurd (Nat.lt_of_le_of_lt (Nat.zero_le _) hj) h0⟩
 obtain ⟨q, hA, hrw⟩ := hrow
 have HA := Aside0.mk hA
 have HRW5 := Aside0.mk hrw
 clear hA hrw HR5 G4
 go_loopw [15] (fun i wr => ∃ (j : Nat) (c : Ctl), j ≤ es.length ∧ i = .int .i64 j ∧ Aside0 (ofGo k c (es.drop j) = some cF) ∧ Aside0 (Blk wr gc c) ∧ Aside0 (wr.heap[ga]? = some (.cells #[.bool false, .bool false, .bool false, .bool false, .bool false, .bool false, .int .i64 0, .int .i64 0, .int .i64 0, .int .i64 0] 57 (0, 0))) ∧ Aside0 (∀ j (hj : j < es.length), wr.cell? ⟨q, j, none⟩ = some (.string es[j])) ∧ Aside0 (Below w.heap.size w wr) ∧ Aside0 (w5.heap.size ≤ wr.heap.size)) (fun i _ => es.length - (intOf i).toNat)
 case atStart => exact ⟨0, noneC, Nat.zero_le _, rfl, ⟨by simpa using HGO.out⟩, BKC5, BKA5, HRW5, HB5, ⟨Nat.le_refl _⟩⟩
 case round =>
  obtain ⟨j, c, hj, rfl, HG, BKC, BKA, HRW, HB, HS⟩ := hrel
  clear BKC5 BKA5 HRW5 HB5
  by_cases hlt : j < es.length
  ·
   obtain ⟨hA, hq1, hq2⟩ := HA.out (by omega)
   subst hA
   have HQ : Aside0 (gc < q ∧ q < w5.heap.size) := ⟨⟨hq1, hq2⟩⟩
   have g0 := HRW.out j hlt
   have hdrop : es.drop j = es[j] :: es.drop (j + 1) := List.drop_eq_getElem_cons hlt
   have hgo := HG.out
   rw [hdrop, ofGo] at hgo
   obtain ⟨c', hc', hgo'⟩ := Option.bind_eq_some_iff.mp hgo
   have HGN := Aside0.mk hgo'
   have hes := HSZ.out _ (List.getElem_mem hlt)
   generalize es[j] = e at g0 hc' hes
   have hcs := cut_small e hes
   have CUT : Aside0 (∀ W, _) := ⟨fun W => Cut_calls e hes W⟩
   have LOW : Aside0 (∀ W, Calls Tryz.prog 49 #[.string (cutA e)] W fun e1 w' => e1 = .returned (.string (lowB (cutA e))) ∧ Below W.heap.size W w') := ⟨fun W => sign_Lower.calls (cutA e) (lowB (cutA e)) W (by unfold sign_Lower.f; rw [if_pos (by omega)])⟩
   have DIR : Aside0 (∀ W, Blk W gc c → Calls Tryz.prog 48 #[.pointer (some ⟨gc, 0, none⟩), .string (lowB (cutA e)), .string (cutB e), .bool (cutH e)] W fun e1 w' => e1 = .returned (.tuple #[]) ∧ Blk w' gc c' ∧ KeepBut W w' gc none ∧ ∀ w0 : World, w0.heap.size ≤ gc → Below w0.heap.size w0 W → Below w0.heap.size w0 w') := ⟨fun W hb => directive_calls k gc c (lowB (cutA e)) (cutB e) (cutH e) c' W hb hc'⟩
   clear hc' hgo hgo' hdrop hes hcs hq1 hq2
   generalize lowB (cutA e) = nm at *
   generalize cutA e = ea at *
   generalize cutB e = eb at *
   generalize cutH e = ef at *
   have p5 : ((0 : Int) ≤ (j : Int)) = True := eq_true (by omega)
   have q5 : ((j : Int) < (es.length : Int)) = True := eq_true (by omega)
   go_wp2_with (first | (go_at_call 47; refine (CUT.out _).mono ?_; rintro e1 w6 ⟨rfl, hb6⟩; have HB6 : Aside0 (Below w.heap.size w w6) := ⟨below_then HB.out HB.out.size hb6⟩; have BKC6 : Aside0 (Blk w6 gc c) := ⟨blk_below BKC.out hb6⟩; have BKA6 : Aside0 (w6.heap[ga]? = some (.cells #[.bool false, .bool false, .bool false, .bool false, .bool false, .bool false, .int .i64 0, .int .i64 0, .int .i64 0, .int .i64 0] 57 (0, 0))) := ⟨blk_below BKA.out hb6⟩; have HRW6 : Aside0 (∀ j (hj : j < es.length), w6.cell? ⟨q, j, none⟩ = some (.string es[j])) := ⟨fun j hj => pw_cell_below hb6 (HRW.out j hj)⟩; have HS6 : Aside0 (w5.heap.size ≤ w6.heap.size) := ⟨Nat.le_trans HS.out hb6.size⟩; clear hb6 HB BKC BKA HRW HS) | (go_at_call 49; refine (LOW.out _).mono ?_; rintro e1 w7 ⟨rfl, hb7⟩; have HB7 : Aside0 (Below w.heap.size w w7) := ⟨below_then HB6.out HB6.out.size hb7⟩; have BKC7 : Aside0 (Blk w7 gc c) := ⟨blk_below BKC6.out hb7⟩; have BKA7 : Aside0 (w7.heap[ga]? = some (.cells #[.bool false, .bool false, .bool false, .bool false, .bool false, .bool false, .int .i64 0, .int .i64 0, .int .i64 0, .int .i64 0] 57 (0, 0))) := ⟨blk_below BKA6.out hb7⟩; have HRW7 : Aside0 (∀ j (hj : j < es.length), w7.cell? ⟨q, j, none⟩ = some (.string es[j])) := ⟨fun j hj => pw_cell_below hb7 (HRW6.out j hj)⟩; have HS7 : Aside0 (w5.heap.size ≤ w7.heap.size) := ⟨Nat.le_trans HS6.out hb7.size⟩; clear hb7 HB6 BKC6 BKA6 HRW6 HS6) | (go_at_call 48; refine (DIR.out _ BKC7.out).mono ?_; rintro e1 w8 ⟨rfl, q1, q2, q3⟩; have HB8 : Aside0 (Below w.heap.size w w8) := ⟨q3 w GC.out.1 HB7.out⟩; have BKC8 : Aside0 (Blk w8 gc c') := ⟨q1⟩; have BKA8 : Aside0 (w8.heap[ga]? = some (.cells #[.bool false, .bool false, .bool false, .bool false, .bool false, .bool false, .int .i64 0, .int .i64 0, .int .i64 0, .int .i64 0] 57 (0, 0))) := ⟨(q2.2 ga (Nat.lt_trans GC.out.2 (Nat.lt_trans HQ.out.1 (Nat.lt_of_lt_of_le HQ.out.2 HS7.out))) (Nat.ne_of_lt GC.out.2) (by simp)).trans BKA7.out⟩; have HRW8 : Aside0 (∀ j (hj : j < es.length), w8.cell? ⟨q, j, none⟩ = some (.string es[j])) := ⟨fun j hj => (cell_keep q2 (Nat.lt_of_lt_of_le HQ.out.2 HS7.out) (Nat.ne_of_gt HQ.out.1) j).trans (HRW7.out j hj)⟩; have HS8 : Aside0 (w5.heap.size ≤ w8.heap.size) := ⟨Nat.le_trans HS7.out q2.1⟩; clear q1 q2 q3 HB7 BKC7 BKA7 HRW7 HS7))
   go_roundw
   case rel => exact ⟨j + 1, c', by omega, by simp, HGN, BKC8, BKA8, HRW8, HB8, HS8⟩
   case measure => simp [intOf]; omega
  ·
   have q5 : ((j : Int) < (es.length : Int)) = False := eq_false (by omega)
   have hgo := HG.out
   rw [List.drop_of_length_le (by omega), ofGo] at hgo
   obtain rfl := Option.some.inj hgo
   have hend := HD.out
   unfold ofEnd at hend
   obtain ⟨⟨g1, g2⟩, hg, hend⟩ := Option.bind_eq_some_iff.mp hend
   have HGET := Aside0.mk hg
   clear hg hgo HG HGO HSZ HA HRW HS HD
   cases g2 with
   | true =>
    rw [if_pos rfl] at hend
    obtain rfl := Option.some.inj hend
    have hE := HEND.out
    simp only [ctTup, Option.some.injEq, Prod.mk.injEq] at hE
    obtain ⟨rfl, rfl, rfl, rfl, rfl, rfl, rfl, rfl, rfl, rfl⟩ := hE
    clear hend
    go_wp2_with (go_at_call 28; refine (field_List_Get.calls k A0 c0 l0 (⟨#[67, 97, 99, 104, 101, 45, 67, 111, 110, 116, 114, 111, 108]⟩ : ByteArray) g1 true _ (Kd.C_below HR0.out HB.out) hc0 HGET.out).mono ?_; rintro e1 w6 ⟨rfl, hb6⟩; have HBE : Aside0 (Below w.heap.size w w6) := ⟨below_then HB.out HB.out.size hb6⟩; have BKCE : Aside0 (w6.heap[gc]? = some (.cells #[.bool c.s0, .bool c.s1, .bool c.s2, .bool c.s3, .bool c.s4, .bool c.s5, .int .i64 c.s6, .int .i64 c.s7, .int .i64 c.s8, .int .i64 c.s9] 57 (0, 0))) := ⟨blk_below BKC.out hb6⟩; have BKAE : Aside0 (w6.heap[ga]? = some (.cells #[.bool false, .bool false, .bool false, .bool false, .bool false, .bool false, .int .i64 0, .int .i64 0, .int .i64 0, .int .i64 0] 57 (0, 0))) := ⟨blk_below BKA.out hb6⟩; clear hb6 HB BKC BKA; have hcu0 : w6.cell? ⟨gc, 0, none⟩ = some (.bool c.s0) := xC_ BKCE.out 0; have hfu0 := blk_frozen BKCE.out 0; have hcu1 : w6.cell? ⟨gc, 1, none⟩ = some (.bool c.s1) := xC_ BKCE.out 1; have hfu1 := blk_frozen BKCE.out 1; have hcu2 : w6.cell? ⟨gc, 2, none⟩ = some (.bool c.s2) := xC_ BKCE.out 2; have hfu2 := blk_frozen BKCE.out 2; have hcu3 : w6.cell? ⟨gc, 3, none⟩ = some (.bool c.s3) := xC_ BKCE.out 3; have hfu3 := blk_frozen BKCE.out 3; have hcu4 : w6.cell? ⟨gc, 4, none⟩ = some (.bool c.s4) := xC_ BKCE.out 4; have hfu4 := blk_frozen BKCE.out 4; have hcu5 : w6.cell? ⟨gc, 5, none⟩ = some (.bool c.s5) := xC_ BKCE.out 5; have hfu5 := blk_frozen BKCE.out 5; have hcu6 : w6.cell? ⟨gc, 6, none⟩ = some (.int .i64 c.s6) := xC_ BKCE.out 6; have hfu6 := blk_frozen BKCE.out 6; have hcu7 : w6.cell? ⟨gc, 7, none⟩ = some (.int .i64 c.s7) := xC_ BKCE.out 7; have hfu7 := blk_frozen BKCE.out 7; have hcu8 : w6.cell? ⟨gc, 8, none⟩ = some (.int .i64 c.s8) := xC_ BKCE.out 8; have hfu8 := blk_frozen BKCE.out 8; have hcu9 : w6.cell? ⟨gc, 9, none⟩ = some (.int .i64 c.s9) := xC_ BKCE.out 9; have hfu9 := blk_frozen BKCE.out 9; have hcv0 : w6.cell? ⟨ga, 0, none⟩ = some (.bool false) := xC_ BKAE.out 0; have hfv0 := blk_frozen BKAE.out 0; have hcv1 : w6.cell? ⟨ga, 1, none⟩ = some (.bool false) := xC_ BKAE.out 1; have hfv1 := blk_frozen BKAE.out 1; have hcv2 : w6.cell? ⟨ga, 2, none⟩ = some (.bool false) := xC_ BKAE.out 2; have hfv2 := blk_frozen BKAE.out 2; have hcv3 : w6.cell? ⟨ga, 3, none⟩ = some (.bool false) := xC_ BKAE.out 3; have hfv3 := blk_frozen BKAE.out 3; have hcv4 : w6.cell? ⟨ga, 4, none⟩ = some (.bool false) := xC_ BKAE.out 4; have hfv4 := blk_frozen BKAE.out 4; have hcv5 : w6.cell? ⟨ga, 5, none⟩ = some (.bool false) := xC_ BKAE.out 5; have hfv5 := blk_frozen BKAE.out 5; have hcv6 : w6.cell? ⟨ga, 6, none⟩ = some (.int .i64 0) := xC_ BKAE.out 6; have hfv6 := blk_frozen BKAE.out 6; have hcv7 : w6.cell? ⟨ga, 7, none⟩ = some (.int .i64 0) := xC_ BKAE.out 7; have hfv7 := blk_frozen BKAE.out 7; have hcv8 : w6.cell? ⟨ga, 8, none⟩ = some (.int .i64 0) := xC_ BKAE.out 8; have hfv8 := blk_frozen BKAE.out 8; have hcv9 : w6.cell? ⟨ga, 9, none⟩ = some (.int .i64 0) := xC_ BKAE.out 9; have hfv9 := blk_frozen BKAE.out 9)
    refine bodyPost_ret (results_cell_row rfl _ _ ga 57 #[.bool c.s0, .bool c.s1, .bool c.s2, .bool c.s3, .bool c.s4, .bool c.s5, .int .i64 c.s6, .int .i64 c.s7, .int .i64 c.s8, .int .i64 c.s9] (0, 0) _ rfl (put10 _ ga _ _ _ _ _ _ _ _ _ _ _ _ _ _ _ _ _ _ _ _ _ BKAE.out) Tryz.underlying57 rfl (by kernel_rfl)) rfl ?_
    exact ⟨rfl, below10 w _ ga _ _ _ _ _ _ _ _ _ _ HBE.out GA.out⟩
   | false =>
    rw [if_neg (by simp)] at hend
    obtain ⟨hh, hhas, hend⟩ := Option.bind_eq_some_iff.mp hend
    have HHAS := Aside0.mk hhas
    clear hhas
    cases hh with
    | true =>
     rw [if_pos rfl] at hend
     obtain rfl := Option.some.inj hend
     have hE := HEND.out
     simp only [ctTup, Option.some.injEq, Prod.mk.injEq] at hE
     obtain ⟨rfl, rfl, rfl, rfl, rfl, rfl, rfl, rfl, rfl, rfl⟩ := hE
     clear hend
     go_wp2_with (first | (go_at_call 28; refine (field_List_Get.calls k A0 c0 l0 (⟨#[67, 97, 99, 104, 101, 45, 67, 111, 110, 116, 114, 111, 108]⟩ : ByteArray) g1 false _ (Kd.C_below HR0.out HB.out) hc0 HGET.out).mono ?_; rintro e1 w6 ⟨rfl, hb6⟩; have HBE : Aside0 (Below w.heap.size w w6) := ⟨below_then HB.out HB.out.size hb6⟩; have BKCE : Aside0 (w6.heap[gc]? = some (.cells #[.bool c.s0, .bool c.s1, .bool c.s2, .bool c.s3, .bool c.s4, .bool c.s5, .int .i64 c.s6, .int .i64 c.s7, .int .i64 c.s8, .int .i64 c.s9] 57 (0, 0))) := ⟨blk_below BKC.out hb6⟩; have BKAE : Aside0 (w6.heap[ga]? = some (.cells #[.bool false, .bool false, .bool false, .bool false, .bool false, .bool false, .int .i64 0, .int .i64 0, .int .i64 0, .int .i64 0] 57 (0, 0))) := ⟨blk_below BKA.out hb6⟩; clear hb6 HB BKC BKA) | (go_at_call 50; refine (field_List_Has.calls k A0 c0 l0 (⟨#[80, 114, 97, 103, 109, 97]⟩ : ByteArray) (⟨#[110, 111, 45, 99, 97, 99, 104, 101]⟩ : ByteArray) true _ (Kd.C_below HR0.out HBE.out) hc0 HHAS.out).mono ?_; rintro e1 w7 ⟨rfl, hb7⟩; have HBF : Aside0 (Below w.heap.size w w7) := ⟨below_then HBE.out HBE.out.size hb7⟩; have BKCF : Aside0 (w7.heap[gc]? = some (.cells #[.bool c.s0, .bool c.s1, .bool c.s2, .bool c.s3, .bool c.s4, .bool c.s5, .int .i64 c.s6, .int .i64 c.s7, .int .i64 c.s8, .int .i64 c.s9] 57 (0, 0))) := ⟨blk_below BKCE.out hb7⟩; have BKAF : Aside0 (w7.heap[ga]? = some (.cells #[.bool false, .bool false, .bool false, .bool false, .bool false, .bool false, .int .i64 0, .int .i64 0, .int .i64 0, .int .i64 0] 57 (0, 0))) := ⟨blk_below BKAE.out hb7⟩; clear hb7 HBE BKCE BKAE; have HBE := HBF; have BKCE := BKCF; have BKAE := BKAF; clear HBF BKCF BKAF; have hx1 : w7.cell? ⟨gc, 1, none⟩ = some (.bool c.s1) := xC_ BKCE.out 1; have hfx1 := blk_frozen BKCE.out 1) | ((with_reducible refine gate_store (t := 4) (p := 42) rfl ?_); refine store_event (t := 4) (p := 42) (v := ?vo2) (w1 := (w7.setCell ⟨gc, 1, none⟩ (.bool true))) ?hg ?ho ?hn ?hr ?_; (case ho => rfl); (case hg => rfl); (case hn => rfl); (case hr => first | (go_simp; done) | (go_simp; rfl)); intro w8 hw; have HBF : Aside0 (Below w.heap.size w w8) := ⟨by rw [hw]; exact below_set HBE.out GC.out.1⟩; have BKCF : Aside0 (w8.heap[gc]? = some (.cells #[.bool c.s0, .bool true, .bool c.s2, .bool c.s3, .bool c.s4, .bool c.s5, .int .i64 c.s6, .int .i64 c.s7, .int .i64 c.s8, .int .i64 c.s9] 57 (0, 0))) := ⟨by rw [hw]; exact blk_put BKCE.out 1 _ rfl⟩; have BKAF : Aside0 (w8.heap[ga]? = some (.cells #[.bool false, .bool false, .bool false, .bool false, .bool false, .bool false, .int .i64 0, .int .i64 0, .int .i64 0, .int .i64 0] 57 (0, 0))) := ⟨by rw [hw]; exact (Below.heap_setCell w7 ⟨gc, 1, none⟩ (.bool true) ga (Nat.ne_of_lt GC.out.2)).trans BKAE.out⟩; clear hw hx1 hfx1 HBE BKCE BKAE; have HBE := HBF; have BKCE := BKCF; have BKAE := BKAF; clear HBF BKCF BKAF; have hcu0 : w8.cell? ⟨gc, 0, none⟩ = some (.bool c.s0) := xC_ BKCE.out 0; have hfu0 := blk_frozen BKCE.out 0; have hcu1 : w8.cell? ⟨gc, 1, none⟩ = some (.bool true) := xC_ BKCE.out 1; have hfu1 := blk_frozen BKCE.out 1; have hcu2 : w8.cell? ⟨gc, 2, none⟩ = some (.bool c.s2) := xC_ BKCE.out 2; have hfu2 := blk_frozen BKCE.out 2; have hcu3 : w8.cell? ⟨gc, 3, none⟩ = some (.bool c.s3) := xC_ BKCE.out 3; have hfu3 := blk_frozen BKCE.out 3; have hcu4 : w8.cell? ⟨gc, 4, none⟩ = some (.bool c.s4) := xC_ BKCE.out 4; have hfu4 := blk_frozen BKCE.out 4; have hcu5 : w8.cell? ⟨gc, 5, none⟩ = some (.bool c.s5) := xC_ BKCE.out 5; have hfu5 := blk_frozen BKCE.out 5; have hcu6 : w8.cell? ⟨gc, 6, none⟩ = some (.int .i64 c.s6) := xC_ BKCE.out 6; have hfu6 := blk_frozen BKCE.out 6; have hcu7 : w8.cell? ⟨gc, 7, none⟩ = some (.int .i64 c.s7) := xC_ BKCE.out 7; have hfu7 := blk_frozen BKCE.out 7; have hcu8 : w8.cell? ⟨gc, 8, none⟩ = some (.int .i64 c.s8) := xC_ BKCE.out 8; have hfu8 := blk_frozen BKCE.out 8; have hcu9 : w8.cell? ⟨gc, 9, none⟩ = some (.int .i64 c.s9) := xC_ BKCE.out 9; have hfu9 := blk_frozen BKCE.out 9; have hcv0 : w8.cell? ⟨ga, 0, none⟩ = some (.bool false) := xC_ BKAE.out 0; have hfv0 := blk_frozen BKAE.out 0; have hcv1 : w8.cell? ⟨ga, 1, none⟩ = some (.bool false) := xC_ BKAE.out 1; have hfv1 := blk_frozen BKAE.out 1; have hcv2 : w8.cell? ⟨ga, 2, none⟩ = some (.bool false) := xC_ BKAE.out 2; have hfv2 := blk_frozen BKAE.out 2; have hcv3 : w8.cell? ⟨ga, 3, none⟩ = some (.bool false) := xC_ BKAE.out 3; have hfv3 := blk_frozen BKAE.out 3; have hcv4 : w8.cell? ⟨ga, 4, none⟩ = some (.bool false) := xC_ BKAE.out 4; have hfv4 := blk_frozen BKAE.out 4; have hcv5 : w8.cell? ⟨ga, 5, none⟩ = some (.bool false) := xC_ BKAE.out 5; have hfv5 := blk_frozen BKAE.out 5; have hcv6 : w8.cell? ⟨ga, 6, none⟩ = some (.int .i64 0) := xC_ BKAE.out 6; have hfv6 := blk_frozen BKAE.out 6; have hcv7 : w8.cell? ⟨ga, 7, none⟩ = some (.int .i64 0) := xC_ BKAE.out 7; have hfv7 := blk_frozen BKAE.out 7; have hcv8 : w8.cell? ⟨ga, 8, none⟩ = some (.int .i64 0) := xC_ BKAE.out 8; have hfv8 := blk_frozen BKAE.out 8; have hcv9 : w8.cell? ⟨ga, 9, none⟩ = some (.int .i64 0) := xC_ BKAE.out 9; have hfv9 := blk_frozen BKAE.out 9))
     refine bodyPost_ret (results_cell_row rfl _ _ ga 57 #[.bool c.s0, .bool true, .bool c.s2, .bool c.s3, .bool c.s4, .bool c.s5, .int .i64 c.s6, .int .i64 c.s7, .int .i64 c.s8, .int .i64 c.s9] (0, 0) _ rfl (put10 _ ga _ _ _ _ _ _ _ _ _ _ _ _ _ _ _ _ _ _ _ _ _ BKAE.out) Tryz.underlying57 rfl (by kernel_rfl)) rfl ?_
     exact ⟨rfl, below10 w _ ga _ _ _ _ _ _ _ _ _ _ HBE.out GA.out⟩
    | false =>
     rw [if_neg (by simp)] at hend
     obtain rfl := Option.some.inj hend
     have hE := HEND.out
     simp only [ctTup, Option.some.injEq, Prod.mk.injEq] at hE
     obtain ⟨rfl, rfl, rfl, rfl, rfl, rfl, rfl, rfl, rfl, rfl⟩ := hE
     clear hend
     go_wp2_with (first | (go_at_call 28; refine (field_List_Get.calls k A0 c0 l0 (⟨#[67, 97, 99, 104, 101, 45, 67, 111, 110, 116, 114, 111, 108]⟩ : ByteArray) g1 false _ (Kd.C_below HR0.out HB.out) hc0 HGET.out).mono ?_; rintro e1 w6 ⟨rfl, hb6⟩; have HBE : Aside0 (Below w.heap.size w w6) := ⟨below_then HB.out HB.out.size hb6⟩; have BKCE : Aside0 (w6.heap[gc]? = some (.cells #[.bool c.s0, .bool c.s1, .bool c.s2, .bool c.s3, .bool c.s4, .bool c.s5, .int .i64 c.s6, .int .i64 c.s7, .int .i64 c.s8, .int .i64 c.s9] 57 (0, 0))) := ⟨blk_below BKC.out hb6⟩; have BKAE : Aside0 (w6.heap[ga]? = some (.cells #[.bool false, .bool false, .bool false, .bool false, .bool false, .bool false, .int .i64 0, .int .i64 0, .int .i64 0, .int .i64 0] 57 (0, 0))) := ⟨blk_below BKA.out hb6⟩; clear hb6 HB BKC BKA) | (go_at_call 50; refine (field_List_Has.calls k A0 c0 l0 (⟨#[80, 114, 97, 103, 109, 97]⟩ : ByteArray) (⟨#[110, 111, 45, 99, 97, 99, 104, 101]⟩ : ByteArray) false _ (Kd.C_below HR0.out HBE.out) hc0 HHAS.out).mono ?_; rintro e1 w7 ⟨rfl, hb7⟩; have HBF : Aside0 (Below w.heap.size w w7) := ⟨below_then HBE.out HBE.out.size hb7⟩; have BKCF : Aside0 (w7.heap[gc]? = some (.cells #[.bool c.s0, .bool c.s1, .bool c.s2, .bool c.s3, .bool c.s4, .bool c.s5, .int .i64 c.s6, .int .i64 c.s7, .int .i64 c.s8, .int .i64 c.s9] 57 (0, 0))) := ⟨blk_below BKCE.out hb7⟩; have BKAF : Aside0 (w7.heap[ga]? = some (.cells #[.bool false, .bool false, .bool false, .bool false, .bool false, .bool false, .int .i64 0, .int .i64 0, .int .i64 0, .int .i64 0] 57 (0, 0))) := ⟨blk_below BKAE.out hb7⟩; clear hb7 HBE BKCE BKAE; have HBE := HBF; have BKCE := BKCF; have BKAE := BKAF; clear HBF BKCF BKAF; have hcu0 : w7.cell? ⟨gc, 0, none⟩ = some (.bool c.s0) := xC_ BKCE.out 0; have hfu0 := blk_frozen BKCE.out 0; have hcu1 : w7.cell? ⟨gc, 1, none⟩ = some (.bool c.s1) := xC_ BKCE.out 1; have hfu1 := blk_frozen BKCE.out 1; have hcu2 : w7.cell? ⟨gc, 2, none⟩ = some (.bool c.s2) := xC_ BKCE.out 2; have hfu2 := blk_frozen BKCE.out 2; have hcu3 : w7.cell? ⟨gc, 3, none⟩ = some (.bool c.s3) := xC_ BKCE.out 3; have hfu3 := blk_frozen BKCE.out 3; have hcu4 : w7.cell? ⟨gc, 4, none⟩ = some (.bool c.s4) := xC_ BKCE.out 4; have hfu4 := blk_frozen BKCE.out 4; have hcu5 : w7.cell? ⟨gc, 5, none⟩ = some (.bool c.s5) := xC_ BKCE.out 5; have hfu5 := blk_frozen BKCE.out 5; have hcu6 : w7.cell? ⟨gc, 6, none⟩ = some (.int .i64 c.s6) := xC_ BKCE.out 6; have hfu6 := blk_frozen BKCE.out 6; have hcu7 : w7.cell? ⟨gc, 7, none⟩ = some (.int .i64 c.s7) := xC_ BKCE.out 7; have hfu7 := blk_frozen BKCE.out 7; have hcu8 : w7.cell? ⟨gc, 8, none⟩ = some (.int .i64 c.s8) := xC_ BKCE.out 8; have hfu8 := blk_frozen BKCE.out 8; have hcu9 : w7.cell? ⟨gc, 9, none⟩ = some (.int .i64 c.s9) := xC_ BKCE.out 9; have hfu9 := blk_frozen BKCE.out 9; have hcv0 : w7.cell? ⟨ga, 0, none⟩ = some (.bool false) := xC_ BKAE.out 0; have hfv0 := blk_frozen BKAE.out 0; have hcv1 : w7.cell? ⟨ga, 1, none⟩ = some (.bool false) := xC_ BKAE.out 1; have hfv1 := blk_frozen BKAE.out 1; have hcv2 : w7.cell? ⟨ga, 2, none⟩ = some (.bool false) := xC_ BKAE.out 2; have hfv2 := blk_frozen BKAE.out 2; have hcv3 : w7.cell? ⟨ga, 3, none⟩ = some (.bool false) := xC_ BKAE.out 3; have hfv3 := blk_frozen BKAE.out 3; have hcv4 : w7.cell? ⟨ga, 4, none⟩ = some (.bool false) := xC_ BKAE.out 4; have hfv4 := blk_frozen BKAE.out 4; have hcv5 : w7.cell? ⟨ga, 5, none⟩ = some (.bool false) := xC_ BKAE.out 5; have hfv5 := blk_frozen BKAE.out 5; have hcv6 : w7.cell? ⟨ga, 6, none⟩ = some (.int .i64 0) := xC_ BKAE.out 6; have hfv6 := blk_frozen BKAE.out 6; have hcv7 : w7.cell? ⟨ga, 7, none⟩ = some (.int .i64 0) := xC_ BKAE.out 7; have hfv7 := blk_frozen BKAE.out 7; have hcv8 : w7.cell? ⟨ga, 8, none⟩ = some (.int .i64 0) := xC_ BKAE.out 8; have hfv8 := blk_frozen BKAE.out 8; have hcv9 : w7.cell? ⟨ga, 9, none⟩ = some (.int .i64 0) := xC_ BKAE.out 9; have hfv9 := blk_frozen BKAE.out 9))
     refine bodyPost_ret (results_cell_row rfl _ _ ga 57 #[.bool c.s0, .bool c.s1, .bool c.s2, .bool c.s3, .bool c.s4, .bool c.s5, .int .i64 c.s6, .int .i64 c.s7, .int .i64 c.s8, .int .i64 c.s9] (0, 0) _ rfl (put10 _ ga _ _ _ _ _ _ _ _ _ _ _ _ _ _ _ _ _ _ _ _ _ BKAE.out) Tryz.underlying57 rfl (by kernel_rfl)) rfl ?_
     exact ⟨rfl, below10 w _ ga _ _ _ _ _ _ _ _ _ _ HBE.out GA.out⟩

/-! ### slices_Sort_string_string: function 53, by hand -/
def sortL (xs : List ByteArray) : List (List UInt8) := (xs.map (·.data.toList)).mergeSort (fun x y => decide (x ≤ y))
def ofLists (l : List (List UInt8)) : List ByteArray := l.map fun b => ⟨b.toArray⟩
def sortB (xs : List ByteArray) : List ByteArray := ofLists (sortL xs)
theorem sortB_len (xs : List ByteArray) : (sortB xs).length = xs.length := by simp [sortB, ofLists, sortL]
theorem encs_of (l : List (List UInt8)) : encs Value.string (ofLists l) = l.map encStr := by simp [encs, ofLists, encStr]
theorem encs_to (xs : List ByteArray) : encs Value.string xs = (xs.map (·.data.toList)).map encStr := by simp [encs, encStr]
theorem sortB_nil : sortB [] = [] := List.eq_nil_of_length_eq_zero (by rw [sortB_len]; rfl)
theorem grow_nil (W : World) : Go.Sort.grow W #[] = W := by simp [Go.Sort.grow]
theorem grownBy_row {g : Nat} (W : World) (q off : Nat) (d : Array (List UInt8)) : W.grownBy (Go.Sort.putRow encStr (Go.Sort.ahead W q) g off d) (some g) := by
 refine ⟨rfl, rfl, rfl, by simp [Go.Sort.putRow, Go.Sort.mapBlock, Go.Sort.ahead], fun k hk hne => ?_⟩
 have : g ≠ k := fun e => hne (by rw [e])
 simp [Go.Sort.putRow, Go.Sort.mapBlock, Go.Sort.ahead, Array.getElem?_modify, this]
theorem grownBy_none (W : World) : W.grownBy W none := ⟨rfl, rfl, rfl, Nat.le_refl _, fun _ _ _ => rfl⟩
theorem sort_any {W : World} {base : Nat} {ok : Nat → Prop} {A : Option Addr} {c : Nat} {xs : List ByteArray} (hR : Kd.R Kd.string 9 W base ok (.slice A xs.length c) xs) (hl : xs.length < 4611686018427387904) :
  Calls Tryz.prog 53 #[.slice A xs.length c] W fun e w' => e = .returned (.tuple #[]) ∧ Kd.R Kd.string 9 w' base ok (.slice A xs.length c) (sortB xs) ∧ ∃ row, W.grownBy w' row ∧ ∀ k, row = some k → base ≤ k := by
 by_cases h0 : xs.length = 0
 ·
  obtain rfl : xs = [] := List.eq_nil_of_length_eq_zero h0
  refine (Tryz.slices_Sort_string_none A c W).mono fun e w' ⟨he, hw⟩ => ⟨he, by subst hw; rw [sortB_nil]; exact hR, none, by subst hw; exact grownBy_none _, fun k h => by cases h⟩
 ·
  have hok := hR.1
  rcases (Kd.own_of_R hR).2 with ⟨hnil, _⟩ | ⟨g, cap, cur, hv, hbase, hb, h1, h2, h3, h4⟩
  ·
   simp at hnil
   omega
  ·
   obtain ⟨rfl, rfl⟩ : A = some ⟨g, 0, none⟩ ∧ c = cap := by simpa using hv
   rw [Nat.mul_one, encs_to] at h4
   have hH : Go.Sort.Holds encStr W g 0 (xs.map (·.data.toList)).toArray := holds_of_block hb (by simpa using h4)
   have S := Tryz.slices_Sort_string g 0 c (xs.map (·.data.toList)) W hH (Array.getElem?_eq_some_iff.1 hb).1 (by simpa using hl)
   rw [List.length_map] at S
   refine S.mono fun e w' ⟨he, n, os, hw⟩ => ⟨he, ?_, some g, by rw [hw]; exact grownBy_sorted _, fun k h => by cases h; exact hbase⟩
   have hts : ((xs.map (·.data.toList)).mergeSort (fun x y => decide (x ≤ y))).length = (xs.map (·.data.toList)).length := by simp
   have O := ownsRow_sorted (w := W) (n := n) (os := os) (ss := xs.map (·.data.toList)) hts hbase hb (by simpa using h1) h2 h3
   rw [← hw, List.length_map] at O
   refine Kd.R_of_own (enc := Value.string) (h1 := fun _ => rfl) ?_ hok
   rw [sortB_len]
   unfold sortB
   rw [encs_of]
   exact O

/-! ### slices_Compact_string_string: function 54, by hand -/
-- over slices_Sort_string_string
def compB (xs : List ByteArray) : List ByteArray := ofLists (Lib.compact (xs.map (·.data.toList)))
theorem compB_nil : compB [] = [] := List.eq_nil_of_length_eq_zero (by have := Lib.compact_length_le (([] : List ByteArray).map (·.data.toList)); simp [compB, ofLists] at *; first | done | omega | exact this)
def namesB (xs : List ByteArray) : List ByteArray := compB (sortB xs)
theorem compact_any {W : World} {base : Nat} {ok : Nat → Prop} {A : Option Addr} {n c : Nat} {ys : List ByteArray} (hn : ys.length = n) (hR : Kd.R Kd.string 9 W base ok (.slice A n c) ys) (hl : n ≤ 9223372036854775807) :
  Calls Tryz.prog 54 #[.slice A n c] W fun e w' => ∃ v, e = .returned v ∧ Kd.R Kd.string 9 w' base ok v (compB ys) ∧ ∃ row, W.grownBy w' row ∧ ∀ k, row = some k → base ≤ k := by
 subst hn
 by_cases h0 : ys.length = 0
 ·
  obtain rfl : ys = [] := List.eq_nil_of_length_eq_zero h0
  refine (Tryz.slices_Compact_string_empty A c W).mono fun e w' ⟨he, hw⟩ => ⟨_, he, by subst hw; rw [compB_nil]; exact hR, none, by subst hw; exact grownBy_none _, fun k h => by cases h⟩
 ·
  have hok := hR.1
  rcases (Kd.own_of_R hR).2 with ⟨hnil, _⟩ | ⟨g, cap, cur, hv, hbase, hb, h1, h2, h3, h4⟩
  ·
   simp at hnil
   omega
  ·
   obtain ⟨rfl, rfl⟩ : A = some ⟨g, 0, none⟩ ∧ c = cap := by simpa using hv
   rw [Nat.mul_one, encs_to] at h4
   have hH : Go.Sort.Holds encStr W g 0 (ys.map fun y : ByteArray => y.data.toList).toArray := holds_of_block hb (by simpa using h4)
   have S := Tryz.slices_Compact_string g 0 c (ys.map fun y : ByteArray => y.data.toList) W hH (by simpa using hl) (by simpa using h1)
   have hle := Lib.compact_length_le (ys.map fun y : ByteArray => y.data.toList)
   rw [List.length_map] at S hle
   refine S.mono fun e w' ⟨he, q, hw⟩ => ⟨_, he, ?_, some g, by rw [hw]; exact grownBy_row _ _ _ _, fun k h => by cases h; exact hbase⟩
   have hts : (Lib.compact (ys.map fun y : ByteArray => y.data.toList) ++ List.replicate (ys.length - (Lib.compact (ys.map fun y : ByteArray => y.data.toList)).length) []).length = (ys.map fun y : ByteArray => y.data.toList).length := by simp; omega
   have O := ownsRow_sorted (w := W) (n := q) (os := #[]) (ss := ys.map fun y : ByteArray => y.data.toList) hts hbase hb (by simpa using h1) h2 h3
   rw [grow_nil, ← hw, List.length_map] at O
   have hF : (ofLists (Lib.compact (ys.map fun y : ByteArray => y.data.toList) ++ List.replicate (ys.length - (Lib.compact (ys.map fun y : ByteArray => y.data.toList)).length) [])).length = ys.length := by simp [ofLists]; omega
   have R1 : Kd.R Kd.string 9 w' base ok (.slice (some ⟨g, 0, none⟩) ys.length c) (ofLists (Lib.compact (ys.map fun y : ByteArray => y.data.toList) ++ List.replicate (ys.length - (Lib.compact (ys.map fun y : ByteArray => y.data.toList)).length) [])) := by
    refine Kd.R_of_own (enc := Value.string) (h1 := fun _ => rfl) ?_ hok
    rw [hF, encs_of]
    exact O
   have R2 := Kd.R_take R1 (m := (Lib.compact (ys.map fun y : ByteArray => y.data.toList)).length) (by rw [hF]; exact hle)
   have e2 : (ofLists (Lib.compact (ys.map fun y : ByteArray => y.data.toList) ++ List.replicate (ys.length - (Lib.compact (ys.map fun y : ByteArray => y.data.toList)).length) [])).take (Lib.compact (ys.map fun y : ByteArray => y.data.toList)).length = compB ys := by
    unfold compB ofLists
    rw [List.map_append, List.take_left' (by simp)]
   rw [e2] at R2
   exact R2

/-! ### key_Names: function 29, by hand -/
-- over 46 49 slices_Compact_string_string
def key_Names.l0 : Nat → List ByteArray → Bool → List ByteArray → Int → Int → Option (List ByteArray × Bool)
 | 0, _, _, _, _, _ => none
 | k + 1, x2, x3, x7, x8, x9 => if x9 < x8 then (if 0 ≤ x9 then (if x9 < (x7.length : Int) then (if (rdOf ByteArray.empty x7 x9).toList = ([42] : List UInt8) then (key_Names.l0 k x2 true x7 x8 (wrap64 (x9 + 1))) else ((sign_Lower.f (rdOf ByteArray.empty x7 x9)).bind fun t265 => (if x2.length < 8796093022208 then (key_Names.l0 k (x2 ++ [t265]) x3 x7 x8 (wrap64 (x9 + 1))) else (none)))) else (none)) else (none)) else ((if x2.length ≤ 1000000000000 then some (namesB x2) else (none : Option (List ByteArray))).bind fun t269 => (some (t269, x3)))
def key_Names.f (k : Nat) (l0 : List (S46)) : Option (List ByteArray × Bool) := (field_List_Elements.f k l0 (⟨#[86, 97, 114, 121]⟩ : ByteArray)).bind fun t261 => (key_Names.l0 k ([] : List ByteArray) false t261 (t261.length : Int) 0)
theorem key_Names.mono_l : ∀ k, (∀ y0 y1 y2 y3 y4, LeO (key_Names.l0 k y0 y1 y2 y3 y4) (key_Names.l0 (k + 1) y0 y1 y2 y3 y4))
 | 0 => fun _ _ _ _ _ r h => by simp [key_Names.l0] at h
 | k + 1 => by
  have ih0 := key_Names.mono_l k
  ·
   intro y0 y1 y2 y3 y4
   unfold key_Names.l0
   repeat' (with_reducible first | exact ih0 _ _ _ _ _ | exact field_List_Elements.mono _ _ _ | exact lR_ | refine LeO.ite ?_ ?_ | refine LeO.bind ?_ (fun _ => ?_))
theorem key_Names.mono : ∀ a0 k, LeO (key_Names.f k a0) (key_Names.f (k + 1) a0) := by
 intro a0 k
 have ih0 := key_Names.mono_l k
 unfold key_Names.f
 repeat' (with_reducible first | exact ih0 _ _ _ _ _ | exact field_List_Elements.mono _ _ _ | exact lR_ | refine LeO.ite ?_ ?_ | refine LeO.bind ?_ (fun _ => ?_))
set_option maxHeartbeats 8000000 in
set_option maxRecDepth 100000 in
theorem key_Names.calls (k : Nat) (A0 : Option Addr) (c0 : Nat) (l0 : List (S46)) (r1 : List ByteArray) (r2 : Bool) (w : World) (hr0 : Kd.C k46 w A0 l0.length l0) (hc0 : l0.length ≤ c0) (h : key_Names.f k l0 = some (r1, r2)) :
  Calls Tryz.prog 29 #[.slice A0 l0.length c0] w fun e w' => ∃ v0_ : Value, e = .returned (.tuple #[v0_, .bool r2]) ∧ Kd.R Kd.string 9 w' w.heap.size (fun _ => True) v0_ r1 ∧ Below w.heap.size w w' := by
 have HR0 := Aside0.mk hr0
 have HC0 := Aside0.mk hc0
 clear hr0 hc0
 have HB := Aside0.mk (Below.refl w.heap.size w)
 have H : ((field_List_Elements.f k l0 (⟨#[86, 97, 114, 121]⟩ : ByteArray)).bind fun t261 => (key_Names.l0 k ([] : List ByteArray) false t261 (t261.length : Int) 0)) = some (r1, r2) := h
 clear h
 obtain ⟨t261, A2, H⟩ := bS_ H
 try dsimp only at H
 have H' := Aside0.mk H
 clear H
 go_enter Tryz.func29, Tryz.ntmps29
 go_wp2_with (first | ((with_reducible refine gate_callee (f := 46) rfl ?_); refine goesL_ (some 7) rfl rfl Tryz.func46 (by kernel_rfl) rfl #[.slice A0 l0.length c0, .string (⟨#[86, 97, 114, 121]⟩ : ByteArray)] rfl T1_ ?_; (with_reducible refine (field_List_Elements.calls k _ _ l0 (⟨#[86, 97, 114, 121]⟩ : ByteArray) t261 _ ?side1 ?side2 A2.out).mono ?_); (case side1 => exact C1_ (HR0.out)); (case side2 => exact HC0.out); rintro e w3 ⟨v262, rfl, ho0, hb⟩; refine ⟨_, rfl, ?_⟩; have HO263 := Aside0.mk (Kd.R_lower ho0 (below_size W1_)); replace HB := y1_ hb; (try clear hb); (try clear ho0); obtain ⟨Ao4, co4, eo4⟩ := Kd.R_slice HO263.out; subst eo4))
 go_loopg [2, 3, 9] k (fun kq v2 v3 v9 w' => ∃ (x2_1 : List ByteArray) (x3_1 : Bool) (x9_1 : Int), v3 = .bool x3_1 ∧ v9 = .int .i64 x9_1 ∧ Aside0 (key_Names.l0 kq x2_1 x3_1 t261 (t261.length : Int) x9_1 = some (r1, r2)) ∧ Aside0 (kq ≤ k) ∧ Aside0 (Kd.R Kd.string 9 w' w.heap.size (fun k_ => some k_ ≠ ((.slice Ao4 t261.length co4) : Value).ownBlock) v2 x2_1) ∧ Aside0 (Kd.R Kd.string 9 w' w.heap.size (fun k_ => some k_ ≠ (v2 : Value).ownBlock) (.slice Ao4 t261.length co4) t261) ∧ Aside0 (Below w.heap.size w w'))
 case atStart => exact ⟨(([] : List ByteArray)), (false), (0), E3_, E3_, H', ⟨Nat.le_refl _⟩, ⟨by first | exact Kd.R_nil _ _ _ _ _ | exact Kd.N_nil _ _ _ _ _ | exact Kd.V_nil _ _ _ _ _ | exact Kd.Q_nil _ _ _ _ _ | exact Kd.S_nil _ _ _ _ _⟩, ⟨by refine R1_ ?_; exact Kd.R_mono HO263.out (fun _ hk => (by simp [Value.ownBlock]))⟩, ⟨W1_⟩⟩
 case round =>
  clear H'
  obtain ⟨x2_1, x3_1, x9_1, rfl, rfl, HA, HK1, HO_2, HO_7, HB⟩ := hrel
  cases gk with
  | zero => exact absurd HA.out (by simp [key_Names.l0])
  | succ k1 =>
   have H := HA.out
   clear HA
   simp only [key_Names.l0] at H
   by_cases c5 : x9_1 < (t261.length : Int)
   ·
    rw [if_pos c5] at H
    have c5b0 : decide (x9_1 < (t261.length : Int)) = true := decide_eq_true c5
    clear c5
    by_cases c6 : 0 ≤ x9_1
    ·
     rw [if_pos c6] at H
     have c6b0 : decide (0 ≤ x9_1) = true := decide_eq_true c6
     clear c6
     by_cases c7 : x9_1 < (t261.length : Int)
     ·
      rw [if_pos c7] at H
      have c7b0 : decide (x9_1 < (t261.length : Int)) = true := decide_eq_true c7
      clear c7
      by_cases c8 : (rdOf ByteArray.empty t261 x9_1).toList = ([42] : List UInt8)
      ·
       rw [if_pos c8] at H
       have c8b0 : ((rdOf ByteArray.empty t261 x9_1).toList == ([42] : List UInt8)) = true := beq_iff_eq.mpr c8
       have c8b1 : ((rdOf ByteArray.empty t261 x9_1).toList != ([42] : List UInt8)) = false := bne_eq_false_iff_eq.mpr c8
       clear c8
       have H' := Aside0.mk H
       clear H
       have p264 : 0 ≤ (x9_1 : Int) := oA_
       have q264 : x9_1 < (t261.length : Int) := oA_
       obtain ⟨ad264, e264, hx264_0⟩ := Kd.at_string (Kd.R_reads' HO_7.out).2.2 x9_1 p264 q264
       cases e264
       replace p264 := eq_true p264
       replace q264 := eq_true q264
       go_wp2
       go_roundg k1
       case measure => have := HK1.out; omega
       case rel => exact ⟨(x2_1), (true), (wrap64 (x9_1 + 1)), E3_, E3_, H', ⟨by have := HK1.out; omega⟩, ⟨R1_ HO_2.out⟩, ⟨R1_ HO_7.out⟩, ⟨W1_⟩⟩
      ·
       rw [if_neg c8] at H
       have c8b0 : ((rdOf ByteArray.empty t261 x9_1).toList == ([42] : List UInt8)) = false := beq_eq_false_iff_ne.mpr c8
       have c8b1 : ((rdOf ByteArray.empty t261 x9_1).toList != ([42] : List UInt8)) = true := bne_iff_ne.mpr c8
       obtain ⟨t265, A9, H⟩ := bS_ H
       try dsimp only at H
       by_cases c10 : x2_1.length < 8796093022208
       ·
        rw [if_pos c10] at H
        have LMc10 := Aside0.mk c10
        clear c10
        obtain ⟨y266, hy266⟩ : ∃ y_ : List ByteArray, y_ = (x2_1 ++ [t265]) := ⟨_, rfl⟩
        replace H : (key_Names.l0 k1 y266 x3_1 t261 (t261.length : Int) (wrap64 (x9_1 + 1))) = some (r1, r2) := by first | (rw [hy266]; with_reducible exact H) | (have H2_ := (Option.bind_some _ _).symm.trans H; rw [hy266]; with_reducible exact H2_) | (have H2_ := (Option.bind_some _ _).symm.trans H; with_reducible exact H2_) | with_reducible exact H | (rw [hy266]; exact H) | exact H
        have Ny266 := Aside0.mk hy266
        clear hy266
        have H' := Aside0.mk H
        clear H
        have p264 : 0 ≤ (x9_1 : Int) := oA_
        have q264 : x9_1 < (t261.length : Int) := oA_
        obtain ⟨ad264, e264, hx264_0⟩ := Kd.at_string (Kd.R_reads' HO_7.out).2.2 x9_1 p264 q264
        cases e264
        replace p264 := eq_true p264
        replace q264 := eq_true q264
        go_wp2_with (first | ((with_reducible refine gate_callee (f := 49) rfl ?_); refine goesL_ (some 17) rfl rfl Tryz.func49 (by kernel_rfl) rfl #[.string (rdOf ByteArray.empty t261 x9_1)] rfl T1_ ?_; (with_reducible refine (sign_Lower.calls (rdOf ByteArray.empty t261 x9_1) t265 _ A9.out).mono ?_); rintro e w11 ⟨rfl, hb⟩; refine ⟨_, rfl, ?_⟩; replace HO_2 := Aside0.mk (Kd.R_below (R1_ HO_2.out) hb); replace HO_7 := Aside0.mk (Kd.R_below (R1_ HO_7.out) hb); replace HB := y1_ hb; (try clear hb)) | ((with_reducible refine gate_builtin (b := .append) (xs := #[.tmp 15, .tmp 18]) rfl ?_); at_builtin; refine Kd.R_append Kd.string (w0 := w) w.heap.size rfl (.tmp 15) (.tmp 18) 22 9 (.string ⟨#[]⟩) 16 rfl Tryz.underlying22 info9 rfl (by decide) (by omega) u2 x2_1 t265 [.string t265] (fun k_ => some k_ ≠ (.slice (some ad264) t261.length co4 : Value).ownBlock) (fun _ => False) rfl rfl ?aP (fun _ hk => hk.elim) ?aF ?aO ?aB ?aS ?aL ?_; (case aP => exact rfl); (case aB => exact W1_); (case aF => exact (fun k_ hk => Kd.fresh' (Kd.R_lt (R1_ HO_7.out)) k_ hk)); (case aO => exact (R1_ HO_2.out)); (case aS => exact (below_size W1_)); (case aL => have := LMc10.out; omega); intro v267 w12 ho hb hg hat; rw [← Ny266.out] at ho; have n0_ := Aside0.mk (Kd.R_after (ok := (fun _ => True)) (by refine R1_ ?_; exact Kd.R_mono HO_7.out (fun _ hk => by first | exact ⟨trivial, hk⟩ | simp_all)) hg hat); have n1_ := Aside0.mk (hb); have n2_ := Aside0.mk (ho); clear HO_7; clear HB; clear HO_2; have HO_7 := n0_; have HB := n1_; have HO268 := n2_; clear n0_ n1_ n2_; clear ho hb hg hat))
        go_roundg k1
        case measure => have := HK1.out; omega
        case rel => exact ⟨(y266), (x3_1), (wrap64 (x9_1 + 1)), E3_, E3_, H', ⟨by have := HK1.out; omega⟩, ⟨R1_ HO268.out⟩, ⟨by refine R1_ ?_; exact Kd.R_mono HO_7.out (fun _ hk => hk.2)⟩, ⟨W1_⟩⟩
       ·
        rw [if_neg c10] at H
        exact absurd H (by simp)
     ·
      rw [if_neg c7] at H
      exact absurd H (by simp)
    ·
     rw [if_neg c6] at H
     exact absurd H (by simp)
   ·
    rw [if_neg c5] at H
    have c5b0 : decide (x9_1 < (t261.length : Int)) = false := decide_eq_false c5
    clear c5
    obtain ⟨t269, A13, H⟩ := bS_ H
    try dsimp only at H
    simp only [Option.some.injEq, Prod.mk.injEq] at H
    obtain ⟨rfl, rfl⟩ := H
    by_cases hlen : x2_1.length ≤ 1000000000000
    case neg => exact absurd A13.out (by rw [if_neg hlen]; simp)
    have hnm : namesB x2_1 = t269 := by have h_ := A13.out; rw [if_pos hlen] at h_; exact Option.some.inj h_
    obtain ⟨Ao14, co14, eo14⟩ := Kd.R_slice HO_2.out
    subst eo14
    have SRT := Aside0.mk (sort_any HO_2.out (by omega))
    have HLN := Aside0.mk hlen
    have HNM := Aside0.mk hnm
    clear hlen hnm A13
    go_wp2_with (first | (go_at_call 53; (with_reducible refine SRT.out.mono ?_); rintro e w15 ⟨rfl, hr1, row, hg, hrow⟩; have HS1 := Aside0.mk hr1; have HB1 := Aside0.mk (HB.out.grown hg HB.out.size hrow); clear hr1 hg hrow SRT) | (go_at_call 54; (with_reducible refine (compact_any (sortB_len x2_1) HS1.out (by have := HLN.out; omega)).mono ?_); rintro e w16 ⟨v9_, rfl, hr2, row, hg, hrow⟩; have HS2 := Aside0.mk hr2; have HB2 := Aside0.mk (HB1.out.grown hg HB1.out.size hrow); clear hr2 hg hrow))
    go_ret2
    exact ⟨_, rfl, by rw [← HNM.out]; exact Kd.R_mono HS2.out (fun _ _ => trivial), HB2.out⟩

/-! ### fresh_usual: function 30 -/
def fresh_usual.f (a0 : Int) : Option (Bool) := if a0 = 200 then (some true) else (if a0 = 203 then (some true) else (if a0 = 204 then (some true) else (if a0 = 300 then (some true) else (if a0 = 301 then (some true) else (if a0 = 404 then (some true) else (if a0 = 410 then (some true) else (some false)))))))
set_option maxHeartbeats 8000000 in
set_option maxRecDepth 100000 in
theorem fresh_usual.calls (a0 : Int) (r : Bool) (w : World) (h : fresh_usual.f a0 = some r) :
  Calls Tryz.prog 30 #[.int .i64 a0] w fun e w' => e = .returned (.bool r) ∧ Drawn0 w w' := by
 have H : (if a0 = 200 then (some true) else (if a0 = 203 then (some true) else (if a0 = 204 then (some true) else (if a0 = 300 then (some true) else (if a0 = 301 then (some true) else (if a0 = 404 then (some true) else (if a0 = 410 then (some true) else (some false)))))))) = some r := h
 clear h
 by_cases c2 : a0 = 200
 ·
  rw [if_pos c2] at H
  have c2b0 : (a0 == 200) = true := beq_iff_eq.mpr c2
  have c2b1 : (a0 != 200) = false := bne_eq_false_iff_eq.mpr c2
  clear c2
  obtain rfl := Option.some.inj H
  go_enter Tryz.func30, Tryz.ntmps30
  go_wp2
  go_ret
  exact ⟨E2_, D1_⟩
 ·
  rw [if_neg c2] at H
  have c2b0 : (a0 == 200) = false := beq_eq_false_iff_ne.mpr c2
  have c2b1 : (a0 != 200) = true := bne_iff_ne.mpr c2
  by_cases c3 : a0 = 203
  ·
   rw [if_pos c3] at H
   have c3b0 : (a0 == 203) = true := beq_iff_eq.mpr c3
   have c3b1 : (a0 != 203) = false := bne_eq_false_iff_eq.mpr c3
   clear c3
   obtain rfl := Option.some.inj H
   go_enter Tryz.func30, Tryz.ntmps30
   go_wp2
   go_ret
   exact ⟨E2_, D1_⟩
  ·
   rw [if_neg c3] at H
   have c3b0 : (a0 == 203) = false := beq_eq_false_iff_ne.mpr c3
   have c3b1 : (a0 != 203) = true := bne_iff_ne.mpr c3
   by_cases c4 : a0 = 204
   ·
    rw [if_pos c4] at H
    have c4b0 : (a0 == 204) = true := beq_iff_eq.mpr c4
    have c4b1 : (a0 != 204) = false := bne_eq_false_iff_eq.mpr c4
    clear c4
    obtain rfl := Option.some.inj H
    go_enter Tryz.func30, Tryz.ntmps30
    go_wp2
    go_ret
    exact ⟨E2_, D1_⟩
   ·
    rw [if_neg c4] at H
    have c4b0 : (a0 == 204) = false := beq_eq_false_iff_ne.mpr c4
    have c4b1 : (a0 != 204) = true := bne_iff_ne.mpr c4
    by_cases c5 : a0 = 300
    ·
     rw [if_pos c5] at H
     have c5b0 : (a0 == 300) = true := beq_iff_eq.mpr c5
     have c5b1 : (a0 != 300) = false := bne_eq_false_iff_eq.mpr c5
     clear c5
     obtain rfl := Option.some.inj H
     go_enter Tryz.func30, Tryz.ntmps30
     go_wp2
     go_ret
     exact ⟨E2_, D1_⟩
    ·
     rw [if_neg c5] at H
     have c5b0 : (a0 == 300) = false := beq_eq_false_iff_ne.mpr c5
     have c5b1 : (a0 != 300) = true := bne_iff_ne.mpr c5
     by_cases c6 : a0 = 301
     ·
      rw [if_pos c6] at H
      have c6b0 : (a0 == 301) = true := beq_iff_eq.mpr c6
      have c6b1 : (a0 != 301) = false := bne_eq_false_iff_eq.mpr c6
      clear c6
      obtain rfl := Option.some.inj H
      go_enter Tryz.func30, Tryz.ntmps30
      go_wp2
      go_ret
      exact ⟨E2_, D1_⟩
     ·
      rw [if_neg c6] at H
      have c6b0 : (a0 == 301) = false := beq_eq_false_iff_ne.mpr c6
      have c6b1 : (a0 != 301) = true := bne_iff_ne.mpr c6
      by_cases c7 : a0 = 404
      ·
       rw [if_pos c7] at H
       have c7b0 : (a0 == 404) = true := beq_iff_eq.mpr c7
       have c7b1 : (a0 != 404) = false := bne_eq_false_iff_eq.mpr c7
       clear c7
       obtain rfl := Option.some.inj H
       go_enter Tryz.func30, Tryz.ntmps30
       go_wp2
       go_ret
       exact ⟨E2_, D1_⟩
      ·
       rw [if_neg c7] at H
       have c7b0 : (a0 == 404) = false := beq_eq_false_iff_ne.mpr c7
       have c7b1 : (a0 != 404) = true := bne_iff_ne.mpr c7
       by_cases c8 : a0 = 410
       ·
        rw [if_pos c8] at H
        have c8b0 : (a0 == 410) = true := beq_iff_eq.mpr c8
        have c8b1 : (a0 != 410) = false := bne_eq_false_iff_eq.mpr c8
        clear c8
        obtain rfl := Option.some.inj H
        go_enter Tryz.func30, Tryz.ntmps30
        go_wp2
        go_ret
        exact ⟨E2_, D1_⟩
       ·
        rw [if_neg c8] at H
        have c8b0 : (a0 == 410) = false := beq_eq_false_iff_ne.mpr c8
        have c8b1 : (a0 != 410) = true := bne_iff_ne.mpr c8
        obtain rfl := Option.some.inj H
        go_enter Tryz.func30, Tryz.ntmps30
        go_wp2
        go_ret
        exact ⟨E2_, D1_⟩

end Go.Proofs.YtgpekljckdgggaaGreatDoor.PAll
