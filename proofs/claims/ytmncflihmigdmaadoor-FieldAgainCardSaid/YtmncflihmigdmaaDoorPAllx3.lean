-- Text by a program of this session, over what print.py prints.
import Derived.Test.YtmncflihmigdmaaDoorPAllx0
import Derived.Test.YtmncflihmigdmaaDoorPAllx2
namespace Go.Proofs.YtmncflihmigdmaaDoor.PAll
open Go.RowKit Go.Proofs.YtmncflihmigdmaaDoorW.PrintWords Go.Proofs.YtmncflihmigdmaaDoorW.PrintLast Go.Proofs.YtmncflihmigdmaaDoorW.PrintMore
attribute [local go_sem] max2_int min2_int max_two min_two max_three min_three max_four min_four   -- for this text's walks alone
set_option linter.unusedVariables false
set_option linter.unusedSimpArgs false

/-! ### field_List_With: function 18, by hand -/
-- over 36 35 14 33
/-! ### What Without comes to -/
def isOf (ns : List ByteArray) (o : S39) : Bool := ns.any fun n => sameB n o.f0
def wout (ns : List ByteArray) (l : List S39) : List S39 := l.filter fun o => !isOf ns o
theorem w64n {x : Int} (h0 : -9223372036854775808 ≤ x) (h1 : x ≤ 9223372036854775807) : wrap64 x = x := by unfold wrap64; omega
theorem wout_l0 (ns : List ByteArray) (l : List S39) (hn : ns.length ≤ 140737488351232) (hns : ∀ x ∈ ns, x.size ≤ 140737488351232) (hl : ∀ x ∈ l, x.f0.size ≤ 140737488351232) (hlen : l.length < 4398046511104) :
    ∀ (d i : Nat) (acc : List S39) (k : Nat), i + d = l.length → acc.length ≤ i → d < k →
    field_List_Without.l0 k ns acc l (l.length : Int) (i : Int) = some (acc ++ wout ns (l.drop i)) := by
  intro d
  induction d with
  | zero =>
    intro i acc k hi ha hk
    obtain ⟨k, rfl⟩ : ∃ j, k = j + 1 := ⟨k - 1, by omega⟩
    simp only [field_List_Without.l0]
    rw [if_neg (by omega), List.drop_of_length_le (by omega)]
    simp [wout]
  | succ d ih =>
    intro i acc k hi ha hk
    obtain ⟨k, rfl⟩ : ∃ j, k = j + 1 := ⟨k - 1, by omega⟩
    have hlt : i < l.length := by omega
    have hx : rd_T39 l (i : Int) = l[i] := by simp [rd_T39, hlt]
    simp only [field_List_Without.l0]
    rw [if_pos (by omega), if_pos (by omega), if_pos (by omega), hx]
    unfold field_Field_named.f
    rw [if_pos ⟨hl _ (List.getElem_mem hlt), hn, hns⟩]
    simp only [Option.bind_some]
    rw [List.drop_eq_getElem_cons hlt, w64n (by omega) (by omega)]
    by_cases hs : isOf ns l[i] = true
    · have hs' : (ns.any fun n => sameB n l[i].f0) = true := hs
      rw [if_pos hs']
      have := ih (i + 1) acc k (by omega) (by omega) (by omega)
      rw [show ((i + 1 : Nat) : Int) = (i : Int) + 1 by omega] at this
      rw [this]
      unfold wout
      rw [List.filter_cons_of_neg (by simp [hs])]
    · have hs' : ¬ (ns.any fun n => sameB n l[i].f0) = true := hs
      rw [if_neg hs', if_pos (by omega)]
      have := ih (i + 1) (acc ++ [l[i]]) k (by omega) (by simp; omega) (by omega)
      rw [show ((i + 1 : Nat) : Int) = (i : Int) + 1 by omega] at this
      rw [this]
      unfold wout
      rw [List.filter_cons_of_pos (by simp [hs]), List.append_assoc]
      rfl
theorem wout_f (ns : List ByteArray) (l : List S39) (hn : ns.length ≤ 140737488351232) (hns : ∀ x ∈ ns, x.size ≤ 140737488351232) (hl : ∀ x ∈ l, x.f0.size ≤ 140737488351232) (hlen : l.length < 4398046511104) (k : Nat) (hk : l.length < k) :
    field_List_Without.f k l ns = some (wout ns l) := by
  unfold field_List_Without.f
  have := wout_l0 ns l hn hns hl hlen l.length 0 [] k (by omega) (by simp) hk
  simpa using this
theorem C_one (W : World) (x : ByteArray) : Kd.C Kd.string (W.alloc (.cells #[.string x] 9)) (some ⟨W.heap.size, 0, none⟩) ([x] : List ByteArray).length [x] := by
  refine ⟨rfl, by simp, fun _ => ⟨_, rfl, fun j p hj => ⟨[.string p], rfl, rfl, fun i u hu => ?_⟩⟩⟩
  have hj0 : j = 0 := by
    have := (List.getElem?_eq_some_iff.1 hj).1
    simpa using this
  subst hj0
  have hi0 : i = 0 := by
    have := (List.getElem?_eq_some_iff.1 hu).1
    simpa using this
  subst hi0
  obtain rfl : x = p := by simpa using hj
  obtain rfl : Value.string x = u := by simpa using hu
  rw [add_plain]
  simp
theorem With1_calls (o : S39) (B : Nat) (nm : ByteArray) (W : World) (hx : o.f0.size ≤ 140737488351232) (hn : nm.size ≤ 140737488351232) (hc : W.cell? ⟨B, 0, none⟩ = some (.string nm)) :
    Calls Tryd.prog 37 #[.agg #[.string o.f0, .string o.f1], .pointer (some ⟨B, 0, none⟩)] W fun e w' => e = .returned (.bool (sameB nm o.f0)) ∧ Below W.heap.size W w' := by
  have hne : B < W.heap.size := World.block_lt_of_cell? W _ hc
  have hne' : B ≠ W.heap.size := by omega
  have C := field_Field_named.calls o.f0 o.f1 (some ⟨W.heap.size + 1, 0, none⟩) 1 [nm] (sameB nm o.f0) ((W.alloc (.cells #[.string o.f0, .string o.f1] 39)).alloc (.cells #[.string nm] 9))
    (by have := C_one (W.alloc (.cells #[.string o.f0, .string o.f1] 39)) nm; simpa using this) (by simp) (by
      unfold field_Field_named.f
      rw [if_pos ⟨hx, by simp, by simpa using hn⟩]
      simp)
  generalize sameB nm o.f0 = z at *
  go_enter Tryd.func37, Tryd.ntmps37
  go_wp2_with (go_at_call 33; refine C.mono ?_; rintro e w' ⟨rfl, hb'⟩)
  go_ret
  refine ⟨rfl, (((Below.refl _ W).alloc (Nat.le_refl _) _).alloc (by simp) _).trans (hb'.mono (by simp; omega))⟩
/-- One field set. -/
def withOne (l : List S39) (f : S39) : List S39 :=
  if l.any (fun o => sameB f.f0 o.f0) then l.take (l.findIdx fun o => sameB f.f0 o.f0) ++ [f] ++ wout [f.f0] (l.drop (l.findIdx (fun o => sameB f.f0 o.f0) + 1)) else l ++ [f]
theorem withOne_len (l : List S39) (f : S39) : (withOne l f).length ≤ l.length + 1 := by
  unfold withOne
  split
  · have h1 := List.length_filter_le (fun o => !isOf [f.f0] o) (l.drop (l.findIdx (fun o => sameB f.f0 o.f0) + 1))
    have h2 := List.length_take_le (l.findIdx fun o => sameB f.f0 o.f0) l
    simp only [wout, List.length_append, List.length_drop, List.length_cons, List.length_nil, List.length_take] at *
    omega
  · simp
theorem withOne_mem (l : List S39) (f x : S39) (h : x ∈ withOne l f) : x ∈ l ∨ x = f := by
  unfold withOne at h
  split at h
  · simp only [List.mem_append, List.mem_singleton, wout, List.mem_filter] at h
    rcases h with (h | h) | h
    · exact .inl (List.mem_of_mem_take h)
    · exact .inr h
    · exact .inl (List.mem_of_mem_drop h.1)
  · simp only [List.mem_append, List.mem_singleton] at h
    exact h
def withOk (l0 l1 : List S39) : Prop := l0.length + l1.length ≤ 1000000 ∧ (∀ x ∈ l0, x.f0.size ≤ 140737488351232) ∧ ∀ x ∈ l1, x.f0.size ≤ 140737488351232
instance (l0 l1 : List S39) : Decidable (withOk l0 l1) := by unfold withOk; infer_instance
def withAll (l0 l1 : List S39) : List S39 := l1.foldl withOne l0
theorem withAll_facts (l1 : List S39) : ∀ (l0 : List S39), (∀ x ∈ l0, x.f0.size ≤ 140737488351232) → (∀ x ∈ l1, x.f0.size ≤ 140737488351232) → (withAll l0 l1).length ≤ l0.length + l1.length ∧ ∀ x ∈ withAll l0 l1, x.f0.size ≤ 140737488351232 := by
  induction l1 with
  | nil => intro l0 h0 _; exact ⟨by simp [withAll], h0⟩
  | cons f l1 ih =>
    intro l0 h0 h1
    have hlen := withOne_len l0 f
    have := ih (withOne l0 f) (fun x hx => by
      rcases withOne_mem _ _ _ hx with h | rfl
      · exact h0 x h
      · exact h1 _ (by simp)) (fun x hx => h1 x (by simp [hx]))
    refine ⟨?_, this.2⟩
    have h3 := this.1
    simp only [List.length_cons]
    show (withAll (withOne l0 f) l1).length ≤ _
    omega
def field_List_With.f (l0 l1 : List S39) : Option (List S39) := if withOk l0 l1 then some (withAll l0 l1) else none
set_option maxHeartbeats 4000000 in
set_option maxRecDepth 100000 in
theorem field_List_With.calls (A0 : Option Addr) (c0 : Nat) (l0 : List S39) (A1 : Option Addr) (c1 : Nat) (l1 : List S39) (r : List S39) (w : World) (hr0 : Kd.C k39 w A0 l0.length l0) (hc0 : l0.length ≤ c0) (hr1 : Kd.C k39 w A1 l1.length l1) (hc1 : l1.length ≤ c1) (h : field_List_With.f l0 l1 = some r) :
    Calls Tryd.prog 18 #[.slice A0 l0.length c0, .slice A1 l1.length c1] w fun e w' => ∃ v0_ : Value, e = .returned (v0_) ∧ Kd.R k39 39 w' w.heap.size (fun _ => True) v0_ r ∧ Below w.heap.size w w' := by
  unfold field_List_With.f at h
  by_cases hok : withOk l0 l1
  case neg => rw [if_neg hok] at h; cases h
  rw [if_pos hok] at h
  obtain rfl := Option.some.inj h
  clear h
  obtain ⟨hlen, hn0, hn1⟩ := hok
  have HR0 := Aside0.mk hr0
  have HR1 := Aside0.mk hr1
  have HN0 := Aside0.mk hn0
  have HN1 := Aside0.mk hn1
  clear hr0 hr1 hn0 hn1
  go_enter Tryd.func18, Tryd.ntmps18
  go_wp2_with (go_at_call 35; refine (Clone_field A0 c0 l0 w HR0.out hc0 (by omega)).mono ?_; rintro e w1 ⟨v, rfl, hv, hb⟩)
  go_loopw [5, 14] (fun v5 i wr => ∃ k : Nat, k ≤ l1.length ∧ i = .int .i64 k ∧ Aside0 (Kd.R k39 39 wr w.heap.size (fun _ => True) v5 (withAll l0 (l1.take k))) ∧ Aside0 (Below w.heap.size w wr)) (fun _ i _ => l1.length - (intOf i).toNat)
  case atStart => exact ⟨0, Nat.zero_le _, rfl, ⟨by simpa [withAll] using hv⟩, ⟨hb⟩⟩
  case round =>
    obtain ⟨k, hk, rfl, HO, HB⟩ := hrel
    clear hv hb
    by_cases hlt : k < l1.length
    · have hfx := withAll_facts (l1.take k) l0 HN0.out (fun x hx => HN1.out x (List.mem_of_mem_take hx))
      have hnext : withAll l0 (l1.take (k + 1)) = withOne (withAll l0 (l1.take k)) l1[k] := by
        unfold withAll
        rw [List.take_succ_eq_append_getElem hlt, List.foldl_append]
        rfl
      have hyn := HN1.out l1[k] (List.getElem_mem hlt)
      obtain ⟨ad, rfl, g0, g1⟩ := at_T39 HR1.out (k : Int) (by omega) (by omega)
      replace g0 := pw_cell_below (HB.out) g0
      replace g1 := pw_cell_below (HB.out) g1
      have hx : rd_T39 l1 (k : Int) = l1[k] := by simp [rd_T39, hlt]
      rw [hx] at g0 g1
      simp only [Int.toNat_natCast] at g0 g1
      obtain ⟨y, hy⟩ : ∃ y, y = l1[k] := ⟨_, rfl⟩
      rw [← hy] at g0 g1 hnext hyn
      obtain ⟨xs, hxs⟩ : ∃ xs, xs = withAll l0 (l1.take k) := ⟨_, rfl⟩
      rw [← hxs] at hfx HO hnext
      have HNX := Aside0.mk hnext
      obtain ⟨hxl, hxn⟩ := hfx
      have hxl2 : xs.length ≤ 1000000 := by
        have := List.length_take_le k l1
        omega
      have HXN := Aside0.mk hxn
      clear hx hy hnext hxs hxl hxn
      obtain ⟨A, c, rfl, hlc, hC⟩ := Kd.R_reads HO.out
      have HC := Aside0.mk hC
      clear hC
      have p5 : ((0 : Int) ≤ (k : Int)) = True := eq_true (by omega)
      have q5 : ((k : Int) < (l1.length : Int)) = True := eq_true (by omega)
      have eg : ∀ args w, (callFunc 37 args).run Tryd.prog w = .ok (.enter 37 args) w := enters_of Tryd.func37 (by kernel_rfl) rfl
      go_wp2_with fail
      have hbl : Below wr.heap.size wr (wr.alloc (.cells #[.string y.f0, .string y.f1] 39)) := (Below.refl _ _).alloc (Nat.le_refl _) _
      have hblk : (wr.alloc (.cells #[.string y.f0, .string y.f1] 39)).heap[wr.heap.size]? = some (.cells #[.string y.f0, .string y.f1] 39 (0, 0)) := heap_alloc_new wr _
      obtain ⟨n, hn⟩ : ∃ n, n = wr.heap.size := ⟨_, rfl⟩
      have hng : w.heap.size ≤ n := by rw [hn]; exact HB.out.size
      have HLT : Aside0 (∀ q, (Value.slice A xs.length c).ownBlock = some q → q < n) := ⟨by rw [hn]; exact Kd.R_lt HO.out⟩
      rw [← hn] at hblk
      generalize wr.alloc (.cells #[.string y.f0, .string y.f1] 39) = W1 at *
      rw [← hn]
      clear hn
      have hb0 : W1.cell? ⟨n, 0, none⟩ = some (.string y.f0) := (blk_cell hblk 0).trans rfl
      refine (IndexFunc_field (fun o => sameB y.f0 o.f0) 37 #[.pointer (some ⟨n, 0, none⟩)] eg A c xs W1 (fun W x hx hb => With1_calls x n y.f0 W (HXN.out x hx) hyn (pw_cell_below hb hb0)) (Kd.C_below HC.out hbl) hlc (by omega)).mono ?_
      rintro e w2 ⟨rfl, hb2⟩
      have hblk2 := blk_below hblk hb2
      have HO2 := Aside0.mk (Kd.R_below (Kd.R_below HO.out hbl) hb2)
      have HB2 : Aside0 (Below w.heap.size w w2) := ⟨below_then (below_then HB.out HB.out.size hbl) (Nat.le_trans HB.out.size hbl.size) hb2⟩
      clear HO HB HC hblk hb0 hb2 hbl g0 g1
      have k0 : w2.cell? ⟨n, 0, none⟩ = some (.string y.f0) := (blk_cell hblk2 0).trans rfl
      have k1 : w2.cell? ⟨n, 1, none⟩ = some (.string y.f1) := (blk_cell hblk2 1).trans rfl
      have HBLK := Aside0.mk hblk2
      clear hblk2
      by_cases hany : xs.any (fun o => sameB y.f0 o.f0) = true
      · have hz : idxP (fun o => sameB y.f0 o.f0) xs = ((xs.findIdx fun o => sameB y.f0 o.f0 : Nat) : Int) := by unfold idxP; rw [if_pos hany]
        have hil : (xs.findIdx fun o => sameB y.f0 o.f0) < xs.length := List.findIdx_lt_length.2 (List.any_eq_true.1 hany)
        rw [hz]
        have hw1 : withOne xs y = xs.take (xs.findIdx fun o => sameB y.f0 o.f0) ++ [y] ++ wout [y.f0] (xs.drop (xs.findIdx (fun o => sameB y.f0 o.f0) + 1)) := by unfold withOne; rw [if_pos hany]
        rw [hw1] at HNX
        clear hw1 hz hany
        generalize (xs.findIdx fun o => sameB y.f0 o.f0) = i at *
        obtain ⟨g, cap, hv, hg1, hg2, _⟩ := Kd.R_form HO2.out (by omega)
        injection hv with hA _ hcc
        subst hA; subst hcc
        obtain ⟨cs, hcl, hM, hcells, hfr⟩ := Kd.R_elem HO2.out z39 (i : Int) (by omega) (by omega)
        have hgn : g < n := HLT.out g rfl
        obtain ⟨u0, u1, rfl⟩ : ∃ u0 u1, cs = [u0, u1] := by
          match cs, hcl with
          | [a, b], _ => exact ⟨a, b, rfl⟩
        have hseg := Kd.R_seg HO2.out (i : Int) (by omega) (by omega) (c := [u0, u1]) (seg := [.string y.f0, .string y.f1]) (j := 0) hcl hcells (Nat.le_refl 2) (x' := y) (okp := fun _ => False) (k39_mkM _ _ _ y) (fun _ hk => hk.elim)
        have s0 : w2.cell? ⟨g, i * 2, none⟩ = some u0 := hcells 0 u0 rfl
        have s1 : w2.cell? ⟨g, i * 2 + 1, none⟩ = some u1 := hcells 1 u1 rfl
        have t0 : w2.frozen? ⟨g, i * 2, none⟩ = false := hfr 0
        have t1 : w2.frozen? ⟨g, i * 2 + 1, none⟩ = false := hfr 1
        have hgne : g ≠ n := by omega
        have hadd : (⟨g, 0, none⟩ : Addr).add (i * 2) = ⟨g, i * 2, none⟩ := add_plain g _
        have HSEG := Aside0.mk hseg
        have p6 : ((0 : Int) ≤ (i : Int)) = True := eq_true (by omega)
        have q6 : ((i : Int) < (xs.length : Int)) = True := eq_true (by omega)
        clear hseg hcells hfr hM hcl
        -- REGION9
        go_wp2_with fail
        obtain ⟨W3, hW3⟩ : ∃ W3, W3 = (w2.setCell ⟨g, i * 2, none⟩ (.string y.f0)).setCell ⟨g, i * 2 + 1, none⟩ (.string y.f1) := ⟨_, rfl⟩
        have HO3 : Aside0 (Kd.R k39 39 W3 w.heap.size (fun _ => True) (.slice (some ⟨g, 0, none⟩) xs.length c) (xs.set i y)) := ⟨by rw [hW3]; exact HSEG.out.1⟩
        have HB3 : Aside0 (Below w.heap.size w W3) := ⟨by rw [hW3]; exact (HB2.out.setCell hg1 _).setCell hg1 _⟩
        have k3 : W3.cell? ⟨n, 0, none⟩ = some (.string y.f0) := by
          rw [hW3, World.cell?_setCell_other (h := by intro hh; exact hgne (congrArg Addr.block hh)), World.cell?_setCell_other (h := by intro hh; exact hgne (congrArg Addr.block hh))]
          exact k0
        have k3f : ∀ W, Below W3.heap.size W3 W → W.cell? ⟨n, 0, none⟩ = some (.string y.f0) := fun W hb => pw_cell_below hb k3
        rw [← hW3]
        clear hW3 HSEG s0 s1 t0 t1 k0 k1 HBLK HO2 HB2
        obtain ⟨A', hA'⟩ : ∃ A' : Option Addr, A' = if c = i + 1 then (some ⟨g, 0, none⟩ : Option Addr) else (some ⟨g, 0, none⟩ : Option Addr).map (·.add ((i + 1) * 2)) := ⟨_, rfl⟩
        have hdl : (xs.set i y).drop (i + 1) = xs.drop (i + 1) := by rw [List.drop_set, if_pos (by omega)]
        have hsl : (xs.set i y).length = xs.length := List.length_set
        have hCd : Kd.C k39 W3 A' (xs.drop (i + 1)).length (xs.drop (i + 1)) := by
          obtain ⟨_, _, hC3⟩ := Kd.R_reads' HO3.out
          have := Kd.C_drop (c := c) (m := i + 1) hC3 (by rw [hsl]; omega) (by rw [hsl]; exact hlc)
          rw [hdl] at this
          rw [hA']
          exact this
        have hdn : (xs.drop (i + 1)).length = xs.length - (i + 1) := List.length_drop
        have hcut : ∀ W, (Instr.slice 23 (.slice (some ⟨g, 0, none⟩) xs.length c) (some (.int .i64 ((i : Int) + 1))) none none).run Tryd.prog W = .ok (.slice A' (xs.drop (i + 1)).length (c - (i + 1))) W := by
          intro W
          have hel : Tryd.prog.elem 23 = 39 := by simp [Program.elem, Tryd.underlying23]
          have hu : Tryd.prog.underlying 23 = some (.slice (Tryd.prog.elem 23)) := by rw [hel]; exact Tryd.underlying23
          obtain ⟨i0, hi0, hz0⟩ := Option.map_eq_some_iff.1 info39
          simp only [Prod.mk.injEq] at hz0
          rw [run_slice_l W 23 (some ⟨g, 0, none⟩) xs.length c hu .i64 ((i : Int) + 1) (by omega) (by omega), hel, hdn, hA']
          rw [show ((i : Int) + 1).toNat = i + 1 by omega]
          simp [sizeOf, typeInfo, hi0, hz0.2.1, sliced, Result.andThen]
        have HCD := Aside0.mk hCd
        have hwi : IntKind.i64.wrap ((i : Int) + 1) = (i : Int) + 1 := IntWalk.i64_in _ (by omega)
        have hdr0 := fun x hx => HXN.out x (List.mem_of_mem_drop (i := i + 1) hx)
        have HDN := Aside0.mk hdr0
        have K3F := Aside0.mk k3f
        clear hCd hA' hdr0 k3f p6 q6 p5 q5
        refine wp_region_held_drew (S := fun W => W.cell? ⟨n, 0, none⟩ = some (.string y.f0)) (by kernel_rfl) (K3F.out _ (below_drew (Below.refl _ _))) (fun hHeld => ?_)
        refine wpAnyH_take (i := 0) (oi := _) (v := ?_) (by simp only [List.getElem?_toArray, List.getElem?_cons_succ, List.getElem?_cons_zero]; rfl) (by kernel_rfl) (by kernel_rfl) (by kernel_rfl) (by intro _ _ _ h; exact h) (Or.inl ⟨by rfl, ?_⟩) (by assumption) ?_
        rotate_left
        · intro w hSw; go_simp; try (with_reducible rfl)
        simp only [Act.put, List.setIfInBounds_toArray, List.set_cons_zero, List.set_cons_succ]
        refine wpAnyH_take (i := 1) (oi := _) (v := ?_) (by simp only [List.getElem?_toArray, List.getElem?_cons_succ, List.getElem?_cons_zero]; rfl) (by kernel_rfl) (by kernel_rfl) (by kernel_rfl) (by intro _ _ _ h; exact h) (Or.inl ⟨by rfl, ?_⟩) (by assumption) ?_
        rotate_left
        · intro w hSw; go_simp; try (with_reducible rfl)
        simp only [Act.put, List.setIfInBounds_toArray, List.set_cons_zero, List.set_cons_succ]
        refine wpAnyH_take (i := 2) (oi := _) (v := ?_) (by simp only [List.getElem?_toArray, List.getElem?_cons_succ, List.getElem?_cons_zero]; rfl) (by kernel_rfl) (by kernel_rfl) (by kernel_rfl) (by intro _ _ _ h; exact h) (Or.inl ⟨by rfl, ?_⟩) (by assumption) ?_
        rotate_left
        · intro w hSw; go_simp; try (with_reducible rfl)
        simp only [Act.put, List.setIfInBounds_toArray, List.set_cons_zero, List.set_cons_succ]
        refine wpAnyH_take (i := 3) (oi := _) (v := ?_) (by simp only [List.getElem?_toArray, List.getElem?_cons_succ, List.getElem?_cons_zero]; rfl) (by kernel_rfl) (by kernel_rfl) (by kernel_rfl) (by intro _ _ _ h; exact h) (Or.inl ⟨by rfl, ?_⟩) (by assumption) ?_
        rotate_left
        · intro w hSw; go_simp; try (with_reducible rfl)
        simp only [Act.put, List.setIfInBounds_toArray, List.set_cons_zero, List.set_cons_succ]
        refine wpAnyH_take (i := 5) (oi := _) (v := ?_) (by simp only [List.getElem?_toArray, List.getElem?_cons_succ, List.getElem?_cons_zero]; rfl) (by kernel_rfl) (by kernel_rfl) (by kernel_rfl) (by intro _ _ _ h; exact h) (Or.inl ⟨by rfl, ?_⟩) (by assumption) ?_
        rotate_left
        · intro w hSw; go_simp; try (with_reducible rfl)
        simp only [Act.put, List.setIfInBounds_toArray, List.set_cons_zero, List.set_cons_succ]
        refine wpAnyH_take (i := 6) (oi := _) (v := ?_) (by simp only [List.getElem?_toArray, List.getElem?_cons_succ, List.getElem?_cons_zero]; rfl) (by kernel_rfl) (by kernel_rfl) (by kernel_rfl) (by intro _ _ _ h; exact h) (Or.inl ⟨by rfl, ?_⟩) (by assumption) ?_
        rotate_left
        · intro w hSw; go_simp; try (with_reducible rfl)
        simp only [Act.put, List.setIfInBounds_toArray, List.set_cons_zero, List.set_cons_succ]
        have CL : ∀ W, Below W3.heap.size W3 W → Calls Tryd.prog 35 #[.slice A' (xs.length - (i + 1)) (c - (i + 1))] W fun e w' => ∃ v : Value, e = .returned v ∧ Kd.R k39 39 w' W.heap.size (fun _ => True) v (xs.drop (i + 1)) ∧ Below W.heap.size W w' := by
          intro W hb
          have := Clone_field A' (c - (i + 1)) (xs.drop (i + 1)) W (Kd.C_below HCD.out hb) (by omega) (by omega)
          rw [hdn] at this
          exact this
        have WT : ∀ (A4 : Option Addr) (c4 : Nat) (W : World) (B : Nat), Kd.C k39 W A4 (xs.drop (i + 1)).length (xs.drop (i + 1)) → (xs.drop (i + 1)).length ≤ c4 → Kd.C Kd.string W (some ⟨B, 0, none⟩) 1 [y.f0] → Calls Tryd.prog 14 #[.slice A4 (xs.length - (i + 1)) c4, .slice (some ⟨B, 0, none⟩) 1 1] W fun e w' => ∃ v : Value, e = .returned v ∧ Kd.R k39 39 w' W.heap.size (fun _ => True) v (wout [y.f0] (xs.drop (i + 1))) ∧ Below W.heap.size W w' := by
          intro A4 c4 W B h1 h2 h3
          have := field_List_Without.calls 1000001 A4 c4 (xs.drop (i + 1)) (some ⟨B, 0, none⟩) 1 [y.f0] (wout [y.f0] (xs.drop (i + 1))) W h1 h2 h3 (by simp) (wout_f [y.f0] (xs.drop (i + 1)) (by simp) (by simpa using hyn) (fun x hx => HDN.out x hx) (by omega) 1000001 (by omega))
          rw [hdn] at this
          exact this
        refine wpAnyH_ready (rs := [4, 7]) (by kernel_rfl) (by simp) ?_
        refine AllReadyH.cons (o := _) (by simp only [List.getElem?_toArray, List.getElem?_cons_succ, List.getElem?_cons_zero]; rfl) (fun K hK => ?_) ?_
        · go_simp
          go_at_call 35
          refine (CL _ (below_drew (Below.refl _ _))).mono ?_
          rintro e w4 ⟨v4, rfl, hv4, hb4⟩
          obtain ⟨A4, c4, hv4e, hl4, hC4⟩ := Kd.R_reads hv4
          rw [hdn] at hv4e
          subst hv4e
          have hB4 : Below W3.heap.size W3 w4 := below_then (below_drew (Below.refl _ _)) (Nat.le_refl _) hb4
          (try go_simp)
          refine hK.out _ _ (K3F.out _ hB4) (fun hHeld2 => ?_)
          clear hK K
          (try simp only [Act.put, List.setIfInBounds_toArray, List.set_cons_zero, List.set_cons_succ])
          refine wpAnyH_ready (rs := [7]) (by kernel_rfl) (by simp) ?_
          refine AllReadyH.cons (o := _) (by simp only [List.getElem?_toArray, List.getElem?_cons_succ, List.getElem?_cons_zero]; rfl) (fun K hK => ?_) ?_
          rotate_left
          · exact AllReadyH.nil
          go_simp
          have hB5 : Below W3.heap.size W3 (w4.alloc (.cells #[.string y.f0] 9)) := hB4.alloc hB4.size _
          (try go_simp)
          refine hK.out _ _ (K3F.out _ hB5) (fun hHeld2 => ?_)
          clear hK K
          (try simp only [Act.put, List.setIfInBounds_toArray, List.set_cons_zero, List.set_cons_succ])
          refine wpAnyH_ready (rs := [8]) (by kernel_rfl) (by simp) ?_
          refine AllReadyH.cons (o := _) (by simp only [List.getElem?_toArray, List.getElem?_cons_succ, List.getElem?_cons_zero]; rfl) (fun K hK => ?_) ?_
          rotate_left
          · exact AllReadyH.nil
          go_simp
          go_at_call 14
          refine (WT A4 c4 _ _ (Kd.C_below hC4 ((Below.refl _ _).alloc (Nat.le_refl _) _)) hl4 (C_one w4 y.f0)).mono ?_
          rintro e w8 ⟨v8, rfl, hv8, hb8⟩
          have hB8 : Below W3.heap.size W3 w8 := below_then hB5 hB5.size hb8
          (try go_simp)
          refine hK.out _ _ (K3F.out _ hB8) (fun hHeld2 => ?_)
          clear hK K
          (try simp only [Act.put, List.setIfInBounds_toArray, List.set_cons_zero, List.set_cons_succ])
          refine wpAnyH_take (i := 9) (oi := _) (v := ?_) (by simp only [List.getElem?_toArray, List.getElem?_cons_succ, List.getElem?_cons_zero]; rfl) (by kernel_rfl) (by kernel_rfl) (by kernel_rfl) (by intro _ _ _ h; exact h) (Or.inl ⟨by rfl, ?_⟩) (by assumption) ?_
          rotate_left
          · intro w hSw; go_simp; try (with_reducible rfl)
          simp only [Act.put, List.setIfInBounds_toArray, List.set_cons_zero, List.set_cons_succ]
          refine wpAnyH_done (by kernel_rfl) ?_ _
          obtain ⟨A8, c8, hv8e, hl8, hC8⟩ := Kd.R_reads hv8
          have hzl : (wout [y.f0] (xs.drop (i + 1))).length ≤ 1000000 := by
            have := List.length_filter_le (fun o => !isOf [y.f0] o) (xs.drop (i + 1))
            show (List.filter _ _).length ≤ _
            omega
          have HNX2 := Aside0.mk HNX.out
          obtain ⟨zs, hzs⟩ : ∃ zs, zs = wout [y.f0] (xs.drop (i + 1)) := ⟨_, rfl⟩
          have HZS := Aside0.mk hzs
          rw [← hzs] at hv8e hl8 hC8 hzl
          clear hzs
          subst hv8e
          have htk : (xs.set i y).take (i + 1) = xs.take i ++ [y] := by
            rw [List.take_succ_eq_append_getElem (by rw [hsl]; omega), List.getElem_set_self, List.take_set_of_le (Nat.le_refl _)]
          have HO8 := Kd.R_take (m := i + 1) (Kd.R_below HO3.out hB8) (by rw [hsl]; omega)
          rw [htk] at HO8
          have HO9 := Aside0.mk HO8
          have HB8 := Aside0.mk (below_then HB3.out HB3.out.size hB8)
          have HC8 := Aside0.mk hC8
          have htake : ∀ W, (Instr.slice 23 (.slice (some ⟨g, 0, none⟩) xs.length c) none (some (.int .i64 ((i : Int) + 1))) none).run Tryd.prog W = .ok (.slice (some ⟨g, 0, none⟩) (i + 1) c) W := by
            intro W
            have hel : Tryd.prog.elem 23 = 39 := by simp [Program.elem, Tryd.underlying23]
            have hu : Tryd.prog.underlying 23 = some (.slice (Tryd.prog.elem 23)) := by rw [hel]; exact Tryd.underlying23
            obtain ⟨i0, hi0, hz0⟩ := Option.map_eq_some_iff.1 info39
            simp only [Prod.mk.injEq] at hz0
            rw [run_slice_h W 23 (some ⟨g, 0, none⟩) xs.length c hu .i64 ((i : Int) + 1) (by omega) (by omega), hel]
            rw [show ((i : Int) + 1).toNat = i + 1 by omega]
            simp [sizeOf, typeInfo, hi0, hz0.2.1, sliced, Result.andThen, add_plain]
          have hli : (xs.take i ++ [y]).length ≤ 1000001 := by simp; omega
          clear hC8 HO8 htk hl8 hv8 hb8 hB8 hHeld hHeld2 hwi hcut CL WT
          go_wp2_with ((with_reducible refine gate_builtin (b := .append) (xs := #[.tmp 43, .tmp 44]) rfl ?_); at_builtin; refine Kd.R_append_rows k39 (w0 := w) w.heap.size rfl (.tmp 43) (.tmp 44) 23 39 (.agg #[.string ⟨#[]⟩, .string ⟨#[]⟩]) 32 rfl Tryd.underlying23 info39 rfl (by decide) (by omega) (.slice (some ⟨g, 0, none⟩) (i + 1) c) (xs.take i ++ [y]) zs A8 zs.length c8 (fun _ => True) (fun _ => False) rfl rfl HO9.out HC8.out (fun x cs hk => by obtain rfl := k39_open hk; exact k39_mkM _ _ _ _) (fun _ hk => hk.elim) (fun _ _ => trivial) HB8.out HB8.out.size (by omega) ?_; intro v9 w9 ho hb hg hat; clear hg hat)
          go_roundw
          case rel => exact ⟨k + 1, by omega, by simp, ⟨by rw [HNX2.out, ← HZS.out]; exact ho⟩, ⟨hb⟩⟩
          case measure => simp [intOf]; omega
        refine AllReadyH.cons (o := _) (by simp only [List.getElem?_toArray, List.getElem?_cons_succ, List.getElem?_cons_zero]; rfl) (fun K hK => ?_) ?_
        · go_simp
          have hB5 : Below W3.heap.size W3 (W3.drew.alloc (.cells #[.string y.f0] 9)) := (below_drew (Below.refl _ _)).alloc (by simp) _
          (try go_simp)
          refine hK.out _ _ (K3F.out _ hB5) (fun hHeld2 => ?_)
          clear hK K
          (try simp only [Act.put, List.setIfInBounds_toArray, List.set_cons_zero, List.set_cons_succ])
          refine wpAnyH_ready (rs := [4]) (by kernel_rfl) (by simp) ?_
          refine AllReadyH.cons (o := _) (by simp only [List.getElem?_toArray, List.getElem?_cons_succ, List.getElem?_cons_zero]; rfl) (fun K hK => ?_) ?_
          rotate_left
          · exact AllReadyH.nil
          go_simp
          go_at_call 35
          refine (CL _ hB5).mono ?_
          rintro e w4 ⟨v4, rfl, hv4, hb4⟩
          obtain ⟨A4, c4, hv4e, hl4, hC4⟩ := Kd.R_reads hv4
          rw [hdn] at hv4e
          subst hv4e
          have hB4 : Below W3.heap.size W3 w4 := below_then hB5 hB5.size hb4
          (try go_simp)
          refine hK.out _ _ (K3F.out _ hB4) (fun hHeld2 => ?_)
          clear hK K
          (try simp only [Act.put, List.setIfInBounds_toArray, List.set_cons_zero, List.set_cons_succ])
          refine wpAnyH_ready (rs := [8]) (by kernel_rfl) (by simp) ?_
          refine AllReadyH.cons (o := _) (by simp only [List.getElem?_toArray, List.getElem?_cons_succ, List.getElem?_cons_zero]; rfl) (fun K hK => ?_) ?_
          rotate_left
          · exact AllReadyH.nil
          go_simp
          go_at_call 14
          refine (WT A4 c4 _ _ hC4 hl4 (Kd.C_below (C_one W3.drew y.f0) hb4)).mono ?_
          rintro e w8 ⟨v8, rfl, hv8, hb8⟩
          have hB8 : Below W3.heap.size W3 w8 := below_then hB4 hB4.size hb8
          (try go_simp)
          refine hK.out _ _ (K3F.out _ hB8) (fun hHeld2 => ?_)
          clear hK K
          (try simp only [Act.put, List.setIfInBounds_toArray, List.set_cons_zero, List.set_cons_succ])
          refine wpAnyH_take (i := 9) (oi := _) (v := ?_) (by simp only [List.getElem?_toArray, List.getElem?_cons_succ, List.getElem?_cons_zero]; rfl) (by kernel_rfl) (by kernel_rfl) (by kernel_rfl) (by intro _ _ _ h; exact h) (Or.inl ⟨by rfl, ?_⟩) (by assumption) ?_
          rotate_left
          · intro w hSw; go_simp; try (with_reducible rfl)
          simp only [Act.put, List.setIfInBounds_toArray, List.set_cons_zero, List.set_cons_succ]
          refine wpAnyH_done (by kernel_rfl) ?_ _
          obtain ⟨A8, c8, hv8e, hl8, hC8⟩ := Kd.R_reads hv8
          have hzl : (wout [y.f0] (xs.drop (i + 1))).length ≤ 1000000 := by
            have := List.length_filter_le (fun o => !isOf [y.f0] o) (xs.drop (i + 1))
            show (List.filter _ _).length ≤ _
            omega
          have HNX2 := Aside0.mk HNX.out
          obtain ⟨zs, hzs⟩ : ∃ zs, zs = wout [y.f0] (xs.drop (i + 1)) := ⟨_, rfl⟩
          have HZS := Aside0.mk hzs
          rw [← hzs] at hv8e hl8 hC8 hzl
          clear hzs
          subst hv8e
          have htk : (xs.set i y).take (i + 1) = xs.take i ++ [y] := by
            rw [List.take_succ_eq_append_getElem (by rw [hsl]; omega), List.getElem_set_self, List.take_set_of_le (Nat.le_refl _)]
          have HO8 := Kd.R_take (m := i + 1) (Kd.R_below HO3.out hB8) (by rw [hsl]; omega)
          rw [htk] at HO8
          have HO9 := Aside0.mk HO8
          have HB8 := Aside0.mk (below_then HB3.out HB3.out.size hB8)
          have HC8 := Aside0.mk hC8
          have htake : ∀ W, (Instr.slice 23 (.slice (some ⟨g, 0, none⟩) xs.length c) none (some (.int .i64 ((i : Int) + 1))) none).run Tryd.prog W = .ok (.slice (some ⟨g, 0, none⟩) (i + 1) c) W := by
            intro W
            have hel : Tryd.prog.elem 23 = 39 := by simp [Program.elem, Tryd.underlying23]
            have hu : Tryd.prog.underlying 23 = some (.slice (Tryd.prog.elem 23)) := by rw [hel]; exact Tryd.underlying23
            obtain ⟨i0, hi0, hz0⟩ := Option.map_eq_some_iff.1 info39
            simp only [Prod.mk.injEq] at hz0
            rw [run_slice_h W 23 (some ⟨g, 0, none⟩) xs.length c hu .i64 ((i : Int) + 1) (by omega) (by omega), hel]
            rw [show ((i : Int) + 1).toNat = i + 1 by omega]
            simp [sizeOf, typeInfo, hi0, hz0.2.1, sliced, Result.andThen, add_plain]
          have hli : (xs.take i ++ [y]).length ≤ 1000001 := by simp; omega
          clear hC8 HO8 htk hl8 hv8 hb8 hB8 hHeld hHeld2 hwi hcut CL WT
          go_wp2_with ((with_reducible refine gate_builtin (b := .append) (xs := #[.tmp 43, .tmp 44]) rfl ?_); at_builtin; refine Kd.R_append_rows k39 (w0 := w) w.heap.size rfl (.tmp 43) (.tmp 44) 23 39 (.agg #[.string ⟨#[]⟩, .string ⟨#[]⟩]) 32 rfl Tryd.underlying23 info39 rfl (by decide) (by omega) (.slice (some ⟨g, 0, none⟩) (i + 1) c) (xs.take i ++ [y]) zs A8 zs.length c8 (fun _ => True) (fun _ => False) rfl rfl HO9.out HC8.out (fun x cs hk => by obtain rfl := k39_open hk; exact k39_mkM _ _ _ _) (fun _ hk => hk.elim) (fun _ _ => trivial) HB8.out HB8.out.size (by omega) ?_; intro v9 w9 ho hb hg hat; clear hg hat)
          go_roundw
          case rel => exact ⟨k + 1, by omega, by simp, ⟨by rw [HNX2.out, ← HZS.out]; exact ho⟩, ⟨hb⟩⟩
          case measure => simp [intOf]; omega
        exact AllReadyH.nil
      · have hz : idxP (fun o => sameB y.f0 o.f0) xs = -1 := by unfold idxP; rw [if_neg hany]
        rw [hz]
        have hw1 : withOne xs y = xs ++ [y] := by unfold withOne; rw [if_neg hany]
        rw [hw1] at HNX
        clear hw1 hz hany
        go_wp2_with ((with_reducible refine gate_builtin (b := .append) (xs := #[.tmp 23, .tmp 25]) rfl ?_); at_builtin; refine Kd.R_append k39 (w0 := w) w.heap.size rfl (.tmp 23) (.tmp 25) 23 39 (.agg #[.string ⟨#[]⟩, .string ⟨#[]⟩]) 32 rfl Tryd.underlying23 info39 rfl (by decide) (by omega) (.slice A xs.length c) xs y [.string y.f0, .string y.f1] (fun _ => True) (fun _ => False) rfl rfl (k39_mkM _ _ _ y) (fun _ hk => hk.elim) (fun _ _ => trivial) HO2.out HB2.out HB2.out.size (by omega) ?_; intro v3 w3 ho hb hg hat; clear hg hat)
        go_roundw
        case rel => exact ⟨k + 1, by omega, by simp, ⟨by rw [HNX.out]; exact ho⟩, ⟨hb⟩⟩
        case measure => simp [intOf]; omega
    · have q5 : ((k : Int) < (l1.length : Int)) = False := eq_false (by omega)
      have hkl : k = l1.length := by omega
      subst hkl
      go_wp2
      go_ret
      exact ⟨_, rfl, by have := HO.out; rwa [List.take_length] at this, HB.out⟩

/-! ### sign_letter: function 55 -/
def sign_letter.f (a0 : Int) : Option (Bool) := if a0 ≥ 97 then (if a0 ≤ 122 then (some true) else (if a0 ≥ 65 then (if a0 ≤ 90 then (some true) else (if a0 ≥ 48 then (some (decide (a0 ≤ 57))) else (some false))) else (if a0 ≥ 48 then (some (decide (a0 ≤ 57))) else (some false)))) else (if a0 ≥ 65 then (if a0 ≤ 90 then (some true) else (if a0 ≥ 48 then (some (decide (a0 ≤ 57))) else (some false))) else (if a0 ≥ 48 then (some (decide (a0 ≤ 57))) else (some false)))
set_option maxHeartbeats 8000000 in
set_option maxRecDepth 100000 in
theorem sign_letter.calls (a0 : Int) (r : Bool) (w : World) (h : sign_letter.f a0 = some r) :
    Calls Tryd.prog 55 #[.int .u8 a0] w fun e w' => e = .returned (.bool r) ∧ Drawn0 w w' := by
  have H : (if a0 ≥ 97 then (if a0 ≤ 122 then (some true) else (if a0 ≥ 65 then (if a0 ≤ 90 then (some true) else (if a0 ≥ 48 then (some (decide (a0 ≤ 57))) else (some false))) else (if a0 ≥ 48 then (some (decide (a0 ≤ 57))) else (some false)))) else (if a0 ≥ 65 then (if a0 ≤ 90 then (some true) else (if a0 ≥ 48 then (some (decide (a0 ≤ 57))) else (some false))) else (if a0 ≥ 48 then (some (decide (a0 ≤ 57))) else (some false)))) = some r := h
  clear h
  by_cases c2 : a0 ≥ 97
  · rw [if_pos c2] at H
    have c2b0 : decide (97 ≤ a0) = true := decide_eq_true c2
    clear c2
    by_cases c3 : a0 ≤ 122
    · rw [if_pos c3] at H
      have c3b0 : decide (a0 ≤ 122) = true := decide_eq_true c3
      clear c3
      obtain rfl := Option.some.inj H
      go_enter Tryd.func55, Tryd.ntmps55
      go_wp2
      go_ret
      exact ⟨by first | rfl | (simp; done) | (simp [*]; done) | (generalize ByteArray.toList _ = l_; cases l_ <;> rfl), by repeat (first | exact Drawn0.refl _ | apply Drawn0.step)⟩
    · rw [if_neg c3] at H
      have c3b0 : decide (a0 ≤ 122) = false := decide_eq_false c3
      clear c3
      by_cases c4 : a0 ≥ 65
      · rw [if_pos c4] at H
        have c4b0 : decide (65 ≤ a0) = true := decide_eq_true c4
        clear c4
        by_cases c5 : a0 ≤ 90
        · rw [if_pos c5] at H
          have c5b0 : decide (a0 ≤ 90) = true := decide_eq_true c5
          clear c5
          obtain rfl := Option.some.inj H
          go_enter Tryd.func55, Tryd.ntmps55
          go_wp2
          go_ret
          exact ⟨by first | rfl | (simp; done) | (simp [*]; done) | (generalize ByteArray.toList _ = l_; cases l_ <;> rfl), by repeat (first | exact Drawn0.refl _ | apply Drawn0.step)⟩
        · rw [if_neg c5] at H
          have c5b0 : decide (a0 ≤ 90) = false := decide_eq_false c5
          clear c5
          by_cases c6 : a0 ≥ 48
          · rw [if_pos c6] at H
            have c6b0 : decide (48 ≤ a0) = true := decide_eq_true c6
            clear c6
            obtain rfl := Option.some.inj H
            go_enter Tryd.func55, Tryd.ntmps55
            go_wp2
            go_ret
            exact ⟨by first | rfl | (simp; done) | (simp [*]; done) | (generalize ByteArray.toList _ = l_; cases l_ <;> rfl), by repeat (first | exact Drawn0.refl _ | apply Drawn0.step)⟩
          · rw [if_neg c6] at H
            have c6b0 : decide (48 ≤ a0) = false := decide_eq_false c6
            clear c6
            obtain rfl := Option.some.inj H
            go_enter Tryd.func55, Tryd.ntmps55
            go_wp2
            go_ret
            exact ⟨by first | rfl | (simp; done) | (simp [*]; done) | (generalize ByteArray.toList _ = l_; cases l_ <;> rfl), by repeat (first | exact Drawn0.refl _ | apply Drawn0.step)⟩
      · rw [if_neg c4] at H
        have c4b0 : decide (65 ≤ a0) = false := decide_eq_false c4
        clear c4
        by_cases c7 : a0 ≥ 48
        · rw [if_pos c7] at H
          have c7b0 : decide (48 ≤ a0) = true := decide_eq_true c7
          clear c7
          obtain rfl := Option.some.inj H
          go_enter Tryd.func55, Tryd.ntmps55
          go_wp2
          go_ret
          exact ⟨by first | rfl | (simp; done) | (simp [*]; done) | (generalize ByteArray.toList _ = l_; cases l_ <;> rfl), by repeat (first | exact Drawn0.refl _ | apply Drawn0.step)⟩
        · rw [if_neg c7] at H
          have c7b0 : decide (48 ≤ a0) = false := decide_eq_false c7
          clear c7
          obtain rfl := Option.some.inj H
          go_enter Tryd.func55, Tryd.ntmps55
          go_wp2
          go_ret
          exact ⟨by first | rfl | (simp; done) | (simp [*]; done) | (generalize ByteArray.toList _ = l_; cases l_ <;> rfl), by repeat (first | exact Drawn0.refl _ | apply Drawn0.step)⟩
  · rw [if_neg c2] at H
    have c2b0 : decide (97 ≤ a0) = false := decide_eq_false c2
    clear c2
    by_cases c8 : a0 ≥ 65
    · rw [if_pos c8] at H
      have c8b0 : decide (65 ≤ a0) = true := decide_eq_true c8
      clear c8
      by_cases c9 : a0 ≤ 90
      · rw [if_pos c9] at H
        have c9b0 : decide (a0 ≤ 90) = true := decide_eq_true c9
        clear c9
        obtain rfl := Option.some.inj H
        go_enter Tryd.func55, Tryd.ntmps55
        go_wp2
        go_ret
        exact ⟨by first | rfl | (simp; done) | (simp [*]; done) | (generalize ByteArray.toList _ = l_; cases l_ <;> rfl), by repeat (first | exact Drawn0.refl _ | apply Drawn0.step)⟩
      · rw [if_neg c9] at H
        have c9b0 : decide (a0 ≤ 90) = false := decide_eq_false c9
        clear c9
        by_cases c10 : a0 ≥ 48
        · rw [if_pos c10] at H
          have c10b0 : decide (48 ≤ a0) = true := decide_eq_true c10
          clear c10
          obtain rfl := Option.some.inj H
          go_enter Tryd.func55, Tryd.ntmps55
          go_wp2
          go_ret
          exact ⟨by first | rfl | (simp; done) | (simp [*]; done) | (generalize ByteArray.toList _ = l_; cases l_ <;> rfl), by repeat (first | exact Drawn0.refl _ | apply Drawn0.step)⟩
        · rw [if_neg c10] at H
          have c10b0 : decide (48 ≤ a0) = false := decide_eq_false c10
          clear c10
          obtain rfl := Option.some.inj H
          go_enter Tryd.func55, Tryd.ntmps55
          go_wp2
          go_ret
          exact ⟨by first | rfl | (simp; done) | (simp [*]; done) | (generalize ByteArray.toList _ = l_; cases l_ <;> rfl), by repeat (first | exact Drawn0.refl _ | apply Drawn0.step)⟩
    · rw [if_neg c8] at H
      have c8b0 : decide (65 ≤ a0) = false := decide_eq_false c8
      clear c8
      by_cases c11 : a0 ≥ 48
      · rw [if_pos c11] at H
        have c11b0 : decide (48 ≤ a0) = true := decide_eq_true c11
        clear c11
        obtain rfl := Option.some.inj H
        go_enter Tryd.func55, Tryd.ntmps55
        go_wp2
        go_ret
        exact ⟨by first | rfl | (simp; done) | (simp [*]; done) | (generalize ByteArray.toList _ = l_; cases l_ <;> rfl), by repeat (first | exact Drawn0.refl _ | apply Drawn0.step)⟩
      · rw [if_neg c11] at H
        have c11b0 : decide (48 ≤ a0) = false := decide_eq_false c11
        clear c11
        obtain rfl := Option.some.inj H
        go_enter Tryd.func55, Tryd.ntmps55
        go_wp2
        go_ret
        exact ⟨by first | rfl | (simp; done) | (simp [*]; done) | (generalize ByteArray.toList _ = l_; cases l_ <;> rfl), by repeat (first | exact Drawn0.refl _ | apply Drawn0.step)⟩

/-! ### strings_IndexByte: function 56, by hand -/
def strings_IndexByte.f (a0 : ByteArray) (a1 : Int) : Option Int := some (Lib.indexByte a0.data.toList a1.toNat.toUInt8)
theorem strings_IndexByte.calls (a0 : ByteArray) (a1 : Int) (r : Int) (w : World) (h : strings_IndexByte.f a0 a1 = some r) :
    Calls Tryd.prog 56 #[.string a0, .int .u8 a1] w fun e w' => e = .returned (.int .i64 r) ∧ Drawn0 w w' := by
  obtain rfl := Option.some.inj h
  exact (Tryd.strings_IndexByte a0 a1 w).mono fun e w' ⟨he, hw⟩ => ⟨he, by subst hw; exact Drawn0.refl _⟩

/-! ### sign_Token: function 38 -/
def sign_Token.l0 : Nat → ByteArray → Int → Int → Option (Bool)
  | 0, _, _, _ => none
  | k + 1, x0, x5, x6 => if x6 < x5 then (if 0 ≤ x6 then (if x6 < (x0.size : Int) then ((sign_letter.f (bt x0 x6)).bind fun t122 => (if t122 = true then (sign_Token.l0 k x0 x5 (wrap64 (x6 + 1))) else ((strings_IndexByte.f (⟨#[33, 35, 36, 37, 38, 39, 42, 43, 45, 46, 94, 95, 124, 126, 96]⟩ : ByteArray) (bt x0 x6)).bind fun t123 => (if t123 < 0 then (some false) else (sign_Token.l0 k x0 x5 (wrap64 (x6 + 1))))))) else (none)) else (none)) else (some (x0.toList != ([] : List UInt8)))
def sign_Token.f (k : Nat) (a0 : ByteArray) : Option (Bool) := sign_Token.l0 k a0 (a0.size : Int) 0
theorem sign_Token.mono_l : ∀ k, (∀ y0 y1 y2, LeO (sign_Token.l0 k y0 y1 y2) (sign_Token.l0 (k + 1) y0 y1 y2))
  | 0 => fun _ _ _ r h => by simp [sign_Token.l0] at h
  | k + 1 => by
    have ih0 := sign_Token.mono_l k
    · intro y0 y1 y2
      unfold sign_Token.l0
      repeat' first
      | (with_reducible exact ih0 _ _ _)
      | (with_reducible exact LeO.refl _)
      | (with_reducible exact LeO.none _)
      | (with_reducible refine LeO.ite ?_ ?_)
      | (with_reducible refine LeO.bind ?_ (fun _ => ?_))
      | exact ih0 _ _ _
      | exact LeO.none _
      | refine LeO.ite ?_ ?_
      | refine LeO.bind ?_ (fun _ => ?_)
theorem sign_Token.mono : ∀ a0 k, LeO (sign_Token.f k a0) (sign_Token.f (k + 1) a0) := by
  intro a0 k
  have ih0 := sign_Token.mono_l k
  unfold sign_Token.f
  repeat' first
      | (with_reducible exact ih0 _ _ _)
      | (with_reducible exact LeO.refl _)
      | (with_reducible exact LeO.none _)
      | (with_reducible refine LeO.ite ?_ ?_)
      | (with_reducible refine LeO.bind ?_ (fun _ => ?_))
      | exact ih0 _ _ _
      | exact LeO.none _
      | refine LeO.ite ?_ ?_
      | refine LeO.bind ?_ (fun _ => ?_)
set_option maxHeartbeats 8000000 in
set_option maxRecDepth 100000 in
theorem sign_Token.calls (k : Nat) (a0 : ByteArray) (r : Bool) (w : World) (h : sign_Token.f k a0 = some r) :
    Calls Tryd.prog 38 #[.string a0] w fun e w' => e = .returned (.bool r) ∧ Drawn0 w w' := by
  have H : (sign_Token.l0 k a0 (a0.size : Int) 0) = some r := h
  clear h
  have H' := Aside0.mk H
  clear H
  go_enter Tryd.func38, Tryd.ntmps38
  go_wp2
  go_loopg [6] k (fun kq v6 w' => ∃ (x6_1 : Int), v6 = .int .i64 x6_1 ∧ Aside0 (sign_Token.l0 kq a0 (a0.size : Int) x6_1 = some r) ∧ Aside0 (kq ≤ k) ∧ Drawn0 w w')
  case atStart => exact ⟨(0), (by first | rfl | (simp; done) | (simp [*]; done)), H', ⟨Nat.le_refl _⟩, by repeat (first | exact Drawn0.refl _ | apply Drawn0.step)⟩
  case round =>
    clear H'
    obtain ⟨x6_1, rfl, HA, HK1, ⟨m1, rfl⟩⟩ := hrel
    cases gk with
    | zero => exact absurd HA.out (by simp [sign_Token.l0])
    | succ k1 =>
      have H := HA.out
      clear HA
      simp only [sign_Token.l0] at H
      by_cases c2 : x6_1 < (a0.size : Int)
      · rw [if_pos c2] at H
        have c2b0 : decide (x6_1 < (a0.size : Int)) = true := decide_eq_true c2
        clear c2
        by_cases c3 : 0 ≤ x6_1
        · rw [if_pos c3] at H
          have c3b0 : decide (0 ≤ x6_1) = true := decide_eq_true c3
          clear c3
          by_cases c4 : x6_1 < (a0.size : Int)
          · rw [if_pos c4] at H
            have c4b0 : decide (x6_1 < (a0.size : Int)) = true := decide_eq_true c4
            clear c4
            replace H := Option.bind_eq_some_iff.mp H
            obtain ⟨t122, A60, H⟩ := H
            replace H : (if t122 = true then (sign_Token.l0 k1 a0 (a0.size : Int) (wrap64 (x6_1 + 1))) else ((strings_IndexByte.f (⟨#[33, 35, 36, 37, 38, 39, 42, 43, 45, 46, 94, 95, 124, 126, 96]⟩ : ByteArray) (bt a0 x6_1)).bind fun t123 => (if t123 < 0 then (some false) else (sign_Token.l0 k1 a0 (a0.size : Int) (wrap64 (x6_1 + 1)))))) = some r := H
            have A6 := Aside0.mk A60
            clear A60
            by_cases c7 : t122 = true
            · subst c7
              have H1 : (sign_Token.l0 k1 a0 (a0.size : Int) (wrap64 (x6_1 + 1))) = some r := by rw [if_pos rfl] at H; exact H
              clear H
              have H := H1
              clear H1
              have H' := Aside0.mk H
              clear H
              have p5 : 0 ≤ (x6_1 : Int) := of_decide_eq_true (by first | (with_reducible assumption) | assumption)
              have q5 : x6_1 < (a0.size : Int) := of_decide_eq_true (by first | (with_reducible assumption) | assumption)
              have hx5 := bt_at a0 x6_1
              replace p5 := eq_true p5
              replace q5 := eq_true q5
              go_wp2_with (first | ((with_reducible refine gate_callee (f := 55) rfl ?_); refine goesL_ (some 12) rfl rfl Tryd.func55 (by kernel_rfl) rfl #[.int .u8 (bt a0 x6_1)] rfl (by (try simp only [List.map_toArray, List.map_cons, List.map_nil]); first | done | rfl | (simp only [List.length_drop, List.length_take]; rfl)) ?_; (with_reducible refine (sign_letter.calls (bt a0 x6_1) true _ A6.out).mono ?_); rintro e w' ⟨rfl, ⟨nd, rfl⟩⟩; refine ⟨_, rfl, ?_⟩))
              go_roundg k1
              case measure => have := HK1.out; omega
              case rel => exact ⟨(wrap64 (x6_1 + 1)), (by first | rfl | (simp; done) | (simp [*]; done)), H', ⟨by have := HK1.out; omega⟩, by repeat (first | exact Drawn0.refl _ | apply Drawn0.step)⟩
            · replace c7 := Bool.eq_false_iff.mpr c7
              subst c7
              have H1 : ((strings_IndexByte.f (⟨#[33, 35, 36, 37, 38, 39, 42, 43, 45, 46, 94, 95, 124, 126, 96]⟩ : ByteArray) (bt a0 x6_1)).bind fun t123 => (if t123 < 0 then (some false) else (sign_Token.l0 k1 a0 (a0.size : Int) (wrap64 (x6_1 + 1))))) = some r := by rw [if_neg (show ¬ (false = true) by decide)] at H; exact H
              clear H
              have H := H1
              clear H1
              replace H := Option.bind_eq_some_iff.mp H
              obtain ⟨t123, A90, H⟩ := H
              replace H : (if t123 < 0 then (some false) else (sign_Token.l0 k1 a0 (a0.size : Int) (wrap64 (x6_1 + 1)))) = some r := H
              have A9 := Aside0.mk A90
              clear A90
              by_cases c10 : t123 < 0
              · rw [if_pos c10] at H
                have c10b0 : decide (t123 < 0) = true := decide_eq_true c10
                clear c10
                obtain rfl := Option.some.inj H
                have p5 : 0 ≤ (x6_1 : Int) := of_decide_eq_true (by first | (with_reducible assumption) | assumption)
                have q5 : x6_1 < (a0.size : Int) := of_decide_eq_true (by first | (with_reducible assumption) | assumption)
                have hx5 := bt_at a0 x6_1
                replace p5 := eq_true p5
                replace q5 := eq_true q5
                go_wp2_with (first | ((with_reducible refine gate_callee (f := 55) rfl ?_); refine goesL_ (some 12) rfl rfl Tryd.func55 (by kernel_rfl) rfl #[.int .u8 (bt a0 x6_1)] rfl (by (try simp only [List.map_toArray, List.map_cons, List.map_nil]); first | done | rfl | (simp only [List.length_drop, List.length_take]; rfl)) ?_; (with_reducible refine (sign_letter.calls (bt a0 x6_1) false _ A6.out).mono ?_); rintro e w' ⟨rfl, ⟨nd, rfl⟩⟩; refine ⟨_, rfl, ?_⟩; have p8 : 0 ≤ (x6_1 : Int) := of_decide_eq_true (by first | (with_reducible assumption) | assumption); have q8 : x6_1 < (a0.size : Int) := of_decide_eq_true (by first | (with_reducible assumption) | assumption); have hx8 := bt_at a0 x6_1; replace p8 := eq_true p8; replace q8 := eq_true q8) | (go_at_call 56; (with_reducible refine (strings_IndexByte.calls (⟨#[33, 35, 36, 37, 38, 39, 42, 43, 45, 46, 94, 95, 124, 126, 96]⟩ : ByteArray) (bt a0 x6_1) t123 _ A9.out).mono ?_); rintro e w' ⟨rfl, ⟨nd, rfl⟩⟩))
                go_ret
                exact ⟨by first | rfl | (simp; done) | (simp [*]; done) | (generalize ByteArray.toList _ = l_; cases l_ <;> rfl), by repeat (first | exact Drawn0.refl _ | apply Drawn0.step)⟩
              · rw [if_neg c10] at H
                have c10b0 : decide (t123 < 0) = false := decide_eq_false c10
                clear c10
                have H' := Aside0.mk H
                clear H
                have p5 : 0 ≤ (x6_1 : Int) := of_decide_eq_true (by first | (with_reducible assumption) | assumption)
                have q5 : x6_1 < (a0.size : Int) := of_decide_eq_true (by first | (with_reducible assumption) | assumption)
                have hx5 := bt_at a0 x6_1
                replace p5 := eq_true p5
                replace q5 := eq_true q5
                go_wp2_with (first | ((with_reducible refine gate_callee (f := 55) rfl ?_); refine goesL_ (some 12) rfl rfl Tryd.func55 (by kernel_rfl) rfl #[.int .u8 (bt a0 x6_1)] rfl (by (try simp only [List.map_toArray, List.map_cons, List.map_nil]); first | done | rfl | (simp only [List.length_drop, List.length_take]; rfl)) ?_; (with_reducible refine (sign_letter.calls (bt a0 x6_1) false _ A6.out).mono ?_); rintro e w' ⟨rfl, ⟨nd, rfl⟩⟩; refine ⟨_, rfl, ?_⟩; have p8 : 0 ≤ (x6_1 : Int) := of_decide_eq_true (by first | (with_reducible assumption) | assumption); have q8 : x6_1 < (a0.size : Int) := of_decide_eq_true (by first | (with_reducible assumption) | assumption); have hx8 := bt_at a0 x6_1; replace p8 := eq_true p8; replace q8 := eq_true q8) | (go_at_call 56; (with_reducible refine (strings_IndexByte.calls (⟨#[33, 35, 36, 37, 38, 39, 42, 43, 45, 46, 94, 95, 124, 126, 96]⟩ : ByteArray) (bt a0 x6_1) t123 _ A9.out).mono ?_); rintro e w' ⟨rfl, ⟨nd, rfl⟩⟩))
                go_roundg k1
                case measure => have := HK1.out; omega
                case rel => exact ⟨(wrap64 (x6_1 + 1)), (by first | rfl | (simp; done) | (simp [*]; done)), H', ⟨by have := HK1.out; omega⟩, by repeat (first | exact Drawn0.refl _ | apply Drawn0.step)⟩
          · rw [if_neg c4] at H
            exact absurd H (by simp)
        · rw [if_neg c3] at H
          exact absurd H (by simp)
      · rw [if_neg c2] at H
        have c2b0 : decide (x6_1 < (a0.size : Int)) = false := decide_eq_false c2
        clear c2
        obtain rfl := Option.some.inj H
        go_wp2
        go_ret
        exact ⟨by first | rfl | (simp; done) | (simp [*]; done) | (generalize ByteArray.toList _ = l_; cases l_ <;> rfl), by repeat (first | exact Drawn0.refl _ | apply Drawn0.step)⟩

/-! ### strings_Trim: function 57, by hand -/
def trimOk (a0 a1 : ByteArray) : Prop := a0.size ≤ 9223372036854775807 ∧ a1.size < 100 ∧ a1.data.toList.all (fun b => decide (b.toNat < 128)) = true
instance (a0 a1 : ByteArray) : Decidable (trimOk a0 a1) := by unfold trimOk; infer_instance
def strings_Trim.f (a0 a1 : ByteArray) : Option ByteArray := if trimOk a0 a1 then some ⟨(Lib.trimS a0.data.toList a1.data.toList).toArray⟩ else none
theorem strings_Trim.calls (a0 a1 : ByteArray) (r : ByteArray) (w : World) (h : strings_Trim.f a0 a1 = some r) :
    Calls Tryd.prog 57 #[.string a0, .string a1] w fun e w' => e = .returned (.string r) ∧ Below w.heap.size w w' := by
  unfold strings_Trim.f at h
  by_cases hok : trimOk a0 a1
  · rw [if_pos hok] at h
    obtain rfl := Option.some.inj h
    exact Any.strings_Trim_laid Tryd.lays160 (by kernel_rfl) a0 a1 w hok.1 (by have := hok.2.1; omega) (ascii_of_all hok.2.2)
  · rw [if_neg hok] at h
    cases h

/-! ### sign_Trim: function 39 -/
def sign_Trim.f (a0 : ByteArray) : Option (ByteArray) := (strings_Trim.f a0 (⟨#[32, 9]⟩ : ByteArray)).bind fun t124 => (some t124)
set_option maxHeartbeats 8000000 in
set_option maxRecDepth 100000 in
theorem sign_Trim.calls (a0 : ByteArray) (r : ByteArray) (w : World) (h : sign_Trim.f a0 = some r) :
    Calls Tryd.prog 39 #[.string a0] w fun e w' => e = .returned (.string r) ∧ Below w.heap.size w w' := by
  have HB := Aside0.mk (Below.refl w.heap.size w)
  have H : ((strings_Trim.f a0 (⟨#[32, 9]⟩ : ByteArray)).bind fun t124 => (some t124)) = some r := h
  clear h
  replace H := Option.bind_eq_some_iff.mp H
  obtain ⟨t124, A20, H⟩ := H
  replace H : (some t124) = some r := H
  have A2 := Aside0.mk A20
  clear A20
  obtain rfl := Option.some.inj H
  go_enter Tryd.func39, Tryd.ntmps39
  go_wp2_with (first | ((with_reducible refine gate_callee (f := 57) rfl ?_); refine goesL_ (some 4) rfl rfl Tryd.func57 (by kernel_rfl) rfl #[.string a0, .string (⟨#[32, 9]⟩ : ByteArray)] rfl (by (try simp only [List.map_toArray, List.map_cons, List.map_nil]); first | done | rfl | (simp only [List.length_drop, List.length_take]; rfl)) ?_; (with_reducible refine (strings_Trim.calls a0 (⟨#[32, 9]⟩ : ByteArray) t124 _ A2.out).mono ?_); rintro e w3 ⟨rfl, hb⟩; refine ⟨_, rfl, ?_⟩; have n0_ := Aside0.mk (below_step (by repeat (first | (with_reducible first | exact HB.out | apply below_alloc | apply pw_below_drewN | apply below_drew1) | exact HB.out)) hb); clear HB; have HB := n0_; clear n0_; (try clear hb); (try clear hb2); (try clear hk); (try clear hi)))
  go_ret
  exact ⟨by first | rfl | (generalize ByteArray.toList _ = l_; cases l_ <;> rfl) | (simp [errW_none, errW_some] <;> rfl) | (simp [*, errW_none, errW_some] <;> rfl), by repeat (first | (with_reducible first | exact HB.out | apply below_alloc | apply pw_below_drewN | apply below_drew1) | exact HB.out)⟩

/-! ### slices_IndexFunc_byte_byte: function 58, by hand -/
-- over slices_IndexFunc_string_string sign_Lower
set_option maxHeartbeats 2000000 in
set_option maxRecDepth 100000 in
theorem IndexFunc_byte (p : UInt8 → Bool) (g : Nat) (lb : Array Value) (eg : ∀ args w, (callFunc g args).run Tryd.prog w = .ok (.enter g args) w) (n c : Nat) (l : List UInt8) (w : World)
    (hp : ∀ (W : World) (x : UInt8), Below w.heap.size w W → Calls Tryd.prog g (#[.int .u8 (x.toNat : Int)] ++ lb) W fun e w' => e = .returned (.bool (p x)) ∧ Below W.heap.size W w')
    (hr : RowB n l w) (hbig : l.length ≤ 9223372036854775806) :
    Calls Tryd.prog 58 #[.slice (some ⟨n, 0, none⟩) l.length c, .func (.func g) #[] lb] w fun e w' => e = .returned (.int .i64 (idxP p l)) ∧ Below w.heap.size w w' := by
  have HR := Aside0.mk hr
  have HP := Aside0.mk hp
  clear hr hp
  go_enter Tryd.func58, Tryd.ntmps58
  go_wp2
  go_loopw [8] (fun i wr => ∃ k : Nat, k ≤ l.length ∧ i = .int .i64 k ∧ Aside0 (Below w.heap.size w wr) ∧ Aside0 (∀ j (hj : j < l.length), j < k → p l[j] = false)) (fun i _ => l.length - (intOf i).toNat)
  case atStart => exact ⟨0, Nat.zero_le _, rfl, ⟨Below.refl _ _⟩, ⟨fun j hj h => absurd h (Nat.not_lt_zero _)⟩⟩
  case round =>
    obtain ⟨k, hk, rfl, HB, HN⟩ := hrel
    by_cases hlt : k < l.length
    · have h0 := pw_cell_below (HB.out) (HR.out.cell k hlt)
      have hcall := HP.out wr l[k] HB.out
      have hadd : (⟨n, 0, none⟩ : Addr).add k = ⟨n, k, none⟩ := add_plain n k
      obtain ⟨y, hy⟩ : ∃ y, y = l[k] := ⟨_, rfl⟩
      rw [← hy] at h0 hcall
      have HY := Aside0.mk hy
      clear hy
      have p5 : ((0 : Int) ≤ (k : Int)) = True := eq_true (by omega)
      have q5 : ((k : Int) < (l.length : Int)) = True := eq_true (by omega)
      obtain ⟨z, hz⟩ : ∃ z : Int, z = (y.toNat : Int) := ⟨_, rfl⟩
      rw [← hz] at h0 hcall
      clear hz
      cases hq : p y with
      | true =>
        rw [hq] at hcall
        go_wp2_with (go_at_fn g; refine hcall.mono ?_; rintro e w' ⟨rfl, hb'⟩)
        go_ret
        refine ⟨?_, below_then HB.out HB.out.size hb'⟩
        rw [idxP_hit p l k hlt (by rw [← HY.out]; exact hq) HN.out]
        rfl
      | false =>
        rw [hq] at hcall
        go_wp2_with (go_at_fn g; refine hcall.mono ?_; rintro e w' ⟨rfl, hb'⟩)
        go_roundw
        case rel =>
          refine ⟨k + 1, by omega, by simp, ⟨below_then HB.out HB.out.size hb'⟩, ⟨fun j hj h => ?_⟩⟩
          by_cases e : j = k
          · subst e
            rw [← HY.out]; exact hq
          · exact HN.out j hj (by omega)
        case measure => simp [intOf]; omega
    · have q5 : ((k : Int) < (l.length : Int)) = False := eq_false (by omega)
      go_wp2
      go_ret
      refine ⟨?_, HB.out⟩
      rw [idxP_miss p l (fun j hj => HN.out j hj (by omega))]
      rfl

/-! ### slices_ContainsFunc_byte_byte: function 40, by hand -/
-- over 58
set_option maxHeartbeats 2000000 in
set_option maxRecDepth 100000 in
theorem ContainsFunc_byte (p : UInt8 → Bool) (g : Nat) (lb : Array Value) (eg : ∀ args w, (callFunc g args).run Tryd.prog w = .ok (.enter g args) w) (n c : Nat) (l : List UInt8) (w : World)
    (hp : ∀ (W : World) (x : UInt8), Below w.heap.size w W → Calls Tryd.prog g (#[.int .u8 (x.toNat : Int)] ++ lb) W fun e w' => e = .returned (.bool (p x)) ∧ Below W.heap.size W w')
    (hr : RowB n l w) (hbig : l.length ≤ 9223372036854775806) :
    Calls Tryd.prog 40 #[.slice (some ⟨n, 0, none⟩) l.length c, .func (.func g) #[] lb] w fun e w' => e = .returned (.bool (l.any p)) ∧ Below w.heap.size w w' := by
  have C := IndexFunc_byte p g lb eg n c l w hp hr hbig
  have hd := idxP_nonneg p l
  generalize idxP p l = z at *
  clear hp hr
  go_enter Tryd.func40, Tryd.ntmps40
  go_wp2_with (go_at_call 58; refine C.mono ?_; rintro e w' ⟨rfl, hb'⟩)
  go_ret
  exact ⟨by rw [← hd]; rfl, hb'⟩

/-! ### field_bad: function 41 -/
def field_bad.f (a0 : Int) : Option (Bool) := if a0 < 32 then (if a0 = 9 then (some (a0 == 127)) else (some true)) else (some (a0 == 127))
set_option maxHeartbeats 8000000 in
set_option maxRecDepth 100000 in
theorem field_bad.calls (a0 : Int) (r : Bool) (w : World) (h : field_bad.f a0 = some r) :
    Calls Tryd.prog 41 #[.int .u8 a0] w fun e w' => e = .returned (.bool r) ∧ Drawn0 w w' := by
  have H : (if a0 < 32 then (if a0 = 9 then (some (a0 == 127)) else (some true)) else (some (a0 == 127))) = some r := h
  clear h
  by_cases c2 : a0 < 32
  · rw [if_pos c2] at H
    have c2b0 : decide (a0 < 32) = true := decide_eq_true c2
    clear c2
    by_cases c3 : a0 = 9
    · rw [if_pos c3] at H
      have c3b0 : (a0 == 9) = true := beq_iff_eq.mpr c3
      have c3b1 : (a0 != 9) = false := bne_eq_false_iff_eq.mpr c3
      clear c3
      obtain rfl := Option.some.inj H
      go_enter Tryd.func41, Tryd.ntmps41
      go_wp2
      go_ret
      exact ⟨by first | rfl | (simp; done) | (simp [*]; done) | (generalize ByteArray.toList _ = l_; cases l_ <;> rfl), by repeat (first | exact Drawn0.refl _ | apply Drawn0.step)⟩
    · rw [if_neg c3] at H
      have c3b0 : (a0 == 9) = false := beq_eq_false_iff_ne.mpr c3
      have c3b1 : (a0 != 9) = true := bne_iff_ne.mpr c3
      obtain rfl := Option.some.inj H
      go_enter Tryd.func41, Tryd.ntmps41
      go_wp2
      go_ret
      exact ⟨by first | rfl | (simp; done) | (simp [*]; done) | (generalize ByteArray.toList _ = l_; cases l_ <;> rfl), by repeat (first | exact Drawn0.refl _ | apply Drawn0.step)⟩
  · rw [if_neg c2] at H
    have c2b0 : decide (a0 < 32) = false := decide_eq_false c2
    clear c2
    obtain rfl := Option.some.inj H
    go_enter Tryd.func41, Tryd.ntmps41
    go_wp2
    go_ret
    exact ⟨by first | rfl | (simp; done) | (simp [*]; done) | (generalize ByteArray.toList _ = l_; cases l_ <;> rfl), by repeat (first | exact Drawn0.refl _ | apply Drawn0.step)⟩

end Go.Proofs.YtmncflihmigdmaaDoor.PAll
