-- Text by a program of this session: the row of a law that lists variables, and its tied card.
import Derived.Test.YtlncpbnadlpihaaGreatDoorTie
import Derived.Test.YtlncpbnadlpihaaGreatDoorCards
import Derived.Test.YtlncpbnadlpihaaGreatDoorPAllx19
import Derived.Test.YtlncpbnadlpihaaGreatDoorPurePlanTurns
import Derived.WalkKit
import Derived.ProofKit
import Derived.OpenShut
import Derived.ShutString
import Derived.ChangeOld
import Derived.Below
import Derived.SizedLaws
import Derived.LaidMore
import Derived.Lay
import Derived.SevenTiedAt
import Derived.Stop.Joined
import Derived.Deep.SlicePairs
import Derived.SliceStrings
import Derived.Lib.SmallJoins
import Derived.Lib.LaidTab
import Derived.Stop.LaidErr
import Derived.Carry
namespace Go.Proofs.YtlncpbnadlpihaaGreatDoor.planTurns
open Go.ChangeShapes Go.WideShapes Go.ChangeAt Go.RowKit Go.Deep Go.Joins
open Go.ChangeMaps (open_string shut_string)
set_option linter.unusedVariables false
theorem own : ownKnob Tryz.prog.godebug = none := by kernel_rfl
theorem laidOut : laidOutB Tryz.prog = true := by kernel_rfl
def strV : Value → ByteArray
  | .string x => x
  | _ => ByteArray.empty
theorem openS {H : Type} {enc : TypeId × Value → H} {W : World} {base : Nat} {sp : Nat → Bool} {hd : Bool} {fuel t : Nat} {v : Value} {x : DataW H × List MemPlace} (ht : Tryz.prog.underlying t = some .string) (h : DataW.trod enc Tryz.prog W base sp hd fuel t [v] = some x) : ∃ s : ByteArray, s.size ≤ 9223372036854775807 ∧ v = .string s := by
  obtain ⟨s, hc, _, hz⟩ := DataW.trod_string ht h
  unfold maxLen at hz
  exact ⟨s, hz, by simpa using hc⟩
set_option maxRecDepth 100000 in
theorem siteCells {H : Type} {enc : TypeId × Value → H} {W : World} {hd : Bool} {fuel : Nat} {cs : List Value} {x : DataW H × List MemPlace} (h : DataW.trod enc Tryz.prog W 0 (fun _ => true) hd fuel 57 cs = some x) (hl : cs.length = 7) : ∃ s : PAll.S57, PAll.k57.K W s cs := by
  obtain ⟨v0, v1, v2, v3, v4, v5, v6, rfl⟩ : ∃ v0 v1 v2 v3 v4 v5 v6, cs = [v0, v1, v2, v3, v4, v5, v6] := by
    match cs, hl with
    | [v0, v1, v2, v3, v4, v5, v6], _ => exact ⟨v0, v1, v2, v3, v4, v5, v6, rfl⟩
  clear hl
  obtain ⟨xs, n, _, _, _, hlen, hx⟩ := DataW.trod_struct Tryz.underlying57 h
  obtain ⟨y0, y1, y2, y3, y4, y5, y6, rfl⟩ : ∃ y0 y1 y2 y3 y4 y5 y6, xs = [y0, y1, y2, y3, y4, y5, y6] := by
    match xs, hlen with
    | [y0, y1, y2, y3, y4, y5, y6], _ => exact ⟨y0, y1, y2, y3, y4, y5, y6, rfl⟩
  have x0 : DataW.trod enc Tryz.prog W 0 (fun _ => true) hd n 9 [v0] = some y0 := hx 0 _ rfl
  have x1 : DataW.trod enc Tryz.prog W 0 (fun _ => true) hd n 3 [v1] = some y1 := hx 1 _ rfl
  have x2 : DataW.trod enc Tryz.prog W 0 (fun _ => true) hd n 3 [v2] = some y2 := hx 2 _ rfl
  have x3 : DataW.trod enc Tryz.prog W 0 (fun _ => true) hd n 3 [v3] = some y3 := hx 3 _ rfl
  have x4 : DataW.trod enc Tryz.prog W 0 (fun _ => true) hd n 4 [v4] = some y4 := hx 4 _ rfl
  have x5 : DataW.trod enc Tryz.prog W 0 (fun _ => true) hd n 4 [v5] = some y5 := hx 5 _ rfl
  have x6 : DataW.trod enc Tryz.prog W 0 (fun _ => true) hd n 55 [v6] = some y6 := hx 6 _ rfl
  obtain ⟨a0, _, e0⟩ := openS Tryz.underlying9 x0
  obtain ⟨a1, e1, _, w1⟩ := DataW.trod_int Tryz.underlying3 x1
  obtain ⟨a2, e2, _, w2⟩ := DataW.trod_int Tryz.underlying3 x2
  obtain ⟨a3, e3, _, w3⟩ := DataW.trod_int Tryz.underlying3 x3
  obtain ⟨a4, e4, _⟩ := DataW.trod_bool Tryz.underlying4 x4
  obtain ⟨a5, e5, _⟩ := DataW.trod_bool Tryz.underlying4 x5
  obtain rfl := e0
  obtain rfl : v1 = _ := (List.cons.inj e1).1
  obtain rfl : v2 = _ := (List.cons.inj e2).1
  obtain rfl : v3 = _ := (List.cons.inj e3).1
  obtain rfl : v4 = _ := (List.cons.inj e4).1
  obtain rfl : v5 = _ := (List.cons.inj e5).1
  rcases open_strings Tryz.underlying55 Tryz.underlying9 (by kernel_rfl) x6 with ⟨hcs, _⟩ | ⟨x, len, c, ss, hcs, _, hl, hm, hmm, _, hcell, _⟩
  · obtain rfl : v6 = _ := (List.cons.inj hcs).1
    exact ⟨⟨a0, a1, a2, a3, a4, a5, []⟩, PAll.k57_mk W ⟨a0, a1, a2, a3, a4, a5, []⟩ (A6 := none) (c6 := 0) (Nat.le_refl _) ⟨rfl, Nat.zero_le _, fun h => absurd h (Nat.lt_irrefl _)⟩⟩
  · obtain rfl : v6 = _ := (List.cons.inj hcs).1
    have hlm : len ≤ ss.length := by rw [hmm]; split <;> omega
    unfold maxLen at hm
    have htl : (ss.take len).length = len := by rw [List.length_take]; omega
    have hC : Go.Proofs.YtlncpbnadlpihaaGreatDoorW.PrintWords.Kd.C Go.Proofs.YtlncpbnadlpihaaGreatDoorW.PrintWords.Kd.string W (some x) (ss.take len).length (ss.take len) := by
      rw [htl]
      refine ⟨htl, by omega, fun _ => ⟨x, rfl, fun j p hj => ⟨_, rfl, rfl, fun i u hu => ?_⟩⟩⟩
      have hjl : j < len := by
        have := (List.getElem?_eq_some_iff.1 hj).1
        omega
      have g0 := hcell j (by omega)
      have hp : ss.getD j ByteArray.empty = p := by
        rw [List.getElem?_take_of_lt hjl] at hj
        simp [List.getD, hj]
      rw [hp] at g0
      rcases i with _ | i
      · obtain rfl : Value.string p = u := by simpa using hu
        simpa [Go.Proofs.YtlncpbnadlpihaaGreatDoorW.PrintWords.Kd.string, Go.Proofs.YtlncpbnadlpihaaGreatDoorW.PrintWords.Kd.scalar] using g0
      · simp at hu
    have hk := PAll.k57_mk W ⟨a0, a1, a2, a3, a4, a5, ss.take len⟩ (A6 := some x) (c6 := c) (by rw [htl]; exact hl) hC
    rw [htl] at hk
    exact ⟨_, hk⟩
set_option maxRecDepth 100000 in
theorem openConfig {H : Type} {enc : TypeId × Value → H} {W : World} {base : Nat} {hd : Bool} {v : Value} {d : DataW H} {p : List MemPlace} (hval : Value.okWide Tryz.prog W .any base 24 v) (h : DataW.Trod enc Tryz.prog W 0 (fun _ => true) hd 24 v d p) :
    ∃ (A : Option Addr) (c : Nat) (l : List PAll.S57), v = .agg #[.slice A l.length c] ∧ l.length ≤ c ∧ Go.Proofs.YtlncpbnadlpihaaGreatDoorW.PrintWords.Kd.C PAll.k57 W A l.length l ∧ l.length ≤ 9223372036854775807 := by
  obtain ⟨cs, rfl, hsz⟩ := okWide_struct Tryz.underlying24 hval
  obtain ⟨v0, rfl⟩ : ∃ v0, cs = #[v0] := by
    obtain ⟨l⟩ := cs
    have hl : l.length = 1 := hsz.trans (by kernel_rfl)
    match l, hl with
    | [v0], _ => exact ⟨v0, rfl⟩
  obtain ⟨fuel, hf⟩ := h
  obtain ⟨xs, n, _, _, _, hlen, hx⟩ := DataW.trod_struct Tryz.underlying24 hf
  obtain ⟨y0, rfl⟩ : ∃ y0, xs = [y0] := by
    match xs, hlen with
    | [y0], _ => exact ⟨y0, rfl⟩
  have x0 : DataW.trod enc Tryz.prog W 0 (fun _ => true) hd n 22 [v0] = some y0 := hx 0 _ rfl
  rcases Go.Deep.open_slice Tryz.underlying22 x0 with ⟨hcs, _⟩ | ⟨a, len, cap, m, n2, D, Pl, hcs, _, hl, hm, hmm, _, hx2⟩
  · obtain rfl : v0 = _ := (List.cons.inj hcs).1
    exact ⟨none, 0, [], rfl, Nat.le_refl _, ⟨rfl, Nat.zero_le _, fun h => absurd h (Nat.lt_irrefl _)⟩, Nat.zero_le _⟩
  · obtain rfl : v0 = _ := (List.cons.inj hcs).1
    have hlm : len ≤ m := by rw [hmm]; split <;> omega
    unfold maxLen at hm
    have ce : Tryz.prog.cellsOf 57 = 7 := by kernel_rfl
    haveI : Inhabited PAll.S57 := ⟨PAll.z57⟩
    obtain ⟨X, hX⟩ := Go.Deep.choose_lt (n := len) (α := PAll.S57) (p := fun i s => ∃ cs', PAll.k57.K W s cs' ∧ ∀ j u, cs'[j]? = some u → W.cell? (a.add (i * 7 + j)) = some u) (fun i hi => by
      obtain ⟨cs', h1, h2⟩ := hx2 i (by omega)
      rw [ce] at h1
      obtain ⟨_, hl7, hcell⟩ := World.cells?_some h1
      obtain ⟨s, hs⟩ := siteCells h2 hl7
      exact ⟨s, cs', hs, fun j u hu => by
        have hj : j < 7 := by have := (List.getElem?_eq_some_iff.1 hu).1; omega
        have h3 := hcell j hj
        rw [Go.Deep.add_add] at h3
        exact h3.trans hu⟩)
    have hxl : ((List.range len).map X).length = len := by simp
    refine ⟨some a, cap, (List.range len).map X, by rw [hxl], by omega, ?_, by omega⟩
    rw [hxl]
    refine ⟨hxl, by omega, fun _ => ⟨a, rfl, fun j p hj => ?_⟩⟩
    have hjl : j < len := by
      have := (List.getElem?_eq_some_iff.1 hj).1
      simpa using this
    obtain rfl : X j = p := by simpa [List.getElem?_map, List.getElem?_range hjl] using hj
    obtain ⟨cs', hk, hc⟩ := hX j hjl
    exact ⟨cs', PAll.k57.K_len hk, hk, fun i u hu => hc i u hu⟩
theorem star_ : "*" ++ "errors.errorString" = "*errors.errorString" := by decide
theorem rowErr (u : TypeId) (h : Tryz.prog.typeName? 3 u = some "*errors.errorString") : u = 198 :=
  typeName_ptr_named (nm := "errors.errorString") (by rw [star_]; kernel_rfl) (by kernel_rfl) (by decide) u (by rw [star_]; exact h)
theorem wfOf {W : World} (h : laidMetH Tryz.prog [("math/bits.deBruijn32tab", Rows.laid_math_bits_deBruijn32tab), ("math/bits.deBruijn64tab", Rows.laid_math_bits_deBruijn64tab), ("internal/strconv.uint64pow10", Rows.laid_internal_strconv_uint64pow10), ("unicode/utf8.acceptRanges", Rows.laid_unicode_utf8_acceptRanges), ("strconv.ErrRange", Rows.laid_strconv_ErrRange), ("strconv.ErrSyntax", Rows.laid_strconv_ErrSyntax), ("unicode/utf8.first", Rows.laid_unicode_utf8_first)] W) : PAll.WF W := by
  rw [MakeChecks.laidMetH_plain _ _ _ (by kernel_rfl)] at h
  obtain ⟨a0, s0, v0, _⟩ := laid_sentinel (g := (Tryz.prog.globalNamed "strconv.ErrSyntax").getD 0) (te := 200) h.tail.tail.tail.tail.tail (by kernel_rfl) (by kernel_rfl) Tryz.underlying147 rowErr Tryz.underlying198 Tryz.underlying200 rfl rfl Tryz.underlying9 (by kernel_rfl) (by kernel_rfl)
  obtain ⟨a1, s1, v1, _⟩ := laid_sentinel (g := (Tryz.prog.globalNamed "strconv.ErrRange").getD 0) (te := 200) h.tail.tail.tail.tail (by kernel_rfl) (by kernel_rfl) Tryz.underlying147 rowErr Tryz.underlying198 Tryz.underlying200 rfl rfl Tryz.underlying9 (by kernel_rfl) (by kernel_rfl)
  have ht : Lib.TabIs Tryz.prog W "internal/strconv.uint64pow10" .u64 Lib.pow10Tab := Lib.tabIs_of_head (P := Tryz.prog) (W := W) (name := "internal/strconv.uint64pow10") (k := .u64) (zs := Lib.pow10Tab) (g := (Tryz.prog.globalNamed "internal/strconv.uint64pow10").getD 0) (t := ((Tryz.prog.globals[(Tryz.prog.globalNamed "internal/strconv.uint64pow10").getD 0]?).map (·.type)).getD 0) (e := 161) (n := 20) (by kernel_rfl) (by kernel_rfl) (by kernel_rfl) (by kernel_rfl) (by kernel_rfl) (by kernel_rfl) h.tail.tail
  exact ⟨ht, ⟨_, _, v0⟩, _, _, v1⟩
/-- As the wrap with a further fact on the world; the world's shape is handed on. -/
theorem and_shaped {H : Type} {enc : TypeId × Value → H} {a : Assume} {C : Checked} {os : Os} {f : FuncId} {fn : Func} {s : ChangeSpec} {conds : List PathCond} {apart fresh handsOn again : Bool} {X : World → Array Value → Prop}
    (hX : ∀ (w w' : World) (args : Array Value), w.heap = w'.heap → X w args → X w' args)
    (own : ownKnob C.prog.godebug = none) (started : os.Started) (noInit : C.prog.inits.idxOf? f = none) (hfn : C.prog.funcs[f]? = some fn)
    (wit : ∃ (w : World) (tape : Tape) (i : Input), w.os = os ∧ (w.forCall tape i).Shaped C.prog ∧ i.vars = [] ∧ Input.okWide C.prog (w.forCall tape i) .any w.heap.size f i ∧ ((s.pre enc C.prog fn conds apart (w.forCall tape i).memory i.args ∧ X (w.forCall tape i).memory i.args) ∧ sizedMet enc C.prog fn (OpenSpec.ofChange s) apart (w.forCall tape i).memory i.args) ∧ a.holds C.prog (lone (Frame.enter C.prog f i.args .normal) [] (w.forCall tape i)))
    (step : ∀ (W : World) (base : Nat) (args : Array Value) (ds gs : List (DataW H)) (before : List MemPlace), (∀ (j : Nat) t v, fn.params[j]? = some t → args[j]? = some v → Value.okWide C.prog W .any base t v) → DataW.Whole enc C.prog fn.params.toList s.vars apart W args.toList ds gs before → conds.all (PathCond.test C.prog ⟨fn.params.toList, ds, s.plain.varTypes C.prog, gs⟩) = true →
      (DataW.weightsEach C.prog (fn.params.toList ++ s.plain.varTypes C.prog) (ds ++ gs)).all (· ≤ reachBytes) = true → X W args → W.ShapedOpen C.prog → a.holds C.prog (lone (Frame.enter C.prog f args .normal) [] W) → Calls C.prog f args W fun e W' => ∃ v, e = .returned v ∧ s.post enc C.prog fn apart fresh handsOn again W args v W') :
    ReturnsInHanded a C os f .any (fun w args => (s.pre enc C.prog fn conds apart w args ∧ X w args) ∧ sizedMet enc C.prog fn (OpenSpec.ofChange s) apart w args) (s.post enc C.prog fn apart fresh handsOn again) := by
  refine returnsInHanded_of_calls own started noInit wit fun w tape i _ hsh _ hok hpre hho => ?_
  obtain ⟨_, _, _, fn2, hfn2, _, _, _, _, hval⟩ := hok
  obtain rfl : fn2 = fn := Option.some.inj (hfn2.symm.trans hfn)
  obtain ⟨⟨⟨ds, gs, bf, hw, hc⟩, hx⟩, hz⟩ := hpre
  refine (step (w.forCall tape i) w.heap.size i.args ds gs bf hval (DataW.Whole.of_heap (by rfl) hw) hc (hz.weights hw) (hX _ _ _ (by rfl) hx) hsh hho).mono fun e W' hq => ?_
  obtain ⟨v, rfl, hp⟩ := hq
  exact ChangeSpec.post_blind hp
set_option maxRecDepth 100000 in
theorem lifted (os : Os) (started : os.Started) (H : Type) (enc : TypeId × Value → H) :
    ReturnsInHanded {} Tryz.checked os 4 .any (fun w args => (Rows.planTurnsSpec.pre enc Tryz.prog Tryz.f4 Rows.planTurnsRow.domain false w args ∧ laidMetH Tryz.prog [("math/bits.deBruijn32tab", Rows.laid_math_bits_deBruijn32tab), ("math/bits.deBruijn64tab", Rows.laid_math_bits_deBruijn64tab), ("internal/strconv.uint64pow10", Rows.laid_internal_strconv_uint64pow10), ("unicode/utf8.acceptRanges", Rows.laid_unicode_utf8_acceptRanges), ("strconv.ErrRange", Rows.laid_strconv_ErrRange), ("strconv.ErrSyntax", Rows.laid_strconv_ErrSyntax), ("unicode/utf8.first", Rows.laid_unicode_utf8_first)] w) ∧ sizedMet enc Tryz.prog Tryz.f4 (OpenSpec.ofChange Rows.planTurnsSpec) false w args)
      (Rows.planTurnsSpec.post enc Tryz.prog Tryz.f4 false true false false) := by
  refine and_shaped (C := Tryz.checked) (X := (fun w _ => laidMetH Tryz.prog [("math/bits.deBruijn32tab", Rows.laid_math_bits_deBruijn32tab), ("math/bits.deBruijn64tab", Rows.laid_math_bits_deBruijn64tab), ("internal/strconv.uint64pow10", Rows.laid_internal_strconv_uint64pow10), ("unicode/utf8.acceptRanges", Rows.laid_unicode_utf8_acceptRanges), ("strconv.ErrRange", Rows.laid_strconv_ErrRange), ("strconv.ErrSyntax", Rows.laid_strconv_ErrSyntax), ("unicode/utf8.first", Rows.laid_unicode_utf8_first)] w)) (fun _ _ _ hh h => h.of_heap hh) own started (by kernel_rfl) Tryz.func4
    (ChangeSpec.witness_shaped (enc := enc) (C := Tryz.checked) (os := os) (X := (fun w _ => laidMetH Tryz.prog [("math/bits.deBruijn32tab", Rows.laid_math_bits_deBruijn32tab), ("math/bits.deBruijn64tab", Rows.laid_math_bits_deBruijn64tab), ("internal/strconv.uint64pow10", Rows.laid_internal_strconv_uint64pow10), ("unicode/utf8.acceptRanges", Rows.laid_unicode_utf8_acceptRanges), ("strconv.ErrRange", Rows.laid_strconv_ErrRange), ("strconv.ErrSyntax", Rows.laid_strconv_ErrSyntax), ("unicode/utf8.first", Rows.laid_unicode_utf8_first)] w)) false (World.laidAll Tryz.prog os [("math/bits.deBruijn32tab", Rows.laid_math_bits_deBruijn32tab), ("math/bits.deBruijn64tab", Rows.laid_math_bits_deBruijn64tab), ("internal/strconv.uint64pow10", Rows.laid_internal_strconv_uint64pow10), ("unicode/utf8.acceptRanges", Rows.laid_unicode_utf8_acceptRanges), ("strconv.ErrRange", Rows.laid_strconv_ErrRange), ("strconv.ErrSyntax", Rows.laid_strconv_ErrSyntax), ("unicode/utf8.first", Rows.laid_unicode_utf8_first)]) #[.agg #[.slice none 0 0], .agg #[.slice none 0 0]] 8 (World.laidAll_os _ _ _)
      (World.shaped_of_ZipB (by kernel_rfl) (by kernel_rfl)) (by kernel_rfl) (by kernel_rfl) (by kernel_rfl)
      (by rw [MakeChecks.laidMetH_plain _ _ _ (by kernel_rfl)]; exact laidMet_laidAll _ (by kernel_rfl) (by kernel_rfl))) ?_
  intro W base args ds gs before hval0 hW hcnd hZ0 hL hsh _
  have hval : ∀ (j : Nat) t v, Tryz.f4.params[j]? = some t → args[j]? = some v → Value.okWide Tryz.prog W .any base t v := hval0
  have hW' := hW
  obtain ⟨p, q, hA0, hV, rfl, hfz, hnd⟩ := hW
  have hA : DataW.TrodAll enc Tryz.prog W 0 (fun _ => true) true Tryz.f4.params.toList args.toList ds p := hA0
  rw [Tryz.params4] at hA hval
  obtain ⟨v0, vs0, d0, ds0, p0, q0, hargs, rfl, rfl, h0, r0⟩ := trodAll_cons hA
  obtain ⟨v1, vs1, d1, ds1, p1, q1, rfl, rfl, rfl, h1, r1⟩ := trodAll_cons r0
  obtain ⟨rfl, rfl, rfl⟩ := trodAll_nil r1
  obtain rfl : args = #[v0, v1] := by cases args; simp_all
  obtain ⟨rfl, rfl⟩ := trodVars_none hV
  have k0 := h0
  have lt0 : ∀ x ∈ p0, x.block < W.heap.size := by obtain ⟨m, hm⟩ := k0; exact DataW.trod_lt m _ _ _ hm
  obtain ⟨A0, c0, l0, rfl, m0, R0, b0⟩ := openConfig (hval 0 24 v0 rfl rfl) h0
  have k1 := h1
  have lt1 : ∀ x ∈ p1, x.block < W.heap.size := by obtain ⟨m, hm⟩ := k1; exact DataW.trod_lt m _ _ _ hm
  obtain ⟨A1, c1, l1, rfl, m1, R1, b1⟩ := openConfig (hval 1 24 v1 rfl rfl) h1
  clear hA0 hval0
  obtain ⟨k, hk⟩ := Pure.PlanTurns l0 l1 b0 b1
  refine (PAll.pantrylaw10_PlanTurns.calls k _ _ l0 _ _ l1 true W R0 m0 R1 m1 (wfOf hL) hk).mono fun e W' ⟨he, bel⟩ => ?_
  subst he
  exact ⟨_, rfl, _, _, _, [], _, [], hW', trodAll_mk1 (shut_bool Tryz.underlying4 _), (trodAll_cons_mk (Below.trod laidOut (by kernel_rfl) (of_decide_eq_true (by kernel_rfl)) k0 bel lt0) (trodAll_cons_mk (Below.trod laidOut (by kernel_rfl) (of_decide_eq_true (by kernel_rfl)) k1 bel lt1) trodAll_mk0)), rfl, bel.frame _, fun h => by cases h⟩
theorem over : Rows.planTurnsRow.holds Tryz.pinned (OpenSpec.ofChange Rows.planTurnsSpec) :=
  OpenClaim.holds_of_wide 4 Tryz.f4 rfl rfl rfl rfl rfl rfl rfl ⟨rfl, rfl, rfl, rfl, rfl⟩ rfl rfl rfl rfl rfl (by kernel_rfl) Tryz.func4 (by kernel_rfl)
    (of_decide_eq_true (by kernel_rfl)) (by unfold Func.isWrapper; first | (rw [if_pos (by decide +kernel)]; kernel_rfl) | (rw [if_neg (by decide +kernel)]; exact ⟨rfl, rfl⟩))
    (fun os started H enc _ => lifted os started H enc)
theorem card : Rows.PlanTurnsCardSaid :=
  Claim7.holds_tied_plain_at .later [] [.data, .data, .data, .data, .sentinel, .sentinel, .pinned] true (true, "19f5743e99d91147160852bf3cb70eb3b158b25538e95b2a22e338552c0dd314") true over (fun _ h => by cases h) (by kernel_rfl) (fun _ h => by cases h) planTurns_row_tie rfl ⟨rfl, rfl⟩ (by kernel_rfl) rfl
    (fun f fn hf hfn => by
      obtain rfl : f = 4 := Option.some.inj ((show Tryz.prog.funcNamed "pantry/pantrylaw10.PlanTurns" = some 4 by kernel_rfl).symm.trans hf) |>.symm
      obtain rfl : fn = Tryz.f4 := (Option.some.inj (Tryz.func4.symm.trans hfn)).symm
      exact ⟨by kernel_rfl, fun j t ht => by
        rw [Tryz.params4] at ht
        have hm : t ∈ ([24, 24] : List Nat) := by simpa using Array.mem_of_getElem? ht
        have hall : (([24, 24] : List Nat).all fun u => !Tryz.prog.wantsStandIn u) = true := by kernel_rfl
        exact (show Tryz.prog.wantsStandIn t = false by simpa using List.all_eq_true.1 hall t hm)⟩)
    (by kernel_rfl)
end Go.Proofs.YtlncpbnadlpihaaGreatDoor.planTurns
namespace Go.Proofs.YtlncpbnadlpihaaGreatDoor
/-- The card, under a short name, for the claim. -/
theorem planTurns_holds : Rows.PlanTurnsCardSaid := planTurns.card
end Go.Proofs.YtlncpbnadlpihaaGreatDoor
