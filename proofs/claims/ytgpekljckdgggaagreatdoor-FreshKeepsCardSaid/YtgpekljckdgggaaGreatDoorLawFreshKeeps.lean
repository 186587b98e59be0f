-- Text by a program of this session: the row of a law that lists variables, and its tied card.
import Derived.Test.YtgpekljckdgggaaGreatDoorTie
import Derived.Test.YtgpekljckdgggaaGreatDoorCards
import Derived.Test.YtgpekljckdgggaaGreatDoorPAllx19
import Derived.Test.YtgpekljckdgggaaGreatDoorPureFreshKeeps
import Derived.WalkKit
import Derived.ProofKit
import Derived.OpenShut
import Derived.ShutString
import Derived.ChangeOld
import Derived.Below
import Derived.SizedLaws
import Derived.LaidMore
import Derived.Lay
import Derived.SevenTiedAt
import Derived.Stop.Joined
import Derived.Deep.SlicePairs
import Derived.SliceStrings
import Derived.Lib.SmallJoins
import Derived.Lib.LaidTab
import Derived.Stop.LaidErr
import Derived.Carry
namespace Go.Proofs.YtgpekljckdgggaaGreatDoor.freshKeeps
open Go.ChangeShapes Go.WideShapes Go.ChangeAt Go.RowKit Go.Deep Go.Joins
open Go.ChangeMaps (open_string shut_string)
set_option linter.unusedVariables false
theorem own : ownKnob Tryz.prog.godebug = none := by kernel_rfl
theorem laidOut : laidOutB Tryz.prog = true := by kernel_rfl
def strV : Value → ByteArray
  | .string x => x
  | _ => ByteArray.empty
theorem openS {H : Type} {enc : TypeId × Value → H} {W : World} {base : Nat} {sp : Nat → Bool} {hd : Bool} {fuel t : Nat} {v : Value} {x : DataW H × List MemPlace} (ht : Tryz.prog.underlying t = some .string) (h : DataW.trod enc Tryz.prog W base sp hd fuel t [v] = some x) : ∃ s : ByteArray, s.size ≤ 9223372036854775807 ∧ v = .string s := by
  obtain ⟨s, hc, _, hz⟩ := DataW.trod_string ht h
  unfold maxLen at hz
  exact ⟨s, hz, by simpa using hc⟩
theorem array7 {α : Type} {cs : Array α} (h : cs.size = 7) : ∃ c0 c1 c2 c3 c4 c5 c6, cs = #[c0, c1, c2, c3, c4, c5, c6] := by
  obtain ⟨l⟩ := cs
  match l, h with
  | [c0, c1, c2, c3, c4, c5, c6], _ => exact ⟨c0, c1, c2, c3, c4, c5, c6, rfl⟩
set_option maxRecDepth 100000 in
theorem openSite {H : Type} {enc : TypeId × Value → H} {W : World} {base : Nat} {hd : Bool} {v : Value} {d : DataW H} {p : List MemPlace} (hval : Value.okWide Tryz.prog W .any base 24 v) (h : DataW.Trod enc Tryz.prog W 0 (fun _ => true) hd 24 v d p) :
    ∃ (a0 : ByteArray) (a1 a2 a3 : Int) (a4 a5 : Bool) (A : Option Addr) (c : Nat) (l : List ByteArray), v = .agg #[.string a0, .int .i64 a1, .int .i64 a2, .int .i64 a3, .bool a4, .bool a5, .slice A l.length c] ∧ l.length ≤ c ∧ Go.Proofs.YtgpekljckdgggaaGreatDoorW.PrintWords.Kd.C Go.Proofs.YtgpekljckdgggaaGreatDoorW.PrintWords.Kd.string W A l.length l ∧ (Lit.int .i64 a1).wf = true ∧ (Lit.int .i64 a2).wf = true ∧ (Lit.int .i64 a3).wf = true := by
  obtain ⟨cs, rfl, hsz⟩ := okWide_struct Tryz.underlying24 hval
  obtain ⟨v0, v1, v2, v3, v4, v5, v6, rfl⟩ := array7 (hsz.trans (by kernel_rfl))
  obtain ⟨fuel, hf⟩ := h
  obtain ⟨xs, n, _, _, _, hlen, hx⟩ := DataW.trod_struct Tryz.underlying24 hf
  obtain ⟨y0, y1, y2, y3, y4, y5, y6, rfl⟩ : ∃ y0 y1 y2 y3 y4 y5 y6, xs = [y0, y1, y2, y3, y4, y5, y6] := by
    match xs, hlen with
    | [y0, y1, y2, y3, y4, y5, y6], _ => exact ⟨y0, y1, y2, y3, y4, y5, y6, rfl⟩
  have x0 : DataW.trod enc Tryz.prog W 0 (fun _ => true) hd n 9 [v0] = some y0 := hx 0 _ rfl
  have x1 : DataW.trod enc Tryz.prog W 0 (fun _ => true) hd n 3 [v1] = some y1 := hx 1 _ rfl
  have x2 : DataW.trod enc Tryz.prog W 0 (fun _ => true) hd n 3 [v2] = some y2 := hx 2 _ rfl
  have x3 : DataW.trod enc Tryz.prog W 0 (fun _ => true) hd n 3 [v3] = some y3 := hx 3 _ rfl
  have x4 : DataW.trod enc Tryz.prog W 0 (fun _ => true) hd n 4 [v4] = some y4 := hx 4 _ rfl
  have x5 : DataW.trod enc Tryz.prog W 0 (fun _ => true) hd n 4 [v5] = some y5 := hx 5 _ rfl
  have x6 : DataW.trod enc Tryz.prog W 0 (fun _ => true) hd n 22 [v6] = some y6 := hx 6 _ rfl
  obtain ⟨a0, _, e0⟩ := openS Tryz.underlying9 x0
  obtain ⟨a1, e1, _, w1⟩ := DataW.trod_int Tryz.underlying3 x1
  obtain ⟨a2, e2, _, w2⟩ := DataW.trod_int Tryz.underlying3 x2
  obtain ⟨a3, e3, _, w3⟩ := DataW.trod_int Tryz.underlying3 x3
  obtain ⟨a4, e4, _⟩ := DataW.trod_bool Tryz.underlying4 x4
  obtain ⟨a5, e5, _⟩ := DataW.trod_bool Tryz.underlying4 x5
  obtain rfl := e0
  obtain rfl : v1 = _ := (List.cons.inj e1).1
  obtain rfl : v2 = _ := (List.cons.inj e2).1
  obtain rfl : v3 = _ := (List.cons.inj e3).1
  obtain rfl : v4 = _ := (List.cons.inj e4).1
  obtain rfl : v5 = _ := (List.cons.inj e5).1
  rcases open_strings Tryz.underlying22 Tryz.underlying9 (by kernel_rfl) x6 with ⟨hcs, _⟩ | ⟨x, len, c, ss, hcs, _, hl, hm, hmm, _, hcell, _⟩
  · obtain rfl : v6 = _ := (List.cons.inj hcs).1
    exact ⟨a0, a1, a2, a3, a4, a5, none, 0, [], rfl, Nat.le_refl _, ⟨rfl, Nat.zero_le _, fun h => absurd h (Nat.lt_irrefl _)⟩, w1, w2, w3⟩
  · obtain rfl : v6 = _ := (List.cons.inj hcs).1
    have hlm : len ≤ ss.length := by rw [hmm]; split <;> omega
    unfold maxLen at hm
    have htl : (ss.take len).length = len := by rw [List.length_take]; omega
    refine ⟨a0, a1, a2, a3, a4, a5, some x, c, ss.take len, by rw [htl], by omega, ?_, w1, w2, w3⟩
    rw [htl]
    refine ⟨htl, by omega, fun _ => ⟨x, rfl, fun j p hj => ⟨_, rfl, rfl, fun i u hu => ?_⟩⟩⟩
    have hjl : j < len := by
      have := (List.getElem?_eq_some_iff.1 hj).1
      omega
    have g0 := hcell j (by omega)
    have hp : ss.getD j ByteArray.empty = p := by
      rw [List.getElem?_take_of_lt hjl] at hj
      simp [List.getD, hj]
    rw [hp] at g0
    rcases i with _ | i
    · obtain rfl : Value.string p = u := by simpa using hu
      simpa [Go.Proofs.YtgpekljckdgggaaGreatDoorW.PrintWords.Kd.string, Go.Proofs.YtgpekljckdgggaaGreatDoorW.PrintWords.Kd.scalar] using g0
    · simp at hu
/-- As the wrap with a further fact on the world; the world's shape is handed on. -/
theorem and_shaped {H : Type} {enc : TypeId × Value → H} {a : Assume} {C : Checked} {os : Os} {f : FuncId} {fn : Func} {s : ChangeSpec} {conds : List PathCond} {apart fresh handsOn again : Bool} {X : World → Array Value → Prop}
    (hX : ∀ (w w' : World) (args : Array Value), w.heap = w'.heap → X w args → X w' args)
    (own : ownKnob C.prog.godebug = none) (started : os.Started) (noInit : C.prog.inits.idxOf? f = none) (hfn : C.prog.funcs[f]? = some fn)
    (wit : ∃ (w : World) (tape : Tape) (i : Input), w.os = os ∧ (w.forCall tape i).Shaped C.prog ∧ i.vars = [] ∧ Input.okWide C.prog (w.forCall tape i) .any w.heap.size f i ∧ ((s.pre enc C.prog fn conds apart (w.forCall tape i).memory i.args ∧ X (w.forCall tape i).memory i.args) ∧ sizedMet enc C.prog fn (OpenSpec.ofChange s) apart (w.forCall tape i).memory i.args) ∧ a.holds C.prog (lone (Frame.enter C.prog f i.args .normal) [] (w.forCall tape i)))
    (step : ∀ (W : World) (base : Nat) (args : Array Value) (ds gs : List (DataW H)) (before : List MemPlace), (∀ (j : Nat) t v, fn.params[j]? = some t → args[j]? = some v → Value.okWide C.prog W .any base t v) → DataW.Whole enc C.prog fn.params.toList s.vars apart W args.toList ds gs before → conds.all (PathCond.test C.prog ⟨fn.params.toList, ds, s.plain.varTypes C.prog, gs⟩) = true →
      (DataW.weightsEach C.prog (fn.params.toList ++ s.plain.varTypes C.prog) (ds ++ gs)).all (· ≤ reachBytes) = true → X W args → W.ShapedOpen C.prog → a.holds C.prog (lone (Frame.enter C.prog f args .normal) [] W) → Calls C.prog f args W fun e W' => ∃ v, e = .returned v ∧ s.post enc C.prog fn apart fresh handsOn again W args v W') :
    ReturnsInHanded a C os f .any (fun w args => (s.pre enc C.prog fn conds apart w args ∧ X w args) ∧ sizedMet enc C.prog fn (OpenSpec.ofChange s) apart w args) (s.post enc C.prog fn apart fresh handsOn again) := by
  refine returnsInHanded_of_calls own started noInit wit fun w tape i _ hsh _ hok hpre hho => ?_
  obtain ⟨_, _, _, fn2, hfn2, _, _, _, _, hval⟩ := hok
  obtain rfl : fn2 = fn := Option.some.inj (hfn2.symm.trans hfn)
  obtain ⟨⟨⟨ds, gs, bf, hw, hc⟩, hx⟩, hz⟩ := hpre
  refine (step (w.forCall tape i) w.heap.size i.args ds gs bf hval (DataW.Whole.of_heap (by rfl) hw) hc (hz.weights hw) (hX _ _ _ (by rfl) hx) hsh hho).mono fun e W' hq => ?_
  obtain ⟨v, rfl, hp⟩ := hq
  exact ChangeSpec.post_blind hp
set_option maxRecDepth 100000 in
theorem lifted (os : Os) (started : os.Started) (H : Type) (enc : TypeId × Value → H) :
    ReturnsInHanded {} Tryz.checked os 3 .any (fun w args => (Rows.freshKeepsSpec.pre enc Tryz.prog Tryz.f3 Rows.freshKeepsRow.domain false w args ∧ laidMetH Tryz.prog [("unicode/utf8.acceptRanges", Rows.laid_unicode_utf8_acceptRanges), ("unicode/utf8.first", Rows.laid_unicode_utf8_first)] w) ∧ sizedMet enc Tryz.prog Tryz.f3 (OpenSpec.ofChange Rows.freshKeepsSpec) false w args)
      (Rows.freshKeepsSpec.post enc Tryz.prog Tryz.f3 false true false false) := by
  refine and_shaped (C := Tryz.checked) (X := (fun w _ => laidMetH Tryz.prog [("unicode/utf8.acceptRanges", Rows.laid_unicode_utf8_acceptRanges), ("unicode/utf8.first", Rows.laid_unicode_utf8_first)] w)) (fun _ _ _ hh h => h.of_heap hh) own started (by kernel_rfl) Tryz.func3
    (ChangeSpec.witness_shaped (enc := enc) (C := Tryz.checked) (os := os) (X := (fun w _ => laidMetH Tryz.prog [("unicode/utf8.acceptRanges", Rows.laid_unicode_utf8_acceptRanges), ("unicode/utf8.first", Rows.laid_unicode_utf8_first)] w)) false (World.laidAll Tryz.prog os [("unicode/utf8.acceptRanges", Rows.laid_unicode_utf8_acceptRanges), ("unicode/utf8.first", Rows.laid_unicode_utf8_first)]) #[.agg #[.string ByteArray.empty, .int .i64 0, .int .i64 0, .int .i64 0, .bool false, .bool false, .slice none 0 0], .string ByteArray.empty, .slice none 0 0, .int .i64 0, .slice none 0 0] 8 (World.laidAll_os _ _ _)
      (World.shaped_of_ZipB (by kernel_rfl) (by kernel_rfl)) (by kernel_rfl) (by kernel_rfl) (by kernel_rfl)
      (by rw [MakeChecks.laidMetH_plain _ _ _ (by kernel_rfl)]; exact laidMet_laidAll _ (by kernel_rfl) (by kernel_rfl))) ?_
  intro W base args ds gs before hval0 hW hcnd hZ0 hL hsh _
  have hval : ∀ (j : Nat) t v, Tryz.f3.params[j]? = some t → args[j]? = some v → Value.okWide Tryz.prog W .any base t v := hval0
  have hW' := hW
  obtain ⟨p, q, hA0, hV, rfl, hfz, hnd⟩ := hW
  have hA : DataW.TrodAll enc Tryz.prog W 0 (fun _ => true) true Tryz.f3.params.toList args.toList ds p := hA0
  rw [Tryz.params3] at hA hval
  obtain ⟨v0, vs0, d0, ds0, p0, q0, hargs, rfl, rfl, h0, r0⟩ := trodAll_cons hA
  obtain ⟨v1, vs1, d1, ds1, p1, q1, rfl, rfl, rfl, h1, r1⟩ := trodAll_cons r0
  obtain ⟨v2, vs2, d2, ds2, p2, q2, rfl, rfl, rfl, h2, r2⟩ := trodAll_cons r1
  obtain ⟨v3, vs3, d3, ds3, p3, q3, rfl, rfl, rfl, h3, r3⟩ := trodAll_cons r2
  obtain ⟨v4, vs4, d4, ds4, p4, q4, rfl, rfl, rfl, h4, r4⟩ := trodAll_cons r3
  obtain ⟨rfl, rfl, rfl⟩ := trodAll_nil r4
  obtain rfl : args = #[v0, v1, v2, v3, v4] := by cases args; simp_all
  obtain ⟨rfl, rfl⟩ := trodVars_none hV
  have k0 := h0
  have lt0 : ∀ x ∈ p0, x.block < W.heap.size := by obtain ⟨m, hm⟩ := k0; exact DataW.trod_lt m _ _ _ hm
  obtain ⟨a0_0, a0_1, a0_2, a0_3, a0_4, a0_5, A0_6, c0_6, l0_6, rfl, m0_6, R0_6, w0_1, w0_2, w0_3⟩ := openSite (hval 0 24 v0 rfl rfl) h0
  have k1 := h1
  have lt1 : ∀ x ∈ p1, x.block < W.heap.size := by obtain ⟨m, hm⟩ := k1; exact DataW.trod_lt m _ _ _ hm
  obtain ⟨a1, rfl, rfl, rfl, y1⟩ := open_string Tryz.underlying9 (hval 1 9 v1 rfl rfl) h1
  have b1 : a1.size ≤ 9223372036854775807 := by have := y1; unfold maxLen at this; exact this
  obtain ⟨a2, len2, cap2, rfl⟩ := okWide_slice Tryz.underlying26 (hval 2 26 v2 rfl rfl)
  have k2 := h2
  have lt2 : ∀ x ∈ p2, x.block < W.heap.size := by obtain ⟨m, hm⟩ := k2; exact DataW.trod_lt m _ _ _ hm
  obtain ⟨l2, e2, m2, b2, R2, c2⟩ : ∃ xs : List PAll.S46, xs.length = len2 ∧ len2 ≤ cap2 ∧ len2 ≤ 9223372036854775807 ∧ Go.Proofs.YtgpekljckdgggaaGreatDoorW.PrintWords.Kd.C PAll.k46 W a2 len2 xs ∧ ∀ x ∈ xs, x.f0.size ≤ 9223372036854775807 ∧ x.f1.size ≤ 9223372036854775807 := by
    obtain ⟨fuel, hf⟩ := h2
    rcases open_slice_pairs Tryz.underlying26 Tryz.underlying46 (by kernel_rfl) rfl rfl (by kernel_rfl) (by kernel_rfl) hf with ⟨hcs, _⟩ | ⟨x, l, c, m, nn, V0, V1, D0, D1, P0, P1, hcs, _, hl, hm, hmm, hx, hcell⟩
    · simp [Value.cells] at hcs
      obtain ⟨rfl, rfl, rfl⟩ := hcs
      exact ⟨[], rfl, Nat.le_refl _, Nat.zero_le _, ⟨rfl, Nat.zero_le _, fun h => absurd h (Nat.lt_irrefl _)⟩, fun x hx => absurd hx (by simp)⟩
    · simp [Value.cells] at hcs
      obtain ⟨rfl, rfl, rfl⟩ := hcs
      have hlm : len2 ≤ m := by rw [hmm]; split <;> omega
      unfold maxLen at hm
      have each : ∀ i, i < len2 → (V0 i = .string (strV (V0 i)) ∧ (strV (V0 i)).size ≤ 9223372036854775807) ∧ V1 i = .string (strV (V1 i)) ∧ (strV (V1 i)).size ≤ 9223372036854775807 := by
        intro i hi
        obtain ⟨_, _, g0, g1⟩ := hcell i (by omega)
        obtain ⟨s0, z0, e0⟩ := openS Tryz.underlying9 g0
        obtain ⟨s1, z1, e1⟩ := openS Tryz.underlying9 g1
        rw [e0, e1]
        exact ⟨⟨rfl, z0⟩, rfl, z1⟩
      refine ⟨(List.range len2).map fun i => ⟨strV (V0 i), strV (V1 i)⟩, by simp, hl, by omega, ⟨by simp, by omega, fun _ => ⟨x, rfl, fun j p hj => ?_⟩⟩, fun y hy => ?_⟩
      · have hjl : j < len2 := by
          have := (List.getElem?_eq_some_iff.1 hj).1
          simpa using this
        obtain ⟨g0, g1, _, _⟩ := hcell j (by omega)
        obtain ⟨⟨e0, _⟩, e1, _⟩ := each j hjl
        rw [e0] at g0
        rw [e1] at g1
        obtain rfl : (⟨strV (V0 j), strV (V1 j)⟩ : PAll.S46) = p := by simpa [List.getElem?_map, List.getElem?_range hjl] using hj
        refine ⟨_, rfl, PAll.k46_mk W _, fun i u hu => ?_⟩
        rcases i with _ | _ | i
        · obtain rfl : Value.string (strV (V0 j)) = u := by simpa using hu
          exact g0
        · obtain rfl : Value.string (strV (V1 j)) = u := by simpa using hu
          exact g1
        · simp at hu
      · obtain ⟨i, hi, rfl⟩ := List.mem_map.1 hy
        obtain ⟨⟨_, z0⟩, _, z1⟩ := each i (List.mem_range.1 hi)
        exact ⟨z0, z1⟩
  subst e2
  obtain ⟨a3, rfl, rfl, rfl, w3⟩ := open_int Tryz.underlying3 (hval 3 3 v3 rfl rfl) h3
  obtain ⟨a4, len4, cap4, rfl⟩ := okWide_slice Tryz.underlying26 (hval 4 26 v4 rfl rfl)
  have k4 := h4
  have lt4 : ∀ x ∈ p4, x.block < W.heap.size := by obtain ⟨m, hm⟩ := k4; exact DataW.trod_lt m _ _ _ hm
  obtain ⟨l4, e4, m4, b4, R4, c4⟩ : ∃ xs : List PAll.S46, xs.length = len4 ∧ len4 ≤ cap4 ∧ len4 ≤ 9223372036854775807 ∧ Go.Proofs.YtgpekljckdgggaaGreatDoorW.PrintWords.Kd.C PAll.k46 W a4 len4 xs ∧ ∀ x ∈ xs, x.f0.size ≤ 9223372036854775807 ∧ x.f1.size ≤ 9223372036854775807 := by
    obtain ⟨fuel, hf⟩ := h4
    rcases open_slice_pairs Tryz.underlying26 Tryz.underlying46 (by kernel_rfl) rfl rfl (by kernel_rfl) (by kernel_rfl) hf with ⟨hcs, _⟩ | ⟨x, l, c, m, nn, V0, V1, D0, D1, P0, P1, hcs, _, hl, hm, hmm, hx, hcell⟩
    · simp [Value.cells] at hcs
      obtain ⟨rfl, rfl, rfl⟩ := hcs
      exact ⟨[], rfl, Nat.le_refl _, Nat.zero_le _, ⟨rfl, Nat.zero_le _, fun h => absurd h (Nat.lt_irrefl _)⟩, fun x hx => absurd hx (by simp)⟩
    · simp [Value.cells] at hcs
      obtain ⟨rfl, rfl, rfl⟩ := hcs
      have hlm : len4 ≤ m := by rw [hmm]; split <;> omega
      unfold maxLen at hm
      have each : ∀ i, i < len4 → (V0 i = .string (strV (V0 i)) ∧ (strV (V0 i)).size ≤ 9223372036854775807) ∧ V1 i = .string (strV (V1 i)) ∧ (strV (V1 i)).size ≤ 9223372036854775807 := by
        intro i hi
        obtain ⟨_, _, g0, g1⟩ := hcell i (by omega)
        obtain ⟨s0, z0, e0⟩ := openS Tryz.underlying9 g0
        obtain ⟨s1, z1, e1⟩ := openS Tryz.underlying9 g1
        rw [e0, e1]
        exact ⟨⟨rfl, z0⟩, rfl, z1⟩
      refine ⟨(List.range len4).map fun i => ⟨strV (V0 i), strV (V1 i)⟩, by simp, hl, by omega, ⟨by simp, by omega, fun _ => ⟨x, rfl, fun j p hj => ?_⟩⟩, fun y hy => ?_⟩
      · have hjl : j < len4 := by
          have := (List.getElem?_eq_some_iff.1 hj).1
          simpa using this
        obtain ⟨g0, g1, _, _⟩ := hcell j (by omega)
        obtain ⟨⟨e0, _⟩, e1, _⟩ := each j hjl
        rw [e0] at g0
        rw [e1] at g1
        obtain rfl : (⟨strV (V0 j), strV (V1 j)⟩ : PAll.S46) = p := by simpa [List.getElem?_map, List.getElem?_range hjl] using hj
        refine ⟨_, rfl, PAll.k46_mk W _, fun i u hu => ?_⟩
        rcases i with _ | _ | i
        · obtain rfl : Value.string (strV (V0 j)) = u := by simpa using hu
          exact g0
        · obtain rfl : Value.string (strV (V1 j)) = u := by simpa using hu
          exact g1
        · simp at hu
      · obtain ⟨i, hi, rfl⟩ := List.mem_map.1 hy
        obtain ⟨⟨_, z0⟩, _, z1⟩ := each i (List.mem_range.1 hi)
        exact ⟨z0, z1⟩
  subst e4
  clear hA0 hval0
  obtain ⟨k, hk⟩ := Pure.FreshKeeps a0_0 a0_1 a0_2 a0_3 a0_4 a0_5 l0_6 a1 l2 a3 l4 w0_1 w0_2 w0_3 b1 b2 c2 w3 b4 c4
  refine (PAll.pantrylaw12_FreshKeeps.calls k a0_0 a0_1 a0_2 a0_3 a0_4 a0_5 _ _ l0_6 a1 _ _ l2 a3 _ _ l4 true W R0_6 m0_6 R2 m2 R4 m4 (Tryz.laysM143.s1_3 W hsh) hk).mono fun e W' ⟨he, bel⟩ => ?_
  subst he
  exact ⟨_, rfl, _, _, _, [], _, [], hW', trodAll_mk1 (shut_bool Tryz.underlying4 _), (trodAll_cons_mk (Below.trod laidOut (by kernel_rfl) (of_decide_eq_true (by kernel_rfl)) k0 bel lt0) (trodAll_cons_mk (shut_string Tryz.underlying9 y1) (trodAll_cons_mk (Below.trod laidOut (by kernel_rfl) (of_decide_eq_true (by kernel_rfl)) k2 bel lt2) (trodAll_cons_mk (shut_int Tryz.underlying3 w3) (trodAll_cons_mk (Below.trod laidOut (by kernel_rfl) (of_decide_eq_true (by kernel_rfl)) k4 bel lt4) trodAll_mk0))))), rfl, bel.frame _, fun h => by cases h⟩
theorem over : Rows.freshKeepsRow.holds Tryz.pinned (OpenSpec.ofChange Rows.freshKeepsSpec) :=
  OpenClaim.holds_of_wide 3 Tryz.f3 rfl rfl rfl rfl rfl rfl rfl ⟨rfl, rfl, rfl, rfl, rfl⟩ rfl rfl rfl rfl rfl (by kernel_rfl) Tryz.func3 (by kernel_rfl)
    (of_decide_eq_true (by kernel_rfl)) (by unfold Func.isWrapper; first | (rw [if_pos (by decide +kernel)]; kernel_rfl) | (rw [if_neg (by decide +kernel)]; exact ⟨rfl, rfl⟩))
    (fun os started H enc _ => lifted os started H enc)
theorem card : Rows.FreshKeepsCardSaid :=
  Claim7.holds_tied_plain_at .later [] [.data, .pinned] true (true, "da976643420e8a9dbb5c222a18ec9f18389abedb75b1d2ff778aca4b71a6fea5") true over (fun _ h => by cases h) (by kernel_rfl) (fun _ h => by cases h) freshKeeps_row_tie rfl ⟨rfl, rfl⟩ (by kernel_rfl) rfl
    (fun f fn hf hfn => by
      obtain rfl : f = 3 := Option.some.inj ((show Tryz.prog.funcNamed "pantry/pantrylaw12.FreshKeeps" = some 3 by kernel_rfl).symm.trans hf) |>.symm
      obtain rfl : fn = Tryz.f3 := (Option.some.inj (Tryz.func3.symm.trans hfn)).symm
      exact ⟨by kernel_rfl, fun j t ht => by
        rw [Tryz.params3] at ht
        have hm : t ∈ ([24, 9, 26, 3, 26] : List Nat) := by simpa using Array.mem_of_getElem? ht
        have hall : (([24, 9, 26, 3, 26] : List Nat).all fun u => !Tryz.prog.wantsStandIn u) = true := by kernel_rfl
        exact (show Tryz.prog.wantsStandIn t = false by simpa using List.all_eq_true.1 hall t hm)⟩)
    (by kernel_rfl)
end Go.Proofs.YtgpekljckdgggaaGreatDoor.freshKeeps
namespace Go.Proofs.YtgpekljckdgggaaGreatDoor
/-- The card, under a short name, for the claim. -/
theorem freshKeeps_holds : Rows.FreshKeepsCardSaid := freshKeeps.card
end Go.Proofs.YtgpekljckdgggaaGreatDoor
