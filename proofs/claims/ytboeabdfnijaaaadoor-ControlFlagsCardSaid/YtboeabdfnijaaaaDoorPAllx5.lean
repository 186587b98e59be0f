-- Text by a program of this session, over what print.py prints.
import Derived.Test.YtboeabdfnijaaaaDoorPAllx0
import Derived.Test.YtboeabdfnijaaaaDoorPAllx2
import Derived.Test.YtboeabdfnijaaaaDoorPAllx3
import Derived.Test.YtboeabdfnijaaaaDoorPAllx4
namespace Go.Proofs.YtboeabdfnijaaaaDoor.PAll
open Go.RowKit Go.Proofs.YtboeabdfnijaaaaDoorW.PrintWords Go.Proofs.YtboeabdfnijaaaaDoorW.PrintLast Go.Proofs.YtboeabdfnijaaaaDoorW.PrintMore
attribute [local go_sem] max2_int min2_int max_two min_two max_three min_three max_four min_four   -- for this text's walks alone
set_option linter.unusedVariables false
set_option linter.unusedSimpArgs false

/-! ### control_Control_directive: function 24, by hand -/
-- over 37 38
def dirV (k : Nat) (c : Ctl) (nm arg : ByteArray) (has : Bool) : Option Ctl :=
  if nm.toList = ([110, 111, 45, 115, 116, 111, 114, 101] : List UInt8) then (some { c with s0 := true }) else
  if nm.toList = ([110, 111, 45, 99, 97, 99, 104, 101] : List UInt8) then (some { c with s1 := true }) else
  if nm.toList = ([112, 114, 105, 118, 97, 116, 101] : List UInt8) then (some { c with s2 := true }) else
  if nm.toList = ([112, 117, 98, 108, 105, 99] : List UInt8) then (some { c with s3 := true }) else
  if nm.toList = ([109, 117, 115, 116, 45, 114, 101, 118, 97, 108, 105, 100, 97, 116, 101] : List UInt8) then (some { c with s4 := true }) else
  if nm.toList = ([112, 114, 111, 120, 121, 45, 114, 101, 118, 97, 108, 105, 100, 97, 116, 101] : List UInt8) then (some { c with s4 := true }) else
  if nm.toList = ([111, 110, 108, 121, 45, 105, 102, 45, 99, 97, 99, 104, 101, 100] : List UInt8) then (some { c with s5 := true }) else
  if nm.toList = ([109, 97, 120, 45, 97, 103, 101] : List UInt8) then ((control_seconds.f k arg 0).bind fun n => some { c with s6 := leastV c.s6 n }) else
  if nm.toList = ([115, 45, 109, 97, 120, 97, 103, 101] : List UInt8) then ((control_seconds.f k arg 0).bind fun n => some { c with s7 := leastV c.s7 n }) else
  if nm.toList = ([109, 105, 110, 45, 102, 114, 101, 115, 104] : List UInt8) then ((control_seconds.f k arg 2147483648).bind fun n => some { c with s8 := mx c.s8 n }) else
  if nm.toList = ([109, 97, 120, 45, 115, 116, 97, 108, 101] : List UInt8) then (if has = true then (control_seconds.f k arg 0).bind fun n => some { c with s9 := leastV c.s9 n } else some { c with s9 := leastV c.s9 2147483648 }) else
  some c
theorem dirV.mono (k : Nat) (c : Ctl) (nm arg : ByteArray) (has : Bool) : LeO (dirV k c nm arg has) (dirV (k + 1) c nm arg has) := by
  unfold dirV
  repeat' first
  | (with_reducible exact LeO.refl _)
  | exact LeO.bind (control_seconds.mono _ _ _) (fun _ => LeO.refl _)
  | refine LeO.ite ?_ ?_
def Blk (W : World) (g : Nat) (c : Ctl) : Prop := W.heap[g]? = some (.cells (ctCells c) 29 (0, 0))
set_option maxHeartbeats 8000000 in
set_option maxRecDepth 100000 in
theorem directive_calls (k g : Nat) (c : Ctl) (nm arg : ByteArray) (has : Bool) (r : Ctl) (W : World) (hb : Blk W g c) (h : dirV k c nm arg has = some r) :
    Calls Tryd.prog 24 #[.pointer (some ⟨g, 0, none⟩), .string nm, .string arg, .bool has] W fun e w' => e = .returned (.tuple #[]) ∧ Blk w' g r ∧ KeepBut W w' g none ∧ ∀ w0 : World, w0.heap.size ≤ g → Below w0.heap.size w0 W → Below w0.heap.size w0 w' := by
  unfold dirV at h
  have hlt : g < W.heap.size := (Array.getElem?_eq_some_iff.1 hb).1
  by_cases c0 : nm.toList = ([110, 111, 45, 115, 116, 111, 114, 101] : List UInt8)
  · rw [if_pos c0] at h
    have d0 : (nm.toList == ([110, 111, 45, 115, 116, 111, 114, 101] : List UInt8)) = true := beq_iff_eq.mpr c0
    obtain rfl := Option.some.inj h
    clear h
    have hc0 : W.cell? ⟨g, 0, none⟩ = some (.bool c.s0) := (blk_cell hb 0).trans rfl
    have hf0 := blk_frozen hb 0
    go_enter Tryd.func24, Tryd.ntmps24
    go_wp2
    first | go_end0 | ((try simp only [Exit.inBlock, Exit.then]); refine bodyPost_ret (results_none rfl _ _ _) rfl ?_)
    exact ⟨rfl, blk_put hb 0 _ rfl, (KeepBut.refl _ _ _).set_ 0 _, fun w0 hB h => below_set h hB⟩
  · rw [if_neg c0] at h
    have d0 : (nm.toList == ([110, 111, 45, 115, 116, 111, 114, 101] : List UInt8)) = false := beq_eq_false_iff_ne.mpr c0
    by_cases c1 : nm.toList = ([110, 111, 45, 99, 97, 99, 104, 101] : List UInt8)
    · rw [if_pos c1] at h
      have d1 : (nm.toList == ([110, 111, 45, 99, 97, 99, 104, 101] : List UInt8)) = true := beq_iff_eq.mpr c1
      obtain rfl := Option.some.inj h
      clear h
      have hc1 : W.cell? ⟨g, 1, none⟩ = some (.bool c.s1) := (blk_cell hb 1).trans rfl
      have hf1 := blk_frozen hb 1
      go_enter Tryd.func24, Tryd.ntmps24
      go_wp2
      first | go_end0 | ((try simp only [Exit.inBlock, Exit.then]); refine bodyPost_ret (results_none rfl _ _ _) rfl ?_)
      exact ⟨rfl, blk_put hb 1 _ rfl, (KeepBut.refl _ _ _).set_ 1 _, fun w0 hB h => below_set h hB⟩
    · rw [if_neg c1] at h
      have d1 : (nm.toList == ([110, 111, 45, 99, 97, 99, 104, 101] : List UInt8)) = false := beq_eq_false_iff_ne.mpr c1
      by_cases c2 : nm.toList = ([112, 114, 105, 118, 97, 116, 101] : List UInt8)
      · rw [if_pos c2] at h
        have d2 : (nm.toList == ([112, 114, 105, 118, 97, 116, 101] : List UInt8)) = true := beq_iff_eq.mpr c2
        obtain rfl := Option.some.inj h
        clear h
        have hc2 : W.cell? ⟨g, 2, none⟩ = some (.bool c.s2) := (blk_cell hb 2).trans rfl
        have hf2 := blk_frozen hb 2
        go_enter Tryd.func24, Tryd.ntmps24
        go_wp2
        first | go_end0 | ((try simp only [Exit.inBlock, Exit.then]); refine bodyPost_ret (results_none rfl _ _ _) rfl ?_)
        exact ⟨rfl, blk_put hb 2 _ rfl, (KeepBut.refl _ _ _).set_ 2 _, fun w0 hB h => below_set h hB⟩
      · rw [if_neg c2] at h
        have d2 : (nm.toList == ([112, 114, 105, 118, 97, 116, 101] : List UInt8)) = false := beq_eq_false_iff_ne.mpr c2
        by_cases c3 : nm.toList = ([112, 117, 98, 108, 105, 99] : List UInt8)
        · rw [if_pos c3] at h
          have d3 : (nm.toList == ([112, 117, 98, 108, 105, 99] : List UInt8)) = true := beq_iff_eq.mpr c3
          obtain rfl := Option.some.inj h
          clear h
          have hc3 : W.cell? ⟨g, 3, none⟩ = some (.bool c.s3) := (blk_cell hb 3).trans rfl
          have hf3 := blk_frozen hb 3
          go_enter Tryd.func24, Tryd.ntmps24
          go_wp2
          first | go_end0 | ((try simp only [Exit.inBlock, Exit.then]); refine bodyPost_ret (results_none rfl _ _ _) rfl ?_)
          exact ⟨rfl, blk_put hb 3 _ rfl, (KeepBut.refl _ _ _).set_ 3 _, fun w0 hB h => below_set h hB⟩
        · rw [if_neg c3] at h
          have d3 : (nm.toList == ([112, 117, 98, 108, 105, 99] : List UInt8)) = false := beq_eq_false_iff_ne.mpr c3
          by_cases c4 : nm.toList = ([109, 117, 115, 116, 45, 114, 101, 118, 97, 108, 105, 100, 97, 116, 101] : List UInt8)
          · rw [if_pos c4] at h
            have d4 : (nm.toList == ([109, 117, 115, 116, 45, 114, 101, 118, 97, 108, 105, 100, 97, 116, 101] : List UInt8)) = true := beq_iff_eq.mpr c4
            obtain rfl := Option.some.inj h
            clear h
            have hc4 : W.cell? ⟨g, 4, none⟩ = some (.bool c.s4) := (blk_cell hb 4).trans rfl
            have hf4 := blk_frozen hb 4
            go_enter Tryd.func24, Tryd.ntmps24
            go_wp2
            first | go_end0 | ((try simp only [Exit.inBlock, Exit.then]); refine bodyPost_ret (results_none rfl _ _ _) rfl ?_)
            exact ⟨rfl, blk_put hb 4 _ rfl, (KeepBut.refl _ _ _).set_ 4 _, fun w0 hB h => below_set h hB⟩
          · rw [if_neg c4] at h
            have d4 : (nm.toList == ([109, 117, 115, 116, 45, 114, 101, 118, 97, 108, 105, 100, 97, 116, 101] : List UInt8)) = false := beq_eq_false_iff_ne.mpr c4
            by_cases c5 : nm.toList = ([112, 114, 111, 120, 121, 45, 114, 101, 118, 97, 108, 105, 100, 97, 116, 101] : List UInt8)
            · rw [if_pos c5] at h
              have d5 : (nm.toList == ([112, 114, 111, 120, 121, 45, 114, 101, 118, 97, 108, 105, 100, 97, 116, 101] : List UInt8)) = true := beq_iff_eq.mpr c5
              obtain rfl := Option.some.inj h
              clear h
              have hc4 : W.cell? ⟨g, 4, none⟩ = some (.bool c.s4) := (blk_cell hb 4).trans rfl
              have hf4 := blk_frozen hb 4
              go_enter Tryd.func24, Tryd.ntmps24
              go_wp2
              first | go_end0 | ((try simp only [Exit.inBlock, Exit.then]); refine bodyPost_ret (results_none rfl _ _ _) rfl ?_)
              exact ⟨rfl, blk_put hb 4 _ rfl, (KeepBut.refl _ _ _).set_ 4 _, fun w0 hB h => below_set h hB⟩
            · rw [if_neg c5] at h
              have d5 : (nm.toList == ([112, 114, 111, 120, 121, 45, 114, 101, 118, 97, 108, 105, 100, 97, 116, 101] : List UInt8)) = false := beq_eq_false_iff_ne.mpr c5
              by_cases c6 : nm.toList = ([111, 110, 108, 121, 45, 105, 102, 45, 99, 97, 99, 104, 101, 100] : List UInt8)
              · rw [if_pos c6] at h
                have d6 : (nm.toList == ([111, 110, 108, 121, 45, 105, 102, 45, 99, 97, 99, 104, 101, 100] : List UInt8)) = true := beq_iff_eq.mpr c6
                obtain rfl := Option.some.inj h
                clear h
                have hc5 : W.cell? ⟨g, 5, none⟩ = some (.bool c.s5) := (blk_cell hb 5).trans rfl
                have hf5 := blk_frozen hb 5
                go_enter Tryd.func24, Tryd.ntmps24
                go_wp2
                first | go_end0 | ((try simp only [Exit.inBlock, Exit.then]); refine bodyPost_ret (results_none rfl _ _ _) rfl ?_)
                exact ⟨rfl, blk_put hb 5 _ rfl, (KeepBut.refl _ _ _).set_ 5 _, fun w0 hB h => below_set h hB⟩
              · rw [if_neg c6] at h
                have d6 : (nm.toList == ([111, 110, 108, 121, 45, 105, 102, 45, 99, 97, 99, 104, 101, 100] : List UInt8)) = false := beq_eq_false_iff_ne.mpr c6
                by_cases c7 : nm.toList = ([109, 97, 120, 45, 97, 103, 101] : List UInt8)
                · rw [if_pos c7] at h
                  have d7 : (nm.toList == ([109, 97, 120, 45, 97, 103, 101] : List UInt8)) = true := beq_iff_eq.mpr c7
                  obtain ⟨n, hn, hz⟩ := Option.bind_eq_some_iff.mp h
                  clear h
                  obtain rfl := Option.some.inj hz
                  have HN := Aside0.mk hn
                  clear hn hz
                  go_enter Tryd.func24, Tryd.ntmps24
                  go_wp2_with fail
                  refine start_ (n := 6) (S := (fun _ => True)) (ds := [5]) #[false, false, false, false, false, false] (by kernel_rfl) rfl rfl trivial (fun hHeld => ?_)
                  refine pure_ (i := 0) (N := some 43) (v := ?_) (a' := ?_) #[true, false, false, false, false, false] rfl rfl (by kernel_rfl) (fun _ _ _ h => h) (Or.inl ⟨by rfl, ?_⟩) ?_ ?_
                  rotate_left
                  · intro w'
                    go_simp
                    try (with_reducible rfl)
                  rotate_left
                  · simp only [Act.put, List.setIfInBounds_toArray, List.set_cons_zero, List.set_cons_succ, i64_w, i32_w]
                    rfl
                  refine pure_ (i := 1) (N := some 44) (v := ?_) (a' := ?_) #[true, true, false, false, false, false] rfl rfl (by kernel_rfl) (fun _ _ _ h => h) (Or.inl ⟨by rfl, ?_⟩) ?_ ?_
                  rotate_left
                  · intro w'
                    go_simp
                    try (with_reducible rfl)
                  rotate_left
                  · simp only [Act.put, List.setIfInBounds_toArray, List.set_cons_zero, List.set_cons_succ, i64_w, i32_w]
                    rfl
                  refine pure_ (i := 2) (N := some 45) (v := ?_) (a' := ?_) #[true, true, true, false, false, false] rfl rfl (by kernel_rfl) (fun _ _ _ h => h) (Or.inl ⟨by rfl, ?_⟩) ?_ ?_
                  rotate_left
                  · intro w'
                    go_simp
                    try (with_reducible rfl)
                  rotate_left
                  · simp only [Act.put, List.setIfInBounds_toArray, List.set_cons_zero, List.set_cons_succ, i64_w, i32_w]
                    rfl
                  refine pure_ (i := 3) (N := some 46) (v := ?_) (a' := ?_) #[true, true, true, true, false, false] rfl rfl (by kernel_rfl) (fun _ _ _ h => h) (Or.inl ⟨by rfl, ?_⟩) ?_ ?_
                  rotate_left
                  · intro w'
                    go_simp
                    try (with_reducible rfl)
                  rotate_left
                  · simp only [Act.put, List.setIfInBounds_toArray, List.set_cons_zero, List.set_cons_succ, i64_w, i32_w]
                    rfl
                  refine one_ (i := 4) (N := some 47) #[true, true, true, true, true, false] rfl rfl (by kernel_rfl) (by decide) (fun K hK => ?_)
                  refine goes_ Tryd.func38 (by kernel_rfl) rfl #[.string arg, .int .i64 0] (by rfl) rfl rfl (by (try simp only [List.map_toArray, List.map_cons, List.map_nil]); first | done | rfl) ?_
                  refine (control_seconds.calls k arg 0 n _ HN.out).mono ?_
                  rintro e w2 ⟨rfl, hb2⟩
                  refine ⟨_, rfl, ?_⟩
                  have hblk2 := blk_below (blk_drew hb) hb2
                  have hk2 : KeepBut W w2 g none := (keep_drew (KeepBut.refl _ _ _)).trans (KeepBut.of_below hb2 g none) (.inl rfl)
                  have hbl2 : ∀ w0 : World, w0.heap.size ≤ g → Below w0.heap.size w0 W → Below w0.heap.size w0 w2 := fun w0 hB h => below_then (below_drew h) (Nat.le_of_lt (Nat.lt_of_le_of_lt hB hlt)) hb2
                  refine hK.out _ _ trivial (fun hHeld => ?_)
                  clear hK K
                  refine norm_ (a' := ?_) ?_ ?_
                  rotate_left
                  · show Act.put _ (some 47) _ = _
                    simp only [Act.put, List.setIfInBounds_toArray, List.set_cons_zero, List.set_cons_succ, i64_w, i32_w]
                    rfl
                  refine last_ (i := 5) (N := some 48) #[true, true, true, true, true, true] rfl rfl (by kernel_rfl) (by decide) (fun K hK => ?_)
                  refine goes_ Tryd.func37 (by kernel_rfl) rfl #[.pointer (some ⟨g, 6, none⟩), .int .i64 n] (by rfl) rfl rfl (by (try simp only [List.map_toArray, List.map_cons, List.map_nil]); first | done | rfl) ?_
                  refine (least_calls g 6 c.s6 n w2 ((blk_cell hblk2 6).trans rfl) (blk_frozen hblk2 6)).mono ?_
                  rintro e w3 ⟨rfl, hw3, hc3⟩
                  refine ⟨_, rfl, ?_⟩
                  obtain ⟨q1, q2, q3⟩ := least_blk g 6 c.s6 n _ _ w2 w3 hblk2 rfl hw3 hc3
                  refine hK.out _ _ ?_
                  clear hK K
                  refine norm_ (a' := ?_) ?_ ?_
                  rotate_left
                  · show Act.put _ (some 48) _ = _
                    simp only [Act.put, List.setIfInBounds_toArray, List.set_cons_zero, List.set_cons_succ, i64_w, i32_w]
                    rfl
                  refine done_ (by kernel_rfl) ?_
                  go_wp2
                  first | go_end0 | ((try simp only [Exit.inBlock, Exit.then]); refine bodyPost_ret (results_none rfl _ _ _) rfl ?_)
                  exact ⟨rfl, q1, hk2.trans q2 (.inl rfl), fun w0 hB h => q3 w0 hB (hbl2 w0 hB h)⟩
                · rw [if_neg c7] at h
                  have d7 : (nm.toList == ([109, 97, 120, 45, 97, 103, 101] : List UInt8)) = false := beq_eq_false_iff_ne.mpr c7
                  by_cases c8 : nm.toList = ([115, 45, 109, 97, 120, 97, 103, 101] : List UInt8)
                  · rw [if_pos c8] at h
                    have d8 : (nm.toList == ([115, 45, 109, 97, 120, 97, 103, 101] : List UInt8)) = true := beq_iff_eq.mpr c8
                    obtain ⟨n, hn, hz⟩ := Option.bind_eq_some_iff.mp h
                    clear h
                    obtain rfl := Option.some.inj hz
                    have HN := Aside0.mk hn
                    clear hn hz
                    go_enter Tryd.func24, Tryd.ntmps24
                    go_wp2_with fail
                    refine start_ (n := 6) (S := (fun _ => True)) (ds := [5]) #[false, false, false, false, false, false] (by kernel_rfl) rfl rfl trivial (fun hHeld => ?_)
                    refine pure_ (i := 0) (N := some 51) (v := ?_) (a' := ?_) #[true, false, false, false, false, false] rfl rfl (by kernel_rfl) (fun _ _ _ h => h) (Or.inl ⟨by rfl, ?_⟩) ?_ ?_
                    rotate_left
                    · intro w'
                      go_simp
                      try (with_reducible rfl)
                    rotate_left
                    · simp only [Act.put, List.setIfInBounds_toArray, List.set_cons_zero, List.set_cons_succ, i64_w, i32_w]
                      rfl
                    refine pure_ (i := 1) (N := some 52) (v := ?_) (a' := ?_) #[true, true, false, false, false, false] rfl rfl (by kernel_rfl) (fun _ _ _ h => h) (Or.inl ⟨by rfl, ?_⟩) ?_ ?_
                    rotate_left
                    · intro w'
                      go_simp
                      try (with_reducible rfl)
                    rotate_left
                    · simp only [Act.put, List.setIfInBounds_toArray, List.set_cons_zero, List.set_cons_succ, i64_w, i32_w]
                      rfl
                    refine pure_ (i := 2) (N := some 53) (v := ?_) (a' := ?_) #[true, true, true, false, false, false] rfl rfl (by kernel_rfl) (fun _ _ _ h => h) (Or.inl ⟨by rfl, ?_⟩) ?_ ?_
                    rotate_left
                    · intro w'
                      go_simp
                      try (with_reducible rfl)
                    rotate_left
                    · simp only [Act.put, List.setIfInBounds_toArray, List.set_cons_zero, List.set_cons_succ, i64_w, i32_w]
                      rfl
                    refine pure_ (i := 3) (N := some 54) (v := ?_) (a' := ?_) #[true, true, true, true, false, false] rfl rfl (by kernel_rfl) (fun _ _ _ h => h) (Or.inl ⟨by rfl, ?_⟩) ?_ ?_
                    rotate_left
                    · intro w'
                      go_simp
                      try (with_reducible rfl)
                    rotate_left
                    · simp only [Act.put, List.setIfInBounds_toArray, List.set_cons_zero, List.set_cons_succ, i64_w, i32_w]
                      rfl
                    refine one_ (i := 4) (N := some 55) #[true, true, true, true, true, false] rfl rfl (by kernel_rfl) (by decide) (fun K hK => ?_)
                    refine goes_ Tryd.func38 (by kernel_rfl) rfl #[.string arg, .int .i64 0] (by rfl) rfl rfl (by (try simp only [List.map_toArray, List.map_cons, List.map_nil]); first | done | rfl) ?_
                    refine (control_seconds.calls k arg 0 n _ HN.out).mono ?_
                    rintro e w2 ⟨rfl, hb2⟩
                    refine ⟨_, rfl, ?_⟩
                    have hblk2 := blk_below (blk_drew hb) hb2
                    have hk2 : KeepBut W w2 g none := (keep_drew (KeepBut.refl _ _ _)).trans (KeepBut.of_below hb2 g none) (.inl rfl)
                    have hbl2 : ∀ w0 : World, w0.heap.size ≤ g → Below w0.heap.size w0 W → Below w0.heap.size w0 w2 := fun w0 hB h => below_then (below_drew h) (Nat.le_of_lt (Nat.lt_of_le_of_lt hB hlt)) hb2
                    refine hK.out _ _ trivial (fun hHeld => ?_)
                    clear hK K
                    refine norm_ (a' := ?_) ?_ ?_
                    rotate_left
                    · show Act.put _ (some 55) _ = _
                      simp only [Act.put, List.setIfInBounds_toArray, List.set_cons_zero, List.set_cons_succ, i64_w, i32_w]
                      rfl
                    refine last_ (i := 5) (N := some 56) #[true, true, true, true, true, true] rfl rfl (by kernel_rfl) (by decide) (fun K hK => ?_)
                    refine goes_ Tryd.func37 (by kernel_rfl) rfl #[.pointer (some ⟨g, 7, none⟩), .int .i64 n] (by rfl) rfl rfl (by (try simp only [List.map_toArray, List.map_cons, List.map_nil]); first | done | rfl) ?_
                    refine (least_calls g 7 c.s7 n w2 ((blk_cell hblk2 7).trans rfl) (blk_frozen hblk2 7)).mono ?_
                    rintro e w3 ⟨rfl, hw3, hc3⟩
                    refine ⟨_, rfl, ?_⟩
                    obtain ⟨q1, q2, q3⟩ := least_blk g 7 c.s7 n _ _ w2 w3 hblk2 rfl hw3 hc3
                    refine hK.out _ _ ?_
                    clear hK K
                    refine norm_ (a' := ?_) ?_ ?_
                    rotate_left
                    · show Act.put _ (some 56) _ = _
                      simp only [Act.put, List.setIfInBounds_toArray, List.set_cons_zero, List.set_cons_succ, i64_w, i32_w]
                      rfl
                    refine done_ (by kernel_rfl) ?_
                    go_wp2
                    first | go_end0 | ((try simp only [Exit.inBlock, Exit.then]); refine bodyPost_ret (results_none rfl _ _ _) rfl ?_)
                    exact ⟨rfl, q1, hk2.trans q2 (.inl rfl), fun w0 hB h => q3 w0 hB (hbl2 w0 hB h)⟩
                  · rw [if_neg c8] at h
                    have d8 : (nm.toList == ([115, 45, 109, 97, 120, 97, 103, 101] : List UInt8)) = false := beq_eq_false_iff_ne.mpr c8
                    by_cases c9 : nm.toList = ([109, 105, 110, 45, 102, 114, 101, 115, 104] : List UInt8)
                    · rw [if_pos c9] at h
                      have d9 : (nm.toList == ([109, 105, 110, 45, 102, 114, 101, 115, 104] : List UInt8)) = true := beq_iff_eq.mpr c9
                      obtain ⟨n, hn, hz⟩ := Option.bind_eq_some_iff.mp h
                      clear h
                      obtain rfl := Option.some.inj hz
                      have HN := Aside0.mk hn
                      clear hn hz
                      go_enter Tryd.func24, Tryd.ntmps24
                      go_wp2_with fail
                      refine start_ (n := 11) (S := (fun W' => W'.cell? ⟨g, 8, none⟩ = some (.int .i64 c.s8))) (ds := [10]) #[false, false, false, false, false, false, false, false, false, false, false] (by kernel_rfl) rfl rfl ((blk_cell (blk_drew hb) 8).trans rfl) (fun hHeld => ?_)
                      refine pure_ (i := 0) (N := some 59) (v := ?_) (a' := ?_) #[true, false, false, false, false, false, false, false, false, false, false] rfl rfl (by kernel_rfl) (fun _ _ _ h => h) (Or.inl ⟨by rfl, ?_⟩) ?_ ?_
                      rotate_left
                      · intro w'
                        go_simp
                        try (with_reducible rfl)
                      rotate_left
                      · simp only [Act.put, List.setIfInBounds_toArray, List.set_cons_zero, List.set_cons_succ, i64_w, i32_w]
                        rfl
                      refine pure_ (i := 1) (N := some 60) (v := ?_) (a' := ?_) #[true, true, false, false, false, false, false, false, false, false, false] rfl rfl (by kernel_rfl) (fun _ _ _ h => h) (Or.inl ⟨by rfl, ?_⟩) ?_ ?_
                      rotate_left
                      · intro w'
                        go_simp
                        try (with_reducible rfl)
                      rotate_left
                      · simp only [Act.put, List.setIfInBounds_toArray, List.set_cons_zero, List.set_cons_succ, i64_w, i32_w]
                        rfl
                      refine pure_ (i := 2) (N := some 61) (v := ?_) (a' := ?_) #[true, true, true, false, false, false, false, false, false, false, false] rfl rfl (by kernel_rfl) (fun _ _ _ h => h) (Or.inl ⟨by rfl, ?_⟩) ?_ ?_
                      rotate_left
                      · intro w'
                        go_simp
                        try (with_reducible rfl)
                      rotate_left
                      · simp only [Act.put, List.setIfInBounds_toArray, List.set_cons_zero, List.set_cons_succ, i64_w, i32_w]
                        rfl
                      refine pure_ (i := 3) (N := some 62) (v := ?_) (a' := ?_) #[true, true, true, true, false, false, false, false, false, false, false] rfl rfl (by kernel_rfl) (fun _ _ _ h => h) (Or.inl ⟨by rfl, ?_⟩) ?_ ?_
                      rotate_left
                      · intro w'
                        go_simp
                        try (with_reducible rfl)
                      rotate_left
                      · simp only [Act.put, List.setIfInBounds_toArray, List.set_cons_zero, List.set_cons_succ, i64_w, i32_w]
                        rfl
                      refine take_ (i := 4) (N := some 63) (v := ?_) (a' := ?_) #[true, true, true, true, true, false, false, false, false, false, false] rfl rfl (by kernel_rfl) (fun _ _ _ h => h) (Or.inl ⟨by rfl, ?_⟩) hHeld ?_ ?_
                      rotate_left
                      · intro w' hSw
                        go_simp
                        try (with_reducible rfl)
                      rotate_left
                      · simp only [Act.put, List.setIfInBounds_toArray, List.set_cons_zero, List.set_cons_succ, i64_w, i32_w]
                        rfl
                      refine pure_ (i := 5) (N := some 64) (v := ?_) (a' := ?_) #[true, true, true, true, true, true, false, false, false, false, false] rfl rfl (by kernel_rfl) (fun _ _ _ h => h) (Or.inl ⟨by rfl, ?_⟩) ?_ ?_
                      rotate_left
                      · intro w'
                        go_simp
                        try (with_reducible rfl)
                      rotate_left
                      · simp only [Act.put, List.setIfInBounds_toArray, List.set_cons_zero, List.set_cons_succ, i64_w, i32_w]
                        rfl
                      refine one_ (i := 6) (N := some 65) #[true, true, true, true, true, true, true, false, false, false, false] rfl rfl (by kernel_rfl) (by decide) (fun K hK => ?_)
                      refine goes_ Tryd.func38 (by kernel_rfl) rfl #[.string arg, .int .i64 2147483648] (by rfl) rfl rfl (by (try simp only [List.map_toArray, List.map_cons, List.map_nil]); first | done | rfl) ?_
                      refine (control_seconds.calls k arg 2147483648 n _ HN.out).mono ?_
                      rintro e w2 ⟨rfl, hb2⟩
                      refine ⟨_, rfl, ?_⟩
                      have hblk2 := blk_below (blk_drew hb) hb2
                      have hk2 : KeepBut W w2 g none := (keep_drew (KeepBut.refl _ _ _)).trans (KeepBut.of_below hb2 g none) (.inl rfl)
                      have hbl2 : ∀ w0 : World, w0.heap.size ≤ g → Below w0.heap.size w0 W → Below w0.heap.size w0 w2 := fun w0 hB h => below_then (below_drew h) (Nat.le_of_lt (Nat.lt_of_le_of_lt hB hlt)) hb2
                      refine hK.out _ _ ((blk_cell hblk2 8).trans rfl) (fun hHeld => ?_)
                      clear hK K
                      refine norm_ (a' := ?_) ?_ ?_
                      rotate_left
                      · show Act.put _ (some 65) _ = _
                        simp only [Act.put, List.setIfInBounds_toArray, List.set_cons_zero, List.set_cons_succ, i64_w, i32_w]
                        rfl
                      refine pure_ (i := 7) (N := some 66) (v := ?_) (a' := ?_) #[true, true, true, true, true, true, true, true, false, false, false] rfl rfl (by kernel_rfl) (fun _ _ _ h => h) (Or.inl ⟨by rfl, ?_⟩) ?_ ?_
                      rotate_left
                      · intro w'
                        go_simp
                        try (with_reducible rfl)
                      rotate_left
                      · simp only [Act.put, List.setIfInBounds_toArray, List.set_cons_zero, List.set_cons_succ, i64_w, i32_w]
                        rfl
                      refine pure_ (i := 8) (N := some 67) (v := ?_) (a' := ?_) #[true, true, true, true, true, true, true, true, true, false, false] rfl rfl (by kernel_rfl) (fun _ _ _ h => h) (Or.inl ⟨by rfl, ?_⟩) ?_ ?_
                      rotate_left
                      · intro w'
                        go_simp
                        try (with_reducible rfl)
                      rotate_left
                      · simp only [Act.put, List.setIfInBounds_toArray, List.set_cons_zero, List.set_cons_succ, i64_w, i32_w]
                        rfl
                      refine pure_ (i := 9) (N := some 68) (v := ?_) (a' := ?_) #[true, true, true, true, true, true, true, true, true, true, false] rfl rfl (by kernel_rfl) (fun _ _ _ h => h) (Or.inl ⟨by rfl, ?_⟩) ?_ ?_
                      rotate_left
                      · intro w'
                        go_simp
                        try (with_reducible rfl)
                      rotate_left
                      · simp only [Act.put, List.setIfInBounds_toArray, List.set_cons_zero, List.set_cons_succ, i64_w, i32_w]
                        rfl
                      have hc8 : w2.cell? ⟨g, 8, none⟩ = some (.int .i64 c.s8) := (blk_cell hblk2 8).trans rfl
                      have hf8 := blk_frozen hblk2 8
                      refine last_ (i := 10) (N := none) #[true, true, true, true, true, true, true, true, true, true, true] rfl rfl (by kernel_rfl) (by decide) (fun K hK => ?_)
                      refine skip_ (w1 := w2.setCell ⟨g, 8, none⟩ (.int .i64 (mx c.s8 n))) (by rfl) rfl ?_ ?_
                      · first | (go_simp; done) | (go_simp; rfl)
                      refine hK.out _ _ ?_
                      clear hK K
                      refine done_ (by kernel_rfl) ?_
                      go_wp2
                      all_goals (first | go_end0 | ((try simp only [Exit.inBlock, Exit.then]); refine bodyPost_ret (results_none rfl _ _ _) rfl ?_))
                      all_goals exact ⟨rfl, blk_put hblk2 8 _ rfl, hk2.set_ 8 _, fun w0 hB h => below_set (hbl2 w0 hB h) hB⟩
                    · rw [if_neg c9] at h
                      have d9 : (nm.toList == ([109, 105, 110, 45, 102, 114, 101, 115, 104] : List UInt8)) = false := beq_eq_false_iff_ne.mpr c9
                      by_cases c10 : nm.toList = ([109, 97, 120, 45, 115, 116, 97, 108, 101] : List UInt8)
                      · rw [if_pos c10] at h
                        have d10 : (nm.toList == ([109, 97, 120, 45, 115, 116, 97, 108, 101] : List UInt8)) = true := beq_iff_eq.mpr c10
                        cases has with
                        | true =>
                          rw [if_pos rfl] at h
                          obtain ⟨n, hn, hz⟩ := Option.bind_eq_some_iff.mp h
                          clear h
                          obtain rfl := Option.some.inj hz
                          have HN := Aside0.mk hn
                          clear hn hz
                          go_enter Tryd.func24, Tryd.ntmps24
                          go_wp2_with (first | (go_at_call 38; refine (control_seconds.calls k arg 0 n _ HN.out).mono ?_; rintro e w2 ⟨rfl, hb2⟩; have hblk2 := blk_below hb hb2) | (go_at_call 37; refine (least_calls g 9 c.s9 n _ ((blk_cell hblk2 9).trans rfl) (blk_frozen hblk2 9)).mono ?_; rintro e w3 ⟨rfl, hw3, hc3⟩))
                          first | go_end0 | ((try simp only [Exit.inBlock, Exit.then]); refine bodyPost_ret (results_none rfl _ _ _) rfl ?_)
                          obtain ⟨q1, q2, q3⟩ := least_blk g 9 c.s9 n _ _ w2 w3 hblk2 rfl hw3 hc3
                          exact ⟨rfl, q1, (KeepBut.of_below hb2 g none).trans q2 (.inl rfl), fun w0 hB h => q3 w0 hB (below_then h (Nat.le_of_lt (Nat.lt_of_le_of_lt hB hlt)) hb2)⟩
                        | false =>
                          rw [if_neg (by simp)] at h
                          obtain rfl := Option.some.inj h
                          clear h
                          go_enter Tryd.func24, Tryd.ntmps24
                          go_wp2_with (go_at_call 37; refine (least_calls g 9 c.s9 2147483648 _ ((blk_cell hb 9).trans rfl) (blk_frozen hb 9)).mono ?_; rintro e w3 ⟨rfl, hw3, hc3⟩)
                          first | go_end0 | ((try simp only [Exit.inBlock, Exit.then]); refine bodyPost_ret (results_none rfl _ _ _) rfl ?_)
                          obtain ⟨q1, q2, q3⟩ := least_blk g 9 c.s9 2147483648 _ _ W w3 hb rfl hw3 hc3
                          exact ⟨rfl, q1, q2, fun w0 hB h => q3 w0 hB h⟩
                      · rw [if_neg c10] at h
                        have d10 : (nm.toList == ([109, 97, 120, 45, 115, 116, 97, 108, 101] : List UInt8)) = false := beq_eq_false_iff_ne.mpr c10
                        obtain rfl := Option.some.inj h
                        clear h
                        go_enter Tryd.func24, Tryd.ntmps24
                        go_wp2
                        first | go_end0 | ((try simp only [Exit.inBlock, Exit.then]); refine bodyPost_ret (results_none rfl _ _ _) rfl ?_)
                        exact ⟨rfl, hb, KeepBut.refl _ _ _, fun w0 _ h => h⟩

-- NOT PRINTED: function 40 (field_List_Has_1)

/-! ### field_List_Has: function 26, by hand -/
-- over 22 39 41 34
theorem Has1_calls (wd : ByteArray) (B : Nat) (x : ByteArray) (W : World) (hx : x.size ≤ 140737488351232) (hn : wd.size ≤ 140737488351232) (hc : W.cell? ⟨B, 0, none⟩ = some (.string wd)) :
    Calls Tryd.prog 40 #[.string x, .pointer (some ⟨B, 0, none⟩)] W fun e w' => e = .returned (.bool (sameB x wd)) ∧ Below W.heap.size W w' := by
  have C := Same_calls x wd hx hn W
  generalize sameB x wd = z at *
  go_enter Tryd.func40, Tryd.ntmps40
  go_wp2_with (go_at_call 41; refine C.mono ?_; rintro e w' ⟨rfl, hb'⟩)
  go_ret
  exact ⟨rfl, hb'⟩
def field_List_Has.f (k : Nat) (l0 : List S40) (a1 a2 : ByteArray) : Option Bool :=
  (field_List_Elements.f k l0 a1).bind fun es => if namedOk a2 es then some (es.any fun e => sameB e a2) else none
theorem field_List_Has.mono : ∀ l0 a1 a2 k, LeO (field_List_Has.f k l0 a1 a2) (field_List_Has.f (k + 1) l0 a1 a2) := by
  intro l0 a1 a2 k
  unfold field_List_Has.f
  exact LeO.bind (field_List_Elements.mono _ _ _) (fun _ => LeO.refl _)
set_option maxHeartbeats 2000000 in
set_option maxRecDepth 100000 in
theorem field_List_Has.calls (k : Nat) (A0 : Option Addr) (c0 : Nat) (l0 : List S40) (a1 a2 : ByteArray) (r : Bool) (w : World) (hr0 : Kd.C k40 w A0 l0.length l0) (hc0 : l0.length ≤ c0) (h : field_List_Has.f k l0 a1 a2 = some r) :
    Calls Tryd.prog 26 #[.slice A0 l0.length c0, .string a1, .string a2] w fun e w' => e = .returned (.bool r) ∧ Below w.heap.size w w' := by
  unfold field_List_Has.f at h
  obtain ⟨es, he, h⟩ := Option.bind_eq_some_iff.mp h
  by_cases hok : namedOk a2 es
  case neg => rw [if_neg hok] at h; cases h
  rw [if_pos hok] at h
  obtain rfl := Option.some.inj h
  clear h
  obtain ⟨h0, h1, h2⟩ := hok
  have hbl : Below w.heap.size w (w.alloc (.cells #[.string a2] 9)) := (Below.refl _ _).alloc (Nat.le_refl _) _
  have E := field_List_Elements.calls k A0 c0 l0 a1 es (w.alloc (.cells #[.string a2] 9)) (Kd.C_below hr0 hbl) hc0 he
  have hcell : (w.alloc (.cells #[.string a2] 9)).cell? ⟨w.heap.size, 0, none⟩ = some (.string a2) := by simp
  have eg : ∀ args w, (callFunc 40 args).run Tryd.prog w = .ok (.enter 40 args) w := enters_of Tryd.func40 (by kernel_rfl) rfl
  have C : ∀ (A : Option Addr) (c : Nat) (W : World), Below (w.alloc (.cells #[.string a2] 9)).heap.size (w.alloc (.cells #[.string a2] 9)) W → Kd.C Kd.string W A es.length es → es.length ≤ c → Calls Tryd.prog 39 #[.slice A es.length c, .func (.func 40) #[] #[.pointer (some ⟨w.heap.size, 0, none⟩)]] W fun e w' => e = .returned (.bool (es.any fun e => sameB e a2)) ∧ Below W.heap.size W w' :=
    fun A c W hb hC hc => ContainsFunc_string (fun n => sameB n a2) 40 #[.pointer (some ⟨w.heap.size, 0, none⟩)] eg A c es W (fun W' x hx hb' => Has1_calls a2 w.heap.size x W' (h2 x hx) h0 (pw_cell_below hb' (pw_cell_below hb hcell))) hC hc (by omega)
  have HC := Aside0.mk C
  have HBL := Aside0.mk hbl
  clear C hbl hcell
  generalize (es.any fun e => sameB e a2) = z at *
  go_enter Tryd.func26, Tryd.ntmps26
  go_wp2_with (first | (go_at_call 22; refine E.mono ?_; rintro e w1 ⟨v1, rfl, hv1, hb1⟩; obtain ⟨A, c, rfl, hlc, hC⟩ := Kd.R_reads hv1) | (go_at_call 39; refine (HC.out A c w1 hb1 hC hlc).mono ?_; rintro e w' ⟨rfl, hb'⟩))
  go_ret
  have hB := below_then HBL.out HBL.out.size hb1
  exact ⟨rfl, below_then hB hB.size hb'⟩

/-! ### control_Of: function 12, by hand -/
-- over 19 22 17 26 25 23 24 
theorem put10 (W : World) (g t : Nat) (x0 x1 x2 x3 x4 x5 x6 x7 x8 x9 y0 y1 y2 y3 y4 y5 y6 y7 y8 y9 : Value) (h : W.heap[g]? = some (.cells #[x0, x1, x2, x3, x4, x5, x6, x7, x8, x9] t (0, 0))) : ((((((((((W.setCell ⟨g, 0, none⟩ y0).setCell ⟨g, 1, none⟩ y1).setCell ⟨g, 2, none⟩ y2).setCell ⟨g, 3, none⟩ y3).setCell ⟨g, 4, none⟩ y4).setCell ⟨g, 5, none⟩ y5).setCell ⟨g, 6, none⟩ y6).setCell ⟨g, 7, none⟩ y7).setCell ⟨g, 8, none⟩ y8).setCell ⟨g, 9, none⟩ y9).heap[g]? = some (.cells #[y0, y1, y2, y3, y4, y5, y6, y7, y8, y9] t (0, 0)) := by
  have h1 := blk_put (cs := #[x0, x1, x2, x3, x4, x5, x6, x7, x8, x9]) h 0 y0 (rfl : (#[x0, x1, x2, x3, x4, x5, x6, x7, x8, x9] : Array Value).setIfInBounds 0 y0 = #[y0, x1, x2, x3, x4, x5, x6, x7, x8, x9])
  have h2 := blk_put (cs := #[y0, x1, x2, x3, x4, x5, x6, x7, x8, x9]) h1 1 y1 (rfl : (#[y0, x1, x2, x3, x4, x5, x6, x7, x8, x9] : Array Value).setIfInBounds 1 y1 = #[y0, y1, x2, x3, x4, x5, x6, x7, x8, x9])
  have h3 := blk_put (cs := #[y0, y1, x2, x3, x4, x5, x6, x7, x8, x9]) h2 2 y2 (rfl : (#[y0, y1, x2, x3, x4, x5, x6, x7, x8, x9] : Array Value).setIfInBounds 2 y2 = #[y0, y1, y2, x3, x4, x5, x6, x7, x8, x9])
  have h4 := blk_put (cs := #[y0, y1, y2, x3, x4, x5, x6, x7, x8, x9]) h3 3 y3 (rfl : (#[y0, y1, y2, x3, x4, x5, x6, x7, x8, x9] : Array Value).setIfInBounds 3 y3 = #[y0, y1, y2, y3, x4, x5, x6, x7, x8, x9])
  have h5 := blk_put (cs := #[y0, y1, y2, y3, x4, x5, x6, x7, x8, x9]) h4 4 y4 (rfl : (#[y0, y1, y2, y3, x4, x5, x6, x7, x8, x9] : Array Value).setIfInBounds 4 y4 = #[y0, y1, y2, y3, y4, x5, x6, x7, x8, x9])
  have h6 := blk_put (cs := #[y0, y1, y2, y3, y4, x5, x6, x7, x8, x9]) h5 5 y5 (rfl : (#[y0, y1, y2, y3, y4, x5, x6, x7, x8, x9] : Array Value).setIfInBounds 5 y5 = #[y0, y1, y2, y3, y4, y5, x6, x7, x8, x9])
  have h7 := blk_put (cs := #[y0, y1, y2, y3, y4, y5, x6, x7, x8, x9]) h6 6 y6 (rfl : (#[y0, y1, y2, y3, y4, y5, x6, x7, x8, x9] : Array Value).setIfInBounds 6 y6 = #[y0, y1, y2, y3, y4, y5, y6, x7, x8, x9])
  have h8 := blk_put (cs := #[y0, y1, y2, y3, y4, y5, y6, x7, x8, x9]) h7 7 y7 (rfl : (#[y0, y1, y2, y3, y4, y5, y6, x7, x8, x9] : Array Value).setIfInBounds 7 y7 = #[y0, y1, y2, y3, y4, y5, y6, y7, x8, x9])
  have h9 := blk_put (cs := #[y0, y1, y2, y3, y4, y5, y6, y7, x8, x9]) h8 8 y8 (rfl : (#[y0, y1, y2, y3, y4, y5, y6, y7, x8, x9] : Array Value).setIfInBounds 8 y8 = #[y0, y1, y2, y3, y4, y5, y6, y7, y8, x9])
  have h10 := blk_put (cs := #[y0, y1, y2, y3, y4, y5, y6, y7, y8, x9]) h9 9 y9 (rfl : (#[y0, y1, y2, y3, y4, y5, y6, y7, y8, x9] : Array Value).setIfInBounds 9 y9 = #[y0, y1, y2, y3, y4, y5, y6, y7, y8, y9])
  exact h10
theorem cell_keep {W W' : World} {g q : Nat} (hk : KeepBut W W' g none) (hq : q < W.heap.size) (hne : q ≠ g) (j : Nat) : W'.cell? ⟨q, j, none⟩ = W.cell? ⟨q, j, none⟩ := by
  have := hk.2 q hq hne (by simp)
  simp [World.cell?, this]
def noneC : Ctl := ⟨false, false, false, false, false, false, -1, -1, -1, -1⟩
def ofGo (k : Nat) : Ctl → List ByteArray → Option Ctl
  | c, [] => some c
  | c, e :: l => (dirV k c (lowB (cutA e)) (cutB e) (cutH e)).bind fun c' => ofGo k c' l
theorem ofGo.mono (k : Nat) : ∀ (l : List ByteArray) (c : Ctl), LeO (ofGo k c l) (ofGo (k + 1) c l)
  | [], c => LeO.refl _
  | e :: l, c => LeO.bind (dirV.mono k c _ _ _) (fun c' => ofGo.mono k l c')
def ctTup (c : Ctl) : Bool × Bool × Bool × Bool × Bool × Bool × Int × Int × Int × Int := (c.s0, c.s1, c.s2, c.s3, c.s4, c.s5, c.s6, c.s7, c.s8, c.s9)
def ofOk (es : List ByteArray) : Prop := es.length ≤ 1000000000 ∧ ∀ e ∈ es, e.size ≤ 1000000000
instance (es : List ByteArray) : Decidable (ofOk es) := by unfold ofOk; infer_instance
def ofEnd (k : Nat) (l0 : List S40) (c : Ctl) : Option Ctl := (field_List_Get.f k l0 (⟨#[67, 97, 99, 104, 101, 45, 67, 111, 110, 116, 114, 111, 108]⟩ : ByteArray)).bind fun g => if g.2 = true then some c else (field_List_Has.f k l0 (⟨#[80, 114, 97, 103, 109, 97]⟩ : ByteArray) (⟨#[110, 111, 45, 99, 97, 99, 104, 101]⟩ : ByteArray)).bind fun h => some (if h = true then { c with s1 := true } else c)
def control_Of.f (k : Nat) (l0 : List S40) : Option (Bool × Bool × Bool × Bool × Bool × Bool × Int × Int × Int × Int) :=
  (field_List_Elements.f k l0 (⟨#[67, 97, 99, 104, 101, 45, 67, 111, 110, 116, 114, 111, 108]⟩ : ByteArray)).bind fun es => if ofOk es then (ofGo k noneC es).bind fun c => (ofEnd k l0 c).bind fun d => some (ctTup d) else none
theorem control_Of.mono : ∀ l0 k, LeO (control_Of.f k l0) (control_Of.f (k + 1) l0) := by
  intro l0 k
  unfold control_Of.f
  refine LeO.bind (field_List_Elements.mono _ _ _) (fun es => ?_)
  refine LeO.ite (LeO.bind (ofGo.mono _ _ _) (fun c => LeO.bind ?_ (fun _ => LeO.refl _))) (LeO.refl _)
  unfold ofEnd
  refine LeO.bind (field_List_Get.mono _ _ _) (fun g => ?_)
  exact LeO.ite (LeO.refl _) (LeO.bind (field_List_Has.mono _ _ _ _) (fun _ => LeO.refl _))
theorem cut_small (e : ByteArray) (h : e.size ≤ 1000000000) : (cutA e).size ≤ 1000000000 ∧ (cutB e).size ≤ 1000000000 := by
  unfold cutA cutB
  constructor
  · split
    · rw [ByteArray.size_extract]; omega
    · exact h
  · split
    · rw [ByteArray.size_extract]; omega
    · exact Nat.zero_le _
theorem below10 (w W : World) (g : Nat) (y0 y1 y2 y3 y4 y5 y6 y7 y8 y9 : Value) (h : Below w.heap.size w W) (hg : w.heap.size ≤ g) : Below w.heap.size w ((((((((((W.setCell ⟨g, 0, none⟩ y0).setCell ⟨g, 1, none⟩ y1).setCell ⟨g, 2, none⟩ y2).setCell ⟨g, 3, none⟩ y3).setCell ⟨g, 4, none⟩ y4).setCell ⟨g, 5, none⟩ y5).setCell ⟨g, 6, none⟩ y6).setCell ⟨g, 7, none⟩ y7).setCell ⟨g, 8, none⟩ y8).setCell ⟨g, 9, none⟩ y9) := (below_set (below_set (below_set (below_set (below_set (below_set (below_set (below_set (below_set (below_set h hg) hg) hg) hg) hg) hg) hg) hg) hg) hg)
theorem far10 (W : World) (g q : Nat) (y0 y1 y2 y3 y4 y5 y6 y7 y8 y9 : Value) (hne : q ≠ g) : ((((((((((W.setCell ⟨g, 0, none⟩ y0).setCell ⟨g, 1, none⟩ y1).setCell ⟨g, 2, none⟩ y2).setCell ⟨g, 3, none⟩ y3).setCell ⟨g, 4, none⟩ y4).setCell ⟨g, 5, none⟩ y5).setCell ⟨g, 6, none⟩ y6).setCell ⟨g, 7, none⟩ y7).setCell ⟨g, 8, none⟩ y8).setCell ⟨g, 9, none⟩ y9).heap[q]? = W.heap[q]? := by
  simp only [Below.heap_setCell _ _ _ _ (show q ≠ (⟨g, _, none⟩ : Addr).block from hne)]
set_option maxHeartbeats 16000000 in
set_option maxRecDepth 100000 in
theorem control_Of.calls (k : Nat) (A0 : Option Addr) (c0 : Nat) (l0 : List S40) (r1 : Bool) (r2 : Bool) (r3 : Bool) (r4 : Bool) (r5 : Bool) (r6 : Bool) (r7 : Int) (r8 : Int) (r9 : Int) (r10 : Int) (w : World) (hr0 : Kd.C k40 w A0 l0.length l0) (hc0 : l0.length ≤ c0) (h : control_Of.f k l0 = some (r1, r2, r3, r4, r5, r6, r7, r8, r9, r10)) :
    Calls Tryd.prog 12 #[.slice A0 l0.length c0] w fun e w' => e = .returned (.agg #[.bool r1, .bool r2, .bool r3, .bool r4, .bool r5, .bool r6, .int .i64 r7, .int .i64 r8, .int .i64 r9, .int .i64 r10]) ∧ Below w.heap.size w w' := by
  unfold control_Of.f at h
  obtain ⟨es, hes, h⟩ := Option.bind_eq_some_iff.mp h
  by_cases hok : ofOk es
  case neg => rw [if_neg hok] at h; cases h
  rw [if_pos hok] at h
  obtain ⟨cF, hgo, h⟩ := Option.bind_eq_some_iff.mp h
  obtain ⟨d, hd, h⟩ := Option.bind_eq_some_iff.mp h
  have hu := Tryd.underlying29
  have HES := Aside0.mk hes
  have HGO := Aside0.mk hgo
  have HD := Aside0.mk hd
  have HR0 := Aside0.mk hr0
  have HEND := Aside0.mk h
  have HN : control_None.f = some (ctTup noneC) := rfl
  have HNN := Aside0.mk HN
  obtain ⟨hlen, hsz⟩ := hok
  have HSZ := Aside0.mk hsz
  clear hes hgo hd hr0 h HN hsz
  go_enter Tryd.func12, Tryd.ntmps12
  go_wp2_with (first | ((with_reducible refine gate_dst (N := 2) rfl ?_); refine box_event ?hg (N := 2) ?hd (cs := #[.bool false, .bool false, .bool false, .bool false, .bool false, .bool false, .int .i64 0, .int .i64 0, .int .i64 0, .int .i64 0]) (t := 29) ?hr ?_; (case hd => rfl); (case hg => rfl); (case hr => first | (go_simp; done) | (go_simp; rfl)); intro ga hg w1 hbox hbb; have HB1 : Aside0 (Below w.heap.size w w1) := ⟨hbb⟩; have BKA1 := Aside0.mk hbox; have GA : Aside0 (w.heap.size ≤ ga) := ⟨by rw [hg]; exact Nat.le_refl _⟩; clear hg hbox hbb) | ((with_reducible refine gate_dst (N := 3) rfl ?_); refine box_event ?hg (N := 3) ?hd (cs := #[.bool false, .bool false, .bool false, .bool false, .bool false, .bool false, .int .i64 0, .int .i64 0, .int .i64 0, .int .i64 0]) (t := 29) ?hr ?_; (case hd => rfl); (case hg => rfl); (case hr => first | (go_simp; done) | (go_simp; rfl)); intro gc hg w3 hbox hbb; have HB3 : Aside0 (Below w.heap.size w w3) := ⟨below_then HB2.out HB2.out.size hbb⟩; have BKC3 := Aside0.mk hbox; have GC : Aside0 (w.heap.size ≤ gc ∧ ga < gc) := ⟨by rw [hg]; exact ⟨HB2.out.size, (Array.getElem?_eq_some_iff.1 BKA2.out).1⟩⟩; have BKA3 := Aside0.mk (blk_below BKA2.out hbb); clear hg hbox hbb HB2 BKA2; have hcz0 : w3.cell? ⟨gc, 0, none⟩ = some (.bool false) := (blk_cell BKC3.out 0).trans rfl; have hfz0 := blk_frozen BKC3.out 0; have hcz1 : w3.cell? ⟨gc, 1, none⟩ = some (.bool false) := (blk_cell BKC3.out 1).trans rfl; have hfz1 := blk_frozen BKC3.out 1; have hcz2 : w3.cell? ⟨gc, 2, none⟩ = some (.bool false) := (blk_cell BKC3.out 2).trans rfl; have hfz2 := blk_frozen BKC3.out 2; have hcz3 : w3.cell? ⟨gc, 3, none⟩ = some (.bool false) := (blk_cell BKC3.out 3).trans rfl; have hfz3 := blk_frozen BKC3.out 3; have hcz4 : w3.cell? ⟨gc, 4, none⟩ = some (.bool false) := (blk_cell BKC3.out 4).trans rfl; have hfz4 := blk_frozen BKC3.out 4; have hcz5 : w3.cell? ⟨gc, 5, none⟩ = some (.bool false) := (blk_cell BKC3.out 5).trans rfl; have hfz5 := blk_frozen BKC3.out 5; have hcz6 : w3.cell? ⟨gc, 6, none⟩ = some (.int .i64 0) := (blk_cell BKC3.out 6).trans rfl; have hfz6 := blk_frozen BKC3.out 6; have hcz7 : w3.cell? ⟨gc, 7, none⟩ = some (.int .i64 0) := (blk_cell BKC3.out 7).trans rfl; have hfz7 := blk_frozen BKC3.out 7; have hcz8 : w3.cell? ⟨gc, 8, none⟩ = some (.int .i64 0) := (blk_cell BKC3.out 8).trans rfl; have hfz8 := blk_frozen BKC3.out 8; have hcz9 : w3.cell? ⟨gc, 9, none⟩ = some (.int .i64 0) := (blk_cell BKC3.out 9).trans rfl; have hfz9 := blk_frozen BKC3.out 9) | ((with_reducible refine gate_store (t := 29) (p := 3) rfl ?_); refine store_event (t := 29) (p := 3) (v := ?vo) (w1 := ((((((((((w3.setCell ⟨gc, 0, none⟩ (.bool noneC.s0)).setCell ⟨gc, 1, none⟩ (.bool noneC.s1)).setCell ⟨gc, 2, none⟩ (.bool noneC.s2)).setCell ⟨gc, 3, none⟩ (.bool noneC.s3)).setCell ⟨gc, 4, none⟩ (.bool noneC.s4)).setCell ⟨gc, 5, none⟩ (.bool noneC.s5)).setCell ⟨gc, 6, none⟩ (.int .i64 noneC.s6)).setCell ⟨gc, 7, none⟩ (.int .i64 noneC.s7)).setCell ⟨gc, 8, none⟩ (.int .i64 noneC.s8)).setCell ⟨gc, 9, none⟩ (.int .i64 noneC.s9))) ?hg ?ho ?hn ?hr ?_; (case ho => rfl); (case hg => rfl); (case hn => rfl); (case hr => first | (go_simp; done) | (go_simp; rfl)); intro w4 hw; have BKC4 : Aside0 (Blk w4 gc noneC) := ⟨by rw [hw]; exact put10 w3 gc _ _ _ _ _ _ _ _ _ _ _ _ _ _ _ _ _ _ _ _ _ BKC3.out⟩; have HB4 : Aside0 (Below w.heap.size w w4) := ⟨by rw [hw]; exact below10 w w3 gc _ _ _ _ _ _ _ _ _ _ HB3.out GC.out.1⟩; have BKA4 : Aside0 (w4.heap[ga]? = some (.cells #[.bool false, .bool false, .bool false, .bool false, .bool false, .bool false, .int .i64 0, .int .i64 0, .int .i64 0, .int .i64 0] 29 (0, 0))) := ⟨by rw [hw, far10 _ _ _ _ _ _ _ _ _ _ _ _ _ (by have := GC.out.2; omega)]; exact BKA3.out⟩; clear hw BKC3 HB3 BKA3; clear hcz0 hfz0 hcz1 hfz1 hcz2 hfz2 hcz3 hfz3 hcz4 hfz4 hcz5 hfz5 hcz6 hfz6 hcz7 hfz7 hcz8 hfz8 hcz9 hfz9) | (go_at_call 19; refine (control_None.calls _ _ _ _ _ _ _ _ _ _ _ HNN.out).mono ?_; rintro e w2 ⟨rfl, hb2⟩; have HB2 : Aside0 (Below w.heap.size w w2) := ⟨below_then HB1.out HB1.out.size hb2⟩; have BKA2 := Aside0.mk (blk_below BKA1.out hb2); clear hb2 HB1 BKA1) | (go_at_call 22; refine (field_List_Elements.calls k A0 c0 l0 (⟨#[67, 97, 99, 104, 101, 45, 67, 111, 110, 116, 114, 111, 108]⟩ : ByteArray) es w4 (Kd.C_below HR0.out HB4.out) hc0 HES.out).mono ?_; rintro e w5 ⟨v5, rfl, hR5, hb5⟩; have HB5 : Aside0 (Below w.heap.size w w5) := ⟨below_then HB4.out HB4.out.size hb5⟩; have BKC5 : Aside0 (Blk w5 gc noneC) := ⟨blk_below BKC4.out hb5⟩; have BKA5 := Aside0.mk (blk_below BKA4.out hb5); have HR5 := Aside0.mk hR5; have G4 : Aside0 (gc < w4.heap.size) := ⟨(Array.getElem?_eq_some_iff.1 BKC4.out).1⟩; clear hb5 hR5 HB4 BKC4 BKA4; obtain ⟨A5, c5, rfl⟩ := Kd.R_slice HR5.out))
  have hrow : ∃ q, (0 < es.length → A5 = some ⟨q, 0, none⟩ ∧ gc < q ∧ q < w5.heap.size) ∧ ∀ j (hj : j < es.length), w5.cell? ⟨q, j, none⟩ = some (.string es[j]) := by
    by_cases h0 : 0 < es.length
    · obtain ⟨q, cap, hv, hg1, hg2, _⟩ := Kd.R_form HR5.out h0
      injection hv with hA _ _
      refine ⟨q, fun _ => ⟨hA, Nat.lt_of_lt_of_le G4.out hg1, ?_⟩, fun j hj => ?_⟩
      · have hc := (Kd.R_reads' HR5.out).2.2
        rw [hA] at hc
        have := Kd.foot_string hc 0 (by omega) (by omega)
        exact World.block_lt_of_cell? w5 _ this
      · have hc := (Kd.R_reads' HR5.out).2.2
        rw [hA] at hc
        have := Kd.foot_string hc (j : Int) (by omega) (by omega)
        rw [add_plain] at this
        simpa [rdOf, hj] using this
    · exact ⟨0, fun h => absurd h h0, fun j hj => absurd (Nat.lt_of_le_of_lt (Nat.zero_le _) hj) h0⟩
  obtain ⟨q, hA, hrw⟩ := hrow
  have HA := Aside0.mk hA
  have HRW5 := Aside0.mk hrw
  clear hA hrw HR5 G4
  go_loopw [15] (fun i wr => ∃ (j : Nat) (c : Ctl), j ≤ es.length ∧ i = .int .i64 j ∧ Aside0 (ofGo k c (es.drop j) = some cF) ∧ Aside0 (Blk wr gc c) ∧ Aside0 (wr.heap[ga]? = some (.cells #[.bool false, .bool false, .bool false, .bool false, .bool false, .bool false, .int .i64 0, .int .i64 0, .int .i64 0, .int .i64 0] 29 (0, 0))) ∧ Aside0 (∀ j (hj : j < es.length), wr.cell? ⟨q, j, none⟩ = some (.string es[j])) ∧ Aside0 (Below w.heap.size w wr) ∧ Aside0 (w5.heap.size ≤ wr.heap.size)) (fun i _ => es.length - (intOf i).toNat)
  case atStart => exact ⟨0, noneC, Nat.zero_le _, rfl, ⟨by simpa using HGO.out⟩, BKC5, BKA5, HRW5, HB5, ⟨Nat.le_refl _⟩⟩
  case round =>
    obtain ⟨j, c, hj, rfl, HG, BKC, BKA, HRW, HB, HS⟩ := hrel
    clear BKC5 BKA5 HRW5 HB5
    by_cases hlt : j < es.length
    · obtain ⟨hA, hq1, hq2⟩ := HA.out (by omega)
      subst hA
      have HQ : Aside0 (gc < q ∧ q < w5.heap.size) := ⟨⟨hq1, hq2⟩⟩
      have g0 := HRW.out j hlt
      have hdrop : es.drop j = es[j] :: es.drop (j + 1) := List.drop_eq_getElem_cons hlt
      have hgo := HG.out
      rw [hdrop, ofGo] at hgo
      obtain ⟨c', hc', hgo'⟩ := Option.bind_eq_some_iff.mp hgo
      have HGN := Aside0.mk hgo'
      have hes := HSZ.out _ (List.getElem_mem hlt)
      generalize es[j] = e at g0 hc' hes
      have hcs := cut_small e hes
      have CUT : Aside0 (∀ W, _) := ⟨fun W => Cut_calls e hes W⟩
      have LOW : Aside0 (∀ W, Calls Tryd.prog 25 #[.string (cutA e)] W fun e1 w' => e1 = .returned (.string (lowB (cutA e))) ∧ Below W.heap.size W w') := ⟨fun W => sign_Lower.calls (cutA e) (lowB (cutA e)) W (by unfold sign_Lower.f; rw [if_pos (by omega)])⟩
      have DIR : Aside0 (∀ W, Blk W gc c → Calls Tryd.prog 24 #[.pointer (some ⟨gc, 0, none⟩), .string (lowB (cutA e)), .string (cutB e), .bool (cutH e)] W fun e1 w' => e1 = .returned (.tuple #[]) ∧ Blk w' gc c' ∧ KeepBut W w' gc none ∧ ∀ w0 : World, w0.heap.size ≤ gc → Below w0.heap.size w0 W → Below w0.heap.size w0 w') := ⟨fun W hb => directive_calls k gc c (lowB (cutA e)) (cutB e) (cutH e) c' W hb hc'⟩
      clear hc' hgo hgo' hdrop hes hcs hq1 hq2
      generalize lowB (cutA e) = nm at *
      generalize cutA e = ea at *
      generalize cutB e = eb at *
      generalize cutH e = ef at *
      have p5 : ((0 : Int) ≤ (j : Int)) = True := eq_true (by omega)
      have q5 : ((j : Int) < (es.length : Int)) = True := eq_true (by omega)
      go_wp2_with (first | (go_at_call 23; refine (CUT.out _).mono ?_; rintro e1 w6 ⟨rfl, hb6⟩; have HB6 : Aside0 (Below w.heap.size w w6) := ⟨below_then HB.out HB.out.size hb6⟩; have BKC6 : Aside0 (Blk w6 gc c) := ⟨blk_below BKC.out hb6⟩; have BKA6 : Aside0 (w6.heap[ga]? = some (.cells #[.bool false, .bool false, .bool false, .bool false, .bool false, .bool false, .int .i64 0, .int .i64 0, .int .i64 0, .int .i64 0] 29 (0, 0))) := ⟨blk_below BKA.out hb6⟩; have HRW6 : Aside0 (∀ j (hj : j < es.length), w6.cell? ⟨q, j, none⟩ = some (.string es[j])) := ⟨fun j hj => pw_cell_below hb6 (HRW.out j hj)⟩; have HS6 : Aside0 (w5.heap.size ≤ w6.heap.size) := ⟨Nat.le_trans HS.out hb6.size⟩; clear hb6 HB BKC BKA HRW HS) | (go_at_call 25; refine (LOW.out _).mono ?_; rintro e1 w7 ⟨rfl, hb7⟩; have HB7 : Aside0 (Below w.heap.size w w7) := ⟨below_then HB6.out HB6.out.size hb7⟩; have BKC7 : Aside0 (Blk w7 gc c) := ⟨blk_below BKC6.out hb7⟩; have BKA7 : Aside0 (w7.heap[ga]? = some (.cells #[.bool false, .bool false, .bool false, .bool false, .bool false, .bool false, .int .i64 0, .int .i64 0, .int .i64 0, .int .i64 0] 29 (0, 0))) := ⟨blk_below BKA6.out hb7⟩; have HRW7 : Aside0 (∀ j (hj : j < es.length), w7.cell? ⟨q, j, none⟩ = some (.string es[j])) := ⟨fun j hj => pw_cell_below hb7 (HRW6.out j hj)⟩; have HS7 : Aside0 (w5.heap.size ≤ w7.heap.size) := ⟨Nat.le_trans HS6.out hb7.size⟩; clear hb7 HB6 BKC6 BKA6 HRW6 HS6) | (go_at_call 24; refine (DIR.out _ BKC7.out).mono ?_; rintro e1 w8 ⟨rfl, q1, q2, q3⟩; have HB8 : Aside0 (Below w.heap.size w w8) := ⟨q3 w GC.out.1 HB7.out⟩; have BKC8 : Aside0 (Blk w8 gc c') := ⟨q1⟩; have BKA8 : Aside0 (w8.heap[ga]? = some (.cells #[.bool false, .bool false, .bool false, .bool false, .bool false, .bool false, .int .i64 0, .int .i64 0, .int .i64 0, .int .i64 0] 29 (0, 0))) := ⟨(q2.2 ga (Nat.lt_trans GC.out.2 (Nat.lt_trans HQ.out.1 (Nat.lt_of_lt_of_le HQ.out.2 HS7.out))) (Nat.ne_of_lt GC.out.2) (by simp)).trans BKA7.out⟩; have HRW8 : Aside0 (∀ j (hj : j < es.length), w8.cell? ⟨q, j, none⟩ = some (.string es[j])) := ⟨fun j hj => (cell_keep q2 (Nat.lt_of_lt_of_le HQ.out.2 HS7.out) (Nat.ne_of_gt HQ.out.1) j).trans (HRW7.out j hj)⟩; have HS8 : Aside0 (w5.heap.size ≤ w8.heap.size) := ⟨Nat.le_trans HS7.out q2.1⟩; clear q1 q2 q3 HB7 BKC7 BKA7 HRW7 HS7))
      go_roundw
      case rel => exact ⟨j + 1, c', by omega, by simp, HGN, BKC8, BKA8, HRW8, HB8, HS8⟩
      case measure => simp [intOf]; omega
    · have q5 : ((j : Int) < (es.length : Int)) = False := eq_false (by omega)
      have hgo := HG.out
      rw [List.drop_of_length_le (by omega), ofGo] at hgo
      obtain rfl := Option.some.inj hgo
      have hend := HD.out
      unfold ofEnd at hend
      obtain ⟨⟨g1, g2⟩, hg, hend⟩ := Option.bind_eq_some_iff.mp hend
      have HGET := Aside0.mk hg
      clear hg hgo HG HGO HSZ HA HRW HS HD
      cases g2 with
      | true =>
        rw [if_pos rfl] at hend
        obtain rfl := Option.some.inj hend
        have hE := HEND.out
        simp only [ctTup, Option.some.injEq, Prod.mk.injEq] at hE
        obtain ⟨rfl, rfl, rfl, rfl, rfl, rfl, rfl, rfl, rfl, rfl⟩ := hE
        clear hend
        go_wp2_with (go_at_call 17; refine (field_List_Get.calls k A0 c0 l0 (⟨#[67, 97, 99, 104, 101, 45, 67, 111, 110, 116, 114, 111, 108]⟩ : ByteArray) g1 true _ (Kd.C_below HR0.out HB.out) hc0 HGET.out).mono ?_; rintro e1 w6 ⟨rfl, hb6⟩; have HBE : Aside0 (Below w.heap.size w w6) := ⟨below_then HB.out HB.out.size hb6⟩; have BKCE : Aside0 (w6.heap[gc]? = some (.cells #[.bool c.s0, .bool c.s1, .bool c.s2, .bool c.s3, .bool c.s4, .bool c.s5, .int .i64 c.s6, .int .i64 c.s7, .int .i64 c.s8, .int .i64 c.s9] 29 (0, 0))) := ⟨blk_below BKC.out hb6⟩; have BKAE : Aside0 (w6.heap[ga]? = some (.cells #[.bool false, .bool false, .bool false, .bool false, .bool false, .bool false, .int .i64 0, .int .i64 0, .int .i64 0, .int .i64 0] 29 (0, 0))) := ⟨blk_below BKA.out hb6⟩; clear hb6 HB BKC BKA; have hcu0 : w6.cell? ⟨gc, 0, none⟩ = some (.bool c.s0) := (blk_cell BKCE.out 0).trans rfl; have hfu0 := blk_frozen BKCE.out 0; have hcu1 : w6.cell? ⟨gc, 1, none⟩ = some (.bool c.s1) := (blk_cell BKCE.out 1).trans rfl; have hfu1 := blk_frozen BKCE.out 1; have hcu2 : w6.cell? ⟨gc, 2, none⟩ = some (.bool c.s2) := (blk_cell BKCE.out 2).trans rfl; have hfu2 := blk_frozen BKCE.out 2; have hcu3 : w6.cell? ⟨gc, 3, none⟩ = some (.bool c.s3) := (blk_cell BKCE.out 3).trans rfl; have hfu3 := blk_frozen BKCE.out 3; have hcu4 : w6.cell? ⟨gc, 4, none⟩ = some (.bool c.s4) := (blk_cell BKCE.out 4).trans rfl; have hfu4 := blk_frozen BKCE.out 4; have hcu5 : w6.cell? ⟨gc, 5, none⟩ = some (.bool c.s5) := (blk_cell BKCE.out 5).trans rfl; have hfu5 := blk_frozen BKCE.out 5; have hcu6 : w6.cell? ⟨gc, 6, none⟩ = some (.int .i64 c.s6) := (blk_cell BKCE.out 6).trans rfl; have hfu6 := blk_frozen BKCE.out 6; have hcu7 : w6.cell? ⟨gc, 7, none⟩ = some (.int .i64 c.s7) := (blk_cell BKCE.out 7).trans rfl; have hfu7 := blk_frozen BKCE.out 7; have hcu8 : w6.cell? ⟨gc, 8, none⟩ = some (.int .i64 c.s8) := (blk_cell BKCE.out 8).trans rfl; have hfu8 := blk_frozen BKCE.out 8; have hcu9 : w6.cell? ⟨gc, 9, none⟩ = some (.int .i64 c.s9) := (blk_cell BKCE.out 9).trans rfl; have hfu9 := blk_frozen BKCE.out 9; have hcv0 : w6.cell? ⟨ga, 0, none⟩ = some (.bool false) := (blk_cell BKAE.out 0).trans rfl; have hfv0 := blk_frozen BKAE.out 0; have hcv1 : w6.cell? ⟨ga, 1, none⟩ = some (.bool false) := (blk_cell BKAE.out 1).trans rfl; have hfv1 := blk_frozen BKAE.out 1; have hcv2 : w6.cell? ⟨ga, 2, none⟩ = some (.bool false) := (blk_cell BKAE.out 2).trans rfl; have hfv2 := blk_frozen BKAE.out 2; have hcv3 : w6.cell? ⟨ga, 3, none⟩ = some (.bool false) := (blk_cell BKAE.out 3).trans rfl; have hfv3 := blk_frozen BKAE.out 3; have hcv4 : w6.cell? ⟨ga, 4, none⟩ = some (.bool false) := (blk_cell BKAE.out 4).trans rfl; have hfv4 := blk_frozen BKAE.out 4; have hcv5 : w6.cell? ⟨ga, 5, none⟩ = some (.bool false) := (blk_cell BKAE.out 5).trans rfl; have hfv5 := blk_frozen BKAE.out 5; have hcv6 : w6.cell? ⟨ga, 6, none⟩ = some (.int .i64 0) := (blk_cell BKAE.out 6).trans rfl; have hfv6 := blk_frozen BKAE.out 6; have hcv7 : w6.cell? ⟨ga, 7, none⟩ = some (.int .i64 0) := (blk_cell BKAE.out 7).trans rfl; have hfv7 := blk_frozen BKAE.out 7; have hcv8 : w6.cell? ⟨ga, 8, none⟩ = some (.int .i64 0) := (blk_cell BKAE.out 8).trans rfl; have hfv8 := blk_frozen BKAE.out 8; have hcv9 : w6.cell? ⟨ga, 9, none⟩ = some (.int .i64 0) := (blk_cell BKAE.out 9).trans rfl; have hfv9 := blk_frozen BKAE.out 9)
        refine bodyPost_ret (results_cell_row rfl _ _ ga 29 #[.bool c.s0, .bool c.s1, .bool c.s2, .bool c.s3, .bool c.s4, .bool c.s5, .int .i64 c.s6, .int .i64 c.s7, .int .i64 c.s8, .int .i64 c.s9] (0, 0) _ rfl (put10 _ ga _ _ _ _ _ _ _ _ _ _ _ _ _ _ _ _ _ _ _ _ _ BKAE.out) Tryd.underlying29 rfl (by kernel_rfl)) rfl ?_
        exact ⟨rfl, below10 w _ ga _ _ _ _ _ _ _ _ _ _ HBE.out GA.out⟩
      | false =>
        rw [if_neg (by simp)] at hend
        obtain ⟨hh, hhas, hend⟩ := Option.bind_eq_some_iff.mp hend
        have HHAS := Aside0.mk hhas
        clear hhas
        cases hh with
        | true =>
          rw [if_pos rfl] at hend
          obtain rfl := Option.some.inj hend
          have hE := HEND.out
          simp only [ctTup, Option.some.injEq, Prod.mk.injEq] at hE
          obtain ⟨rfl, rfl, rfl, rfl, rfl, rfl, rfl, rfl, rfl, rfl⟩ := hE
          clear hend
          go_wp2_with (first | (go_at_call 17; refine (field_List_Get.calls k A0 c0 l0 (⟨#[67, 97, 99, 104, 101, 45, 67, 111, 110, 116, 114, 111, 108]⟩ : ByteArray) g1 false _ (Kd.C_below HR0.out HB.out) hc0 HGET.out).mono ?_; rintro e1 w6 ⟨rfl, hb6⟩; have HBE : Aside0 (Below w.heap.size w w6) := ⟨below_then HB.out HB.out.size hb6⟩; have BKCE : Aside0 (w6.heap[gc]? = some (.cells #[.bool c.s0, .bool c.s1, .bool c.s2, .bool c.s3, .bool c.s4, .bool c.s5, .int .i64 c.s6, .int .i64 c.s7, .int .i64 c.s8, .int .i64 c.s9] 29 (0, 0))) := ⟨blk_below BKC.out hb6⟩; have BKAE : Aside0 (w6.heap[ga]? = some (.cells #[.bool false, .bool false, .bool false, .bool false, .bool false, .bool false, .int .i64 0, .int .i64 0, .int .i64 0, .int .i64 0] 29 (0, 0))) := ⟨blk_below BKA.out hb6⟩; clear hb6 HB BKC BKA) | (go_at_call 26; refine (field_List_Has.calls k A0 c0 l0 (⟨#[80, 114, 97, 103, 109, 97]⟩ : ByteArray) (⟨#[110, 111, 45, 99, 97, 99, 104, 101]⟩ : ByteArray) true _ (Kd.C_below HR0.out HBE.out) hc0 HHAS.out).mono ?_; rintro e1 w7 ⟨rfl, hb7⟩; have HBF : Aside0 (Below w.heap.size w w7) := ⟨below_then HBE.out HBE.out.size hb7⟩; have BKCF : Aside0 (w7.heap[gc]? = some (.cells #[.bool c.s0, .bool c.s1, .bool c.s2, .bool c.s3, .bool c.s4, .bool c.s5, .int .i64 c.s6, .int .i64 c.s7, .int .i64 c.s8, .int .i64 c.s9] 29 (0, 0))) := ⟨blk_below BKCE.out hb7⟩; have BKAF : Aside0 (w7.heap[ga]? = some (.cells #[.bool false, .bool false, .bool false, .bool false, .bool false, .bool false, .int .i64 0, .int .i64 0, .int .i64 0, .int .i64 0] 29 (0, 0))) := ⟨blk_below BKAE.out hb7⟩; clear hb7 HBE BKCE BKAE; have HBE := HBF; have BKCE := BKCF; have BKAE := BKAF; clear HBF BKCF BKAF; have hx1 : w7.cell? ⟨gc, 1, none⟩ = some (.bool c.s1) := (blk_cell BKCE.out 1).trans rfl; have hfx1 := blk_frozen BKCE.out 1) | ((with_reducible refine gate_store (t := 4) (p := 42) rfl ?_); refine store_event (t := 4) (p := 42) (v := ?vo2) (w1 := (w7.setCell ⟨gc, 1, none⟩ (.bool true))) ?hg ?ho ?hn ?hr ?_; (case ho => rfl); (case hg => rfl); (case hn => rfl); (case hr => first | (go_simp; done) | (go_simp; rfl)); intro w8 hw; have HBF : Aside0 (Below w.heap.size w w8) := ⟨by rw [hw]; exact below_set HBE.out GC.out.1⟩; have BKCF : Aside0 (w8.heap[gc]? = some (.cells #[.bool c.s0, .bool true, .bool c.s2, .bool c.s3, .bool c.s4, .bool c.s5, .int .i64 c.s6, .int .i64 c.s7, .int .i64 c.s8, .int .i64 c.s9] 29 (0, 0))) := ⟨by rw [hw]; exact blk_put BKCE.out 1 _ rfl⟩; have BKAF : Aside0 (w8.heap[ga]? = some (.cells #[.bool false, .bool false, .bool false, .bool false, .bool false, .bool false, .int .i64 0, .int .i64 0, .int .i64 0, .int .i64 0] 29 (0, 0))) := ⟨by rw [hw]; exact (Below.heap_setCell w7 ⟨gc, 1, none⟩ (.bool true) ga (Nat.ne_of_lt GC.out.2)).trans BKAE.out⟩; clear hw hx1 hfx1 HBE BKCE BKAE; have HBE := HBF; have BKCE := BKCF; have BKAE := BKAF; clear HBF BKCF BKAF; have hcu0 : w8.cell? ⟨gc, 0, none⟩ = some (.bool c.s0) := (blk_cell BKCE.out 0).trans rfl; have hfu0 := blk_frozen BKCE.out 0; have hcu1 : w8.cell? ⟨gc, 1, none⟩ = some (.bool true) := (blk_cell BKCE.out 1).trans rfl; have hfu1 := blk_frozen BKCE.out 1; have hcu2 : w8.cell? ⟨gc, 2, none⟩ = some (.bool c.s2) := (blk_cell BKCE.out 2).trans rfl; have hfu2 := blk_frozen BKCE.out 2; have hcu3 : w8.cell? ⟨gc, 3, none⟩ = some (.bool c.s3) := (blk_cell BKCE.out 3).trans rfl; have hfu3 := blk_frozen BKCE.out 3; have hcu4 : w8.cell? ⟨gc, 4, none⟩ = some (.bool c.s4) := (blk_cell BKCE.out 4).trans rfl; have hfu4 := blk_frozen BKCE.out 4; have hcu5 : w8.cell? ⟨gc, 5, none⟩ = some (.bool c.s5) := (blk_cell BKCE.out 5).trans rfl; have hfu5 := blk_frozen BKCE.out 5; have hcu6 : w8.cell? ⟨gc, 6, none⟩ = some (.int .i64 c.s6) := (blk_cell BKCE.out 6).trans rfl; have hfu6 := blk_frozen BKCE.out 6; have hcu7 : w8.cell? ⟨gc, 7, none⟩ = some (.int .i64 c.s7) := (blk_cell BKCE.out 7).trans rfl; have hfu7 := blk_frozen BKCE.out 7; have hcu8 : w8.cell? ⟨gc, 8, none⟩ = some (.int .i64 c.s8) := (blk_cell BKCE.out 8).trans rfl; have hfu8 := blk_frozen BKCE.out 8; have hcu9 : w8.cell? ⟨gc, 9, none⟩ = some (.int .i64 c.s9) := (blk_cell BKCE.out 9).trans rfl; have hfu9 := blk_frozen BKCE.out 9; have hcv0 : w8.cell? ⟨ga, 0, none⟩ = some (.bool false) := (blk_cell BKAE.out 0).trans rfl; have hfv0 := blk_frozen BKAE.out 0; have hcv1 : w8.cell? ⟨ga, 1, none⟩ = some (.bool false) := (blk_cell BKAE.out 1).trans rfl; have hfv1 := blk_frozen BKAE.out 1; have hcv2 : w8.cell? ⟨ga, 2, none⟩ = some (.bool false) := (blk_cell BKAE.out 2).trans rfl; have hfv2 := blk_frozen BKAE.out 2; have hcv3 : w8.cell? ⟨ga, 3, none⟩ = some (.bool false) := (blk_cell BKAE.out 3).trans rfl; have hfv3 := blk_frozen BKAE.out 3; have hcv4 : w8.cell? ⟨ga, 4, none⟩ = some (.bool false) := (blk_cell BKAE.out 4).trans rfl; have hfv4 := blk_frozen BKAE.out 4; have hcv5 : w8.cell? ⟨ga, 5, none⟩ = some (.bool false) := (blk_cell BKAE.out 5).trans rfl; have hfv5 := blk_frozen BKAE.out 5; have hcv6 : w8.cell? ⟨ga, 6, none⟩ = some (.int .i64 0) := (blk_cell BKAE.out 6).trans rfl; have hfv6 := blk_frozen BKAE.out 6; have hcv7 : w8.cell? ⟨ga, 7, none⟩ = some (.int .i64 0) := (blk_cell BKAE.out 7).trans rfl; have hfv7 := blk_frozen BKAE.out 7; have hcv8 : w8.cell? ⟨ga, 8, none⟩ = some (.int .i64 0) := (blk_cell BKAE.out 8).trans rfl; have hfv8 := blk_frozen BKAE.out 8; have hcv9 : w8.cell? ⟨ga, 9, none⟩ = some (.int .i64 0) := (blk_cell BKAE.out 9).trans rfl; have hfv9 := blk_frozen BKAE.out 9))
          refine bodyPost_ret (results_cell_row rfl _ _ ga 29 #[.bool c.s0, .bool true, .bool c.s2, .bool c.s3, .bool c.s4, .bool c.s5, .int .i64 c.s6, .int .i64 c.s7, .int .i64 c.s8, .int .i64 c.s9] (0, 0) _ rfl (put10 _ ga _ _ _ _ _ _ _ _ _ _ _ _ _ _ _ _ _ _ _ _ _ BKAE.out) Tryd.underlying29 rfl (by kernel_rfl)) rfl ?_
          exact ⟨rfl, below10 w _ ga _ _ _ _ _ _ _ _ _ _ HBE.out GA.out⟩
        | false =>
          rw [if_neg (by simp)] at hend
          obtain rfl := Option.some.inj hend
          have hE := HEND.out
          simp only [ctTup, Option.some.injEq, Prod.mk.injEq] at hE
          obtain ⟨rfl, rfl, rfl, rfl, rfl, rfl, rfl, rfl, rfl, rfl⟩ := hE
          clear hend
          go_wp2_with (first | (go_at_call 17; refine (field_List_Get.calls k A0 c0 l0 (⟨#[67, 97, 99, 104, 101, 45, 67, 111, 110, 116, 114, 111, 108]⟩ : ByteArray) g1 false _ (Kd.C_below HR0.out HB.out) hc0 HGET.out).mono ?_; rintro e1 w6 ⟨rfl, hb6⟩; have HBE : Aside0 (Below w.heap.size w w6) := ⟨below_then HB.out HB.out.size hb6⟩; have BKCE : Aside0 (w6.heap[gc]? = some (.cells #[.bool c.s0, .bool c.s1, .bool c.s2, .bool c.s3, .bool c.s4, .bool c.s5, .int .i64 c.s6, .int .i64 c.s7, .int .i64 c.s8, .int .i64 c.s9] 29 (0, 0))) := ⟨blk_below BKC.out hb6⟩; have BKAE : Aside0 (w6.heap[ga]? = some (.cells #[.bool false, .bool false, .bool false, .bool false, .bool false, .bool false, .int .i64 0, .int .i64 0, .int .i64 0, .int .i64 0] 29 (0, 0))) := ⟨blk_below BKA.out hb6⟩; clear hb6 HB BKC BKA) | (go_at_call 26; refine (field_List_Has.calls k A0 c0 l0 (⟨#[80, 114, 97, 103, 109, 97]⟩ : ByteArray) (⟨#[110, 111, 45, 99, 97, 99, 104, 101]⟩ : ByteArray) false _ (Kd.C_below HR0.out HBE.out) hc0 HHAS.out).mono ?_; rintro e1 w7 ⟨rfl, hb7⟩; have HBF : Aside0 (Below w.heap.size w w7) := ⟨below_then HBE.out HBE.out.size hb7⟩; have BKCF : Aside0 (w7.heap[gc]? = some (.cells #[.bool c.s0, .bool c.s1, .bool c.s2, .bool c.s3, .bool c.s4, .bool c.s5, .int .i64 c.s6, .int .i64 c.s7, .int .i64 c.s8, .int .i64 c.s9] 29 (0, 0))) := ⟨blk_below BKCE.out hb7⟩; have BKAF : Aside0 (w7.heap[ga]? = some (.cells #[.bool false, .bool false, .bool false, .bool false, .bool false, .bool false, .int .i64 0, .int .i64 0, .int .i64 0, .int .i64 0] 29 (0, 0))) := ⟨blk_below BKAE.out hb7⟩; clear hb7 HBE BKCE BKAE; have HBE := HBF; have BKCE := BKCF; have BKAE := BKAF; clear HBF BKCF BKAF; have hcu0 : w7.cell? ⟨gc, 0, none⟩ = some (.bool c.s0) := (blk_cell BKCE.out 0).trans rfl; have hfu0 := blk_frozen BKCE.out 0; have hcu1 : w7.cell? ⟨gc, 1, none⟩ = some (.bool c.s1) := (blk_cell BKCE.out 1).trans rfl; have hfu1 := blk_frozen BKCE.out 1; have hcu2 : w7.cell? ⟨gc, 2, none⟩ = some (.bool c.s2) := (blk_cell BKCE.out 2).trans rfl; have hfu2 := blk_frozen BKCE.out 2; have hcu3 : w7.cell? ⟨gc, 3, none⟩ = some (.bool c.s3) := (blk_cell BKCE.out 3).trans rfl; have hfu3 := blk_frozen BKCE.out 3; have hcu4 : w7.cell? ⟨gc, 4, none⟩ = some (.bool c.s4) := (blk_cell BKCE.out 4).trans rfl; have hfu4 := blk_frozen BKCE.out 4; have hcu5 : w7.cell? ⟨gc, 5, none⟩ = some (.bool c.s5) := (blk_cell BKCE.out 5).trans rfl; have hfu5 := blk_frozen BKCE.out 5; have hcu6 : w7.cell? ⟨gc, 6, none⟩ = some (.int .i64 c.s6) := (blk_cell BKCE.out 6).trans rfl; have hfu6 := blk_frozen BKCE.out 6; have hcu7 : w7.cell? ⟨gc, 7, none⟩ = some (.int .i64 c.s7) := (blk_cell BKCE.out 7).trans rfl; have hfu7 := blk_frozen BKCE.out 7; have hcu8 : w7.cell? ⟨gc, 8, none⟩ = some (.int .i64 c.s8) := (blk_cell BKCE.out 8).trans rfl; have hfu8 := blk_frozen BKCE.out 8; have hcu9 : w7.cell? ⟨gc, 9, none⟩ = some (.int .i64 c.s9) := (blk_cell BKCE.out 9).trans rfl; have hfu9 := blk_frozen BKCE.out 9; have hcv0 : w7.cell? ⟨ga, 0, none⟩ = some (.bool false) := (blk_cell BKAE.out 0).trans rfl; have hfv0 := blk_frozen BKAE.out 0; have hcv1 : w7.cell? ⟨ga, 1, none⟩ = some (.bool false) := (blk_cell BKAE.out 1).trans rfl; have hfv1 := blk_frozen BKAE.out 1; have hcv2 : w7.cell? ⟨ga, 2, none⟩ = some (.bool false) := (blk_cell BKAE.out 2).trans rfl; have hfv2 := blk_frozen BKAE.out 2; have hcv3 : w7.cell? ⟨ga, 3, none⟩ = some (.bool false) := (blk_cell BKAE.out 3).trans rfl; have hfv3 := blk_frozen BKAE.out 3; have hcv4 : w7.cell? ⟨ga, 4, none⟩ = some (.bool false) := (blk_cell BKAE.out 4).trans rfl; have hfv4 := blk_frozen BKAE.out 4; have hcv5 : w7.cell? ⟨ga, 5, none⟩ = some (.bool false) := (blk_cell BKAE.out 5).trans rfl; have hfv5 := blk_frozen BKAE.out 5; have hcv6 : w7.cell? ⟨ga, 6, none⟩ = some (.int .i64 0) := (blk_cell BKAE.out 6).trans rfl; have hfv6 := blk_frozen BKAE.out 6; have hcv7 : w7.cell? ⟨ga, 7, none⟩ = some (.int .i64 0) := (blk_cell BKAE.out 7).trans rfl; have hfv7 := blk_frozen BKAE.out 7; have hcv8 : w7.cell? ⟨ga, 8, none⟩ = some (.int .i64 0) := (blk_cell BKAE.out 8).trans rfl; have hfv8 := blk_frozen BKAE.out 8; have hcv9 : w7.cell? ⟨ga, 9, none⟩ = some (.int .i64 0) := (blk_cell BKAE.out 9).trans rfl; have hfv9 := blk_frozen BKAE.out 9))
          refine bodyPost_ret (results_cell_row rfl _ _ ga 29 #[.bool c.s0, .bool c.s1, .bool c.s2, .bool c.s3, .bool c.s4, .bool c.s5, .int .i64 c.s6, .int .i64 c.s7, .int .i64 c.s8, .int .i64 c.s9] (0, 0) _ rfl (put10 _ ga _ _ _ _ _ _ _ _ _ _ _ _ _ _ _ _ _ _ _ _ _ BKAE.out) Tryd.underlying29 rfl (by kernel_rfl)) rfl ?_
          exact ⟨rfl, below10 w _ ga _ _ _ _ _ _ _ _ _ _ HBE.out GA.out⟩

/-! ### pantrylaw04_of: function 15 -/
def pantrylaw04_of.f (k : Nat) (a0 : ByteArray) : Option (Bool × Bool × Bool × Bool × Bool × Bool × Int × Int × Int × Int) := (control_Of.f k (([(⟨(⟨#[99, 97, 99, 104, 101, 45, 67, 79, 78, 84, 82, 79, 76]⟩ : ByteArray), a0⟩ : S40)] : List (S40)))).bind fun bt145 => (some (bt145.1, bt145.2.1, bt145.2.2.1, bt145.2.2.2.1, bt145.2.2.2.2.1, bt145.2.2.2.2.2.1, bt145.2.2.2.2.2.2.1, bt145.2.2.2.2.2.2.2.1, bt145.2.2.2.2.2.2.2.2.1, bt145.2.2.2.2.2.2.2.2.2))
theorem pantrylaw04_of.mono : ∀ a0 k, LeO (pantrylaw04_of.f k a0) (pantrylaw04_of.f (k + 1) a0) := by
  intro a0 k
  unfold pantrylaw04_of.f
  repeat' first
      | (with_reducible exact control_Of.mono _ _)
      | (with_reducible exact LeO.refl _)
      | (with_reducible exact LeO.none _)
      | (with_reducible refine LeO.ite ?_ ?_)
      | (with_reducible refine LeO.bind ?_ (fun _ => ?_))
      | exact control_Of.mono _ _
      | exact LeO.none _
      | refine LeO.ite ?_ ?_
      | refine LeO.bind ?_ (fun _ => ?_)
set_option maxHeartbeats 8000000 in
set_option maxRecDepth 100000 in
theorem pantrylaw04_of.calls (k : Nat) (a0 : ByteArray) (r1 : Bool) (r2 : Bool) (r3 : Bool) (r4 : Bool) (r5 : Bool) (r6 : Bool) (r7 : Int) (r8 : Int) (r9 : Int) (r10 : Int) (w : World) (h : pantrylaw04_of.f k a0 = some (r1, r2, r3, r4, r5, r6, r7, r8, r9, r10)) :
    Calls Tryd.prog 15 #[.string a0] w fun e w' => e = .returned (.agg #[.bool r1, .bool r2, .bool r3, .bool r4, .bool r5, .bool r6, .int .i64 r7, .int .i64 r8, .int .i64 r9, .int .i64 r10]) ∧ Below w.heap.size w w' := by
  have hu29 := Tryd.underlying29
  have hu40 := Tryd.underlying40
  have HB := Aside0.mk (Below.refl w.heap.size w)
  have H : ((control_Of.f k (([(⟨(⟨#[99, 97, 99, 104, 101, 45, 67, 79, 78, 84, 82, 79, 76]⟩ : ByteArray), a0⟩ : S40)] : List (S40)))).bind fun bt145 => (some (bt145.1, bt145.2.1, bt145.2.2.1, bt145.2.2.2.1, bt145.2.2.2.2.1, bt145.2.2.2.2.2.1, bt145.2.2.2.2.2.2.1, bt145.2.2.2.2.2.2.2.1, bt145.2.2.2.2.2.2.2.2.1, bt145.2.2.2.2.2.2.2.2.2))) = some (r1, r2, r3, r4, r5, r6, r7, r8, r9, r10) := h
  clear h
  obtain ⟨y142, hy142⟩ : ∃ y_ : List (S40), y_ = (([(⟨(⟨#[99, 97, 99, 104, 101, 45, 67, 79, 78, 84, 82, 79, 76]⟩ : ByteArray), a0⟩ : S40)] : List (S40))) := ⟨_, rfl⟩
  replace H : ((control_Of.f k y142).bind fun bt145 => (some (bt145.1, bt145.2.1, bt145.2.2.1, bt145.2.2.2.1, bt145.2.2.2.2.1, bt145.2.2.2.2.2.1, bt145.2.2.2.2.2.2.1, bt145.2.2.2.2.2.2.2.1, bt145.2.2.2.2.2.2.2.2.1, bt145.2.2.2.2.2.2.2.2.2))) = some (r1, r2, r3, r4, r5, r6, r7, r8, r9, r10) := by first | (rw [hy142]; with_reducible exact H) | (have H2_ := (Option.bind_some _ _).symm.trans H; rw [hy142]; with_reducible exact H2_) | (have H2_ := (Option.bind_some _ _).symm.trans H; with_reducible exact H2_) | with_reducible exact H | (rw [hy142]; exact H) | exact H
  have Ny142 := Aside0.mk hy142
  clear hy142
  replace H := Option.bind_eq_some_iff.mp H
  obtain ⟨⟨t145, t146, t147, t148, t149, t150, t151, t152, t153, t154⟩, A20, H⟩ := H
  replace H : (some (t145, t146, t147, t148, t149, t150, t151, t152, t153, t154)) = some (r1, r2, r3, r4, r5, r6, r7, r8, r9, r10) := H
  have A2 := Aside0.mk A20
  clear A20
  simp only [Option.some.injEq, Prod.mk.injEq] at H
  obtain ⟨rfl, rfl, rfl, rfl, rfl, rfl, rfl, rfl, rfl, rfl⟩ := H
  go_enter Tryd.func15, Tryd.ntmps15
  go_wp2_with (first | ((with_reducible refine gate_dst (N := 2) rfl ?_); refine box_event ?hg (N := 2) ?hd (cs := #[.bool false, .bool false, .bool false, .bool false, .bool false, .bool false, .int .i64 0, .int .i64 0, .int .i64 0, .int .i64 0]) (t := 29) ?hr ?_; (case hd => rfl); (case hg => rfl); (case hr => first | (go_simp; done) | (go_simp; rfl)); intro gb141 hg w3 hbox hb; have n0_ := Aside0.mk (below_step (by repeat (first | (with_reducible first | exact HB.out | apply below_alloc | apply pw_below_drewN | apply below_drew1) | exact HB.out)) hb); have n1_ := Aside0.mk (hbox); have n2_ := Aside0.mk ((by rw [hg]; exact (below_size (by repeat (first | (with_reducible first | exact HB.out | apply below_alloc | apply pw_below_drewN | apply below_drew1) | exact HB.out))) : w.heap.size ≤ gb141)); have n3_ := Aside0.mk ((by rw [hg]; exact (below_size (by repeat (first | (with_reducible first | exact HB.out | apply below_alloc | apply pw_below_drewN | apply below_drew1) | exact HB.out))) : w.heap.size ≤ gb141)); clear HB; have HB := n0_; have BK141 := n1_; have GW141 := n2_; have GE141 := n3_; clear n0_ n1_ n2_ n3_; clear hb hbox hg) | ((with_reducible refine gate_dst (N := 5) rfl ?_); refine Kd.R_lit k40 _ 40 ?hg (N := 5) ?hd (xs := ([(⟨(⟨#[99, 97, 99, 104, 101, 45, 67, 79, 78, 84, 82, 79, 76]⟩ : ByteArray), a0⟩ : S40)] : List (S40))) (inner := [.string (⟨#[99, 97, 99, 104, 101, 45, 67, 79, 78, 84, 82, 79, 76]⟩ : ByteArray), .string a0]) (ok := fun _ => True) (okp := fun _ => True) ?hr ?hp (fun _ hk => hk) trivial (Below.refl _ _) (Nat.le_refl _) (by simp) ?_; (case hd => rfl); (case hg => rfl); (case hr => first | (go_simp; done) | (go_simp; rfl)); (case hp => exact (Reps.c2 (show Kd.M k40 _ _ _ (⟨(⟨#[99, 97, 99, 104, 101, 45, 67, 79, 78, 84, 82, 79, 76]⟩ : ByteArray), a0⟩ : S40) [.string (⟨#[99, 97, 99, 104, 101, 45, 67, 79, 78, 84, 82, 79, 76]⟩ : ByteArray), .string a0] from (k40_mkM _ _ _ (⟨(⟨#[99, 97, 99, 104, 101, 45, 67, 79, 78, 84, 82, 79, 76]⟩ : ByteArray), a0⟩ : S40) )) (Reps.none _ _))); intro v143 w4 ho5 hb hg_ hnew_; clear hg_ hnew_; (first | rw [← Ny142.out] at ho5 | (simp only [Int.reduceToNat] at ho5; rw [← Ny142.out] at ho5)); have n0_ := Aside0.mk (Kd.R_lower ho5 (below_size (by repeat (first | (with_reducible first | exact HB.out | apply below_alloc | apply pw_below_drewN | apply below_drew1 | refine below_set ?_ GE141.out) | exact HB.out)))); have n1_ := Aside0.mk (blk_below (g := gb141) (o := .cells #[.bool false, .bool false, .bool false, .bool false, .bool false, .bool false, .int .i64 0, .int .i64 0, .int .i64 0, .int .i64 0] 29 (0, 0)) (by (with_reducible repeat (first | refine blk_drewN ?_ _ | refine blk_drew ?_ | refine blk_alloc ?_ _)); exact BK141.out) hb); have n2_ := Aside0.mk (below_step (by repeat (first | (with_reducible first | exact HB.out | apply below_alloc | apply pw_below_drewN | apply below_drew1 | refine below_set ?_ GE141.out) | exact HB.out)) hb); clear BK141; clear HB; have HO144 := n0_; have BK141 := n1_; have HB := n2_; clear n0_ n1_ n2_; clear hb ho5; obtain ⟨Ao6, co6, eo6⟩ := Kd.R_slice HO144.out; subst eo6) | ((with_reducible refine gate_callee (f := 12) rfl ?_); refine goesL_ (some 6) rfl rfl Tryd.func12 (by kernel_rfl) rfl #[.slice Ao6 y142.length co6] rfl (by (try simp only [List.map_toArray, List.map_cons, List.map_nil]); first | done | rfl | (simp only [List.length_drop, List.length_take]; rfl)) ?_; (with_reducible refine (control_Of.calls k _ _ y142 t145 t146 t147 t148 t149 t150 t151 t152 t153 t154 _ ?side1 ?side2 A2.out).mono ?_); (case side1 => repeat (first | exact (Kd.R_reads' HO144.out).2.2 | (with_reducible refine Kd.C_alloc ?_ _) | (with_reducible refine Kd.C_drewN ?_ _) | (with_reducible refine Kd.C_drew ?_))); (case side2 => exact (Kd.R_reads' HO144.out).2.1); rintro e w7 ⟨rfl, hb⟩; refine ⟨_, rfl, ?_⟩; have n0_ := Aside0.mk (Kd.R_below (by (with_reducible repeat (first | apply Kd.R_alloc | apply Kd.R_drewN | apply Kd.R_drew)); exact HO144.out) hb); have n1_ := Aside0.mk (blk_below (g := gb141) (o := .cells #[.bool false, .bool false, .bool false, .bool false, .bool false, .bool false, .int .i64 0, .int .i64 0, .int .i64 0, .int .i64 0] 29 (0, 0)) (by (with_reducible repeat (first | refine blk_drewN ?_ _ | refine blk_drew ?_ | refine blk_alloc ?_ _)); exact BK141.out) hb); have n2_ := Aside0.mk (below_step (by repeat (first | (with_reducible first | exact HB.out | apply below_alloc | apply pw_below_drewN | apply below_drew1 | refine below_set ?_ GE141.out) | exact HB.out)) hb); clear HO144; clear BK141; clear HB; have HO144 := n0_; have BK141 := n1_; have HB := n2_; clear n0_ n1_ n2_; (try clear hb); (try clear hb2); (try clear hk); (try clear hi); have hcz8_0 : w7.cell? ⟨gb141, 0, none⟩ = some (.bool false) := (blk_cell BK141.out 0).trans rfl; have hcz8_1 : w7.cell? ⟨gb141, 1, none⟩ = some (.bool false) := (blk_cell BK141.out 1).trans rfl; have hcz8_2 : w7.cell? ⟨gb141, 2, none⟩ = some (.bool false) := (blk_cell BK141.out 2).trans rfl; have hcz8_3 : w7.cell? ⟨gb141, 3, none⟩ = some (.bool false) := (blk_cell BK141.out 3).trans rfl; have hcz8_4 : w7.cell? ⟨gb141, 4, none⟩ = some (.bool false) := (blk_cell BK141.out 4).trans rfl; have hcz8_5 : w7.cell? ⟨gb141, 5, none⟩ = some (.bool false) := (blk_cell BK141.out 5).trans rfl; have hcz8_6 : w7.cell? ⟨gb141, 6, none⟩ = some (.int .i64 0) := (blk_cell BK141.out 6).trans rfl; have hcz8_7 : w7.cell? ⟨gb141, 7, none⟩ = some (.int .i64 0) := (blk_cell BK141.out 7).trans rfl; have hcz8_8 : w7.cell? ⟨gb141, 8, none⟩ = some (.int .i64 0) := (blk_cell BK141.out 8).trans rfl; have hcz8_9 : w7.cell? ⟨gb141, 9, none⟩ = some (.int .i64 0) := (blk_cell BK141.out 9).trans rfl; have hfz8_0 := blk_frozen BK141.out 0; have hfz8_1 := blk_frozen BK141.out 1; have hfz8_2 := blk_frozen BK141.out 2; have hfz8_3 := blk_frozen BK141.out 3; have hfz8_4 := blk_frozen BK141.out 4; have hfz8_5 := blk_frozen BK141.out 5; have hfz8_6 := blk_frozen BK141.out 6; have hfz8_7 := blk_frozen BK141.out 7; have hfz8_8 := blk_frozen BK141.out 8; have hfz8_9 := blk_frozen BK141.out 9))
  refine bodyPost_ret (results_cell_row rfl _ _ gb141 29 #[.bool t145, .bool t146, .bool t147, .bool t148, .bool t149, .bool t150, .int .i64 t151, .int .i64 t152, .int .i64 t153, .int .i64 t154] (0, 0) _ rfl (by (with_reducible repeat (first | refine blk_drewN ?_ _ | refine blk_drew ?_ | refine blk_alloc ?_ _)); refine blk_put (cs := #[.bool t145, .bool t146, .bool t147, .bool t148, .bool t149, .bool t150, .int .i64 t151, .int .i64 t152, .int .i64 t153, .int .i64 0]) ?_ 9 _ rfl; (with_reducible repeat (first | refine blk_drewN ?_ _ | refine blk_drew ?_ | refine blk_alloc ?_ _)); refine blk_put (cs := #[.bool t145, .bool t146, .bool t147, .bool t148, .bool t149, .bool t150, .int .i64 t151, .int .i64 t152, .int .i64 0, .int .i64 0]) ?_ 8 _ rfl; (with_reducible repeat (first | refine blk_drewN ?_ _ | refine blk_drew ?_ | refine blk_alloc ?_ _)); refine blk_put (cs := #[.bool t145, .bool t146, .bool t147, .bool t148, .bool t149, .bool t150, .int .i64 t151, .int .i64 0, .int .i64 0, .int .i64 0]) ?_ 7 _ rfl; (with_reducible repeat (first | refine blk_drewN ?_ _ | refine blk_drew ?_ | refine blk_alloc ?_ _)); refine blk_put (cs := #[.bool t145, .bool t146, .bool t147, .bool t148, .bool t149, .bool t150, .int .i64 0, .int .i64 0, .int .i64 0, .int .i64 0]) ?_ 6 _ rfl; (with_reducible repeat (first | refine blk_drewN ?_ _ | refine blk_drew ?_ | refine blk_alloc ?_ _)); refine blk_put (cs := #[.bool t145, .bool t146, .bool t147, .bool t148, .bool t149, .bool false, .int .i64 0, .int .i64 0, .int .i64 0, .int .i64 0]) ?_ 5 _ rfl; (with_reducible repeat (first | refine blk_drewN ?_ _ | refine blk_drew ?_ | refine blk_alloc ?_ _)); refine blk_put (cs := #[.bool t145, .bool t146, .bool t147, .bool t148, .bool false, .bool false, .int .i64 0, .int .i64 0, .int .i64 0, .int .i64 0]) ?_ 4 _ rfl; (with_reducible repeat (first | refine blk_drewN ?_ _ | refine blk_drew ?_ | refine blk_alloc ?_ _)); refine blk_put (cs := #[.bool t145, .bool t146, .bool t147, .bool false, .bool false, .bool false, .int .i64 0, .int .i64 0, .int .i64 0, .int .i64 0]) ?_ 3 _ rfl; (with_reducible repeat (first | refine blk_drewN ?_ _ | refine blk_drew ?_ | refine blk_alloc ?_ _)); refine blk_put (cs := #[.bool t145, .bool t146, .bool false, .bool false, .bool false, .bool false, .int .i64 0, .int .i64 0, .int .i64 0, .int .i64 0]) ?_ 2 _ rfl; (with_reducible repeat (first | refine blk_drewN ?_ _ | refine blk_drew ?_ | refine blk_alloc ?_ _)); refine blk_put (cs := #[.bool t145, .bool false, .bool false, .bool false, .bool false, .bool false, .int .i64 0, .int .i64 0, .int .i64 0, .int .i64 0]) ?_ 1 _ rfl; (with_reducible repeat (first | refine blk_drewN ?_ _ | refine blk_drew ?_ | refine blk_alloc ?_ _)); refine blk_put (cs := #[.bool false, .bool false, .bool false, .bool false, .bool false, .bool false, .int .i64 0, .int .i64 0, .int .i64 0, .int .i64 0]) ?_ 0 _ rfl; (with_reducible repeat (first | refine blk_drewN ?_ _ | refine blk_drew ?_ | refine blk_alloc ?_ _)); exact BK141.out) Tryd.underlying29 rfl (by kernel_rfl)) rfl ?_
  exact ⟨by first | rfl | (generalize ByteArray.toList _ = l_; cases l_ <;> rfl) | (simp [errW_none, errW_some] <;> rfl) | (simp [*, errW_none, errW_some] <;> rfl), by repeat (first | (with_reducible first | exact HB.out | apply below_alloc | apply pw_below_drewN | apply below_drew1 | refine below_set ?_ GE141.out) | exact HB.out)⟩

/-! ### pantrylaw04_anchor: function 9 -/
def pantrylaw04_anchor.f (k : Nat)  : Option (Bool) := (pantrylaw04_of.f k (⟨#[109, 97, 120, 45, 97, 103, 101, 61, 54, 48, 44, 32, 80, 114, 105, 118, 97, 116, 101, 44, 32, 115, 45, 109, 97, 120, 97, 103, 101, 61, 34, 57, 34]⟩ : ByteArray)).bind fun bt155 => (if bt155.2.2.2.2.2.2.1 = 60 then (if bt155.2.2.1 = true then (if bt155.2.2.2.2.2.2.2.1 = 9 then (if bt155.1 = true then (none) else (some (bt155.2.2.2.2.2.2.2.2.1 == (-1)))) else (none)) else (none)) else (none))
theorem pantrylaw04_anchor.mono : ∀ k, LeO (pantrylaw04_anchor.f k ) (pantrylaw04_anchor.f (k + 1) ) := by
  intro  k
  unfold pantrylaw04_anchor.f
  repeat' first
      | (with_reducible exact pantrylaw04_of.mono _ _)
      | (with_reducible exact LeO.refl _)
      | (with_reducible exact LeO.none _)
      | (with_reducible refine LeO.ite ?_ ?_)
      | (with_reducible refine LeO.bind ?_ (fun _ => ?_))
      | exact pantrylaw04_of.mono _ _
      | exact LeO.none _
      | refine LeO.ite ?_ ?_
      | refine LeO.bind ?_ (fun _ => ?_)
set_option maxHeartbeats 8000000 in
set_option maxRecDepth 100000 in
theorem pantrylaw04_anchor.calls (k : Nat)  (r : Bool) (w : World) (h : pantrylaw04_anchor.f k  = some r) :
    Calls Tryd.prog 9 #[] w fun e w' => e = .returned (.bool r) ∧ Below w.heap.size w w' := by
  have hu29 := Tryd.underlying29
  have HB := Aside0.mk (Below.refl w.heap.size w)
  have H : ((pantrylaw04_of.f k (⟨#[109, 97, 120, 45, 97, 103, 101, 61, 54, 48, 44, 32, 80, 114, 105, 118, 97, 116, 101, 44, 32, 115, 45, 109, 97, 120, 97, 103, 101, 61, 34, 57, 34]⟩ : ByteArray)).bind fun bt155 => (if bt155.2.2.2.2.2.2.1 = 60 then (if bt155.2.2.1 = true then (if bt155.2.2.2.2.2.2.2.1 = 9 then (if bt155.1 = true then (none) else (some (bt155.2.2.2.2.2.2.2.2.1 == (-1)))) else (none)) else (none)) else (none))) = some r := h
  clear h
  replace H := Option.bind_eq_some_iff.mp H
  obtain ⟨⟨t155, t156, t157, t158, t159, t160, t161, t162, t163, t164⟩, A10, H⟩ := H
  replace H : (if t161 = 60 then (if t157 = true then (if t162 = 9 then (if t155 = true then (none) else (some (t163 == (-1)))) else (none)) else (none)) else (none)) = some r := H
  have A1 := Aside0.mk A10
  clear A10
  by_cases c2 : t161 = 60
  · rw [if_pos c2] at H
    have c2b0 : (t161 == 60) = true := beq_iff_eq.mpr c2
    have c2b1 : (t161 != 60) = false := bne_eq_false_iff_eq.mpr c2
    clear c2
    by_cases c3 : t157 = true
    · subst c3
      have H1 : (if t162 = 9 then (if t155 = true then (none) else (some (t163 == (-1)))) else (none)) = some r := by rw [if_pos rfl] at H; exact H
      clear H
      have H := H1
      clear H1
      by_cases c4 : t162 = 9
      · rw [if_pos c4] at H
        have c4b0 : (t162 == 9) = true := beq_iff_eq.mpr c4
        have c4b1 : (t162 != 9) = false := bne_eq_false_iff_eq.mpr c4
        clear c4
        by_cases c5 : t155 = true
        · subst c5
          have H1 : (none) = some r := by rw [if_pos rfl] at H; exact H
          clear H
          have H := H1
          clear H1
          exact absurd H (by simp)
        · replace c5 := Bool.eq_false_iff.mpr c5
          subst c5
          have H1 : (some (t163 == (-1))) = some r := by rw [if_neg (show ¬ (false = true) by decide)] at H; exact H
          clear H
          have H := H1
          clear H1
          obtain rfl := Option.some.inj H
          go_enter Tryd.func9, Tryd.ntmps9
          go_wp2_with (first | ((with_reducible refine gate_callee (f := 15) rfl ?_); refine goesL_ (some 2) rfl rfl Tryd.func15 (by kernel_rfl) rfl #[.string (⟨#[109, 97, 120, 45, 97, 103, 101, 61, 54, 48, 44, 32, 80, 114, 105, 118, 97, 116, 101, 44, 32, 115, 45, 109, 97, 120, 97, 103, 101, 61, 34, 57, 34]⟩ : ByteArray)] rfl (by (try simp only [List.map_toArray, List.map_cons, List.map_nil]); first | done | rfl | (simp only [List.length_drop, List.length_take]; rfl)) ?_; (with_reducible refine (pantrylaw04_of.calls k (⟨#[109, 97, 120, 45, 97, 103, 101, 61, 54, 48, 44, 32, 80, 114, 105, 118, 97, 116, 101, 44, 32, 115, 45, 109, 97, 120, 97, 103, 101, 61, 34, 57, 34]⟩ : ByteArray) false t156 true t158 t159 t160 t161 t162 t163 t164 _ A1.out).mono ?_); rintro e w6 ⟨rfl, hb⟩; refine ⟨_, rfl, ?_⟩; have n0_ := Aside0.mk (below_step (by repeat (first | (with_reducible first | exact HB.out | apply below_alloc | apply pw_below_drewN | apply below_drew1) | exact HB.out)) hb); clear HB; have HB := n0_; clear n0_; (try clear hb); (try clear hb2); (try clear hk); (try clear hi)) | ((with_reducible refine gate_dst (N := 1) rfl ?_); refine box_event ?hg (N := 1) ?hd (cs := #[.bool false, .bool false, .bool false, .bool false, .bool false, .bool false, .int .i64 0, .int .i64 0, .int .i64 0, .int .i64 0]) (t := 29) ?hr ?_; (case hd => rfl); (case hg => rfl); (case hr => first | (go_simp; done) | (go_simp; rfl)); intro gb165 hg w7 hbox hb; have n0_ := Aside0.mk (below_step (by repeat (first | (with_reducible first | exact HB.out | apply below_alloc | apply pw_below_drewN | apply below_drew1) | exact HB.out)) hb); have n1_ := Aside0.mk (hbox); have n2_ := Aside0.mk ((by rw [hg]; exact (below_size (by repeat (first | (with_reducible first | exact HB.out | apply below_alloc | apply pw_below_drewN | apply below_drew1) | exact HB.out))) : w.heap.size ≤ gb165)); have n3_ := Aside0.mk ((by rw [hg]; exact (below_size (by repeat (first | (with_reducible first | exact HB.out | apply below_alloc | apply pw_below_drewN | apply below_drew1) | exact HB.out))) : w.heap.size ≤ gb165)); clear HB; have HB := n0_; have BK165 := n1_; have GW165 := n2_; have GE165 := n3_; clear n0_ n1_ n2_ n3_; clear hb hbox hg; have hcz8_0 : w7.cell? ⟨gb165, 0, none⟩ = some (.bool false) := (blk_cell BK165.out 0).trans rfl; have hcz8_1 : w7.cell? ⟨gb165, 1, none⟩ = some (.bool false) := (blk_cell BK165.out 1).trans rfl; have hcz8_2 : w7.cell? ⟨gb165, 2, none⟩ = some (.bool false) := (blk_cell BK165.out 2).trans rfl; have hcz8_3 : w7.cell? ⟨gb165, 3, none⟩ = some (.bool false) := (blk_cell BK165.out 3).trans rfl; have hcz8_4 : w7.cell? ⟨gb165, 4, none⟩ = some (.bool false) := (blk_cell BK165.out 4).trans rfl; have hcz8_5 : w7.cell? ⟨gb165, 5, none⟩ = some (.bool false) := (blk_cell BK165.out 5).trans rfl; have hcz8_6 : w7.cell? ⟨gb165, 6, none⟩ = some (.int .i64 0) := (blk_cell BK165.out 6).trans rfl; have hcz8_7 : w7.cell? ⟨gb165, 7, none⟩ = some (.int .i64 0) := (blk_cell BK165.out 7).trans rfl; have hcz8_8 : w7.cell? ⟨gb165, 8, none⟩ = some (.int .i64 0) := (blk_cell BK165.out 8).trans rfl; have hcz8_9 : w7.cell? ⟨gb165, 9, none⟩ = some (.int .i64 0) := (blk_cell BK165.out 9).trans rfl; have hfz8_0 := blk_frozen BK165.out 0; have hfz8_1 := blk_frozen BK165.out 1; have hfz8_2 := blk_frozen BK165.out 2; have hfz8_3 := blk_frozen BK165.out 3; have hfz8_4 := blk_frozen BK165.out 4; have hfz8_5 := blk_frozen BK165.out 5; have hfz8_6 := blk_frozen BK165.out 6; have hfz8_7 := blk_frozen BK165.out 7; have hfz8_8 := blk_frozen BK165.out 8; have hfz8_9 := blk_frozen BK165.out 9))
          go_ret
          exact ⟨by first | rfl | (generalize ByteArray.toList _ = l_; cases l_ <;> rfl) | (simp [errW_none, errW_some] <;> rfl) | (simp [*, errW_none, errW_some] <;> rfl), by repeat (first | (with_reducible first | exact HB.out | apply below_alloc | apply pw_below_drewN | apply below_drew1 | refine below_set ?_ GE165.out) | exact HB.out)⟩
      · rw [if_neg c4] at H
        exact absurd H (by simp)
    · replace c3 := Bool.eq_false_iff.mpr c3
      subst c3
      have H1 : (none) = some r := by rw [if_neg (show ¬ (false = true) by decide)] at H; exact H
      clear H
      have H := H1
      clear H1
      exact absurd H (by simp)
  · rw [if_neg c2] at H
    exact absurd H (by simp)

end Go.Proofs.YtboeabdfnijaaaaDoor.PAll
