-- Text by a program of this session, over what print.py prints.
import Derived.Test.YtboeabdfnijaaaaDoorPAllx0
import Derived.Test.YtboeabdfnijaaaaDoorPAllx1
import Derived.Test.YtboeabdfnijaaaaDoorPAllx4
import Derived.Test.YtboeabdfnijaaaaDoorPAllx5
namespace Go.Proofs.YtboeabdfnijaaaaDoor.PAll
open Go.RowKit Go.Proofs.YtboeabdfnijaaaaDoorW.PrintWords Go.Proofs.YtboeabdfnijaaaaDoorW.PrintLast Go.Proofs.YtboeabdfnijaaaaDoorW.PrintMore
attribute [local go_sem] max2_int min2_int max_two min_two max_three min_three max_four min_four   -- for this text's walks alone
set_option linter.unusedVariables false
set_option linter.unusedSimpArgs false

/-! ### pantrylaw04_ControlMore: function 5, by hand -/
-- over 9 10 12 17 18
def lessB (x y : Int) : Bool := decide (x < 0 ∨ (0 ≤ y ∧ y ≤ x))
def moreOk (a0 a1 a2 a3 a4 a5 : Bool) (a6 a7 a8 a9 : Int) (b0 b1 b2 b3 b4 b5 : Bool) (b6 b7 b8 b9 : Int) : Bool :=
  (!a0 || b0) && (!a1 || b1) && (!a2 || b2) && (!a3 || b3) && (!a4 || b4) && (!a5 || b5) && lessB a6 b6 && lessB a7 b7 && lessB a9 b9 && decide (a8 ≤ b8)
theorem less_f (x y : Int) (h : lessB x y = true) : pantrylaw04_ControlMore_1.f x y = some true := by
  have h := of_decide_eq_true h
  unfold pantrylaw04_ControlMore_1.f
  by_cases c : x < 0
  · rw [if_pos c]
  · rw [if_neg c, if_pos (by omega), decide_eq_true (by omega)]
theorem imp_two (a b : Bool) (h : (!a || b) = true) : a = false ∨ (a = true ∧ b = true) := by cases a <;> simp_all
theorem moreOk_split {a0 a1 a2 a3 a4 a5 : Bool} {a6 a7 a8 a9 : Int} {b0 b1 b2 b3 b4 b5 : Bool} {b6 b7 b8 b9 : Int} (h : moreOk a0 a1 a2 a3 a4 a5 a6 a7 a8 a9 b0 b1 b2 b3 b4 b5 b6 b7 b8 b9 = true) :
    (a0 = false ∨ (a0 = true ∧ b0 = true)) ∧ (a1 = false ∨ (a1 = true ∧ b1 = true)) ∧ (a2 = false ∨ (a2 = true ∧ b2 = true)) ∧ (a3 = false ∨ (a3 = true ∧ b3 = true)) ∧ (a4 = false ∨ (a4 = true ∧ b4 = true)) ∧ (a5 = false ∨ (a5 = true ∧ b5 = true)) ∧
      pantrylaw04_ControlMore_1.f a6 b6 = some true ∧ pantrylaw04_ControlMore_1.f a7 b7 = some true ∧ pantrylaw04_ControlMore_1.f a9 b9 = some true ∧ decide (a8 ≤ b8) = true := by
  unfold moreOk at h
  simp only [Bool.and_eq_true] at h
  obtain ⟨⟨⟨⟨⟨⟨⟨⟨⟨h0, h1⟩, h2⟩, h3⟩, h4⟩, h5⟩, h6⟩, h7⟩, h9⟩, h8⟩ := h
  exact ⟨imp_two _ _ h0, imp_two _ _ h1, imp_two _ _ h2, imp_two _ _ h3, imp_two _ _ h4, imp_two _ _ h5, less_f _ _ h6, less_f _ _ h7, less_f _ _ h9, h8⟩
theorem At_same {a : Act} {d : Nat} {v : Value} (h : d < a.tmps.size) : (a.put (some d) v).tmps[d]? = some v := by simp [Act.put, h]
theorem At_ne {a : Act} {d n : Nat} {v u : Value} (hn : n ≠ d) (h : a.tmps[n]? = some u) : (a.put (some d) v).tmps[n]? = some u := by
  simp only [Act.put]
  rw [Array.getElem?_setIfInBounds_ne (by omega)]
  exact h
theorem put_size (a : Act) (d : Nat) (v : Value) : (a.put (some d) v).tmps.size = a.tmps.size := by simp [Act.put]
theorem eval_at {a : Act} {n : Nat} {v : Value} (h : a.tmps[n]? = some v) : a.eval (.tmp n) = v := by simp [Act.eval, Array.getD_eq_getD_getElem?, h]
theorem vstep {ops : Array Oper} {Q : Exit → Act → World → Prop} {o : Oper} {rest : List Oper} {a : Act} {w : World} {v : Value} (hw : Region.wanted o (yielded ops a.tmps) = true) (hr : (execOp a.eval o).run Tryd.prog w = .ok (.value v) w) (h : wpList Tryd.prog ops Q rest (a.put o.dst v) w) : wpList Tryd.prog ops Q (o :: rest) a w := by
  rw [wpList, if_pos hw]
  refine .inl ?_
  unfold Oper.wp
  rw [hr]
  exact h
theorem want_none {ops : Array Oper} {o : Oper} {T : Array Value} (h : o.guard = none) : Region.wanted o (yielded ops T) = true := by simp [Region.wanted, h]
theorem want_at {ops : Array Oper} {o : Oper} {T : Array Value} {j t : Nat} {b v : Bool} (h : o.guard = some (j, b)) (ho : (ops[j]?).bind (·.dst) = some t) (ht : T[t]? = some (.bool v)) : Region.wanted o (yielded ops T) = (v == b) := by
  simp only [Region.wanted, h, yielded, ho, Option.bind_some, ht]
  cases v <;> cases b <;> rfl
section
variable (ρ : Operand → Value) (w : World) (d : Option Tmp) (pos : String) (after : Array Edge) (guard : Option (Nat × Bool))
theorem r_not (s : Nat) (x : Bool) (h : ρ (.tmp s) = .bool x) : (execOp ρ { dst := d, op := .unOp .not 4 (.tmp s), type := 4, pos := pos, after := after, guard := guard }).run Tryd.prog w = .ok (.value (.bool (!x))) w := by
  go_simp
theorem r_move (s t : Nat) (v : Value) (h : ρ (.tmp s) = v) : (execOp ρ { dst := d, op := .move (.tmp s), type := t, pos := pos, after := after, guard := guard }).run Tryd.prog w = .ok (.value v) w := by
  subst h
  unfold execOp
  rfl
theorem r_pickC (s u : Nat) (x : Bool) (y : Value) (h : ρ (.tmp s) = .bool x) (hy : ρ (.tmp u) = y) (hc : ρ (.const (.bool true)) = .bool true) : (execOp ρ { dst := d, op := .pick (.tmp s) (.const (.bool true)) (.tmp u), type := 4, pos := pos, after := after, guard := guard }).run Tryd.prog w = .ok (.value (if x = true then .bool true else y)) w := by
  cases x <;> go_simp
theorem r_pickT (s u : Nat) (x : Bool) (y : Value) (h : ρ (.tmp s) = .bool x) (hy : ρ (.tmp u) = y) (hc : ρ (.const (.bool false)) = .bool false) : (execOp ρ { dst := d, op := .pick (.tmp s) (.tmp u) (.const (.bool false)), type := 4, pos := pos, after := after, guard := guard }).run Tryd.prog w = .ok (.value (if x = true then y else .bool false)) w := by
  cases x <;> go_simp
theorem r_loadB (s g f : Nat) (x : Bool) (h : ρ (.tmp s) = .pointer (some ⟨g, f, none⟩)) (hc : w.cell? ⟨g, f, none⟩ = some (.bool x)) : (execOp ρ { dst := d, op := .load 4 (.tmp s), type := 4, pos := pos, after := after, guard := guard }).run Tryd.prog w = .ok (.value (.bool x)) w := by
  go_simp
theorem r_loadI (s g f : Nat) (x : Int) (h : ρ (.tmp s) = .pointer (some ⟨g, f, none⟩)) (hc : w.cell? ⟨g, f, none⟩ = some (.int .i64 x)) : (execOp ρ { dst := d, op := .load 3 (.tmp s), type := 3, pos := pos, after := after, guard := guard }).run Tryd.prog w = .ok (.value (.int .i64 x)) w := by
  go_simp
theorem r_fa0 (s g : Nat) (h : ρ (.tmp s) = .pointer (some ⟨g, 0, none⟩)) : (execOp ρ { dst := d, op := .fieldAddr 29 (.tmp s) 3, type := 0, pos := pos, after := after, guard := guard }).run Tryd.prog w = .ok (.value (.pointer (some ⟨g, 3, none⟩))) w := by
  have hu29 := Tryd.underlying29
  go_simp
end
theorem r_fa (ρ : Operand → Value) (w : World) (d : Option Tmp) (pos : String) (after : Array Edge) (guard : Option (Nat × Bool)) (s g f : Nat) (hf : f < 10) (h : ρ (.tmp s) = .pointer (some ⟨g, 0, none⟩)) : (execOp ρ { dst := d, op := .fieldAddr 29 (.tmp s) f, type := 0, pos := pos, after := after, guard := guard }).run Tryd.prog w = .ok (.value (.pointer (some ⟨g, f, none⟩))) w := by
  have hu29 := Tryd.underlying29
  match f, hf with
  | 0, _ => go_simp
  | 1, _ => go_simp
  | 2, _ => go_simp
  | 3, _ => go_simp
  | 4, _ => go_simp
  | 5, _ => go_simp
  | 6, _ => go_simp
  | 7, _ => go_simp
  | 8, _ => go_simp
  | 9, _ => go_simp
theorem r_geq (ρ : Operand → Value) (w : World) (d : Option Tmp) (pos : String) (after : Array Edge) (guard : Option (Nat × Bool)) (s u : Nat) (x y : Int) (hx : ρ (.tmp s) = .int .i64 x) (hy : ρ (.tmp u) = .int .i64 y) : (execOp ρ { dst := d, op := .binOp .geq 3 (.tmp s) (.tmp u) 3, type := 4, pos := pos, after := after, guard := guard }).run Tryd.prog w = .ok (.value (.bool (decide (y ≤ x)))) w := by
  go_simp
theorem r_ass (ρ : Operand → Value) (w : World) (d : Option Tmp) (pos : String) (after : Array Edge) (guard : Option (Nat × Bool)) (s t : Nat) (v : Value) (h : ρ (.tmp s) = v) : (execOp ρ { dst := d, op := .assign (.tmp s), type := t, pos := pos, after := after, guard := guard }).run Tryd.prog w = .ok (.value v) w := by
  subst h
  unfold execOp
  rfl
theorem r_moveC (ρ : Operand → Value) (w : World) (d : Option Tmp) (pos : String) (after : Array Edge) (guard : Option (Nat × Bool)) (s : Value) (t : Nat) (v : Value) (h : ρ (.const s) = v) : (execOp ρ { dst := d, op := .move (.const s), type := t, pos := pos, after := after, guard := guard }).run Tryd.prog w = .ok (.value v) w := by
  subst h
  unfold execOp
  rfl
theorem vskip {ops : Array Oper} {Q : Exit → Act → World → Prop} {o : Oper} {rest : List Oper} {a : Act} {w : World} (hw : Region.wanted o (yielded ops a.tmps) = false) (h : wpList Tryd.prog ops Q rest (a.put o.dst undef) w) : wpList Tryd.prog ops Q (o :: rest) a w := by
  rw [wpList, if_neg (by rw [hw]; decide)]
  exact h
structure Fr (a : Act) (g5 g6 c : Nat) : Prop where
  size : a.tmps.size = 143
  defers : a.defers = []
  p5 : a.tmps[5]? = some (.pointer (some ⟨g5, 0, none⟩))
  p6 : a.tmps[6]? = some (.pointer (some ⟨g6, 0, none⟩))
  p12 : a.tmps[12]? = some (.func (.func 18) #[] #[])
  at_ : a.tmps[c]? = some (.bool true)
theorem put_defers (a : Act) (d : Option Tmp) (v : Value) : (a.put d v).defers = a.defers := by cases d <;> rfl
theorem want_true {ops : Array Oper} {o : Oper} {T : Array Value} {j t : Nat} {b : Bool} (h : o.guard = some (j, b)) (ho : (ops[j]?).bind (·.dst) = some t) (ht : T[t]? = some (.bool b)) : Region.wanted o (yielded ops T) = true := by
  rw [want_at h ho ht]; cases b <;> rfl
theorem want_false {ops : Array Oper} {o : Oper} {T : Array Value} {j t : Nat} {b v : Bool} (h : o.guard = some (j, b)) (ho : (ops[j]?).bind (·.dst) = some t) (ht : T[t]? = some (.bool v)) (hv : v ≠ b) : Region.wanted o (yielded ops T) = false := by
  rw [want_at h ho ht]; cases b <;> cases v <;> simp_all

theorem blockA {ops : Array Oper} {Q : Exit → Act → World → Prop} {rest : List Oper} {a : Act} {w : World} {g5 g6 : Nat}  {c f gi hi : Nat} {x y : Bool} {p0 p1 p2 p3 p4 p5 p6 p7 : String} {e0 e1 e2 e3 e4 e5 e6 e7 : Array Edge} (hc : 12 < c) (hcs : c + 8 < 143) (hf : f < 10) (hs : a.tmps.size = 143) (hd : a.defers = []) (F5 : a.tmps[5]? = some (.pointer (some ⟨g5, 0, none⟩))) (F6 : a.tmps[6]? = some (.pointer (some ⟨g6, 0, none⟩))) (F12 : a.tmps[12]? = some (.func (.func 18) #[] #[]))
    (hh : (ops[hi]?).bind (·.dst) = some (c + 4)) (hx : w.cell? ⟨g5, f, none⟩ = some (.bool x)) (hy : w.cell? ⟨g6, f, none⟩ = some (.bool y)) (hxy : x = false ∨ (x = true ∧ y = true)) (next : ∀ a', Fr a' g5 g6 (c + 8) → wpList Tryd.prog ops Q rest a' w) :
    wpList Tryd.prog ops Q ({ dst := some (c + 1), op := .fieldAddr 29 (.tmp 5) f, type := 0, pos := p0, after := e0, guard := none } :: { dst := some (c + 2), op := .load 4 (.tmp (c + 1)), type := 4, pos := p1, after := e1, guard := none } :: { dst := some (c + 3), op := .unOp .not 4 (.tmp (c + 2)), type := 4, pos := p2, after := e2, guard := none } :: { dst := some (c + 4), op := .move (.tmp (c + 3)), type := 4, pos := p3, after := e3, guard := none } :: { dst := some (c + 5), op := .fieldAddr 29 (.tmp 6) f, type := 0, pos := p4, after := e4, guard := some (hi, false) } :: { dst := some (c + 6), op := .load 4 (.tmp (c + 5)), type := 4, pos := p5, after := e5, guard := some (hi, false) } :: { dst := some (c + 7), op := .pick (.tmp (c + 4)) (.const (.bool true)) (.tmp (c + 6)), type := 4, pos := p6, after := e6, guard := none } :: { dst := some (c + 8), op := .move (.tmp (c + 7)), type := 4, pos := p7, after := e7, guard := none } :: rest) a w := by
  rcases hxy with rfl | ⟨rfl, rfl⟩
  · refine vstep (o := _) (v := .pointer (some ⟨g5, f, none⟩)) (want_none rfl) (r_fa _ _ _ _ _ _ 5 g5 f hf (eval_at F5)) ?_
    have F5 := At_ne (d := c + 1) (v := .pointer (some ⟨g5, f, none⟩)) (show (5 : Nat) ≠ c + 1 by omega) F5
    have F6 := At_ne (d := c + 1) (v := .pointer (some ⟨g5, f, none⟩)) (show (6 : Nat) ≠ c + 1 by omega) F6
    have F12 := At_ne (d := c + 1) (v := .pointer (some ⟨g5, f, none⟩)) (show (12 : Nat) ≠ c + 1 by omega) F12
    have hs' := (put_size _ (c + 1) (.pointer (some ⟨g5, f, none⟩))).trans hs
    have hd' := (put_defers _ (some (c + 1)) (.pointer (some ⟨g5, f, none⟩))).trans hd
    have K1 := At_same (v := .pointer (some ⟨g5, f, none⟩)) (show c + 1 < _ by rw [hs]; omega)
    clear hs hd; have hs := hs'; have hd := hd'; clear hs' hd'
    refine vstep (o := _) (v := .bool false) (want_none rfl) (r_loadB _ _ _ _ _ _ _ g5 f false (eval_at K1) hx) ?_
    have F5 := At_ne (d := c + 2) (v := .bool false) (show (5 : Nat) ≠ c + 2 by omega) F5
    have F6 := At_ne (d := c + 2) (v := .bool false) (show (6 : Nat) ≠ c + 2 by omega) F6
    have F12 := At_ne (d := c + 2) (v := .bool false) (show (12 : Nat) ≠ c + 2 by omega) F12
    have K1 := At_ne (d := c + 2) (v := .bool false) (show (c + 1 : Nat) ≠ c + 2 by omega) K1
    have hs' := (put_size _ (c + 2) (.bool false)).trans hs
    have hd' := (put_defers _ (some (c + 2)) (.bool false)).trans hd
    have K2 := At_same (v := .bool false) (show c + 2 < _ by rw [hs]; omega)
    clear hs hd; have hs := hs'; have hd := hd'; clear hs' hd'
    refine vstep (o := _) (v := .bool true) (want_none rfl) (r_not _ _ _ _ _ _ _ false (eval_at K2)) ?_
    have F5 := At_ne (d := c + 3) (v := .bool true) (show (5 : Nat) ≠ c + 3 by omega) F5
    have F6 := At_ne (d := c + 3) (v := .bool true) (show (6 : Nat) ≠ c + 3 by omega) F6
    have F12 := At_ne (d := c + 3) (v := .bool true) (show (12 : Nat) ≠ c + 3 by omega) F12
    have K1 := At_ne (d := c + 3) (v := .bool true) (show (c + 1 : Nat) ≠ c + 3 by omega) K1
    have K2 := At_ne (d := c + 3) (v := .bool true) (show (c + 2 : Nat) ≠ c + 3 by omega) K2
    have hs' := (put_size _ (c + 3) (.bool true)).trans hs
    have hd' := (put_defers _ (some (c + 3)) (.bool true)).trans hd
    have K3 := At_same (v := .bool true) (show c + 3 < _ by rw [hs]; omega)
    clear hs hd; have hs := hs'; have hd := hd'; clear hs' hd'
    refine vstep (o := _) (v := .bool true) (want_none rfl) (r_move _ _ _ _ _ _ _ _ _ (eval_at K3)) ?_
    have F5 := At_ne (d := c + 4) (v := .bool true) (show (5 : Nat) ≠ c + 4 by omega) F5
    have F6 := At_ne (d := c + 4) (v := .bool true) (show (6 : Nat) ≠ c + 4 by omega) F6
    have F12 := At_ne (d := c + 4) (v := .bool true) (show (12 : Nat) ≠ c + 4 by omega) F12
    have K1 := At_ne (d := c + 4) (v := .bool true) (show (c + 1 : Nat) ≠ c + 4 by omega) K1
    have K2 := At_ne (d := c + 4) (v := .bool true) (show (c + 2 : Nat) ≠ c + 4 by omega) K2
    have K3 := At_ne (d := c + 4) (v := .bool true) (show (c + 3 : Nat) ≠ c + 4 by omega) K3
    have hs' := (put_size _ (c + 4) (.bool true)).trans hs
    have hd' := (put_defers _ (some (c + 4)) (.bool true)).trans hd
    have K4 := At_same (v := .bool true) (show c + 4 < _ by rw [hs]; omega)
    clear hs hd; have hs := hs'; have hd := hd'; clear hs' hd'
    refine vskip (want_false rfl hh K4 (by decide)) ?_
    have F5 := At_ne (d := c + 5) (v := undef) (show (5 : Nat) ≠ c + 5 by omega) F5
    have F6 := At_ne (d := c + 5) (v := undef) (show (6 : Nat) ≠ c + 5 by omega) F6
    have F12 := At_ne (d := c + 5) (v := undef) (show (12 : Nat) ≠ c + 5 by omega) F12
    have K1 := At_ne (d := c + 5) (v := undef) (show (c + 1 : Nat) ≠ c + 5 by omega) K1
    have K2 := At_ne (d := c + 5) (v := undef) (show (c + 2 : Nat) ≠ c + 5 by omega) K2
    have K3 := At_ne (d := c + 5) (v := undef) (show (c + 3 : Nat) ≠ c + 5 by omega) K3
    have K4 := At_ne (d := c + 5) (v := undef) (show (c + 4 : Nat) ≠ c + 5 by omega) K4
    have hs' := (put_size _ (c + 5) undef).trans hs
    have hd' := (put_defers _ (some (c + 5)) undef).trans hd
    clear hs hd; have hs := hs'; have hd := hd'; clear hs' hd'
    refine vskip (want_false rfl hh K4 (by decide)) ?_
    have F5 := At_ne (d := c + 6) (v := undef) (show (5 : Nat) ≠ c + 6 by omega) F5
    have F6 := At_ne (d := c + 6) (v := undef) (show (6 : Nat) ≠ c + 6 by omega) F6
    have F12 := At_ne (d := c + 6) (v := undef) (show (12 : Nat) ≠ c + 6 by omega) F12
    have K1 := At_ne (d := c + 6) (v := undef) (show (c + 1 : Nat) ≠ c + 6 by omega) K1
    have K2 := At_ne (d := c + 6) (v := undef) (show (c + 2 : Nat) ≠ c + 6 by omega) K2
    have K3 := At_ne (d := c + 6) (v := undef) (show (c + 3 : Nat) ≠ c + 6 by omega) K3
    have K4 := At_ne (d := c + 6) (v := undef) (show (c + 4 : Nat) ≠ c + 6 by omega) K4
    have hs' := (put_size _ (c + 6) undef).trans hs
    have hd' := (put_defers _ (some (c + 6)) undef).trans hd
    clear hs hd; have hs := hs'; have hd := hd'; clear hs' hd'
    refine vstep (o := _) (v := .bool true) (want_none rfl) (r_pickC _ _ _ _ _ _ _ _ true _ (eval_at K4) rfl rfl) ?_
    have F5 := At_ne (d := c + 7) (v := .bool true) (show (5 : Nat) ≠ c + 7 by omega) F5
    have F6 := At_ne (d := c + 7) (v := .bool true) (show (6 : Nat) ≠ c + 7 by omega) F6
    have F12 := At_ne (d := c + 7) (v := .bool true) (show (12 : Nat) ≠ c + 7 by omega) F12
    have K1 := At_ne (d := c + 7) (v := .bool true) (show (c + 1 : Nat) ≠ c + 7 by omega) K1
    have K2 := At_ne (d := c + 7) (v := .bool true) (show (c + 2 : Nat) ≠ c + 7 by omega) K2
    have K3 := At_ne (d := c + 7) (v := .bool true) (show (c + 3 : Nat) ≠ c + 7 by omega) K3
    have K4 := At_ne (d := c + 7) (v := .bool true) (show (c + 4 : Nat) ≠ c + 7 by omega) K4
    have hs' := (put_size _ (c + 7) (.bool true)).trans hs
    have hd' := (put_defers _ (some (c + 7)) (.bool true)).trans hd
    have K7 := At_same (v := .bool true) (show c + 7 < _ by rw [hs]; omega)
    clear hs hd; have hs := hs'; have hd := hd'; clear hs' hd'
    refine vstep (o := _) (v := .bool true) (want_none rfl) (r_move _ _ _ _ _ _ _ _ _ (eval_at K7)) ?_
    have F5 := At_ne (d := c + 8) (v := .bool true) (show (5 : Nat) ≠ c + 8 by omega) F5
    have F6 := At_ne (d := c + 8) (v := .bool true) (show (6 : Nat) ≠ c + 8 by omega) F6
    have F12 := At_ne (d := c + 8) (v := .bool true) (show (12 : Nat) ≠ c + 8 by omega) F12
    have K1 := At_ne (d := c + 8) (v := .bool true) (show (c + 1 : Nat) ≠ c + 8 by omega) K1
    have K2 := At_ne (d := c + 8) (v := .bool true) (show (c + 2 : Nat) ≠ c + 8 by omega) K2
    have K3 := At_ne (d := c + 8) (v := .bool true) (show (c + 3 : Nat) ≠ c + 8 by omega) K3
    have K4 := At_ne (d := c + 8) (v := .bool true) (show (c + 4 : Nat) ≠ c + 8 by omega) K4
    have K7 := At_ne (d := c + 8) (v := .bool true) (show (c + 7 : Nat) ≠ c + 8 by omega) K7
    have hs' := (put_size _ (c + 8) (.bool true)).trans hs
    have hd' := (put_defers _ (some (c + 8)) (.bool true)).trans hd
    have K8 := At_same (v := .bool true) (show c + 8 < _ by rw [hs]; omega)
    clear hs hd; have hs := hs'; have hd := hd'; clear hs' hd'
    exact next _ ⟨hs, hd, F5, F6, F12, K8⟩
  · refine vstep (o := _) (v := .pointer (some ⟨g5, f, none⟩)) (want_none rfl) (r_fa _ _ _ _ _ _ 5 g5 f hf (eval_at F5)) ?_
    have F5 := At_ne (d := c + 1) (v := .pointer (some ⟨g5, f, none⟩)) (show (5 : Nat) ≠ c + 1 by omega) F5
    have F6 := At_ne (d := c + 1) (v := .pointer (some ⟨g5, f, none⟩)) (show (6 : Nat) ≠ c + 1 by omega) F6
    have F12 := At_ne (d := c + 1) (v := .pointer (some ⟨g5, f, none⟩)) (show (12 : Nat) ≠ c + 1 by omega) F12
    have hs' := (put_size _ (c + 1) (.pointer (some ⟨g5, f, none⟩))).trans hs
    have hd' := (put_defers _ (some (c + 1)) (.pointer (some ⟨g5, f, none⟩))).trans hd
    have K1 := At_same (v := .pointer (some ⟨g5, f, none⟩)) (show c + 1 < _ by rw [hs]; omega)
    clear hs hd; have hs := hs'; have hd := hd'; clear hs' hd'
    refine vstep (o := _) (v := .bool true) (want_none rfl) (r_loadB _ _ _ _ _ _ _ g5 f true (eval_at K1) hx) ?_
    have F5 := At_ne (d := c + 2) (v := .bool true) (show (5 : Nat) ≠ c + 2 by omega) F5
    have F6 := At_ne (d := c + 2) (v := .bool true) (show (6 : Nat) ≠ c + 2 by omega) F6
    have F12 := At_ne (d := c + 2) (v := .bool true) (show (12 : Nat) ≠ c + 2 by omega) F12
    have K1 := At_ne (d := c + 2) (v := .bool true) (show (c + 1 : Nat) ≠ c + 2 by omega) K1
    have hs' := (put_size _ (c + 2) (.bool true)).trans hs
    have hd' := (put_defers _ (some (c + 2)) (.bool true)).trans hd
    have K2 := At_same (v := .bool true) (show c + 2 < _ by rw [hs]; omega)
    clear hs hd; have hs := hs'; have hd := hd'; clear hs' hd'
    refine vstep (o := _) (v := .bool false) (want_none rfl) (r_not _ _ _ _ _ _ _ true (eval_at K2)) ?_
    have F5 := At_ne (d := c + 3) (v := .bool false) (show (5 : Nat) ≠ c + 3 by omega) F5
    have F6 := At_ne (d := c + 3) (v := .bool false) (show (6 : Nat) ≠ c + 3 by omega) F6
    have F12 := At_ne (d := c + 3) (v := .bool false) (show (12 : Nat) ≠ c + 3 by omega) F12
    have K1 := At_ne (d := c + 3) (v := .bool false) (show (c + 1 : Nat) ≠ c + 3 by omega) K1
    have K2 := At_ne (d := c + 3) (v := .bool false) (show (c + 2 : Nat) ≠ c + 3 by omega) K2
    have hs' := (put_size _ (c + 3) (.bool false)).trans hs
    have hd' := (put_defers _ (some (c + 3)) (.bool false)).trans hd
    have K3 := At_same (v := .bool false) (show c + 3 < _ by rw [hs]; omega)
    clear hs hd; have hs := hs'; have hd := hd'; clear hs' hd'
    refine vstep (o := _) (v := .bool false) (want_none rfl) (r_move _ _ _ _ _ _ _ _ _ (eval_at K3)) ?_
    have F5 := At_ne (d := c + 4) (v := .bool false) (show (5 : Nat) ≠ c + 4 by omega) F5
    have F6 := At_ne (d := c + 4) (v := .bool false) (show (6 : Nat) ≠ c + 4 by omega) F6
    have F12 := At_ne (d := c + 4) (v := .bool false) (show (12 : Nat) ≠ c + 4 by omega) F12
    have K1 := At_ne (d := c + 4) (v := .bool false) (show (c + 1 : Nat) ≠ c + 4 by omega) K1
    have K2 := At_ne (d := c + 4) (v := .bool false) (show (c + 2 : Nat) ≠ c + 4 by omega) K2
    have K3 := At_ne (d := c + 4) (v := .bool false) (show (c + 3 : Nat) ≠ c + 4 by omega) K3
    have hs' := (put_size _ (c + 4) (.bool false)).trans hs
    have hd' := (put_defers _ (some (c + 4)) (.bool false)).trans hd
    have K4 := At_same (v := .bool false) (show c + 4 < _ by rw [hs]; omega)
    clear hs hd; have hs := hs'; have hd := hd'; clear hs' hd'
    refine vstep (o := _) (v := .pointer (some ⟨g6, f, none⟩)) (want_true rfl hh K4) (r_fa _ _ _ _ _ _ 6 g6 f hf (eval_at F6)) ?_
    have F5 := At_ne (d := c + 5) (v := .pointer (some ⟨g6, f, none⟩)) (show (5 : Nat) ≠ c + 5 by omega) F5
    have F6 := At_ne (d := c + 5) (v := .pointer (some ⟨g6, f, none⟩)) (show (6 : Nat) ≠ c + 5 by omega) F6
    have F12 := At_ne (d := c + 5) (v := .pointer (some ⟨g6, f, none⟩)) (show (12 : Nat) ≠ c + 5 by omega) F12
    have K1 := At_ne (d := c + 5) (v := .pointer (some ⟨g6, f, none⟩)) (show (c + 1 : Nat) ≠ c + 5 by omega) K1
    have K2 := At_ne (d := c + 5) (v := .pointer (some ⟨g6, f, none⟩)) (show (c + 2 : Nat) ≠ c + 5 by omega) K2
    have K3 := At_ne (d := c + 5) (v := .pointer (some ⟨g6, f, none⟩)) (show (c + 3 : Nat) ≠ c + 5 by omega) K3
    have K4 := At_ne (d := c + 5) (v := .pointer (some ⟨g6, f, none⟩)) (show (c + 4 : Nat) ≠ c + 5 by omega) K4
    have hs' := (put_size _ (c + 5) (.pointer (some ⟨g6, f, none⟩))).trans hs
    have hd' := (put_defers _ (some (c + 5)) (.pointer (some ⟨g6, f, none⟩))).trans hd
    have K5 := At_same (v := .pointer (some ⟨g6, f, none⟩)) (show c + 5 < _ by rw [hs]; omega)
    clear hs hd; have hs := hs'; have hd := hd'; clear hs' hd'
    refine vstep (o := _) (v := .bool true) (want_true rfl hh K4) (r_loadB _ _ _ _ _ _ _ g6 f true (eval_at K5) hy) ?_
    have F5 := At_ne (d := c + 6) (v := .bool true) (show (5 : Nat) ≠ c + 6 by omega) F5
    have F6 := At_ne (d := c + 6) (v := .bool true) (show (6 : Nat) ≠ c + 6 by omega) F6
    have F12 := At_ne (d := c + 6) (v := .bool true) (show (12 : Nat) ≠ c + 6 by omega) F12
    have K1 := At_ne (d := c + 6) (v := .bool true) (show (c + 1 : Nat) ≠ c + 6 by omega) K1
    have K2 := At_ne (d := c + 6) (v := .bool true) (show (c + 2 : Nat) ≠ c + 6 by omega) K2
    have K3 := At_ne (d := c + 6) (v := .bool true) (show (c + 3 : Nat) ≠ c + 6 by omega) K3
    have K4 := At_ne (d := c + 6) (v := .bool true) (show (c + 4 : Nat) ≠ c + 6 by omega) K4
    have K5 := At_ne (d := c + 6) (v := .bool true) (show (c + 5 : Nat) ≠ c + 6 by omega) K5
    have hs' := (put_size _ (c + 6) (.bool true)).trans hs
    have hd' := (put_defers _ (some (c + 6)) (.bool true)).trans hd
    have K6 := At_same (v := .bool true) (show c + 6 < _ by rw [hs]; omega)
    clear hs hd; have hs := hs'; have hd := hd'; clear hs' hd'
    refine vstep (o := _) (v := .bool true) (want_none rfl) (r_pickC _ _ _ _ _ _ _ _ false (.bool true) (eval_at K4) (eval_at K6) rfl) ?_
    have F5 := At_ne (d := c + 7) (v := .bool true) (show (5 : Nat) ≠ c + 7 by omega) F5
    have F6 := At_ne (d := c + 7) (v := .bool true) (show (6 : Nat) ≠ c + 7 by omega) F6
    have F12 := At_ne (d := c + 7) (v := .bool true) (show (12 : Nat) ≠ c + 7 by omega) F12
    have K1 := At_ne (d := c + 7) (v := .bool true) (show (c + 1 : Nat) ≠ c + 7 by omega) K1
    have K2 := At_ne (d := c + 7) (v := .bool true) (show (c + 2 : Nat) ≠ c + 7 by omega) K2
    have K3 := At_ne (d := c + 7) (v := .bool true) (show (c + 3 : Nat) ≠ c + 7 by omega) K3
    have K4 := At_ne (d := c + 7) (v := .bool true) (show (c + 4 : Nat) ≠ c + 7 by omega) K4
    have K5 := At_ne (d := c + 7) (v := .bool true) (show (c + 5 : Nat) ≠ c + 7 by omega) K5
    have K6 := At_ne (d := c + 7) (v := .bool true) (show (c + 6 : Nat) ≠ c + 7 by omega) K6
    have hs' := (put_size _ (c + 7) (.bool true)).trans hs
    have hd' := (put_defers _ (some (c + 7)) (.bool true)).trans hd
    have K7 := At_same (v := .bool true) (show c + 7 < _ by rw [hs]; omega)
    clear hs hd; have hs := hs'; have hd := hd'; clear hs' hd'
    refine vstep (o := _) (v := .bool true) (want_none rfl) (r_move _ _ _ _ _ _ _ _ _ (eval_at K7)) ?_
    have F5 := At_ne (d := c + 8) (v := .bool true) (show (5 : Nat) ≠ c + 8 by omega) F5
    have F6 := At_ne (d := c + 8) (v := .bool true) (show (6 : Nat) ≠ c + 8 by omega) F6
    have F12 := At_ne (d := c + 8) (v := .bool true) (show (12 : Nat) ≠ c + 8 by omega) F12
    have K1 := At_ne (d := c + 8) (v := .bool true) (show (c + 1 : Nat) ≠ c + 8 by omega) K1
    have K2 := At_ne (d := c + 8) (v := .bool true) (show (c + 2 : Nat) ≠ c + 8 by omega) K2
    have K3 := At_ne (d := c + 8) (v := .bool true) (show (c + 3 : Nat) ≠ c + 8 by omega) K3
    have K4 := At_ne (d := c + 8) (v := .bool true) (show (c + 4 : Nat) ≠ c + 8 by omega) K4
    have K5 := At_ne (d := c + 8) (v := .bool true) (show (c + 5 : Nat) ≠ c + 8 by omega) K5
    have K6 := At_ne (d := c + 8) (v := .bool true) (show (c + 6 : Nat) ≠ c + 8 by omega) K6
    have K7 := At_ne (d := c + 8) (v := .bool true) (show (c + 7 : Nat) ≠ c + 8 by omega) K7
    have hs' := (put_size _ (c + 8) (.bool true)).trans hs
    have hd' := (put_defers _ (some (c + 8)) (.bool true)).trans hd
    have K8 := At_same (v := .bool true) (show c + 8 < _ by rw [hs]; omega)
    clear hs hd; have hs := hs'; have hd := hd'; clear hs' hd'
    exact next _ ⟨hs, hd, F5, F6, F12, K8⟩
theorem blockB {ops : Array Oper} {Q : Exit → Act → World → Prop} {rest : List Oper} {a : Act} {w : World} {g5 g6 : Nat}  {c f gi hi : Nat} {x y : Bool} {p0 p1 p2 p3 p4 p5 p6 p7 p8 : String} {e0 e1 e2 e3 e4 e5 e6 e7 e8 : Array Edge} (hc : 12 < c) (hcs : c + 9 < 143) (hf : f < 10) (hs : a.tmps.size = 143) (hd : a.defers = []) (F5 : a.tmps[5]? = some (.pointer (some ⟨g5, 0, none⟩))) (F6 : a.tmps[6]? = some (.pointer (some ⟨g6, 0, none⟩))) (F12 : a.tmps[12]? = some (.func (.func 18) #[] #[])) (Fc : a.tmps[c]? = some (.bool true)) (hg : (ops[gi]?).bind (·.dst) = some c)
    (hh : (ops[hi]?).bind (·.dst) = some (c + 4)) (hx : w.cell? ⟨g5, f, none⟩ = some (.bool x)) (hy : w.cell? ⟨g6, f, none⟩ = some (.bool y)) (hxy : x = false ∨ (x = true ∧ y = true)) (next : ∀ a', Fr a' g5 g6 (c + 9) → wpList Tryd.prog ops Q rest a' w) :
    wpList Tryd.prog ops Q ({ dst := some (c + 1), op := .fieldAddr 29 (.tmp 5) f, type := 0, pos := p0, after := e0, guard := some (gi, true) } :: { dst := some (c + 2), op := .load 4 (.tmp (c + 1)), type := 4, pos := p1, after := e1, guard := some (gi, true) } :: { dst := some (c + 3), op := .unOp .not 4 (.tmp (c + 2)), type := 4, pos := p2, after := e2, guard := some (gi, true) } :: { dst := some (c + 4), op := .move (.tmp (c + 3)), type := 4, pos := p3, after := e3, guard := some (gi, true) } :: { dst := some (c + 5), op := .fieldAddr 29 (.tmp 6) f, type := 0, pos := p4, after := e4, guard := some (hi, false) } :: { dst := some (c + 6), op := .load 4 (.tmp (c + 5)), type := 4, pos := p5, after := e5, guard := some (hi, false) } :: { dst := some (c + 7), op := .pick (.tmp (c + 4)) (.const (.bool true)) (.tmp (c + 6)), type := 4, pos := p6, after := e6, guard := some (gi, true) } :: { dst := some (c + 8), op := .pick (.tmp c) (.tmp (c + 7)) (.const (.bool false)), type := 4, pos := p7, after := e7, guard := none } :: { dst := some (c + 9), op := .move (.tmp (c + 8)), type := 4, pos := p8, after := e8, guard := none } :: rest) a w := by
  rcases hxy with rfl | ⟨rfl, rfl⟩
  · refine vstep (o := _) (v := .pointer (some ⟨g5, f, none⟩)) (want_true rfl hg Fc) (r_fa _ _ _ _ _ _ 5 g5 f hf (eval_at F5)) ?_
    have F5 := At_ne (d := c + 1) (v := .pointer (some ⟨g5, f, none⟩)) (show (5 : Nat) ≠ c + 1 by omega) F5
    have F6 := At_ne (d := c + 1) (v := .pointer (some ⟨g5, f, none⟩)) (show (6 : Nat) ≠ c + 1 by omega) F6
    have F12 := At_ne (d := c + 1) (v := .pointer (some ⟨g5, f, none⟩)) (show (12 : Nat) ≠ c + 1 by omega) F12
    have Fc := At_ne (d := c + 1) (v := .pointer (some ⟨g5, f, none⟩)) (show (c : Nat) ≠ c + 1 by omega) Fc
    have hs' := (put_size _ (c + 1) (.pointer (some ⟨g5, f, none⟩))).trans hs
    have hd' := (put_defers _ (some (c + 1)) (.pointer (some ⟨g5, f, none⟩))).trans hd
    have K1 := At_same (v := .pointer (some ⟨g5, f, none⟩)) (show c + 1 < _ by rw [hs]; omega)
    clear hs hd; have hs := hs'; have hd := hd'; clear hs' hd'
    refine vstep (o := _) (v := .bool false) (want_true rfl hg Fc) (r_loadB _ _ _ _ _ _ _ g5 f false (eval_at K1) hx) ?_
    have F5 := At_ne (d := c + 2) (v := .bool false) (show (5 : Nat) ≠ c + 2 by omega) F5
    have F6 := At_ne (d := c + 2) (v := .bool false) (show (6 : Nat) ≠ c + 2 by omega) F6
    have F12 := At_ne (d := c + 2) (v := .bool false) (show (12 : Nat) ≠ c + 2 by omega) F12
    have Fc := At_ne (d := c + 2) (v := .bool false) (show (c : Nat) ≠ c + 2 by omega) Fc
    have K1 := At_ne (d := c + 2) (v := .bool false) (show (c + 1 : Nat) ≠ c + 2 by omega) K1
    have hs' := (put_size _ (c + 2) (.bool false)).trans hs
    have hd' := (put_defers _ (some (c + 2)) (.bool false)).trans hd
    have K2 := At_same (v := .bool false) (show c + 2 < _ by rw [hs]; omega)
    clear hs hd; have hs := hs'; have hd := hd'; clear hs' hd'
    refine vstep (o := _) (v := .bool true) (want_true rfl hg Fc) (r_not _ _ _ _ _ _ _ false (eval_at K2)) ?_
    have F5 := At_ne (d := c + 3) (v := .bool true) (show (5 : Nat) ≠ c + 3 by omega) F5
    have F6 := At_ne (d := c + 3) (v := .bool true) (show (6 : Nat) ≠ c + 3 by omega) F6
    have F12 := At_ne (d := c + 3) (v := .bool true) (show (12 : Nat) ≠ c + 3 by omega) F12
    have Fc := At_ne (d := c + 3) (v := .bool true) (show (c : Nat) ≠ c + 3 by omega) Fc
    have K1 := At_ne (d := c + 3) (v := .bool true) (show (c + 1 : Nat) ≠ c + 3 by omega) K1
    have K2 := At_ne (d := c + 3) (v := .bool true) (show (c + 2 : Nat) ≠ c + 3 by omega) K2
    have hs' := (put_size _ (c + 3) (.bool true)).trans hs
    have hd' := (put_defers _ (some (c + 3)) (.bool true)).trans hd
    have K3 := At_same (v := .bool true) (show c + 3 < _ by rw [hs]; omega)
    clear hs hd; have hs := hs'; have hd := hd'; clear hs' hd'
    refine vstep (o := _) (v := .bool true) (want_true rfl hg Fc) (r_move _ _ _ _ _ _ _ _ _ (eval_at K3)) ?_
    have F5 := At_ne (d := c + 4) (v := .bool true) (show (5 : Nat) ≠ c + 4 by omega) F5
    have F6 := At_ne (d := c + 4) (v := .bool true) (show (6 : Nat) ≠ c + 4 by omega) F6
    have F12 := At_ne (d := c + 4) (v := .bool true) (show (12 : Nat) ≠ c + 4 by omega) F12
    have Fc := At_ne (d := c + 4) (v := .bool true) (show (c : Nat) ≠ c + 4 by omega) Fc
    have K1 := At_ne (d := c + 4) (v := .bool true) (show (c + 1 : Nat) ≠ c + 4 by omega) K1
    have K2 := At_ne (d := c + 4) (v := .bool true) (show (c + 2 : Nat) ≠ c + 4 by omega) K2
    have K3 := At_ne (d := c + 4) (v := .bool true) (show (c + 3 : Nat) ≠ c + 4 by omega) K3
    have hs' := (put_size _ (c + 4) (.bool true)).trans hs
    have hd' := (put_defers _ (some (c + 4)) (.bool true)).trans hd
    have K4 := At_same (v := .bool true) (show c + 4 < _ by rw [hs]; omega)
    clear hs hd; have hs := hs'; have hd := hd'; clear hs' hd'
    refine vskip (want_false rfl hh K4 (by decide)) ?_
    have F5 := At_ne (d := c + 5) (v := undef) (show (5 : Nat) ≠ c + 5 by omega) F5
    have F6 := At_ne (d := c + 5) (v := undef) (show (6 : Nat) ≠ c + 5 by omega) F6
    have F12 := At_ne (d := c + 5) (v := undef) (show (12 : Nat) ≠ c + 5 by omega) F12
    have Fc := At_ne (d := c + 5) (v := undef) (show (c : Nat) ≠ c + 5 by omega) Fc
    have K1 := At_ne (d := c + 5) (v := undef) (show (c + 1 : Nat) ≠ c + 5 by omega) K1
    have K2 := At_ne (d := c + 5) (v := undef) (show (c + 2 : Nat) ≠ c + 5 by omega) K2
    have K3 := At_ne (d := c + 5) (v := undef) (show (c + 3 : Nat) ≠ c + 5 by omega) K3
    have K4 := At_ne (d := c + 5) (v := undef) (show (c + 4 : Nat) ≠ c + 5 by omega) K4
    have hs' := (put_size _ (c + 5) undef).trans hs
    have hd' := (put_defers _ (some (c + 5)) undef).trans hd
    clear hs hd; have hs := hs'; have hd := hd'; clear hs' hd'
    refine vskip (want_false rfl hh K4 (by decide)) ?_
    have F5 := At_ne (d := c + 6) (v := undef) (show (5 : Nat) ≠ c + 6 by omega) F5
    have F6 := At_ne (d := c + 6) (v := undef) (show (6 : Nat) ≠ c + 6 by omega) F6
    have F12 := At_ne (d := c + 6) (v := undef) (show (12 : Nat) ≠ c + 6 by omega) F12
    have Fc := At_ne (d := c + 6) (v := undef) (show (c : Nat) ≠ c + 6 by omega) Fc
    have K1 := At_ne (d := c + 6) (v := undef) (show (c + 1 : Nat) ≠ c + 6 by omega) K1
    have K2 := At_ne (d := c + 6) (v := undef) (show (c + 2 : Nat) ≠ c + 6 by omega) K2
    have K3 := At_ne (d := c + 6) (v := undef) (show (c + 3 : Nat) ≠ c + 6 by omega) K3
    have K4 := At_ne (d := c + 6) (v := undef) (show (c + 4 : Nat) ≠ c + 6 by omega) K4
    have hs' := (put_size _ (c + 6) undef).trans hs
    have hd' := (put_defers _ (some (c + 6)) undef).trans hd
    clear hs hd; have hs := hs'; have hd := hd'; clear hs' hd'
    refine vstep (o := _) (v := .bool true) (want_true rfl hg Fc) (r_pickC _ _ _ _ _ _ _ _ true _ (eval_at K4) rfl rfl) ?_
    have F5 := At_ne (d := c + 7) (v := .bool true) (show (5 : Nat) ≠ c + 7 by omega) F5
    have F6 := At_ne (d := c + 7) (v := .bool true) (show (6 : Nat) ≠ c + 7 by omega) F6
    have F12 := At_ne (d := c + 7) (v := .bool true) (show (12 : Nat) ≠ c + 7 by omega) F12
    have Fc := At_ne (d := c + 7) (v := .bool true) (show (c : Nat) ≠ c + 7 by omega) Fc
    have K1 := At_ne (d := c + 7) (v := .bool true) (show (c + 1 : Nat) ≠ c + 7 by omega) K1
    have K2 := At_ne (d := c + 7) (v := .bool true) (show (c + 2 : Nat) ≠ c + 7 by omega) K2
    have K3 := At_ne (d := c + 7) (v := .bool true) (show (c + 3 : Nat) ≠ c + 7 by omega) K3
    have K4 := At_ne (d := c + 7) (v := .bool true) (show (c + 4 : Nat) ≠ c + 7 by omega) K4
    have hs' := (put_size _ (c + 7) (.bool true)).trans hs
    have hd' := (put_defers _ (some (c + 7)) (.bool true)).trans hd
    have K7 := At_same (v := .bool true) (show c + 7 < _ by rw [hs]; omega)
    clear hs hd; have hs := hs'; have hd := hd'; clear hs' hd'
    refine vstep (o := _) (v := .bool true) (want_none rfl) (r_pickT _ _ _ _ _ _ _ _ true _ (eval_at Fc) (eval_at K7) rfl) ?_
    have F5 := At_ne (d := c + 8) (v := .bool true) (show (5 : Nat) ≠ c + 8 by omega) F5
    have F6 := At_ne (d := c + 8) (v := .bool true) (show (6 : Nat) ≠ c + 8 by omega) F6
    have F12 := At_ne (d := c + 8) (v := .bool true) (show (12 : Nat) ≠ c + 8 by omega) F12
    have Fc := At_ne (d := c + 8) (v := .bool true) (show (c : Nat) ≠ c + 8 by omega) Fc
    have K1 := At_ne (d := c + 8) (v := .bool true) (show (c + 1 : Nat) ≠ c + 8 by omega) K1
    have K2 := At_ne (d := c + 8) (v := .bool true) (show (c + 2 : Nat) ≠ c + 8 by omega) K2
    have K3 := At_ne (d := c + 8) (v := .bool true) (show (c + 3 : Nat) ≠ c + 8 by omega) K3
    have K4 := At_ne (d := c + 8) (v := .bool true) (show (c + 4 : Nat) ≠ c + 8 by omega) K4
    have K7 := At_ne (d := c + 8) (v := .bool true) (show (c + 7 : Nat) ≠ c + 8 by omega) K7
    have hs' := (put_size _ (c + 8) (.bool true)).trans hs
    have hd' := (put_defers _ (some (c + 8)) (.bool true)).trans hd
    have K8 := At_same (v := .bool true) (show c + 8 < _ by rw [hs]; omega)
    clear hs hd; have hs := hs'; have hd := hd'; clear hs' hd'
    refine vstep (o := _) (v := .bool true) (want_none rfl) (r_move _ _ _ _ _ _ _ _ _ (eval_at K8)) ?_
    have F5 := At_ne (d := c + 9) (v := .bool true) (show (5 : Nat) ≠ c + 9 by omega) F5
    have F6 := At_ne (d := c + 9) (v := .bool true) (show (6 : Nat) ≠ c + 9 by omega) F6
    have F12 := At_ne (d := c + 9) (v := .bool true) (show (12 : Nat) ≠ c + 9 by omega) F12
    have Fc := At_ne (d := c + 9) (v := .bool true) (show (c : Nat) ≠ c + 9 by omega) Fc
    have K1 := At_ne (d := c + 9) (v := .bool true) (show (c + 1 : Nat) ≠ c + 9 by omega) K1
    have K2 := At_ne (d := c + 9) (v := .bool true) (show (c + 2 : Nat) ≠ c + 9 by omega) K2
    have K3 := At_ne (d := c + 9) (v := .bool true) (show (c + 3 : Nat) ≠ c + 9 by omega) K3
    have K4 := At_ne (d := c + 9) (v := .bool true) (show (c + 4 : Nat) ≠ c + 9 by omega) K4
    have K7 := At_ne (d := c + 9) (v := .bool true) (show (c + 7 : Nat) ≠ c + 9 by omega) K7
    have K8 := At_ne (d := c + 9) (v := .bool true) (show (c + 8 : Nat) ≠ c + 9 by omega) K8
    have hs' := (put_size _ (c + 9) (.bool true)).trans hs
    have hd' := (put_defers _ (some (c + 9)) (.bool true)).trans hd
    have K9 := At_same (v := .bool true) (show c + 9 < _ by rw [hs]; omega)
    clear hs hd; have hs := hs'; have hd := hd'; clear hs' hd'
    exact next _ ⟨hs, hd, F5, F6, F12, K9⟩
  · refine vstep (o := _) (v := .pointer (some ⟨g5, f, none⟩)) (want_true rfl hg Fc) (r_fa _ _ _ _ _ _ 5 g5 f hf (eval_at F5)) ?_
    have F5 := At_ne (d := c + 1) (v := .pointer (some ⟨g5, f, none⟩)) (show (5 : Nat) ≠ c + 1 by omega) F5
    have F6 := At_ne (d := c + 1) (v := .pointer (some ⟨g5, f, none⟩)) (show (6 : Nat) ≠ c + 1 by omega) F6
    have F12 := At_ne (d := c + 1) (v := .pointer (some ⟨g5, f, none⟩)) (show (12 : Nat) ≠ c + 1 by omega) F12
    have Fc := At_ne (d := c + 1) (v := .pointer (some ⟨g5, f, none⟩)) (show (c : Nat) ≠ c + 1 by omega) Fc
    have hs' := (put_size _ (c + 1) (.pointer (some ⟨g5, f, none⟩))).trans hs
    have hd' := (put_defers _ (some (c + 1)) (.pointer (some ⟨g5, f, none⟩))).trans hd
    have K1 := At_same (v := .pointer (some ⟨g5, f, none⟩)) (show c + 1 < _ by rw [hs]; omega)
    clear hs hd; have hs := hs'; have hd := hd'; clear hs' hd'
    refine vstep (o := _) (v := .bool true) (want_true rfl hg Fc) (r_loadB _ _ _ _ _ _ _ g5 f true (eval_at K1) hx) ?_
    have F5 := At_ne (d := c + 2) (v := .bool true) (show (5 : Nat) ≠ c + 2 by omega) F5
    have F6 := At_ne (d := c + 2) (v := .bool true) (show (6 : Nat) ≠ c + 2 by omega) F6
    have F12 := At_ne (d := c + 2) (v := .bool true) (show (12 : Nat) ≠ c + 2 by omega) F12
    have Fc := At_ne (d := c + 2) (v := .bool true) (show (c : Nat) ≠ c + 2 by omega) Fc
    have K1 := At_ne (d := c + 2) (v := .bool true) (show (c + 1 : Nat) ≠ c + 2 by omega) K1
    have hs' := (put_size _ (c + 2) (.bool true)).trans hs
    have hd' := (put_defers _ (some (c + 2)) (.bool true)).trans hd
    have K2 := At_same (v := .bool true) (show c + 2 < _ by rw [hs]; omega)
    clear hs hd; have hs := hs'; have hd := hd'; clear hs' hd'
    refine vstep (o := _) (v := .bool false) (want_true rfl hg Fc) (r_not _ _ _ _ _ _ _ true (eval_at K2)) ?_
    have F5 := At_ne (d := c + 3) (v := .bool false) (show (5 : Nat) ≠ c + 3 by omega) F5
    have F6 := At_ne (d := c + 3) (v := .bool false) (show (6 : Nat) ≠ c + 3 by omega) F6
    have F12 := At_ne (d := c + 3) (v := .bool false) (show (12 : Nat) ≠ c + 3 by omega) F12
    have Fc := At_ne (d := c + 3) (v := .bool false) (show (c : Nat) ≠ c + 3 by omega) Fc
    have K1 := At_ne (d := c + 3) (v := .bool false) (show (c + 1 : Nat) ≠ c + 3 by omega) K1
    have K2 := At_ne (d := c + 3) (v := .bool false) (show (c + 2 : Nat) ≠ c + 3 by omega) K2
    have hs' := (put_size _ (c + 3) (.bool false)).trans hs
    have hd' := (put_defers _ (some (c + 3)) (.bool false)).trans hd
    have K3 := At_same (v := .bool false) (show c + 3 < _ by rw [hs]; omega)
    clear hs hd; have hs := hs'; have hd := hd'; clear hs' hd'
    refine vstep (o := _) (v := .bool false) (want_true rfl hg Fc) (r_move _ _ _ _ _ _ _ _ _ (eval_at K3)) ?_
    have F5 := At_ne (d := c + 4) (v := .bool false) (show (5 : Nat) ≠ c + 4 by omega) F5
    have F6 := At_ne (d := c + 4) (v := .bool false) (show (6 : Nat) ≠ c + 4 by omega) F6
    have F12 := At_ne (d := c + 4) (v := .bool false) (show (12 : Nat) ≠ c + 4 by omega) F12
    have Fc := At_ne (d := c + 4) (v := .bool false) (show (c : Nat) ≠ c + 4 by omega) Fc
    have K1 := At_ne (d := c + 4) (v := .bool false) (show (c + 1 : Nat) ≠ c + 4 by omega) K1
    have K2 := At_ne (d := c + 4) (v := .bool false) (show (c + 2 : Nat) ≠ c + 4 by omega) K2
    have K3 := At_ne (d := c + 4) (v := .bool false) (show (c + 3 : Nat) ≠ c + 4 by omega) K3
    have hs' := (put_size _ (c + 4) (.bool false)).trans hs
    have hd' := (put_defers _ (some (c + 4)) (.bool false)).trans hd
    have K4 := At_same (v := .bool false) (show c + 4 < _ by rw [hs]; omega)
    clear hs hd; have hs := hs'; have hd := hd'; clear hs' hd'
    refine vstep (o := _) (v := .pointer (some ⟨g6, f, none⟩)) (want_true rfl hh K4) (r_fa _ _ _ _ _ _ 6 g6 f hf (eval_at F6)) ?_
    have F5 := At_ne (d := c + 5) (v := .pointer (some ⟨g6, f, none⟩)) (show (5 : Nat) ≠ c + 5 by omega) F5
    have F6 := At_ne (d := c + 5) (v := .pointer (some ⟨g6, f, none⟩)) (show (6 : Nat) ≠ c + 5 by omega) F6
    have F12 := At_ne (d := c + 5) (v := .pointer (some ⟨g6, f, none⟩)) (show (12 : Nat) ≠ c + 5 by omega) F12
    have Fc := At_ne (d := c + 5) (v := .pointer (some ⟨g6, f, none⟩)) (show (c : Nat) ≠ c + 5 by omega) Fc
    have K1 := At_ne (d := c + 5) (v := .pointer (some ⟨g6, f, none⟩)) (show (c + 1 : Nat) ≠ c + 5 by omega) K1
    have K2 := At_ne (d := c + 5) (v := .pointer (some ⟨g6, f, none⟩)) (show (c + 2 : Nat) ≠ c + 5 by omega) K2
    have K3 := At_ne (d := c + 5) (v := .pointer (some ⟨g6, f, none⟩)) (show (c + 3 : Nat) ≠ c + 5 by omega) K3
    have K4 := At_ne (d := c + 5) (v := .pointer (some ⟨g6, f, none⟩)) (show (c + 4 : Nat) ≠ c + 5 by omega) K4
    have hs' := (put_size _ (c + 5) (.pointer (some ⟨g6, f, none⟩))).trans hs
    have hd' := (put_defers _ (some (c + 5)) (.pointer (some ⟨g6, f, none⟩))).trans hd
    have K5 := At_same (v := .pointer (some ⟨g6, f, none⟩)) (show c + 5 < _ by rw [hs]; omega)
    clear hs hd; have hs := hs'; have hd := hd'; clear hs' hd'
    refine vstep (o := _) (v := .bool true) (want_true rfl hh K4) (r_loadB _ _ _ _ _ _ _ g6 f true (eval_at K5) hy) ?_
    have F5 := At_ne (d := c + 6) (v := .bool true) (show (5 : Nat) ≠ c + 6 by omega) F5
    have F6 := At_ne (d := c + 6) (v := .bool true) (show (6 : Nat) ≠ c + 6 by omega) F6
    have F12 := At_ne (d := c + 6) (v := .bool true) (show (12 : Nat) ≠ c + 6 by omega) F12
    have Fc := At_ne (d := c + 6) (v := .bool true) (show (c : Nat) ≠ c + 6 by omega) Fc
    have K1 := At_ne (d := c + 6) (v := .bool true) (show (c + 1 : Nat) ≠ c + 6 by omega) K1
    have K2 := At_ne (d := c + 6) (v := .bool true) (show (c + 2 : Nat) ≠ c + 6 by omega) K2
    have K3 := At_ne (d := c + 6) (v := .bool true) (show (c + 3 : Nat) ≠ c + 6 by omega) K3
    have K4 := At_ne (d := c + 6) (v := .bool true) (show (c + 4 : Nat) ≠ c + 6 by omega) K4
    have K5 := At_ne (d := c + 6) (v := .bool true) (show (c + 5 : Nat) ≠ c + 6 by omega) K5
    have hs' := (put_size _ (c + 6) (.bool true)).trans hs
    have hd' := (put_defers _ (some (c + 6)) (.bool true)).trans hd
    have K6 := At_same (v := .bool true) (show c + 6 < _ by rw [hs]; omega)
    clear hs hd; have hs := hs'; have hd := hd'; clear hs' hd'
    refine vstep (o := _) (v := .bool true) (want_true rfl hg Fc) (r_pickC _ _ _ _ _ _ _ _ false (.bool true) (eval_at K4) (eval_at K6) rfl) ?_
    have F5 := At_ne (d := c + 7) (v := .bool true) (show (5 : Nat) ≠ c + 7 by omega) F5
    have F6 := At_ne (d := c + 7) (v := .bool true) (show (6 : Nat) ≠ c + 7 by omega) F6
    have F12 := At_ne (d := c + 7) (v := .bool true) (show (12 : Nat) ≠ c + 7 by omega) F12
    have Fc := At_ne (d := c + 7) (v := .bool true) (show (c : Nat) ≠ c + 7 by omega) Fc
    have K1 := At_ne (d := c + 7) (v := .bool true) (show (c + 1 : Nat) ≠ c + 7 by omega) K1
    have K2 := At_ne (d := c + 7) (v := .bool true) (show (c + 2 : Nat) ≠ c + 7 by omega) K2
    have K3 := At_ne (d := c + 7) (v := .bool true) (show (c + 3 : Nat) ≠ c + 7 by omega) K3
    have K4 := At_ne (d := c + 7) (v := .bool true) (show (c + 4 : Nat) ≠ c + 7 by omega) K4
    have K5 := At_ne (d := c + 7) (v := .bool true) (show (c + 5 : Nat) ≠ c + 7 by omega) K5
    have K6 := At_ne (d := c + 7) (v := .bool true) (show (c + 6 : Nat) ≠ c + 7 by omega) K6
    have hs' := (put_size _ (c + 7) (.bool true)).trans hs
    have hd' := (put_defers _ (some (c + 7)) (.bool true)).trans hd
    have K7 := At_same (v := .bool true) (show c + 7 < _ by rw [hs]; omega)
    clear hs hd; have hs := hs'; have hd := hd'; clear hs' hd'
    refine vstep (o := _) (v := .bool true) (want_none rfl) (r_pickT _ _ _ _ _ _ _ _ true _ (eval_at Fc) (eval_at K7) rfl) ?_
    have F5 := At_ne (d := c + 8) (v := .bool true) (show (5 : Nat) ≠ c + 8 by omega) F5
    have F6 := At_ne (d := c + 8) (v := .bool true) (show (6 : Nat) ≠ c + 8 by omega) F6
    have F12 := At_ne (d := c + 8) (v := .bool true) (show (12 : Nat) ≠ c + 8 by omega) F12
    have Fc := At_ne (d := c + 8) (v := .bool true) (show (c : Nat) ≠ c + 8 by omega) Fc
    have K1 := At_ne (d := c + 8) (v := .bool true) (show (c + 1 : Nat) ≠ c + 8 by omega) K1
    have K2 := At_ne (d := c + 8) (v := .bool true) (show (c + 2 : Nat) ≠ c + 8 by omega) K2
    have K3 := At_ne (d := c + 8) (v := .bool true) (show (c + 3 : Nat) ≠ c + 8 by omega) K3
    have K4 := At_ne (d := c + 8) (v := .bool true) (show (c + 4 : Nat) ≠ c + 8 by omega) K4
    have K5 := At_ne (d := c + 8) (v := .bool true) (show (c + 5 : Nat) ≠ c + 8 by omega) K5
    have K6 := At_ne (d := c + 8) (v := .bool true) (show (c + 6 : Nat) ≠ c + 8 by omega) K6
    have K7 := At_ne (d := c + 8) (v := .bool true) (show (c + 7 : Nat) ≠ c + 8 by omega) K7
    have hs' := (put_size _ (c + 8) (.bool true)).trans hs
    have hd' := (put_defers _ (some (c + 8)) (.bool true)).trans hd
    have K8 := At_same (v := .bool true) (show c + 8 < _ by rw [hs]; omega)
    clear hs hd; have hs := hs'; have hd := hd'; clear hs' hd'
    refine vstep (o := _) (v := .bool true) (want_none rfl) (r_move _ _ _ _ _ _ _ _ _ (eval_at K8)) ?_
    have F5 := At_ne (d := c + 9) (v := .bool true) (show (5 : Nat) ≠ c + 9 by omega) F5
    have F6 := At_ne (d := c + 9) (v := .bool true) (show (6 : Nat) ≠ c + 9 by omega) F6
    have F12 := At_ne (d := c + 9) (v := .bool true) (show (12 : Nat) ≠ c + 9 by omega) F12
    have Fc := At_ne (d := c + 9) (v := .bool true) (show (c : Nat) ≠ c + 9 by omega) Fc
    have K1 := At_ne (d := c + 9) (v := .bool true) (show (c + 1 : Nat) ≠ c + 9 by omega) K1
    have K2 := At_ne (d := c + 9) (v := .bool true) (show (c + 2 : Nat) ≠ c + 9 by omega) K2
    have K3 := At_ne (d := c + 9) (v := .bool true) (show (c + 3 : Nat) ≠ c + 9 by omega) K3
    have K4 := At_ne (d := c + 9) (v := .bool true) (show (c + 4 : Nat) ≠ c + 9 by omega) K4
    have K5 := At_ne (d := c + 9) (v := .bool true) (show (c + 5 : Nat) ≠ c + 9 by omega) K5
    have K6 := At_ne (d := c + 9) (v := .bool true) (show (c + 6 : Nat) ≠ c + 9 by omega) K6
    have K7 := At_ne (d := c + 9) (v := .bool true) (show (c + 7 : Nat) ≠ c + 9 by omega) K7
    have K8 := At_ne (d := c + 9) (v := .bool true) (show (c + 8 : Nat) ≠ c + 9 by omega) K8
    have hs' := (put_size _ (c + 9) (.bool true)).trans hs
    have hd' := (put_defers _ (some (c + 9)) (.bool true)).trans hd
    have K9 := At_same (v := .bool true) (show c + 9 < _ by rw [hs]; omega)
    clear hs hd; have hs := hs'; have hd := hd'; clear hs' hd'
    exact next _ ⟨hs, hd, F5, F6, F12, K9⟩
theorem vcall {ops : Array Oper} {Q : Exit → Act → World → Prop} {o : Oper} {rest : List Oper} {a : Act} {w : World} {f : FuncId} {args : Array Value} (hw : Region.wanted o (yielded ops a.tmps) = true) (hr : (execOp a.eval o).run Tryd.prog w = .ok (.enter f args) w)
    (h : Calls Tryd.prog f args w fun e w' => ∃ v, e = .returned v ∧ wpList Tryd.prog ops Q rest (a.put o.dst v) w') : wpList Tryd.prog ops Q (o :: rest) a w := by
  rw [wpList, if_pos hw]
  refine .inl ?_
  unfold Oper.wp
  rw [hr, Oper.upon_enter]
  refine h.mono fun e w'' hh => ?_
  obtain ⟨v, rfl, hk⟩ := hh
  exact hk
theorem r_callT (a : Act) (w : World) (d : Option Tmp) (pos : String) (after : Array Edge) (guard : Option (Nat × Bool)) (u s t : Nat) (x y : Value) (hu : a.eval (.tmp u) = .func (.func 18) #[] #[]) (hx : a.eval (.tmp s) = x) (hy : a.eval (.tmp t) = y) : (execOp a.eval { dst := d, op := .call { callee := .value (.tmp u), args := #[.tmp s, .tmp t], argTypes := #[3, 3] }, type := 4, pos := pos, after := after, guard := guard }).run Tryd.prog w = .ok (.enter 18 #[x, y]) w := by
  have he := enters_ Tryd.func18 (by kernel_rfl) rfl #[x, y] w
  unfold execOp
  simp only [Act.eval] at hu hx hy
  simp [resolve, Deferred.ofValue, invoke, Act.eval, hu, hx, hy, he]
theorem blockC {ops : Array Oper} {Q : Exit → Act → World → Prop} {rest : List Oper} {a : Act} {w : World} {g5 g6 : Nat}  {c f gi : Nat} {x y : Int} {p0 p1 p2 p3 p4 p5 p6 p7 : String} {e0 e1 e2 e3 e4 e5 e6 e7 : Array Edge} (hc : 12 < c) (hcs : c + 8 < 143) (hf : f < 10) (F : Fr a g5 g6 c) (hg : (ops[gi]?).bind (·.dst) = some c)
    (hx : w.cell? ⟨g5, f, none⟩ = some (.int .i64 x)) (hy : w.cell? ⟨g6, f, none⟩ = some (.int .i64 y)) (hxy : pantrylaw04_ControlMore_1.f x y = some true) (next : ∀ a' m, Fr a' g5 g6 (c + 8) → wpList Tryd.prog ops Q rest a' (w.drewN m)) :
    wpList Tryd.prog ops Q ({ dst := some (c + 1), op := .move (.tmp 12), type := 43, pos := p0, after := e0, guard := some (gi, true) } :: { dst := some (c + 2), op := .fieldAddr 29 (.tmp 5) f, type := 0, pos := p1, after := e1, guard := some (gi, true) } :: { dst := some (c + 3), op := .load 3 (.tmp (c + 2)), type := 3, pos := p2, after := e2, guard := some (gi, true) } :: { dst := some (c + 4), op := .fieldAddr 29 (.tmp 6) f, type := 0, pos := p3, after := e3, guard := some (gi, true) } :: { dst := some (c + 5), op := .load 3 (.tmp (c + 4)), type := 3, pos := p4, after := e4, guard := some (gi, true) } :: { dst := some (c + 6), op := .call { callee := .value (.tmp (c + 1)), args := #[(.tmp (c + 3)), (.tmp (c + 5))], argTypes := #[3, 3] }, type := 4, pos := p5, after := e5, guard := some (gi, true) } :: { dst := some (c + 7), op := .pick (.tmp c) (.tmp (c + 6)) (.const (.bool false)), type := 4, pos := p6, after := e6, guard := none } :: { dst := some (c + 8), op := .move (.tmp (c + 7)), type := 4, pos := p7, after := e7, guard := none } :: rest) a w := by
  obtain ⟨hs, hd, F5, F6, F12, Fc⟩ := F
  refine vstep (o := _) (v := .func (.func 18) #[] #[]) (want_true rfl hg Fc) (r_move _ _ _ _ _ _ _ _ _ (eval_at F12)) ?_
  have F5 := At_ne (d := c + 1) (v := .func (.func 18) #[] #[]) (show (5 : Nat) ≠ c + 1 by omega) F5
  have F6 := At_ne (d := c + 1) (v := .func (.func 18) #[] #[]) (show (6 : Nat) ≠ c + 1 by omega) F6
  have F12 := At_ne (d := c + 1) (v := .func (.func 18) #[] #[]) (show (12 : Nat) ≠ c + 1 by omega) F12
  have Fc := At_ne (d := c + 1) (v := .func (.func 18) #[] #[]) (show (c : Nat) ≠ c + 1 by omega) Fc
  have hs' := (put_size _ (c + 1) (.func (.func 18) #[] #[])).trans hs
  have hd' := (put_defers _ (some (c + 1)) (.func (.func 18) #[] #[])).trans hd
  have K1 := At_same (v := .func (.func 18) #[] #[]) (show c + 1 < _ by rw [hs]; omega)
  clear hs hd; have hs := hs'; have hd := hd'; clear hs' hd'
  refine vstep (o := _) (v := .pointer (some ⟨g5, f, none⟩)) (want_true rfl hg Fc) (r_fa _ _ _ _ _ _ 5 g5 f hf (eval_at F5)) ?_
  have F5 := At_ne (d := c + 2) (v := .pointer (some ⟨g5, f, none⟩)) (show (5 : Nat) ≠ c + 2 by omega) F5
  have F6 := At_ne (d := c + 2) (v := .pointer (some ⟨g5, f, none⟩)) (show (6 : Nat) ≠ c + 2 by omega) F6
  have F12 := At_ne (d := c + 2) (v := .pointer (some ⟨g5, f, none⟩)) (show (12 : Nat) ≠ c + 2 by omega) F12
  have Fc := At_ne (d := c + 2) (v := .pointer (some ⟨g5, f, none⟩)) (show (c : Nat) ≠ c + 2 by omega) Fc
  have K1 := At_ne (d := c + 2) (v := .pointer (some ⟨g5, f, none⟩)) (show (c + 1 : Nat) ≠ c + 2 by omega) K1
  have hs' := (put_size _ (c + 2) (.pointer (some ⟨g5, f, none⟩))).trans hs
  have hd' := (put_defers _ (some (c + 2)) (.pointer (some ⟨g5, f, none⟩))).trans hd
  have K2 := At_same (v := .pointer (some ⟨g5, f, none⟩)) (show c + 2 < _ by rw [hs]; omega)
  clear hs hd; have hs := hs'; have hd := hd'; clear hs' hd'
  refine vstep (o := _) (v := .int .i64 x) (want_true rfl hg Fc) (r_loadI _ _ _ _ _ _ _ g5 f x (eval_at K2) hx) ?_
  have F5 := At_ne (d := c + 3) (v := .int .i64 x) (show (5 : Nat) ≠ c + 3 by omega) F5
  have F6 := At_ne (d := c + 3) (v := .int .i64 x) (show (6 : Nat) ≠ c + 3 by omega) F6
  have F12 := At_ne (d := c + 3) (v := .int .i64 x) (show (12 : Nat) ≠ c + 3 by omega) F12
  have Fc := At_ne (d := c + 3) (v := .int .i64 x) (show (c : Nat) ≠ c + 3 by omega) Fc
  have K1 := At_ne (d := c + 3) (v := .int .i64 x) (show (c + 1 : Nat) ≠ c + 3 by omega) K1
  have K2 := At_ne (d := c + 3) (v := .int .i64 x) (show (c + 2 : Nat) ≠ c + 3 by omega) K2
  have hs' := (put_size _ (c + 3) (.int .i64 x)).trans hs
  have hd' := (put_defers _ (some (c + 3)) (.int .i64 x)).trans hd
  have K3 := At_same (v := .int .i64 x) (show c + 3 < _ by rw [hs]; omega)
  clear hs hd; have hs := hs'; have hd := hd'; clear hs' hd'
  refine vstep (o := _) (v := .pointer (some ⟨g6, f, none⟩)) (want_true rfl hg Fc) (r_fa _ _ _ _ _ _ 6 g6 f hf (eval_at F6)) ?_
  have F5 := At_ne (d := c + 4) (v := .pointer (some ⟨g6, f, none⟩)) (show (5 : Nat) ≠ c + 4 by omega) F5
  have F6 := At_ne (d := c + 4) (v := .pointer (some ⟨g6, f, none⟩)) (show (6 : Nat) ≠ c + 4 by omega) F6
  have F12 := At_ne (d := c + 4) (v := .pointer (some ⟨g6, f, none⟩)) (show (12 : Nat) ≠ c + 4 by omega) F12
  have Fc := At_ne (d := c + 4) (v := .pointer (some ⟨g6, f, none⟩)) (show (c : Nat) ≠ c + 4 by omega) Fc
  have K1 := At_ne (d := c + 4) (v := .pointer (some ⟨g6, f, none⟩)) (show (c + 1 : Nat) ≠ c + 4 by omega) K1
  have K2 := At_ne (d := c + 4) (v := .pointer (some ⟨g6, f, none⟩)) (show (c + 2 : Nat) ≠ c + 4 by omega) K2
  have K3 := At_ne (d := c + 4) (v := .pointer (some ⟨g6, f, none⟩)) (show (c + 3 : Nat) ≠ c + 4 by omega) K3
  have hs' := (put_size _ (c + 4) (.pointer (some ⟨g6, f, none⟩))).trans hs
  have hd' := (put_defers _ (some (c + 4)) (.pointer (some ⟨g6, f, none⟩))).trans hd
  have K4 := At_same (v := .pointer (some ⟨g6, f, none⟩)) (show c + 4 < _ by rw [hs]; omega)
  clear hs hd; have hs := hs'; have hd := hd'; clear hs' hd'
  refine vstep (o := _) (v := .int .i64 y) (want_true rfl hg Fc) (r_loadI _ _ _ _ _ _ _ g6 f y (eval_at K4) hy) ?_
  have F5 := At_ne (d := c + 5) (v := .int .i64 y) (show (5 : Nat) ≠ c + 5 by omega) F5
  have F6 := At_ne (d := c + 5) (v := .int .i64 y) (show (6 : Nat) ≠ c + 5 by omega) F6
  have F12 := At_ne (d := c + 5) (v := .int .i64 y) (show (12 : Nat) ≠ c + 5 by omega) F12
  have Fc := At_ne (d := c + 5) (v := .int .i64 y) (show (c : Nat) ≠ c + 5 by omega) Fc
  have K1 := At_ne (d := c + 5) (v := .int .i64 y) (show (c + 1 : Nat) ≠ c + 5 by omega) K1
  have K2 := At_ne (d := c + 5) (v := .int .i64 y) (show (c + 2 : Nat) ≠ c + 5 by omega) K2
  have K3 := At_ne (d := c + 5) (v := .int .i64 y) (show (c + 3 : Nat) ≠ c + 5 by omega) K3
  have K4 := At_ne (d := c + 5) (v := .int .i64 y) (show (c + 4 : Nat) ≠ c + 5 by omega) K4
  have hs' := (put_size _ (c + 5) (.int .i64 y)).trans hs
  have hd' := (put_defers _ (some (c + 5)) (.int .i64 y)).trans hd
  have K5 := At_same (v := .int .i64 y) (show c + 5 < _ by rw [hs]; omega)
  clear hs hd; have hs := hs'; have hd := hd'; clear hs' hd'
  refine vcall (f := 18) (args := #[.int .i64 x, .int .i64 y]) (want_true rfl hg Fc) (r_callT _ _ _ _ _ _ _ _ _ _ _ (eval_at K1) (eval_at K3) (eval_at K5)) ?_
  refine (pantrylaw04_ControlMore_1.calls x y true _ hxy).mono ?_
  rintro e w' ⟨rfl, ⟨nd, rfl⟩⟩
  refine ⟨_, rfl, ?_⟩
  have F5 := At_ne (d := c + 6) (v := .bool true) (show (5 : Nat) ≠ c + 6 by omega) F5
  have F6 := At_ne (d := c + 6) (v := .bool true) (show (6 : Nat) ≠ c + 6 by omega) F6
  have F12 := At_ne (d := c + 6) (v := .bool true) (show (12 : Nat) ≠ c + 6 by omega) F12
  have Fc := At_ne (d := c + 6) (v := .bool true) (show (c : Nat) ≠ c + 6 by omega) Fc
  have K1 := At_ne (d := c + 6) (v := .bool true) (show (c + 1 : Nat) ≠ c + 6 by omega) K1
  have K2 := At_ne (d := c + 6) (v := .bool true) (show (c + 2 : Nat) ≠ c + 6 by omega) K2
  have K3 := At_ne (d := c + 6) (v := .bool true) (show (c + 3 : Nat) ≠ c + 6 by omega) K3
  have K4 := At_ne (d := c + 6) (v := .bool true) (show (c + 4 : Nat) ≠ c + 6 by omega) K4
  have K5 := At_ne (d := c + 6) (v := .bool true) (show (c + 5 : Nat) ≠ c + 6 by omega) K5
  have hs' := (put_size _ (c + 6) (.bool true)).trans hs
  have hd' := (put_defers _ (some (c + 6)) (.bool true)).trans hd
  have K6 := At_same (v := .bool true) (show c + 6 < _ by rw [hs]; omega)
  clear hs hd; have hs := hs'; have hd := hd'; clear hs' hd'
  refine vstep (o := _) (v := .bool true) (want_none rfl) (r_pickT _ _ _ _ _ _ _ _ true _ (eval_at Fc) (eval_at K6) rfl) ?_
  have F5 := At_ne (d := c + 7) (v := .bool true) (show (5 : Nat) ≠ c + 7 by omega) F5
  have F6 := At_ne (d := c + 7) (v := .bool true) (show (6 : Nat) ≠ c + 7 by omega) F6
  have F12 := At_ne (d := c + 7) (v := .bool true) (show (12 : Nat) ≠ c + 7 by omega) F12
  have Fc := At_ne (d := c + 7) (v := .bool true) (show (c : Nat) ≠ c + 7 by omega) Fc
  have K1 := At_ne (d := c + 7) (v := .bool true) (show (c + 1 : Nat) ≠ c + 7 by omega) K1
  have K2 := At_ne (d := c + 7) (v := .bool true) (show (c + 2 : Nat) ≠ c + 7 by omega) K2
  have K3 := At_ne (d := c + 7) (v := .bool true) (show (c + 3 : Nat) ≠ c + 7 by omega) K3
  have K4 := At_ne (d := c + 7) (v := .bool true) (show (c + 4 : Nat) ≠ c + 7 by omega) K4
  have K5 := At_ne (d := c + 7) (v := .bool true) (show (c + 5 : Nat) ≠ c + 7 by omega) K5
  have K6 := At_ne (d := c + 7) (v := .bool true) (show (c + 6 : Nat) ≠ c + 7 by omega) K6
  have hs' := (put_size _ (c + 7) (.bool true)).trans hs
  have hd' := (put_defers _ (some (c + 7)) (.bool true)).trans hd
  have K7 := At_same (v := .bool true) (show c + 7 < _ by rw [hs]; omega)
  clear hs hd; have hs := hs'; have hd := hd'; clear hs' hd'
  refine vstep (o := _) (v := .bool true) (want_none rfl) (r_move _ _ _ _ _ _ _ _ _ (eval_at K7)) ?_
  have F5 := At_ne (d := c + 8) (v := .bool true) (show (5 : Nat) ≠ c + 8 by omega) F5
  have F6 := At_ne (d := c + 8) (v := .bool true) (show (6 : Nat) ≠ c + 8 by omega) F6
  have F12 := At_ne (d := c + 8) (v := .bool true) (show (12 : Nat) ≠ c + 8 by omega) F12
  have Fc := At_ne (d := c + 8) (v := .bool true) (show (c : Nat) ≠ c + 8 by omega) Fc
  have K1 := At_ne (d := c + 8) (v := .bool true) (show (c + 1 : Nat) ≠ c + 8 by omega) K1
  have K2 := At_ne (d := c + 8) (v := .bool true) (show (c + 2 : Nat) ≠ c + 8 by omega) K2
  have K3 := At_ne (d := c + 8) (v := .bool true) (show (c + 3 : Nat) ≠ c + 8 by omega) K3
  have K4 := At_ne (d := c + 8) (v := .bool true) (show (c + 4 : Nat) ≠ c + 8 by omega) K4
  have K5 := At_ne (d := c + 8) (v := .bool true) (show (c + 5 : Nat) ≠ c + 8 by omega) K5
  have K6 := At_ne (d := c + 8) (v := .bool true) (show (c + 6 : Nat) ≠ c + 8 by omega) K6
  have K7 := At_ne (d := c + 8) (v := .bool true) (show (c + 7 : Nat) ≠ c + 8 by omega) K7
  have hs' := (put_size _ (c + 8) (.bool true)).trans hs
  have hd' := (put_defers _ (some (c + 8)) (.bool true)).trans hd
  have K8 := At_same (v := .bool true) (show c + 8 < _ by rw [hs]; omega)
  clear hs hd; have hs := hs'; have hd := hd'; clear hs' hd'
  exact next _ _ ⟨hs, hd, F5, F6, F12, K8⟩
theorem blockE {ops : Array Oper} {Q : Exit → Act → World → Prop} {a : Act} {w : World} {g5 g6 : Nat}  {c f gi : Nat} {x y : Int} {p0 p1 p2 p3 p4 p5 p6 : String} {e0 e1 e2 e3 e4 e5 e6 : Array Edge} (hc : 12 < c) (hcs : c + 6 < 143) (hf : f < 10) (F : Fr a g5 g6 c) (hg : (ops[gi]?).bind (·.dst) = some c)
    (hx : w.cell? ⟨g5, f, none⟩ = some (.int .i64 x)) (hy : w.cell? ⟨g6, f, none⟩ = some (.int .i64 y)) (hxy : decide (x ≤ y) = true) (next : ∀ a', a'.defers = [] → a'.tmps[4]? = some (.bool true) → Q .normal a' w) :
    wpList Tryd.prog ops Q ({ dst := some (c + 1), op := .fieldAddr 29 (.tmp 6) f, type := 0, pos := p0, after := e0, guard := some (gi, true) } :: { dst := some (c + 2), op := .load 3 (.tmp (c + 1)), type := 3, pos := p1, after := e1, guard := some (gi, true) } :: { dst := some (c + 3), op := .fieldAddr 29 (.tmp 5) f, type := 0, pos := p2, after := e2, guard := some (gi, true) } :: { dst := some (c + 4), op := .load 3 (.tmp (c + 3)), type := 3, pos := p3, after := e3, guard := some (gi, true) } :: { dst := some (c + 5), op := .binOp .geq 3 (.tmp (c + 2)) (.tmp (c + 4)) 3, type := 4, pos := p4, after := e4, guard := some (gi, true) } :: { dst := some (c + 6), op := .pick (.tmp c) (.tmp (c + 5)) (.const (.bool false)), type := 4, pos := p5, after := e5, guard := none } :: { dst := some 4, op := .assign (.tmp (c + 6)), type := 4, pos := p6, after := e6, guard := none } :: []) a w := by
  obtain ⟨hs, hd, F5, F6, F12, Fc⟩ := F
  refine vstep (o := _) (v := .pointer (some ⟨g6, f, none⟩)) (want_true rfl hg Fc) (r_fa _ _ _ _ _ _ 6 g6 f hf (eval_at F6)) ?_
  have F5 := At_ne (d := c + 1) (v := .pointer (some ⟨g6, f, none⟩)) (show (5 : Nat) ≠ c + 1 by omega) F5
  have F6 := At_ne (d := c + 1) (v := .pointer (some ⟨g6, f, none⟩)) (show (6 : Nat) ≠ c + 1 by omega) F6
  have F12 := At_ne (d := c + 1) (v := .pointer (some ⟨g6, f, none⟩)) (show (12 : Nat) ≠ c + 1 by omega) F12
  have Fc := At_ne (d := c + 1) (v := .pointer (some ⟨g6, f, none⟩)) (show (c : Nat) ≠ c + 1 by omega) Fc
  have hs' := (put_size _ (c + 1) (.pointer (some ⟨g6, f, none⟩))).trans hs
  have hd' := (put_defers _ (some (c + 1)) (.pointer (some ⟨g6, f, none⟩))).trans hd
  have K1 := At_same (v := .pointer (some ⟨g6, f, none⟩)) (show c + 1 < _ by rw [hs]; omega)
  clear hs hd; have hs := hs'; have hd := hd'; clear hs' hd'
  refine vstep (o := _) (v := .int .i64 y) (want_true rfl hg Fc) (r_loadI _ _ _ _ _ _ _ g6 f y (eval_at K1) hy) ?_
  have F5 := At_ne (d := c + 2) (v := .int .i64 y) (show (5 : Nat) ≠ c + 2 by omega) F5
  have F6 := At_ne (d := c + 2) (v := .int .i64 y) (show (6 : Nat) ≠ c + 2 by omega) F6
  have F12 := At_ne (d := c + 2) (v := .int .i64 y) (show (12 : Nat) ≠ c + 2 by omega) F12
  have Fc := At_ne (d := c + 2) (v := .int .i64 y) (show (c : Nat) ≠ c + 2 by omega) Fc
  have K1 := At_ne (d := c + 2) (v := .int .i64 y) (show (c + 1 : Nat) ≠ c + 2 by omega) K1
  have hs' := (put_size _ (c + 2) (.int .i64 y)).trans hs
  have hd' := (put_defers _ (some (c + 2)) (.int .i64 y)).trans hd
  have K2 := At_same (v := .int .i64 y) (show c + 2 < _ by rw [hs]; omega)
  clear hs hd; have hs := hs'; have hd := hd'; clear hs' hd'
  refine vstep (o := _) (v := .pointer (some ⟨g5, f, none⟩)) (want_true rfl hg Fc) (r_fa _ _ _ _ _ _ 5 g5 f hf (eval_at F5)) ?_
  have F5 := At_ne (d := c + 3) (v := .pointer (some ⟨g5, f, none⟩)) (show (5 : Nat) ≠ c + 3 by omega) F5
  have F6 := At_ne (d := c + 3) (v := .pointer (some ⟨g5, f, none⟩)) (show (6 : Nat) ≠ c + 3 by omega) F6
  have F12 := At_ne (d := c + 3) (v := .pointer (some ⟨g5, f, none⟩)) (show (12 : Nat) ≠ c + 3 by omega) F12
  have Fc := At_ne (d := c + 3) (v := .pointer (some ⟨g5, f, none⟩)) (show (c : Nat) ≠ c + 3 by omega) Fc
  have K1 := At_ne (d := c + 3) (v := .pointer (some ⟨g5, f, none⟩)) (show (c + 1 : Nat) ≠ c + 3 by omega) K1
  have K2 := At_ne (d := c + 3) (v := .pointer (some ⟨g5, f, none⟩)) (show (c + 2 : Nat) ≠ c + 3 by omega) K2
  have hs' := (put_size _ (c + 3) (.pointer (some ⟨g5, f, none⟩))).trans hs
  have hd' := (put_defers _ (some (c + 3)) (.pointer (some ⟨g5, f, none⟩))).trans hd
  have K3 := At_same (v := .pointer (some ⟨g5, f, none⟩)) (show c + 3 < _ by rw [hs]; omega)
  clear hs hd; have hs := hs'; have hd := hd'; clear hs' hd'
  refine vstep (o := _) (v := .int .i64 x) (want_true rfl hg Fc) (r_loadI _ _ _ _ _ _ _ g5 f x (eval_at K3) hx) ?_
  have F5 := At_ne (d := c + 4) (v := .int .i64 x) (show (5 : Nat) ≠ c + 4 by omega) F5
  have F6 := At_ne (d := c + 4) (v := .int .i64 x) (show (6 : Nat) ≠ c + 4 by omega) F6
  have F12 := At_ne (d := c + 4) (v := .int .i64 x) (show (12 : Nat) ≠ c + 4 by omega) F12
  have Fc := At_ne (d := c + 4) (v := .int .i64 x) (show (c : Nat) ≠ c + 4 by omega) Fc
  have K1 := At_ne (d := c + 4) (v := .int .i64 x) (show (c + 1 : Nat) ≠ c + 4 by omega) K1
  have K2 := At_ne (d := c + 4) (v := .int .i64 x) (show (c + 2 : Nat) ≠ c + 4 by omega) K2
  have K3 := At_ne (d := c + 4) (v := .int .i64 x) (show (c + 3 : Nat) ≠ c + 4 by omega) K3
  have hs' := (put_size _ (c + 4) (.int .i64 x)).trans hs
  have hd' := (put_defers _ (some (c + 4)) (.int .i64 x)).trans hd
  have K4 := At_same (v := .int .i64 x) (show c + 4 < _ by rw [hs]; omega)
  clear hs hd; have hs := hs'; have hd := hd'; clear hs' hd'
  refine vstep (o := _) (v := .bool true) (want_true rfl hg Fc) ((r_geq _ _ _ _ _ _ _ _ y x (eval_at K2) (eval_at K4)).trans (by rw [hxy])) ?_
  have F5 := At_ne (d := c + 5) (v := .bool true) (show (5 : Nat) ≠ c + 5 by omega) F5
  have F6 := At_ne (d := c + 5) (v := .bool true) (show (6 : Nat) ≠ c + 5 by omega) F6
  have F12 := At_ne (d := c + 5) (v := .bool true) (show (12 : Nat) ≠ c + 5 by omega) F12
  have Fc := At_ne (d := c + 5) (v := .bool true) (show (c : Nat) ≠ c + 5 by omega) Fc
  have K1 := At_ne (d := c + 5) (v := .bool true) (show (c + 1 : Nat) ≠ c + 5 by omega) K1
  have K2 := At_ne (d := c + 5) (v := .bool true) (show (c + 2 : Nat) ≠ c + 5 by omega) K2
  have K3 := At_ne (d := c + 5) (v := .bool true) (show (c + 3 : Nat) ≠ c + 5 by omega) K3
  have K4 := At_ne (d := c + 5) (v := .bool true) (show (c + 4 : Nat) ≠ c + 5 by omega) K4
  have hs' := (put_size _ (c + 5) (.bool true)).trans hs
  have hd' := (put_defers _ (some (c + 5)) (.bool true)).trans hd
  have K5 := At_same (v := .bool true) (show c + 5 < _ by rw [hs]; omega)
  clear hs hd; have hs := hs'; have hd := hd'; clear hs' hd'
  refine vstep (o := _) (v := .bool true) (want_none rfl) (r_pickT _ _ _ _ _ _ _ _ true _ (eval_at Fc) (eval_at K5) rfl) ?_
  have F5 := At_ne (d := c + 6) (v := .bool true) (show (5 : Nat) ≠ c + 6 by omega) F5
  have F6 := At_ne (d := c + 6) (v := .bool true) (show (6 : Nat) ≠ c + 6 by omega) F6
  have F12 := At_ne (d := c + 6) (v := .bool true) (show (12 : Nat) ≠ c + 6 by omega) F12
  have Fc := At_ne (d := c + 6) (v := .bool true) (show (c : Nat) ≠ c + 6 by omega) Fc
  have K1 := At_ne (d := c + 6) (v := .bool true) (show (c + 1 : Nat) ≠ c + 6 by omega) K1
  have K2 := At_ne (d := c + 6) (v := .bool true) (show (c + 2 : Nat) ≠ c + 6 by omega) K2
  have K3 := At_ne (d := c + 6) (v := .bool true) (show (c + 3 : Nat) ≠ c + 6 by omega) K3
  have K4 := At_ne (d := c + 6) (v := .bool true) (show (c + 4 : Nat) ≠ c + 6 by omega) K4
  have K5 := At_ne (d := c + 6) (v := .bool true) (show (c + 5 : Nat) ≠ c + 6 by omega) K5
  have hs' := (put_size _ (c + 6) (.bool true)).trans hs
  have hd' := (put_defers _ (some (c + 6)) (.bool true)).trans hd
  have K6 := At_same (v := .bool true) (show c + 6 < _ by rw [hs]; omega)
  clear hs hd; have hs := hs'; have hd := hd'; clear hs' hd'
  refine vstep (o := _) (v := .bool true) (want_none rfl) (r_ass _ _ _ _ _ _ _ _ _ (eval_at K6)) ?_
  have hd' := (put_defers _ (some 4) (.bool true)).trans hd
  have R4 := At_same (d := 4) (v := .bool true) (show 4 < _ by rw [hs]; omega)
  exact next _ hd' R4
mutual
def pantrylaw04_ControlMore.j0 : Nat → List (S40) → ByteArray → Bool → Option (Bool)
  | 0, _, _, _ => none
  | k + 1, x0, x1, x22 => if x22 = true then (some true) else ((control_Of.f k x0).bind fun bt170 => ((some (([] : List (S40)) : List (S40))).bind fun y181 => (if y181.length + x0.length < 4398046511104 then ((some (y181 ++ x0 : List (S40))).bind fun y184 => (if y184.length < 4398046511104 then ((control_Of.f k (y184 ++ [(⟨(⟨#[67, 97, 99, 104, 101, 45, 67, 111, 110, 116, 114, 111, 108]⟩ : ByteArray), x1⟩ : S40)])).bind fun bt190 => (pantrylaw04_ControlMore.l0 k x0 x0 (x0.length : Int) 0 bt170.1 bt170.2.1 bt170.2.2.1 bt170.2.2.2.1 bt170.2.2.2.2.1 bt170.2.2.2.2.2.1 bt170.2.2.2.2.2.2.1 bt170.2.2.2.2.2.2.2.1 bt170.2.2.2.2.2.2.2.2.1 bt170.2.2.2.2.2.2.2.2.2 bt190.1 bt190.2.1 bt190.2.2.1 bt190.2.2.2.1 bt190.2.2.2.2.1 bt190.2.2.2.2.2.1 bt190.2.2.2.2.2.2.1 bt190.2.2.2.2.2.2.2.1 bt190.2.2.2.2.2.2.2.2.1 bt190.2.2.2.2.2.2.2.2.2)) else (none))) else (none))))
def pantrylaw04_ControlMore.l0 : Nat → List (S40) → List (S40) → Int → Int → Bool → Bool → Bool → Bool → Bool → Bool → Int → Int → Int → Int → Bool → Bool → Bool → Bool → Bool → Bool → Int → Int → Int → Int → Option (Bool)
  | 0, _, _, _, _, _, _, _, _, _, _, _, _, _, _, _, _, _, _, _, _, _, _, _, _ => none
  | k + 1, x0, x33, x34, x35, x181000, x181001, x181002, x181003, x181004, x181005, x181006, x181007, x181008, x181009, x201000, x201001, x201002, x201003, x201004, x201005, x201006, x201007, x201008, x201009 => if x35 < x34 then (if 0 ≤ x35 then (if x35 < (x33.length : Int) then (pantrylaw04_ControlMore.l1 k x0 x33 x34 x35 (((rd_T40 x33 x35).f1).size : Int) 0 x181000 x181001 x181002 x181003 x181004 x181005 x181006 x181007 x181008 x181009 x201000 x201001 x201002 x201003 x201004 x201005 x201006 x201007 x201008 x201009 ((rd_T40 x33 x35).f0) ((rd_T40 x33 x35).f1)) else (none)) else (none)) else ((field_List_Get.f k x0 (⟨#[67, 97, 99, 104, 101, 45, 67, 111, 110, 116, 114, 111, 108]⟩ : ByteArray)).bind fun bt203 => (if bt203.2 = true then (if moreOk x181000 x181001 x181002 x181003 x181004 x181005 x181006 x181007 x181008 x181009 x201000 x201001 x201002 x201003 x201004 x201005 x201006 x201007 x201008 x201009 = true then some true else none) else (if moreOk x181000 false x181002 x181003 x181004 x181005 x181006 x181007 x181008 x181009 x201000 x201001 x201002 x201003 x201004 x201005 x201006 x201007 x201008 x201009 = true then some true else none)))
def pantrylaw04_ControlMore.l1 : Nat → List (S40) → List (S40) → Int → Int → Int → Int → Bool → Bool → Bool → Bool → Bool → Bool → Int → Int → Int → Int → Bool → Bool → Bool → Bool → Bool → Bool → Int → Int → Int → Int → ByteArray → ByteArray → Option (Bool)
  | 0, _, _, _, _, _, _, _, _, _, _, _, _, _, _, _, _, _, _, _, _, _, _, _, _, _, _, _, _ => none
  | k + 1, x0, x33, x34, x35, x41, x42, x181000, x181001, x181002, x181003, x181004, x181005, x181006, x181007, x181008, x181009, x201000, x201001, x201002, x201003, x201004, x201005, x201006, x201007, x201008, x201009, x203000, x203001 => if x42 < x41 then (if 0 ≤ x42 then (if x42 < (x203001.size : Int) then (if (bt x203001 x42) = 34 then (some true) else (pantrylaw04_ControlMore.l1 k x0 x33 x34 x35 x41 (wrap64 (x42 + 1)) x181000 x181001 x181002 x181003 x181004 x181005 x181006 x181007 x181008 x181009 x201000 x201001 x201002 x201003 x201004 x201005 x201006 x201007 x201008 x201009 x203000 x203001)) else (none)) else (none)) else (pantrylaw04_ControlMore.l0 k x0 x33 x34 (wrap64 (x35 + 1)) x181000 x181001 x181002 x181003 x181004 x181005 x181006 x181007 x181008 x181009 x201000 x201001 x201002 x201003 x201004 x201005 x201006 x201007 x201008 x201009)
end
def pantrylaw04_ControlMore.f (k : Nat) (l0 : List (S40)) (a1 : ByteArray) : Option (Bool) := (pantrylaw04_anchor.f k).bind fun t168 => (if t168 = true then ((pantrylaw04_small.f k l0).bind fun t169 => (if t169 = true then (pantrylaw04_ControlMore.j0 k l0 a1 (decide ((a1.size : Int) > 200))) else (pantrylaw04_ControlMore.j0 k l0 a1 true))) else (none))
theorem pantrylaw04_ControlMore.mono_l : ∀ k, (∀ y0 y1 y2, LeO (pantrylaw04_ControlMore.j0 k y0 y1 y2) (pantrylaw04_ControlMore.j0 (k + 1) y0 y1 y2)) ∧ (∀ y0 y1 y2 y3 y4 y5 y6 y7 y8 y9 y10 y11 y12 y13 y14 y15 y16 y17 y18 y19 y20 y21 y22 y23, LeO (pantrylaw04_ControlMore.l0 k y0 y1 y2 y3 y4 y5 y6 y7 y8 y9 y10 y11 y12 y13 y14 y15 y16 y17 y18 y19 y20 y21 y22 y23) (pantrylaw04_ControlMore.l0 (k + 1) y0 y1 y2 y3 y4 y5 y6 y7 y8 y9 y10 y11 y12 y13 y14 y15 y16 y17 y18 y19 y20 y21 y22 y23)) ∧ (∀ y0 y1 y2 y3 y4 y5 y6 y7 y8 y9 y10 y11 y12 y13 y14 y15 y16 y17 y18 y19 y20 y21 y22 y23 y24 y25 y26 y27, LeO (pantrylaw04_ControlMore.l1 k y0 y1 y2 y3 y4 y5 y6 y7 y8 y9 y10 y11 y12 y13 y14 y15 y16 y17 y18 y19 y20 y21 y22 y23 y24 y25 y26 y27) (pantrylaw04_ControlMore.l1 (k + 1) y0 y1 y2 y3 y4 y5 y6 y7 y8 y9 y10 y11 y12 y13 y14 y15 y16 y17 y18 y19 y20 y21 y22 y23 y24 y25 y26 y27))
  | 0 => ⟨fun _ _ _ r h => by simp [pantrylaw04_ControlMore.j0] at h, fun _ _ _ _ _ _ _ _ _ _ _ _ _ _ _ _ _ _ _ _ _ _ _ _ r h => by simp [pantrylaw04_ControlMore.l0] at h, fun _ _ _ _ _ _ _ _ _ _ _ _ _ _ _ _ _ _ _ _ _ _ _ _ _ _ _ _ r h => by simp [pantrylaw04_ControlMore.l1] at h⟩
  | k + 1 => by
    obtain ⟨ih0, ih1, ih2⟩ := pantrylaw04_ControlMore.mono_l k
    refine ⟨?_, ?_, ?_⟩
    · intro y0 y1 y2
      unfold pantrylaw04_ControlMore.j0
      repeat' first
      | (with_reducible exact ih0 _ _ _)
      | (with_reducible exact ih1 _ _ _ _ _ _ _ _ _ _ _ _ _ _ _ _ _ _ _ _ _ _ _ _)
      | (with_reducible exact ih2 _ _ _ _ _ _ _ _ _ _ _ _ _ _ _ _ _ _ _ _ _ _ _ _ _ _ _ _)
      | (with_reducible exact control_Of.mono _ _)
      | (with_reducible exact field_List_Get.mono _ _ _)
      | (with_reducible exact pantrylaw04_anchor.mono _)
      | (with_reducible exact pantrylaw04_small.mono _ _)
      | (with_reducible exact LeO.refl _)
      | (with_reducible exact LeO.none _)
      | (with_reducible refine LeO.ite ?_ ?_)
      | (with_reducible refine LeO.bind ?_ (fun _ => ?_))
      | exact ih0 _ _ _
      | exact ih1 _ _ _ _ _ _ _ _ _ _ _ _ _ _ _ _ _ _ _ _ _ _ _ _
      | exact ih2 _ _ _ _ _ _ _ _ _ _ _ _ _ _ _ _ _ _ _ _ _ _ _ _ _ _ _ _
      | exact control_Of.mono _ _
      | exact field_List_Get.mono _ _ _
      | exact pantrylaw04_anchor.mono _
      | exact pantrylaw04_small.mono _ _
      | exact LeO.none _
      | refine LeO.ite ?_ ?_
      | refine LeO.bind ?_ (fun _ => ?_)
    · intro y0 y1 y2 y3 y4 y5 y6 y7 y8 y9 y10 y11 y12 y13 y14 y15 y16 y17 y18 y19 y20 y21 y22 y23
      unfold pantrylaw04_ControlMore.l0
      repeat' first
      | (with_reducible exact ih0 _ _ _)
      | (with_reducible exact ih1 _ _ _ _ _ _ _ _ _ _ _ _ _ _ _ _ _ _ _ _ _ _ _ _)
      | (with_reducible exact ih2 _ _ _ _ _ _ _ _ _ _ _ _ _ _ _ _ _ _ _ _ _ _ _ _ _ _ _ _)
      | (with_reducible exact control_Of.mono _ _)
      | (with_reducible exact field_List_Get.mono _ _ _)
      | (with_reducible exact pantrylaw04_anchor.mono _)
      | (with_reducible exact pantrylaw04_small.mono _ _)
      | (with_reducible exact LeO.refl _)
      | (with_reducible exact LeO.none _)
      | (with_reducible refine LeO.ite ?_ ?_)
      | (with_reducible refine LeO.bind ?_ (fun _ => ?_))
      | exact ih0 _ _ _
      | exact ih1 _ _ _ _ _ _ _ _ _ _ _ _ _ _ _ _ _ _ _ _ _ _ _ _
      | exact ih2 _ _ _ _ _ _ _ _ _ _ _ _ _ _ _ _ _ _ _ _ _ _ _ _ _ _ _ _
      | exact control_Of.mono _ _
      | exact field_List_Get.mono _ _ _
      | exact pantrylaw04_anchor.mono _
      | exact pantrylaw04_small.mono _ _
      | exact LeO.none _
      | refine LeO.ite ?_ ?_
      | refine LeO.bind ?_ (fun _ => ?_)
    · intro y0 y1 y2 y3 y4 y5 y6 y7 y8 y9 y10 y11 y12 y13 y14 y15 y16 y17 y18 y19 y20 y21 y22 y23 y24 y25 y26 y27
      unfold pantrylaw04_ControlMore.l1
      repeat' first
      | (with_reducible exact ih0 _ _ _)
      | (with_reducible exact ih1 _ _ _ _ _ _ _ _ _ _ _ _ _ _ _ _ _ _ _ _ _ _ _ _)
      | (with_reducible exact ih2 _ _ _ _ _ _ _ _ _ _ _ _ _ _ _ _ _ _ _ _ _ _ _ _ _ _ _ _)
      | (with_reducible exact control_Of.mono _ _)
      | (with_reducible exact field_List_Get.mono _ _ _)
      | (with_reducible exact pantrylaw04_anchor.mono _)
      | (with_reducible exact pantrylaw04_small.mono _ _)
      | (with_reducible exact LeO.refl _)
      | (with_reducible exact LeO.none _)
      | (with_reducible refine LeO.ite ?_ ?_)
      | (with_reducible refine LeO.bind ?_ (fun _ => ?_))
      | exact ih0 _ _ _
      | exact ih1 _ _ _ _ _ _ _ _ _ _ _ _ _ _ _ _ _ _ _ _ _ _ _ _
      | exact ih2 _ _ _ _ _ _ _ _ _ _ _ _ _ _ _ _ _ _ _ _ _ _ _ _ _ _ _ _
      | exact control_Of.mono _ _
      | exact field_List_Get.mono _ _ _
      | exact pantrylaw04_anchor.mono _
      | exact pantrylaw04_small.mono _ _
      | exact LeO.none _
      | refine LeO.ite ?_ ?_
      | refine LeO.bind ?_ (fun _ => ?_)
theorem pantrylaw04_ControlMore.mono : ∀ a0 a1 k, LeO (pantrylaw04_ControlMore.f k a0 a1) (pantrylaw04_ControlMore.f (k + 1) a0 a1) := by
  intro a0 a1 k
  obtain ⟨ih0, ih1, ih2⟩ := pantrylaw04_ControlMore.mono_l k
  unfold pantrylaw04_ControlMore.f
  repeat' first
      | (with_reducible exact ih0 _ _ _)
      | (with_reducible exact ih1 _ _ _ _ _ _ _ _ _ _ _ _ _ _ _ _ _ _ _ _ _ _ _ _)
      | (with_reducible exact ih2 _ _ _ _ _ _ _ _ _ _ _ _ _ _ _ _ _ _ _ _ _ _ _ _ _ _ _ _)
      | (with_reducible exact control_Of.mono _ _)
      | (with_reducible exact field_List_Get.mono _ _ _)
      | (with_reducible exact pantrylaw04_anchor.mono _)
      | (with_reducible exact pantrylaw04_small.mono _ _)
      | (with_reducible exact LeO.refl _)
      | (with_reducible exact LeO.none _)
      | (with_reducible refine LeO.ite ?_ ?_)
      | (with_reducible refine LeO.bind ?_ (fun _ => ?_))
      | exact ih0 _ _ _
      | exact ih1 _ _ _ _ _ _ _ _ _ _ _ _ _ _ _ _ _ _ _ _ _ _ _ _
      | exact ih2 _ _ _ _ _ _ _ _ _ _ _ _ _ _ _ _ _ _ _ _ _ _ _ _ _ _ _ _
      | exact control_Of.mono _ _
      | exact field_List_Get.mono _ _ _
      | exact pantrylaw04_anchor.mono _
      | exact pantrylaw04_small.mono _ _
      | exact LeO.none _
      | refine LeO.ite ?_ ?_
      | refine LeO.bind ?_ (fun _ => ?_)
set_option maxHeartbeats 60000000 in
set_option maxRecDepth 100000 in
theorem pantrylaw04_ControlMore.calls (k : Nat) (A0 : Option Addr) (c0 : Nat) (l0 : List (S40)) (a1 : ByteArray) (r : Bool) (w : World) (hr0 : Kd.C k40 w A0 l0.length l0) (hc0 : l0.length ≤ c0) (h : pantrylaw04_ControlMore.f k l0 a1 = some r) :
    Calls Tryd.prog 5 #[.slice A0 l0.length c0, .string a1] w fun e w' => e = .returned (.bool r) ∧ Below w.heap.size w w' := by
  have hu29 := Tryd.underlying29
  have hu40 := Tryd.underlying40
  have HR0 := Aside0.mk hr0
  have HC0 := Aside0.mk hc0
  clear hr0 hc0
  have HB := Aside0.mk (Below.refl w.heap.size w)
  have H : ((pantrylaw04_anchor.f k).bind fun t168 => (if t168 = true then ((pantrylaw04_small.f k l0).bind fun t169 => (if t169 = true then (pantrylaw04_ControlMore.j0 k l0 a1 (decide ((a1.size : Int) > 200))) else (pantrylaw04_ControlMore.j0 k l0 a1 true))) else (none))) = some r := h
  clear h
  replace H := Option.bind_eq_some_iff.mp H
  obtain ⟨t168, A30, H⟩ := H
  replace H : (if t168 = true then ((pantrylaw04_small.f k l0).bind fun t169 => (if t169 = true then (pantrylaw04_ControlMore.j0 k l0 a1 (decide ((a1.size : Int) > 200))) else (pantrylaw04_ControlMore.j0 k l0 a1 true))) else (none)) = some r := H
  have A3 := Aside0.mk A30
  clear A30
  by_cases c4 : t168 = true
  · subst c4
    have H1 : ((pantrylaw04_small.f k l0).bind fun t169 => (if t169 = true then (pantrylaw04_ControlMore.j0 k l0 a1 (decide ((a1.size : Int) > 200))) else (pantrylaw04_ControlMore.j0 k l0 a1 true))) = some r := by rw [if_pos rfl] at H; exact H
    clear H
    have H := H1
    clear H1
    have HC5 := Aside0.mk H
    clear H
    go_enter Tryd.func5, Tryd.ntmps5
    go_upto_region 3 with (first | ((with_reducible refine gate_callee (f := 9) rfl ?_); refine goesL_ (some 13) rfl rfl Tryd.func9 (by kernel_rfl) rfl #[] rfl (by (try simp only [List.map_toArray, List.map_cons, List.map_nil]); first | done | rfl | (simp only [List.length_drop, List.length_take]; rfl)) ?_; (with_reducible refine (pantrylaw04_anchor.calls k  true _ A3.out).mono ?_); rintro e w6 ⟨rfl, hb⟩; refine ⟨_, rfl, ?_⟩; have n0_ := Aside0.mk (below_step (by repeat (first | (with_reducible first | exact HB.out | apply below_alloc | apply pw_below_drewN | apply below_drew1) | exact HB.out)) hb); clear HB; have HB := n0_; clear n0_; (try clear hb); (try clear hb2); (try clear hk); (try clear hi)))
    (try simp only [Act.put, List.setIfInBounds_toArray, List.set_cons_zero, List.set_cons_succ])
    go_cut [22] (fun v22 wc => ∃ (kq : Nat) (x22_4 : Bool), v22 = .bool x22_4 ∧ Aside0 (pantrylaw04_ControlMore.j0 kq l0 a1 x22_4 = some r) ∧ Aside0 (kq ≤ k) ∧ Aside0 (Below w.heap.size w wc))
    case first =>
      have H := HC5.out
      clear HC5
      replace H := Option.bind_eq_some_iff.mp H
      obtain ⟨t169, A70, H⟩ := H
      replace H : (if t169 = true then (pantrylaw04_ControlMore.j0 k l0 a1 (decide ((a1.size : Int) > 200))) else (pantrylaw04_ControlMore.j0 k l0 a1 true)) = some r := H
      have A7 := Aside0.mk A70
      clear A70
      by_cases c8 : t169 = true
      · subst c8
        have H1 : (pantrylaw04_ControlMore.j0 k l0 a1 (decide ((a1.size : Int) > 200))) = some r := by rw [if_pos rfl] at H; exact H
        clear H
        have H := H1
        clear H1
        have H' := Aside0.mk H
        clear H
        go_wp2_with (first | ((with_reducible refine gate_callee (f := 10) rfl ?_); refine goesL_ (some 16) rfl rfl Tryd.func10 (by kernel_rfl) rfl #[.slice A0 l0.length c0] rfl (by (try simp only [List.map_toArray, List.map_cons, List.map_nil]); first | done | rfl | (simp only [List.length_drop, List.length_take]; rfl)) ?_; (with_reducible refine (pantrylaw04_small.calls k _ _ l0 true _ ?side1 ?side2 A7.out).mono ?_); (case side1 => repeat (first | exact (Kd.C_below HR0.out HB.out) | (with_reducible refine Kd.C_alloc ?_ _) | (with_reducible refine Kd.C_drewN ?_ _) | (with_reducible refine Kd.C_drew ?_))); (case side2 => exact HC0.out); rintro e w9 ⟨rfl, hb⟩; refine ⟨_, rfl, ?_⟩; have n0_ := Aside0.mk (below_step (by repeat (first | (with_reducible first | exact HB.out | apply below_alloc | apply pw_below_drewN | apply below_drew1) | exact HB.out)) hb); clear HB; have HB := n0_; clear n0_; (try clear hb); (try clear hb2); (try clear hk); (try clear hi)))
        go_meet
        case rel => exact ⟨_, (decide ((a1.size : Int) > 200)), (by first | rfl | (simp; done) | (simp [*]; done)), H', ⟨by first | omega | exact Nat.le_refl _⟩, ⟨by repeat (first | (with_reducible first | exact HB.out | apply below_alloc | apply pw_below_drewN | apply below_drew1) | exact HB.out)⟩⟩
      · replace c8 := Bool.eq_false_iff.mpr c8
        subst c8
        have H1 : (pantrylaw04_ControlMore.j0 k l0 a1 true) = some r := by rw [if_neg (show ¬ (false = true) by decide)] at H; exact H
        clear H
        have H := H1
        clear H1
        have H' := Aside0.mk H
        clear H
        go_wp2_with (first | ((with_reducible refine gate_callee (f := 10) rfl ?_); refine goesL_ (some 16) rfl rfl Tryd.func10 (by kernel_rfl) rfl #[.slice A0 l0.length c0] rfl (by (try simp only [List.map_toArray, List.map_cons, List.map_nil]); first | done | rfl | (simp only [List.length_drop, List.length_take]; rfl)) ?_; (with_reducible refine (pantrylaw04_small.calls k _ _ l0 false _ ?side1 ?side2 A7.out).mono ?_); (case side1 => repeat (first | exact (Kd.C_below HR0.out HB.out) | (with_reducible refine Kd.C_alloc ?_ _) | (with_reducible refine Kd.C_drewN ?_ _) | (with_reducible refine Kd.C_drew ?_))); (case side2 => exact HC0.out); rintro e w10 ⟨rfl, hb⟩; refine ⟨_, rfl, ?_⟩; have n0_ := Aside0.mk (below_step (by repeat (first | (with_reducible first | exact HB.out | apply below_alloc | apply pw_below_drewN | apply below_drew1) | exact HB.out)) hb); clear HB; have HB := n0_; clear n0_; (try clear hb); (try clear hb2); (try clear hk); (try clear hi)))
        go_meet
        case rel => exact ⟨_, (true), (by first | rfl | (simp; done) | (simp [*]; done)), H', ⟨by first | omega | exact Nat.le_refl _⟩, ⟨by repeat (first | (with_reducible first | exact HB.out | apply below_alloc | apply pw_below_drewN | apply below_drew1) | exact HB.out)⟩⟩
    case rest =>
      clear HC5
      try clear c1
      try clear p2
      try clear c4
      try clear c5
      try clear c8
      try clear c9
      try clear c10
      obtain ⟨kq, x22_4, rfl, HA, HJ4, HB⟩ := hcut
      cases kq with
      | zero => exact absurd HA.out (by simp [pantrylaw04_ControlMore.j0])
      | succ kj4 =>
        have H := HA.out
        clear HA
        simp only [pantrylaw04_ControlMore.j0] at H
        by_cases c11 : x22_4 = true
        · subst c11
          have H1 : (some true) = some r := by rw [if_pos rfl] at H; exact H
          clear H
          have H := H1
          clear H1
          obtain rfl := Option.some.inj H
          go_wp2
          go_ret
          exact ⟨by first | rfl | (generalize ByteArray.toList _ = l_; cases l_ <;> rfl) | (simp [errW_none, errW_some] <;> rfl) | (simp [*, errW_none, errW_some] <;> rfl), by repeat (first | (with_reducible first | exact HB.out | apply below_alloc | apply pw_below_drewN | apply below_drew1) | exact HB.out)⟩
        · replace c11 := Bool.eq_false_iff.mpr c11
          subst c11
          have H1 : ((control_Of.f kj4 l0).bind fun bt170 => ((some (([] : List (S40)) : List (S40))).bind fun y181 => (if y181.length + l0.length < 4398046511104 then ((some (y181 ++ l0 : List (S40))).bind fun y184 => (if y184.length < 4398046511104 then ((control_Of.f kj4 (y184 ++ [(⟨(⟨#[67, 97, 99, 104, 101, 45, 67, 111, 110, 116, 114, 111, 108]⟩ : ByteArray), a1⟩ : S40)])).bind fun bt190 => (pantrylaw04_ControlMore.l0 kj4 l0 l0 (l0.length : Int) 0 bt170.1 bt170.2.1 bt170.2.2.1 bt170.2.2.2.1 bt170.2.2.2.2.1 bt170.2.2.2.2.2.1 bt170.2.2.2.2.2.2.1 bt170.2.2.2.2.2.2.2.1 bt170.2.2.2.2.2.2.2.2.1 bt170.2.2.2.2.2.2.2.2.2 bt190.1 bt190.2.1 bt190.2.2.1 bt190.2.2.2.1 bt190.2.2.2.2.1 bt190.2.2.2.2.2.1 bt190.2.2.2.2.2.2.1 bt190.2.2.2.2.2.2.2.1 bt190.2.2.2.2.2.2.2.2.1 bt190.2.2.2.2.2.2.2.2.2)) else (none))) else (none)))) = some r := by rw [if_neg (show ¬ (false = true) by decide)] at H; exact H
          clear H
          have H := H1
          clear H1
          replace H := Option.bind_eq_some_iff.mp H
          obtain ⟨⟨t170, t171, t172, t173, t174, t175, t176, t177, t178, t179⟩, A120, H⟩ := H
          replace H : ((some (([] : List (S40)) : List (S40))).bind fun y181 => (if y181.length + l0.length < 4398046511104 then ((some (y181 ++ l0 : List (S40))).bind fun y184 => (if y184.length < 4398046511104 then ((control_Of.f kj4 (y184 ++ [(⟨(⟨#[67, 97, 99, 104, 101, 45, 67, 111, 110, 116, 114, 111, 108]⟩ : ByteArray), a1⟩ : S40)])).bind fun bt190 => (pantrylaw04_ControlMore.l0 kj4 l0 l0 (l0.length : Int) 0 t170 t171 t172 t173 t174 t175 t176 t177 t178 t179 bt190.1 bt190.2.1 bt190.2.2.1 bt190.2.2.2.1 bt190.2.2.2.2.1 bt190.2.2.2.2.2.1 bt190.2.2.2.2.2.2.1 bt190.2.2.2.2.2.2.2.1 bt190.2.2.2.2.2.2.2.2.1 bt190.2.2.2.2.2.2.2.2.2)) else (none))) else (none))) = some r := H
          have A12 := Aside0.mk A120
          clear A120
          obtain ⟨y181, hy181⟩ : ∃ y_ : List (S40), y_ = (([] : List (S40))) := ⟨_, rfl⟩
          replace H : (if y181.length + l0.length < 4398046511104 then ((some (y181 ++ l0 : List (S40))).bind fun y184 => (if y184.length < 4398046511104 then ((control_Of.f kj4 (y184 ++ [(⟨(⟨#[67, 97, 99, 104, 101, 45, 67, 111, 110, 116, 114, 111, 108]⟩ : ByteArray), a1⟩ : S40)])).bind fun bt190 => (pantrylaw04_ControlMore.l0 kj4 l0 l0 (l0.length : Int) 0 t170 t171 t172 t173 t174 t175 t176 t177 t178 t179 bt190.1 bt190.2.1 bt190.2.2.1 bt190.2.2.2.1 bt190.2.2.2.2.1 bt190.2.2.2.2.2.1 bt190.2.2.2.2.2.2.1 bt190.2.2.2.2.2.2.2.1 bt190.2.2.2.2.2.2.2.2.1 bt190.2.2.2.2.2.2.2.2.2)) else (none))) else (none)) = some r := by first | (rw [hy181]; with_reducible exact H) | (have H2_ := (Option.bind_some _ _).symm.trans H; rw [hy181]; with_reducible exact H2_) | (have H2_ := (Option.bind_some _ _).symm.trans H; with_reducible exact H2_) | with_reducible exact H | (rw [hy181]; exact H) | exact H
          have Ny181 := Aside0.mk hy181
          clear hy181
          by_cases c13 : y181.length + l0.length < 4398046511104
          · rw [if_pos c13] at H
            have LMc13 := Aside0.mk c13
            clear c13
            obtain ⟨y184, hy184⟩ : ∃ y_ : List (S40), y_ = (y181 ++ l0) := ⟨_, rfl⟩
            replace H : (if y184.length < 4398046511104 then ((control_Of.f kj4 (y184 ++ [(⟨(⟨#[67, 97, 99, 104, 101, 45, 67, 111, 110, 116, 114, 111, 108]⟩ : ByteArray), a1⟩ : S40)])).bind fun bt190 => (pantrylaw04_ControlMore.l0 kj4 l0 l0 (l0.length : Int) 0 t170 t171 t172 t173 t174 t175 t176 t177 t178 t179 bt190.1 bt190.2.1 bt190.2.2.1 bt190.2.2.2.1 bt190.2.2.2.2.1 bt190.2.2.2.2.2.1 bt190.2.2.2.2.2.2.1 bt190.2.2.2.2.2.2.2.1 bt190.2.2.2.2.2.2.2.2.1 bt190.2.2.2.2.2.2.2.2.2)) else (none)) = some r := by first | (rw [hy184]; with_reducible exact H) | (have H2_ := (Option.bind_some _ _).symm.trans H; rw [hy184]; with_reducible exact H2_) | (have H2_ := (Option.bind_some _ _).symm.trans H; with_reducible exact H2_) | with_reducible exact H | (rw [hy184]; exact H) | exact H
            have Ny184 := Aside0.mk hy184
            clear hy184
            by_cases c14 : y184.length < 4398046511104
            · rw [if_pos c14] at H
              have LMc14 := Aside0.mk c14
              clear c14
              obtain ⟨y187, hy187⟩ : ∃ y_ : List (S40), y_ = (y184 ++ [(⟨(⟨#[67, 97, 99, 104, 101, 45, 67, 111, 110, 116, 114, 111, 108]⟩ : ByteArray), a1⟩ : S40)]) := ⟨_, rfl⟩
              replace H : ((control_Of.f kj4 y187).bind fun bt190 => (pantrylaw04_ControlMore.l0 kj4 l0 l0 (l0.length : Int) 0 t170 t171 t172 t173 t174 t175 t176 t177 t178 t179 bt190.1 bt190.2.1 bt190.2.2.1 bt190.2.2.2.1 bt190.2.2.2.2.1 bt190.2.2.2.2.2.1 bt190.2.2.2.2.2.2.1 bt190.2.2.2.2.2.2.2.1 bt190.2.2.2.2.2.2.2.2.1 bt190.2.2.2.2.2.2.2.2.2)) = some r := by first | (rw [hy187]; with_reducible exact H) | (have H2_ := (Option.bind_some _ _).symm.trans H; rw [hy187]; with_reducible exact H2_) | (have H2_ := (Option.bind_some _ _).symm.trans H; with_reducible exact H2_) | with_reducible exact H | (rw [hy187]; exact H) | exact H
              have Ny187 := Aside0.mk hy187
              clear hy187
              replace H := Option.bind_eq_some_iff.mp H
              obtain ⟨⟨t190, t191, t192, t193, t194, t195, t196, t197, t198, t199⟩, A150, H⟩ := H
              replace H : (pantrylaw04_ControlMore.l0 kj4 l0 l0 (l0.length : Int) 0 t170 t171 t172 t173 t174 t175 t176 t177 t178 t179 t190 t191 t192 t193 t194 t195 t196 t197 t198 t199) = some r := H
              have A15 := Aside0.mk A150
              clear A150
              have H' := Aside0.mk H
              clear H
              go_wp2_with (first | ((with_reducible refine gate_callee (f := 12) rfl ?_); refine goesL_ (some 24) rfl rfl Tryd.func12 (by kernel_rfl) rfl #[.slice A0 l0.length c0] rfl (by (try simp only [List.map_toArray, List.map_cons, List.map_nil]); first | done | rfl | (simp only [List.length_drop, List.length_take]; rfl)) ?_; (with_reducible refine (control_Of.calls kj4 _ _ l0 t170 t171 t172 t173 t174 t175 t176 t177 t178 t179 _ ?side1 ?side2 A12.out).mono ?_); (case side1 => repeat (first | exact (Kd.C_below HR0.out HB.out) | (with_reducible refine Kd.C_alloc ?_ _) | (with_reducible refine Kd.C_drewN ?_ _) | (with_reducible refine Kd.C_drew ?_))); (case side2 => exact HC0.out); rintro e w16 ⟨rfl, hb⟩; refine ⟨_, rfl, ?_⟩; have n0_ := Aside0.mk (below_step (by repeat (first | (with_reducible first | exact HB.out | apply below_alloc | apply pw_below_drewN | apply below_drew1) | exact HB.out)) hb); clear HB; have HB := n0_; clear n0_; (try clear hb); (try clear hb2); (try clear hk); (try clear hi)) | ((with_reducible refine gate_dst (N := 5) rfl ?_); (try (refine gate_guard (by rfl) ?_; dsimp only)); refine box_event ?hg (N := 5) ?hd (cs := #[.bool false, .bool false, .bool false, .bool false, .bool false, .bool false, .int .i64 0, .int .i64 0, .int .i64 0, .int .i64 0]) (t := 29) ?hr ?_; (case hd => rfl); (case hg => rfl); (case hr => first | (go_simp; done) | (go_simp; rfl)); intro gb180 hg w17 hbox hb; have n0_ := Aside0.mk (below_step (by repeat (first | (with_reducible first | exact HB.out | apply below_alloc | apply pw_below_drewN | apply below_drew1) | exact HB.out)) hb); have n1_ := Aside0.mk (hbox); have n2_ := Aside0.mk ((by rw [hg]; exact (below_size (by repeat (first | (with_reducible first | exact HB.out | apply below_alloc | apply pw_below_drewN | apply below_drew1) | exact HB.out))) : w.heap.size ≤ gb180)); have n3_ := Aside0.mk ((by rw [hg]; exact (below_size (by repeat (first | (with_reducible first | exact HB.out | apply below_alloc | apply pw_below_drewN | apply below_drew1) | exact HB.out))) : w.heap.size ≤ gb180)); clear HB; have HB := n0_; have BK180 := n1_; have GW180 := n2_; have GE180 := n3_; clear n0_ n1_ n2_ n3_; clear hb hbox hg; have hcz18_0 : w17.cell? ⟨gb180, 0, none⟩ = some (.bool false) := (blk_cell BK180.out 0).trans rfl; have hcz18_1 : w17.cell? ⟨gb180, 1, none⟩ = some (.bool false) := (blk_cell BK180.out 1).trans rfl; have hcz18_2 : w17.cell? ⟨gb180, 2, none⟩ = some (.bool false) := (blk_cell BK180.out 2).trans rfl; have hcz18_3 : w17.cell? ⟨gb180, 3, none⟩ = some (.bool false) := (blk_cell BK180.out 3).trans rfl; have hcz18_4 : w17.cell? ⟨gb180, 4, none⟩ = some (.bool false) := (blk_cell BK180.out 4).trans rfl; have hcz18_5 : w17.cell? ⟨gb180, 5, none⟩ = some (.bool false) := (blk_cell BK180.out 5).trans rfl; have hcz18_6 : w17.cell? ⟨gb180, 6, none⟩ = some (.int .i64 0) := (blk_cell BK180.out 6).trans rfl; have hcz18_7 : w17.cell? ⟨gb180, 7, none⟩ = some (.int .i64 0) := (blk_cell BK180.out 7).trans rfl; have hcz18_8 : w17.cell? ⟨gb180, 8, none⟩ = some (.int .i64 0) := (blk_cell BK180.out 8).trans rfl; have hcz18_9 : w17.cell? ⟨gb180, 9, none⟩ = some (.int .i64 0) := (blk_cell BK180.out 9).trans rfl; have hfz18_0 := blk_frozen BK180.out 0; have hfz18_1 := blk_frozen BK180.out 1; have hfz18_2 := blk_frozen BK180.out 2; have hfz18_3 := blk_frozen BK180.out 3; have hfz18_4 := blk_frozen BK180.out 4; have hfz18_5 := blk_frozen BK180.out 5; have hfz18_6 := blk_frozen BK180.out 6; have hfz18_7 := blk_frozen BK180.out 7; have hfz18_8 := blk_frozen BK180.out 8; have hfz18_9 := blk_frozen BK180.out 9) | ((with_reducible refine gate_dst (N := 25) rfl ?_); (try (refine gate_guard (by rfl) ?_; dsimp only)); refine Kd.R_lit k40 _ 40 ?hg (N := 25) ?hd (xs := ([] : List (S40))) (inner := []) (ok := fun _ => True) (okp := fun _ => True) ?hr ?hp (fun _ hk => hk) trivial (Below.refl _ _) (Nat.le_refl _) (by simp) ?_; (case hd => rfl); (case hg => rfl); (case hr => first | (go_simp; done) | (go_simp; rfl)); (case hp => exact (Reps.none _ _)); intro v182 w19 ho20 hb hg_ hnew_; clear hg_ hnew_; (first | rw [← Ny181.out] at ho20 | (simp only [Int.reduceToNat] at ho20; rw [← Ny181.out] at ho20)); have n0_ := Aside0.mk (Kd.R_lower ho20 (below_size (by repeat (first | (with_reducible first | exact HB.out | apply below_alloc | apply pw_below_drewN | apply below_drew1 | refine below_set ?_ GE180.out) | exact HB.out)))); have n1_ := Aside0.mk (blk_below (g := gb180) (o := .cells #[.bool t170, .bool t171, .bool t172, .bool t173, .bool t174, .bool t175, .int .i64 t176, .int .i64 t177, .int .i64 t178, .int .i64 t179] 29 (0, 0)) (by (with_reducible repeat (first | refine blk_drewN ?_ _ | refine blk_drew ?_ | refine blk_alloc ?_ _)); refine blk_put (cs := #[.bool t170, .bool t171, .bool t172, .bool t173, .bool t174, .bool t175, .int .i64 t176, .int .i64 t177, .int .i64 t178, .int .i64 0]) ?_ 9 _ rfl; (with_reducible repeat (first | refine blk_drewN ?_ _ | refine blk_drew ?_ | refine blk_alloc ?_ _)); refine blk_put (cs := #[.bool t170, .bool t171, .bool t172, .bool t173, .bool t174, .bool t175, .int .i64 t176, .int .i64 t177, .int .i64 0, .int .i64 0]) ?_ 8 _ rfl; (with_reducible repeat (first | refine blk_drewN ?_ _ | refine blk_drew ?_ | refine blk_alloc ?_ _)); refine blk_put (cs := #[.bool t170, .bool t171, .bool t172, .bool t173, .bool t174, .bool t175, .int .i64 t176, .int .i64 0, .int .i64 0, .int .i64 0]) ?_ 7 _ rfl; (with_reducible repeat (first | refine blk_drewN ?_ _ | refine blk_drew ?_ | refine blk_alloc ?_ _)); refine blk_put (cs := #[.bool t170, .bool t171, .bool t172, .bool t173, .bool t174, .bool t175, .int .i64 0, .int .i64 0, .int .i64 0, .int .i64 0]) ?_ 6 _ rfl; (with_reducible repeat (first | refine blk_drewN ?_ _ | refine blk_drew ?_ | refine blk_alloc ?_ _)); refine blk_put (cs := #[.bool t170, .bool t171, .bool t172, .bool t173, .bool t174, .bool false, .int .i64 0, .int .i64 0, .int .i64 0, .int .i64 0]) ?_ 5 _ rfl; (with_reducible repeat (first | refine blk_drewN ?_ _ | refine blk_drew ?_ | refine blk_alloc ?_ _)); refine blk_put (cs := #[.bool t170, .bool t171, .bool t172, .bool t173, .bool false, .bool false, .int .i64 0, .int .i64 0, .int .i64 0, .int .i64 0]) ?_ 4 _ rfl; (with_reducible repeat (first | refine blk_drewN ?_ _ | refine blk_drew ?_ | refine blk_alloc ?_ _)); refine blk_put (cs := #[.bool t170, .bool t171, .bool t172, .bool false, .bool false, .bool false, .int .i64 0, .int .i64 0, .int .i64 0, .int .i64 0]) ?_ 3 _ rfl; (with_reducible repeat (first | refine blk_drewN ?_ _ | refine blk_drew ?_ | refine blk_alloc ?_ _)); refine blk_put (cs := #[.bool t170, .bool t171, .bool false, .bool false, .bool false, .bool false, .int .i64 0, .int .i64 0, .int .i64 0, .int .i64 0]) ?_ 2 _ rfl; (with_reducible repeat (first | refine blk_drewN ?_ _ | refine blk_drew ?_ | refine blk_alloc ?_ _)); refine blk_put (cs := #[.bool t170, .bool false, .bool false, .bool false, .bool false, .bool false, .int .i64 0, .int .i64 0, .int .i64 0, .int .i64 0]) ?_ 1 _ rfl; (with_reducible repeat (first | refine blk_drewN ?_ _ | refine blk_drew ?_ | refine blk_alloc ?_ _)); refine blk_put (cs := #[.bool false, .bool false, .bool false, .bool false, .bool false, .bool false, .int .i64 0, .int .i64 0, .int .i64 0, .int .i64 0]) ?_ 0 _ rfl; (with_reducible repeat (first | refine blk_drewN ?_ _ | refine blk_drew ?_ | refine blk_alloc ?_ _)); exact BK180.out) hb); have n2_ := Aside0.mk (below_step (by repeat (first | (with_reducible first | exact HB.out | apply below_alloc | apply pw_below_drewN | apply below_drew1 | refine below_set ?_ GE180.out) | exact HB.out)) hb); clear BK180; clear HB; have HO183 := n0_; have BK180 := n1_; have HB := n2_; clear n0_ n1_ n2_; clear hb ho20) | ((with_reducible refine gate_builtin (b := .append) (xs := #[.tmp 25, .tmp 26]) rfl ?_); (try (refine gate_guard (by rfl) ?_; dsimp only)); at_builtin; refine Kd.R_append_rows k40 (w0 := w) w.heap.size rfl (.tmp 25) (.tmp 26) 23 40 (.agg #[(.string ⟨#[]⟩), (.string ⟨#[]⟩)]) 32 rfl Tryd.underlying23 info40 rfl (by decide) (by omega) v182 y181 l0 _ _ _ (fun _ => True) (fun _ => False) rfl rfl ?aO ?aR (fun _ _ h => h) (fun _ h => h.elim) ?aF ?aB ?aS ?aL ?_; (case aR => repeat (first | exact (Kd.C_below HR0.out HB.out) | (with_reducible refine Kd.C_alloc ?_ _) | (with_reducible refine Kd.C_drewN ?_ _) | (with_reducible refine Kd.C_drew ?_))); (case aB => exact (by repeat (first | (with_reducible first | exact HB.out | apply below_alloc | apply pw_below_drewN | apply below_drew1 | refine below_set ?_ GE180.out) | exact HB.out))); (case aF => exact (fun _ _ => trivial)); (case aO => exact (by (with_reducible repeat (first | apply Kd.R_alloc | apply Kd.R_drewN | apply Kd.R_drew)); exact HO183.out)); (case aS => exact (below_size (by repeat (first | (with_reducible first | exact HB.out | apply below_alloc | apply pw_below_drewN | apply below_drew1 | refine below_set ?_ GE180.out) | exact HB.out)))); (case aL => have := LMc13.out; omega); intro v185 w21 ho hb hg hat; rw [← Ny184.out] at ho; have n0_ := Aside0.mk (blk_grown (g := gb180) (o := .cells #[.bool t170, .bool t171, .bool t172, .bool t173, .bool t174, .bool t175, .int .i64 t176, .int .i64 t177, .int .i64 t178, .int .i64 t179] 29 (0, 0)) (by (with_reducible repeat (first | refine blk_drewN ?_ _ | refine blk_drew ?_ | refine blk_alloc ?_ _)); exact BK180.out) hg (Kd.R_ne HO183.out BK180.out (by decide))); have n1_ := Aside0.mk (hb); have n2_ := Aside0.mk (ho); clear BK180; clear HB; clear HO183; have BK180 := n0_; have HB := n1_; have HO186 := n2_; clear n0_ n1_ n2_; clear ho hb hg hat) | ((with_reducible refine gate_builtin (b := .append) (xs := #[.tmp 27, .tmp 30]) rfl ?_); (try (refine gate_guard (by rfl) ?_; dsimp only)); at_builtin; refine Kd.R_append k40 (w0 := w) w.heap.size rfl (.tmp 27) (.tmp 30) 23 40 (.agg #[(.string ⟨#[]⟩), (.string ⟨#[]⟩)]) 32 rfl Tryd.underlying23 info40 rfl (by decide) (by omega) v185 y184 (⟨(⟨#[67, 97, 99, 104, 101, 45, 67, 111, 110, 116, 114, 111, 108]⟩ : ByteArray), a1⟩ : S40) [.string (⟨#[67, 97, 99, 104, 101, 45, 67, 111, 110, 116, 114, 111, 108]⟩ : ByteArray), .string a1] (fun _ => True) (fun _ => False) rfl rfl ?aP (fun _ hk => hk.elim) ?aF ?aO ?aB ?aS ?aL ?_; (case aP => exact k40_mkM _ _ _ (⟨(⟨#[67, 97, 99, 104, 101, 45, 67, 111, 110, 116, 114, 111, 108]⟩ : ByteArray), a1⟩ : S40)); (case aB => exact (by repeat (first | (with_reducible first | exact HB.out | apply below_alloc | apply pw_below_drewN | apply below_drew1 | refine below_set ?_ GE180.out) | exact HB.out))); (case aF => exact (fun _ _ => trivial)); (case aO => exact (by (with_reducible repeat (first | apply Kd.R_alloc | apply Kd.R_drewN | apply Kd.R_drew)); exact HO186.out)); (case aS => exact (below_size (by repeat (first | (with_reducible first | exact HB.out | apply below_alloc | apply pw_below_drewN | apply below_drew1 | refine below_set ?_ GE180.out) | exact HB.out)))); (case aL => have := LMc14.out; omega); intro v188 w22 ho hb hg hat; rw [← Ny187.out] at ho; have n0_ := Aside0.mk (blk_grown (g := gb180) (o := .cells #[.bool t170, .bool t171, .bool t172, .bool t173, .bool t174, .bool t175, .int .i64 t176, .int .i64 t177, .int .i64 t178, .int .i64 t179] 29 (0, 0)) (by (with_reducible repeat (first | refine blk_drewN ?_ _ | refine blk_drew ?_ | refine blk_alloc ?_ _)); exact BK180.out) hg (Kd.R_ne HO186.out BK180.out (by decide))); have n1_ := Aside0.mk (hb); have n2_ := Aside0.mk (ho); clear BK180; clear HB; clear HO186; have BK180 := n0_; have HB := n1_; have HO189 := n2_; clear n0_ n1_ n2_; clear ho hb hg hat; obtain ⟨Ao23, co23, eo23⟩ := Kd.R_slice HO189.out; subst eo23) | ((with_reducible refine gate_callee (f := 12) rfl ?_); refine goesL_ (some 32) rfl rfl Tryd.func12 (by kernel_rfl) rfl #[.slice Ao23 y187.length co23] rfl (by (try simp only [List.map_toArray, List.map_cons, List.map_nil]); first | done | rfl | (simp only [List.length_drop, List.length_take]; rfl)) ?_; (with_reducible refine (control_Of.calls kj4 _ _ y187 t190 t191 t192 t193 t194 t195 t196 t197 t198 t199 _ ?side1 ?side2 A15.out).mono ?_); (case side1 => repeat (first | exact (Kd.R_reads' HO189.out).2.2 | (with_reducible refine Kd.C_alloc ?_ _) | (with_reducible refine Kd.C_drewN ?_ _) | (with_reducible refine Kd.C_drew ?_))); (case side2 => exact (Kd.R_reads' HO189.out).2.1); rintro e w24 ⟨rfl, hb⟩; refine ⟨_, rfl, ?_⟩; have n0_ := Aside0.mk (Kd.R_below (by (with_reducible repeat (first | apply Kd.R_alloc | apply Kd.R_drewN | apply Kd.R_drew)); exact HO189.out) hb); have n1_ := Aside0.mk (blk_below (g := gb180) (o := .cells #[.bool t170, .bool t171, .bool t172, .bool t173, .bool t174, .bool t175, .int .i64 t176, .int .i64 t177, .int .i64 t178, .int .i64 t179] 29 (0, 0)) (by (with_reducible repeat (first | refine blk_drewN ?_ _ | refine blk_drew ?_ | refine blk_alloc ?_ _)); exact BK180.out) hb); have n2_ := Aside0.mk (below_step (by repeat (first | (with_reducible first | exact HB.out | apply below_alloc | apply pw_below_drewN | apply below_drew1 | refine below_set ?_ GE180.out) | exact HB.out)) hb); clear HO189; clear BK180; clear HB; have HO189 := n0_; have BK180 := n1_; have HB := n2_; clear n0_ n1_ n2_; (try clear hb); (try clear hb2); (try clear hk); (try clear hi)) | ((with_reducible refine gate_dst (N := 6) rfl ?_); (try (refine gate_guard (by rfl) ?_; dsimp only)); refine box_event ?hg (N := 6) ?hd (cs := #[.bool false, .bool false, .bool false, .bool false, .bool false, .bool false, .int .i64 0, .int .i64 0, .int .i64 0, .int .i64 0]) (t := 29) ?hr ?_; (case hd => rfl); (case hg => rfl); (case hr => first | (go_simp; done) | (go_simp; rfl)); intro gb200 hg w25 hbox hb; have n0_ := Aside0.mk (Kd.R_below (by (with_reducible repeat (first | apply Kd.R_alloc | apply Kd.R_drewN | apply Kd.R_drew)); exact HO189.out) hb); have n1_ := Aside0.mk (blk_below (g := gb180) (o := .cells #[.bool t170, .bool t171, .bool t172, .bool t173, .bool t174, .bool t175, .int .i64 t176, .int .i64 t177, .int .i64 t178, .int .i64 t179] 29 (0, 0)) (by (with_reducible repeat (first | refine blk_drewN ?_ _ | refine blk_drew ?_ | refine blk_alloc ?_ _)); exact BK180.out) hb); have n2_ := Aside0.mk (below_step (by repeat (first | (with_reducible first | exact HB.out | apply below_alloc | apply pw_below_drewN | apply below_drew1 | refine below_set ?_ GE180.out) | exact HB.out)) hb); have n3_ := Aside0.mk (hbox); have n4_ := Aside0.mk ((by rw [hg]; exact (below_size (by repeat (first | (with_reducible first | exact HB.out | apply below_alloc | apply pw_below_drewN | apply below_drew1 | refine below_set ?_ GE180.out) | exact HB.out))) : w.heap.size ≤ gb200)); have n5_ := Aside0.mk ((by rw [hg]; exact (below_size (by repeat (first | (with_reducible first | exact HB.out | apply below_alloc | apply pw_below_drewN | apply below_drew1 | refine below_set ?_ GE180.out) | exact HB.out))) : w.heap.size ≤ gb200)); have n6_ := Aside0.mk ((by rw [hg]; exact Nat.ne_of_lt (blk_lt (g := gb180) (o := .cells #[.bool t170, .bool t171, .bool t172, .bool t173, .bool t174, .bool t175, .int .i64 t176, .int .i64 t177, .int .i64 t178, .int .i64 t179] 29 (0, 0)) (by (with_reducible repeat (first | refine blk_drewN ?_ _ | refine blk_drew ?_ | refine blk_alloc ?_ _)); exact BK180.out)) : gb180 ≠ gb200)); have n7_ := Aside0.mk ((by rw [hg]; exact Nat.ne_of_gt (blk_lt (g := gb180) (o := .cells #[.bool t170, .bool t171, .bool t172, .bool t173, .bool t174, .bool t175, .int .i64 t176, .int .i64 t177, .int .i64 t178, .int .i64 t179] 29 (0, 0)) (by (with_reducible repeat (first | refine blk_drewN ?_ _ | refine blk_drew ?_ | refine blk_alloc ?_ _)); exact BK180.out)) : gb200 ≠ gb180)); clear HO189; clear BK180; clear HB; have HO189 := n0_; have BK180 := n1_; have HB := n2_; have BK200 := n3_; have GW200 := n4_; have GE200 := n5_; have NB180_200 := n6_; have NB200_180 := n7_; clear n0_ n1_ n2_ n3_ n4_ n5_ n6_ n7_; clear hb hbox hg; have hnb26 := NB200_180.out; have hnc26 := NB180_200.out; have hcz27_0 : w25.cell? ⟨gb200, 0, none⟩ = some (.bool false) := (blk_cell BK200.out 0).trans rfl; have hcz27_1 : w25.cell? ⟨gb200, 1, none⟩ = some (.bool false) := (blk_cell BK200.out 1).trans rfl; have hcz27_2 : w25.cell? ⟨gb200, 2, none⟩ = some (.bool false) := (blk_cell BK200.out 2).trans rfl; have hcz27_3 : w25.cell? ⟨gb200, 3, none⟩ = some (.bool false) := (blk_cell BK200.out 3).trans rfl; have hcz27_4 : w25.cell? ⟨gb200, 4, none⟩ = some (.bool false) := (blk_cell BK200.out 4).trans rfl; have hcz27_5 : w25.cell? ⟨gb200, 5, none⟩ = some (.bool false) := (blk_cell BK200.out 5).trans rfl; have hcz27_6 : w25.cell? ⟨gb200, 6, none⟩ = some (.int .i64 0) := (blk_cell BK200.out 6).trans rfl; have hcz27_7 : w25.cell? ⟨gb200, 7, none⟩ = some (.int .i64 0) := (blk_cell BK200.out 7).trans rfl; have hcz27_8 : w25.cell? ⟨gb200, 8, none⟩ = some (.int .i64 0) := (blk_cell BK200.out 8).trans rfl; have hcz27_9 : w25.cell? ⟨gb200, 9, none⟩ = some (.int .i64 0) := (blk_cell BK200.out 9).trans rfl; have hfz27_0 := blk_frozen BK200.out 0; have hfz27_1 := blk_frozen BK200.out 1; have hfz27_2 := blk_frozen BK200.out 2; have hfz27_3 := blk_frozen BK200.out 3; have hfz27_4 := blk_frozen BK200.out 4; have hfz27_5 := blk_frozen BK200.out 5; have hfz27_6 := blk_frozen BK200.out 6; have hfz27_7 := blk_frozen BK200.out 7; have hfz27_8 := blk_frozen BK200.out 8; have hfz27_9 := blk_frozen BK200.out 9))
              go_loopg [35] kj4 (fun kq v35 w' => ∃ (x35_2 : Int), v35 = .int .i64 x35_2 ∧ Aside0 (pantrylaw04_ControlMore.l0 kq l0 l0 (l0.length : Int) x35_2 t170 t171 t172 t173 t174 t175 t176 t177 t178 t179 t190 t191 t192 t193 t194 t195 t196 t197 t198 t199 = some r) ∧ Aside0 (kq ≤ kj4) ∧ Aside0 (w'.heap[gb180]? = some (.cells #[.bool t170, .bool t171, .bool t172, .bool t173, .bool t174, .bool t175, .int .i64 t176, .int .i64 t177, .int .i64 t178, .int .i64 t179] 29 (0, 0))) ∧ Aside0 (w'.heap[gb200]? = some (.cells #[.bool t190, .bool t191, .bool t192, .bool t193, .bool t194, .bool t195, .int .i64 t196, .int .i64 t197, .int .i64 t198, .int .i64 t199] 29 (0, 0))) ∧ Aside0 (Below w.heap.size w w'))
              case atStart => exact ⟨(0), (by first | rfl | (simp; done) | (simp [*]; done)), H', ⟨Nat.le_refl _⟩, ⟨by (with_reducible repeat (first | refine blk_drewN ?_ _ | refine blk_drew ?_ | refine blk_alloc ?_ _)); refine blk_far ?_ NB180_200.out _; (with_reducible repeat (first | refine blk_drewN ?_ _ | refine blk_drew ?_ | refine blk_alloc ?_ _)); refine blk_far ?_ NB180_200.out _; (with_reducible repeat (first | refine blk_drewN ?_ _ | refine blk_drew ?_ | refine blk_alloc ?_ _)); refine blk_far ?_ NB180_200.out _; (with_reducible repeat (first | refine blk_drewN ?_ _ | refine blk_drew ?_ | refine blk_alloc ?_ _)); refine blk_far ?_ NB180_200.out _; (with_reducible repeat (first | refine blk_drewN ?_ _ | refine blk_drew ?_ | refine blk_alloc ?_ _)); refine blk_far ?_ NB180_200.out _; (with_reducible repeat (first | refine blk_drewN ?_ _ | refine blk_drew ?_ | refine blk_alloc ?_ _)); refine blk_far ?_ NB180_200.out _; (with_reducible repeat (first | refine blk_drewN ?_ _ | refine blk_drew ?_ | refine blk_alloc ?_ _)); refine blk_far ?_ NB180_200.out _; (with_reducible repeat (first | refine blk_drewN ?_ _ | refine blk_drew ?_ | refine blk_alloc ?_ _)); refine blk_far ?_ NB180_200.out _; (with_reducible repeat (first | refine blk_drewN ?_ _ | refine blk_drew ?_ | refine blk_alloc ?_ _)); refine blk_far ?_ NB180_200.out _; (with_reducible repeat (first | refine blk_drewN ?_ _ | refine blk_drew ?_ | refine blk_alloc ?_ _)); refine blk_far ?_ NB180_200.out _; (with_reducible repeat (first | refine blk_drewN ?_ _ | refine blk_drew ?_ | refine blk_alloc ?_ _)); exact BK180.out⟩, ⟨by (with_reducible repeat (first | refine blk_drewN ?_ _ | refine blk_drew ?_ | refine blk_alloc ?_ _)); refine blk_put (cs := #[.bool t190, .bool t191, .bool t192, .bool t193, .bool t194, .bool t195, .int .i64 t196, .int .i64 t197, .int .i64 t198, .int .i64 0]) ?_ 9 _ rfl; (with_reducible repeat (first | refine blk_drewN ?_ _ | refine blk_drew ?_ | refine blk_alloc ?_ _)); refine blk_put (cs := #[.bool t190, .bool t191, .bool t192, .bool t193, .bool t194, .bool t195, .int .i64 t196, .int .i64 t197, .int .i64 0, .int .i64 0]) ?_ 8 _ rfl; (with_reducible repeat (first | refine blk_drewN ?_ _ | refine blk_drew ?_ | refine blk_alloc ?_ _)); refine blk_put (cs := #[.bool t190, .bool t191, .bool t192, .bool t193, .bool t194, .bool t195, .int .i64 t196, .int .i64 0, .int .i64 0, .int .i64 0]) ?_ 7 _ rfl; (with_reducible repeat (first | refine blk_drewN ?_ _ | refine blk_drew ?_ | refine blk_alloc ?_ _)); refine blk_put (cs := #[.bool t190, .bool t191, .bool t192, .bool t193, .bool t194, .bool t195, .int .i64 0, .int .i64 0, .int .i64 0, .int .i64 0]) ?_ 6 _ rfl; (with_reducible repeat (first | refine blk_drewN ?_ _ | refine blk_drew ?_ | refine blk_alloc ?_ _)); refine blk_put (cs := #[.bool t190, .bool t191, .bool t192, .bool t193, .bool t194, .bool false, .int .i64 0, .int .i64 0, .int .i64 0, .int .i64 0]) ?_ 5 _ rfl; (with_reducible repeat (first | refine blk_drewN ?_ _ | refine blk_drew ?_ | refine blk_alloc ?_ _)); refine blk_put (cs := #[.bool t190, .bool t191, .bool t192, .bool t193, .bool false, .bool false, .int .i64 0, .int .i64 0, .int .i64 0, .int .i64 0]) ?_ 4 _ rfl; (with_reducible repeat (first | refine blk_drewN ?_ _ | refine blk_drew ?_ | refine blk_alloc ?_ _)); refine blk_put (cs := #[.bool t190, .bool t191, .bool t192, .bool false, .bool false, .bool false, .int .i64 0, .int .i64 0, .int .i64 0, .int .i64 0]) ?_ 3 _ rfl; (with_reducible repeat (first | refine blk_drewN ?_ _ | refine blk_drew ?_ | refine blk_alloc ?_ _)); refine blk_put (cs := #[.bool t190, .bool t191, .bool false, .bool false, .bool false, .bool false, .int .i64 0, .int .i64 0, .int .i64 0, .int .i64 0]) ?_ 2 _ rfl; (with_reducible repeat (first | refine blk_drewN ?_ _ | refine blk_drew ?_ | refine blk_alloc ?_ _)); refine blk_put (cs := #[.bool t190, .bool false, .bool false, .bool false, .bool false, .bool false, .int .i64 0, .int .i64 0, .int .i64 0, .int .i64 0]) ?_ 1 _ rfl; (with_reducible repeat (first | refine blk_drewN ?_ _ | refine blk_drew ?_ | refine blk_alloc ?_ _)); refine blk_put (cs := #[.bool false, .bool false, .bool false, .bool false, .bool false, .bool false, .int .i64 0, .int .i64 0, .int .i64 0, .int .i64 0]) ?_ 0 _ rfl; (with_reducible repeat (first | refine blk_drewN ?_ _ | refine blk_drew ?_ | refine blk_alloc ?_ _)); exact BK200.out⟩, ⟨by repeat (first | (with_reducible first | exact HB.out | apply below_alloc | apply pw_below_drewN | apply below_drew1 | refine below_set ?_ GE180.out | refine below_set ?_ GE200.out) | exact HB.out)⟩⟩
              case round =>
                clear H'
                try clear c1
                try clear c2
                try clear p2
                try clear c4
                try clear c5
                try clear c8
                try clear c9
                try clear c10
                try clear c11
                try clear c12
                try clear c13
                try clear c14
                try clear c26
                try clear hcz18_0
                try clear hcz18_1
                try clear hcz18_2
                try clear hcz18_3
                try clear hcz18_4
                try clear hcz18_5
                try clear hcz18_6
                try clear hcz18_7
                try clear hcz18_8
                try clear hcz18_9
                try clear hcz27_0
                try clear hcz27_1
                try clear hcz27_2
                try clear hcz27_3
                try clear hcz27_4
                try clear hcz27_5
                try clear hcz27_6
                try clear hcz27_7
                try clear hcz27_8
                try clear hcz27_9
                try clear hfz18_0
                try clear hfz18_1
                try clear hfz18_2
                try clear hfz18_3
                try clear hfz18_4
                try clear hfz18_5
                try clear hfz18_6
                try clear hfz18_7
                try clear hfz18_8
                try clear hfz18_9
                try clear hfz27_0
                try clear hfz27_1
                try clear hfz27_2
                try clear hfz27_3
                try clear hfz27_4
                try clear hfz27_5
                try clear hfz27_6
                try clear hfz27_7
                try clear hfz27_8
                try clear hfz27_9
                try clear p2
                obtain ⟨x35_2, rfl, HA, HK2, BK180, BK200, HB⟩ := hrel
                cases gk with
                | zero => exact absurd HA.out (by simp [pantrylaw04_ControlMore.l0])
                | succ k2 =>
                  have H := HA.out
                  clear HA
                  simp only [pantrylaw04_ControlMore.l0] at H
                  by_cases c28 : x35_2 < (l0.length : Int)
                  · rw [if_pos c28] at H
                    have c28b0 : decide (x35_2 < (l0.length : Int)) = true := decide_eq_true c28
                    clear c28
                    by_cases c29 : 0 ≤ x35_2
                    · rw [if_pos c29] at H
                      have c29b0 : decide (0 ≤ x35_2) = true := decide_eq_true c29
                      clear c29
                      by_cases c30 : x35_2 < (l0.length : Int)
                      · rw [if_pos c30] at H
                        have c30b0 : decide (x35_2 < (l0.length : Int)) = true := decide_eq_true c30
                        clear c30
                        have H' := Aside0.mk H
                        clear H
                        have p201 : 0 ≤ (x35_2 : Int) := of_decide_eq_true (by first | (with_reducible assumption) | assumption)
                        have q201 : x35_2 < (l0.length : Int) := of_decide_eq_true (by first | (with_reducible assumption) | assumption)
                        obtain ⟨ad201, e201, hx201_0, hx201_1⟩ := at_T40 HR0.out x35_2 p201 q201
                        cases e201
                        replace hx201_0 := (HB.out.cell (World.block_lt_of_cell? w _ hx201_0)).trans hx201_0
                        replace hx201_1 := (HB.out.cell (World.block_lt_of_cell? w _ hx201_1)).trans hx201_1
                        replace p201 := eq_true p201
                        replace q201 := eq_true q201
                        go_wp2_with (first | ((with_reducible refine gate_dst (N := 8) rfl ?_); (try (refine gate_guard (by rfl) ?_; dsimp only)); refine box_event ?hg (N := 8) ?hd (cs := #[.string (⟨#[]⟩ : ByteArray), .string (⟨#[]⟩ : ByteArray)]) (t := 40) ?hr ?_; (case hd => rfl); (case hg => rfl); (case hr => first | (go_simp; done) | (go_simp; rfl)); intro gb202 hg w31 hbox hb; have n0_ := Aside0.mk (blk_below (g := gb180) (o := .cells #[.bool t170, .bool t171, .bool t172, .bool t173, .bool t174, .bool t175, .int .i64 t176, .int .i64 t177, .int .i64 t178, .int .i64 t179] 29 (0, 0)) (by (with_reducible repeat (first | refine blk_drewN ?_ _ | refine blk_drew ?_ | refine blk_alloc ?_ _)); exact BK180.out) hb); have n1_ := Aside0.mk (blk_below (g := gb200) (o := .cells #[.bool t190, .bool t191, .bool t192, .bool t193, .bool t194, .bool t195, .int .i64 t196, .int .i64 t197, .int .i64 t198, .int .i64 t199] 29 (0, 0)) (by (with_reducible repeat (first | refine blk_drewN ?_ _ | refine blk_drew ?_ | refine blk_alloc ?_ _)); exact BK200.out) hb); have n2_ := Aside0.mk (below_step (by repeat (first | (with_reducible first | exact HB.out | apply below_alloc | apply pw_below_drewN | apply below_drew1 | refine below_set ?_ GE180.out | refine below_set ?_ GE200.out) | exact HB.out)) hb); have n3_ := Aside0.mk (hbox); have n4_ := Aside0.mk ((by rw [hg]; exact (below_size (by repeat (first | (with_reducible first | exact HB.out | apply below_alloc | apply pw_below_drewN | apply below_drew1 | refine below_set ?_ GE180.out | refine below_set ?_ GE200.out) | exact HB.out))) : w.heap.size ≤ gb202)); have n5_ := Aside0.mk ((by rw [hg]; exact (below_size (by repeat (first | (with_reducible first | exact HB.out | apply below_alloc | apply pw_below_drewN | apply below_drew1 | refine below_set ?_ GE180.out | refine below_set ?_ GE200.out) | exact HB.out))) : w.heap.size ≤ gb202)); have n6_ := Aside0.mk ((by rw [hg]; exact Nat.ne_of_lt (blk_lt (g := gb180) (o := .cells #[.bool t170, .bool t171, .bool t172, .bool t173, .bool t174, .bool t175, .int .i64 t176, .int .i64 t177, .int .i64 t178, .int .i64 t179] 29 (0, 0)) (by (with_reducible repeat (first | refine blk_drewN ?_ _ | refine blk_drew ?_ | refine blk_alloc ?_ _)); exact BK180.out)) : gb180 ≠ gb202)); have n7_ := Aside0.mk ((by rw [hg]; exact Nat.ne_of_gt (blk_lt (g := gb180) (o := .cells #[.bool t170, .bool t171, .bool t172, .bool t173, .bool t174, .bool t175, .int .i64 t176, .int .i64 t177, .int .i64 t178, .int .i64 t179] 29 (0, 0)) (by (with_reducible repeat (first | refine blk_drewN ?_ _ | refine blk_drew ?_ | refine blk_alloc ?_ _)); exact BK180.out)) : gb202 ≠ gb180)); have n8_ := Aside0.mk ((by rw [hg]; exact Nat.ne_of_lt (blk_lt (g := gb200) (o := .cells #[.bool t190, .bool t191, .bool t192, .bool t193, .bool t194, .bool t195, .int .i64 t196, .int .i64 t197, .int .i64 t198, .int .i64 t199] 29 (0, 0)) (by (with_reducible repeat (first | refine blk_drewN ?_ _ | refine blk_drew ?_ | refine blk_alloc ?_ _)); exact BK200.out)) : gb200 ≠ gb202)); have n9_ := Aside0.mk ((by rw [hg]; exact Nat.ne_of_gt (blk_lt (g := gb200) (o := .cells #[.bool t190, .bool t191, .bool t192, .bool t193, .bool t194, .bool t195, .int .i64 t196, .int .i64 t197, .int .i64 t198, .int .i64 t199] 29 (0, 0)) (by (with_reducible repeat (first | refine blk_drewN ?_ _ | refine blk_drew ?_ | refine blk_alloc ?_ _)); exact BK200.out)) : gb202 ≠ gb200)); clear BK180; clear BK200; clear HB; have BK180 := n0_; have BK200 := n1_; have HB := n2_; have BK202 := n3_; have GW202 := n4_; have GE202 := n5_; have NB180_202 := n6_; have NB202_180 := n7_; have NB200_202 := n8_; have NB202_200 := n9_; clear n0_ n1_ n2_ n3_ n4_ n5_ n6_ n7_ n8_ n9_; clear hb hbox hg; have hnb32 := NB202_180.out; have hnc32 := NB180_202.out; have hnb33 := NB202_200.out; have hnc33 := NB200_202.out; have hcz34_0 : w31.cell? ⟨gb202, 0, none⟩ = some (.string (⟨#[]⟩ : ByteArray)) := (blk_cell BK202.out 0).trans rfl; have hcz34_1 : w31.cell? ⟨gb202, 1, none⟩ = some (.string (⟨#[]⟩ : ByteArray)) := (blk_cell BK202.out 1).trans rfl; have hfz34_0 := blk_frozen BK202.out 0; have hfz34_1 := blk_frozen BK202.out 1))
                        go_loopg [42] k2 (fun kq v42 w' => ∃ (x42_3 : Int), v42 = .int .i64 x42_3 ∧ Aside0 (pantrylaw04_ControlMore.l1 kq l0 l0 (l0.length : Int) x35_2 (((rd_T40 l0 x35_2).f1).size : Int) x42_3 t170 t171 t172 t173 t174 t175 t176 t177 t178 t179 t190 t191 t192 t193 t194 t195 t196 t197 t198 t199 ((rd_T40 l0 x35_2).f0) ((rd_T40 l0 x35_2).f1) = some r) ∧ Aside0 (kq ≤ k2) ∧ Aside0 (w'.heap[gb180]? = some (.cells #[.bool t170, .bool t171, .bool t172, .bool t173, .bool t174, .bool t175, .int .i64 t176, .int .i64 t177, .int .i64 t178, .int .i64 t179] 29 (0, 0))) ∧ Aside0 (w'.heap[gb200]? = some (.cells #[.bool t190, .bool t191, .bool t192, .bool t193, .bool t194, .bool t195, .int .i64 t196, .int .i64 t197, .int .i64 t198, .int .i64 t199] 29 (0, 0))) ∧ Aside0 (w'.heap[gb202]? = some (.cells #[.string ((rd_T40 l0 x35_2).f0), .string ((rd_T40 l0 x35_2).f1)] 40 (0, 0))) ∧ Aside0 (Below w.heap.size w w'))
                        case atStart => exact ⟨(0), (by first | rfl | (simp; done) | (simp [*]; done)), H', ⟨Nat.le_refl _⟩, ⟨by (with_reducible repeat (first | refine blk_drewN ?_ _ | refine blk_drew ?_ | refine blk_alloc ?_ _)); refine blk_far ?_ NB180_202.out _; (with_reducible repeat (first | refine blk_drewN ?_ _ | refine blk_drew ?_ | refine blk_alloc ?_ _)); refine blk_far ?_ NB180_202.out _; (with_reducible repeat (first | refine blk_drewN ?_ _ | refine blk_drew ?_ | refine blk_alloc ?_ _)); exact BK180.out⟩, ⟨by (with_reducible repeat (first | refine blk_drewN ?_ _ | refine blk_drew ?_ | refine blk_alloc ?_ _)); refine blk_far ?_ NB200_202.out _; (with_reducible repeat (first | refine blk_drewN ?_ _ | refine blk_drew ?_ | refine blk_alloc ?_ _)); refine blk_far ?_ NB200_202.out _; (with_reducible repeat (first | refine blk_drewN ?_ _ | refine blk_drew ?_ | refine blk_alloc ?_ _)); exact BK200.out⟩, ⟨by (with_reducible repeat (first | refine blk_drewN ?_ _ | refine blk_drew ?_ | refine blk_alloc ?_ _)); refine blk_put (cs := #[.string ((rd_T40 l0 x35_2).f0), .string (⟨#[]⟩ : ByteArray)]) ?_ 1 _ rfl; (with_reducible repeat (first | refine blk_drewN ?_ _ | refine blk_drew ?_ | refine blk_alloc ?_ _)); refine blk_put (cs := #[.string (⟨#[]⟩ : ByteArray), .string (⟨#[]⟩ : ByteArray)]) ?_ 0 _ rfl; (with_reducible repeat (first | refine blk_drewN ?_ _ | refine blk_drew ?_ | refine blk_alloc ?_ _)); exact BK202.out⟩, ⟨by repeat (first | (with_reducible first | exact HB.out | apply below_alloc | apply pw_below_drewN | apply below_drew1 | refine below_set ?_ GE180.out | refine below_set ?_ GE200.out | refine below_set ?_ GE202.out) | exact HB.out)⟩⟩
                        case round =>
                          clear H'
                          try clear c1
                          try clear c2
                          try clear p2
                          try clear q2
                          try clear hx2
                          try clear c3
                          try clear c4
                          try clear c5
                          try clear c8
                          try clear c9
                          try clear c10
                          try clear c11
                          try clear c12
                          try clear c13
                          try clear c14
                          try clear p20
                          try clear q20
                          try clear hx20
                          try clear c26
                          try clear c28
                          try clear c28b0
                          try clear c29
                          try clear c29b0
                          try clear c30
                          try clear c30b0
                          try clear c32
                          try clear c33
                          try clear hcz18_0
                          try clear hcz18_1
                          try clear hcz18_2
                          try clear hcz18_3
                          try clear hcz18_4
                          try clear hcz18_5
                          try clear hcz18_6
                          try clear hcz18_7
                          try clear hcz18_8
                          try clear hcz18_9
                          try clear hcz27_0
                          try clear hcz27_1
                          try clear hcz27_2
                          try clear hcz27_3
                          try clear hcz27_4
                          try clear hcz27_5
                          try clear hcz27_6
                          try clear hcz27_7
                          try clear hcz27_8
                          try clear hcz27_9
                          try clear hcz34_0
                          try clear hcz34_1
                          try clear hfz18_0
                          try clear hfz18_1
                          try clear hfz18_2
                          try clear hfz18_3
                          try clear hfz18_4
                          try clear hfz18_5
                          try clear hfz18_6
                          try clear hfz18_7
                          try clear hfz18_8
                          try clear hfz18_9
                          try clear hfz27_0
                          try clear hfz27_1
                          try clear hfz27_2
                          try clear hfz27_3
                          try clear hfz27_4
                          try clear hfz27_5
                          try clear hfz27_6
                          try clear hfz27_7
                          try clear hfz27_8
                          try clear hfz27_9
                          try clear hfz34_0
                          try clear hfz34_1
                          try clear hx201_0
                          try clear hx201_1
                          try clear p2
                          try clear p201
                          try clear q201
                          obtain ⟨x42_3, rfl, HA, HK3, BK180, BK200, BK202, HB⟩ := hrel
                          cases gk with
                          | zero => exact absurd HA.out (by simp [pantrylaw04_ControlMore.l1])
                          | succ k3 =>
                            have H := HA.out
                            clear HA
                            simp only [pantrylaw04_ControlMore.l1] at H
                            by_cases c35 : x42_3 < (((rd_T40 l0 x35_2).f1).size : Int)
                            · rw [if_pos c35] at H
                              have c35b0 : decide (x42_3 < (((rd_T40 l0 x35_2).f1).size : Int)) = true := decide_eq_true c35
                              clear c35
                              by_cases c36 : 0 ≤ x42_3
                              · rw [if_pos c36] at H
                                have c36b0 : decide (0 ≤ x42_3) = true := decide_eq_true c36
                                clear c36
                                by_cases c37 : x42_3 < (((rd_T40 l0 x35_2).f1).size : Int)
                                · rw [if_pos c37] at H
                                  have c37b0 : decide (x42_3 < (((rd_T40 l0 x35_2).f1).size : Int)) = true := decide_eq_true c37
                                  clear c37
                                  by_cases c39 : (bt ((rd_T40 l0 x35_2).f1) x42_3) = 34
                                  · rw [if_pos c39] at H
                                    have c39b0 : ((bt ((rd_T40 l0 x35_2).f1) x42_3) == 34) = true := beq_iff_eq.mpr c39
                                    have c39b1 : ((bt ((rd_T40 l0 x35_2).f1) x42_3) != 34) = false := bne_eq_false_iff_eq.mpr c39
                                    clear c39
                                    obtain rfl := Option.some.inj H
                                    have hnb40 := NB202_180.out
                                    have hnc40 := NB180_202.out
                                    have hnb41 := NB202_200.out
                                    have hnc41 := NB200_202.out
                                    have hcz42_0 : wr.cell? ⟨gb202, 0, none⟩ = some (.string ((rd_T40 l0 x35_2).f0)) := (blk_cell BK202.out 0).trans rfl
                                    have hcz42_1 : wr.cell? ⟨gb202, 1, none⟩ = some (.string ((rd_T40 l0 x35_2).f1)) := (blk_cell BK202.out 1).trans rfl
                                    have hfz42_0 := blk_frozen BK202.out 0
                                    have hfz42_1 := blk_frozen BK202.out 1
                                    have p38 : 0 ≤ (x42_3 : Int) := of_decide_eq_true (by first | (with_reducible assumption) | assumption)
                                    have q38 : x42_3 < (((rd_T40 l0 x35_2).f1).size : Int) := of_decide_eq_true (by first | (with_reducible assumption) | assumption)
                                    have hx38 := bt_at ((rd_T40 l0 x35_2).f1) x42_3
                                    replace p38 := eq_true p38
                                    replace q38 := eq_true q38
                                    go_wp2
                                    go_ret
                                    exact ⟨by first | rfl | (generalize ByteArray.toList _ = l_; cases l_ <;> rfl) | (simp [errW_none, errW_some] <;> rfl) | (simp [*, errW_none, errW_some] <;> rfl), by repeat (first | (with_reducible first | exact HB.out | apply below_alloc | apply pw_below_drewN | apply below_drew1 | refine below_set ?_ GE180.out | refine below_set ?_ GE200.out | refine below_set ?_ GE202.out) | exact HB.out)⟩
                                  · rw [if_neg c39] at H
                                    have c39b0 : ((bt ((rd_T40 l0 x35_2).f1) x42_3) == 34) = false := beq_eq_false_iff_ne.mpr c39
                                    have c39b1 : ((bt ((rd_T40 l0 x35_2).f1) x42_3) != 34) = true := bne_iff_ne.mpr c39
                                    have H' := Aside0.mk H
                                    clear H
                                    have hnb43 := NB202_180.out
                                    have hnc43 := NB180_202.out
                                    have hnb44 := NB202_200.out
                                    have hnc44 := NB200_202.out
                                    have hcz45_0 : wr.cell? ⟨gb202, 0, none⟩ = some (.string ((rd_T40 l0 x35_2).f0)) := (blk_cell BK202.out 0).trans rfl
                                    have hcz45_1 : wr.cell? ⟨gb202, 1, none⟩ = some (.string ((rd_T40 l0 x35_2).f1)) := (blk_cell BK202.out 1).trans rfl
                                    have hfz45_0 := blk_frozen BK202.out 0
                                    have hfz45_1 := blk_frozen BK202.out 1
                                    have p38 : 0 ≤ (x42_3 : Int) := of_decide_eq_true (by first | (with_reducible assumption) | assumption)
                                    have q38 : x42_3 < (((rd_T40 l0 x35_2).f1).size : Int) := of_decide_eq_true (by first | (with_reducible assumption) | assumption)
                                    have hx38 := bt_at ((rd_T40 l0 x35_2).f1) x42_3
                                    replace p38 := eq_true p38
                                    replace q38 := eq_true q38
                                    go_wp2
                                    go_roundg k3
                                    case measure => have := HJ4.out; have := HK2.out; have := HK3.out; omega
                                    case rel => exact ⟨(wrap64 (x42_3 + 1)), (by first | rfl | (simp; done) | (simp [*]; done)), H', ⟨by have := HJ4.out; have := HK2.out; have := HK3.out; omega⟩, ⟨by (with_reducible repeat (first | refine blk_drewN ?_ _ | refine blk_drew ?_ | refine blk_alloc ?_ _)); exact BK180.out⟩, ⟨by (with_reducible repeat (first | refine blk_drewN ?_ _ | refine blk_drew ?_ | refine blk_alloc ?_ _)); exact BK200.out⟩, ⟨by (with_reducible repeat (first | refine blk_drewN ?_ _ | refine blk_drew ?_ | refine blk_alloc ?_ _)); exact BK202.out⟩, ⟨by repeat (first | (with_reducible first | exact HB.out | apply below_alloc | apply pw_below_drewN | apply below_drew1 | refine below_set ?_ GE180.out | refine below_set ?_ GE200.out | refine below_set ?_ GE202.out) | exact HB.out)⟩⟩
                                · rw [if_neg c37] at H
                                  exact absurd H (by simp)
                              · rw [if_neg c36] at H
                                exact absurd H (by simp)
                            · rw [if_neg c35] at H
                              have c35b0 : decide (x42_3 < (((rd_T40 l0 x35_2).f1).size : Int)) = false := decide_eq_false c35
                              clear c35
                              have H' := Aside0.mk H
                              clear H
                              go_wp2
                              go_roundg k3
                              case measure => have := HJ4.out; have := HK2.out; have := HK3.out; omega
                              case rel => exact ⟨(wrap64 (x35_2 + 1)), (by first | rfl | (simp; done) | (simp [*]; done)), H', ⟨by have := HJ4.out; have := HK2.out; have := HK3.out; omega⟩, ⟨by (with_reducible repeat (first | refine blk_drewN ?_ _ | refine blk_drew ?_ | refine blk_alloc ?_ _)); exact BK180.out⟩, ⟨by (with_reducible repeat (first | refine blk_drewN ?_ _ | refine blk_drew ?_ | refine blk_alloc ?_ _)); exact BK200.out⟩, ⟨by repeat (first | (with_reducible first | exact HB.out | apply below_alloc | apply pw_below_drewN | apply below_drew1 | refine below_set ?_ GE180.out | refine below_set ?_ GE200.out | refine below_set ?_ GE202.out) | exact HB.out)⟩⟩
                      · rw [if_neg c30] at H
                        exact absurd H (by simp)
                    · rw [if_neg c29] at H
                      exact absurd H (by simp)
                  · rw [if_neg c28] at H
                    have c28b0 : decide (x35_2 < (l0.length : Int)) = false := decide_eq_false c28
                    clear c28
                    replace H := Option.bind_eq_some_iff.mp H
                    obtain ⟨⟨t203, t204⟩, A460, H⟩ := H
                    replace H : (if t204 = true then (if moreOk t170 t171 t172 t173 t174 t175 t176 t177 t178 t179 t190 t191 t192 t193 t194 t195 t196 t197 t198 t199 = true then some true else none) else (if moreOk t170 false t172 t173 t174 t175 t176 t177 t178 t179 t190 t191 t192 t193 t194 t195 t196 t197 t198 t199 = true then some true else none)) = some r := H
                    have A46 := Aside0.mk A460
                    clear A460
                    by_cases c47 : t204 = true
                    · subst c47
                      have H1 : (if moreOk t170 t171 t172 t173 t174 t175 t176 t177 t178 t179 t190 t191 t192 t193 t194 t195 t196 t197 t198 t199 = true then some true else none) = some r := by rw [if_pos rfl] at H; exact H
                      clear H
                      have H := H1
                      clear H1
                      by_cases hM : moreOk t170 t171 t172 t173 t174 t175 t176 t177 t178 t179 t190 t191 t192 t193 t194 t195 t196 t197 t198 t199 = true
                      case neg => rw [if_neg hM] at H; cases H
                      rw [if_pos hM] at H
                      obtain rfl := Option.some.inj H
                      clear H
                      obtain ⟨m0, m1, m2, m3, m4, m5, m6, m7, m9, m8⟩ := moreOk_split hM
                      clear hM
                      have L6 := Aside0.mk m6
                      have L7 := Aside0.mk m7
                      have L9 := Aside0.mk m9
                      have D8 := Aside0.mk m8
                      have M0 := Aside0.mk m0
                      have M1 := Aside0.mk m1
                      have M2 := Aside0.mk m2
                      have M3 := Aside0.mk m3
                      have M4 := Aside0.mk m4
                      have M5 := Aside0.mk m5
                      clear m0 m1 m2 m3 m4 m5 m6 m7 m8 m9
                      go_upto_region 21 with (first | ((with_reducible refine gate_callee (f := 17) rfl ?_); refine goesL_ (some 54) rfl rfl Tryd.func17 (by kernel_rfl) rfl #[.slice A0 l0.length c0, .string (⟨#[67, 97, 99, 104, 101, 45, 67, 111, 110, 116, 114, 111, 108]⟩ : ByteArray)] rfl (by (try simp only [List.map_toArray, List.map_cons, List.map_nil]); first | done | rfl | (simp only [List.length_drop, List.length_take]; rfl)) ?_; (with_reducible refine (field_List_Get.calls k2 _ _ l0 (⟨#[67, 97, 99, 104, 101, 45, 67, 111, 110, 116, 114, 111, 108]⟩ : ByteArray) t203 true _ ?side1 ?side2 A46.out).mono ?_); (case side1 => repeat (first | exact (Kd.C_below HR0.out HB.out) | (with_reducible refine Kd.C_alloc ?_ _) | (with_reducible refine Kd.C_drewN ?_ _) | (with_reducible refine Kd.C_drew ?_))); (case side2 => exact HC0.out); rintro e w49 ⟨rfl, hb⟩; refine ⟨_, rfl, ?_⟩; have n0_ := Aside0.mk (blk_below (g := gb180) (o := .cells #[.bool t170, .bool t171, .bool t172, .bool t173, .bool t174, .bool t175, .int .i64 t176, .int .i64 t177, .int .i64 t178, .int .i64 t179] 29 (0, 0)) (by (with_reducible repeat (first | refine blk_drewN ?_ _ | refine blk_drew ?_ | refine blk_alloc ?_ _)); exact BK180.out) hb); have n1_ := Aside0.mk (blk_below (g := gb200) (o := .cells #[.bool t190, .bool t191, .bool t192, .bool t193, .bool t194, .bool t195, .int .i64 t196, .int .i64 t197, .int .i64 t198, .int .i64 t199] 29 (0, 0)) (by (with_reducible repeat (first | refine blk_drewN ?_ _ | refine blk_drew ?_ | refine blk_alloc ?_ _)); exact BK200.out) hb); have n2_ := Aside0.mk (below_step (by repeat (first | (with_reducible first | exact HB.out | apply below_alloc | apply pw_below_drewN | apply below_drew1 | refine below_set ?_ GE180.out | refine below_set ?_ GE200.out) | exact HB.out)) hb); clear BK180; clear BK200; clear HB; have BK180 := n0_; have BK200 := n1_; have HB := n2_; clear n0_ n1_ n2_; (try clear hb); (try clear hb2); (try clear hk); (try clear hi); have hnb50 := NB180_200.out; have hnc50 := NB200_180.out; have hcz51_0 : w49.cell? ⟨gb180, 0, none⟩ = some (.bool t170) := (blk_cell BK180.out 0).trans rfl; have hcz51_1 : w49.cell? ⟨gb180, 1, none⟩ = some (.bool t171) := (blk_cell BK180.out 1).trans rfl; have hcz51_2 : w49.cell? ⟨gb180, 2, none⟩ = some (.bool t172) := (blk_cell BK180.out 2).trans rfl; have hcz51_3 : w49.cell? ⟨gb180, 3, none⟩ = some (.bool t173) := (blk_cell BK180.out 3).trans rfl; have hcz51_4 : w49.cell? ⟨gb180, 4, none⟩ = some (.bool t174) := (blk_cell BK180.out 4).trans rfl; have hcz51_5 : w49.cell? ⟨gb180, 5, none⟩ = some (.bool t175) := (blk_cell BK180.out 5).trans rfl; have hcz51_6 : w49.cell? ⟨gb180, 6, none⟩ = some (.int .i64 t176) := (blk_cell BK180.out 6).trans rfl; have hcz51_7 : w49.cell? ⟨gb180, 7, none⟩ = some (.int .i64 t177) := (blk_cell BK180.out 7).trans rfl; have hcz51_8 : w49.cell? ⟨gb180, 8, none⟩ = some (.int .i64 t178) := (blk_cell BK180.out 8).trans rfl; have hcz51_9 : w49.cell? ⟨gb180, 9, none⟩ = some (.int .i64 t179) := (blk_cell BK180.out 9).trans rfl; have hfz51_0 := blk_frozen BK180.out 0; have hfz51_1 := blk_frozen BK180.out 1; have hfz51_2 := blk_frozen BK180.out 2; have hfz51_3 := blk_frozen BK180.out 3; have hfz51_4 := blk_frozen BK180.out 4; have hfz51_5 := blk_frozen BK180.out 5; have hfz51_6 := blk_frozen BK180.out 6; have hfz51_7 := blk_frozen BK180.out 7; have hfz51_8 := blk_frozen BK180.out 8; have hfz51_9 := blk_frozen BK180.out 9; have hcz52_0 : w49.cell? ⟨gb200, 0, none⟩ = some (.bool t190) := (blk_cell BK200.out 0).trans rfl; have hcz52_1 : w49.cell? ⟨gb200, 1, none⟩ = some (.bool t191) := (blk_cell BK200.out 1).trans rfl; have hcz52_2 : w49.cell? ⟨gb200, 2, none⟩ = some (.bool t192) := (blk_cell BK200.out 2).trans rfl; have hcz52_3 : w49.cell? ⟨gb200, 3, none⟩ = some (.bool t193) := (blk_cell BK200.out 3).trans rfl; have hcz52_4 : w49.cell? ⟨gb200, 4, none⟩ = some (.bool t194) := (blk_cell BK200.out 4).trans rfl; have hcz52_5 : w49.cell? ⟨gb200, 5, none⟩ = some (.bool t195) := (blk_cell BK200.out 5).trans rfl; have hcz52_6 : w49.cell? ⟨gb200, 6, none⟩ = some (.int .i64 t196) := (blk_cell BK200.out 6).trans rfl; have hcz52_7 : w49.cell? ⟨gb200, 7, none⟩ = some (.int .i64 t197) := (blk_cell BK200.out 7).trans rfl; have hcz52_8 : w49.cell? ⟨gb200, 8, none⟩ = some (.int .i64 t198) := (blk_cell BK200.out 8).trans rfl; have hcz52_9 : w49.cell? ⟨gb200, 9, none⟩ = some (.int .i64 t199) := (blk_cell BK200.out 9).trans rfl; have hfz52_0 := blk_frozen BK200.out 0; have hfz52_1 := blk_frozen BK200.out 1; have hfz52_2 := blk_frozen BK200.out 2; have hfz52_3 := blk_frozen BK200.out 3; have hfz52_4 := blk_frozen BK200.out 4; have hfz52_5 := blk_frozen BK200.out 5; have hfz52_6 := blk_frozen BK200.out 6; have hfz52_7 := blk_frozen BK200.out 7; have hfz52_8 := blk_frozen BK200.out 8; have hfz52_9 := blk_frozen BK200.out 9))
                      have d8 := D8.out
                      clear A46 HJ4 HK2 HR0 HC0
                      clear BK180 BK200
                      rename_i hK
                      refine wp_region_list ?_
                      refine blockA (c := 59) (f := 0) (gi := 0) (hi := 3) (g5 := gb180) (g6 := gb200) (by decide) (by decide) (by decide) rfl rfl rfl rfl rfl rfl hcz51_0 hcz52_0 M0.out fun F0 X0 => ?_
                      refine blockB (c := 67) (f := 1) (gi := 7) (hi := 11) (g5 := gb180) (g6 := gb200) (by decide) (by decide) (by decide) X0.size X0.defers X0.p5 X0.p6 X0.p12 X0.at_ rfl rfl hcz51_1 hcz52_1 M1.out fun F1 X1 => ?_
                      refine blockB (c := 76) (f := 2) (gi := 16) (hi := 20) (g5 := gb180) (g6 := gb200) (by decide) (by decide) (by decide) X1.size X1.defers X1.p5 X1.p6 X1.p12 X1.at_ rfl rfl hcz51_2 hcz52_2 M2.out fun F2 X2 => ?_
                      refine blockB (c := 85) (f := 3) (gi := 25) (hi := 29) (g5 := gb180) (g6 := gb200) (by decide) (by decide) (by decide) X2.size X2.defers X2.p5 X2.p6 X2.p12 X2.at_ rfl rfl hcz51_3 hcz52_3 M3.out fun F3 X3 => ?_
                      refine blockB (c := 94) (f := 4) (gi := 34) (hi := 38) (g5 := gb180) (g6 := gb200) (by decide) (by decide) (by decide) X3.size X3.defers X3.p5 X3.p6 X3.p12 X3.at_ rfl rfl hcz51_4 hcz52_4 M4.out fun F4 X4 => ?_
                      refine blockB (c := 103) (f := 5) (gi := 43) (hi := 47) (g5 := gb180) (g6 := gb200) (by decide) (by decide) (by decide) X4.size X4.defers X4.p5 X4.p6 X4.p12 X4.at_ rfl rfl hcz51_5 hcz52_5 M5.out fun F5 X5 => ?_
                      refine blockC (c := 112) (f := 6) (gi := 52) (g5 := gb180) (g6 := gb200) (by decide) (by decide) (by decide) X5 rfl hcz51_6 hcz52_6 L6.out fun F6 m6 X6 => ?_
                      refine blockC (c := 120) (f := 7) (gi := 60) (g5 := gb180) (g6 := gb200) (by decide) (by decide) (by decide) X6 rfl hcz51_7 hcz52_7 L7.out fun F7 m7 X7 => ?_
                      refine blockC (c := 128) (f := 9) (gi := 68) (g5 := gb180) (g6 := gb200) (by decide) (by decide) (by decide) X7 rfl hcz51_9 hcz52_9 L9.out fun F8 m8 X8 => ?_
                      refine blockE (c := 136) (f := 8) (gi := 76) (g5 := gb180) (g6 := gb200) (by decide) (by decide) (by decide) X8 rfl hcz51_8 hcz52_8 d8 fun F9 hd9 h49 => ?_
                      refine hK _ _ ?_
                      refine wp_ret ?_
                      refine bodyPost_ret (results_tmp rfl _ _ _) hd9 ?_
                      exact ⟨congrArg Ending.returned (eval_at h49), by repeat (first | (with_reducible first | exact HB.out | apply below_alloc | apply pw_below_drewN | apply below_drew1 | refine below_set ?_ GE180.out | refine below_set ?_ GE200.out) | exact HB.out)⟩
                    · replace c47 := Bool.eq_false_iff.mpr c47
                      subst c47
                      have H1 : (if moreOk t170 false t172 t173 t174 t175 t176 t177 t178 t179 t190 t191 t192 t193 t194 t195 t196 t197 t198 t199 = true then some true else none) = some r := by rw [if_neg (show ¬ (false = true) by decide)] at H; exact H
                      clear H
                      have H := H1
                      clear H1
                      by_cases hM : moreOk t170 false t172 t173 t174 t175 t176 t177 t178 t179 t190 t191 t192 t193 t194 t195 t196 t197 t198 t199 = true
                      case neg => rw [if_neg hM] at H; cases H
                      rw [if_pos hM] at H
                      obtain rfl := Option.some.inj H
                      clear H
                      obtain ⟨m0, m1, m2, m3, m4, m5, m6, m7, m9, m8⟩ := moreOk_split hM
                      clear hM
                      have L6 := Aside0.mk m6
                      have L7 := Aside0.mk m7
                      have L9 := Aside0.mk m9
                      have D8 := Aside0.mk m8
                      have M0 := Aside0.mk m0
                      have M1 := Aside0.mk m1
                      have M2 := Aside0.mk m2
                      have M3 := Aside0.mk m3
                      have M4 := Aside0.mk m4
                      have M5 := Aside0.mk m5
                      clear m0 m1 m2 m3 m4 m5 m6 m7 m8 m9
                      go_upto_region 21 with (first | ((with_reducible refine gate_callee (f := 17) rfl ?_); refine goesL_ (some 54) rfl rfl Tryd.func17 (by kernel_rfl) rfl #[.slice A0 l0.length c0, .string (⟨#[67, 97, 99, 104, 101, 45, 67, 111, 110, 116, 114, 111, 108]⟩ : ByteArray)] rfl (by (try simp only [List.map_toArray, List.map_cons, List.map_nil]); first | done | rfl | (simp only [List.length_drop, List.length_take]; rfl)) ?_; (with_reducible refine (field_List_Get.calls k2 _ _ l0 (⟨#[67, 97, 99, 104, 101, 45, 67, 111, 110, 116, 114, 111, 108]⟩ : ByteArray) t203 false _ ?side1 ?side2 A46.out).mono ?_); (case side1 => repeat (first | exact (Kd.C_below HR0.out HB.out) | (with_reducible refine Kd.C_alloc ?_ _) | (with_reducible refine Kd.C_drewN ?_ _) | (with_reducible refine Kd.C_drew ?_))); (case side2 => exact HC0.out); rintro e w54 ⟨rfl, hb⟩; refine ⟨_, rfl, ?_⟩; have n0_ := Aside0.mk (blk_below (g := gb180) (o := .cells #[.bool t170, .bool t171, .bool t172, .bool t173, .bool t174, .bool t175, .int .i64 t176, .int .i64 t177, .int .i64 t178, .int .i64 t179] 29 (0, 0)) (by (with_reducible repeat (first | refine blk_drewN ?_ _ | refine blk_drew ?_ | refine blk_alloc ?_ _)); exact BK180.out) hb); have n1_ := Aside0.mk (blk_below (g := gb200) (o := .cells #[.bool t190, .bool t191, .bool t192, .bool t193, .bool t194, .bool t195, .int .i64 t196, .int .i64 t197, .int .i64 t198, .int .i64 t199] 29 (0, 0)) (by (with_reducible repeat (first | refine blk_drewN ?_ _ | refine blk_drew ?_ | refine blk_alloc ?_ _)); exact BK200.out) hb); have n2_ := Aside0.mk (below_step (by repeat (first | (with_reducible first | exact HB.out | apply below_alloc | apply pw_below_drewN | apply below_drew1 | refine below_set ?_ GE180.out | refine below_set ?_ GE200.out) | exact HB.out)) hb); clear BK180; clear BK200; clear HB; have BK180 := n0_; have BK200 := n1_; have HB := n2_; clear n0_ n1_ n2_; (try clear hb); (try clear hb2); (try clear hk); (try clear hi); have hnb55 := NB180_200.out; have hnc55 := NB200_180.out; have hcz56_0 : w54.cell? ⟨gb180, 0, none⟩ = some (.bool t170) := (blk_cell BK180.out 0).trans rfl; have hcz56_1 : w54.cell? ⟨gb180, 1, none⟩ = some (.bool t171) := (blk_cell BK180.out 1).trans rfl; have hcz56_2 : w54.cell? ⟨gb180, 2, none⟩ = some (.bool t172) := (blk_cell BK180.out 2).trans rfl; have hcz56_3 : w54.cell? ⟨gb180, 3, none⟩ = some (.bool t173) := (blk_cell BK180.out 3).trans rfl; have hcz56_4 : w54.cell? ⟨gb180, 4, none⟩ = some (.bool t174) := (blk_cell BK180.out 4).trans rfl; have hcz56_5 : w54.cell? ⟨gb180, 5, none⟩ = some (.bool t175) := (blk_cell BK180.out 5).trans rfl; have hcz56_6 : w54.cell? ⟨gb180, 6, none⟩ = some (.int .i64 t176) := (blk_cell BK180.out 6).trans rfl; have hcz56_7 : w54.cell? ⟨gb180, 7, none⟩ = some (.int .i64 t177) := (blk_cell BK180.out 7).trans rfl; have hcz56_8 : w54.cell? ⟨gb180, 8, none⟩ = some (.int .i64 t178) := (blk_cell BK180.out 8).trans rfl; have hcz56_9 : w54.cell? ⟨gb180, 9, none⟩ = some (.int .i64 t179) := (blk_cell BK180.out 9).trans rfl; have hfz56_0 := blk_frozen BK180.out 0; have hfz56_1 := blk_frozen BK180.out 1; have hfz56_2 := blk_frozen BK180.out 2; have hfz56_3 := blk_frozen BK180.out 3; have hfz56_4 := blk_frozen BK180.out 4; have hfz56_5 := blk_frozen BK180.out 5; have hfz56_6 := blk_frozen BK180.out 6; have hfz56_7 := blk_frozen BK180.out 7; have hfz56_8 := blk_frozen BK180.out 8; have hfz56_9 := blk_frozen BK180.out 9; have hcz57_0 : w54.cell? ⟨gb200, 0, none⟩ = some (.bool t190) := (blk_cell BK200.out 0).trans rfl; have hcz57_1 : w54.cell? ⟨gb200, 1, none⟩ = some (.bool t191) := (blk_cell BK200.out 1).trans rfl; have hcz57_2 : w54.cell? ⟨gb200, 2, none⟩ = some (.bool t192) := (blk_cell BK200.out 2).trans rfl; have hcz57_3 : w54.cell? ⟨gb200, 3, none⟩ = some (.bool t193) := (blk_cell BK200.out 3).trans rfl; have hcz57_4 : w54.cell? ⟨gb200, 4, none⟩ = some (.bool t194) := (blk_cell BK200.out 4).trans rfl; have hcz57_5 : w54.cell? ⟨gb200, 5, none⟩ = some (.bool t195) := (blk_cell BK200.out 5).trans rfl; have hcz57_6 : w54.cell? ⟨gb200, 6, none⟩ = some (.int .i64 t196) := (blk_cell BK200.out 6).trans rfl; have hcz57_7 : w54.cell? ⟨gb200, 7, none⟩ = some (.int .i64 t197) := (blk_cell BK200.out 7).trans rfl; have hcz57_8 : w54.cell? ⟨gb200, 8, none⟩ = some (.int .i64 t198) := (blk_cell BK200.out 8).trans rfl; have hcz57_9 : w54.cell? ⟨gb200, 9, none⟩ = some (.int .i64 t199) := (blk_cell BK200.out 9).trans rfl; have hfz57_0 := blk_frozen BK200.out 0; have hfz57_1 := blk_frozen BK200.out 1; have hfz57_2 := blk_frozen BK200.out 2; have hfz57_3 := blk_frozen BK200.out 3; have hfz57_4 := blk_frozen BK200.out 4; have hfz57_5 := blk_frozen BK200.out 5; have hfz57_6 := blk_frozen BK200.out 6; have hfz57_7 := blk_frozen BK200.out 7; have hfz57_8 := blk_frozen BK200.out 8; have hfz57_9 := blk_frozen BK200.out 9))
                      have d8 := D8.out
                      clear A46 HJ4 HK2 HR0 HC0
                      clear BK180 BK200
                      rename_i hK
                      have hnbX := NB180_200.out
                      refine wp_region_list ?_
                      refine blockA (c := 59) (f := 0) (gi := 0) (hi := 3) (g5 := gb180) (g6 := gb200) (by decide) (by decide) (by decide) rfl rfl rfl rfl rfl rfl ((World.cell?_setCell_other _ _ _ _ (by intro hq; cases hq)).trans hcz56_0) ((World.cell?_setCell_far _ _ _ _ hnbX).trans hcz57_0) M0.out fun F0 X0 => ?_
                      refine blockB (c := 67) (f := 1) (gi := 7) (hi := 11) (g5 := gb180) (g6 := gb200) (by decide) (by decide) (by decide) X0.size X0.defers X0.p5 X0.p6 X0.p12 X0.at_ rfl rfl (World.cell?_setCell_same _ _ _ hcz56_1) ((World.cell?_setCell_far _ _ _ _ hnbX).trans hcz57_1) (Or.inl rfl) fun F1 X1 => ?_
                      refine blockB (c := 76) (f := 2) (gi := 16) (hi := 20) (g5 := gb180) (g6 := gb200) (by decide) (by decide) (by decide) X1.size X1.defers X1.p5 X1.p6 X1.p12 X1.at_ rfl rfl ((World.cell?_setCell_other _ _ _ _ (by intro hq; cases hq)).trans hcz56_2) ((World.cell?_setCell_far _ _ _ _ hnbX).trans hcz57_2) M2.out fun F2 X2 => ?_
                      refine blockB (c := 85) (f := 3) (gi := 25) (hi := 29) (g5 := gb180) (g6 := gb200) (by decide) (by decide) (by decide) X2.size X2.defers X2.p5 X2.p6 X2.p12 X2.at_ rfl rfl ((World.cell?_setCell_other _ _ _ _ (by intro hq; cases hq)).trans hcz56_3) ((World.cell?_setCell_far _ _ _ _ hnbX).trans hcz57_3) M3.out fun F3 X3 => ?_
                      refine blockB (c := 94) (f := 4) (gi := 34) (hi := 38) (g5 := gb180) (g6 := gb200) (by decide) (by decide) (by decide) X3.size X3.defers X3.p5 X3.p6 X3.p12 X3.at_ rfl rfl ((World.cell?_setCell_other _ _ _ _ (by intro hq; cases hq)).trans hcz56_4) ((World.cell?_setCell_far _ _ _ _ hnbX).trans hcz57_4) M4.out fun F4 X4 => ?_
                      refine blockB (c := 103) (f := 5) (gi := 43) (hi := 47) (g5 := gb180) (g6 := gb200) (by decide) (by decide) (by decide) X4.size X4.defers X4.p5 X4.p6 X4.p12 X4.at_ rfl rfl ((World.cell?_setCell_other _ _ _ _ (by intro hq; cases hq)).trans hcz56_5) ((World.cell?_setCell_far _ _ _ _ hnbX).trans hcz57_5) M5.out fun F5 X5 => ?_
                      refine blockC (c := 112) (f := 6) (gi := 52) (g5 := gb180) (g6 := gb200) (by decide) (by decide) (by decide) X5 rfl ((World.cell?_setCell_other _ _ _ _ (by intro hq; cases hq)).trans hcz56_6) ((World.cell?_setCell_far _ _ _ _ hnbX).trans hcz57_6) L6.out fun F6 m6 X6 => ?_
                      refine blockC (c := 120) (f := 7) (gi := 60) (g5 := gb180) (g6 := gb200) (by decide) (by decide) (by decide) X6 rfl ((World.cell?_setCell_other _ _ _ _ (by intro hq; cases hq)).trans hcz56_7) ((World.cell?_setCell_far _ _ _ _ hnbX).trans hcz57_7) L7.out fun F7 m7 X7 => ?_
                      refine blockC (c := 128) (f := 9) (gi := 68) (g5 := gb180) (g6 := gb200) (by decide) (by decide) (by decide) X7 rfl ((World.cell?_setCell_other _ _ _ _ (by intro hq; cases hq)).trans hcz56_9) ((World.cell?_setCell_far _ _ _ _ hnbX).trans hcz57_9) L9.out fun F8 m8 X8 => ?_
                      refine blockE (c := 136) (f := 8) (gi := 76) (g5 := gb180) (g6 := gb200) (by decide) (by decide) (by decide) X8 rfl ((World.cell?_setCell_other _ _ _ _ (by intro hq; cases hq)).trans hcz56_8) ((World.cell?_setCell_far _ _ _ _ hnbX).trans hcz57_8) d8 fun F9 hd9 h49 => ?_
                      refine hK _ _ ?_
                      refine wp_ret ?_
                      refine bodyPost_ret (results_tmp rfl _ _ _) hd9 ?_
                      exact ⟨congrArg Ending.returned (eval_at h49), by repeat (first | (with_reducible first | exact HB.out | apply below_alloc | apply pw_below_drewN | apply below_drew1 | refine below_set ?_ GE180.out | refine below_set ?_ GE200.out) | exact HB.out)⟩
            · rw [if_neg c14] at H
              exact absurd H (by simp)
          · rw [if_neg c13] at H
            exact absurd H (by simp)
  · replace c4 := Bool.eq_false_iff.mpr c4
    subst c4
    have H1 : (none) = some r := by rw [if_neg (show ¬ (false = true) by decide)] at H; exact H
    clear H
    have H := H1
    clear H1
    exact absurd H (by simp)

end Go.Proofs.YtboeabdfnijaaaaDoor.PAll
