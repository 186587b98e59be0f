-- Text by a program of this session, over what print.py prints.
import Derived.Deep.Cut
import Derived.Deep.CutRange
import Derived.Deep.CutBlock
import Derived.Test.YtfcifigemiafgaaDoorPAllx0
import Derived.Test.YtfcifigemiafgaaDoorPAllx1
import Derived.Test.YtfcifigemiafgaaDoorPAllx2
import Derived.Test.YtfcifigemiafgaaDoorPAllx12
import Derived.Test.YtfcifigemiafgaaDoorPAllx13
import Derived.Test.YtfcifigemiafgaaDoorPAllx15
namespace Go.Proofs.YtfcifigemiafgaaDoor.PAll
open Go.RowKit Go.Proofs.YtfcifigemiafgaaDoorW.PrintWords Go.Proofs.YtfcifigemiafgaaDoorW.PrintLast Go.Proofs.YtfcifigemiafgaaDoorW.PrintMore
attribute [local go_sem] max2_int min2_int max_two min_two max_three min_three max_four min_four   -- for this text's walks alone
set_option linter.unusedVariables false
set_option linter.unusedSimpArgs false

attribute [local go_sem high] eqA48
/-! ### pantrylaw09_ConfRows: function 5 -/
mutual
def pantrylaw09_ConfRows.j0 : Nat → ByteArray → ByteArray → Bool → Option (Bool)
 | 0, _, _, _ => none
 | k + 1, x0, x1, x27 => if x27 = true then (some true) else (if x0.size + 1 ≤ 9223372036854775807 then ((conf_Read.f k (x0 ++ (⟨#[10]⟩ : ByteArray))).bind fun bt190 => ((conf_Read.f k x1).bind fun bt197 => (if bt190.2.1 = 0 then (if bt197.2.1 = 0 then (pantrylaw09_ConfRows.j1 k x0 x1 (decide ((wrap64 ((bt190.1.length : Int) + (bt197.1.length : Int))) > 8)) bt190.1 bt197.1) else (pantrylaw09_ConfRows.j1 k x0 x1 true bt190.1 bt197.1)) else (pantrylaw09_ConfRows.j1 k x0 x1 true bt190.1 bt197.1)))) else (none))
def pantrylaw09_ConfRows.j1 : Nat → ByteArray → ByteArray → Bool → List (S29) → List (S29) → Option (Bool)
 | 0, _, _, _, _, _ => none
 | k + 1, x0, x1, x56, x196000, x203000 => if x56 = true then (some true) else (pantrylaw09_ConfRows.l0 k x0 x1 x196000 (x196000.length : Int) 0 x196000 x203000)
def pantrylaw09_ConfRows.l0 : Nat → ByteArray → ByteArray → List (S29) → Int → Int → List (S29) → List (S29) → Option (Bool)
 | 0, _, _, _, _, _, _, _ => none
 | k + 1, x0, x1, x58, x59, x60, x196000, x203000 => if x60 < x59 then (if 0 ≤ x60 then (if x60 < (x58.length : Int) then ((conf_Config_Find.f k x203000 ((rd_T29 x58 x60).f0)).bind fun bt206 => (if bt206.2.2.2.2.2.2.2 = true then (if x0.size + 1 ≤ 9223372036854775807 then (if (x0 ++ (⟨#[10]⟩ : ByteArray)).size + x1.size ≤ 9223372036854775807 then ((conf_Read.f k ((x0 ++ (⟨#[10]⟩ : ByteArray)) ++ x1)).bind fun bt217 => (some (bt217.2.1 == 31))) else (none)) else (none)) else (pantrylaw09_ConfRows.l0 k x0 x1 x58 x59 (wrap64 (x60 + 1)) x196000 x203000))) else (none)) else (none)) else (if x0.size + 1 ≤ 9223372036854775807 then (if (x0 ++ (⟨#[10]⟩ : ByteArray)).size + x1.size ≤ 9223372036854775807 then ((conf_Read.f k ((x0 ++ (⟨#[10]⟩ : ByteArray)) ++ x1)).bind fun bt224 => ((some (([] : List (S29)) : List (S29))).bind fun y231 => (if y231.length + x196000.length < 1954687338268 then ((some (y231 ++ x196000 : List (S29))).bind fun y234 => (if y234.length + x203000.length < 1954687338268 then (if (bt224.2.1 == 0 && (bt224.2.2 == 0)) = true then ((pantrymade_Config.f k bt224.1).bind fun t241 => ((pantrymade_Config.f k (y234 ++ x203000)).bind fun t244 => ((pantryref09_Same.f k t241 t244).bind fun t247 => (some t247)))) else (none)) else (none))) else (none)))) else (none)) else (none))
end
def pantrylaw09_ConfRows.f (k : Nat) (a0 : ByteArray) (a1 : ByteArray) : Option (Bool) := (pantrylaw09_anchor.f k).bind fun t189 => (if t189 = true then (if (a0.size : Int) > 1500 then (pantrylaw09_ConfRows.j0 k a0 a1 true) else (pantrylaw09_ConfRows.j0 k a0 a1 (decide ((a1.size : Int) > 1500)))) else (none))
theorem pantrylaw09_ConfRows.mono_l : ∀ k, (∀ y0 y1 y2, LeO (pantrylaw09_ConfRows.j0 k y0 y1 y2) (pantrylaw09_ConfRows.j0 (k + 1) y0 y1 y2)) ∧ (∀ y0 y1 y2 y3 y4, LeO (pantrylaw09_ConfRows.j1 k y0 y1 y2 y3 y4) (pantrylaw09_ConfRows.j1 (k + 1) y0 y1 y2 y3 y4)) ∧ (∀ y0 y1 y2 y3 y4 y5 y6, LeO (pantrylaw09_ConfRows.l0 k y0 y1 y2 y3 y4 y5 y6) (pantrylaw09_ConfRows.l0 (k + 1) y0 y1 y2 y3 y4 y5 y6))
 | 0 => ⟨fun _ _ _ r h => by simp [pantrylaw09_ConfRows.j0] at h, fun _ _ _ _ _ r h => by simp [pantrylaw09_ConfRows.j1] at h, fun _ _ _ _ _ _ _ r h => by simp [pantrylaw09_ConfRows.l0] at h⟩
 | k + 1 => by
  obtain ⟨ih0, ih1, ih2⟩ := pantrylaw09_ConfRows.mono_l k
  refine ⟨?_, ?_, ?_⟩
  ·
   intro y0 y1 y2
   unfold pantrylaw09_ConfRows.j0
   repeat' first
   | (with_reducible exact ih0 _ _ _)
   | (with_reducible exact ih1 _ _ _ _ _)
   | (with_reducible exact ih2 _ _ _ _ _ _ _)
   | (with_reducible exact conf_Config_Find.mono _ _ _)
   | (with_reducible exact conf_Read.mono _ _)
   | (with_reducible exact pantrylaw09_anchor.mono _)
   | (with_reducible exact pantrymade_Config.mono _ _)
   | (with_reducible exact pantryref09_Same.mono _ _ _)
   | (with_reducible exact LeO.refl _)
   | (with_reducible exact LeO.none _)
   | (with_reducible refine LeO.ite ?_ ?_)
   | (with_reducible refine LeO.bind ?_ (fun _ => ?_))
   | exact ih0 _ _ _
   | exact ih1 _ _ _ _ _
   | exact ih2 _ _ _ _ _ _ _
   | exact conf_Config_Find.mono _ _ _
   | exact conf_Read.mono _ _
   | exact pantrylaw09_anchor.mono _
   | exact pantrymade_Config.mono _ _
   | exact pantryref09_Same.mono _ _ _
   | exact LeO.none _
   | refine LeO.ite ?_ ?_
   | refine LeO.bind ?_ (fun _ => ?_)
  ·
   intro y0 y1 y2 y3 y4
   unfold pantrylaw09_ConfRows.j1
   repeat' first
   | (with_reducible exact ih0 _ _ _)
   | (with_reducible exact ih1 _ _ _ _ _)
   | (with_reducible exact ih2 _ _ _ _ _ _ _)
   | (with_reducible exact conf_Config_Find.mono _ _ _)
   | (with_reducible exact conf_Read.mono _ _)
   | (with_reducible exact pantrylaw09_anchor.mono _)
   | (with_reducible exact pantrymade_Config.mono _ _)
   | (with_reducible exact pantryref09_Same.mono _ _ _)
   | (with_reducible exact LeO.refl _)
   | (with_reducible exact LeO.none _)
   | (with_reducible refine LeO.ite ?_ ?_)
   | (with_reducible refine LeO.bind ?_ (fun _ => ?_))
   | exact ih0 _ _ _
   | exact ih1 _ _ _ _ _
   | exact ih2 _ _ _ _ _ _ _
   | exact conf_Config_Find.mono _ _ _
   | exact conf_Read.mono _ _
   | exact pantrylaw09_anchor.mono _
   | exact pantrymade_Config.mono _ _
   | exact pantryref09_Same.mono _ _ _
   | exact LeO.none _
   | refine LeO.ite ?_ ?_
   | refine LeO.bind ?_ (fun _ => ?_)
  ·
   intro y0 y1 y2 y3 y4 y5 y6
   unfold pantrylaw09_ConfRows.l0
   repeat' first
   | (with_reducible exact ih0 _ _ _)
   | (with_reducible exact ih1 _ _ _ _ _)
   | (with_reducible exact ih2 _ _ _ _ _ _ _)
   | (with_reducible exact conf_Config_Find.mono _ _ _)
   | (with_reducible exact conf_Read.mono _ _)
   | (with_reducible exact pantrylaw09_anchor.mono _)
   | (with_reducible exact pantrymade_Config.mono _ _)
   | (with_reducible exact pantryref09_Same.mono _ _ _)
   | (with_reducible exact LeO.refl _)
   | (with_reducible exact LeO.none _)
   | (with_reducible refine LeO.ite ?_ ?_)
   | (with_reducible refine LeO.bind ?_ (fun _ => ?_))
   | exact ih0 _ _ _
   | exact ih1 _ _ _ _ _
   | exact ih2 _ _ _ _ _ _ _
   | exact conf_Config_Find.mono _ _ _
   | exact conf_Read.mono _ _
   | exact pantrylaw09_anchor.mono _
   | exact pantrymade_Config.mono _ _
   | exact pantryref09_Same.mono _ _ _
   | exact LeO.none _
   | refine LeO.ite ?_ ?_
   | refine LeO.bind ?_ (fun _ => ?_)
theorem pantrylaw09_ConfRows.mono : ∀ a0 a1 k, LeO (pantrylaw09_ConfRows.f k a0 a1) (pantrylaw09_ConfRows.f (k + 1) a0 a1) := by
 intro a0 a1 k
 obtain ⟨ih0, ih1, ih2⟩ := pantrylaw09_ConfRows.mono_l k
 unfold pantrylaw09_ConfRows.f
 repeat' first
   | (with_reducible exact ih0 _ _ _)
   | (with_reducible exact ih1 _ _ _ _ _)
   | (with_reducible exact ih2 _ _ _ _ _ _ _)
   | (with_reducible exact conf_Config_Find.mono _ _ _)
   | (with_reducible exact conf_Read.mono _ _)
   | (with_reducible exact pantrylaw09_anchor.mono _)
   | (with_reducible exact pantrymade_Config.mono _ _)
   | (with_reducible exact pantryref09_Same.mono _ _ _)
   | (with_reducible exact LeO.refl _)
   | (with_reducible exact LeO.none _)
   | (with_reducible refine LeO.ite ?_ ?_)
   | (with_reducible refine LeO.bind ?_ (fun _ => ?_))
   | exact ih0 _ _ _
   | exact ih1 _ _ _ _ _
   | exact ih2 _ _ _ _ _ _ _
   | exact conf_Config_Find.mono _ _ _
   | exact conf_Read.mono _ _
   | exact pantrylaw09_anchor.mono _
   | exact pantrymade_Config.mono _ _
   | exact pantryref09_Same.mono _ _ _
   | exact LeO.none _
   | refine LeO.ite ?_ ?_
   | refine LeO.bind ?_ (fun _ => ?_)
def pantrylaw09_ConfRows.T18 : Bool × List (List Nat × List Nat) := (true, [([], []), ([], []), ([1], [1]), ([0, 2], [0, 2]), ([], []), ([4], [4]), ([3, 5, 3], [3, 5]), ([6], [6]), ([], []), ([8, 7, 6, 0, 1, 2, 3, 4, 5, 6, 7, 8], [7, 8])])
def pantrylaw09_ConfRows.B18 : List Nat := [0, 0, 2, 7, 0, 16, 63, 127, 0, 511]
theorem pantrylaw09_ConfRows.tab18 : rtab .any (opsOf Tryd.f5 18) = pantrylaw09_ConfRows.T18 := by kernel_rfl
theorem pantrylaw09_ConfRows.bits18 : waitsOk pantrylaw09_ConfRows.T18.2 pantrylaw09_ConfRows.B18 = true := by kernel_rfl
def pantrylaw09_ConfRows.T19 : Bool × List (List Nat × List Nat) := (true, [([], []), ([], []), ([0, 1], [0, 1]), ([2], [2]), ([3], [3]), ([4, 3, 3], [3, 4]), ([3], [3]), ([6, 5, 3], [3, 6]), ([5, 7, 7, 3], [3, 5, 7]), ([3, 8], [3, 8]), ([9, 8, 0, 1, 2, 3, 4, 5, 6, 7, 8, 9], [9])])
def pantrylaw09_ConfRows.B19 : List Nat := [0, 0, 3, 7, 15, 31, 15, 127, 255, 511, 1023]
theorem pantrylaw09_ConfRows.tab19 : rtab .any (opsOf Tryd.f5 19) = pantrylaw09_ConfRows.T19 := by kernel_rfl
theorem pantrylaw09_ConfRows.bits19 : waitsOk pantrylaw09_ConfRows.T19.2 pantrylaw09_ConfRows.B19 = true := by kernel_rfl
end Go.Proofs.YtfcifigemiafgaaDoor.PAll
