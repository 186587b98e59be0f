-- Text by a program of this session, over what print.py prints.
import Derived.Test.YtiaiengdncdiaaaProg
import Derived.Below
import Derived.Deep.Draws
import Derived.Deep.AppendLies
import Derived.Maps.AppendAt
import Derived.OwnWalk
import Derived.Laws.BytesArg
import Derived.Laws.MakeOwn
import Derived.Laws.OwnMore
import Derived.Deep.OwnRows
import Derived.Tactics
import Derived.Lib.ConvBytes
import Derived.Laws.Slices
import Derived.WalkKit
import Derived.KernelRfl
import Derived.RowKit3
import Derived.Deep.LoopGhost
import Derived.Deep.QuietTactic
import Derived.BigQuiet
import Derived.WideLaws
import Derived.Deep.DeepCutAuto
import Derived.Deep.CutBlock
import Derived.Deep.RegionHeld3
import Derived.Laws.Rows
import Derived.Lib.AppendStr
import Derived.ArgAppend
import Derived.Laws.IdiomCopy
import Derived.OrdersHeld
import Derived.Laws.BitsLemmas
import Derived.RowKit
import Derived.Lib.Builder
import Derived.Lib.AppendStr
import Derived.Lib.UnsafeStr
import Derived.Lib.OthersKept
import Derived.Laws.Externs
import Derived.Laws.IdiomStrings
import Derived.StillTailTactics
import Derived.IntWalk
import Derived.Test.YtiaiengdncdiaaaShelf
import Derived.Test.YtiaiengdncdiaaaWWords
import Derived.Test.YtiaiengdncdiaaaWLast
import Derived.Test.YtiaiengdncdiaaaWTab
import Derived.Test.YtiaiengdncdiaaaWFour
import Derived.Test.YtiaiengdncdiaaaWQPut
import Derived.Test.YtiaiengdncdiaaaWApart
import Derived.Test.YtiaiengdncdiaaaWArr
import Derived.Test.YtiaiengdncdiaaaWZeros
import Derived.Test.YtiaiengdncdiaaaWFoot
import Derived.Test.YtiaiengdncdiaaaWKept
import Derived.Test.YtiaiengdncdiaaaWShare
import Derived.Test.YtiaiengdncdiaaaWN
import Derived.Test.YtiaiengdncdiaaaWFootNe
import Derived.Test.YtiaiengdncdiaaaWAt
import Derived.Test.YtiaiengdncdiaaaWEqStruct
import Derived.Test.YtiaiengdncdiaaaWRepsOne
import Derived.Test.YtiaiengdncdiaaaWInv
import Derived.Test.YtiaiengdncdiaaaWInvWords
import Derived.Test.YtiaiengdncdiaaaWGuard
import Derived.Test.YtiaiengdncdiaaaWNEv
import Derived.Test.YtiaiengdncdiaaaWMore
namespace Go.Proofs.Ytiaiengdncdiaaa.PAll
open Go.RowKit Go.Proofs.YtiaiengdncdiaaaW.PrintWords Go.Proofs.YtiaiengdncdiaaaW.PrintLast Go.Proofs.YtiaiengdncdiaaaW.PrintMore
attribute [local go_sem] max2_int min2_int max_two min_two max_three min_three max_four min_four   -- for this text's walks alone
set_option linter.unusedVariables false
set_option linter.unusedSimpArgs false



def errW : Option Int → Value
  | none => .nilIface
  | some c => .iface 0 (.int .i64 c)
theorem errW_none : errW none = .nilIface := rfl
theorem errW_some (c : Int) : errW (some c) = .iface 0 (.int .i64 c) := rfl

theorem info5 : (Try.prog.info? 5).map (fun i => (i.zero, i.size, i.bytes)) = some (some (.int .u8 0), 1, 1) := by kernel_rfl
-- the values' own types

-- PRELUDE
/-- What a call that comes to strings.Index must know of the world: the library's own number holds some number. -/
def WF (w : World) : Prop := ∃ m : Int, w.cell? ⟨0, 0, none⟩ = some (.int .i64 m)
theorem WF.below {w W : World} (h : WF w) (hb : Below w.heap.size w W) : WF W := by
  obtain ⟨m, hm⟩ := h
  exact ⟨m, pw_cell_below hb hm⟩
theorem bne_nil_ {α : Type} [BEq α] (l : List α) : (l != []) = !l.isEmpty := by cases l <;> rfl

end Go.Proofs.Ytiaiengdncdiaaa.PAll
