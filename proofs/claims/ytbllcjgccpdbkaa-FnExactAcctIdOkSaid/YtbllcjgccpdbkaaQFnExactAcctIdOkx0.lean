-- by my own printer (myprint.py, over the kit's print.py)
import Derived.Test.YtbllcjgccpdbkaaProg
import Derived.Below
import Derived.Deep.Draws
import Derived.Deep.AppendLies
import Derived.Maps.AppendAt
import Derived.OwnWalk
import Derived.Laws.BytesArg
import Derived.Laws.MakeOwn
import Derived.Laws.OwnMore
import Derived.Deep.OwnRows
import Derived.Tactics
import Derived.Lib.ConvBytes
import Derived.Laws.Slices
import Derived.WalkKit
import Derived.KernelRfl
import Derived.RowKit3
import Derived.Deep.LoopGhost
import Derived.Deep.QuietTactic
import Derived.BigQuiet
import Derived.WideLaws
import Derived.Deep.DeepCutAuto
import Derived.Deep.CutBlock
import Derived.Deep.RegionHeld3
import Derived.Laws.Rows
import Derived.Lib.AppendStr
import Derived.ArgAppend
import Derived.Laws.IdiomCopy
import Derived.OrdersHeld
import Derived.Laws.BitsLemmas
import Derived.RowKit
import Derived.Test.YtbllcjgccpdbkaaWWords
import Derived.Test.YtbllcjgccpdbkaaWLast
import Derived.Test.YtbllcjgccpdbkaaWTab
import Derived.Test.YtbllcjgccpdbkaaWFour
import Derived.Test.YtbllcjgccpdbkaaWQPut
import Derived.Test.YtbllcjgccpdbkaaWApart
import Derived.Test.YtbllcjgccpdbkaaWArr
import Derived.Test.YtbllcjgccpdbkaaWZeros
import Derived.Test.YtbllcjgccpdbkaaWFoot
import Derived.Test.YtbllcjgccpdbkaaWKept
import Derived.Test.YtbllcjgccpdbkaaWShare
import Derived.Test.YtbllcjgccpdbkaaWN
import Derived.Test.YtbllcjgccpdbkaaWFootNe
import Derived.Test.YtbllcjgccpdbkaaWAt
import Derived.Test.YtbllcjgccpdbkaaWEqStruct
import Derived.Test.YtbllcjgccpdbkaaWRepsOne
import Derived.Test.YtbllcjgccpdbkaaWInv
import Derived.Test.YtbllcjgccpdbkaaWInvWords
import Derived.Test.YtbllcjgccpdbkaaWGuard
import Derived.Test.YtbllcjgccpdbkaaWNEv
import Derived.Test.YtbllcjgccpdbkaaWMore
namespace Go.Proofs.Ytbllcjgccpdbkaa.QFnExactAcctIdOk
open Go.RowKit Go.Proofs.YtbllcjgccpdbkaaW.PrintWords Go.Proofs.YtbllcjgccpdbkaaW.PrintLast Go.Proofs.YtbllcjgccpdbkaaW.PrintMore
attribute [local go_sem] max2_int min2_int max_two min_two max_three min_three max_four min_four   -- for this text's walks alone
set_option linter.unusedVariables false
set_option linter.unusedSimpArgs false



def errW : Option Int → Value
  | none => .nilIface
  | some c => .iface 0 (.int .i64 c)
theorem errW_none : errW none = .nilIface := rfl
theorem errW_some (c : Int) : errW (some c) = .iface 0 (.int .i64 c) := rfl

-- the values' own types

theorem my_isEmpty (l : List UInt8) : l.isEmpty = !(l != []) := by cases l <;> simp
theorem my_w256 (x : Int) : wrap64 (x % 256) = x % 256 := by unfold wrap64; omega
end Go.Proofs.Ytbllcjgccpdbkaa.QFnExactAcctIdOk
