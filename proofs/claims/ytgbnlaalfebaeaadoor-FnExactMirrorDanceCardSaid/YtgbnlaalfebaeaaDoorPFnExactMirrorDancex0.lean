/- Lean functions of the Go functions that the law FnExactMirrorDance reaches, each with its contract: made by a program of this session. -/
import Derived.Test.YtgbnlaalfebaeaaDoorLib
import Derived.Test.YtgbnlaalfebaeaaDoorProg
import Derived.Below
import Derived.Deep.Draws
import Derived.Deep.AppendLies
import Derived.Maps.AppendAt
import Derived.OwnWalk
import Derived.Laws.BytesArg
import Derived.Laws.MakeOwn
import Derived.Laws.OwnMore
import Derived.Deep.OwnRows
import Derived.Tactics
import Derived.Lib.ConvBytes
import Derived.Laws.Slices
import Derived.WalkKit
import Derived.KernelRfl
import Derived.RowKit3
import Derived.Deep.LoopGhost
import Derived.Deep.QuietTactic
import Derived.BigQuiet
import Derived.WideLaws
import Derived.Deep.DeepCutAuto
import Derived.Deep.CutBlock
import Derived.Deep.RegionHeld3
import Derived.Laws.Rows
import Derived.Lib.AppendStr
import Derived.ArgAppend
import Derived.Laws.IdiomCopy
import Derived.OrdersHeld
import Derived.Laws.BitsLemmas
import Derived.RowKit
import Derived.Test.YtgbnlaalfebaeaaDoorWWords
import Derived.Test.YtgbnlaalfebaeaaDoorWLast
import Derived.Test.YtgbnlaalfebaeaaDoorWTab
import Derived.Test.YtgbnlaalfebaeaaDoorWFour
import Derived.Test.YtgbnlaalfebaeaaDoorWQPut
import Derived.Test.YtgbnlaalfebaeaaDoorWApart
import Derived.Test.YtgbnlaalfebaeaaDoorWArr
import Derived.Test.YtgbnlaalfebaeaaDoorWZeros
import Derived.Test.YtgbnlaalfebaeaaDoorWFoot
import Derived.Test.YtgbnlaalfebaeaaDoorWKept
import Derived.Test.YtgbnlaalfebaeaaDoorWShare
import Derived.Test.YtgbnlaalfebaeaaDoorWN
import Derived.Test.YtgbnlaalfebaeaaDoorWFootNe
import Derived.Test.YtgbnlaalfebaeaaDoorWAt
import Derived.Test.YtgbnlaalfebaeaaDoorWEqStruct
import Derived.Test.YtgbnlaalfebaeaaDoorWRepsOne
import Derived.Test.YtgbnlaalfebaeaaDoorWInv
import Derived.Test.YtgbnlaalfebaeaaDoorWInvWords
import Derived.Test.YtgbnlaalfebaeaaDoorWGuard
import Derived.Test.YtgbnlaalfebaeaaDoorWNEv
import Derived.Test.YtgbnlaalfebaeaaDoorWMore
namespace Go.Proofs.YtgbnlaalfebaeaaDoor.PFnExactMirrorDance
open Go.RowKit Go.Proofs.YtgbnlaalfebaeaaDoorW.PrintWords Go.Proofs.YtgbnlaalfebaeaaDoorW.PrintLast Go.Proofs.YtgbnlaalfebaeaaDoorW.PrintMore Go.Proofs.YtgbnlaalfebaeaaDoor.Lib
attribute [local go_sem] max2_int min2_int max_two min_two max_three min_three max_four min_four   -- for this text's walks alone
set_option linter.unusedVariables false
set_option linter.unusedSimpArgs false



def errW : Option Int → Value
  | none => .nilIface
  | some c => .iface 0 (.int .i64 c)
theorem errW_none : errW none = .nilIface := rfl
theorem errW_some (c : Int) : errW (some c) = .iface 0 (.int .i64 c) := rfl

-- the values' own types

end Go.Proofs.YtgbnlaalfebaeaaDoor.PFnExactMirrorDance
