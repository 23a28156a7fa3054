/- Lean functions of the Go functions that the law FnExactClosestDance reaches, each with its contract: made by a program of this session. -/
import Derived.Test.YtgbnlaalfebaeaaLib
import Derived.Test.YtgbnlaalfebaeaaProg
import Derived.Below
import Derived.Deep.Draws
import Derived.Deep.AppendLies
import Derived.Maps.AppendAt
import Derived.OwnWalk
import Derived.Laws.BytesArg
import Derived.Laws.MakeOwn
import Derived.Laws.OwnMore
import Derived.Deep.OwnRows
import Derived.Tactics
import Derived.Lib.ConvBytes
import Derived.Laws.Slices
import Derived.WalkKit
import Derived.KernelRfl
import Derived.RowKit3
import Derived.Deep.LoopGhost
import Derived.Deep.QuietTactic
import Derived.BigQuiet
import Derived.WideLaws
import Derived.Deep.DeepCutAuto
import Derived.Deep.CutBlock
import Derived.Deep.RegionHeld3
import Derived.Laws.Rows
import Derived.Lib.AppendStr
import Derived.ArgAppend
import Derived.Laws.IdiomCopy
import Derived.OrdersHeld
import Derived.Laws.BitsLemmas
import Derived.RowKit
import Derived.Test.YtgbnlaalfebaeaaWWords
import Derived.Test.YtgbnlaalfebaeaaWLast
import Derived.Test.YtgbnlaalfebaeaaWTab
import Derived.Test.YtgbnlaalfebaeaaWFour
import Derived.Test.YtgbnlaalfebaeaaWQPut
import Derived.Test.YtgbnlaalfebaeaaWApart
import Derived.Test.YtgbnlaalfebaeaaWArr
import Derived.Test.YtgbnlaalfebaeaaWZeros
import Derived.Test.YtgbnlaalfebaeaaWFoot
import Derived.Test.YtgbnlaalfebaeaaWKept
import Derived.Test.YtgbnlaalfebaeaaWShare
import Derived.Test.YtgbnlaalfebaeaaWN
import Derived.Test.YtgbnlaalfebaeaaWFootNe
import Derived.Test.YtgbnlaalfebaeaaWAt
import Derived.Test.YtgbnlaalfebaeaaWEqStruct
import Derived.Test.YtgbnlaalfebaeaaWRepsOne
import Derived.Test.YtgbnlaalfebaeaaWInv
import Derived.Test.YtgbnlaalfebaeaaWInvWords
import Derived.Test.YtgbnlaalfebaeaaWGuard
import Derived.Test.YtgbnlaalfebaeaaWNEv
import Derived.Test.YtgbnlaalfebaeaaWMore
namespace Go.Proofs.Ytgbnlaalfebaeaa.PFnExactClosestDance
open Go.RowKit Go.Proofs.YtgbnlaalfebaeaaW.PrintWords Go.Proofs.YtgbnlaalfebaeaaW.PrintLast Go.Proofs.YtgbnlaalfebaeaaW.PrintMore Go.Proofs.Ytgbnlaalfebaeaa.Lib
attribute [local go_sem] max2_int min2_int max_two min_two max_three min_three max_four min_four   -- for this text's walks alone
set_option linter.unusedVariables false
set_option linter.unusedSimpArgs false



def errW : Option Int → Value
  | none => .nilIface
  | some c => .iface 0 (.int .i64 c)
theorem errW_none : errW none = .nilIface := rfl
theorem errW_some (c : Int) : errW (some c) = .iface 0 (.int .i64 c) := rfl

theorem info3 : (Try.prog.info? 3).map (fun i => (i.zero, i.size, i.bytes)) = some (some (.int .i64 0), 1, 8) := by kernel_rfl
theorem info9 : (Try.prog.info? 9).map (fun i => (i.zero, i.size, i.bytes)) = some (some (.string ⟨#[]⟩), 1, 16) := by kernel_rfl
-- the values' own types

end Go.Proofs.Ytgbnlaalfebaeaa.PFnExactClosestDance
