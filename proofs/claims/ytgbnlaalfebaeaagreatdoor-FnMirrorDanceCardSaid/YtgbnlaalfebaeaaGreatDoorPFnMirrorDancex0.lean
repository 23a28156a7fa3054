/- Lean functions of the Go functions that the law FnMirrorDance reaches, each with its contract: made by a program of this session. -/
import Derived.Test.YtgbnlaalfebaeaaGreatDoorLib
import Derived.Test.YtgbnlaalfebaeaaGreatDoorProg
import Derived.Below
import Derived.Deep.Draws
import Derived.Deep.AppendLies
import Derived.Maps.AppendAt
import Derived.OwnWalk
import Derived.Laws.BytesArg
import Derived.Laws.MakeOwn
import Derived.Laws.OwnMore
import Derived.Deep.OwnRows
import Derived.Tactics
import Derived.Lib.ConvBytes
import Derived.Laws.Slices
import Derived.WalkKit
import Derived.KernelRfl
import Derived.RowKit3
import Derived.Deep.LoopGhost
import Derived.Deep.QuietTactic
import Derived.BigQuiet
import Derived.WideLaws
import Derived.Deep.DeepCutAuto
import Derived.Deep.CutBlock
import Derived.Deep.RegionHeld3
import Derived.Laws.Rows
import Derived.Lib.AppendStr
import Derived.ArgAppend
import Derived.Laws.IdiomCopy
import Derived.OrdersHeld
import Derived.Laws.BitsLemmas
import Derived.RowKit
import Derived.Test.YtgbnlaalfebaeaaGreatDoorWWords
import Derived.Test.YtgbnlaalfebaeaaGreatDoorWLast
import Derived.Test.YtgbnlaalfebaeaaGreatDoorWTab
import Derived.Test.YtgbnlaalfebaeaaGreatDoorWFour
import Derived.Test.YtgbnlaalfebaeaaGreatDoorWQPut
import Derived.Test.YtgbnlaalfebaeaaGreatDoorWApart
import Derived.Test.YtgbnlaalfebaeaaGreatDoorWArr
import Derived.Test.YtgbnlaalfebaeaaGreatDoorWZeros
import Derived.Test.YtgbnlaalfebaeaaGreatDoorWFoot
import Derived.Test.YtgbnlaalfebaeaaGreatDoorWKept
import Derived.Test.YtgbnlaalfebaeaaGreatDoorWShare
import Derived.Test.YtgbnlaalfebaeaaGreatDoorWN
import Derived.Test.YtgbnlaalfebaeaaGreatDoorWFootNe
import Derived.Test.YtgbnlaalfebaeaaGreatDoorWAt
import Derived.Test.YtgbnlaalfebaeaaGreatDoorWEqStruct
import Derived.Test.YtgbnlaalfebaeaaGreatDoorWRepsOne
import Derived.Test.YtgbnlaalfebaeaaGreatDoorWInv
import Derived.Test.YtgbnlaalfebaeaaGreatDoorWInvWords
import Derived.Test.YtgbnlaalfebaeaaGreatDoorWGuard
import Derived.Test.YtgbnlaalfebaeaaGreatDoorWNEv
import Derived.Test.YtgbnlaalfebaeaaGreatDoorWMore
namespace Go.Proofs.YtgbnlaalfebaeaaGreatDoor.PFnMirrorDance
open Go.RowKit Go.Proofs.YtgbnlaalfebaeaaGreatDoorW.PrintWords Go.Proofs.YtgbnlaalfebaeaaGreatDoorW.PrintLast Go.Proofs.YtgbnlaalfebaeaaGreatDoorW.PrintMore Go.Proofs.YtgbnlaalfebaeaaGreatDoor.Lib
attribute [local go_sem] max2_int min2_int max_two min_two max_three min_three max_four min_four   -- for this text's walks alone
set_option linter.unusedVariables false
set_option linter.unusedSimpArgs false



def errW : Option Int → Value
  | none => .nilIface
  | some c => .iface 0 (.int .i64 c)
theorem errW_none : errW none = .nilIface := rfl
theorem errW_some (c : Int) : errW (some c) = .iface 0 (.int .i64 c) := rfl

theorem info5 : (Tryz.prog.info? 5).map (fun i => (i.zero, i.size, i.bytes)) = some (some (.int .u8 0), 1, 1) := by kernel_rfl
theorem info9 : (Tryz.prog.info? 9).map (fun i => (i.zero, i.size, i.bytes)) = some (some (.string ⟨#[]⟩), 1, 16) := by kernel_rfl
-- the values' own types

end Go.Proofs.YtgbnlaalfebaeaaGreatDoor.PFnMirrorDance
