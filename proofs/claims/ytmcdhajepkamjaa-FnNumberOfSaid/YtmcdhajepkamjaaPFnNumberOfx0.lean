-- PRINTED BY print.sh 35421559b90ae4d0a3588c463048766b98c2df88dd9212a6774a882060cdf62d: not written by this session
import Derived.Test.YtmcdhajepkamjaaProg
import Derived.Below
import Derived.Deep.Draws
import Derived.Deep.AppendLies
import Derived.Maps.AppendAt
import Derived.OwnWalk
import Derived.Laws.BytesArg
import Derived.Laws.MakeOwn
import Derived.Laws.OwnMore
import Derived.Deep.OwnRows
import Derived.Tactics
import Derived.Lib.ConvBytes
import Derived.Laws.Slices
import Derived.WalkKit
import Derived.KernelRfl
import Derived.RowKit3
import Derived.Deep.LoopGhost
import Derived.Deep.QuietTactic
import Derived.BigQuiet
import Derived.WideLaws
import Derived.Deep.DeepCutAuto
import Derived.Deep.CutBlock
import Derived.Deep.RegionHeld3
import Derived.Laws.Rows
import Derived.Lib.AppendStr
import Derived.ArgAppend
import Derived.Laws.IdiomCopy
import Derived.OrdersHeld
import Derived.Laws.BitsLemmas
import Derived.RowKit
import Derived.Test.YtmcdhajepkamjaaWWords
import Derived.Test.YtmcdhajepkamjaaWLast
import Derived.Test.YtmcdhajepkamjaaWTab
import Derived.Test.YtmcdhajepkamjaaWFour
import Derived.Test.YtmcdhajepkamjaaWQPut
import Derived.Test.YtmcdhajepkamjaaWApart
import Derived.Test.YtmcdhajepkamjaaWArr
import Derived.Test.YtmcdhajepkamjaaWZeros
import Derived.Test.YtmcdhajepkamjaaWFoot
import Derived.Test.YtmcdhajepkamjaaWKept
import Derived.Test.YtmcdhajepkamjaaWShare
import Derived.Test.YtmcdhajepkamjaaWN
import Derived.Test.YtmcdhajepkamjaaWFootNe
import Derived.Test.YtmcdhajepkamjaaWAt
import Derived.Test.YtmcdhajepkamjaaWEqStruct
import Derived.Test.YtmcdhajepkamjaaWRepsOne
import Derived.Test.YtmcdhajepkamjaaWInv
import Derived.Test.YtmcdhajepkamjaaWInvWords
import Derived.Test.YtmcdhajepkamjaaWGuard
import Derived.Test.YtmcdhajepkamjaaWNEv
import Derived.Test.YtmcdhajepkamjaaWMore
namespace Go.Proofs.Ytmcdhajepkamjaa.PFnNumberOf
open Go.RowKit Go.Proofs.YtmcdhajepkamjaaW.PrintWords Go.Proofs.YtmcdhajepkamjaaW.PrintLast Go.Proofs.YtmcdhajepkamjaaW.PrintMore
attribute [local go_sem] max2_int min2_int max_two min_two max_three min_three max_four min_four   -- for this text's walks alone
set_option linter.unusedVariables false
set_option linter.unusedSimpArgs false



def errW : Option Int → Value
  | none => .nilIface
  | some c => .iface 0 (.int .i64 c)
theorem errW_none : errW none = .nilIface := rfl
theorem errW_some (c : Int) : errW (some c) = .iface 0 (.int .i64 c) := rfl

theorem info5 : (Try.prog.info? 5).map (fun i => (i.zero, i.size, i.bytes)) = some (some (.int .u8 0), 1, 1) := by kernel_rfl
-- the values' own types

end Go.Proofs.Ytmcdhajepkamjaa.PFnNumberOf
