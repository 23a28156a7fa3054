/- Lean functions of the Go functions that the law FnExactDeedText reaches, each with its contract: made by a program of this session. -/
import Derived.Test.YtnojjblkmepblaaDoorLib
import Derived.Test.YtnojjblkmepblaaDoorProg
import Derived.Below
import Derived.Deep.Draws
import Derived.Deep.AppendLies
import Derived.Maps.AppendAt
import Derived.OwnWalk
import Derived.Laws.BytesArg
import Derived.Laws.MakeOwn
import Derived.Laws.OwnMore
import Derived.Deep.OwnRows
import Derived.Tactics
import Derived.Lib.ConvBytes
import Derived.Laws.Slices
import Derived.WalkKit
import Derived.KernelRfl
import Derived.RowKit3
import Derived.Deep.LoopGhost
import Derived.Deep.QuietTactic
import Derived.BigQuiet
import Derived.WideLaws
import Derived.Deep.DeepCutAuto
import Derived.Deep.CutBlock
import Derived.Deep.RegionHeld3
import Derived.Laws.Rows
import Derived.Lib.AppendStr
import Derived.ArgAppend
import Derived.Laws.IdiomCopy
import Derived.OrdersHeld
import Derived.Laws.BitsLemmas
import Derived.RowKit
import Derived.Test.YtnojjblkmepblaaDoorWWords
import Derived.Test.YtnojjblkmepblaaDoorWLast
import Derived.Test.YtnojjblkmepblaaDoorWTab
import Derived.Test.YtnojjblkmepblaaDoorWFour
import Derived.Test.YtnojjblkmepblaaDoorWQPut
import Derived.Test.YtnojjblkmepblaaDoorWApart
import Derived.Test.YtnojjblkmepblaaDoorWArr
import Derived.Test.YtnojjblkmepblaaDoorWZeros
import Derived.Test.YtnojjblkmepblaaDoorWFoot
import Derived.Test.YtnojjblkmepblaaDoorWKept
import Derived.Test.YtnojjblkmepblaaDoorWShare
import Derived.Test.YtnojjblkmepblaaDoorWN
import Derived.Test.YtnojjblkmepblaaDoorWFootNe
import Derived.Test.YtnojjblkmepblaaDoorWAt
import Derived.Test.YtnojjblkmepblaaDoorWEqStruct
import Derived.Test.YtnojjblkmepblaaDoorWRepsOne
import Derived.Test.YtnojjblkmepblaaDoorWInv
import Derived.Test.YtnojjblkmepblaaDoorWInvWords
import Derived.Test.YtnojjblkmepblaaDoorWGuard
import Derived.Test.YtnojjblkmepblaaDoorWNEv
import Derived.Test.YtnojjblkmepblaaDoorWMore
namespace Go.Proofs.YtnojjblkmepblaaDoor.PFnExactDeedText
open Go.RowKit Go.Proofs.YtnojjblkmepblaaDoorW.PrintWords Go.Proofs.YtnojjblkmepblaaDoorW.PrintLast Go.Proofs.YtnojjblkmepblaaDoorW.PrintMore Go.Proofs.YtnojjblkmepblaaDoor.Lib
attribute [local go_sem] max2_int min2_int max_two min_two max_three min_three max_four min_four   -- for this text's walks alone
set_option linter.unusedVariables false
set_option linter.unusedSimpArgs false




theorem info5 : (Tryd.prog.info? 5).map (fun i => (i.zero, i.size, i.bytes)) = some (some (.int .u8 0), 1, 1) := by kernel_rfl
theorem info9 : (Tryd.prog.info? 9).map (fun i => (i.zero, i.size, i.bytes)) = some (some (.string ⟨#[]⟩), 1, 16) := by kernel_rfl
-- the values' own types

end Go.Proofs.YtnojjblkmepblaaDoor.PFnExactDeedText
