/-
  NARROWER THAN 'FOR EVERY INPUT', by the rows' own cells (each row's printed sentence says how): FnExactColoursAfter: laid · FnExactCountTied: laid · FnExactCountJoined: laid · FnColoursAfter: laid · FnCountTied: laid · FnCountJoined: laid · FnExactTwistsIn: laid · FnTwistsIn: laid.
  DERIVED. THE GIVEN ROWS OF THIS SEAT. 8 by the template 'for every input the law returns true; each argument reads behind the call as it read before'; 0 by the template 'total and deterministic' (their statements: YtkjefpihjgflhaaDoorTotals.lean).
  GIVEN WITH THE SEED: the statements are not yours to turn. If you find one false, say at which input.
  Laid BY PROGRAM, IN A SANDBOX (cutbox-rows.mjs): the forced cells as the released guide's own fill.sh prints them over the translation 66a5076df039ad38… (all of the seat's roots in one cut). By AI agents, Wed Nov 11 2026. No macro, syntax, notation, axiom, sorry.
-/
import Derived.Test.YtkjefpihjgflhaaDoorChecked
import GoSem.PinnedTables
import GoSem.Claim
import GoSem.ClaimJoined
import GoSem.ClaimMapViews
import Derived.JoinedTies
import Derived.KernelRfl
namespace Go.Proofs.YtkjefpihjgflhaaDoor
/- THE CELL 'sum', in the pinned program and in every row, IS THE sha256 OF THE DUMP (.gsa) THAT YtkjefpihjgflhaaDoorProg.lean LOADS. Nothing in Lean hashes anything: it is a label: what it is worth is what the hold of that sum in a sandbox is worth. -/
noncomputable def Tryd.pinned : Pinned := { name := "ytkjefpihjgflhaadoor", sum := "66a5076df039ad38df0523223a5c18b07b595cf101eee100f5f5b4353ca67628", checked := Tryd.checked }
namespace Rows
def none {H : Type} : Left H := { results := [], args := [] }

/- WHAT THE LISTED PACKAGE-LEVEL VARIABLES READ AS WHEN THE CALL BEGINS. Each datum BY PROGRAM (the guide's laid-datum.mjs) off the statement by which the dump's own 'gosem.cut.vars' lays the variable. In a bare row this is a premise. The card (YtkjefpihjgflhaaDoorCards.lean) ties it to the program's text. -/
def laid_unicode_utf8_acceptRanges {H : Type} : DataW H := .agg [.agg [.lit (.int .u8 128), .lit (.int .u8 191)], .agg [.lit (.int .u8 160), .lit (.int .u8 191)], .agg [.lit (.int .u8 128), .lit (.int .u8 159)], .agg [.lit (.int .u8 144), .lit (.int .u8 191)], .agg [.lit (.int .u8 128), .lit (.int .u8 143)], .agg [.lit (.int .u8 0), .lit (.int .u8 0)], .agg [.lit (.int .u8 0), .lit (.int .u8 0)], .agg [.lit (.int .u8 0), .lit (.int .u8 0)], .agg [.lit (.int .u8 0), .lit (.int .u8 0)], .agg [.lit (.int .u8 0), .lit (.int .u8 0)], .agg [.lit (.int .u8 0), .lit (.int .u8 0)], .agg [.lit (.int .u8 0), .lit (.int .u8 0)], .agg [.lit (.int .u8 0), .lit (.int .u8 0)], .agg [.lit (.int .u8 0), .lit (.int .u8 0)], .agg [.lit (.int .u8 0), .lit (.int .u8 0)], .agg [.lit (.int .u8 0), .lit (.int .u8 0)]]
/-- One of Go's own tables, pinned by name: the form's constant. -/
def laid_unicode_utf8_first : DataW Unit := Go.Pinned.utf8First

/-- 'laws.FnExactColoursAfter': WHATEVER THE INPUT: true; the input reads as it did. -/
def fnExactColoursAfterSpec : ChangeSpec := { name := "fnExactColoursAfter", fn := fun _ => fun
  | [d1, d2, d3] => { results := [.lit (.bool true)], args := [d1, d2, d3] }
  | _ => none }
def fnExactColoursAfterRow : OpenClaim := { program := "ytkjefpihjgflhaadoor", sum := "66a5076df039ad38df0523223a5c18b07b595cf101eee100f5f5b4353ca67628", func := "loop.example/twistedropes/laws.FnExactColoursAfter", spec := "fnExactColoursAfter", inPlace := ["internal/bytealg.IndexByteString", "internal/bytealg.IndexString"], named := ["unicode/utf8.first", "unicode/utf8.acceptRanges", "internal/bytealg.MaxLen"], apart := false, laid := [("unicode/utf8.acceptRanges", laid_unicode_utf8_acceptRanges), ("unicode/utf8.first", laid_unicode_utf8_first)] }
def FnExactColoursAfterSaid : Prop := fnExactColoursAfterRow.holds Tryd.pinned (OpenSpec.ofChange fnExactColoursAfterSpec)

/-- ITS FALSE NEIGHBOUR: 'it returns false'. Refute it at one input. -/
def fnExactColoursAfterWrong : ChangeSpec := { name := "fnExactColoursAfter", fn := fun _ => fun
  | [d1, d2, d3] => { results := [.lit (.bool false)], args := [d1, d2, d3] }
  | _ => none }
def FnExactColoursAfterWrongFalsely : Prop := fnExactColoursAfterRow.holds Tryd.pinned (OpenSpec.ofChange fnExactColoursAfterWrong)

/-- 'laws.FnExactCountTied': WHATEVER THE INPUT: true; the input reads as it did. -/
def fnExactCountTiedSpec : ChangeSpec := { name := "fnExactCountTied", fn := fun _ => fun
  | [d1, d2] => { results := [.lit (.bool true)], args := [d1, d2] }
  | _ => none }
def fnExactCountTiedRow : OpenClaim := { program := "ytkjefpihjgflhaadoor", sum := "66a5076df039ad38df0523223a5c18b07b595cf101eee100f5f5b4353ca67628", func := "loop.example/twistedropes/laws.FnExactCountTied", spec := "fnExactCountTied", inPlace := ["internal/bytealg.IndexByteString", "internal/bytealg.IndexString"], named := ["unicode/utf8.first", "unicode/utf8.acceptRanges", "internal/bytealg.MaxLen"], apart := false, laid := [("unicode/utf8.acceptRanges", laid_unicode_utf8_acceptRanges), ("unicode/utf8.first", laid_unicode_utf8_first)] }
def FnExactCountTiedSaid : Prop := fnExactCountTiedRow.holds Tryd.pinned (OpenSpec.ofChange fnExactCountTiedSpec)

/-- ITS FALSE NEIGHBOUR: 'it returns false'. Refute it at one input. -/
def fnExactCountTiedWrong : ChangeSpec := { name := "fnExactCountTied", fn := fun _ => fun
  | [d1, d2] => { results := [.lit (.bool false)], args := [d1, d2] }
  | _ => none }
def FnExactCountTiedWrongFalsely : Prop := fnExactCountTiedRow.holds Tryd.pinned (OpenSpec.ofChange fnExactCountTiedWrong)

/-- 'laws.FnExactCountJoined': WHATEVER THE INPUT: true; the input reads as it did. -/
def fnExactCountJoinedSpec : ChangeSpec := { name := "fnExactCountJoined", fn := fun _ => fun
  | [d1, d2, d3] => { results := [.lit (.bool true)], args := [d1, d2, d3] }
  | _ => none }
def fnExactCountJoinedRow : OpenClaim := { program := "ytkjefpihjgflhaadoor", sum := "66a5076df039ad38df0523223a5c18b07b595cf101eee100f5f5b4353ca67628", func := "loop.example/twistedropes/laws.FnExactCountJoined", spec := "fnExactCountJoined", inPlace := ["internal/bytealg.IndexByteString", "internal/bytealg.IndexString"], named := ["unicode/utf8.first", "unicode/utf8.acceptRanges", "internal/bytealg.MaxLen"], apart := false, laid := [("unicode/utf8.acceptRanges", laid_unicode_utf8_acceptRanges), ("unicode/utf8.first", laid_unicode_utf8_first)] }
def FnExactCountJoinedSaid : Prop := fnExactCountJoinedRow.holds Tryd.pinned (OpenSpec.ofChange fnExactCountJoinedSpec)

/-- ITS FALSE NEIGHBOUR: 'it returns false'. Refute it at one input. -/
def fnExactCountJoinedWrong : ChangeSpec := { name := "fnExactCountJoined", fn := fun _ => fun
  | [d1, d2, d3] => { results := [.lit (.bool false)], args := [d1, d2, d3] }
  | _ => none }
def FnExactCountJoinedWrongFalsely : Prop := fnExactCountJoinedRow.holds Tryd.pinned (OpenSpec.ofChange fnExactCountJoinedWrong)

/-- 'laws.FnColoursAfter': WHATEVER THE INPUT: true; the input reads as it did. -/
def fnColoursAfterSpec : ChangeSpec := { name := "fnColoursAfter", fn := fun _ => fun
  | [d] => { results := [.lit (.bool true)], args := [d] }
  | _ => none }
def fnColoursAfterRow : OpenClaim := { program := "ytkjefpihjgflhaadoor", sum := "66a5076df039ad38df0523223a5c18b07b595cf101eee100f5f5b4353ca67628", func := "loop.example/twistedropes/laws.FnColoursAfter", spec := "fnColoursAfter", inPlace := ["internal/bytealg.IndexByteString", "internal/bytealg.IndexString"], named := ["unicode/utf8.first", "unicode/utf8.acceptRanges", "internal/bytealg.MaxLen"], apart := false, laid := [("unicode/utf8.acceptRanges", laid_unicode_utf8_acceptRanges), ("unicode/utf8.first", laid_unicode_utf8_first)] }
def FnColoursAfterSaid : Prop := fnColoursAfterRow.holds Tryd.pinned (OpenSpec.ofChange fnColoursAfterSpec)

/-- ITS FALSE NEIGHBOUR: 'it returns false'. Refute it at one input. -/
def fnColoursAfterWrong : ChangeSpec := { name := "fnColoursAfter", fn := fun _ => fun
  | [d] => { results := [.lit (.bool false)], args := [d] }
  | _ => none }
def FnColoursAfterWrongFalsely : Prop := fnColoursAfterRow.holds Tryd.pinned (OpenSpec.ofChange fnColoursAfterWrong)

/-- 'laws.FnCountTied': WHATEVER THE INPUT: true; the input reads as it did. -/
def fnCountTiedSpec : ChangeSpec := { name := "fnCountTied", fn := fun _ => fun
  | [d] => { results := [.lit (.bool true)], args := [d] }
  | _ => none }
def fnCountTiedRow : OpenClaim := { program := "ytkjefpihjgflhaadoor", sum := "66a5076df039ad38df0523223a5c18b07b595cf101eee100f5f5b4353ca67628", func := "loop.example/twistedropes/laws.FnCountTied", spec := "fnCountTied", inPlace := ["internal/bytealg.IndexByteString", "internal/bytealg.IndexString"], named := ["unicode/utf8.first", "unicode/utf8.acceptRanges", "internal/bytealg.MaxLen"], apart := false, laid := [("unicode/utf8.acceptRanges", laid_unicode_utf8_acceptRanges), ("unicode/utf8.first", laid_unicode_utf8_first)] }
def FnCountTiedSaid : Prop := fnCountTiedRow.holds Tryd.pinned (OpenSpec.ofChange fnCountTiedSpec)

/-- ITS FALSE NEIGHBOUR: 'it returns false'. Refute it at one input. -/
def fnCountTiedWrong : ChangeSpec := { name := "fnCountTied", fn := fun _ => fun
  | [d] => { results := [.lit (.bool false)], args := [d] }
  | _ => none }
def FnCountTiedWrongFalsely : Prop := fnCountTiedRow.holds Tryd.pinned (OpenSpec.ofChange fnCountTiedWrong)

/-- 'laws.FnCountJoined': WHATEVER THE INPUT: true; the input reads as it did. -/
def fnCountJoinedSpec : ChangeSpec := { name := "fnCountJoined", fn := fun _ => fun
  | [d] => { results := [.lit (.bool true)], args := [d] }
  | _ => none }
def fnCountJoinedRow : OpenClaim := { program := "ytkjefpihjgflhaadoor", sum := "66a5076df039ad38df0523223a5c18b07b595cf101eee100f5f5b4353ca67628", func := "loop.example/twistedropes/laws.FnCountJoined", spec := "fnCountJoined", inPlace := ["internal/bytealg.IndexByteString", "internal/bytealg.IndexString"], named := ["unicode/utf8.first", "unicode/utf8.acceptRanges", "internal/bytealg.MaxLen"], apart := false, laid := [("unicode/utf8.acceptRanges", laid_unicode_utf8_acceptRanges), ("unicode/utf8.first", laid_unicode_utf8_first)] }
def FnCountJoinedSaid : Prop := fnCountJoinedRow.holds Tryd.pinned (OpenSpec.ofChange fnCountJoinedSpec)

/-- ITS FALSE NEIGHBOUR: 'it returns false'. Refute it at one input. -/
def fnCountJoinedWrong : ChangeSpec := { name := "fnCountJoined", fn := fun _ => fun
  | [d] => { results := [.lit (.bool false)], args := [d] }
  | _ => none }
def FnCountJoinedWrongFalsely : Prop := fnCountJoinedRow.holds Tryd.pinned (OpenSpec.ofChange fnCountJoinedWrong)

/-- 'laws.FnExactTwistsIn': WHATEVER THE INPUT: true; the input reads as it did. -/
def fnExactTwistsInSpec : ChangeSpec := { name := "fnExactTwistsIn", fn := fun _ => fun
  | [d] => { results := [.lit (.bool true)], args := [d] }
  | _ => none }
def fnExactTwistsInRow : OpenClaim := { program := "ytkjefpihjgflhaadoor", sum := "66a5076df039ad38df0523223a5c18b07b595cf101eee100f5f5b4353ca67628", func := "loop.example/twistedropes/laws.FnExactTwistsIn", spec := "fnExactTwistsIn", inPlace := ["internal/bytealg.IndexByteString", "internal/bytealg.IndexString", "internal/bytealg.CountString"], named := ["unicode/utf8.first", "unicode/utf8.acceptRanges", "internal/bytealg.MaxLen"], apart := false, laid := [("unicode/utf8.acceptRanges", laid_unicode_utf8_acceptRanges), ("unicode/utf8.first", laid_unicode_utf8_first)] }
def FnExactTwistsInSaid : Prop := fnExactTwistsInRow.holds Tryd.pinned (OpenSpec.ofChange fnExactTwistsInSpec)

/-- ITS FALSE NEIGHBOUR: 'it returns false'. Refute it at one input. -/
def fnExactTwistsInWrong : ChangeSpec := { name := "fnExactTwistsIn", fn := fun _ => fun
  | [d] => { results := [.lit (.bool false)], args := [d] }
  | _ => none }
def FnExactTwistsInWrongFalsely : Prop := fnExactTwistsInRow.holds Tryd.pinned (OpenSpec.ofChange fnExactTwistsInWrong)

/-- 'laws.FnTwistsIn': WHATEVER THE INPUT: true; the input reads as it did. -/
def fnTwistsInSpec : ChangeSpec := { name := "fnTwistsIn", fn := fun _ => fun
  | [d] => { results := [.lit (.bool true)], args := [d] }
  | _ => none }
def fnTwistsInRow : OpenClaim := { program := "ytkjefpihjgflhaadoor", sum := "66a5076df039ad38df0523223a5c18b07b595cf101eee100f5f5b4353ca67628", func := "loop.example/twistedropes/laws.FnTwistsIn", spec := "fnTwistsIn", inPlace := ["internal/bytealg.IndexByteString", "internal/bytealg.IndexString", "internal/bytealg.CountString"], named := ["unicode/utf8.first", "unicode/utf8.acceptRanges", "internal/bytealg.MaxLen"], apart := false, laid := [("unicode/utf8.acceptRanges", laid_unicode_utf8_acceptRanges), ("unicode/utf8.first", laid_unicode_utf8_first)] }
def FnTwistsInSaid : Prop := fnTwistsInRow.holds Tryd.pinned (OpenSpec.ofChange fnTwistsInSpec)

/-- ITS FALSE NEIGHBOUR: 'it returns false'. Refute it at one input. -/
def fnTwistsInWrong : ChangeSpec := { name := "fnTwistsIn", fn := fun _ => fun
  | [d] => { results := [.lit (.bool false)], args := [d] }
  | _ => none }
def FnTwistsInWrongFalsely : Prop := fnTwistsInRow.holds Tryd.pinned (OpenSpec.ofChange fnTwistsInWrong)

/- THE SECOND FORM. 'bulk': how many values and letters a reading holds, each counted each time it is reached (what is shared counts as often as it is met; a slice's spare places count too). A statement '..UptoSaid' is the law's where the arguments, and the package variables that the reading takes, are together of bulk at most 1048576: NARROWER than '..Said'. Prove '..Said' where nothing that the law and all that it calls make is longer than what came in: it says more and counts as full. Else prove '..UptoSaid'. A law counts once. -/
mutual
def uptoBulk {H : Type} : DataW H → Nat
  | .lit (.string bytes) => bytes.length + 1
  | .lit _ => 1
  | .nil => 1
  | .ptr d => uptoBulk d + 1
  | .slice elems spare => uptoBulkAll elems + uptoBulkAll spare + 1
  | .agg parts => uptoBulkAll parts + 1
  | .iface _ d => uptoBulk d + 1
  | .map entries => uptoBulkEntries entries + 1
  | .held _ => 1
def uptoBulkAll {H : Type} : List (DataW H) → Nat
  | [] => 0
  | d :: r => uptoBulk d + uptoBulkAll r
def uptoBulkEntries {H : Type} : List (Lit × DataW H) → Nat
  | [] => 0
  | x :: r => uptoBulkEntry x + uptoBulkEntries r
def uptoBulkEntry {H : Type} : Lit × DataW H → Nat
  | (.string bytes, d) => bytes.length + uptoBulk d + 1
  | (_, d) => uptoBulk d + 1
 end
def uptoSmall : (H : Type) → List (DataW H) → Bool := fun _ ds => decide (uptoBulkAll ds ≤ 1048576)
def OpenSpec.upto (s : _root_.Go.ChangeSpec) : _root_.Go.OpenSpec := { _root_.Go.OpenSpec.ofChange s with cond := some uptoSmall }

/-- 'laws.FnExactColoursAfter', WHERE WHAT IT READS IS OF BULK AT MOST 1048576: true; the input reads as it did. -/
def fnExactColoursAfterUptoRow : OpenClaim := { program := "ytkjefpihjgflhaadoor", sum := "66a5076df039ad38df0523223a5c18b07b595cf101eee100f5f5b4353ca67628", func := "loop.example/twistedropes/laws.FnExactColoursAfter", spec := "fnExactColoursAfter", inPlace := ["internal/bytealg.IndexByteString", "internal/bytealg.IndexString"], named := ["unicode/utf8.first", "unicode/utf8.acceptRanges", "internal/bytealg.MaxLen"], apart := false, laid := [("unicode/utf8.acceptRanges", laid_unicode_utf8_acceptRanges), ("unicode/utf8.first", laid_unicode_utf8_first)], narrowed := true }
def FnExactColoursAfterUptoSaid : Prop := fnExactColoursAfterUptoRow.holds Tryd.pinned (OpenSpec.upto fnExactColoursAfterSpec)

/-- 'laws.FnExactCountTied', WHERE WHAT IT READS IS OF BULK AT MOST 1048576: true; the input reads as it did. -/
def fnExactCountTiedUptoRow : OpenClaim := { program := "ytkjefpihjgflhaadoor", sum := "66a5076df039ad38df0523223a5c18b07b595cf101eee100f5f5b4353ca67628", func := "loop.example/twistedropes/laws.FnExactCountTied", spec := "fnExactCountTied", inPlace := ["internal/bytealg.IndexByteString", "internal/bytealg.IndexString"], named := ["unicode/utf8.first", "unicode/utf8.acceptRanges", "internal/bytealg.MaxLen"], apart := false, laid := [("unicode/utf8.acceptRanges", laid_unicode_utf8_acceptRanges), ("unicode/utf8.first", laid_unicode_utf8_first)], narrowed := true }
def FnExactCountTiedUptoSaid : Prop := fnExactCountTiedUptoRow.holds Tryd.pinned (OpenSpec.upto fnExactCountTiedSpec)

/-- 'laws.FnExactCountJoined', WHERE WHAT IT READS IS OF BULK AT MOST 1048576: true; the input reads as it did. -/
def fnExactCountJoinedUptoRow : OpenClaim := { program := "ytkjefpihjgflhaadoor", sum := "66a5076df039ad38df0523223a5c18b07b595cf101eee100f5f5b4353ca67628", func := "loop.example/twistedropes/laws.FnExactCountJoined", spec := "fnExactCountJoined", inPlace := ["internal/bytealg.IndexByteString", "internal/bytealg.IndexString"], named := ["unicode/utf8.first", "unicode/utf8.acceptRanges", "internal/bytealg.MaxLen"], apart := false, laid := [("unicode/utf8.acceptRanges", laid_unicode_utf8_acceptRanges), ("unicode/utf8.first", laid_unicode_utf8_first)], narrowed := true }
def FnExactCountJoinedUptoSaid : Prop := fnExactCountJoinedUptoRow.holds Tryd.pinned (OpenSpec.upto fnExactCountJoinedSpec)

/-- 'laws.FnColoursAfter', WHERE WHAT IT READS IS OF BULK AT MOST 1048576: true; the input reads as it did. -/
def fnColoursAfterUptoRow : OpenClaim := { program := "ytkjefpihjgflhaadoor", sum := "66a5076df039ad38df0523223a5c18b07b595cf101eee100f5f5b4353ca67628", func := "loop.example/twistedropes/laws.FnColoursAfter", spec := "fnColoursAfter", inPlace := ["internal/bytealg.IndexByteString", "internal/bytealg.IndexString"], named := ["unicode/utf8.first", "unicode/utf8.acceptRanges", "internal/bytealg.MaxLen"], apart := false, laid := [("unicode/utf8.acceptRanges", laid_unicode_utf8_acceptRanges), ("unicode/utf8.first", laid_unicode_utf8_first)], narrowed := true }
def FnColoursAfterUptoSaid : Prop := fnColoursAfterUptoRow.holds Tryd.pinned (OpenSpec.upto fnColoursAfterSpec)

/-- 'laws.FnCountTied', WHERE WHAT IT READS IS OF BULK AT MOST 1048576: true; the input reads as it did. -/
def fnCountTiedUptoRow : OpenClaim := { program := "ytkjefpihjgflhaadoor", sum := "66a5076df039ad38df0523223a5c18b07b595cf101eee100f5f5b4353ca67628", func := "loop.example/twistedropes/laws.FnCountTied", spec := "fnCountTied", inPlace := ["internal/bytealg.IndexByteString", "internal/bytealg.IndexString"], named := ["unicode/utf8.first", "unicode/utf8.acceptRanges", "internal/bytealg.MaxLen"], apart := false, laid := [("unicode/utf8.acceptRanges", laid_unicode_utf8_acceptRanges), ("unicode/utf8.first", laid_unicode_utf8_first)], narrowed := true }
def FnCountTiedUptoSaid : Prop := fnCountTiedUptoRow.holds Tryd.pinned (OpenSpec.upto fnCountTiedSpec)

/-- 'laws.FnCountJoined', WHERE WHAT IT READS IS OF BULK AT MOST 1048576: true; the input reads as it did. -/
def fnCountJoinedUptoRow : OpenClaim := { program := "ytkjefpihjgflhaadoor", sum := "66a5076df039ad38df0523223a5c18b07b595cf101eee100f5f5b4353ca67628", func := "loop.example/twistedropes/laws.FnCountJoined", spec := "fnCountJoined", inPlace := ["internal/bytealg.IndexByteString", "internal/bytealg.IndexString"], named := ["unicode/utf8.first", "unicode/utf8.acceptRanges", "internal/bytealg.MaxLen"], apart := false, laid := [("unicode/utf8.acceptRanges", laid_unicode_utf8_acceptRanges), ("unicode/utf8.first", laid_unicode_utf8_first)], narrowed := true }
def FnCountJoinedUptoSaid : Prop := fnCountJoinedUptoRow.holds Tryd.pinned (OpenSpec.upto fnCountJoinedSpec)

/-- 'laws.FnExactTwistsIn', WHERE WHAT IT READS IS OF BULK AT MOST 1048576: true; the input reads as it did. -/
def fnExactTwistsInUptoRow : OpenClaim := { program := "ytkjefpihjgflhaadoor", sum := "66a5076df039ad38df0523223a5c18b07b595cf101eee100f5f5b4353ca67628", func := "loop.example/twistedropes/laws.FnExactTwistsIn", spec := "fnExactTwistsIn", inPlace := ["internal/bytealg.IndexByteString", "internal/bytealg.IndexString", "internal/bytealg.CountString"], named := ["unicode/utf8.first", "unicode/utf8.acceptRanges", "internal/bytealg.MaxLen"], apart := false, laid := [("unicode/utf8.acceptRanges", laid_unicode_utf8_acceptRanges), ("unicode/utf8.first", laid_unicode_utf8_first)], narrowed := true }
def FnExactTwistsInUptoSaid : Prop := fnExactTwistsInUptoRow.holds Tryd.pinned (OpenSpec.upto fnExactTwistsInSpec)

/-- 'laws.FnTwistsIn', WHERE WHAT IT READS IS OF BULK AT MOST 1048576: true; the input reads as it did. -/
def fnTwistsInUptoRow : OpenClaim := { program := "ytkjefpihjgflhaadoor", sum := "66a5076df039ad38df0523223a5c18b07b595cf101eee100f5f5b4353ca67628", func := "loop.example/twistedropes/laws.FnTwistsIn", spec := "fnTwistsIn", inPlace := ["internal/bytealg.IndexByteString", "internal/bytealg.IndexString", "internal/bytealg.CountString"], named := ["unicode/utf8.first", "unicode/utf8.acceptRanges", "internal/bytealg.MaxLen"], apart := false, laid := [("unicode/utf8.acceptRanges", laid_unicode_utf8_acceptRanges), ("unicode/utf8.first", laid_unicode_utf8_first)], narrowed := true }
def FnTwistsInUptoSaid : Prop := fnTwistsInUptoRow.holds Tryd.pinned (OpenSpec.upto fnTwistsInSpec)

end Rows
end Go.Proofs.YtkjefpihjgflhaaDoor
