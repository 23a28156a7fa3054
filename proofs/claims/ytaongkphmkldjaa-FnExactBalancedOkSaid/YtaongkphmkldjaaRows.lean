/-
  No cell of these rows narrows 'for every input' (looked for: loops, veiled, ifaces, maps, wideKeys, modest, calm, conditions, laid).
  DERIVED. THE GIVEN ROWS OF THIS SEAT. 12 by the template 'for every input the law returns true; each argument reads behind the call as it read before'; 0 by the template 'total and deterministic' (their statements: YtaongkphmkldjaaTotals.lean).
  GIVEN WITH THE SEED: the statements are not yours to turn. If you find one false, say at which input.
  Laid BY PROGRAM, IN A SANDBOX (cutbox-rows.mjs): the forced cells as the released guide's own fill.sh prints them over the translation 9f315131469d11ce… (all of the seat's roots in one cut). By AI agents, Wed Nov 11 2026. No macro, syntax, notation, axiom, sorry.
-/
import Derived.Test.YtaongkphmkldjaaChecked
import GoSem.Claim
import GoSem.ClaimJoined
import GoSem.ClaimMapViews
import Derived.JoinedTies
import Derived.KernelRfl
namespace Go.Proofs.Ytaongkphmkldjaa
/- THE CELL 'sum', in the pinned program and in every row, IS THE sha256 OF THE DUMP (.gsa) THAT YtaongkphmkldjaaProg.lean LOADS. Nothing in Lean hashes anything: it is a label: what it is worth is what the hold of that sum in a sandbox is worth. -/
noncomputable def Try.pinned : Pinned := { name := "ytaongkphmkldjaa", sum := "9f315131469d11ce18e2c360f1b2b6823c95870dd7e32f8fc1b6d95ce05bb86f", checked := Try.checked }
namespace Rows
def none {H : Type} : Left H := { results := [], args := [] }

/-- 'laws.FnExactBalancedOk': WHATEVER THE INPUT: true; the input reads as it did. -/
def fnExactBalancedOkSpec : ChangeSpec := { name := "fnExactBalancedOk", fn := fun _ => fun
  | [d] => { results := [.lit (.bool true)], args := [d] }
  | _ => none }
def fnExactBalancedOkRow : OpenClaim := { program := "ytaongkphmkldjaa", sum := "9f315131469d11ce18e2c360f1b2b6823c95870dd7e32f8fc1b6d95ce05bb86f", func := "loop.example/twistedropes/laws.FnExactBalancedOk", spec := "fnExactBalancedOk", apart := false }
def FnExactBalancedOkSaid : Prop := fnExactBalancedOkRow.holds Try.pinned (OpenSpec.ofChange fnExactBalancedOkSpec)

/-- ITS FALSE NEIGHBOUR: 'it returns false'. Refute it at one input. -/
def fnExactBalancedOkWrong : ChangeSpec := { name := "fnExactBalancedOk", fn := fun _ => fun
  | [d] => { results := [.lit (.bool false)], args := [d] }
  | _ => none }
def FnExactBalancedOkWrongFalsely : Prop := fnExactBalancedOkRow.holds Try.pinned (OpenSpec.ofChange fnExactBalancedOkWrong)

/-- 'laws.FnExactLinkOk': WHATEVER THE INPUT: true; the input reads as it did. -/
def fnExactLinkOkSpec : ChangeSpec := { name := "fnExactLinkOk", fn := fun _ => fun
  | [d] => { results := [.lit (.bool true)], args := [d] }
  | _ => none }
def fnExactLinkOkRow : OpenClaim := { program := "ytaongkphmkldjaa", sum := "9f315131469d11ce18e2c360f1b2b6823c95870dd7e32f8fc1b6d95ce05bb86f", func := "loop.example/twistedropes/laws.FnExactLinkOk", spec := "fnExactLinkOk", apart := false }
def FnExactLinkOkSaid : Prop := fnExactLinkOkRow.holds Try.pinned (OpenSpec.ofChange fnExactLinkOkSpec)

/-- ITS FALSE NEIGHBOUR: 'it returns false'. Refute it at one input. -/
def fnExactLinkOkWrong : ChangeSpec := { name := "fnExactLinkOk", fn := fun _ => fun
  | [d] => { results := [.lit (.bool false)], args := [d] }
  | _ => none }
def FnExactLinkOkWrongFalsely : Prop := fnExactLinkOkRow.holds Try.pinned (OpenSpec.ofChange fnExactLinkOkWrong)

/-- 'laws.FnExactTiedFor': WHATEVER THE INPUT: true; the input reads as it did. -/
def fnExactTiedForSpec : ChangeSpec := { name := "fnExactTiedFor", fn := fun _ => fun
  | [d1, d2] => { results := [.lit (.bool true)], args := [d1, d2] }
  | _ => none }
def fnExactTiedForRow : OpenClaim := { program := "ytaongkphmkldjaa", sum := "9f315131469d11ce18e2c360f1b2b6823c95870dd7e32f8fc1b6d95ce05bb86f", func := "loop.example/twistedropes/laws.FnExactTiedFor", spec := "fnExactTiedFor", apart := false }
def FnExactTiedForSaid : Prop := fnExactTiedForRow.holds Try.pinned (OpenSpec.ofChange fnExactTiedForSpec)

/-- ITS FALSE NEIGHBOUR: 'it returns false'. Refute it at one input. -/
def fnExactTiedForWrong : ChangeSpec := { name := "fnExactTiedFor", fn := fun _ => fun
  | [d1, d2] => { results := [.lit (.bool false)], args := [d1, d2] }
  | _ => none }
def FnExactTiedForWrongFalsely : Prop := fnExactTiedForRow.holds Try.pinned (OpenSpec.ofChange fnExactTiedForWrong)

/-- 'laws.FnExactNumberOf': WHATEVER THE INPUT: true; the input reads as it did. -/
def fnExactNumberOfSpec : ChangeSpec := { name := "fnExactNumberOf", fn := fun _ => fun
  | [d1, d2] => { results := [.lit (.bool true)], args := [d1, d2] }
  | _ => none }
def fnExactNumberOfRow : OpenClaim := { program := "ytaongkphmkldjaa", sum := "9f315131469d11ce18e2c360f1b2b6823c95870dd7e32f8fc1b6d95ce05bb86f", func := "loop.example/twistedropes/laws.FnExactNumberOf", spec := "fnExactNumberOf", apart := false }
def FnExactNumberOfSaid : Prop := fnExactNumberOfRow.holds Try.pinned (OpenSpec.ofChange fnExactNumberOfSpec)

/-- ITS FALSE NEIGHBOUR: 'it returns false'. Refute it at one input. -/
def fnExactNumberOfWrong : ChangeSpec := { name := "fnExactNumberOf", fn := fun _ => fun
  | [d1, d2] => { results := [.lit (.bool false)], args := [d1, d2] }
  | _ => none }
def FnExactNumberOfWrongFalsely : Prop := fnExactNumberOfRow.holds Try.pinned (OpenSpec.ofChange fnExactNumberOfWrong)

/-- 'laws.FnExactJoinedFor': WHATEVER THE INPUT: true; the input reads as it did. -/
def fnExactJoinedForSpec : ChangeSpec := { name := "fnExactJoinedFor", fn := fun _ => fun
  | [d1, d2, d3] => { results := [.lit (.bool true)], args := [d1, d2, d3] }
  | _ => none }
def fnExactJoinedForRow : OpenClaim := { program := "ytaongkphmkldjaa", sum := "9f315131469d11ce18e2c360f1b2b6823c95870dd7e32f8fc1b6d95ce05bb86f", func := "loop.example/twistedropes/laws.FnExactJoinedFor", spec := "fnExactJoinedFor", apart := false }
def FnExactJoinedForSaid : Prop := fnExactJoinedForRow.holds Try.pinned (OpenSpec.ofChange fnExactJoinedForSpec)

/-- ITS FALSE NEIGHBOUR: 'it returns false'. Refute it at one input. -/
def fnExactJoinedForWrong : ChangeSpec := { name := "fnExactJoinedFor", fn := fun _ => fun
  | [d1, d2, d3] => { results := [.lit (.bool false)], args := [d1, d2, d3] }
  | _ => none }
def FnExactJoinedForWrongFalsely : Prop := fnExactJoinedForRow.holds Try.pinned (OpenSpec.ofChange fnExactJoinedForWrong)

/-- 'laws.FnExactWithWhole': WHATEVER THE INPUT: true; the input reads as it did. -/
def fnExactWithWholeSpec : ChangeSpec := { name := "fnExactWithWhole", fn := fun _ => fun
  | [d1, d2] => { results := [.lit (.bool true)], args := [d1, d2] }
  | _ => none }
def fnExactWithWholeRow : OpenClaim := { program := "ytaongkphmkldjaa", sum := "9f315131469d11ce18e2c360f1b2b6823c95870dd7e32f8fc1b6d95ce05bb86f", func := "loop.example/twistedropes/laws.FnExactWithWhole", spec := "fnExactWithWhole", apart := false }
def FnExactWithWholeSaid : Prop := fnExactWithWholeRow.holds Try.pinned (OpenSpec.ofChange fnExactWithWholeSpec)

/-- ITS FALSE NEIGHBOUR: 'it returns false'. Refute it at one input. -/
def fnExactWithWholeWrong : ChangeSpec := { name := "fnExactWithWhole", fn := fun _ => fun
  | [d1, d2] => { results := [.lit (.bool false)], args := [d1, d2] }
  | _ => none }
def FnExactWithWholeWrongFalsely : Prop := fnExactWithWholeRow.holds Try.pinned (OpenSpec.ofChange fnExactWithWholeWrong)

/-- 'laws.FnExactMirrorLink': WHATEVER THE INPUT: true; the input reads as it did. -/
def fnExactMirrorLinkSpec : ChangeSpec := { name := "fnExactMirrorLink", fn := fun _ => fun
  | [d] => { results := [.lit (.bool true)], args := [d] }
  | _ => none }
def fnExactMirrorLinkRow : OpenClaim := { program := "ytaongkphmkldjaa", sum := "9f315131469d11ce18e2c360f1b2b6823c95870dd7e32f8fc1b6d95ce05bb86f", func := "loop.example/twistedropes/laws.FnExactMirrorLink", spec := "fnExactMirrorLink", apart := false }
def FnExactMirrorLinkSaid : Prop := fnExactMirrorLinkRow.holds Try.pinned (OpenSpec.ofChange fnExactMirrorLinkSpec)

/-- ITS FALSE NEIGHBOUR: 'it returns false'. Refute it at one input. -/
def fnExactMirrorLinkWrong : ChangeSpec := { name := "fnExactMirrorLink", fn := fun _ => fun
  | [d] => { results := [.lit (.bool false)], args := [d] }
  | _ => none }
def FnExactMirrorLinkWrongFalsely : Prop := fnExactMirrorLinkRow.holds Try.pinned (OpenSpec.ofChange fnExactMirrorLinkWrong)

/-- 'laws.FnExactMirrorOf': WHATEVER THE INPUT: true; the input reads as it did. -/
def fnExactMirrorOfSpec : ChangeSpec := { name := "fnExactMirrorOf", fn := fun _ => fun
  | [d] => { results := [.lit (.bool true)], args := [d] }
  | _ => none }
def fnExactMirrorOfRow : OpenClaim := { program := "ytaongkphmkldjaa", sum := "9f315131469d11ce18e2c360f1b2b6823c95870dd7e32f8fc1b6d95ce05bb86f", func := "loop.example/twistedropes/laws.FnExactMirrorOf", spec := "fnExactMirrorOf", apart := false }
def FnExactMirrorOfSaid : Prop := fnExactMirrorOfRow.holds Try.pinned (OpenSpec.ofChange fnExactMirrorOfSpec)

/-- ITS FALSE NEIGHBOUR: 'it returns false'. Refute it at one input. -/
def fnExactMirrorOfWrong : ChangeSpec := { name := "fnExactMirrorOf", fn := fun _ => fun
  | [d] => { results := [.lit (.bool false)], args := [d] }
  | _ => none }
def FnExactMirrorOfWrongFalsely : Prop := fnExactMirrorOfRow.holds Try.pinned (OpenSpec.ofChange fnExactMirrorOfWrong)

/-- 'laws.FnExactLinkOf': WHATEVER THE INPUT: true; the input reads as it did. -/
def fnExactLinkOfSpec : ChangeSpec := { name := "fnExactLinkOf", fn := fun _ => fun
  | [d] => { results := [.lit (.bool true)], args := [d] }
  | _ => none }
def fnExactLinkOfRow : OpenClaim := { program := "ytaongkphmkldjaa", sum := "9f315131469d11ce18e2c360f1b2b6823c95870dd7e32f8fc1b6d95ce05bb86f", func := "loop.example/twistedropes/laws.FnExactLinkOf", spec := "fnExactLinkOf", apart := false }
def FnExactLinkOfSaid : Prop := fnExactLinkOfRow.holds Try.pinned (OpenSpec.ofChange fnExactLinkOfSpec)

/-- ITS FALSE NEIGHBOUR: 'it returns false'. Refute it at one input. -/
def fnExactLinkOfWrong : ChangeSpec := { name := "fnExactLinkOf", fn := fun _ => fun
  | [d] => { results := [.lit (.bool false)], args := [d] }
  | _ => none }
def FnExactLinkOfWrongFalsely : Prop := fnExactLinkOfRow.holds Try.pinned (OpenSpec.ofChange fnExactLinkOfWrong)

/-- 'laws.FnExactSameLink': WHATEVER THE INPUT: true; the input reads as it did. -/
def fnExactSameLinkSpec : ChangeSpec := { name := "fnExactSameLink", fn := fun _ => fun
  | [d1, d2] => { results := [.lit (.bool true)], args := [d1, d2] }
  | _ => none }
def fnExactSameLinkRow : OpenClaim := { program := "ytaongkphmkldjaa", sum := "9f315131469d11ce18e2c360f1b2b6823c95870dd7e32f8fc1b6d95ce05bb86f", func := "loop.example/twistedropes/laws.FnExactSameLink", spec := "fnExactSameLink", apart := false }
def FnExactSameLinkSaid : Prop := fnExactSameLinkRow.holds Try.pinned (OpenSpec.ofChange fnExactSameLinkSpec)

/-- ITS FALSE NEIGHBOUR: 'it returns false'. Refute it at one input. -/
def fnExactSameLinkWrong : ChangeSpec := { name := "fnExactSameLink", fn := fun _ => fun
  | [d1, d2] => { results := [.lit (.bool false)], args := [d1, d2] }
  | _ => none }
def FnExactSameLinkWrongFalsely : Prop := fnExactSameLinkRow.holds Try.pinned (OpenSpec.ofChange fnExactSameLinkWrong)

/-- 'laws.FnExactCrossingsOf': WHATEVER THE INPUT: true; the input reads as it did. -/
def fnExactCrossingsOfSpec : ChangeSpec := { name := "fnExactCrossingsOf", fn := fun _ => fun
  | [d] => { results := [.lit (.bool true)], args := [d] }
  | _ => none }
def fnExactCrossingsOfRow : OpenClaim := { program := "ytaongkphmkldjaa", sum := "9f315131469d11ce18e2c360f1b2b6823c95870dd7e32f8fc1b6d95ce05bb86f", func := "loop.example/twistedropes/laws.FnExactCrossingsOf", spec := "fnExactCrossingsOf", apart := false }
def FnExactCrossingsOfSaid : Prop := fnExactCrossingsOfRow.holds Try.pinned (OpenSpec.ofChange fnExactCrossingsOfSpec)

/-- ITS FALSE NEIGHBOUR: 'it returns false'. Refute it at one input. -/
def fnExactCrossingsOfWrong : ChangeSpec := { name := "fnExactCrossingsOf", fn := fun _ => fun
  | [d] => { results := [.lit (.bool false)], args := [d] }
  | _ => none }
def FnExactCrossingsOfWrongFalsely : Prop := fnExactCrossingsOfRow.holds Try.pinned (OpenSpec.ofChange fnExactCrossingsOfWrong)

/-- 'laws.FnExactToldBy': WHATEVER THE INPUT: true; the input reads as it did. -/
def fnExactToldBySpec : ChangeSpec := { name := "fnExactToldBy", fn := fun _ => fun
  | [d] => { results := [.lit (.bool true)], args := [d] }
  | _ => none }
def fnExactToldByRow : OpenClaim := { program := "ytaongkphmkldjaa", sum := "9f315131469d11ce18e2c360f1b2b6823c95870dd7e32f8fc1b6d95ce05bb86f", func := "loop.example/twistedropes/laws.FnExactToldBy", spec := "fnExactToldBy", apart := false }
def FnExactToldBySaid : Prop := fnExactToldByRow.holds Try.pinned (OpenSpec.ofChange fnExactToldBySpec)

/-- ITS FALSE NEIGHBOUR: 'it returns false'. Refute it at one input. -/
def fnExactToldByWrong : ChangeSpec := { name := "fnExactToldBy", fn := fun _ => fun
  | [d] => { results := [.lit (.bool false)], args := [d] }
  | _ => none }
def FnExactToldByWrongFalsely : Prop := fnExactToldByRow.holds Try.pinned (OpenSpec.ofChange fnExactToldByWrong)

/- THE SECOND FORM. 'bulk': how many values and letters a reading holds, each counted each time it is reached (what is shared counts as often as it is met; a slice's spare places count too). A statement '..UptoSaid' is the law's where the arguments, and the package variables that the reading takes, are together of bulk at most 1048576: NARROWER than '..Said'. Prove '..Said' where nothing that the law and all that it calls make is longer than what came in: it says more and counts as full. Else prove '..UptoSaid'. A law counts once. -/
mutual
def uptoBulk {H : Type} : DataW H → Nat
  | .lit (.string bytes) => bytes.length + 1
  | .lit _ => 1
  | .nil => 1
  | .ptr d => uptoBulk d + 1
  | .slice elems spare => uptoBulkAll elems + uptoBulkAll spare + 1
  | .agg parts => uptoBulkAll parts + 1
  | .iface _ d => uptoBulk d + 1
  | .map entries => uptoBulkEntries entries + 1
  | .held _ => 1
def uptoBulkAll {H : Type} : List (DataW H) → Nat
  | [] => 0
  | d :: r => uptoBulk d + uptoBulkAll r
def uptoBulkEntries {H : Type} : List (Lit × DataW H) → Nat
  | [] => 0
  | x :: r => uptoBulkEntry x + uptoBulkEntries r
def uptoBulkEntry {H : Type} : Lit × DataW H → Nat
  | (.string bytes, d) => bytes.length + uptoBulk d + 1
  | (_, d) => uptoBulk d + 1
 end
def uptoSmall : (H : Type) → List (DataW H) → Bool := fun _ ds => decide (uptoBulkAll ds ≤ 1048576)
def OpenSpec.upto (s : _root_.Go.ChangeSpec) : _root_.Go.OpenSpec := { _root_.Go.OpenSpec.ofChange s with cond := some uptoSmall }

/-- 'laws.FnExactBalancedOk', WHERE WHAT IT READS IS OF BULK AT MOST 1048576: true; the input reads as it did. -/
def fnExactBalancedOkUptoRow : OpenClaim := { program := "ytaongkphmkldjaa", sum := "9f315131469d11ce18e2c360f1b2b6823c95870dd7e32f8fc1b6d95ce05bb86f", func := "loop.example/twistedropes/laws.FnExactBalancedOk", spec := "fnExactBalancedOk", apart := false, narrowed := true }
def FnExactBalancedOkUptoSaid : Prop := fnExactBalancedOkUptoRow.holds Try.pinned (OpenSpec.upto fnExactBalancedOkSpec)

/-- 'laws.FnExactLinkOk', WHERE WHAT IT READS IS OF BULK AT MOST 1048576: true; the input reads as it did. -/
def fnExactLinkOkUptoRow : OpenClaim := { program := "ytaongkphmkldjaa", sum := "9f315131469d11ce18e2c360f1b2b6823c95870dd7e32f8fc1b6d95ce05bb86f", func := "loop.example/twistedropes/laws.FnExactLinkOk", spec := "fnExactLinkOk", apart := false, narrowed := true }
def FnExactLinkOkUptoSaid : Prop := fnExactLinkOkUptoRow.holds Try.pinned (OpenSpec.upto fnExactLinkOkSpec)

/-- 'laws.FnExactTiedFor', WHERE WHAT IT READS IS OF BULK AT MOST 1048576: true; the input reads as it did. -/
def fnExactTiedForUptoRow : OpenClaim := { program := "ytaongkphmkldjaa", sum := "9f315131469d11ce18e2c360f1b2b6823c95870dd7e32f8fc1b6d95ce05bb86f", func := "loop.example/twistedropes/laws.FnExactTiedFor", spec := "fnExactTiedFor", apart := false, narrowed := true }
def FnExactTiedForUptoSaid : Prop := fnExactTiedForUptoRow.holds Try.pinned (OpenSpec.upto fnExactTiedForSpec)

/-- 'laws.FnExactNumberOf', WHERE WHAT IT READS IS OF BULK AT MOST 1048576: true; the input reads as it did. -/
def fnExactNumberOfUptoRow : OpenClaim := { program := "ytaongkphmkldjaa", sum := "9f315131469d11ce18e2c360f1b2b6823c95870dd7e32f8fc1b6d95ce05bb86f", func := "loop.example/twistedropes/laws.FnExactNumberOf", spec := "fnExactNumberOf", apart := false, narrowed := true }
def FnExactNumberOfUptoSaid : Prop := fnExactNumberOfUptoRow.holds Try.pinned (OpenSpec.upto fnExactNumberOfSpec)

/-- 'laws.FnExactJoinedFor', WHERE WHAT IT READS IS OF BULK AT MOST 1048576: true; the input reads as it did. -/
def fnExactJoinedForUptoRow : OpenClaim := { program := "ytaongkphmkldjaa", sum := "9f315131469d11ce18e2c360f1b2b6823c95870dd7e32f8fc1b6d95ce05bb86f", func := "loop.example/twistedropes/laws.FnExactJoinedFor", spec := "fnExactJoinedFor", apart := false, narrowed := true }
def FnExactJoinedForUptoSaid : Prop := fnExactJoinedForUptoRow.holds Try.pinned (OpenSpec.upto fnExactJoinedForSpec)

/-- 'laws.FnExactWithWhole', WHERE WHAT IT READS IS OF BULK AT MOST 1048576: true; the input reads as it did. -/
def fnExactWithWholeUptoRow : OpenClaim := { program := "ytaongkphmkldjaa", sum := "9f315131469d11ce18e2c360f1b2b6823c95870dd7e32f8fc1b6d95ce05bb86f", func := "loop.example/twistedropes/laws.FnExactWithWhole", spec := "fnExactWithWhole", apart := false, narrowed := true }
def FnExactWithWholeUptoSaid : Prop := fnExactWithWholeUptoRow.holds Try.pinned (OpenSpec.upto fnExactWithWholeSpec)

/-- 'laws.FnExactMirrorLink', WHERE WHAT IT READS IS OF BULK AT MOST 1048576: true; the input reads as it did. -/
def fnExactMirrorLinkUptoRow : OpenClaim := { program := "ytaongkphmkldjaa", sum := "9f315131469d11ce18e2c360f1b2b6823c95870dd7e32f8fc1b6d95ce05bb86f", func := "loop.example/twistedropes/laws.FnExactMirrorLink", spec := "fnExactMirrorLink", apart := false, narrowed := true }
def FnExactMirrorLinkUptoSaid : Prop := fnExactMirrorLinkUptoRow.holds Try.pinned (OpenSpec.upto fnExactMirrorLinkSpec)

/-- 'laws.FnExactMirrorOf', WHERE WHAT IT READS IS OF BULK AT MOST 1048576: true; the input reads as it did. -/
def fnExactMirrorOfUptoRow : OpenClaim := { program := "ytaongkphmkldjaa", sum := "9f315131469d11ce18e2c360f1b2b6823c95870dd7e32f8fc1b6d95ce05bb86f", func := "loop.example/twistedropes/laws.FnExactMirrorOf", spec := "fnExactMirrorOf", apart := false, narrowed := true }
def FnExactMirrorOfUptoSaid : Prop := fnExactMirrorOfUptoRow.holds Try.pinned (OpenSpec.upto fnExactMirrorOfSpec)

/-- 'laws.FnExactLinkOf', WHERE WHAT IT READS IS OF BULK AT MOST 1048576: true; the input reads as it did. -/
def fnExactLinkOfUptoRow : OpenClaim := { program := "ytaongkphmkldjaa", sum := "9f315131469d11ce18e2c360f1b2b6823c95870dd7e32f8fc1b6d95ce05bb86f", func := "loop.example/twistedropes/laws.FnExactLinkOf", spec := "fnExactLinkOf", apart := false, narrowed := true }
def FnExactLinkOfUptoSaid : Prop := fnExactLinkOfUptoRow.holds Try.pinned (OpenSpec.upto fnExactLinkOfSpec)

/-- 'laws.FnExactSameLink', WHERE WHAT IT READS IS OF BULK AT MOST 1048576: true; the input reads as it did. -/
def fnExactSameLinkUptoRow : OpenClaim := { program := "ytaongkphmkldjaa", sum := "9f315131469d11ce18e2c360f1b2b6823c95870dd7e32f8fc1b6d95ce05bb86f", func := "loop.example/twistedropes/laws.FnExactSameLink", spec := "fnExactSameLink", apart := false, narrowed := true }
def FnExactSameLinkUptoSaid : Prop := fnExactSameLinkUptoRow.holds Try.pinned (OpenSpec.upto fnExactSameLinkSpec)

/-- 'laws.FnExactCrossingsOf', WHERE WHAT IT READS IS OF BULK AT MOST 1048576: true; the input reads as it did. -/
def fnExactCrossingsOfUptoRow : OpenClaim := { program := "ytaongkphmkldjaa", sum := "9f315131469d11ce18e2c360f1b2b6823c95870dd7e32f8fc1b6d95ce05bb86f", func := "loop.example/twistedropes/laws.FnExactCrossingsOf", spec := "fnExactCrossingsOf", apart := false, narrowed := true }
def FnExactCrossingsOfUptoSaid : Prop := fnExactCrossingsOfUptoRow.holds Try.pinned (OpenSpec.upto fnExactCrossingsOfSpec)

/-- 'laws.FnExactToldBy', WHERE WHAT IT READS IS OF BULK AT MOST 1048576: true; the input reads as it did. -/
def fnExactToldByUptoRow : OpenClaim := { program := "ytaongkphmkldjaa", sum := "9f315131469d11ce18e2c360f1b2b6823c95870dd7e32f8fc1b6d95ce05bb86f", func := "loop.example/twistedropes/laws.FnExactToldBy", spec := "fnExactToldBy", apart := false, narrowed := true }
def FnExactToldByUptoSaid : Prop := fnExactToldByUptoRow.holds Try.pinned (OpenSpec.upto fnExactToldBySpec)

end Rows
end Go.Proofs.Ytaongkphmkldjaa
