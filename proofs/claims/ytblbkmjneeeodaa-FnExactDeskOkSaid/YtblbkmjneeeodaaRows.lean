/-
  No cell of these rows narrows 'for every input' (looked for: loops, veiled, ifaces, maps, wideKeys, modest, calm, conditions, laid).
  DERIVED. THE GIVEN ROWS OF THIS SEAT. 12 by the template 'for every input the law returns true; each argument reads behind the call as it read before'; 0 by the template 'total and deterministic' (their statements: YtblbkmjneeeodaaTotals.lean).
  GIVEN WITH THE SEED: the statements are not yours to turn. If you find one false, say at which input.
  Laid BY PROGRAM, IN A SANDBOX (cutbox-rows.mjs): the forced cells as the released guide's own fill.sh prints them over the translation eec35d9055f0c5f7… (all of the seat's roots in one cut). By AI agents, Wed Nov 11 2026. No macro, syntax, notation, axiom, sorry.
-/
import Derived.Test.YtblbkmjneeeodaaChecked
import GoSem.Claim
import GoSem.ClaimJoined
import GoSem.ClaimMapViews
import Derived.JoinedTies
import Derived.KernelRfl
namespace Go.Proofs.Ytblbkmjneeeodaa
/- THE CELL 'sum', in the pinned program and in every row, IS THE sha256 OF THE DUMP (.gsa) THAT YtblbkmjneeeodaaProg.lean LOADS. Nothing in Lean hashes anything: it is a label: what it is worth is what the hold of that sum in a sandbox is worth. -/
noncomputable def Try.pinned : Pinned := { name := "ytblbkmjneeeodaa", sum := "eec35d9055f0c5f79d4cf6e277a544c2869fa947fbf72f3ef29a9e3bebd63c5b", checked := Try.checked }
namespace Rows
def none {H : Type} : Left H := { results := [], args := [] }

/-- 'laws.FnJoinedFor': WHATEVER THE INPUT: true; the input reads as it did. -/
def fnJoinedForSpec : ChangeSpec := { name := "fnJoinedFor", fn := fun _ => fun
  | [d] => { results := [.lit (.bool true)], args := [d] }
  | _ => none }
def fnJoinedForRow : OpenClaim := { program := "ytblbkmjneeeodaa", sum := "eec35d9055f0c5f79d4cf6e277a544c2869fa947fbf72f3ef29a9e3bebd63c5b", func := "loop.example/twistedropes/laws.FnJoinedFor", spec := "fnJoinedFor", apart := false }
def FnJoinedForSaid : Prop := fnJoinedForRow.holds Try.pinned (OpenSpec.ofChange fnJoinedForSpec)

/-- ITS FALSE NEIGHBOUR: 'it returns false'. Refute it at one input. -/
def fnJoinedForWrong : ChangeSpec := { name := "fnJoinedFor", fn := fun _ => fun
  | [d] => { results := [.lit (.bool false)], args := [d] }
  | _ => none }
def FnJoinedForWrongFalsely : Prop := fnJoinedForRow.holds Try.pinned (OpenSpec.ofChange fnJoinedForWrong)

/-- 'laws.FnWithWhole': WHATEVER THE INPUT: true; the input reads as it did. -/
def fnWithWholeSpec : ChangeSpec := { name := "fnWithWhole", fn := fun _ => fun
  | [d] => { results := [.lit (.bool true)], args := [d] }
  | _ => none }
def fnWithWholeRow : OpenClaim := { program := "ytblbkmjneeeodaa", sum := "eec35d9055f0c5f79d4cf6e277a544c2869fa947fbf72f3ef29a9e3bebd63c5b", func := "loop.example/twistedropes/laws.FnWithWhole", spec := "fnWithWhole", apart := false }
def FnWithWholeSaid : Prop := fnWithWholeRow.holds Try.pinned (OpenSpec.ofChange fnWithWholeSpec)

/-- ITS FALSE NEIGHBOUR: 'it returns false'. Refute it at one input. -/
def fnWithWholeWrong : ChangeSpec := { name := "fnWithWhole", fn := fun _ => fun
  | [d] => { results := [.lit (.bool false)], args := [d] }
  | _ => none }
def FnWithWholeWrongFalsely : Prop := fnWithWholeRow.holds Try.pinned (OpenSpec.ofChange fnWithWholeWrong)

/-- 'laws.FnMirrorOf': WHATEVER THE INPUT: true; the input reads as it did. -/
def fnMirrorOfSpec : ChangeSpec := { name := "fnMirrorOf", fn := fun _ => fun
  | [d] => { results := [.lit (.bool true)], args := [d] }
  | _ => none }
def fnMirrorOfRow : OpenClaim := { program := "ytblbkmjneeeodaa", sum := "eec35d9055f0c5f79d4cf6e277a544c2869fa947fbf72f3ef29a9e3bebd63c5b", func := "loop.example/twistedropes/laws.FnMirrorOf", spec := "fnMirrorOf", apart := false }
def FnMirrorOfSaid : Prop := fnMirrorOfRow.holds Try.pinned (OpenSpec.ofChange fnMirrorOfSpec)

/-- ITS FALSE NEIGHBOUR: 'it returns false'. Refute it at one input. -/
def fnMirrorOfWrong : ChangeSpec := { name := "fnMirrorOf", fn := fun _ => fun
  | [d] => { results := [.lit (.bool false)], args := [d] }
  | _ => none }
def FnMirrorOfWrongFalsely : Prop := fnMirrorOfRow.holds Try.pinned (OpenSpec.ofChange fnMirrorOfWrong)

/-- 'laws.FnToldBy': WHATEVER THE INPUT: true; the input reads as it did. -/
def fnToldBySpec : ChangeSpec := { name := "fnToldBy", fn := fun _ => fun
  | [d] => { results := [.lit (.bool true)], args := [d] }
  | _ => none }
def fnToldByRow : OpenClaim := { program := "ytblbkmjneeeodaa", sum := "eec35d9055f0c5f79d4cf6e277a544c2869fa947fbf72f3ef29a9e3bebd63c5b", func := "loop.example/twistedropes/laws.FnToldBy", spec := "fnToldBy", apart := false }
def FnToldBySaid : Prop := fnToldByRow.holds Try.pinned (OpenSpec.ofChange fnToldBySpec)

/-- ITS FALSE NEIGHBOUR: 'it returns false'. Refute it at one input. -/
def fnToldByWrong : ChangeSpec := { name := "fnToldBy", fn := fun _ => fun
  | [d] => { results := [.lit (.bool false)], args := [d] }
  | _ => none }
def FnToldByWrongFalsely : Prop := fnToldByRow.holds Try.pinned (OpenSpec.ofChange fnToldByWrong)

/-- 'laws.FnLeastOf': WHATEVER THE INPUT: true; the input reads as it did. -/
def fnLeastOfSpec : ChangeSpec := { name := "fnLeastOf", fn := fun _ => fun
  | [d] => { results := [.lit (.bool true)], args := [d] }
  | _ => none }
def fnLeastOfRow : OpenClaim := { program := "ytblbkmjneeeodaa", sum := "eec35d9055f0c5f79d4cf6e277a544c2869fa947fbf72f3ef29a9e3bebd63c5b", func := "loop.example/twistedropes/laws.FnLeastOf", spec := "fnLeastOf", apart := false }
def FnLeastOfSaid : Prop := fnLeastOfRow.holds Try.pinned (OpenSpec.ofChange fnLeastOfSpec)

/-- ITS FALSE NEIGHBOUR: 'it returns false'. Refute it at one input. -/
def fnLeastOfWrong : ChangeSpec := { name := "fnLeastOf", fn := fun _ => fun
  | [d] => { results := [.lit (.bool false)], args := [d] }
  | _ => none }
def FnLeastOfWrongFalsely : Prop := fnLeastOfRow.holds Try.pinned (OpenSpec.ofChange fnLeastOfWrong)

/-- 'laws.FnCrossingsOf': WHATEVER THE INPUT: true; the input reads as it did. -/
def fnCrossingsOfSpec : ChangeSpec := { name := "fnCrossingsOf", fn := fun _ => fun
  | [d] => { results := [.lit (.bool true)], args := [d] }
  | _ => none }
def fnCrossingsOfRow : OpenClaim := { program := "ytblbkmjneeeodaa", sum := "eec35d9055f0c5f79d4cf6e277a544c2869fa947fbf72f3ef29a9e3bebd63c5b", func := "loop.example/twistedropes/laws.FnCrossingsOf", spec := "fnCrossingsOf", apart := false }
def FnCrossingsOfSaid : Prop := fnCrossingsOfRow.holds Try.pinned (OpenSpec.ofChange fnCrossingsOfSpec)

/-- ITS FALSE NEIGHBOUR: 'it returns false'. Refute it at one input. -/
def fnCrossingsOfWrong : ChangeSpec := { name := "fnCrossingsOf", fn := fun _ => fun
  | [d] => { results := [.lit (.bool false)], args := [d] }
  | _ => none }
def FnCrossingsOfWrongFalsely : Prop := fnCrossingsOfRow.holds Try.pinned (OpenSpec.ofChange fnCrossingsOfWrong)

/-- 'laws.FnSameLink': WHATEVER THE INPUT: true; the input reads as it did. -/
def fnSameLinkSpec : ChangeSpec := { name := "fnSameLink", fn := fun _ => fun
  | [d] => { results := [.lit (.bool true)], args := [d] }
  | _ => none }
def fnSameLinkRow : OpenClaim := { program := "ytblbkmjneeeodaa", sum := "eec35d9055f0c5f79d4cf6e277a544c2869fa947fbf72f3ef29a9e3bebd63c5b", func := "loop.example/twistedropes/laws.FnSameLink", spec := "fnSameLink", apart := false }
def FnSameLinkSaid : Prop := fnSameLinkRow.holds Try.pinned (OpenSpec.ofChange fnSameLinkSpec)

/-- ITS FALSE NEIGHBOUR: 'it returns false'. Refute it at one input. -/
def fnSameLinkWrong : ChangeSpec := { name := "fnSameLink", fn := fun _ => fun
  | [d] => { results := [.lit (.bool false)], args := [d] }
  | _ => none }
def FnSameLinkWrongFalsely : Prop := fnSameLinkRow.holds Try.pinned (OpenSpec.ofChange fnSameLinkWrong)

/-- 'laws.FnOwnMirror': WHATEVER THE INPUT: true; the input reads as it did. -/
def fnOwnMirrorSpec : ChangeSpec := { name := "fnOwnMirror", fn := fun _ => fun
  | [d] => { results := [.lit (.bool true)], args := [d] }
  | _ => none }
def fnOwnMirrorRow : OpenClaim := { program := "ytblbkmjneeeodaa", sum := "eec35d9055f0c5f79d4cf6e277a544c2869fa947fbf72f3ef29a9e3bebd63c5b", func := "loop.example/twistedropes/laws.FnOwnMirror", spec := "fnOwnMirror", apart := false }
def FnOwnMirrorSaid : Prop := fnOwnMirrorRow.holds Try.pinned (OpenSpec.ofChange fnOwnMirrorSpec)

/-- ITS FALSE NEIGHBOUR: 'it returns false'. Refute it at one input. -/
def fnOwnMirrorWrong : ChangeSpec := { name := "fnOwnMirror", fn := fun _ => fun
  | [d] => { results := [.lit (.bool false)], args := [d] }
  | _ => none }
def FnOwnMirrorWrongFalsely : Prop := fnOwnMirrorRow.holds Try.pinned (OpenSpec.ofChange fnOwnMirrorWrong)

/-- 'laws.FnLinkOf': WHATEVER THE INPUT: true; the input reads as it did. -/
def fnLinkOfSpec : ChangeSpec := { name := "fnLinkOf", fn := fun _ => fun
  | [d] => { results := [.lit (.bool true)], args := [d] }
  | _ => none }
def fnLinkOfRow : OpenClaim := { program := "ytblbkmjneeeodaa", sum := "eec35d9055f0c5f79d4cf6e277a544c2869fa947fbf72f3ef29a9e3bebd63c5b", func := "loop.example/twistedropes/laws.FnLinkOf", spec := "fnLinkOf", apart := false }
def FnLinkOfSaid : Prop := fnLinkOfRow.holds Try.pinned (OpenSpec.ofChange fnLinkOfSpec)

/-- ITS FALSE NEIGHBOUR: 'it returns false'. Refute it at one input. -/
def fnLinkOfWrong : ChangeSpec := { name := "fnLinkOf", fn := fun _ => fun
  | [d] => { results := [.lit (.bool false)], args := [d] }
  | _ => none }
def FnLinkOfWrongFalsely : Prop := fnLinkOfRow.holds Try.pinned (OpenSpec.ofChange fnLinkOfWrong)

/-- 'laws.FnMirrorLink': WHATEVER THE INPUT: true; the input reads as it did. -/
def fnMirrorLinkSpec : ChangeSpec := { name := "fnMirrorLink", fn := fun _ => fun
  | [d] => { results := [.lit (.bool true)], args := [d] }
  | _ => none }
def fnMirrorLinkRow : OpenClaim := { program := "ytblbkmjneeeodaa", sum := "eec35d9055f0c5f79d4cf6e277a544c2869fa947fbf72f3ef29a9e3bebd63c5b", func := "loop.example/twistedropes/laws.FnMirrorLink", spec := "fnMirrorLink", apart := false }
def FnMirrorLinkSaid : Prop := fnMirrorLinkRow.holds Try.pinned (OpenSpec.ofChange fnMirrorLinkSpec)

/-- ITS FALSE NEIGHBOUR: 'it returns false'. Refute it at one input. -/
def fnMirrorLinkWrong : ChangeSpec := { name := "fnMirrorLink", fn := fun _ => fun
  | [d] => { results := [.lit (.bool false)], args := [d] }
  | _ => none }
def FnMirrorLinkWrongFalsely : Prop := fnMirrorLinkRow.holds Try.pinned (OpenSpec.ofChange fnMirrorLinkWrong)

/-- 'laws.FnExactDeskOk': WHATEVER THE INPUT: true; the input reads as it did. -/
def fnExactDeskOkSpec : ChangeSpec := { name := "fnExactDeskOk", fn := fun _ => fun
  | [d] => { results := [.lit (.bool true)], args := [d] }
  | _ => none }
def fnExactDeskOkRow : OpenClaim := { program := "ytblbkmjneeeodaa", sum := "eec35d9055f0c5f79d4cf6e277a544c2869fa947fbf72f3ef29a9e3bebd63c5b", func := "loop.example/twistedropes/laws.FnExactDeskOk", spec := "fnExactDeskOk", unfollowed := true, recurses := true, apart := false }
def FnExactDeskOkSaid : Prop := fnExactDeskOkRow.holds Try.pinned (OpenSpec.ofChange fnExactDeskOkSpec)

/-- ITS FALSE NEIGHBOUR: 'it returns false'. Refute it at one input. -/
def fnExactDeskOkWrong : ChangeSpec := { name := "fnExactDeskOk", fn := fun _ => fun
  | [d] => { results := [.lit (.bool false)], args := [d] }
  | _ => none }
def FnExactDeskOkWrongFalsely : Prop := fnExactDeskOkRow.holds Try.pinned (OpenSpec.ofChange fnExactDeskOkWrong)

/-- 'laws.FnDeskOk': WHATEVER THE INPUT: true; the input reads as it did. -/
def fnDeskOkSpec : ChangeSpec := { name := "fnDeskOk", fn := fun _ => fun
  | [d] => { results := [.lit (.bool true)], args := [d] }
  | _ => none }
def fnDeskOkRow : OpenClaim := { program := "ytblbkmjneeeodaa", sum := "eec35d9055f0c5f79d4cf6e277a544c2869fa947fbf72f3ef29a9e3bebd63c5b", func := "loop.example/twistedropes/laws.FnDeskOk", spec := "fnDeskOk", unfollowed := true, recurses := true, apart := false }
def FnDeskOkSaid : Prop := fnDeskOkRow.holds Try.pinned (OpenSpec.ofChange fnDeskOkSpec)

/-- ITS FALSE NEIGHBOUR: 'it returns false'. Refute it at one input. -/
def fnDeskOkWrong : ChangeSpec := { name := "fnDeskOk", fn := fun _ => fun
  | [d] => { results := [.lit (.bool false)], args := [d] }
  | _ => none }
def FnDeskOkWrongFalsely : Prop := fnDeskOkRow.holds Try.pinned (OpenSpec.ofChange fnDeskOkWrong)

/- THE SECOND FORM. 'bulk': how many values and letters a reading holds, each counted each time it is reached (what is shared counts as often as it is met; a slice's spare places count too). A statement '..UptoSaid' is the law's where the arguments, and the package variables that the reading takes, are together of bulk at most 1048576: NARROWER than '..Said'. Prove '..Said' where nothing that the law and all that it calls make is longer than what came in: it says more and counts as full. Else prove '..UptoSaid'. A law counts once. -/
mutual
def uptoBulk {H : Type} : DataW H → Nat
  | .lit (.string bytes) => bytes.length + 1
  | .lit _ => 1
  | .nil => 1
  | .ptr d => uptoBulk d + 1
  | .slice elems spare => uptoBulkAll elems + uptoBulkAll spare + 1
  | .agg parts => uptoBulkAll parts + 1
  | .iface _ d => uptoBulk d + 1
  | .map entries => uptoBulkEntries entries + 1
  | .held _ => 1
def uptoBulkAll {H : Type} : List (DataW H) → Nat
  | [] => 0
  | d :: r => uptoBulk d + uptoBulkAll r
def uptoBulkEntries {H : Type} : List (Lit × DataW H) → Nat
  | [] => 0
  | x :: r => uptoBulkEntry x + uptoBulkEntries r
def uptoBulkEntry {H : Type} : Lit × DataW H → Nat
  | (.string bytes, d) => bytes.length + uptoBulk d + 1
  | (_, d) => uptoBulk d + 1
 end
def uptoSmall : (H : Type) → List (DataW H) → Bool := fun _ ds => decide (uptoBulkAll ds ≤ 1048576)
def OpenSpec.upto (s : _root_.Go.ChangeSpec) : _root_.Go.OpenSpec := { _root_.Go.OpenSpec.ofChange s with cond := some uptoSmall }

/-- 'laws.FnJoinedFor', WHERE WHAT IT READS IS OF BULK AT MOST 1048576: true; the input reads as it did. -/
def fnJoinedForUptoRow : OpenClaim := { program := "ytblbkmjneeeodaa", sum := "eec35d9055f0c5f79d4cf6e277a544c2869fa947fbf72f3ef29a9e3bebd63c5b", func := "loop.example/twistedropes/laws.FnJoinedFor", spec := "fnJoinedFor", apart := false, narrowed := true }
def FnJoinedForUptoSaid : Prop := fnJoinedForUptoRow.holds Try.pinned (OpenSpec.upto fnJoinedForSpec)

/-- 'laws.FnWithWhole', WHERE WHAT IT READS IS OF BULK AT MOST 1048576: true; the input reads as it did. -/
def fnWithWholeUptoRow : OpenClaim := { program := "ytblbkmjneeeodaa", sum := "eec35d9055f0c5f79d4cf6e277a544c2869fa947fbf72f3ef29a9e3bebd63c5b", func := "loop.example/twistedropes/laws.FnWithWhole", spec := "fnWithWhole", apart := false, narrowed := true }
def FnWithWholeUptoSaid : Prop := fnWithWholeUptoRow.holds Try.pinned (OpenSpec.upto fnWithWholeSpec)

/-- 'laws.FnMirrorOf', WHERE WHAT IT READS IS OF BULK AT MOST 1048576: true; the input reads as it did. -/
def fnMirrorOfUptoRow : OpenClaim := { program := "ytblbkmjneeeodaa", sum := "eec35d9055f0c5f79d4cf6e277a544c2869fa947fbf72f3ef29a9e3bebd63c5b", func := "loop.example/twistedropes/laws.FnMirrorOf", spec := "fnMirrorOf", apart := false, narrowed := true }
def FnMirrorOfUptoSaid : Prop := fnMirrorOfUptoRow.holds Try.pinned (OpenSpec.upto fnMirrorOfSpec)

/-- 'laws.FnToldBy', WHERE WHAT IT READS IS OF BULK AT MOST 1048576: true; the input reads as it did. -/
def fnToldByUptoRow : OpenClaim := { program := "ytblbkmjneeeodaa", sum := "eec35d9055f0c5f79d4cf6e277a544c2869fa947fbf72f3ef29a9e3bebd63c5b", func := "loop.example/twistedropes/laws.FnToldBy", spec := "fnToldBy", apart := false, narrowed := true }
def FnToldByUptoSaid : Prop := fnToldByUptoRow.holds Try.pinned (OpenSpec.upto fnToldBySpec)

/-- 'laws.FnLeastOf', WHERE WHAT IT READS IS OF BULK AT MOST 1048576: true; the input reads as it did. -/
def fnLeastOfUptoRow : OpenClaim := { program := "ytblbkmjneeeodaa", sum := "eec35d9055f0c5f79d4cf6e277a544c2869fa947fbf72f3ef29a9e3bebd63c5b", func := "loop.example/twistedropes/laws.FnLeastOf", spec := "fnLeastOf", apart := false, narrowed := true }
def FnLeastOfUptoSaid : Prop := fnLeastOfUptoRow.holds Try.pinned (OpenSpec.upto fnLeastOfSpec)

/-- 'laws.FnCrossingsOf', WHERE WHAT IT READS IS OF BULK AT MOST 1048576: true; the input reads as it did. -/
def fnCrossingsOfUptoRow : OpenClaim := { program := "ytblbkmjneeeodaa", sum := "eec35d9055f0c5f79d4cf6e277a544c2869fa947fbf72f3ef29a9e3bebd63c5b", func := "loop.example/twistedropes/laws.FnCrossingsOf", spec := "fnCrossingsOf", apart := false, narrowed := true }
def FnCrossingsOfUptoSaid : Prop := fnCrossingsOfUptoRow.holds Try.pinned (OpenSpec.upto fnCrossingsOfSpec)

/-- 'laws.FnSameLink', WHERE WHAT IT READS IS OF BULK AT MOST 1048576: true; the input reads as it did. -/
def fnSameLinkUptoRow : OpenClaim := { program := "ytblbkmjneeeodaa", sum := "eec35d9055f0c5f79d4cf6e277a544c2869fa947fbf72f3ef29a9e3bebd63c5b", func := "loop.example/twistedropes/laws.FnSameLink", spec := "fnSameLink", apart := false, narrowed := true }
def FnSameLinkUptoSaid : Prop := fnSameLinkUptoRow.holds Try.pinned (OpenSpec.upto fnSameLinkSpec)

/-- 'laws.FnOwnMirror', WHERE WHAT IT READS IS OF BULK AT MOST 1048576: true; the input reads as it did. -/
def fnOwnMirrorUptoRow : OpenClaim := { program := "ytblbkmjneeeodaa", sum := "eec35d9055f0c5f79d4cf6e277a544c2869fa947fbf72f3ef29a9e3bebd63c5b", func := "loop.example/twistedropes/laws.FnOwnMirror", spec := "fnOwnMirror", apart := false, narrowed := true }
def FnOwnMirrorUptoSaid : Prop := fnOwnMirrorUptoRow.holds Try.pinned (OpenSpec.upto fnOwnMirrorSpec)

/-- 'laws.FnLinkOf', WHERE WHAT IT READS IS OF BULK AT MOST 1048576: true; the input reads as it did. -/
def fnLinkOfUptoRow : OpenClaim := { program := "ytblbkmjneeeodaa", sum := "eec35d9055f0c5f79d4cf6e277a544c2869fa947fbf72f3ef29a9e3bebd63c5b", func := "loop.example/twistedropes/laws.FnLinkOf", spec := "fnLinkOf", apart := false, narrowed := true }
def FnLinkOfUptoSaid : Prop := fnLinkOfUptoRow.holds Try.pinned (OpenSpec.upto fnLinkOfSpec)

/-- 'laws.FnMirrorLink', WHERE WHAT IT READS IS OF BULK AT MOST 1048576: true; the input reads as it did. -/
def fnMirrorLinkUptoRow : OpenClaim := { program := "ytblbkmjneeeodaa", sum := "eec35d9055f0c5f79d4cf6e277a544c2869fa947fbf72f3ef29a9e3bebd63c5b", func := "loop.example/twistedropes/laws.FnMirrorLink", spec := "fnMirrorLink", apart := false, narrowed := true }
def FnMirrorLinkUptoSaid : Prop := fnMirrorLinkUptoRow.holds Try.pinned (OpenSpec.upto fnMirrorLinkSpec)

/-- 'laws.FnExactDeskOk', WHERE WHAT IT READS IS OF BULK AT MOST 1048576: true; the input reads as it did. -/
def fnExactDeskOkUptoRow : OpenClaim := { program := "ytblbkmjneeeodaa", sum := "eec35d9055f0c5f79d4cf6e277a544c2869fa947fbf72f3ef29a9e3bebd63c5b", func := "loop.example/twistedropes/laws.FnExactDeskOk", spec := "fnExactDeskOk", unfollowed := true, recurses := true, apart := false, narrowed := true }
def FnExactDeskOkUptoSaid : Prop := fnExactDeskOkUptoRow.holds Try.pinned (OpenSpec.upto fnExactDeskOkSpec)

/-- 'laws.FnDeskOk', WHERE WHAT IT READS IS OF BULK AT MOST 1048576: true; the input reads as it did. -/
def fnDeskOkUptoRow : OpenClaim := { program := "ytblbkmjneeeodaa", sum := "eec35d9055f0c5f79d4cf6e277a544c2869fa947fbf72f3ef29a9e3bebd63c5b", func := "loop.example/twistedropes/laws.FnDeskOk", spec := "fnDeskOk", unfollowed := true, recurses := true, apart := false, narrowed := true }
def FnDeskOkUptoSaid : Prop := fnDeskOkUptoRow.holds Try.pinned (OpenSpec.upto fnDeskOkSpec)

end Rows
end Go.Proofs.Ytblbkmjneeeodaa
