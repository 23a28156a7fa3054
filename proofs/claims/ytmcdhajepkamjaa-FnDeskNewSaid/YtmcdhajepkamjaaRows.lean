/-
  No cell of these rows narrows 'for every input' (looked for: loops, veiled, ifaces, maps, wideKeys, modest, calm, conditions, laid).
  DERIVED. THE GIVEN ROWS OF THIS SEAT. 12 by the template 'for every input the law returns true; each argument reads behind the call as it read before'; 0 by the template 'total and deterministic' (their statements: YtmcdhajepkamjaaTotals.lean).
  GIVEN WITH THE SEED: the statements are not yours to turn. If you find one false, say at which input.
  Laid BY PROGRAM, IN A SANDBOX (cutbox-rows.mjs): the forced cells as the released guide's own fill.sh prints them over the translation ff9afd3416254e58… (all of the seat's roots in one cut). By AI agents, Wed Nov 11 2026. No macro, syntax, notation, axiom, sorry.
-/
import Derived.Test.YtmcdhajepkamjaaChecked
import GoSem.Claim
import GoSem.ClaimJoined
import GoSem.ClaimMapViews
import Derived.JoinedTies
import Derived.KernelRfl
namespace Go.Proofs.Ytmcdhajepkamjaa
/- THE CELL 'sum', in the pinned program and in every row, IS THE sha256 OF THE DUMP (.gsa) THAT YtmcdhajepkamjaaProg.lean LOADS. Nothing in Lean hashes anything: it is a label: what it is worth is what the hold of that sum in a sandbox is worth. -/
noncomputable def Try.pinned : Pinned := { name := "ytmcdhajepkamjaa", sum := "ff9afd3416254e588d7de11c8a21dbdb913f11632f134f28b190803973826286", checked := Try.checked }
namespace Rows
def none {H : Type} : Left H := { results := [], args := [] }

/-- 'laws.FnExactLeastOf': WHATEVER THE INPUT: true; the input reads as it did. -/
def fnExactLeastOfSpec : ChangeSpec := { name := "fnExactLeastOf", fn := fun _ => fun
  | [d] => { results := [.lit (.bool true)], args := [d] }
  | _ => none }
def fnExactLeastOfRow : OpenClaim := { program := "ytmcdhajepkamjaa", sum := "ff9afd3416254e588d7de11c8a21dbdb913f11632f134f28b190803973826286", func := "loop.example/twistedropes/laws.FnExactLeastOf", spec := "fnExactLeastOf", apart := false }
def FnExactLeastOfSaid : Prop := fnExactLeastOfRow.holds Try.pinned (OpenSpec.ofChange fnExactLeastOfSpec)

/-- ITS FALSE NEIGHBOUR: 'it returns false'. Refute it at one input. -/
def fnExactLeastOfWrong : ChangeSpec := { name := "fnExactLeastOf", fn := fun _ => fun
  | [d] => { results := [.lit (.bool false)], args := [d] }
  | _ => none }
def FnExactLeastOfWrongFalsely : Prop := fnExactLeastOfRow.holds Try.pinned (OpenSpec.ofChange fnExactLeastOfWrong)

/-- 'laws.FnExactQuotientsOf': WHATEVER THE INPUT: true; the input reads as it did. -/
def fnExactQuotientsOfSpec : ChangeSpec := { name := "fnExactQuotientsOf", fn := fun _ => fun
  | [d] => { results := [.lit (.bool true)], args := [d] }
  | _ => none }
def fnExactQuotientsOfRow : OpenClaim := { program := "ytmcdhajepkamjaa", sum := "ff9afd3416254e588d7de11c8a21dbdb913f11632f134f28b190803973826286", func := "loop.example/twistedropes/laws.FnExactQuotientsOf", spec := "fnExactQuotientsOf", apart := false }
def FnExactQuotientsOfSaid : Prop := fnExactQuotientsOfRow.holds Try.pinned (OpenSpec.ofChange fnExactQuotientsOfSpec)

/-- ITS FALSE NEIGHBOUR: 'it returns false'. Refute it at one input. -/
def fnExactQuotientsOfWrong : ChangeSpec := { name := "fnExactQuotientsOf", fn := fun _ => fun
  | [d] => { results := [.lit (.bool false)], args := [d] }
  | _ => none }
def FnExactQuotientsOfWrongFalsely : Prop := fnExactQuotientsOfRow.holds Try.pinned (OpenSpec.ofChange fnExactQuotientsOfWrong)

/-- 'laws.FnExactOwnMirror': WHATEVER THE INPUT: true; the input reads as it did. -/
def fnExactOwnMirrorSpec : ChangeSpec := { name := "fnExactOwnMirror", fn := fun _ => fun
  | [d] => { results := [.lit (.bool true)], args := [d] }
  | _ => none }
def fnExactOwnMirrorRow : OpenClaim := { program := "ytmcdhajepkamjaa", sum := "ff9afd3416254e588d7de11c8a21dbdb913f11632f134f28b190803973826286", func := "loop.example/twistedropes/laws.FnExactOwnMirror", spec := "fnExactOwnMirror", apart := false }
def FnExactOwnMirrorSaid : Prop := fnExactOwnMirrorRow.holds Try.pinned (OpenSpec.ofChange fnExactOwnMirrorSpec)

/-- ITS FALSE NEIGHBOUR: 'it returns false'. Refute it at one input. -/
def fnExactOwnMirrorWrong : ChangeSpec := { name := "fnExactOwnMirror", fn := fun _ => fun
  | [d] => { results := [.lit (.bool false)], args := [d] }
  | _ => none }
def FnExactOwnMirrorWrongFalsely : Prop := fnExactOwnMirrorRow.holds Try.pinned (OpenSpec.ofChange fnExactOwnMirrorWrong)

/-- 'laws.FnExactDeskNew': WHATEVER THE INPUT: true; the input reads as it did. -/
def fnExactDeskNewSpec : ChangeSpec := { name := "fnExactDeskNew", fn := fun _ => fun
  | [d] => { results := [.lit (.bool true)], args := [d] }
  | _ => none }
def fnExactDeskNewRow : OpenClaim := { program := "ytmcdhajepkamjaa", sum := "ff9afd3416254e588d7de11c8a21dbdb913f11632f134f28b190803973826286", func := "loop.example/twistedropes/laws.FnExactDeskNew", spec := "fnExactDeskNew", apart := false }
def FnExactDeskNewSaid : Prop := fnExactDeskNewRow.holds Try.pinned (OpenSpec.ofChange fnExactDeskNewSpec)

/-- ITS FALSE NEIGHBOUR: 'it returns false'. Refute it at one input. -/
def fnExactDeskNewWrong : ChangeSpec := { name := "fnExactDeskNew", fn := fun _ => fun
  | [d] => { results := [.lit (.bool false)], args := [d] }
  | _ => none }
def FnExactDeskNewWrongFalsely : Prop := fnExactDeskNewRow.holds Try.pinned (OpenSpec.ofChange fnExactDeskNewWrong)

/-- 'laws.FnExactLinksOf': WHATEVER THE INPUT: true; the input reads as it did. -/
def fnExactLinksOfSpec : ChangeSpec := { name := "fnExactLinksOf", fn := fun _ => fun
  | [d] => { results := [.lit (.bool true)], args := [d] }
  | _ => none }
def fnExactLinksOfRow : OpenClaim := { program := "ytmcdhajepkamjaa", sum := "ff9afd3416254e588d7de11c8a21dbdb913f11632f134f28b190803973826286", func := "loop.example/twistedropes/laws.FnExactLinksOf", spec := "fnExactLinksOf", apart := false }
def FnExactLinksOfSaid : Prop := fnExactLinksOfRow.holds Try.pinned (OpenSpec.ofChange fnExactLinksOfSpec)

/-- ITS FALSE NEIGHBOUR: 'it returns false'. Refute it at one input. -/
def fnExactLinksOfWrong : ChangeSpec := { name := "fnExactLinksOf", fn := fun _ => fun
  | [d] => { results := [.lit (.bool false)], args := [d] }
  | _ => none }
def FnExactLinksOfWrongFalsely : Prop := fnExactLinksOfRow.holds Try.pinned (OpenSpec.ofChange fnExactLinksOfWrong)

/-- 'laws.FnBalancedOk': WHATEVER THE INPUT: true; the input reads as it did. -/
def fnBalancedOkSpec : ChangeSpec := { name := "fnBalancedOk", fn := fun _ => fun
  | [d] => { results := [.lit (.bool true)], args := [d] }
  | _ => none }
def fnBalancedOkRow : OpenClaim := { program := "ytmcdhajepkamjaa", sum := "ff9afd3416254e588d7de11c8a21dbdb913f11632f134f28b190803973826286", func := "loop.example/twistedropes/laws.FnBalancedOk", spec := "fnBalancedOk", apart := false }
def FnBalancedOkSaid : Prop := fnBalancedOkRow.holds Try.pinned (OpenSpec.ofChange fnBalancedOkSpec)

/-- ITS FALSE NEIGHBOUR: 'it returns false'. Refute it at one input. -/
def fnBalancedOkWrong : ChangeSpec := { name := "fnBalancedOk", fn := fun _ => fun
  | [d] => { results := [.lit (.bool false)], args := [d] }
  | _ => none }
def FnBalancedOkWrongFalsely : Prop := fnBalancedOkRow.holds Try.pinned (OpenSpec.ofChange fnBalancedOkWrong)

/-- 'laws.FnTiedFor': WHATEVER THE INPUT: true; the input reads as it did. -/
def fnTiedForSpec : ChangeSpec := { name := "fnTiedFor", fn := fun _ => fun
  | [d] => { results := [.lit (.bool true)], args := [d] }
  | _ => none }
def fnTiedForRow : OpenClaim := { program := "ytmcdhajepkamjaa", sum := "ff9afd3416254e588d7de11c8a21dbdb913f11632f134f28b190803973826286", func := "loop.example/twistedropes/laws.FnTiedFor", spec := "fnTiedFor", apart := false }
def FnTiedForSaid : Prop := fnTiedForRow.holds Try.pinned (OpenSpec.ofChange fnTiedForSpec)

/-- ITS FALSE NEIGHBOUR: 'it returns false'. Refute it at one input. -/
def fnTiedForWrong : ChangeSpec := { name := "fnTiedFor", fn := fun _ => fun
  | [d] => { results := [.lit (.bool false)], args := [d] }
  | _ => none }
def FnTiedForWrongFalsely : Prop := fnTiedForRow.holds Try.pinned (OpenSpec.ofChange fnTiedForWrong)

/-- 'laws.FnLinkOk': WHATEVER THE INPUT: true; the input reads as it did. -/
def fnLinkOkSpec : ChangeSpec := { name := "fnLinkOk", fn := fun _ => fun
  | [d] => { results := [.lit (.bool true)], args := [d] }
  | _ => none }
def fnLinkOkRow : OpenClaim := { program := "ytmcdhajepkamjaa", sum := "ff9afd3416254e588d7de11c8a21dbdb913f11632f134f28b190803973826286", func := "loop.example/twistedropes/laws.FnLinkOk", spec := "fnLinkOk", apart := false }
def FnLinkOkSaid : Prop := fnLinkOkRow.holds Try.pinned (OpenSpec.ofChange fnLinkOkSpec)

/-- ITS FALSE NEIGHBOUR: 'it returns false'. Refute it at one input. -/
def fnLinkOkWrong : ChangeSpec := { name := "fnLinkOk", fn := fun _ => fun
  | [d] => { results := [.lit (.bool false)], args := [d] }
  | _ => none }
def FnLinkOkWrongFalsely : Prop := fnLinkOkRow.holds Try.pinned (OpenSpec.ofChange fnLinkOkWrong)

/-- 'laws.FnNumberOf': WHATEVER THE INPUT: true; the input reads as it did. -/
def fnNumberOfSpec : ChangeSpec := { name := "fnNumberOf", fn := fun _ => fun
  | [d] => { results := [.lit (.bool true)], args := [d] }
  | _ => none }
def fnNumberOfRow : OpenClaim := { program := "ytmcdhajepkamjaa", sum := "ff9afd3416254e588d7de11c8a21dbdb913f11632f134f28b190803973826286", func := "loop.example/twistedropes/laws.FnNumberOf", spec := "fnNumberOf", apart := false }
def FnNumberOfSaid : Prop := fnNumberOfRow.holds Try.pinned (OpenSpec.ofChange fnNumberOfSpec)

/-- ITS FALSE NEIGHBOUR: 'it returns false'. Refute it at one input. -/
def fnNumberOfWrong : ChangeSpec := { name := "fnNumberOf", fn := fun _ => fun
  | [d] => { results := [.lit (.bool false)], args := [d] }
  | _ => none }
def FnNumberOfWrongFalsely : Prop := fnNumberOfRow.holds Try.pinned (OpenSpec.ofChange fnNumberOfWrong)

/-- 'laws.FnQuotientsOf': WHATEVER THE INPUT: true; the input reads as it did. -/
def fnQuotientsOfSpec : ChangeSpec := { name := "fnQuotientsOf", fn := fun _ => fun
  | [d] => { results := [.lit (.bool true)], args := [d] }
  | _ => none }
def fnQuotientsOfRow : OpenClaim := { program := "ytmcdhajepkamjaa", sum := "ff9afd3416254e588d7de11c8a21dbdb913f11632f134f28b190803973826286", func := "loop.example/twistedropes/laws.FnQuotientsOf", spec := "fnQuotientsOf", apart := false }
def FnQuotientsOfSaid : Prop := fnQuotientsOfRow.holds Try.pinned (OpenSpec.ofChange fnQuotientsOfSpec)

/-- ITS FALSE NEIGHBOUR: 'it returns false'. Refute it at one input. -/
def fnQuotientsOfWrong : ChangeSpec := { name := "fnQuotientsOf", fn := fun _ => fun
  | [d] => { results := [.lit (.bool false)], args := [d] }
  | _ => none }
def FnQuotientsOfWrongFalsely : Prop := fnQuotientsOfRow.holds Try.pinned (OpenSpec.ofChange fnQuotientsOfWrong)

/-- 'laws.FnDeskNew': WHATEVER THE INPUT: true; the input reads as it did. -/
def fnDeskNewSpec : ChangeSpec := { name := "fnDeskNew", fn := fun _ => fun
  | [d] => { results := [.lit (.bool true)], args := [d] }
  | _ => none }
def fnDeskNewRow : OpenClaim := { program := "ytmcdhajepkamjaa", sum := "ff9afd3416254e588d7de11c8a21dbdb913f11632f134f28b190803973826286", func := "loop.example/twistedropes/laws.FnDeskNew", spec := "fnDeskNew", unfollowed := true, recurses := true, apart := false }
def FnDeskNewSaid : Prop := fnDeskNewRow.holds Try.pinned (OpenSpec.ofChange fnDeskNewSpec)

/-- ITS FALSE NEIGHBOUR: 'it returns false'. Refute it at one input. -/
def fnDeskNewWrong : ChangeSpec := { name := "fnDeskNew", fn := fun _ => fun
  | [d] => { results := [.lit (.bool false)], args := [d] }
  | _ => none }
def FnDeskNewWrongFalsely : Prop := fnDeskNewRow.holds Try.pinned (OpenSpec.ofChange fnDeskNewWrong)

/-- 'laws.FnLinksOf': WHATEVER THE INPUT: true; the input reads as it did. -/
def fnLinksOfSpec : ChangeSpec := { name := "fnLinksOf", fn := fun _ => fun
  | [d] => { results := [.lit (.bool true)], args := [d] }
  | _ => none }
def fnLinksOfRow : OpenClaim := { program := "ytmcdhajepkamjaa", sum := "ff9afd3416254e588d7de11c8a21dbdb913f11632f134f28b190803973826286", func := "loop.example/twistedropes/laws.FnLinksOf", spec := "fnLinksOf", apart := false }
def FnLinksOfSaid : Prop := fnLinksOfRow.holds Try.pinned (OpenSpec.ofChange fnLinksOfSpec)

/-- ITS FALSE NEIGHBOUR: 'it returns false'. Refute it at one input. -/
def fnLinksOfWrong : ChangeSpec := { name := "fnLinksOf", fn := fun _ => fun
  | [d] => { results := [.lit (.bool false)], args := [d] }
  | _ => none }
def FnLinksOfWrongFalsely : Prop := fnLinksOfRow.holds Try.pinned (OpenSpec.ofChange fnLinksOfWrong)

/- THE SECOND FORM. 'bulk': how many values and letters a reading holds, each counted each time it is reached (what is shared counts as often as it is met; a slice's spare places count too). A statement '..UptoSaid' is the law's where the arguments, and the package variables that the reading takes, are together of bulk at most 1048576: NARROWER than '..Said'. Prove '..Said' where nothing that the law and all that it calls make is longer than what came in: it says more and counts as full. Else prove '..UptoSaid'. A law counts once. -/
mutual
def uptoBulk {H : Type} : DataW H → Nat
  | .lit (.string bytes) => bytes.length + 1
  | .lit _ => 1
  | .nil => 1
  | .ptr d => uptoBulk d + 1
  | .slice elems spare => uptoBulkAll elems + uptoBulkAll spare + 1
  | .agg parts => uptoBulkAll parts + 1
  | .iface _ d => uptoBulk d + 1
  | .map entries => uptoBulkEntries entries + 1
  | .held _ => 1
def uptoBulkAll {H : Type} : List (DataW H) → Nat
  | [] => 0
  | d :: r => uptoBulk d + uptoBulkAll r
def uptoBulkEntries {H : Type} : List (Lit × DataW H) → Nat
  | [] => 0
  | x :: r => uptoBulkEntry x + uptoBulkEntries r
def uptoBulkEntry {H : Type} : Lit × DataW H → Nat
  | (.string bytes, d) => bytes.length + uptoBulk d + 1
  | (_, d) => uptoBulk d + 1
 end
def uptoSmall : (H : Type) → List (DataW H) → Bool := fun _ ds => decide (uptoBulkAll ds ≤ 1048576)
def OpenSpec.upto (s : _root_.Go.ChangeSpec) : _root_.Go.OpenSpec := { _root_.Go.OpenSpec.ofChange s with cond := some uptoSmall }

/-- 'laws.FnExactLeastOf', WHERE WHAT IT READS IS OF BULK AT MOST 1048576: true; the input reads as it did. -/
def fnExactLeastOfUptoRow : OpenClaim := { program := "ytmcdhajepkamjaa", sum := "ff9afd3416254e588d7de11c8a21dbdb913f11632f134f28b190803973826286", func := "loop.example/twistedropes/laws.FnExactLeastOf", spec := "fnExactLeastOf", apart := false, narrowed := true }
def FnExactLeastOfUptoSaid : Prop := fnExactLeastOfUptoRow.holds Try.pinned (OpenSpec.upto fnExactLeastOfSpec)

/-- 'laws.FnExactQuotientsOf', WHERE WHAT IT READS IS OF BULK AT MOST 1048576: true; the input reads as it did. -/
def fnExactQuotientsOfUptoRow : OpenClaim := { program := "ytmcdhajepkamjaa", sum := "ff9afd3416254e588d7de11c8a21dbdb913f11632f134f28b190803973826286", func := "loop.example/twistedropes/laws.FnExactQuotientsOf", spec := "fnExactQuotientsOf", apart := false, narrowed := true }
def FnExactQuotientsOfUptoSaid : Prop := fnExactQuotientsOfUptoRow.holds Try.pinned (OpenSpec.upto fnExactQuotientsOfSpec)

/-- 'laws.FnExactOwnMirror', WHERE WHAT IT READS IS OF BULK AT MOST 1048576: true; the input reads as it did. -/
def fnExactOwnMirrorUptoRow : OpenClaim := { program := "ytmcdhajepkamjaa", sum := "ff9afd3416254e588d7de11c8a21dbdb913f11632f134f28b190803973826286", func := "loop.example/twistedropes/laws.FnExactOwnMirror", spec := "fnExactOwnMirror", apart := false, narrowed := true }
def FnExactOwnMirrorUptoSaid : Prop := fnExactOwnMirrorUptoRow.holds Try.pinned (OpenSpec.upto fnExactOwnMirrorSpec)

/-- 'laws.FnExactDeskNew', WHERE WHAT IT READS IS OF BULK AT MOST 1048576: true; the input reads as it did. -/
def fnExactDeskNewUptoRow : OpenClaim := { program := "ytmcdhajepkamjaa", sum := "ff9afd3416254e588d7de11c8a21dbdb913f11632f134f28b190803973826286", func := "loop.example/twistedropes/laws.FnExactDeskNew", spec := "fnExactDeskNew", apart := false, narrowed := true }
def FnExactDeskNewUptoSaid : Prop := fnExactDeskNewUptoRow.holds Try.pinned (OpenSpec.upto fnExactDeskNewSpec)

/-- 'laws.FnExactLinksOf', WHERE WHAT IT READS IS OF BULK AT MOST 1048576: true; the input reads as it did. -/
def fnExactLinksOfUptoRow : OpenClaim := { program := "ytmcdhajepkamjaa", sum := "ff9afd3416254e588d7de11c8a21dbdb913f11632f134f28b190803973826286", func := "loop.example/twistedropes/laws.FnExactLinksOf", spec := "fnExactLinksOf", apart := false, narrowed := true }
def FnExactLinksOfUptoSaid : Prop := fnExactLinksOfUptoRow.holds Try.pinned (OpenSpec.upto fnExactLinksOfSpec)

/-- 'laws.FnBalancedOk', WHERE WHAT IT READS IS OF BULK AT MOST 1048576: true; the input reads as it did. -/
def fnBalancedOkUptoRow : OpenClaim := { program := "ytmcdhajepkamjaa", sum := "ff9afd3416254e588d7de11c8a21dbdb913f11632f134f28b190803973826286", func := "loop.example/twistedropes/laws.FnBalancedOk", spec := "fnBalancedOk", apart := false, narrowed := true }
def FnBalancedOkUptoSaid : Prop := fnBalancedOkUptoRow.holds Try.pinned (OpenSpec.upto fnBalancedOkSpec)

/-- 'laws.FnTiedFor', WHERE WHAT IT READS IS OF BULK AT MOST 1048576: true; the input reads as it did. -/
def fnTiedForUptoRow : OpenClaim := { program := "ytmcdhajepkamjaa", sum := "ff9afd3416254e588d7de11c8a21dbdb913f11632f134f28b190803973826286", func := "loop.example/twistedropes/laws.FnTiedFor", spec := "fnTiedFor", apart := false, narrowed := true }
def FnTiedForUptoSaid : Prop := fnTiedForUptoRow.holds Try.pinned (OpenSpec.upto fnTiedForSpec)

/-- 'laws.FnLinkOk', WHERE WHAT IT READS IS OF BULK AT MOST 1048576: true; the input reads as it did. -/
def fnLinkOkUptoRow : OpenClaim := { program := "ytmcdhajepkamjaa", sum := "ff9afd3416254e588d7de11c8a21dbdb913f11632f134f28b190803973826286", func := "loop.example/twistedropes/laws.FnLinkOk", spec := "fnLinkOk", apart := false, narrowed := true }
def FnLinkOkUptoSaid : Prop := fnLinkOkUptoRow.holds Try.pinned (OpenSpec.upto fnLinkOkSpec)

/-- 'laws.FnNumberOf', WHERE WHAT IT READS IS OF BULK AT MOST 1048576: true; the input reads as it did. -/
def fnNumberOfUptoRow : OpenClaim := { program := "ytmcdhajepkamjaa", sum := "ff9afd3416254e588d7de11c8a21dbdb913f11632f134f28b190803973826286", func := "loop.example/twistedropes/laws.FnNumberOf", spec := "fnNumberOf", apart := false, narrowed := true }
def FnNumberOfUptoSaid : Prop := fnNumberOfUptoRow.holds Try.pinned (OpenSpec.upto fnNumberOfSpec)

/-- 'laws.FnQuotientsOf', WHERE WHAT IT READS IS OF BULK AT MOST 1048576: true; the input reads as it did. -/
def fnQuotientsOfUptoRow : OpenClaim := { program := "ytmcdhajepkamjaa", sum := "ff9afd3416254e588d7de11c8a21dbdb913f11632f134f28b190803973826286", func := "loop.example/twistedropes/laws.FnQuotientsOf", spec := "fnQuotientsOf", apart := false, narrowed := true }
def FnQuotientsOfUptoSaid : Prop := fnQuotientsOfUptoRow.holds Try.pinned (OpenSpec.upto fnQuotientsOfSpec)

/-- 'laws.FnDeskNew', WHERE WHAT IT READS IS OF BULK AT MOST 1048576: true; the input reads as it did. -/
def fnDeskNewUptoRow : OpenClaim := { program := "ytmcdhajepkamjaa", sum := "ff9afd3416254e588d7de11c8a21dbdb913f11632f134f28b190803973826286", func := "loop.example/twistedropes/laws.FnDeskNew", spec := "fnDeskNew", unfollowed := true, recurses := true, apart := false, narrowed := true }
def FnDeskNewUptoSaid : Prop := fnDeskNewUptoRow.holds Try.pinned (OpenSpec.upto fnDeskNewSpec)

/-- 'laws.FnLinksOf', WHERE WHAT IT READS IS OF BULK AT MOST 1048576: true; the input reads as it did. -/
def fnLinksOfUptoRow : OpenClaim := { program := "ytmcdhajepkamjaa", sum := "ff9afd3416254e588d7de11c8a21dbdb913f11632f134f28b190803973826286", func := "loop.example/twistedropes/laws.FnLinksOf", spec := "fnLinksOf", apart := false, narrowed := true }
def FnLinksOfUptoSaid : Prop := fnLinksOfUptoRow.holds Try.pinned (OpenSpec.upto fnLinksOfSpec)

end Rows
end Go.Proofs.Ytmcdhajepkamjaa
