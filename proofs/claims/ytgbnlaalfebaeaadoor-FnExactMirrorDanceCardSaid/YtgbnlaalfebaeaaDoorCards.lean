/-
  DERIVED. GIVEN WITH THE SEED: THE CARDS: each row of YtgbnlaalfebaeaaDoorRows.lean that lists a variable, with what it lists TIED to the program's text (the seventh form; the later family's looks); each row that meets fmt, with fmt's text TOLD by the authors' own Lean function (tested against real Go, not proved from fmt's source: count such statements apart). THE CARD IS WHAT COUNTS. Prove the row's statement (the work); the ties are given (YtgbnlaalfebaeaaDoorTie.lean); close each card by the builder's one call (the guide's Derived/Test/ToyasCard.lean, 'card_holds'). Laid BY PROGRAM, IN A SANDBOX (cutbox-door.mjs). By AI agents, Wed Nov 11 2026. No macro, syntax, notation, axiom, sorry.
-/
import Derived.Test.YtgbnlaalfebaeaaDoorRows
import GoSem.ClaimSeven
namespace Go.Proofs.YtgbnlaalfebaeaaDoor
namespace Rows

/-- THE TIED CARD OF 'laws.FnExactMirrorDance'. -/
def fnExactMirrorDanceCard : Claim7 := { stood := { row := fnExactMirrorDanceRow, standIns := [], harness := (true, "25c0ef3c85fabf47c453af4e2020ad87bec3decad4ea9eb128aacbb685b333df"), looks := true }, kinds := [], alts := [], laidByText := true, laidKinds := [.data, .pinned], laidTests := true, laidLooks := .later }
def FnExactMirrorDanceCardSaid : Prop := Claim7.holds Tryd.pinned (.plain (OpenSpec.ofChange fnExactMirrorDanceSpec)) fnExactMirrorDanceCard

/-- THE SECOND FORM's CARD OF 'laws.FnExactMirrorDance'. -/
def fnExactMirrorDanceUptoCard : Claim7 := { stood := { row := fnExactMirrorDanceUptoRow, standIns := [], harness := (true, "25c0ef3c85fabf47c453af4e2020ad87bec3decad4ea9eb128aacbb685b333df"), looks := true }, kinds := [], alts := [], laidByText := true, laidKinds := [.data, .pinned], laidTests := true, laidLooks := .later }
def FnExactMirrorDanceUptoCardSaid : Prop := Claim7.holds Tryd.pinned (.plain (OpenSpec.upto fnExactMirrorDanceSpec)) fnExactMirrorDanceUptoCard
end Rows
end Go.Proofs.YtgbnlaalfebaeaaDoor
