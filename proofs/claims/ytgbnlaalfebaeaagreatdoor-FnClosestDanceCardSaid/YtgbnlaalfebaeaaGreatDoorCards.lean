/-
  DERIVED. GIVEN WITH THE SEED: THE CARDS: each row of YtgbnlaalfebaeaaGreatDoorRows.lean that lists a variable, with what it lists TIED to the program's text (the seventh form; the later family's looks); each row that meets fmt, with fmt's text TOLD by the authors' own Lean function (tested against real Go, not proved from fmt's source: count such statements apart). THE CARD IS WHAT COUNTS. Prove the row's statement (the work); the ties are given (YtgbnlaalfebaeaaGreatDoorTie.lean); close each card by the builder's one call (the guide's Derived/Test/ToyasCard.lean, 'card_holds'). Laid BY PROGRAM, IN A SANDBOX (cutbox-door.mjs). By AI agents, Wed Nov 11 2026. No macro, syntax, notation, axiom, sorry.
-/
import Derived.Test.YtgbnlaalfebaeaaGreatDoorRows
import GoSem.ClaimSeven
namespace Go.Proofs.YtgbnlaalfebaeaaGreatDoor
namespace Rows

/-- THE TIED CARD OF 'laws.FnMirrorDance'. -/
def fnMirrorDanceCard : Claim7 := { stood := { row := fnMirrorDanceRow, standIns := [], harness := (true, "650026e31f8c98015fd7b009b88fdf0f509e4c44189f039a4a66410e6d66c0c5"), looks := true }, kinds := [], alts := [], laidByText := true, laidKinds := [.data, .pinned], laidTests := true, laidLooks := .later }
def FnMirrorDanceCardSaid : Prop := Claim7.holds Tryz.pinned (.plain (OpenSpec.ofChange fnMirrorDanceSpec)) fnMirrorDanceCard

/-- THE TIED CARD OF 'laws.FnClosestDance'. -/
def fnClosestDanceCard : Claim7 := { stood := { row := fnClosestDanceRow, standIns := [], harness := (true, "650026e31f8c98015fd7b009b88fdf0f509e4c44189f039a4a66410e6d66c0c5"), looks := true }, kinds := [], alts := [], laidByText := true, laidKinds := [.data, .pinned], laidTests := true, laidLooks := .later }
def FnClosestDanceCardSaid : Prop := Claim7.holds Tryz.pinned (.plain (OpenSpec.ofChange fnClosestDanceSpec)) fnClosestDanceCard

/-- THE SECOND FORM's CARD OF 'laws.FnMirrorDance'. -/
def fnMirrorDanceUptoCard : Claim7 := { stood := { row := fnMirrorDanceUptoRow, standIns := [], harness := (true, "650026e31f8c98015fd7b009b88fdf0f509e4c44189f039a4a66410e6d66c0c5"), looks := true }, kinds := [], alts := [], laidByText := true, laidKinds := [.data, .pinned], laidTests := true, laidLooks := .later }
def FnMirrorDanceUptoCardSaid : Prop := Claim7.holds Tryz.pinned (.plain (OpenSpec.upto fnMirrorDanceSpec)) fnMirrorDanceUptoCard

/-- THE SECOND FORM's CARD OF 'laws.FnClosestDance'. -/
def fnClosestDanceUptoCard : Claim7 := { stood := { row := fnClosestDanceUptoRow, standIns := [], harness := (true, "650026e31f8c98015fd7b009b88fdf0f509e4c44189f039a4a66410e6d66c0c5"), looks := true }, kinds := [], alts := [], laidByText := true, laidKinds := [.data, .pinned], laidTests := true, laidLooks := .later }
def FnClosestDanceUptoCardSaid : Prop := Claim7.holds Tryz.pinned (.plain (OpenSpec.upto fnClosestDanceSpec)) fnClosestDanceUptoCard
end Rows
end Go.Proofs.YtgbnlaalfebaeaaGreatDoor
