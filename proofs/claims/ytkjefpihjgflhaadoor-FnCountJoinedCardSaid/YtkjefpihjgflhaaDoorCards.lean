/-
  DERIVED. GIVEN WITH THE SEED: THE CARDS: each row of YtkjefpihjgflhaaDoorRows.lean that lists a variable, with what it lists TIED to the program's text (the seventh form; the later family's looks); each row that meets fmt, with fmt's text TOLD by the authors' own Lean function (tested against real Go, not proved from fmt's source: count such statements apart). THE CARD IS WHAT COUNTS. Prove the row's statement (the work); the ties are given (YtkjefpihjgflhaaDoorTie.lean); close each card by the builder's one call (the guide's Derived/Test/ToyasCard.lean, 'card_holds'). Laid BY PROGRAM, IN A SANDBOX (cutbox-door.mjs). By AI agents, Wed Nov 11 2026. No macro, syntax, notation, axiom, sorry.
-/
import Derived.Test.YtkjefpihjgflhaaDoorRows
import GoSem.ClaimSeven
namespace Go.Proofs.YtkjefpihjgflhaaDoor
namespace Rows

/-- THE TIED CARD OF 'laws.FnExactColoursAfter'. -/
def fnExactColoursAfterCard : Claim7 := { stood := { row := fnExactColoursAfterRow, standIns := [], harness := (true, "4827255b629ca5af36ac1b4c20e4fc57581db45c89136a450ec188dc75dd7299"), looks := false }, kinds := [], alts := [], laidByText := true, laidKinds := [.data, .pinned], laidTests := true, laidLooks := .later }
def FnExactColoursAfterCardSaid : Prop := Claim7.holds Tryd.pinned (.plain (OpenSpec.ofChange fnExactColoursAfterSpec)) fnExactColoursAfterCard

/-- THE TIED CARD OF 'laws.FnExactCountTied'. -/
def fnExactCountTiedCard : Claim7 := { stood := { row := fnExactCountTiedRow, standIns := [], harness := (true, "4827255b629ca5af36ac1b4c20e4fc57581db45c89136a450ec188dc75dd7299"), looks := false }, kinds := [], alts := [], laidByText := true, laidKinds := [.data, .pinned], laidTests := true, laidLooks := .later }
def FnExactCountTiedCardSaid : Prop := Claim7.holds Tryd.pinned (.plain (OpenSpec.ofChange fnExactCountTiedSpec)) fnExactCountTiedCard

/-- THE TIED CARD OF 'laws.FnExactCountJoined'. -/
def fnExactCountJoinedCard : Claim7 := { stood := { row := fnExactCountJoinedRow, standIns := [], harness := (true, "4827255b629ca5af36ac1b4c20e4fc57581db45c89136a450ec188dc75dd7299"), looks := false }, kinds := [], alts := [], laidByText := true, laidKinds := [.data, .pinned], laidTests := true, laidLooks := .later }
def FnExactCountJoinedCardSaid : Prop := Claim7.holds Tryd.pinned (.plain (OpenSpec.ofChange fnExactCountJoinedSpec)) fnExactCountJoinedCard

/-- THE TIED CARD OF 'laws.FnColoursAfter'. -/
def fnColoursAfterCard : Claim7 := { stood := { row := fnColoursAfterRow, standIns := [], harness := (true, "4827255b629ca5af36ac1b4c20e4fc57581db45c89136a450ec188dc75dd7299"), looks := false }, kinds := [], alts := [], laidByText := true, laidKinds := [.data, .pinned], laidTests := true, laidLooks := .later }
def FnColoursAfterCardSaid : Prop := Claim7.holds Tryd.pinned (.plain (OpenSpec.ofChange fnColoursAfterSpec)) fnColoursAfterCard

/-- THE TIED CARD OF 'laws.FnCountTied'. -/
def fnCountTiedCard : Claim7 := { stood := { row := fnCountTiedRow, standIns := [], harness := (true, "4827255b629ca5af36ac1b4c20e4fc57581db45c89136a450ec188dc75dd7299"), looks := false }, kinds := [], alts := [], laidByText := true, laidKinds := [.data, .pinned], laidTests := true, laidLooks := .later }
def FnCountTiedCardSaid : Prop := Claim7.holds Tryd.pinned (.plain (OpenSpec.ofChange fnCountTiedSpec)) fnCountTiedCard

/-- THE TIED CARD OF 'laws.FnCountJoined'. -/
def fnCountJoinedCard : Claim7 := { stood := { row := fnCountJoinedRow, standIns := [], harness := (true, "4827255b629ca5af36ac1b4c20e4fc57581db45c89136a450ec188dc75dd7299"), looks := false }, kinds := [], alts := [], laidByText := true, laidKinds := [.data, .pinned], laidTests := true, laidLooks := .later }
def FnCountJoinedCardSaid : Prop := Claim7.holds Tryd.pinned (.plain (OpenSpec.ofChange fnCountJoinedSpec)) fnCountJoinedCard

/-- THE TIED CARD OF 'laws.FnExactTwistsIn'. -/
def fnExactTwistsInCard : Claim7 := { stood := { row := fnExactTwistsInRow, standIns := [], harness := (true, "4827255b629ca5af36ac1b4c20e4fc57581db45c89136a450ec188dc75dd7299"), looks := false }, kinds := [], alts := [], laidByText := true, laidKinds := [.data, .pinned], laidTests := true, laidLooks := .later }
def FnExactTwistsInCardSaid : Prop := Claim7.holds Tryd.pinned (.plain (OpenSpec.ofChange fnExactTwistsInSpec)) fnExactTwistsInCard

/-- THE TIED CARD OF 'laws.FnTwistsIn'. -/
def fnTwistsInCard : Claim7 := { stood := { row := fnTwistsInRow, standIns := [], harness := (true, "4827255b629ca5af36ac1b4c20e4fc57581db45c89136a450ec188dc75dd7299"), looks := false }, kinds := [], alts := [], laidByText := true, laidKinds := [.data, .pinned], laidTests := true, laidLooks := .later }
def FnTwistsInCardSaid : Prop := Claim7.holds Tryd.pinned (.plain (OpenSpec.ofChange fnTwistsInSpec)) fnTwistsInCard

/-- THE SECOND FORM's CARD OF 'laws.FnExactColoursAfter'. -/
def fnExactColoursAfterUptoCard : Claim7 := { stood := { row := fnExactColoursAfterUptoRow, standIns := [], harness := (true, "4827255b629ca5af36ac1b4c20e4fc57581db45c89136a450ec188dc75dd7299"), looks := false }, kinds := [], alts := [], laidByText := true, laidKinds := [.data, .pinned], laidTests := true, laidLooks := .later }
def FnExactColoursAfterUptoCardSaid : Prop := Claim7.holds Tryd.pinned (.plain (OpenSpec.upto fnExactColoursAfterSpec)) fnExactColoursAfterUptoCard

/-- THE SECOND FORM's CARD OF 'laws.FnExactCountTied'. -/
def fnExactCountTiedUptoCard : Claim7 := { stood := { row := fnExactCountTiedUptoRow, standIns := [], harness := (true, "4827255b629ca5af36ac1b4c20e4fc57581db45c89136a450ec188dc75dd7299"), looks := false }, kinds := [], alts := [], laidByText := true, laidKinds := [.data, .pinned], laidTests := true, laidLooks := .later }
def FnExactCountTiedUptoCardSaid : Prop := Claim7.holds Tryd.pinned (.plain (OpenSpec.upto fnExactCountTiedSpec)) fnExactCountTiedUptoCard

/-- THE SECOND FORM's CARD OF 'laws.FnExactCountJoined'. -/
def fnExactCountJoinedUptoCard : Claim7 := { stood := { row := fnExactCountJoinedUptoRow, standIns := [], harness := (true, "4827255b629ca5af36ac1b4c20e4fc57581db45c89136a450ec188dc75dd7299"), looks := false }, kinds := [], alts := [], laidByText := true, laidKinds := [.data, .pinned], laidTests := true, laidLooks := .later }
def FnExactCountJoinedUptoCardSaid : Prop := Claim7.holds Tryd.pinned (.plain (OpenSpec.upto fnExactCountJoinedSpec)) fnExactCountJoinedUptoCard

/-- THE SECOND FORM's CARD OF 'laws.FnColoursAfter'. -/
def fnColoursAfterUptoCard : Claim7 := { stood := { row := fnColoursAfterUptoRow, standIns := [], harness := (true, "4827255b629ca5af36ac1b4c20e4fc57581db45c89136a450ec188dc75dd7299"), looks := false }, kinds := [], alts := [], laidByText := true, laidKinds := [.data, .pinned], laidTests := true, laidLooks := .later }
def FnColoursAfterUptoCardSaid : Prop := Claim7.holds Tryd.pinned (.plain (OpenSpec.upto fnColoursAfterSpec)) fnColoursAfterUptoCard

/-- THE SECOND FORM's CARD OF 'laws.FnCountTied'. -/
def fnCountTiedUptoCard : Claim7 := { stood := { row := fnCountTiedUptoRow, standIns := [], harness := (true, "4827255b629ca5af36ac1b4c20e4fc57581db45c89136a450ec188dc75dd7299"), looks := false }, kinds := [], alts := [], laidByText := true, laidKinds := [.data, .pinned], laidTests := true, laidLooks := .later }
def FnCountTiedUptoCardSaid : Prop := Claim7.holds Tryd.pinned (.plain (OpenSpec.upto fnCountTiedSpec)) fnCountTiedUptoCard

/-- THE SECOND FORM's CARD OF 'laws.FnCountJoined'. -/
def fnCountJoinedUptoCard : Claim7 := { stood := { row := fnCountJoinedUptoRow, standIns := [], harness := (true, "4827255b629ca5af36ac1b4c20e4fc57581db45c89136a450ec188dc75dd7299"), looks := false }, kinds := [], alts := [], laidByText := true, laidKinds := [.data, .pinned], laidTests := true, laidLooks := .later }
def FnCountJoinedUptoCardSaid : Prop := Claim7.holds Tryd.pinned (.plain (OpenSpec.upto fnCountJoinedSpec)) fnCountJoinedUptoCard

/-- THE SECOND FORM's CARD OF 'laws.FnExactTwistsIn'. -/
def fnExactTwistsInUptoCard : Claim7 := { stood := { row := fnExactTwistsInUptoRow, standIns := [], harness := (true, "4827255b629ca5af36ac1b4c20e4fc57581db45c89136a450ec188dc75dd7299"), looks := false }, kinds := [], alts := [], laidByText := true, laidKinds := [.data, .pinned], laidTests := true, laidLooks := .later }
def FnExactTwistsInUptoCardSaid : Prop := Claim7.holds Tryd.pinned (.plain (OpenSpec.upto fnExactTwistsInSpec)) fnExactTwistsInUptoCard

/-- THE SECOND FORM's CARD OF 'laws.FnTwistsIn'. -/
def fnTwistsInUptoCard : Claim7 := { stood := { row := fnTwistsInUptoRow, standIns := [], harness := (true, "4827255b629ca5af36ac1b4c20e4fc57581db45c89136a450ec188dc75dd7299"), looks := false }, kinds := [], alts := [], laidByText := true, laidKinds := [.data, .pinned], laidTests := true, laidLooks := .later }
def FnTwistsInUptoCardSaid : Prop := Claim7.holds Tryd.pinned (.plain (OpenSpec.upto fnTwistsInSpec)) fnTwistsInUptoCard
end Rows
end Go.Proofs.YtkjefpihjgflhaaDoor
