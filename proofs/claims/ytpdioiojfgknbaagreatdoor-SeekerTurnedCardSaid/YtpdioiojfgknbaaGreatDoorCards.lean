/-
  DERIVED. GIVEN WITH THE SEED: THE CARDS: each row of YtpdioiojfgknbaaGreatDoorRows.lean that lists a variable, with what it lists TIED to the program's text (the seventh form; the later family's looks); each row that meets fmt, with fmt's text TOLD by the authors' own Lean function (tested against real Go, not proved from fmt's source: count such statements apart). THE CARD IS WHAT COUNTS. Prove the row's statement (the work); the ties are given (YtpdioiojfgknbaaGreatDoorTie.lean); close each card by the builder's one call (the guide's Derived/Test/ToyasCard.lean, 'card_holds'). Laid BY PROGRAM, IN A SANDBOX (cutbox-door.mjs). By AI agents, Wed Nov 11 2026. No macro, syntax, notation, axiom, sorry.
-/
import Derived.Test.YtpdioiojfgknbaaGreatDoorRows
import GoSem.ClaimSeven
namespace Go.Proofs.YtpdioiojfgknbaaGreatDoor
namespace Rows

/-- THE TIED CARD OF 'velariumlaw09.SeekerLearnt'. -/
def seekerLearntCard : Claim7 := { stood := { row := seekerLearntRow, standIns := [], harness := (true, "37dd52168c01ab0eac968363d817f0761de49dbe13f8b8dbc59b7d9be7780b69"), looks := false }, kinds := [], alts := [], goes := true, laidByText := true, laidKinds := [.funcs, .funcs], laidTests := true, laidLooks := .later }
def SeekerLearntCardSaid : Prop := Claim7.holds Tryz.pinned (.plain (OpenSpec.ofChange seekerLearntSpec)) seekerLearntCard

/-- THE TIED CARD OF 'velariumlaw09.SeekerAsked'. -/
def seekerAskedCard : Claim7 := { stood := { row := seekerAskedRow, standIns := [], harness := (true, "37dd52168c01ab0eac968363d817f0761de49dbe13f8b8dbc59b7d9be7780b69"), looks := false }, kinds := [], alts := [], goes := true, laidByText := true, laidKinds := [.funcs, .funcs], laidTests := true, laidLooks := .later }
def SeekerAskedCardSaid : Prop := Claim7.holds Tryz.pinned (.plain (OpenSpec.ofChange seekerAskedSpec)) seekerAskedCard

/-- THE TIED CARD OF 'velariumlaw09.SeekerNoOthers'. -/
def seekerNoOthersCard : Claim7 := { stood := { row := seekerNoOthersRow, standIns := [], harness := (true, "37dd52168c01ab0eac968363d817f0761de49dbe13f8b8dbc59b7d9be7780b69"), looks := false }, kinds := [], alts := [], goes := true, laidByText := true, laidKinds := [.funcs, .funcs], laidTests := true, laidLooks := .later }
def SeekerNoOthersCardSaid : Prop := Claim7.holds Tryz.pinned (.plain (OpenSpec.ofChange seekerNoOthersSpec)) seekerNoOthersCard

/-- THE TIED CARD OF 'velariumlaw09.SeekerMore'. -/
def seekerMoreCard : Claim7 := { stood := { row := seekerMoreRow, standIns := [], harness := (true, "37dd52168c01ab0eac968363d817f0761de49dbe13f8b8dbc59b7d9be7780b69"), looks := false }, kinds := [], alts := [], goes := true, laidByText := true, laidKinds := [.funcs, .funcs], laidTests := true, laidLooks := .later }
def SeekerMoreCardSaid : Prop := Claim7.holds Tryz.pinned (.plain (OpenSpec.ofChange seekerMoreSpec)) seekerMoreCard

/-- THE TIED CARD OF 'velariumlaw09.SeekerLikely'. -/
def seekerLikelyCard : Claim7 := { stood := { row := seekerLikelyRow, standIns := [], harness := (true, "37dd52168c01ab0eac968363d817f0761de49dbe13f8b8dbc59b7d9be7780b69"), looks := false }, kinds := [], alts := [], goes := true, laidByText := true, laidKinds := [.funcs, .funcs], laidTests := true, laidLooks := .later }
def SeekerLikelyCardSaid : Prop := Claim7.holds Tryz.pinned (.plain (OpenSpec.ofChange seekerLikelySpec)) seekerLikelyCard

/-- THE TIED CARD OF 'velariumlaw09.SeekerClashes'. -/
def seekerClashesCard : Claim7 := { stood := { row := seekerClashesRow, standIns := [], harness := (true, "37dd52168c01ab0eac968363d817f0761de49dbe13f8b8dbc59b7d9be7780b69"), looks := false }, kinds := [], alts := [], goes := true, laidByText := true, laidKinds := [.funcs, .funcs], laidTests := true, laidLooks := .later }
def SeekerClashesCardSaid : Prop := Claim7.holds Tryz.pinned (.plain (OpenSpec.ofChange seekerClashesSpec)) seekerClashesCard

/-- THE TIED CARD OF 'velariumlaw09.SeekerReal'. -/
def seekerRealCard : Claim7 := { stood := { row := seekerRealRow, standIns := [], harness := (true, "37dd52168c01ab0eac968363d817f0761de49dbe13f8b8dbc59b7d9be7780b69"), looks := false }, kinds := [], alts := [], goes := true, laidByText := true, laidKinds := [.funcs, .funcs], laidTests := true, laidLooks := .later }
def SeekerRealCardSaid : Prop := Claim7.holds Tryz.pinned (.plain (OpenSpec.ofChange seekerRealSpec)) seekerRealCard

/-- THE TIED CARD OF 'velariumlaw09.SeekerTurned'. -/
def seekerTurnedCard : Claim7 := { stood := { row := seekerTurnedRow, standIns := [], harness := (true, "37dd52168c01ab0eac968363d817f0761de49dbe13f8b8dbc59b7d9be7780b69"), looks := false }, kinds := [], alts := [], goes := true, laidByText := true, laidKinds := [.funcs, .funcs], laidTests := true, laidLooks := .later }
def SeekerTurnedCardSaid : Prop := Claim7.holds Tryz.pinned (.plain (OpenSpec.ofChange seekerTurnedSpec)) seekerTurnedCard

/-- THE SECOND FORM's CARD OF 'velariumlaw09.SeekerLearnt'. -/
def seekerLearntUptoCard : Claim7 := { stood := { row := seekerLearntUptoRow, standIns := [], harness := (true, "37dd52168c01ab0eac968363d817f0761de49dbe13f8b8dbc59b7d9be7780b69"), looks := false }, kinds := [], alts := [], goes := true, laidByText := true, laidKinds := [.funcs, .funcs], laidTests := true, laidLooks := .later }
def SeekerLearntUptoCardSaid : Prop := Claim7.holds Tryz.pinned (.plain (OpenSpec.upto seekerLearntSpec)) seekerLearntUptoCard

/-- THE SECOND FORM's CARD OF 'velariumlaw09.SeekerAsked'. -/
def seekerAskedUptoCard : Claim7 := { stood := { row := seekerAskedUptoRow, standIns := [], harness := (true, "37dd52168c01ab0eac968363d817f0761de49dbe13f8b8dbc59b7d9be7780b69"), looks := false }, kinds := [], alts := [], goes := true, laidByText := true, laidKinds := [.funcs, .funcs], laidTests := true, laidLooks := .later }
def SeekerAskedUptoCardSaid : Prop := Claim7.holds Tryz.pinned (.plain (OpenSpec.upto seekerAskedSpec)) seekerAskedUptoCard

/-- THE SECOND FORM's CARD OF 'velariumlaw09.SeekerNoOthers'. -/
def seekerNoOthersUptoCard : Claim7 := { stood := { row := seekerNoOthersUptoRow, standIns := [], harness := (true, "37dd52168c01ab0eac968363d817f0761de49dbe13f8b8dbc59b7d9be7780b69"), looks := false }, kinds := [], alts := [], goes := true, laidByText := true, laidKinds := [.funcs, .funcs], laidTests := true, laidLooks := .later }
def SeekerNoOthersUptoCardSaid : Prop := Claim7.holds Tryz.pinned (.plain (OpenSpec.upto seekerNoOthersSpec)) seekerNoOthersUptoCard

/-- THE SECOND FORM's CARD OF 'velariumlaw09.SeekerMore'. -/
def seekerMoreUptoCard : Claim7 := { stood := { row := seekerMoreUptoRow, standIns := [], harness := (true, "37dd52168c01ab0eac968363d817f0761de49dbe13f8b8dbc59b7d9be7780b69"), looks := false }, kinds := [], alts := [], goes := true, laidByText := true, laidKinds := [.funcs, .funcs], laidTests := true, laidLooks := .later }
def SeekerMoreUptoCardSaid : Prop := Claim7.holds Tryz.pinned (.plain (OpenSpec.upto seekerMoreSpec)) seekerMoreUptoCard

/-- THE SECOND FORM's CARD OF 'velariumlaw09.SeekerLikely'. -/
def seekerLikelyUptoCard : Claim7 := { stood := { row := seekerLikelyUptoRow, standIns := [], harness := (true, "37dd52168c01ab0eac968363d817f0761de49dbe13f8b8dbc59b7d9be7780b69"), looks := false }, kinds := [], alts := [], goes := true, laidByText := true, laidKinds := [.funcs, .funcs], laidTests := true, laidLooks := .later }
def SeekerLikelyUptoCardSaid : Prop := Claim7.holds Tryz.pinned (.plain (OpenSpec.upto seekerLikelySpec)) seekerLikelyUptoCard

/-- THE SECOND FORM's CARD OF 'velariumlaw09.SeekerClashes'. -/
def seekerClashesUptoCard : Claim7 := { stood := { row := seekerClashesUptoRow, standIns := [], harness := (true, "37dd52168c01ab0eac968363d817f0761de49dbe13f8b8dbc59b7d9be7780b69"), looks := false }, kinds := [], alts := [], goes := true, laidByText := true, laidKinds := [.funcs, .funcs], laidTests := true, laidLooks := .later }
def SeekerClashesUptoCardSaid : Prop := Claim7.holds Tryz.pinned (.plain (OpenSpec.upto seekerClashesSpec)) seekerClashesUptoCard

/-- THE SECOND FORM's CARD OF 'velariumlaw09.SeekerReal'. -/
def seekerRealUptoCard : Claim7 := { stood := { row := seekerRealUptoRow, standIns := [], harness := (true, "37dd52168c01ab0eac968363d817f0761de49dbe13f8b8dbc59b7d9be7780b69"), looks := false }, kinds := [], alts := [], goes := true, laidByText := true, laidKinds := [.funcs, .funcs], laidTests := true, laidLooks := .later }
def SeekerRealUptoCardSaid : Prop := Claim7.holds Tryz.pinned (.plain (OpenSpec.upto seekerRealSpec)) seekerRealUptoCard

/-- THE SECOND FORM's CARD OF 'velariumlaw09.SeekerTurned'. -/
def seekerTurnedUptoCard : Claim7 := { stood := { row := seekerTurnedUptoRow, standIns := [], harness := (true, "37dd52168c01ab0eac968363d817f0761de49dbe13f8b8dbc59b7d9be7780b69"), looks := false }, kinds := [], alts := [], goes := true, laidByText := true, laidKinds := [.funcs, .funcs], laidTests := true, laidLooks := .later }
def SeekerTurnedUptoCardSaid : Prop := Claim7.holds Tryz.pinned (.plain (OpenSpec.upto seekerTurnedSpec)) seekerTurnedUptoCard
end Rows
end Go.Proofs.YtpdioiojfgknbaaGreatDoor
