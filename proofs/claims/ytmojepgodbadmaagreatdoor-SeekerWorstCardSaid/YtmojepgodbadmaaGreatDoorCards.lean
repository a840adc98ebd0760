/-
  DERIVED. GIVEN WITH THE SEED: THE CARDS: each row of YtmojepgodbadmaaGreatDoorRows.lean that lists a variable, with what it lists TIED to the program's text (the seventh form; the later family's looks); each row that meets fmt, with fmt's text TOLD by the authors' own Lean function (tested against real Go, not proved from fmt's source: count such statements apart). THE CARD IS WHAT COUNTS. Prove the row's statement (the work); the ties are given (YtmojepgodbadmaaGreatDoorTie.lean); close each card by the builder's one call (the guide's Derived/Test/ToyasCard.lean, 'card_holds'). Laid BY PROGRAM, IN A SANDBOX (cutbox-door.mjs). By AI agents, Wed Nov 11 2026. No macro, syntax, notation, axiom, sorry.
-/
import Derived.Test.YtmojepgodbadmaaGreatDoorRows
import GoSem.ClaimSeven
namespace Go.Proofs.YtmojepgodbadmaaGreatDoor
namespace Rows

/-- THE TIED CARD OF 'velariumlaw09.SeekerRights'. -/
def seekerRightsCard : Claim7 := { stood := { row := seekerRightsRow, standIns := [], harness := (true, "4ec7f063a1680b798177e308e94f0cddf9f672a328c42acb8a5e3df6a22f385e"), looks := false }, kinds := [], alts := [], goes := true, laidByText := true, laidKinds := [.funcs, .funcs], laidTests := true, laidLooks := .later }
def SeekerRightsCardSaid : Prop := Claim7.holds Tryz.pinned (.plain (OpenSpec.ofChange seekerRightsSpec)) seekerRightsCard

/-- THE TIED CARD OF 'velariumlaw09.SeekerKnown'. -/
def seekerKnownCard : Claim7 := { stood := { row := seekerKnownRow, standIns := [], harness := (true, "4ec7f063a1680b798177e308e94f0cddf9f672a328c42acb8a5e3df6a22f385e"), looks := false }, kinds := [], alts := [], goes := true, laidByText := true, laidKinds := [.funcs, .funcs], laidTests := true, laidLooks := .later }
def SeekerKnownCardSaid : Prop := Claim7.holds Tryz.pinned (.plain (OpenSpec.ofChange seekerKnownSpec)) seekerKnownCard

/-- THE TIED CARD OF 'velariumlaw09.SeekerWorst'. -/
def seekerWorstCard : Claim7 := { stood := { row := seekerWorstRow, standIns := [], harness := (true, "4ec7f063a1680b798177e308e94f0cddf9f672a328c42acb8a5e3df6a22f385e"), looks := false }, kinds := [], alts := [], goes := true, laidByText := true, laidKinds := [.funcs, .funcs], laidTests := true, laidLooks := .later }
def SeekerWorstCardSaid : Prop := Claim7.holds Tryz.pinned (.plain (OpenSpec.ofChange seekerWorstSpec)) seekerWorstCard

/-- THE TIED CARD OF 'velariumlaw09.SeekerNews'. -/
def seekerNewsCard : Claim7 := { stood := { row := seekerNewsRow, standIns := [], harness := (true, "4ec7f063a1680b798177e308e94f0cddf9f672a328c42acb8a5e3df6a22f385e"), looks := false }, kinds := [], alts := [], goes := true, laidByText := true, laidKinds := [.funcs, .funcs], laidTests := true, laidLooks := .later }
def SeekerNewsCardSaid : Prop := Claim7.holds Tryz.pinned (.plain (OpenSpec.ofChange seekerNewsSpec)) seekerNewsCard

/-- THE SECOND FORM's CARD OF 'velariumlaw09.SeekerRights'. -/
def seekerRightsUptoCard : Claim7 := { stood := { row := seekerRightsUptoRow, standIns := [], harness := (true, "4ec7f063a1680b798177e308e94f0cddf9f672a328c42acb8a5e3df6a22f385e"), looks := false }, kinds := [], alts := [], goes := true, laidByText := true, laidKinds := [.funcs, .funcs], laidTests := true, laidLooks := .later }
def SeekerRightsUptoCardSaid : Prop := Claim7.holds Tryz.pinned (.plain (OpenSpec.upto seekerRightsSpec)) seekerRightsUptoCard

/-- THE SECOND FORM's CARD OF 'velariumlaw09.SeekerKnown'. -/
def seekerKnownUptoCard : Claim7 := { stood := { row := seekerKnownUptoRow, standIns := [], harness := (true, "4ec7f063a1680b798177e308e94f0cddf9f672a328c42acb8a5e3df6a22f385e"), looks := false }, kinds := [], alts := [], goes := true, laidByText := true, laidKinds := [.funcs, .funcs], laidTests := true, laidLooks := .later }
def SeekerKnownUptoCardSaid : Prop := Claim7.holds Tryz.pinned (.plain (OpenSpec.upto seekerKnownSpec)) seekerKnownUptoCard

/-- THE SECOND FORM's CARD OF 'velariumlaw09.SeekerWorst'. -/
def seekerWorstUptoCard : Claim7 := { stood := { row := seekerWorstUptoRow, standIns := [], harness := (true, "4ec7f063a1680b798177e308e94f0cddf9f672a328c42acb8a5e3df6a22f385e"), looks := false }, kinds := [], alts := [], goes := true, laidByText := true, laidKinds := [.funcs, .funcs], laidTests := true, laidLooks := .later }
def SeekerWorstUptoCardSaid : Prop := Claim7.holds Tryz.pinned (.plain (OpenSpec.upto seekerWorstSpec)) seekerWorstUptoCard

/-- THE SECOND FORM's CARD OF 'velariumlaw09.SeekerNews'. -/
def seekerNewsUptoCard : Claim7 := { stood := { row := seekerNewsUptoRow, standIns := [], harness := (true, "4ec7f063a1680b798177e308e94f0cddf9f672a328c42acb8a5e3df6a22f385e"), looks := false }, kinds := [], alts := [], goes := true, laidByText := true, laidKinds := [.funcs, .funcs], laidTests := true, laidLooks := .later }
def SeekerNewsUptoCardSaid : Prop := Claim7.holds Tryz.pinned (.plain (OpenSpec.upto seekerNewsSpec)) seekerNewsUptoCard
end Rows
end Go.Proofs.YtmojepgodbadmaaGreatDoor
