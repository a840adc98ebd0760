/-
  DERIVED. GIVEN WITH THE SEED: THE CARDS: each row of YtcddfkgckelhiaaGreatDoorRows.lean that lists a variable, with what it lists TIED to the program's text (the seventh form; the later family's looks); each row that meets fmt, with fmt's text TOLD by the authors' own Lean function (tested against real Go, not proved from fmt's source: count such statements apart). THE CARD IS WHAT COUNTS. Prove the row's statement (the work); the ties are given (YtcddfkgckelhiaaGreatDoorTie.lean); close each card by the builder's one call (the guide's Derived/Test/ToyasCard.lean, 'card_holds'). Laid BY PROGRAM, IN A SANDBOX (cutbox-door.mjs). By AI agents, Wed Nov 11 2026. No macro, syntax, notation, axiom, sorry.
-/
import Derived.Test.YtcddfkgckelhiaaGreatDoorRows
import GoSem.ClaimSeven
namespace Go.Proofs.YtcddfkgckelhiaaGreatDoor
namespace Rows

/-- THE TIED CARD OF 'velariumlaw09.SeekerCrowd'. -/
def seekerCrowdCard : Claim7 := { stood := { row := seekerCrowdRow, standIns := [], harness := (true, "3155e7a4eae54f693aaa11df5a00bfaad98e5283f1f55b7e06449e5a2c1f4547"), looks := false }, kinds := [], alts := [], goes := true, laidByText := true, laidKinds := [.funcs, .funcs, .funcs, .funcs, .data], laidTests := true, laidLooks := .later }
def SeekerCrowdCardSaid : Prop := Claim7.holds Tryz.pinned (.plain (OpenSpec.ofChange seekerCrowdSpec)) seekerCrowdCard

/-- THE TIED CARD OF 'velariumlaw09.SeekerTurning'. -/
def seekerTurningCard : Claim7 := { stood := { row := seekerTurningRow, standIns := [], harness := (true, "3155e7a4eae54f693aaa11df5a00bfaad98e5283f1f55b7e06449e5a2c1f4547"), looks := false }, kinds := [], alts := [], goes := true, laidByText := true, laidKinds := [.funcs, .funcs, .funcs], laidTests := true, laidLooks := .later }
def SeekerTurningCardSaid : Prop := Claim7.holds Tryz.pinned (.plain (OpenSpec.ofChange seekerTurningSpec)) seekerTurningCard

/-- THE TIED CARD OF 'velariumlaw09.SeekerLit'. -/
def seekerLitCard : Claim7 := { stood := { row := seekerLitRow, standIns := [], harness := (true, "3155e7a4eae54f693aaa11df5a00bfaad98e5283f1f55b7e06449e5a2c1f4547"), looks := false }, kinds := [], alts := [], goes := true, laidByText := true, laidKinds := [.funcs, .funcs, .funcs], laidTests := true, laidLooks := .later }
def SeekerLitCardSaid : Prop := Claim7.holds Tryz.pinned (.plain (OpenSpec.ofChange seekerLitSpec)) seekerLitCard

/-- THE SECOND FORM's CARD OF 'velariumlaw09.SeekerCrowd'. -/
def seekerCrowdUptoCard : Claim7 := { stood := { row := seekerCrowdUptoRow, standIns := [], harness := (true, "3155e7a4eae54f693aaa11df5a00bfaad98e5283f1f55b7e06449e5a2c1f4547"), looks := false }, kinds := [], alts := [], goes := true, laidByText := true, laidKinds := [.funcs, .funcs, .funcs, .funcs, .data], laidTests := true, laidLooks := .later }
def SeekerCrowdUptoCardSaid : Prop := Claim7.holds Tryz.pinned (.plain (OpenSpec.upto seekerCrowdSpec)) seekerCrowdUptoCard

/-- THE SECOND FORM's CARD OF 'velariumlaw09.SeekerTurning'. -/
def seekerTurningUptoCard : Claim7 := { stood := { row := seekerTurningUptoRow, standIns := [], harness := (true, "3155e7a4eae54f693aaa11df5a00bfaad98e5283f1f55b7e06449e5a2c1f4547"), looks := false }, kinds := [], alts := [], goes := true, laidByText := true, laidKinds := [.funcs, .funcs, .funcs], laidTests := true, laidLooks := .later }
def SeekerTurningUptoCardSaid : Prop := Claim7.holds Tryz.pinned (.plain (OpenSpec.upto seekerTurningSpec)) seekerTurningUptoCard

/-- THE SECOND FORM's CARD OF 'velariumlaw09.SeekerLit'. -/
def seekerLitUptoCard : Claim7 := { stood := { row := seekerLitUptoRow, standIns := [], harness := (true, "3155e7a4eae54f693aaa11df5a00bfaad98e5283f1f55b7e06449e5a2c1f4547"), looks := false }, kinds := [], alts := [], goes := true, laidByText := true, laidKinds := [.funcs, .funcs, .funcs], laidTests := true, laidLooks := .later }
def SeekerLitUptoCardSaid : Prop := Claim7.holds Tryz.pinned (.plain (OpenSpec.upto seekerLitSpec)) seekerLitUptoCard
end Rows
end Go.Proofs.YtcddfkgckelhiaaGreatDoor
