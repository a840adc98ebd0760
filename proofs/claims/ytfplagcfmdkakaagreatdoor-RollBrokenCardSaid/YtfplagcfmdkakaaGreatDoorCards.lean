/-
  DERIVED. GIVEN WITH THE SEED: THE CARDS: each row of YtfplagcfmdkakaaGreatDoorRows.lean that lists a variable, with what it lists TIED to the program's text (the seventh form; the later family's looks); each row that meets fmt, with fmt's text TOLD by the authors' own Lean function (tested against real Go, not proved from fmt's source: count such statements apart). THE CARD IS WHAT COUNTS. Prove the row's statement (the work); the ties are given (YtfplagcfmdkakaaGreatDoorTie.lean); close each card by the builder's one call (the guide's Derived/Test/ToyasCard.lean, 'card_holds'). Laid BY PROGRAM, IN A SANDBOX (cutbox-door.mjs). By AI agents, Wed Nov 11 2026. No macro, syntax, notation, axiom, sorry.
-/
import Derived.Test.YtfplagcfmdkakaaGreatDoorRows
import GoSem.ClaimSeven
namespace Go.Proofs.YtfplagcfmdkakaaGreatDoor
namespace Rows

/-- THE TIED CARD OF 'velariumlaw08.RollBroken'. -/
def rollBrokenCard : Claim7 := { stood := { row := rollBrokenRow, standIns := [], harness := (true, "0fbac9345386269831e87bea3a88caf51c33706822c66abc5d71c9eb0c0907dd"), looks := false }, kinds := [], alts := [], goes := true, laidByText := true, laidKinds := [.funcs, .funcs], laidTests := true, laidLooks := .later }
def RollBrokenCardSaid : Prop := Claim7.holds Tryz.pinned (.plain (OpenSpec.ofChange rollBrokenSpec)) rollBrokenCard
end Rows
end Go.Proofs.YtfplagcfmdkakaaGreatDoor
