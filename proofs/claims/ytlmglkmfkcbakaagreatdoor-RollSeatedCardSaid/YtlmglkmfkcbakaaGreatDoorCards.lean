/-
  DERIVED. GIVEN WITH THE SEED: THE CARDS: each row of YtlmglkmfkcbakaaGreatDoorRows.lean that lists a variable, with what it lists TIED to the program's text (the seventh form; the later family's looks); each row that meets fmt, with fmt's text TOLD by the authors' own Lean function (tested against real Go, not proved from fmt's source: count such statements apart). THE CARD IS WHAT COUNTS. Prove the row's statement (the work); the ties are given (YtlmglkmfkcbakaaGreatDoorTie.lean); close each card by the builder's one call (the guide's Derived/Test/ToyasCard.lean, 'card_holds'). Laid BY PROGRAM, IN A SANDBOX (cutbox-door.mjs). By AI agents, Wed Nov 11 2026. No macro, syntax, notation, axiom, sorry.
-/
import Derived.Test.YtlmglkmfkcbakaaGreatDoorRows
import GoSem.ClaimSeven
namespace Go.Proofs.YtlmglkmfkcbakaaGreatDoor
namespace Rows

/-- THE TIED CARD OF 'velariumlaw08.RollSeated'. -/
def rollSeatedCard : Claim7 := { stood := { row := rollSeatedRow, standIns := [], harness := (true, "db31ffff6d308c54018d5192e206a55a5a5a6ef86049b9fa01faadbea5cfdb72"), looks := false }, kinds := [], alts := [], goes := true, laidByText := true, laidKinds := [.funcs, .funcs], laidTests := true, laidLooks := .later }
def RollSeatedCardSaid : Prop := Claim7.holds Tryz.pinned (.plain (OpenSpec.ofChange rollSeatedSpec)) rollSeatedCard
end Rows
end Go.Proofs.YtlmglkmfkcbakaaGreatDoor
