/-
  DERIVED. GIVEN WITH THE SEED: THE CARDS: each row of YtmpelnkdopomgaaGreatDoorRows.lean that lists a variable, with what it lists TIED to the program's text (the seventh form; the later family's looks); each row that meets fmt, with fmt's text TOLD by the authors' own Lean function (tested against real Go, not proved from fmt's source: count such statements apart). THE CARD IS WHAT COUNTS. Prove the row's statement (the work); the ties are given (YtmpelnkdopomgaaGreatDoorTie.lean); close each card by the builder's one call (the guide's Derived/Test/ToyasCard.lean, 'card_holds'). Laid BY PROGRAM, IN A SANDBOX (cutbox-door.mjs). By AI agents, Wed Nov 11 2026. No macro, syntax, notation, axiom, sorry.
-/
import Derived.Test.YtmpelnkdopomgaaGreatDoorRows
import GoSem.ClaimSeven
namespace Go.Proofs.YtmpelnkdopomgaaGreatDoor
namespace Rows

/-- THE TIED CARD OF 'velariumlaw08.RollLit'. -/
def rollLitCard : Claim7 := { stood := { row := rollLitRow, standIns := [], harness := (true, "93c3ef5ea501e39187e746a041bf5af694222bc6e313cd817e1828b3d954ece8"), looks := false }, kinds := [], alts := [], goes := true, laidByText := true, laidKinds := [.funcs, .funcs], laidTests := true, laidLooks := .later }
def RollLitCardSaid : Prop := Claim7.holds Tryz.pinned (.plain (OpenSpec.ofChange rollLitSpec)) rollLitCard
end Rows
end Go.Proofs.YtmpelnkdopomgaaGreatDoor
