/-
  DERIVED. GIVEN WITH THE SEED: THE CARDS: each row of YtclnbamaepgfiaaGreatDoorRows.lean that lists a variable, with what it lists TIED to the program's text (the seventh form; the later family's looks); each row that meets fmt, with fmt's text TOLD by the authors' own Lean function (tested against real Go, not proved from fmt's source: count such statements apart). THE CARD IS WHAT COUNTS. Prove the row's statement (the work); the ties are given (YtclnbamaepgfiaaGreatDoorTie.lean); close each card by the builder's one call (the guide's Derived/Test/ToyasCard.lean, 'card_holds'). Laid BY PROGRAM, IN A SANDBOX (cutbox-door.mjs). By AI agents, Wed Nov 11 2026. No macro, syntax, notation, axiom, sorry.
-/
import Derived.Test.YtclnbamaepgfiaaGreatDoorRows
import GoSem.ClaimSeven
namespace Go.Proofs.YtclnbamaepgfiaaGreatDoor
namespace Rows

/-- THE TIED CARD OF 'velariumlaw09.SeekerRolled'. -/
def seekerRolledCard : Claim7 := { stood := { row := seekerRolledRow, standIns := [], harness := (true, "1fe19799315bba311156e4fa473785bd1d60e10dc114c81e894572dc5e50c777"), looks := false }, kinds := [], alts := [], goes := true, laidByText := true, laidKinds := [.funcs, .funcs, .funcs], laidTests := true, laidLooks := .later }
def SeekerRolledCardSaid : Prop := Claim7.holds Tryz.pinned (.plain (OpenSpec.ofChange seekerRolledSpec)) seekerRolledCard
end Rows
end Go.Proofs.YtclnbamaepgfiaaGreatDoor
