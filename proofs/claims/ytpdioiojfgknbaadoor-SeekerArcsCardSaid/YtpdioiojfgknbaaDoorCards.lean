/-
  DERIVED. GIVEN WITH THE SEED: THE CARDS: each row of YtpdioiojfgknbaaDoorRows.lean that lists a variable, with what it lists TIED to the program's text (the seventh form; the later family's looks); each row that meets fmt, with fmt's text TOLD by the authors' own Lean function (tested against real Go, not proved from fmt's source: count such statements apart). THE CARD IS WHAT COUNTS. Prove the row's statement (the work); the ties are given (YtpdioiojfgknbaaDoorTie.lean); close each card by the builder's one call (the guide's Derived/Test/ToyasCard.lean, 'card_holds'). Laid BY PROGRAM, IN A SANDBOX (cutbox-door.mjs). By AI agents, Wed Nov 11 2026. No macro, syntax, notation, axiom, sorry.
-/
import Derived.Test.YtpdioiojfgknbaaDoorRows
import GoSem.ClaimSeven
namespace Go.Proofs.YtpdioiojfgknbaaDoor
namespace Rows

/-- THE TIED CARD OF 'velariumlaw09.SeekerArcs'. -/
def seekerArcsCard : Claim7 := { stood := { row := seekerArcsRow, standIns := [], harness := (true, "fb03854694f5ca032dc06b62647a0139c6d65f0bc48579e1b16101737a65f154"), looks := false }, kinds := [], alts := [], goes := true, laidByText := true, laidKinds := [.funcs, .funcs], laidTests := true, laidLooks := .later }
def SeekerArcsCardSaid : Prop := Claim7.holds Tryd.pinned (.plain (OpenSpec.ofChange seekerArcsSpec)) seekerArcsCard

/-- THE TIED CARD OF 'velariumlaw09.SeekerAnyOrder'. -/
def seekerAnyOrderCard : Claim7 := { stood := { row := seekerAnyOrderRow, standIns := [], harness := (true, "fb03854694f5ca032dc06b62647a0139c6d65f0bc48579e1b16101737a65f154"), looks := false }, kinds := [], alts := [], goes := true, laidByText := true, laidKinds := [.funcs, .funcs], laidTests := true, laidLooks := .later }
def SeekerAnyOrderCardSaid : Prop := Claim7.holds Tryd.pinned (.plain (OpenSpec.ofChange seekerAnyOrderSpec)) seekerAnyOrderCard

/-- THE SECOND FORM's CARD OF 'velariumlaw09.SeekerArcs'. -/
def seekerArcsUptoCard : Claim7 := { stood := { row := seekerArcsUptoRow, standIns := [], harness := (true, "fb03854694f5ca032dc06b62647a0139c6d65f0bc48579e1b16101737a65f154"), looks := false }, kinds := [], alts := [], goes := true, laidByText := true, laidKinds := [.funcs, .funcs], laidTests := true, laidLooks := .later }
def SeekerArcsUptoCardSaid : Prop := Claim7.holds Tryd.pinned (.plain (OpenSpec.upto seekerArcsSpec)) seekerArcsUptoCard

/-- THE SECOND FORM's CARD OF 'velariumlaw09.SeekerAnyOrder'. -/
def seekerAnyOrderUptoCard : Claim7 := { stood := { row := seekerAnyOrderUptoRow, standIns := [], harness := (true, "fb03854694f5ca032dc06b62647a0139c6d65f0bc48579e1b16101737a65f154"), looks := false }, kinds := [], alts := [], goes := true, laidByText := true, laidKinds := [.funcs, .funcs], laidTests := true, laidLooks := .later }
def SeekerAnyOrderUptoCardSaid : Prop := Claim7.holds Tryd.pinned (.plain (OpenSpec.upto seekerAnyOrderSpec)) seekerAnyOrderUptoCard
end Rows
end Go.Proofs.YtpdioiojfgknbaaDoor
