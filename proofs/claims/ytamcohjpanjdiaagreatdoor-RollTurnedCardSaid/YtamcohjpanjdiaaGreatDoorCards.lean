/-
  DERIVED. GIVEN WITH THE SEED: THE CARDS: each row of YtamcohjpanjdiaaGreatDoorRows.lean that lists a variable, with what it lists TIED to the program's text (the seventh form; the later family's looks); each row that meets fmt, with fmt's text TOLD by the authors' own Lean function (tested against real Go, not proved from fmt's source: count such statements apart). THE CARD IS WHAT COUNTS. Prove the row's statement (the work); the ties are given (YtamcohjpanjdiaaGreatDoorTie.lean); close each card by the builder's one call (the guide's Derived/Test/ToyasCard.lean, 'card_holds'). Laid BY PROGRAM, IN A SANDBOX (cutbox-door.mjs). By AI agents, Wed Nov 11 2026. No macro, syntax, notation, axiom, sorry.
-/
import Derived.Test.YtamcohjpanjdiaaGreatDoorRows
import GoSem.ClaimSeven
namespace Go.Proofs.YtamcohjpanjdiaaGreatDoor
namespace Rows

/-- THE TIED CARD OF 'velariumlaw08.RollCuts'. -/
def rollCutsCard : Claim7 := { stood := { row := rollCutsRow, standIns := [], harness := (true, "a8dbade53a295b34d71f2e42ef9c81e21a1da82da629ae191411721f06478221"), looks := false }, kinds := [], alts := [], goes := true, laidByText := true, laidKinds := [.funcs], laidTests := true, laidLooks := .later }
def RollCutsCardSaid : Prop := Claim7.holds Tryz.pinned (.plain (OpenSpec.ofChange rollCutsSpec)) rollCutsCard

/-- THE TIED CARD OF 'velariumlaw08.RollPlans'. -/
def rollPlansCard : Claim7 := { stood := { row := rollPlansRow, standIns := [], harness := (true, "a8dbade53a295b34d71f2e42ef9c81e21a1da82da629ae191411721f06478221"), looks := false }, kinds := [], alts := [], goes := true, laidByText := true, laidKinds := [.funcs], laidTests := true, laidLooks := .later }
def RollPlansCardSaid : Prop := Claim7.holds Tryz.pinned (.plain (OpenSpec.ofChange rollPlansSpec)) rollPlansCard

/-- THE TIED CARD OF 'velariumlaw08.RollNews'. -/
def rollNewsCard : Claim7 := { stood := { row := rollNewsRow, standIns := [], harness := (true, "a8dbade53a295b34d71f2e42ef9c81e21a1da82da629ae191411721f06478221"), looks := false }, kinds := [], alts := [], goes := true, laidByText := true, laidKinds := [.funcs], laidTests := true, laidLooks := .later }
def RollNewsCardSaid : Prop := Claim7.holds Tryz.pinned (.plain (OpenSpec.ofChange rollNewsSpec)) rollNewsCard

/-- THE TIED CARD OF 'velariumlaw08.RollReached'. -/
def rollReachedCard : Claim7 := { stood := { row := rollReachedRow, standIns := [], harness := (true, "a8dbade53a295b34d71f2e42ef9c81e21a1da82da629ae191411721f06478221"), looks := false }, kinds := [], alts := [], goes := true, laidByText := true, laidKinds := [.funcs], laidTests := true, laidLooks := .later }
def RollReachedCardSaid : Prop := Claim7.holds Tryz.pinned (.plain (OpenSpec.ofChange rollReachedSpec)) rollReachedCard

/-- THE TIED CARD OF 'velariumlaw08.RollLearnt'. -/
def rollLearntCard : Claim7 := { stood := { row := rollLearntRow, standIns := [], harness := (true, "a8dbade53a295b34d71f2e42ef9c81e21a1da82da629ae191411721f06478221"), looks := false }, kinds := [], alts := [], goes := true, laidByText := true, laidKinds := [.funcs], laidTests := true, laidLooks := .later }
def RollLearntCardSaid : Prop := Claim7.holds Tryz.pinned (.plain (OpenSpec.ofChange rollLearntSpec)) rollLearntCard

/-- THE TIED CARD OF 'velariumlaw08.RollClashes'. -/
def rollClashesCard : Claim7 := { stood := { row := rollClashesRow, standIns := [], harness := (true, "a8dbade53a295b34d71f2e42ef9c81e21a1da82da629ae191411721f06478221"), looks := false }, kinds := [], alts := [], goes := true, laidByText := true, laidKinds := [.funcs], laidTests := true, laidLooks := .later }
def RollClashesCardSaid : Prop := Claim7.holds Tryz.pinned (.plain (OpenSpec.ofChange rollClashesSpec)) rollClashesCard

/-- THE TIED CARD OF 'velariumlaw08.RollAsked'. -/
def rollAskedCard : Claim7 := { stood := { row := rollAskedRow, standIns := [], harness := (true, "a8dbade53a295b34d71f2e42ef9c81e21a1da82da629ae191411721f06478221"), looks := false }, kinds := [], alts := [], goes := true, laidByText := true, laidKinds := [.funcs], laidTests := true, laidLooks := .later }
def RollAskedCardSaid : Prop := Claim7.holds Tryz.pinned (.plain (OpenSpec.ofChange rollAskedSpec)) rollAskedCard

/-- THE TIED CARD OF 'velariumlaw08.RollTurned'. -/
def rollTurnedCard : Claim7 := { stood := { row := rollTurnedRow, standIns := [], harness := (true, "a8dbade53a295b34d71f2e42ef9c81e21a1da82da629ae191411721f06478221"), looks := false }, kinds := [], alts := [], goes := true, laidByText := true, laidKinds := [.funcs], laidTests := true, laidLooks := .later }
def RollTurnedCardSaid : Prop := Claim7.holds Tryz.pinned (.plain (OpenSpec.ofChange rollTurnedSpec)) rollTurnedCard

/-- THE TIED CARD OF 'velariumlaw08.RollFull'. -/
def rollFullCard : Claim7 := { stood := { row := rollFullRow, standIns := [], harness := (true, "a8dbade53a295b34d71f2e42ef9c81e21a1da82da629ae191411721f06478221"), looks := false }, kinds := [], alts := [], goes := true, laidByText := true, laidKinds := [.funcs], laidTests := true, laidLooks := .later }
def RollFullCardSaid : Prop := Claim7.holds Tryz.pinned (.plain (OpenSpec.ofChange rollFullSpec)) rollFullCard

/-- THE TIED CARD OF 'velariumlaw08.RollCheapest'. -/
def rollCheapestCard : Claim7 := { stood := { row := rollCheapestRow, standIns := [], harness := (true, "a8dbade53a295b34d71f2e42ef9c81e21a1da82da629ae191411721f06478221"), looks := false }, kinds := [], alts := [], goes := true, laidByText := true, laidKinds := [.funcs], laidTests := true, laidLooks := .later }
def RollCheapestCardSaid : Prop := Claim7.holds Tryz.pinned (.plain (OpenSpec.ofChange rollCheapestSpec)) rollCheapestCard

/-- THE TIED CARD OF 'velariumlaw08.RollBest'. -/
def rollBestCard : Claim7 := { stood := { row := rollBestRow, standIns := [], harness := (true, "a8dbade53a295b34d71f2e42ef9c81e21a1da82da629ae191411721f06478221"), looks := false }, kinds := [], alts := [], goes := true, laidByText := true, laidKinds := [.funcs], laidTests := true, laidLooks := .later }
def RollBestCardSaid : Prop := Claim7.holds Tryz.pinned (.plain (OpenSpec.ofChange rollBestSpec)) rollBestCard

/-- THE TIED CARD OF 'velariumlaw08.RollWidest'. -/
def rollWidestCard : Claim7 := { stood := { row := rollWidestRow, standIns := [], harness := (true, "a8dbade53a295b34d71f2e42ef9c81e21a1da82da629ae191411721f06478221"), looks := false }, kinds := [], alts := [], goes := true, laidByText := true, laidKinds := [.funcs], laidTests := true, laidLooks := .later }
def RollWidestCardSaid : Prop := Claim7.holds Tryz.pinned (.plain (OpenSpec.ofChange rollWidestSpec)) rollWidestCard

/-- THE TIED CARD OF 'velariumlaw08.RollMore'. -/
def rollMoreCard : Claim7 := { stood := { row := rollMoreRow, standIns := [], harness := (true, "a8dbade53a295b34d71f2e42ef9c81e21a1da82da629ae191411721f06478221"), looks := false }, kinds := [], alts := [], goes := true, laidByText := true, laidKinds := [.funcs], laidTests := true, laidLooks := .later }
def RollMoreCardSaid : Prop := Claim7.holds Tryz.pinned (.plain (OpenSpec.ofChange rollMoreSpec)) rollMoreCard

/-- THE TIED CARD OF 'velariumlaw08.RollStates'. -/
def rollStatesCard : Claim7 := { stood := { row := rollStatesRow, standIns := [], harness := (true, "a8dbade53a295b34d71f2e42ef9c81e21a1da82da629ae191411721f06478221"), looks := false }, kinds := [], alts := [], goes := true, laidByText := true, laidKinds := [.funcs], laidTests := true, laidLooks := .later }
def RollStatesCardSaid : Prop := Claim7.holds Tryz.pinned (.plain (OpenSpec.ofChange rollStatesSpec)) rollStatesCard

/-- THE TIED CARD OF 'velariumlaw08.RollReal'. -/
def rollRealCard : Claim7 := { stood := { row := rollRealRow, standIns := [], harness := (true, "a8dbade53a295b34d71f2e42ef9c81e21a1da82da629ae191411721f06478221"), looks := false }, kinds := [], alts := [], goes := true, laidByText := true, laidKinds := [.funcs], laidTests := true, laidLooks := .later }
def RollRealCardSaid : Prop := Claim7.holds Tryz.pinned (.plain (OpenSpec.ofChange rollRealSpec)) rollRealCard
end Rows
end Go.Proofs.YtamcohjpanjdiaaGreatDoor
