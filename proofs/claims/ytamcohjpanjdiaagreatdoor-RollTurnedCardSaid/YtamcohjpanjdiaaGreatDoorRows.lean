/-
  NARROWER THAN 'FOR EVERY INPUT', by the rows' own cells (each row's printed sentence says how): RollCuts: calm, laid · RollPlans: calm, laid · RollNews: calm, laid · RollReached: calm, laid · RollLearnt: calm, laid · RollClashes: calm, laid · RollAsked: calm, laid · RollTurned: calm, laid · RollFull: calm, laid · RollCheapest: calm, laid · RollBest: calm, laid · RollWidest: calm, laid · RollMore: calm, laid · RollStates: calm, laid · RollReal: calm, laid.
  DERIVED. THE GIVEN ROWS OF THIS SEAT. 15 by the template 'for every input the law returns true; each argument reads behind the call as it read before'; 0 by the template 'total and deterministic' (their statements: YtamcohjpanjdiaaGreatDoorTotals.lean).
  GIVEN WITH THE SEED: the statements are not yours to turn. If you find one false, say at which input.
  Laid BY PROGRAM, IN A SANDBOX (cutbox-rows.mjs): the forced cells as the released guide's own fill.sh prints them over the translation f8b795766bd891d9… (all of the seat's roots in one cut). By AI agents, Wed Nov 11 2026. No macro, syntax, notation, axiom, sorry.
-/
import Derived.Test.YtamcohjpanjdiaaGreatDoorChecked
import GoSem.Claim
import GoSem.ClaimJoined
import GoSem.ClaimMapViews
import Derived.JoinedTies
import Derived.KernelRfl
namespace Go.Proofs.YtamcohjpanjdiaaGreatDoor
/- THE CELL 'sum', in the pinned program and in every row, IS THE sha256 OF THE DUMP (.gsa) THAT YtamcohjpanjdiaaGreatDoorProg.lean LOADS. Nothing in Lean hashes anything: it is a label: what it is worth is what the hold of that sum in a sandbox is worth. -/
noncomputable def Tryz.pinned : Pinned := { name := "ytamcohjpanjdiaagreatdoor", sum := "f8b795766bd891d9429854249902b5ef38975c691f3aebd500aa5b499597fdf4", checked := Tryz.checked }
namespace Rows
def none {H : Type} : Left H := { results := [], args := [] }

/- WHAT THE LISTED PACKAGE-LEVEL VARIABLES READ AS WHEN THE CALL BEGINS. Each datum BY PROGRAM (the guide's laid-datum.mjs) off the statement by which the dump's own 'gosem.cut.vars' lays the variable. In a bare row this is a premise. The card (YtamcohjpanjdiaaGreatDoorCards.lean) ties it to the program's text. -/
def laid_velarium_roll_checks {H : Type} : DataW H := .iface "func table" (.agg [.iface "func" (.lit (.string [40, 118, 101, 108, 97, 114, 105, 117, 109, 47, 114, 111, 108, 108, 46, 98, 111, 111, 107, 41, 46, 114, 111, 117, 110, 100, 115])), .iface "func" (.lit (.string [40, 118, 101, 108, 97, 114, 105, 117, 109, 47, 114, 111, 108, 108, 46, 98, 111, 111, 107, 41, 46, 115, 101, 97, 109, 115])), .iface "func" (.lit (.string [40, 118, 101, 108, 97, 114, 105, 117, 109, 47, 114, 111, 108, 108, 46, 98, 111, 111, 107, 41, 46, 99, 108, 111, 116, 104, 115])), .iface "func" (.lit (.string [40, 118, 101, 108, 97, 114, 105, 117, 109, 47, 114, 111, 108, 108, 46, 98, 111, 111, 107, 41, 46, 109, 101, 97, 115, 117, 114, 101, 115]))])

/-- 'velariumlaw08.RollCuts': WHATEVER THE INPUT: true; the input reads as it did. -/
def rollCutsSpec : ChangeSpec := { name := "rollCuts", fn := fun _ => fun
  | [d1, d2, d3] => { results := [.lit (.bool true)], args := [d1, d2, d3] }
  | _ => none }
def rollCutsRow : OpenClaim := { program := "ytamcohjpanjdiaagreatdoor", sum := "f8b795766bd891d9429854249902b5ef38975c691f3aebd500aa5b499597fdf4", func := "velarium/velariumlaw08.RollCuts", spec := "rollCuts", inPlace := ["(*sync.WaitGroup).Add", "internal/race.ReleaseMerge", "internal/race.Disable", "internal/race.Enable", "internal/synctest.IsInBubble", "internal/synctest.Associate[sync.WaitGroup]", "sync.fatal", "sync/atomic.OrUint64", "sync/atomic.AddUint64", "internal/race.Read", "sync/atomic.LoadUint64", "sync/atomic.StoreUint64", "internal/synctest.Disassociate[sync.WaitGroup]", "sync.runtime_Semrelease", "(*sync.WaitGroup).Done", "(*internal/sync.Mutex).Lock", "sync/atomic.CompareAndSwapInt32", "internal/race.Acquire", "(*internal/sync.Mutex).lockSlow", "internal/sync.runtime_canSpin", "internal/sync.runtime_doSpin", "internal/sync.throw", "internal/sync.runtime_nanotime", "internal/sync.runtime_SemacquireMutex", "sync/atomic.AddInt32", "(*internal/sync.Mutex).Unlock", "(*internal/sync.Mutex).unlockSlow", "internal/sync.fatal", "internal/sync.runtime_Semrelease", "(*sync.WaitGroup).Wait", "internal/synctest.IsAssociated[sync.WaitGroup]", "sync/atomic.CompareAndSwapUint64", "internal/race.Write", "sync.runtime_SemacquireWaitGroup"], unfollowed := true, recurses := true, named := ["velarium/roll.checks"], plainKeys := false, leaving := true, apart := false, calm := true, outside := [.timePasses], laid := [("velarium/roll.checks", laid_velarium_roll_checks)] }
def RollCutsSaid : Prop := rollCutsRow.holds Tryz.pinned (OpenSpec.ofChange rollCutsSpec)

/-- ITS FALSE NEIGHBOUR: 'it returns false'. Refute it at one input. -/
def rollCutsWrong : ChangeSpec := { name := "rollCuts", fn := fun _ => fun
  | [d1, d2, d3] => { results := [.lit (.bool false)], args := [d1, d2, d3] }
  | _ => none }
def RollCutsWrongFalsely : Prop := rollCutsRow.holds Tryz.pinned (OpenSpec.ofChange rollCutsWrong)

/-- 'velariumlaw08.RollPlans': WHATEVER THE INPUT: true; the input reads as it did. -/
def rollPlansSpec : ChangeSpec := { name := "rollPlans", fn := fun _ => fun
  | [d] => { results := [.lit (.bool true)], args := [d] }
  | _ => none }
def rollPlansRow : OpenClaim := { program := "ytamcohjpanjdiaagreatdoor", sum := "f8b795766bd891d9429854249902b5ef38975c691f3aebd500aa5b499597fdf4", func := "velarium/velariumlaw08.RollPlans", spec := "rollPlans", inPlace := ["(*sync.WaitGroup).Add", "internal/race.ReleaseMerge", "internal/race.Disable", "internal/race.Enable", "internal/synctest.IsInBubble", "internal/synctest.Associate[sync.WaitGroup]", "sync.fatal", "sync/atomic.OrUint64", "sync/atomic.AddUint64", "internal/race.Read", "sync/atomic.LoadUint64", "sync/atomic.StoreUint64", "internal/synctest.Disassociate[sync.WaitGroup]", "sync.runtime_Semrelease", "(*sync.WaitGroup).Done", "(*internal/sync.Mutex).Lock", "sync/atomic.CompareAndSwapInt32", "internal/race.Acquire", "(*internal/sync.Mutex).lockSlow", "internal/sync.runtime_canSpin", "internal/sync.runtime_doSpin", "internal/sync.throw", "internal/sync.runtime_nanotime", "internal/sync.runtime_SemacquireMutex", "sync/atomic.AddInt32", "(*internal/sync.Mutex).Unlock", "(*internal/sync.Mutex).unlockSlow", "internal/sync.fatal", "internal/sync.runtime_Semrelease", "(*sync.WaitGroup).Wait", "internal/synctest.IsAssociated[sync.WaitGroup]", "sync/atomic.CompareAndSwapUint64", "internal/race.Write", "sync.runtime_SemacquireWaitGroup"], unfollowed := true, recurses := true, named := ["velarium/roll.checks"], plainKeys := false, leaving := true, apart := false, calm := true, outside := [.timePasses], laid := [("velarium/roll.checks", laid_velarium_roll_checks)] }
def RollPlansSaid : Prop := rollPlansRow.holds Tryz.pinned (OpenSpec.ofChange rollPlansSpec)

/-- ITS FALSE NEIGHBOUR: 'it returns false'. Refute it at one input. -/
def rollPlansWrong : ChangeSpec := { name := "rollPlans", fn := fun _ => fun
  | [d] => { results := [.lit (.bool false)], args := [d] }
  | _ => none }
def RollPlansWrongFalsely : Prop := rollPlansRow.holds Tryz.pinned (OpenSpec.ofChange rollPlansWrong)

/-- 'velariumlaw08.RollNews': WHATEVER THE INPUT: true; the input reads as it did. -/
def rollNewsSpec : ChangeSpec := { name := "rollNews", fn := fun _ => fun
  | [d1, d2, d3, d4, d5] => { results := [.lit (.bool true)], args := [d1, d2, d3, d4, d5] }
  | _ => none }
def rollNewsRow : OpenClaim := { program := "ytamcohjpanjdiaagreatdoor", sum := "f8b795766bd891d9429854249902b5ef38975c691f3aebd500aa5b499597fdf4", func := "velarium/velariumlaw08.RollNews", spec := "rollNews", inPlace := ["(*sync.WaitGroup).Add", "internal/race.ReleaseMerge", "internal/race.Disable", "internal/race.Enable", "internal/synctest.IsInBubble", "internal/synctest.Associate[sync.WaitGroup]", "sync.fatal", "sync/atomic.OrUint64", "sync/atomic.AddUint64", "internal/race.Read", "sync/atomic.LoadUint64", "sync/atomic.StoreUint64", "internal/synctest.Disassociate[sync.WaitGroup]", "sync.runtime_Semrelease", "(*sync.WaitGroup).Done", "(*internal/sync.Mutex).Lock", "sync/atomic.CompareAndSwapInt32", "internal/race.Acquire", "(*internal/sync.Mutex).lockSlow", "internal/sync.runtime_canSpin", "internal/sync.runtime_doSpin", "internal/sync.throw", "internal/sync.runtime_nanotime", "internal/sync.runtime_SemacquireMutex", "sync/atomic.AddInt32", "(*internal/sync.Mutex).Unlock", "(*internal/sync.Mutex).unlockSlow", "internal/sync.fatal", "internal/sync.runtime_Semrelease", "(*sync.WaitGroup).Wait", "internal/synctest.IsAssociated[sync.WaitGroup]", "sync/atomic.CompareAndSwapUint64", "internal/race.Write", "sync.runtime_SemacquireWaitGroup"], unfollowed := true, recurses := true, named := ["velarium/roll.checks"], plainKeys := false, leaving := true, apart := false, calm := true, outside := [.timePasses], laid := [("velarium/roll.checks", laid_velarium_roll_checks)] }
def RollNewsSaid : Prop := rollNewsRow.holds Tryz.pinned (OpenSpec.ofChange rollNewsSpec)

/-- ITS FALSE NEIGHBOUR: 'it returns false'. Refute it at one input. -/
def rollNewsWrong : ChangeSpec := { name := "rollNews", fn := fun _ => fun
  | [d1, d2, d3, d4, d5] => { results := [.lit (.bool false)], args := [d1, d2, d3, d4, d5] }
  | _ => none }
def RollNewsWrongFalsely : Prop := rollNewsRow.holds Tryz.pinned (OpenSpec.ofChange rollNewsWrong)

/-- 'velariumlaw08.RollReached': WHATEVER THE INPUT: true; the input reads as it did. -/
def rollReachedSpec : ChangeSpec := { name := "rollReached", fn := fun _ => fun
  | [d1, d2, d3] => { results := [.lit (.bool true)], args := [d1, d2, d3] }
  | _ => none }
def rollReachedRow : OpenClaim := { program := "ytamcohjpanjdiaagreatdoor", sum := "f8b795766bd891d9429854249902b5ef38975c691f3aebd500aa5b499597fdf4", func := "velarium/velariumlaw08.RollReached", spec := "rollReached", inPlace := ["(*sync.WaitGroup).Add", "internal/race.ReleaseMerge", "internal/race.Disable", "internal/race.Enable", "internal/synctest.IsInBubble", "internal/synctest.Associate[sync.WaitGroup]", "sync.fatal", "sync/atomic.OrUint64", "sync/atomic.AddUint64", "internal/race.Read", "sync/atomic.LoadUint64", "sync/atomic.StoreUint64", "internal/synctest.Disassociate[sync.WaitGroup]", "sync.runtime_Semrelease", "(*sync.WaitGroup).Done", "(*internal/sync.Mutex).Lock", "sync/atomic.CompareAndSwapInt32", "internal/race.Acquire", "(*internal/sync.Mutex).lockSlow", "internal/sync.runtime_canSpin", "internal/sync.runtime_doSpin", "internal/sync.throw", "internal/sync.runtime_nanotime", "internal/sync.runtime_SemacquireMutex", "sync/atomic.AddInt32", "(*internal/sync.Mutex).Unlock", "(*internal/sync.Mutex).unlockSlow", "internal/sync.fatal", "internal/sync.runtime_Semrelease", "(*sync.WaitGroup).Wait", "internal/synctest.IsAssociated[sync.WaitGroup]", "sync/atomic.CompareAndSwapUint64", "internal/race.Write", "sync.runtime_SemacquireWaitGroup"], unfollowed := true, recurses := true, named := ["velarium/roll.checks"], plainKeys := false, leaving := true, apart := false, calm := true, outside := [.timePasses], laid := [("velarium/roll.checks", laid_velarium_roll_checks)] }
def RollReachedSaid : Prop := rollReachedRow.holds Tryz.pinned (OpenSpec.ofChange rollReachedSpec)

/-- ITS FALSE NEIGHBOUR: 'it returns false'. Refute it at one input. -/
def rollReachedWrong : ChangeSpec := { name := "rollReached", fn := fun _ => fun
  | [d1, d2, d3] => { results := [.lit (.bool false)], args := [d1, d2, d3] }
  | _ => none }
def RollReachedWrongFalsely : Prop := rollReachedRow.holds Tryz.pinned (OpenSpec.ofChange rollReachedWrong)

/-- 'velariumlaw08.RollLearnt': WHATEVER THE INPUT: true; the input reads as it did. -/
def rollLearntSpec : ChangeSpec := { name := "rollLearnt", fn := fun _ => fun
  | [d1, d2, d3, d4, d5, d6] => { results := [.lit (.bool true)], args := [d1, d2, d3, d4, d5, d6] }
  | _ => none }
def rollLearntRow : OpenClaim := { program := "ytamcohjpanjdiaagreatdoor", sum := "f8b795766bd891d9429854249902b5ef38975c691f3aebd500aa5b499597fdf4", func := "velarium/velariumlaw08.RollLearnt", spec := "rollLearnt", inPlace := ["(*sync.WaitGroup).Add", "internal/race.ReleaseMerge", "internal/race.Disable", "internal/race.Enable", "internal/synctest.IsInBubble", "internal/synctest.Associate[sync.WaitGroup]", "sync.fatal", "sync/atomic.OrUint64", "sync/atomic.AddUint64", "internal/race.Read", "sync/atomic.LoadUint64", "sync/atomic.StoreUint64", "internal/synctest.Disassociate[sync.WaitGroup]", "sync.runtime_Semrelease", "(*sync.WaitGroup).Done", "(*internal/sync.Mutex).Lock", "sync/atomic.CompareAndSwapInt32", "internal/race.Acquire", "(*internal/sync.Mutex).lockSlow", "internal/sync.runtime_canSpin", "internal/sync.runtime_doSpin", "internal/sync.throw", "internal/sync.runtime_nanotime", "internal/sync.runtime_SemacquireMutex", "sync/atomic.AddInt32", "(*internal/sync.Mutex).Unlock", "(*internal/sync.Mutex).unlockSlow", "internal/sync.fatal", "internal/sync.runtime_Semrelease", "(*sync.WaitGroup).Wait", "internal/synctest.IsAssociated[sync.WaitGroup]", "sync/atomic.CompareAndSwapUint64", "internal/race.Write", "sync.runtime_SemacquireWaitGroup"], unfollowed := true, recurses := true, named := ["velarium/roll.checks"], plainKeys := false, leaving := true, apart := false, calm := true, outside := [.timePasses], laid := [("velarium/roll.checks", laid_velarium_roll_checks)] }
def RollLearntSaid : Prop := rollLearntRow.holds Tryz.pinned (OpenSpec.ofChange rollLearntSpec)

/-- ITS FALSE NEIGHBOUR: 'it returns false'. Refute it at one input. -/
def rollLearntWrong : ChangeSpec := { name := "rollLearnt", fn := fun _ => fun
  | [d1, d2, d3, d4, d5, d6] => { results := [.lit (.bool false)], args := [d1, d2, d3, d4, d5, d6] }
  | _ => none }
def RollLearntWrongFalsely : Prop := rollLearntRow.holds Tryz.pinned (OpenSpec.ofChange rollLearntWrong)

/-- 'velariumlaw08.RollClashes': WHATEVER THE INPUT: true; the input reads as it did. -/
def rollClashesSpec : ChangeSpec := { name := "rollClashes", fn := fun _ => fun
  | [d1, d2] => { results := [.lit (.bool true)], args := [d1, d2] }
  | _ => none }
def rollClashesRow : OpenClaim := { program := "ytamcohjpanjdiaagreatdoor", sum := "f8b795766bd891d9429854249902b5ef38975c691f3aebd500aa5b499597fdf4", func := "velarium/velariumlaw08.RollClashes", spec := "rollClashes", inPlace := ["(*sync.WaitGroup).Add", "internal/race.ReleaseMerge", "internal/race.Disable", "internal/race.Enable", "internal/synctest.IsInBubble", "internal/synctest.Associate[sync.WaitGroup]", "sync.fatal", "sync/atomic.OrUint64", "sync/atomic.AddUint64", "internal/race.Read", "sync/atomic.LoadUint64", "sync/atomic.StoreUint64", "internal/synctest.Disassociate[sync.WaitGroup]", "sync.runtime_Semrelease", "(*sync.WaitGroup).Done", "(*internal/sync.Mutex).Lock", "sync/atomic.CompareAndSwapInt32", "internal/race.Acquire", "(*internal/sync.Mutex).lockSlow", "internal/sync.runtime_canSpin", "internal/sync.runtime_doSpin", "internal/sync.throw", "internal/sync.runtime_nanotime", "internal/sync.runtime_SemacquireMutex", "sync/atomic.AddInt32", "(*internal/sync.Mutex).Unlock", "(*internal/sync.Mutex).unlockSlow", "internal/sync.fatal", "internal/sync.runtime_Semrelease", "(*sync.WaitGroup).Wait", "internal/synctest.IsAssociated[sync.WaitGroup]", "sync/atomic.CompareAndSwapUint64", "internal/race.Write", "sync.runtime_SemacquireWaitGroup"], unfollowed := true, recurses := true, named := ["velarium/roll.checks"], plainKeys := false, leaving := true, apart := false, calm := true, outside := [.timePasses], laid := [("velarium/roll.checks", laid_velarium_roll_checks)] }
def RollClashesSaid : Prop := rollClashesRow.holds Tryz.pinned (OpenSpec.ofChange rollClashesSpec)

/-- ITS FALSE NEIGHBOUR: 'it returns false'. Refute it at one input. -/
def rollClashesWrong : ChangeSpec := { name := "rollClashes", fn := fun _ => fun
  | [d1, d2] => { results := [.lit (.bool false)], args := [d1, d2] }
  | _ => none }
def RollClashesWrongFalsely : Prop := rollClashesRow.holds Tryz.pinned (OpenSpec.ofChange rollClashesWrong)

/-- 'velariumlaw08.RollAsked': WHATEVER THE INPUT: true; the input reads as it did. -/
def rollAskedSpec : ChangeSpec := { name := "rollAsked", fn := fun _ => fun
  | [d1, d2] => { results := [.lit (.bool true)], args := [d1, d2] }
  | _ => none }
def rollAskedRow : OpenClaim := { program := "ytamcohjpanjdiaagreatdoor", sum := "f8b795766bd891d9429854249902b5ef38975c691f3aebd500aa5b499597fdf4", func := "velarium/velariumlaw08.RollAsked", spec := "rollAsked", inPlace := ["(*sync.WaitGroup).Add", "internal/race.ReleaseMerge", "internal/race.Disable", "internal/race.Enable", "internal/synctest.IsInBubble", "internal/synctest.Associate[sync.WaitGroup]", "sync.fatal", "sync/atomic.OrUint64", "sync/atomic.AddUint64", "internal/race.Read", "sync/atomic.LoadUint64", "sync/atomic.StoreUint64", "internal/synctest.Disassociate[sync.WaitGroup]", "sync.runtime_Semrelease", "(*sync.WaitGroup).Done", "(*internal/sync.Mutex).Lock", "sync/atomic.CompareAndSwapInt32", "internal/race.Acquire", "(*internal/sync.Mutex).lockSlow", "internal/sync.runtime_canSpin", "internal/sync.runtime_doSpin", "internal/sync.throw", "internal/sync.runtime_nanotime", "internal/sync.runtime_SemacquireMutex", "sync/atomic.AddInt32", "(*internal/sync.Mutex).Unlock", "(*internal/sync.Mutex).unlockSlow", "internal/sync.fatal", "internal/sync.runtime_Semrelease", "(*sync.WaitGroup).Wait", "internal/synctest.IsAssociated[sync.WaitGroup]", "sync/atomic.CompareAndSwapUint64", "internal/race.Write", "sync.runtime_SemacquireWaitGroup"], unfollowed := true, recurses := true, named := ["velarium/roll.checks"], plainKeys := false, leaving := true, apart := false, calm := true, outside := [.timePasses], laid := [("velarium/roll.checks", laid_velarium_roll_checks)] }
def RollAskedSaid : Prop := rollAskedRow.holds Tryz.pinned (OpenSpec.ofChange rollAskedSpec)

/-- ITS FALSE NEIGHBOUR: 'it returns false'. Refute it at one input. -/
def rollAskedWrong : ChangeSpec := { name := "rollAsked", fn := fun _ => fun
  | [d1, d2] => { results := [.lit (.bool false)], args := [d1, d2] }
  | _ => none }
def RollAskedWrongFalsely : Prop := rollAskedRow.holds Tryz.pinned (OpenSpec.ofChange rollAskedWrong)

/-- 'velariumlaw08.RollTurned': WHATEVER THE INPUT: true; the input reads as it did. -/
def rollTurnedSpec : ChangeSpec := { name := "rollTurned", fn := fun _ => fun
  | [d1, d2, d3, d4] => { results := [.lit (.bool true)], args := [d1, d2, d3, d4] }
  | _ => none }
def rollTurnedRow : OpenClaim := { program := "ytamcohjpanjdiaagreatdoor", sum := "f8b795766bd891d9429854249902b5ef38975c691f3aebd500aa5b499597fdf4", func := "velarium/velariumlaw08.RollTurned", spec := "rollTurned", inPlace := ["(*sync.WaitGroup).Add", "internal/race.ReleaseMerge", "internal/race.Disable", "internal/race.Enable", "internal/synctest.IsInBubble", "internal/synctest.Associate[sync.WaitGroup]", "sync.fatal", "sync/atomic.OrUint64", "sync/atomic.AddUint64", "internal/race.Read", "sync/atomic.LoadUint64", "sync/atomic.StoreUint64", "internal/synctest.Disassociate[sync.WaitGroup]", "sync.runtime_Semrelease", "(*sync.WaitGroup).Done", "(*internal/sync.Mutex).Lock", "sync/atomic.CompareAndSwapInt32", "internal/race.Acquire", "(*internal/sync.Mutex).lockSlow", "internal/sync.runtime_canSpin", "internal/sync.runtime_doSpin", "internal/sync.throw", "internal/sync.runtime_nanotime", "internal/sync.runtime_SemacquireMutex", "sync/atomic.AddInt32", "(*internal/sync.Mutex).Unlock", "(*internal/sync.Mutex).unlockSlow", "internal/sync.fatal", "internal/sync.runtime_Semrelease", "(*sync.WaitGroup).Wait", "internal/synctest.IsAssociated[sync.WaitGroup]", "sync/atomic.CompareAndSwapUint64", "internal/race.Write", "sync.runtime_SemacquireWaitGroup"], unfollowed := true, recurses := true, named := ["velarium/roll.checks"], plainKeys := false, leaving := true, apart := false, calm := true, outside := [.timePasses], laid := [("velarium/roll.checks", laid_velarium_roll_checks)] }
def RollTurnedSaid : Prop := rollTurnedRow.holds Tryz.pinned (OpenSpec.ofChange rollTurnedSpec)

/-- ITS FALSE NEIGHBOUR: 'it returns false'. Refute it at one input. -/
def rollTurnedWrong : ChangeSpec := { name := "rollTurned", fn := fun _ => fun
  | [d1, d2, d3, d4] => { results := [.lit (.bool false)], args := [d1, d2, d3, d4] }
  | _ => none }
def RollTurnedWrongFalsely : Prop := rollTurnedRow.holds Tryz.pinned (OpenSpec.ofChange rollTurnedWrong)

/-- 'velariumlaw08.RollFull': WHATEVER THE INPUT: true; the input reads as it did. -/
def rollFullSpec : ChangeSpec := { name := "rollFull", fn := fun _ => fun
  | [d1, d2, d3] => { results := [.lit (.bool true)], args := [d1, d2, d3] }
  | _ => none }
def rollFullRow : OpenClaim := { program := "ytamcohjpanjdiaagreatdoor", sum := "f8b795766bd891d9429854249902b5ef38975c691f3aebd500aa5b499597fdf4", func := "velarium/velariumlaw08.RollFull", spec := "rollFull", inPlace := ["(*sync.WaitGroup).Add", "internal/race.ReleaseMerge", "internal/race.Disable", "internal/race.Enable", "internal/synctest.IsInBubble", "internal/synctest.Associate[sync.WaitGroup]", "sync.fatal", "sync/atomic.OrUint64", "sync/atomic.AddUint64", "internal/race.Read", "sync/atomic.LoadUint64", "sync/atomic.StoreUint64", "internal/synctest.Disassociate[sync.WaitGroup]", "sync.runtime_Semrelease", "(*sync.WaitGroup).Done", "(*internal/sync.Mutex).Lock", "sync/atomic.CompareAndSwapInt32", "internal/race.Acquire", "(*internal/sync.Mutex).lockSlow", "internal/sync.runtime_canSpin", "internal/sync.runtime_doSpin", "internal/sync.throw", "internal/sync.runtime_nanotime", "internal/sync.runtime_SemacquireMutex", "sync/atomic.AddInt32", "(*internal/sync.Mutex).Unlock", "(*internal/sync.Mutex).unlockSlow", "internal/sync.fatal", "internal/sync.runtime_Semrelease", "(*sync.WaitGroup).Wait", "internal/synctest.IsAssociated[sync.WaitGroup]", "sync/atomic.CompareAndSwapUint64", "internal/race.Write", "sync.runtime_SemacquireWaitGroup"], unfollowed := true, recurses := true, named := ["velarium/roll.checks"], plainKeys := false, leaving := true, apart := false, calm := true, outside := [.timePasses], laid := [("velarium/roll.checks", laid_velarium_roll_checks)] }
def RollFullSaid : Prop := rollFullRow.holds Tryz.pinned (OpenSpec.ofChange rollFullSpec)

/-- ITS FALSE NEIGHBOUR: 'it returns false'. Refute it at one input. -/
def rollFullWrong : ChangeSpec := { name := "rollFull", fn := fun _ => fun
  | [d1, d2, d3] => { results := [.lit (.bool false)], args := [d1, d2, d3] }
  | _ => none }
def RollFullWrongFalsely : Prop := rollFullRow.holds Tryz.pinned (OpenSpec.ofChange rollFullWrong)

/-- 'velariumlaw08.RollCheapest': WHATEVER THE INPUT: true; the input reads as it did. -/
def rollCheapestSpec : ChangeSpec := { name := "rollCheapest", fn := fun _ => fun
  | [d1, d2, d3, d4] => { results := [.lit (.bool true)], args := [d1, d2, d3, d4] }
  | _ => none }
def rollCheapestRow : OpenClaim := { program := "ytamcohjpanjdiaagreatdoor", sum := "f8b795766bd891d9429854249902b5ef38975c691f3aebd500aa5b499597fdf4", func := "velarium/velariumlaw08.RollCheapest", spec := "rollCheapest", inPlace := ["(*sync.WaitGroup).Add", "internal/race.ReleaseMerge", "internal/race.Disable", "internal/race.Enable", "internal/synctest.IsInBubble", "internal/synctest.Associate[sync.WaitGroup]", "sync.fatal", "sync/atomic.OrUint64", "sync/atomic.AddUint64", "internal/race.Read", "sync/atomic.LoadUint64", "sync/atomic.StoreUint64", "internal/synctest.Disassociate[sync.WaitGroup]", "sync.runtime_Semrelease", "(*sync.WaitGroup).Done", "(*internal/sync.Mutex).Lock", "sync/atomic.CompareAndSwapInt32", "internal/race.Acquire", "(*internal/sync.Mutex).lockSlow", "internal/sync.runtime_canSpin", "internal/sync.runtime_doSpin", "internal/sync.throw", "internal/sync.runtime_nanotime", "internal/sync.runtime_SemacquireMutex", "sync/atomic.AddInt32", "(*internal/sync.Mutex).Unlock", "(*internal/sync.Mutex).unlockSlow", "internal/sync.fatal", "internal/sync.runtime_Semrelease", "(*sync.WaitGroup).Wait", "internal/synctest.IsAssociated[sync.WaitGroup]", "sync/atomic.CompareAndSwapUint64", "internal/race.Write", "sync.runtime_SemacquireWaitGroup"], unfollowed := true, recurses := true, named := ["velarium/roll.checks"], plainKeys := false, leaving := true, apart := false, calm := true, outside := [.timePasses], laid := [("velarium/roll.checks", laid_velarium_roll_checks)] }
def RollCheapestSaid : Prop := rollCheapestRow.holds Tryz.pinned (OpenSpec.ofChange rollCheapestSpec)

/-- ITS FALSE NEIGHBOUR: 'it returns false'. Refute it at one input. -/
def rollCheapestWrong : ChangeSpec := { name := "rollCheapest", fn := fun _ => fun
  | [d1, d2, d3, d4] => { results := [.lit (.bool false)], args := [d1, d2, d3, d4] }
  | _ => none }
def RollCheapestWrongFalsely : Prop := rollCheapestRow.holds Tryz.pinned (OpenSpec.ofChange rollCheapestWrong)

/-- 'velariumlaw08.RollBest': WHATEVER THE INPUT: true; the input reads as it did. -/
def rollBestSpec : ChangeSpec := { name := "rollBest", fn := fun _ => fun
  | [d1, d2] => { results := [.lit (.bool true)], args := [d1, d2] }
  | _ => none }
def rollBestRow : OpenClaim := { program := "ytamcohjpanjdiaagreatdoor", sum := "f8b795766bd891d9429854249902b5ef38975c691f3aebd500aa5b499597fdf4", func := "velarium/velariumlaw08.RollBest", spec := "rollBest", inPlace := ["(*sync.WaitGroup).Add", "internal/race.ReleaseMerge", "internal/race.Disable", "internal/race.Enable", "internal/synctest.IsInBubble", "internal/synctest.Associate[sync.WaitGroup]", "sync.fatal", "sync/atomic.OrUint64", "sync/atomic.AddUint64", "internal/race.Read", "sync/atomic.LoadUint64", "sync/atomic.StoreUint64", "internal/synctest.Disassociate[sync.WaitGroup]", "sync.runtime_Semrelease", "(*sync.WaitGroup).Done", "(*internal/sync.Mutex).Lock", "sync/atomic.CompareAndSwapInt32", "internal/race.Acquire", "(*internal/sync.Mutex).lockSlow", "internal/sync.runtime_canSpin", "internal/sync.runtime_doSpin", "internal/sync.throw", "internal/sync.runtime_nanotime", "internal/sync.runtime_SemacquireMutex", "sync/atomic.AddInt32", "(*internal/sync.Mutex).Unlock", "(*internal/sync.Mutex).unlockSlow", "internal/sync.fatal", "internal/sync.runtime_Semrelease", "(*sync.WaitGroup).Wait", "internal/synctest.IsAssociated[sync.WaitGroup]", "sync/atomic.CompareAndSwapUint64", "internal/race.Write", "sync.runtime_SemacquireWaitGroup"], unfollowed := true, recurses := true, named := ["velarium/roll.checks"], plainKeys := false, leaving := true, apart := false, calm := true, outside := [.timePasses], laid := [("velarium/roll.checks", laid_velarium_roll_checks)] }
def RollBestSaid : Prop := rollBestRow.holds Tryz.pinned (OpenSpec.ofChange rollBestSpec)

/-- ITS FALSE NEIGHBOUR: 'it returns false'. Refute it at one input. -/
def rollBestWrong : ChangeSpec := { name := "rollBest", fn := fun _ => fun
  | [d1, d2] => { results := [.lit (.bool false)], args := [d1, d2] }
  | _ => none }
def RollBestWrongFalsely : Prop := rollBestRow.holds Tryz.pinned (OpenSpec.ofChange rollBestWrong)

/-- 'velariumlaw08.RollWidest': WHATEVER THE INPUT: true; the input reads as it did. -/
def rollWidestSpec : ChangeSpec := { name := "rollWidest", fn := fun _ => fun
  | [d1, d2] => { results := [.lit (.bool true)], args := [d1, d2] }
  | _ => none }
def rollWidestRow : OpenClaim := { program := "ytamcohjpanjdiaagreatdoor", sum := "f8b795766bd891d9429854249902b5ef38975c691f3aebd500aa5b499597fdf4", func := "velarium/velariumlaw08.RollWidest", spec := "rollWidest", inPlace := ["(*sync.WaitGroup).Add", "internal/race.ReleaseMerge", "internal/race.Disable", "internal/race.Enable", "internal/synctest.IsInBubble", "internal/synctest.Associate[sync.WaitGroup]", "sync.fatal", "sync/atomic.OrUint64", "sync/atomic.AddUint64", "internal/race.Read", "sync/atomic.LoadUint64", "sync/atomic.StoreUint64", "internal/synctest.Disassociate[sync.WaitGroup]", "sync.runtime_Semrelease", "(*sync.WaitGroup).Done", "(*internal/sync.Mutex).Lock", "sync/atomic.CompareAndSwapInt32", "internal/race.Acquire", "(*internal/sync.Mutex).lockSlow", "internal/sync.runtime_canSpin", "internal/sync.runtime_doSpin", "internal/sync.throw", "internal/sync.runtime_nanotime", "internal/sync.runtime_SemacquireMutex", "sync/atomic.AddInt32", "(*internal/sync.Mutex).Unlock", "(*internal/sync.Mutex).unlockSlow", "internal/sync.fatal", "internal/sync.runtime_Semrelease", "(*sync.WaitGroup).Wait", "internal/synctest.IsAssociated[sync.WaitGroup]", "sync/atomic.CompareAndSwapUint64", "internal/race.Write", "sync.runtime_SemacquireWaitGroup"], unfollowed := true, recurses := true, named := ["velarium/roll.checks"], plainKeys := false, leaving := true, apart := false, calm := true, outside := [.timePasses], laid := [("velarium/roll.checks", laid_velarium_roll_checks)] }
def RollWidestSaid : Prop := rollWidestRow.holds Tryz.pinned (OpenSpec.ofChange rollWidestSpec)

/-- ITS FALSE NEIGHBOUR: 'it returns false'. Refute it at one input. -/
def rollWidestWrong : ChangeSpec := { name := "rollWidest", fn := fun _ => fun
  | [d1, d2] => { results := [.lit (.bool false)], args := [d1, d2] }
  | _ => none }
def RollWidestWrongFalsely : Prop := rollWidestRow.holds Tryz.pinned (OpenSpec.ofChange rollWidestWrong)

/-- 'velariumlaw08.RollMore': WHATEVER THE INPUT: true; the input reads as it did. -/
def rollMoreSpec : ChangeSpec := { name := "rollMore", fn := fun _ => fun
  | [d1, d2, d3, d4, d5, d6, d7] => { results := [.lit (.bool true)], args := [d1, d2, d3, d4, d5, d6, d7] }
  | _ => none }
def rollMoreRow : OpenClaim := { program := "ytamcohjpanjdiaagreatdoor", sum := "f8b795766bd891d9429854249902b5ef38975c691f3aebd500aa5b499597fdf4", func := "velarium/velariumlaw08.RollMore", spec := "rollMore", inPlace := ["(*sync.WaitGroup).Add", "internal/race.ReleaseMerge", "internal/race.Disable", "internal/race.Enable", "internal/synctest.IsInBubble", "internal/synctest.Associate[sync.WaitGroup]", "sync.fatal", "sync/atomic.OrUint64", "sync/atomic.AddUint64", "internal/race.Read", "sync/atomic.LoadUint64", "sync/atomic.StoreUint64", "internal/synctest.Disassociate[sync.WaitGroup]", "sync.runtime_Semrelease", "(*sync.WaitGroup).Done", "(*internal/sync.Mutex).Lock", "sync/atomic.CompareAndSwapInt32", "internal/race.Acquire", "(*internal/sync.Mutex).lockSlow", "internal/sync.runtime_canSpin", "internal/sync.runtime_doSpin", "internal/sync.throw", "internal/sync.runtime_nanotime", "internal/sync.runtime_SemacquireMutex", "sync/atomic.AddInt32", "(*internal/sync.Mutex).Unlock", "(*internal/sync.Mutex).unlockSlow", "internal/sync.fatal", "internal/sync.runtime_Semrelease", "(*sync.WaitGroup).Wait", "internal/synctest.IsAssociated[sync.WaitGroup]", "sync/atomic.CompareAndSwapUint64", "internal/race.Write", "sync.runtime_SemacquireWaitGroup"], unfollowed := true, recurses := true, named := ["velarium/roll.checks"], plainKeys := false, leaving := true, apart := false, calm := true, outside := [.timePasses], laid := [("velarium/roll.checks", laid_velarium_roll_checks)] }
def RollMoreSaid : Prop := rollMoreRow.holds Tryz.pinned (OpenSpec.ofChange rollMoreSpec)

/-- ITS FALSE NEIGHBOUR: 'it returns false'. Refute it at one input. -/
def rollMoreWrong : ChangeSpec := { name := "rollMore", fn := fun _ => fun
  | [d1, d2, d3, d4, d5, d6, d7] => { results := [.lit (.bool false)], args := [d1, d2, d3, d4, d5, d6, d7] }
  | _ => none }
def RollMoreWrongFalsely : Prop := rollMoreRow.holds Tryz.pinned (OpenSpec.ofChange rollMoreWrong)

/-- 'velariumlaw08.RollStates': WHATEVER THE INPUT: true; the input reads as it did. -/
def rollStatesSpec : ChangeSpec := { name := "rollStates", fn := fun _ => fun
  | [d1, d2, d3, d4] => { results := [.lit (.bool true)], args := [d1, d2, d3, d4] }
  | _ => none }
def rollStatesRow : OpenClaim := { program := "ytamcohjpanjdiaagreatdoor", sum := "f8b795766bd891d9429854249902b5ef38975c691f3aebd500aa5b499597fdf4", func := "velarium/velariumlaw08.RollStates", spec := "rollStates", inPlace := ["(*sync.WaitGroup).Add", "internal/race.ReleaseMerge", "internal/race.Disable", "internal/race.Enable", "internal/synctest.IsInBubble", "internal/synctest.Associate[sync.WaitGroup]", "sync.fatal", "sync/atomic.OrUint64", "sync/atomic.AddUint64", "internal/race.Read", "sync/atomic.LoadUint64", "sync/atomic.StoreUint64", "internal/synctest.Disassociate[sync.WaitGroup]", "sync.runtime_Semrelease", "(*sync.WaitGroup).Done", "(*internal/sync.Mutex).Lock", "sync/atomic.CompareAndSwapInt32", "internal/race.Acquire", "(*internal/sync.Mutex).lockSlow", "internal/sync.runtime_canSpin", "internal/sync.runtime_doSpin", "internal/sync.throw", "internal/sync.runtime_nanotime", "internal/sync.runtime_SemacquireMutex", "sync/atomic.AddInt32", "(*internal/sync.Mutex).Unlock", "(*internal/sync.Mutex).unlockSlow", "internal/sync.fatal", "internal/sync.runtime_Semrelease", "(*sync.WaitGroup).Wait", "internal/synctest.IsAssociated[sync.WaitGroup]", "sync/atomic.CompareAndSwapUint64", "internal/race.Write", "sync.runtime_SemacquireWaitGroup"], unfollowed := true, recurses := true, named := ["velarium/roll.checks"], plainKeys := false, leaving := true, apart := false, calm := true, outside := [.timePasses], laid := [("velarium/roll.checks", laid_velarium_roll_checks)] }
def RollStatesSaid : Prop := rollStatesRow.holds Tryz.pinned (OpenSpec.ofChange rollStatesSpec)

/-- ITS FALSE NEIGHBOUR: 'it returns false'. Refute it at one input. -/
def rollStatesWrong : ChangeSpec := { name := "rollStates", fn := fun _ => fun
  | [d1, d2, d3, d4] => { results := [.lit (.bool false)], args := [d1, d2, d3, d4] }
  | _ => none }
def RollStatesWrongFalsely : Prop := rollStatesRow.holds Tryz.pinned (OpenSpec.ofChange rollStatesWrong)

/-- 'velariumlaw08.RollReal': WHATEVER THE INPUT: true; the input reads as it did. -/
def rollRealSpec : ChangeSpec := { name := "rollReal", fn := fun _ => fun
  | [d1, d2, d3, d4] => { results := [.lit (.bool true)], args := [d1, d2, d3, d4] }
  | _ => none }
def rollRealRow : OpenClaim := { program := "ytamcohjpanjdiaagreatdoor", sum := "f8b795766bd891d9429854249902b5ef38975c691f3aebd500aa5b499597fdf4", func := "velarium/velariumlaw08.RollReal", spec := "rollReal", inPlace := ["(*sync.WaitGroup).Add", "internal/race.ReleaseMerge", "internal/race.Disable", "internal/race.Enable", "internal/synctest.IsInBubble", "internal/synctest.Associate[sync.WaitGroup]", "sync.fatal", "sync/atomic.OrUint64", "sync/atomic.AddUint64", "internal/race.Read", "sync/atomic.LoadUint64", "sync/atomic.StoreUint64", "internal/synctest.Disassociate[sync.WaitGroup]", "sync.runtime_Semrelease", "(*sync.WaitGroup).Done", "(*internal/sync.Mutex).Lock", "sync/atomic.CompareAndSwapInt32", "internal/race.Acquire", "(*internal/sync.Mutex).lockSlow", "internal/sync.runtime_canSpin", "internal/sync.runtime_doSpin", "internal/sync.throw", "internal/sync.runtime_nanotime", "internal/sync.runtime_SemacquireMutex", "sync/atomic.AddInt32", "(*internal/sync.Mutex).Unlock", "(*internal/sync.Mutex).unlockSlow", "internal/sync.fatal", "internal/sync.runtime_Semrelease", "(*sync.WaitGroup).Wait", "internal/synctest.IsAssociated[sync.WaitGroup]", "sync/atomic.CompareAndSwapUint64", "internal/race.Write", "sync.runtime_SemacquireWaitGroup"], unfollowed := true, recurses := true, named := ["velarium/roll.checks"], plainKeys := false, leaving := true, apart := false, calm := true, outside := [.timePasses], laid := [("velarium/roll.checks", laid_velarium_roll_checks)] }
def RollRealSaid : Prop := rollRealRow.holds Tryz.pinned (OpenSpec.ofChange rollRealSpec)

/-- ITS FALSE NEIGHBOUR: 'it returns false'. Refute it at one input. -/
def rollRealWrong : ChangeSpec := { name := "rollReal", fn := fun _ => fun
  | [d1, d2, d3, d4] => { results := [.lit (.bool false)], args := [d1, d2, d3, d4] }
  | _ => none }
def RollRealWrongFalsely : Prop := rollRealRow.holds Tryz.pinned (OpenSpec.ofChange rollRealWrong)

end Rows
end Go.Proofs.YtamcohjpanjdiaaGreatDoor
