/-
  NARROWER THAN 'FOR EVERY INPUT', by the rows' own cells (each row's printed sentence says how): SeekerRolled: calm, laid.
  DERIVED. THE GIVEN ROWS OF THIS SEAT. 1 by the template 'for every input the law returns true; each argument reads behind the call as it read before'; 0 by the template 'total and deterministic' (their statements: YtclnbamaepgfiaaGreatDoorTotals.lean).
  GIVEN WITH THE SEED: the statements are not yours to turn. If you find one false, say at which input.
  Laid BY PROGRAM, IN A SANDBOX (cutbox-rows.mjs): the forced cells as the released guide's own fill.sh prints them over the translation 1c579e6545260e19… (all of the seat's roots in one cut). By AI agents, Wed Nov 11 2026. No macro, syntax, notation, axiom, sorry.
-/
import Derived.Test.YtclnbamaepgfiaaGreatDoorChecked
import GoSem.Claim
import GoSem.ClaimJoined
import GoSem.ClaimMapViews
import Derived.JoinedTies
import Derived.KernelRfl
namespace Go.Proofs.YtclnbamaepgfiaaGreatDoor
/- THE CELL 'sum', in the pinned program and in every row, IS THE sha256 OF THE DUMP (.gsa) THAT YtclnbamaepgfiaaGreatDoorProg.lean LOADS. Nothing in Lean hashes anything: it is a label: what it is worth is what the hold of that sum in a sandbox is worth. -/
noncomputable def Tryz.pinned : Pinned := { name := "ytclnbamaepgfiaagreatdoor", sum := "1c579e6545260e19c13efa3a0283c14a69297ca8f0aa199ce5a01a9994fdd76f", checked := Tryz.checked }
namespace Rows
def none {H : Type} : Left H := { results := [], args := [] }

/- WHAT THE LISTED PACKAGE-LEVEL VARIABLES READ AS WHEN THE CALL BEGINS. Each datum BY PROGRAM (the guide's laid-datum.mjs) off the statement by which the dump's own 'gosem.cut.vars' lays the variable. In a bare row this is a premise. The card (YtclnbamaepgfiaaGreatDoorCards.lean) ties it to the program's text. -/
def laid_velarium_roll_checks {H : Type} : DataW H := .iface "func table" (.agg [.iface "func" (.lit (.string [40, 118, 101, 108, 97, 114, 105, 117, 109, 47, 114, 111, 108, 108, 46, 98, 111, 111, 107, 41, 46, 114, 111, 117, 110, 100, 115])), .iface "func" (.lit (.string [40, 118, 101, 108, 97, 114, 105, 117, 109, 47, 114, 111, 108, 108, 46, 98, 111, 111, 107, 41, 46, 115, 101, 97, 109, 115])), .iface "func" (.lit (.string [40, 118, 101, 108, 97, 114, 105, 117, 109, 47, 114, 111, 108, 108, 46, 98, 111, 111, 107, 41, 46, 99, 108, 111, 116, 104, 115])), .iface "func" (.lit (.string [40, 118, 101, 108, 97, 114, 105, 117, 109, 47, 114, 111, 108, 108, 46, 98, 111, 111, 107, 41, 46, 109, 101, 97, 115, 117, 114, 101, 115]))])
def laid_velarium_seeker_checks {H : Type} : DataW H := .iface "func table" (.agg [.iface "func" (.lit (.string [40, 118, 101, 108, 97, 114, 105, 117, 109, 47, 115, 101, 101, 107, 101, 114, 46, 114, 111, 117, 110, 100, 41, 46, 110, 117, 109, 98, 101, 114, 115])), .iface "func" (.lit (.string [40, 118, 101, 108, 97, 114, 105, 117, 109, 47, 115, 101, 101, 107, 101, 114, 46, 114, 111, 117, 110, 100, 41, 46, 104, 101, 97, 114, 100])), .iface "func" (.lit (.string [40, 118, 101, 108, 97, 114, 105, 117, 109, 47, 115, 101, 101, 107, 101, 114, 46, 114, 111, 117, 110, 100, 41, 46, 108, 111, 111, 107, 101, 100]))])
def laid_velarium_seeker_says {H : Type} : DataW H := .iface "func table" (.agg [.iface "func" (.lit (.string [40, 118, 101, 108, 97, 114, 105, 117, 109, 47, 115, 101, 101, 107, 101, 114, 46, 99, 111, 117, 110, 116, 41, 46, 115, 111, 109, 101])), .iface "func" (.lit (.string [40, 118, 101, 108, 97, 114, 105, 117, 109, 47, 115, 101, 101, 107, 101, 114, 46, 99, 111, 117, 110, 116, 41, 46, 110, 111, 110, 101])), .iface "func" (.lit (.string [40, 118, 101, 108, 97, 114, 105, 117, 109, 47, 115, 101, 101, 107, 101, 114, 46, 99, 111, 117, 110, 116, 41, 46, 111, 110, 101]))])

/-- 'velariumlaw09.SeekerRolled': WHATEVER THE INPUT: true; the input reads as it did. -/
def seekerRolledSpec : ChangeSpec := { name := "seekerRolled", fn := fun _ => fun
  | [d1, d2, d3, d4, d5, d6, d7] => { results := [.lit (.bool true)], args := [d1, d2, d3, d4, d5, d6, d7] }
  | _ => none }
def seekerRolledRow : OpenClaim := { program := "ytclnbamaepgfiaagreatdoor", sum := "1c579e6545260e19c13efa3a0283c14a69297ca8f0aa199ce5a01a9994fdd76f", func := "velarium/velariumlaw09.SeekerRolled", spec := "seekerRolled", inPlace := ["(*sync.WaitGroup).Add", "internal/race.ReleaseMerge", "internal/race.Disable", "internal/race.Enable", "internal/synctest.IsInBubble", "internal/synctest.Associate[sync.WaitGroup]", "sync.fatal", "sync/atomic.OrUint64", "sync/atomic.AddUint64", "internal/race.Read", "sync/atomic.LoadUint64", "sync/atomic.StoreUint64", "internal/synctest.Disassociate[sync.WaitGroup]", "sync.runtime_Semrelease", "(*sync.WaitGroup).Done", "(*internal/sync.Mutex).Lock", "sync/atomic.CompareAndSwapInt32", "internal/race.Acquire", "(*internal/sync.Mutex).lockSlow", "internal/sync.runtime_canSpin", "internal/sync.runtime_doSpin", "internal/sync.throw", "internal/sync.runtime_nanotime", "internal/sync.runtime_SemacquireMutex", "sync/atomic.AddInt32", "(*internal/sync.Mutex).Unlock", "(*internal/sync.Mutex).unlockSlow", "internal/sync.fatal", "internal/sync.runtime_Semrelease", "(*sync.WaitGroup).Wait", "internal/synctest.IsAssociated[sync.WaitGroup]", "sync/atomic.CompareAndSwapUint64", "internal/race.Write", "sync.runtime_SemacquireWaitGroup"], unfollowed := true, recurses := true, named := ["velarium/seeker.checks", "velarium/seeker.says", "velarium/roll.checks"], leaving := true, apart := false, calm := true, outside := [.timePasses], laid := [("velarium/roll.checks", laid_velarium_roll_checks), ("velarium/seeker.checks", laid_velarium_seeker_checks), ("velarium/seeker.says", laid_velarium_seeker_says)] }
def SeekerRolledSaid : Prop := seekerRolledRow.holds Tryz.pinned (OpenSpec.ofChange seekerRolledSpec)

/-- ITS FALSE NEIGHBOUR: 'it returns false'. Refute it at one input. -/
def seekerRolledWrong : ChangeSpec := { name := "seekerRolled", fn := fun _ => fun
  | [d1, d2, d3, d4, d5, d6, d7] => { results := [.lit (.bool false)], args := [d1, d2, d3, d4, d5, d6, d7] }
  | _ => none }
def SeekerRolledWrongFalsely : Prop := seekerRolledRow.holds Tryz.pinned (OpenSpec.ofChange seekerRolledWrong)

end Rows
end Go.Proofs.YtclnbamaepgfiaaGreatDoor
