/-
  NARROWER THAN 'FOR EVERY INPUT', by the rows' own cells (each row's printed sentence says how): SeekerCrowd: laid · SeekerTurning: laid · SeekerLit: laid.
  DERIVED. THE GIVEN ROWS OF THIS SEAT. 3 by the template 'for every input the law returns true; each argument reads behind the call as it read before'; 0 by the template 'total and deterministic' (their statements: YtcddfkgckelhiaaGreatDoorTotals.lean).
  GIVEN WITH THE SEED: the statements are not yours to turn. If you find one false, say at which input.
  Laid BY PROGRAM, IN A SANDBOX (cutbox-rows.mjs): the forced cells as the released guide's own fill.sh prints them over the translation 6f096caf7146903b… (all of the seat's roots in one cut). By AI agents, Wed Nov 11 2026. No macro, syntax, notation, axiom, sorry.
-/
import Derived.Test.YtcddfkgckelhiaaGreatDoorChecked
import GoSem.Claim
import GoSem.ClaimJoined
import GoSem.ClaimMapViews
import Derived.JoinedTies
import Derived.KernelRfl
namespace Go.Proofs.YtcddfkgckelhiaaGreatDoor
/- THE CELL 'sum', in the pinned program and in every row, IS THE sha256 OF THE DUMP (.gsa) THAT YtcddfkgckelhiaaGreatDoorProg.lean LOADS. Nothing in Lean hashes anything: it is a label: what it is worth is what the hold of that sum in a sandbox is worth. -/
noncomputable def Tryz.pinned : Pinned := { name := "ytcddfkgckelhiaagreatdoor", sum := "6f096caf7146903bff3b5fe367aeb2dc68d8cc6f58c303caaa22e5ceba173f89", checked := Tryz.checked }
namespace Rows
def none {H : Type} : Left H := { results := [], args := [] }

/- WHAT THE LISTED PACKAGE-LEVEL VARIABLES READ AS WHEN THE CALL BEGINS. Each datum BY PROGRAM (the guide's laid-datum.mjs) off the statement by which the dump's own 'gosem.cut.vars' lays the variable. In a bare row this is a premise. The card (YtcddfkgckelhiaaGreatDoorCards.lean) ties it to the program's text. -/
def laid_velarium_seeker_checks {H : Type} : DataW H := .iface "func table" (.agg [.iface "func" (.lit (.string [40, 118, 101, 108, 97, 114, 105, 117, 109, 47, 115, 101, 101, 107, 101, 114, 46, 114, 111, 117, 110, 100, 41, 46, 110, 117, 109, 98, 101, 114, 115])), .iface "func" (.lit (.string [40, 118, 101, 108, 97, 114, 105, 117, 109, 47, 115, 101, 101, 107, 101, 114, 46, 114, 111, 117, 110, 100, 41, 46, 104, 101, 97, 114, 100])), .iface "func" (.lit (.string [40, 118, 101, 108, 97, 114, 105, 117, 109, 47, 115, 101, 101, 107, 101, 114, 46, 114, 111, 117, 110, 100, 41, 46, 108, 111, 111, 107, 101, 100]))])
def laid_velarium_seeker_says {H : Type} : DataW H := .iface "func table" (.agg [.iface "func" (.lit (.string [40, 118, 101, 108, 97, 114, 105, 117, 109, 47, 115, 101, 101, 107, 101, 114, 46, 99, 111, 117, 110, 116, 41, 46, 115, 111, 109, 101])), .iface "func" (.lit (.string [40, 118, 101, 108, 97, 114, 105, 117, 109, 47, 115, 101, 101, 107, 101, 114, 46, 99, 111, 117, 110, 116, 41, 46, 110, 111, 110, 101])), .iface "func" (.lit (.string [40, 118, 101, 108, 97, 114, 105, 117, 109, 47, 115, 101, 101, 107, 101, 114, 46, 99, 111, 117, 110, 116, 41, 46, 111, 110, 101]))])
def laid_velarium_stair_checks {H : Type} : DataW H := .iface "func table" (.agg [.agg [.iface "func" (.lit (.string [118, 101, 108, 97, 114, 105, 117, 109, 47, 115, 116, 97, 105, 114, 46, 99, 104, 101, 99, 107, 115, 36, 49]))], .agg [.iface "func" (.lit (.string [118, 101, 108, 97, 114, 105, 117, 109, 47, 115, 116, 97, 105, 114, 46, 99, 104, 101, 99, 107, 115, 36, 50]))], .agg [.iface "func" (.lit (.string [118, 101, 108, 97, 114, 105, 117, 109, 47, 115, 116, 97, 105, 114, 46, 99, 104, 101, 99, 107, 115, 36, 51]))]])
def laid_velarium_stair_allows {H : Type} : DataW H := .iface "func table" (.agg [.iface "func" (.lit (.string [40, 118, 101, 108, 97, 114, 105, 117, 109, 47, 115, 116, 97, 105, 114, 46, 98, 111, 111, 107, 41, 46, 117, 112])), .iface "func" (.lit (.string [40, 118, 101, 108, 97, 114, 105, 117, 109, 47, 115, 116, 97, 105, 114, 46, 98, 111, 111, 107, 41, 46, 97, 114, 114, 105, 118, 101])), .iface "func" (.lit (.string [40, 118, 101, 108, 97, 114, 105, 117, 109, 47, 115, 116, 97, 105, 114, 46, 98, 111, 111, 107, 41, 46, 100, 111, 119, 110])), .iface "func" (.lit (.string [40, 118, 101, 108, 97, 114, 105, 117, 109, 47, 115, 116, 97, 105, 114, 46, 98, 111, 111, 107, 41, 46, 108, 101, 97, 118, 101]))])
def laid_velarium_stair_fog {H : Type} : DataW H := .agg [.lit (.int .i64 (-1)), .lit (.int .i64 0)]
def laid_velarium_strip_checks {H : Type} : DataW H := .iface "func table" (.agg [.iface "func" (.lit (.string [40, 118, 101, 108, 97, 114, 105, 117, 109, 47, 115, 116, 114, 105, 112, 46, 114, 111, 117, 110, 100, 41, 46, 110, 117, 109, 98, 101, 114, 115])), .iface "func" (.lit (.string [40, 118, 101, 108, 97, 114, 105, 117, 109, 47, 115, 116, 114, 105, 112, 46, 114, 111, 117, 110, 100, 41, 46, 100, 114, 97, 119, 110])), .iface "func" (.lit (.string [40, 118, 101, 108, 97, 114, 105, 117, 109, 47, 115, 116, 114, 105, 112, 46, 114, 111, 117, 110, 100, 41, 46, 119, 97, 121, 115]))])
def laid_velarium_sail_checks {H : Type} : DataW H := .iface "func table" (.agg [.iface "func" (.lit (.string [40, 118, 101, 108, 97, 114, 105, 117, 109, 47, 115, 97, 105, 108, 46, 104, 97, 108, 108, 41, 46, 103, 108, 97, 115, 115])), .iface "func" (.lit (.string [40, 118, 101, 108, 97, 114, 105, 117, 109, 47, 115, 97, 105, 108, 46, 104, 97, 108, 108, 41, 46, 99, 108, 111, 116, 104, 115])), .iface "func" (.lit (.string [40, 118, 101, 108, 97, 114, 105, 117, 109, 47, 115, 97, 105, 108, 46, 104, 97, 108, 108, 41, 46, 115, 117, 110, 115])), .iface "func" (.lit (.string [40, 118, 101, 108, 97, 114, 105, 117, 109, 47, 115, 97, 105, 108, 46, 104, 97, 108, 108, 41, 46, 101, 121, 101, 115])), .iface "func" (.lit (.string [40, 118, 101, 108, 97, 114, 105, 117, 109, 47, 115, 97, 105, 108, 46, 104, 97, 108, 108, 41, 46, 119, 97, 116, 99, 104, 101, 115]))])

/-- 'velariumlaw09.SeekerCrowd': WHATEVER THE INPUT: true; the input reads as it did. -/
def seekerCrowdSpec : ChangeSpec := { name := "seekerCrowd", fn := fun _ => fun
  | [d1, d2, d3, d4, d5, d6] => { results := [.lit (.bool true)], args := [d1, d2, d3, d4, d5, d6] }
  | _ => none }
def seekerCrowdRow : OpenClaim := { program := "ytcddfkgckelhiaagreatdoor", sum := "6f096caf7146903bff3b5fe367aeb2dc68d8cc6f58c303caaa22e5ceba173f89", func := "velarium/velariumlaw09.SeekerCrowd", spec := "seekerCrowd", unfollowed := true, recurses := true, named := ["velarium/seeker.checks", "velarium/seeker.says", "velarium/stair.checks", "velarium/stair.fog", "velarium/stair.allows"], plainKeys := false, leaving := true, apart := false, laid := [("velarium/seeker.checks", laid_velarium_seeker_checks), ("velarium/seeker.says", laid_velarium_seeker_says), ("velarium/stair.checks", laid_velarium_stair_checks), ("velarium/stair.allows", laid_velarium_stair_allows), ("velarium/stair.fog", laid_velarium_stair_fog)] }
def SeekerCrowdSaid : Prop := seekerCrowdRow.holds Tryz.pinned (OpenSpec.ofChange seekerCrowdSpec)

/-- ITS FALSE NEIGHBOUR: 'it returns false'. Refute it at one input. -/
def seekerCrowdWrong : ChangeSpec := { name := "seekerCrowd", fn := fun _ => fun
  | [d1, d2, d3, d4, d5, d6] => { results := [.lit (.bool false)], args := [d1, d2, d3, d4, d5, d6] }
  | _ => none }
def SeekerCrowdWrongFalsely : Prop := seekerCrowdRow.holds Tryz.pinned (OpenSpec.ofChange seekerCrowdWrong)

/-- 'velariumlaw09.SeekerTurning': WHATEVER THE INPUT: true; the input reads as it did. -/
def seekerTurningSpec : ChangeSpec := { name := "seekerTurning", fn := fun _ => fun
  | [d1, d2, d3, d4, d5, d6, d7, d8] => { results := [.lit (.bool true)], args := [d1, d2, d3, d4, d5, d6, d7, d8] }
  | _ => none }
def seekerTurningRow : OpenClaim := { program := "ytcddfkgckelhiaagreatdoor", sum := "6f096caf7146903bff3b5fe367aeb2dc68d8cc6f58c303caaa22e5ceba173f89", func := "velarium/velariumlaw09.SeekerTurning", spec := "seekerTurning", unfollowed := true, recurses := true, named := ["velarium/seeker.checks", "velarium/seeker.says", "velarium/strip.checks"], plainKeys := false, leaving := true, apart := false, laid := [("velarium/seeker.checks", laid_velarium_seeker_checks), ("velarium/seeker.says", laid_velarium_seeker_says), ("velarium/strip.checks", laid_velarium_strip_checks)] }
def SeekerTurningSaid : Prop := seekerTurningRow.holds Tryz.pinned (OpenSpec.ofChange seekerTurningSpec)

/-- ITS FALSE NEIGHBOUR: 'it returns false'. Refute it at one input. -/
def seekerTurningWrong : ChangeSpec := { name := "seekerTurning", fn := fun _ => fun
  | [d1, d2, d3, d4, d5, d6, d7, d8] => { results := [.lit (.bool false)], args := [d1, d2, d3, d4, d5, d6, d7, d8] }
  | _ => none }
def SeekerTurningWrongFalsely : Prop := seekerTurningRow.holds Tryz.pinned (OpenSpec.ofChange seekerTurningWrong)

/-- 'velariumlaw09.SeekerLit': WHATEVER THE INPUT: true; the input reads as it did. -/
def seekerLitSpec : ChangeSpec := { name := "seekerLit", fn := fun _ => fun
  | [d1, d2, d3, d4, d5, d6, d7] => { results := [.lit (.bool true)], args := [d1, d2, d3, d4, d5, d6, d7] }
  | _ => none }
def seekerLitRow : OpenClaim := { program := "ytcddfkgckelhiaagreatdoor", sum := "6f096caf7146903bff3b5fe367aeb2dc68d8cc6f58c303caaa22e5ceba173f89", func := "velarium/velariumlaw09.SeekerLit", spec := "seekerLit", unfollowed := true, recurses := true, named := ["velarium/seeker.checks", "velarium/seeker.says", "velarium/sail.checks"], plainKeys := false, leaving := true, apart := false, laid := [("velarium/sail.checks", laid_velarium_sail_checks), ("velarium/seeker.checks", laid_velarium_seeker_checks), ("velarium/seeker.says", laid_velarium_seeker_says)] }
def SeekerLitSaid : Prop := seekerLitRow.holds Tryz.pinned (OpenSpec.ofChange seekerLitSpec)

/-- ITS FALSE NEIGHBOUR: 'it returns false'. Refute it at one input. -/
def seekerLitWrong : ChangeSpec := { name := "seekerLit", fn := fun _ => fun
  | [d1, d2, d3, d4, d5, d6, d7] => { results := [.lit (.bool false)], args := [d1, d2, d3, d4, d5, d6, d7] }
  | _ => none }
def SeekerLitWrongFalsely : Prop := seekerLitRow.holds Tryz.pinned (OpenSpec.ofChange seekerLitWrong)

/- THE SECOND FORM. 'bulk': how many values and letters a reading holds, each counted each time it is reached (what is shared counts as often as it is met; a slice's spare places count too). A statement '..UptoSaid' is the law's where the arguments, and the package variables that the reading takes, are together of bulk at most 1048576: NARROWER than '..Said'. Prove '..Said' where nothing that the law and all that it calls make is longer than what came in: it says more and counts as full. Else prove '..UptoSaid'. A law counts once. -/
mutual
def uptoBulk {H : Type} : DataW H → Nat
  | .lit (.string bytes) => bytes.length + 1
  | .lit _ => 1
  | .nil => 1
  | .ptr d => uptoBulk d + 1
  | .slice elems spare => uptoBulkAll elems + uptoBulkAll spare + 1
  | .agg parts => uptoBulkAll parts + 1
  | .iface _ d => uptoBulk d + 1
  | .map entries => uptoBulkEntries entries + 1
  | .held _ => 1
def uptoBulkAll {H : Type} : List (DataW H) → Nat
  | [] => 0
  | d :: r => uptoBulk d + uptoBulkAll r
def uptoBulkEntries {H : Type} : List (Lit × DataW H) → Nat
  | [] => 0
  | x :: r => uptoBulkEntry x + uptoBulkEntries r
def uptoBulkEntry {H : Type} : Lit × DataW H → Nat
  | (.string bytes, d) => bytes.length + uptoBulk d + 1
  | (_, d) => uptoBulk d + 1
 end
def uptoSmall : (H : Type) → List (DataW H) → Bool := fun _ ds => decide (uptoBulkAll ds ≤ 1048576)
def OpenSpec.upto (s : _root_.Go.ChangeSpec) : _root_.Go.OpenSpec := { _root_.Go.OpenSpec.ofChange s with cond := some uptoSmall }

/-- 'velariumlaw09.SeekerCrowd', WHERE WHAT IT READS IS OF BULK AT MOST 1048576: true; the input reads as it did. -/
def seekerCrowdUptoRow : OpenClaim := { program := "ytcddfkgckelhiaagreatdoor", sum := "6f096caf7146903bff3b5fe367aeb2dc68d8cc6f58c303caaa22e5ceba173f89", func := "velarium/velariumlaw09.SeekerCrowd", spec := "seekerCrowd", unfollowed := true, recurses := true, named := ["velarium/seeker.checks", "velarium/seeker.says", "velarium/stair.checks", "velarium/stair.fog", "velarium/stair.allows"], plainKeys := false, leaving := true, apart := false, laid := [("velarium/seeker.checks", laid_velarium_seeker_checks), ("velarium/seeker.says", laid_velarium_seeker_says), ("velarium/stair.checks", laid_velarium_stair_checks), ("velarium/stair.allows", laid_velarium_stair_allows), ("velarium/stair.fog", laid_velarium_stair_fog)], narrowed := true }
def SeekerCrowdUptoSaid : Prop := seekerCrowdUptoRow.holds Tryz.pinned (OpenSpec.upto seekerCrowdSpec)

/-- 'velariumlaw09.SeekerTurning', WHERE WHAT IT READS IS OF BULK AT MOST 1048576: true; the input reads as it did. -/
def seekerTurningUptoRow : OpenClaim := { program := "ytcddfkgckelhiaagreatdoor", sum := "6f096caf7146903bff3b5fe367aeb2dc68d8cc6f58c303caaa22e5ceba173f89", func := "velarium/velariumlaw09.SeekerTurning", spec := "seekerTurning", unfollowed := true, recurses := true, named := ["velarium/seeker.checks", "velarium/seeker.says", "velarium/strip.checks"], plainKeys := false, leaving := true, apart := false, laid := [("velarium/seeker.checks", laid_velarium_seeker_checks), ("velarium/seeker.says", laid_velarium_seeker_says), ("velarium/strip.checks", laid_velarium_strip_checks)], narrowed := true }
def SeekerTurningUptoSaid : Prop := seekerTurningUptoRow.holds Tryz.pinned (OpenSpec.upto seekerTurningSpec)

/-- 'velariumlaw09.SeekerLit', WHERE WHAT IT READS IS OF BULK AT MOST 1048576: true; the input reads as it did. -/
def seekerLitUptoRow : OpenClaim := { program := "ytcddfkgckelhiaagreatdoor", sum := "6f096caf7146903bff3b5fe367aeb2dc68d8cc6f58c303caaa22e5ceba173f89", func := "velarium/velariumlaw09.SeekerLit", spec := "seekerLit", unfollowed := true, recurses := true, named := ["velarium/seeker.checks", "velarium/seeker.says", "velarium/sail.checks"], plainKeys := false, leaving := true, apart := false, laid := [("velarium/sail.checks", laid_velarium_sail_checks), ("velarium/seeker.checks", laid_velarium_seeker_checks), ("velarium/seeker.says", laid_velarium_seeker_says)], narrowed := true }
def SeekerLitUptoSaid : Prop := seekerLitUptoRow.holds Tryz.pinned (OpenSpec.upto seekerLitSpec)

end Rows
end Go.Proofs.YtcddfkgckelhiaaGreatDoor
