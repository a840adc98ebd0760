/-
  NARROWER THAN 'FOR EVERY INPUT', by the rows' own cells (each row's printed sentence says how): SeekerArcs: laid · SeekerAnyOrder: laid.
  DERIVED. THE GIVEN ROWS OF THIS SEAT. 2 by the template 'for every input the law returns true; each argument reads behind the call as it read before'; 0 by the template 'total and deterministic' (their statements: YtpdioiojfgknbaaDoorTotals.lean).
  GIVEN WITH THE SEED: the statements are not yours to turn. If you find one false, say at which input.
  Laid BY PROGRAM, IN A SANDBOX (cutbox-rows.mjs): the forced cells as the released guide's own fill.sh prints them over the translation 76173ca52e75302d… (all of the seat's roots in one cut). By AI agents, Wed Nov 11 2026. No macro, syntax, notation, axiom, sorry.
-/
import Derived.Test.YtpdioiojfgknbaaDoorChecked
import GoSem.Claim
import GoSem.ClaimJoined
import GoSem.ClaimMapViews
import Derived.JoinedTies
import Derived.KernelRfl
namespace Go.Proofs.YtpdioiojfgknbaaDoor
/- THE CELL 'sum', in the pinned program and in every row, IS THE sha256 OF THE DUMP (.gsa) THAT YtpdioiojfgknbaaDoorProg.lean LOADS. Nothing in Lean hashes anything: it is a label: what it is worth is what the hold of that sum in a sandbox is worth. -/
noncomputable def Tryd.pinned : Pinned := { name := "ytpdioiojfgknbaadoor", sum := "76173ca52e75302db09bd3bab0628b2d6b8ce6fdf4b5c1203412c41adc0837b3", checked := Tryd.checked }
namespace Rows
def none {H : Type} : Left H := { results := [], args := [] }

/- WHAT THE LISTED PACKAGE-LEVEL VARIABLES READ AS WHEN THE CALL BEGINS. Each datum BY PROGRAM (the guide's laid-datum.mjs) off the statement by which the dump's own 'gosem.cut.vars' lays the variable. In a bare row this is a premise. The card (YtpdioiojfgknbaaDoorCards.lean) ties it to the program's text. -/
def laid_velarium_seeker_checks {H : Type} : DataW H := .iface "func table" (.agg [.iface "func" (.lit (.string [40, 118, 101, 108, 97, 114, 105, 117, 109, 47, 115, 101, 101, 107, 101, 114, 46, 114, 111, 117, 110, 100, 41, 46, 110, 117, 109, 98, 101, 114, 115])), .iface "func" (.lit (.string [40, 118, 101, 108, 97, 114, 105, 117, 109, 47, 115, 101, 101, 107, 101, 114, 46, 114, 111, 117, 110, 100, 41, 46, 104, 101, 97, 114, 100])), .iface "func" (.lit (.string [40, 118, 101, 108, 97, 114, 105, 117, 109, 47, 115, 101, 101, 107, 101, 114, 46, 114, 111, 117, 110, 100, 41, 46, 108, 111, 111, 107, 101, 100]))])
def laid_velarium_seeker_says {H : Type} : DataW H := .iface "func table" (.agg [.iface "func" (.lit (.string [40, 118, 101, 108, 97, 114, 105, 117, 109, 47, 115, 101, 101, 107, 101, 114, 46, 99, 111, 117, 110, 116, 41, 46, 115, 111, 109, 101])), .iface "func" (.lit (.string [40, 118, 101, 108, 97, 114, 105, 117, 109, 47, 115, 101, 101, 107, 101, 114, 46, 99, 111, 117, 110, 116, 41, 46, 110, 111, 110, 101])), .iface "func" (.lit (.string [40, 118, 101, 108, 97, 114, 105, 117, 109, 47, 115, 101, 101, 107, 101, 114, 46, 99, 111, 117, 110, 116, 41, 46, 111, 110, 101]))])

/-- 'velariumlaw09.SeekerArcs': WHATEVER THE INPUT: true; the input reads as it did. -/
def seekerArcsSpec : ChangeSpec := { name := "seekerArcs", fn := fun _ => fun
  | [d1, d2, d3] => { results := [.lit (.bool true)], args := [d1, d2, d3] }
  | _ => none }
def seekerArcsRow : OpenClaim := { program := "ytpdioiojfgknbaadoor", sum := "76173ca52e75302db09bd3bab0628b2d6b8ce6fdf4b5c1203412c41adc0837b3", func := "velarium/velariumlaw09.SeekerArcs", spec := "seekerArcs", unfollowed := true, recurses := true, named := ["velarium/seeker.checks", "velarium/seeker.says"], leaving := true, apart := false, laid := [("velarium/seeker.checks", laid_velarium_seeker_checks), ("velarium/seeker.says", laid_velarium_seeker_says)] }
def SeekerArcsSaid : Prop := seekerArcsRow.holds Tryd.pinned (OpenSpec.ofChange seekerArcsSpec)

/-- ITS FALSE NEIGHBOUR: 'it returns false'. Refute it at one input. -/
def seekerArcsWrong : ChangeSpec := { name := "seekerArcs", fn := fun _ => fun
  | [d1, d2, d3] => { results := [.lit (.bool false)], args := [d1, d2, d3] }
  | _ => none }
def SeekerArcsWrongFalsely : Prop := seekerArcsRow.holds Tryd.pinned (OpenSpec.ofChange seekerArcsWrong)

/-- 'velariumlaw09.SeekerAnyOrder': WHATEVER THE INPUT: true; the input reads as it did. -/
def seekerAnyOrderSpec : ChangeSpec := { name := "seekerAnyOrder", fn := fun _ => fun
  | [d1, d2, d3] => { results := [.lit (.bool true)], args := [d1, d2, d3] }
  | _ => none }
def seekerAnyOrderRow : OpenClaim := { program := "ytpdioiojfgknbaadoor", sum := "76173ca52e75302db09bd3bab0628b2d6b8ce6fdf4b5c1203412c41adc0837b3", func := "velarium/velariumlaw09.SeekerAnyOrder", spec := "seekerAnyOrder", unfollowed := true, recurses := true, named := ["velarium/seeker.checks", "velarium/seeker.says"], leaving := true, apart := false, laid := [("velarium/seeker.checks", laid_velarium_seeker_checks), ("velarium/seeker.says", laid_velarium_seeker_says)] }
def SeekerAnyOrderSaid : Prop := seekerAnyOrderRow.holds Tryd.pinned (OpenSpec.ofChange seekerAnyOrderSpec)

/-- ITS FALSE NEIGHBOUR: 'it returns false'. Refute it at one input. -/
def seekerAnyOrderWrong : ChangeSpec := { name := "seekerAnyOrder", fn := fun _ => fun
  | [d1, d2, d3] => { results := [.lit (.bool false)], args := [d1, d2, d3] }
  | _ => none }
def SeekerAnyOrderWrongFalsely : Prop := seekerAnyOrderRow.holds Tryd.pinned (OpenSpec.ofChange seekerAnyOrderWrong)

/- THE SECOND FORM. 'bulk': how many values and letters a reading holds, each counted each time it is reached (what is shared counts as often as it is met; a slice's spare places count too). A statement '..UptoSaid' is the law's where the arguments, and the package variables that the reading takes, are together of bulk at most 1048576: NARROWER than '..Said'. Prove '..Said' where nothing that the law and all that it calls make is longer than what came in: it says more and counts as full. Else prove '..UptoSaid'. A law counts once. -/
mutual
def uptoBulk {H : Type} : DataW H → Nat
  | .lit (.string bytes) => bytes.length + 1
  | .lit _ => 1
  | .nil => 1
  | .ptr d => uptoBulk d + 1
  | .slice elems spare => uptoBulkAll elems + uptoBulkAll spare + 1
  | .agg parts => uptoBulkAll parts + 1
  | .iface _ d => uptoBulk d + 1
  | .map entries => uptoBulkEntries entries + 1
  | .held _ => 1
def uptoBulkAll {H : Type} : List (DataW H) → Nat
  | [] => 0
  | d :: r => uptoBulk d + uptoBulkAll r
def uptoBulkEntries {H : Type} : List (Lit × DataW H) → Nat
  | [] => 0
  | x :: r => uptoBulkEntry x + uptoBulkEntries r
def uptoBulkEntry {H : Type} : Lit × DataW H → Nat
  | (.string bytes, d) => bytes.length + uptoBulk d + 1
  | (_, d) => uptoBulk d + 1
 end
def uptoSmall : (H : Type) → List (DataW H) → Bool := fun _ ds => decide (uptoBulkAll ds ≤ 1048576)
def OpenSpec.upto (s : _root_.Go.ChangeSpec) : _root_.Go.OpenSpec := { _root_.Go.OpenSpec.ofChange s with cond := some uptoSmall }

/-- 'velariumlaw09.SeekerArcs', WHERE WHAT IT READS IS OF BULK AT MOST 1048576: true; the input reads as it did. -/
def seekerArcsUptoRow : OpenClaim := { program := "ytpdioiojfgknbaadoor", sum := "76173ca52e75302db09bd3bab0628b2d6b8ce6fdf4b5c1203412c41adc0837b3", func := "velarium/velariumlaw09.SeekerArcs", spec := "seekerArcs", unfollowed := true, recurses := true, named := ["velarium/seeker.checks", "velarium/seeker.says"], leaving := true, apart := false, laid := [("velarium/seeker.checks", laid_velarium_seeker_checks), ("velarium/seeker.says", laid_velarium_seeker_says)], narrowed := true }
def SeekerArcsUptoSaid : Prop := seekerArcsUptoRow.holds Tryd.pinned (OpenSpec.upto seekerArcsSpec)

/-- 'velariumlaw09.SeekerAnyOrder', WHERE WHAT IT READS IS OF BULK AT MOST 1048576: true; the input reads as it did. -/
def seekerAnyOrderUptoRow : OpenClaim := { program := "ytpdioiojfgknbaadoor", sum := "76173ca52e75302db09bd3bab0628b2d6b8ce6fdf4b5c1203412c41adc0837b3", func := "velarium/velariumlaw09.SeekerAnyOrder", spec := "seekerAnyOrder", unfollowed := true, recurses := true, named := ["velarium/seeker.checks", "velarium/seeker.says"], leaving := true, apart := false, laid := [("velarium/seeker.checks", laid_velarium_seeker_checks), ("velarium/seeker.says", laid_velarium_seeker_says)], narrowed := true }
def SeekerAnyOrderUptoSaid : Prop := seekerAnyOrderUptoRow.holds Tryd.pinned (OpenSpec.upto seekerAnyOrderSpec)

end Rows
end Go.Proofs.YtpdioiojfgknbaaDoor
