/-
  NARROWER THAN 'FOR EVERY INPUT', by the rows' own cells (each row's printed sentence says how): SeekerRights: laid · SeekerKnown: laid · SeekerWorst: laid · SeekerNews: laid.
  DERIVED. THE GIVEN ROWS OF THIS SEAT. 4 by the template 'for every input the law returns true; each argument reads behind the call as it read before'; 0 by the template 'total and deterministic' (their statements: YtmojepgodbadmaaGreatDoorTotals.lean).
  GIVEN WITH THE SEED: the statements are not yours to turn. If you find one false, say at which input.
  Laid BY PROGRAM, IN A SANDBOX (cutbox-rows.mjs): the forced cells as the released guide's own fill.sh prints them over the translation 4b5369fe0842147e… (all of the seat's roots in one cut). By AI agents, Wed Nov 11 2026. No macro, syntax, notation, axiom, sorry.
-/
import Derived.Test.YtmojepgodbadmaaGreatDoorChecked
import GoSem.Claim
import GoSem.ClaimJoined
import GoSem.ClaimMapViews
import Derived.JoinedTies
import Derived.KernelRfl
namespace Go.Proofs.YtmojepgodbadmaaGreatDoor
/- THE CELL 'sum', in the pinned program and in every row, IS THE sha256 OF THE DUMP (.gsa) THAT YtmojepgodbadmaaGreatDoorProg.lean LOADS. Nothing in Lean hashes anything: it is a label: what it is worth is what the hold of that sum in a sandbox is worth. -/
noncomputable def Tryz.pinned : Pinned := { name := "ytmojepgodbadmaagreatdoor", sum := "4b5369fe0842147e1ce5692353b22fda2f2de9ef45604504f0daff9a3306a356", checked := Tryz.checked }
namespace Rows
def none {H : Type} : Left H := { results := [], args := [] }

/- WHAT THE LISTED PACKAGE-LEVEL VARIABLES READ AS WHEN THE CALL BEGINS. Each datum BY PROGRAM (the guide's laid-datum.mjs) off the statement by which the dump's own 'gosem.cut.vars' lays the variable. In a bare row this is a premise. The card (YtmojepgodbadmaaGreatDoorCards.lean) ties it to the program's text. -/
def laid_velarium_seeker_checks {H : Type} : DataW H := .iface "func table" (.agg [.iface "func" (.lit (.string [40, 118, 101, 108, 97, 114, 105, 117, 109, 47, 115, 101, 101, 107, 101, 114, 46, 114, 111, 117, 110, 100, 41, 46, 110, 117, 109, 98, 101, 114, 115])), .iface "func" (.lit (.string [40, 118, 101, 108, 97, 114, 105, 117, 109, 47, 115, 101, 101, 107, 101, 114, 46, 114, 111, 117, 110, 100, 41, 46, 104, 101, 97, 114, 100])), .iface "func" (.lit (.string [40, 118, 101, 108, 97, 114, 105, 117, 109, 47, 115, 101, 101, 107, 101, 114, 46, 114, 111, 117, 110, 100, 41, 46, 108, 111, 111, 107, 101, 100]))])
def laid_velarium_seeker_says {H : Type} : DataW H := .iface "func table" (.agg [.iface "func" (.lit (.string [40, 118, 101, 108, 97, 114, 105, 117, 109, 47, 115, 101, 101, 107, 101, 114, 46, 99, 111, 117, 110, 116, 41, 46, 115, 111, 109, 101])), .iface "func" (.lit (.string [40, 118, 101, 108, 97, 114, 105, 117, 109, 47, 115, 101, 101, 107, 101, 114, 46, 99, 111, 117, 110, 116, 41, 46, 110, 111, 110, 101])), .iface "func" (.lit (.string [40, 118, 101, 108, 97, 114, 105, 117, 109, 47, 115, 101, 101, 107, 101, 114, 46, 99, 111, 117, 110, 116, 41, 46, 111, 110, 101]))])

/-- 'velariumlaw09.SeekerRights': WHATEVER THE INPUT: true; the input reads as it did. -/
def seekerRightsSpec : ChangeSpec := { name := "seekerRights", fn := fun _ => fun
  | [d1, d2, d3] => { results := [.lit (.bool true)], args := [d1, d2, d3] }
  | _ => none }
def seekerRightsRow : OpenClaim := { program := "ytmojepgodbadmaagreatdoor", sum := "4b5369fe0842147e1ce5692353b22fda2f2de9ef45604504f0daff9a3306a356", func := "velarium/velariumlaw09.SeekerRights", spec := "seekerRights", unfollowed := true, recurses := true, named := ["velarium/seeker.checks", "velarium/seeker.says"], leaving := true, apart := false, laid := [("velarium/seeker.checks", laid_velarium_seeker_checks), ("velarium/seeker.says", laid_velarium_seeker_says)] }
def SeekerRightsSaid : Prop := seekerRightsRow.holds Tryz.pinned (OpenSpec.ofChange seekerRightsSpec)

/-- ITS FALSE NEIGHBOUR: 'it returns false'. Refute it at one input. -/
def seekerRightsWrong : ChangeSpec := { name := "seekerRights", fn := fun _ => fun
  | [d1, d2, d3] => { results := [.lit (.bool false)], args := [d1, d2, d3] }
  | _ => none }
def SeekerRightsWrongFalsely : Prop := seekerRightsRow.holds Tryz.pinned (OpenSpec.ofChange seekerRightsWrong)

/-- 'velariumlaw09.SeekerKnown': WHATEVER THE INPUT: true; the input reads as it did. -/
def seekerKnownSpec : ChangeSpec := { name := "seekerKnown", fn := fun _ => fun
  | [d1, d2, d3, d4] => { results := [.lit (.bool true)], args := [d1, d2, d3, d4] }
  | _ => none }
def seekerKnownRow : OpenClaim := { program := "ytmojepgodbadmaagreatdoor", sum := "4b5369fe0842147e1ce5692353b22fda2f2de9ef45604504f0daff9a3306a356", func := "velarium/velariumlaw09.SeekerKnown", spec := "seekerKnown", unfollowed := true, recurses := true, named := ["velarium/seeker.checks", "velarium/seeker.says"], leaving := true, apart := false, laid := [("velarium/seeker.checks", laid_velarium_seeker_checks), ("velarium/seeker.says", laid_velarium_seeker_says)] }
def SeekerKnownSaid : Prop := seekerKnownRow.holds Tryz.pinned (OpenSpec.ofChange seekerKnownSpec)

/-- ITS FALSE NEIGHBOUR: 'it returns false'. Refute it at one input. -/
def seekerKnownWrong : ChangeSpec := { name := "seekerKnown", fn := fun _ => fun
  | [d1, d2, d3, d4] => { results := [.lit (.bool false)], args := [d1, d2, d3, d4] }
  | _ => none }
def SeekerKnownWrongFalsely : Prop := seekerKnownRow.holds Tryz.pinned (OpenSpec.ofChange seekerKnownWrong)

/-- 'velariumlaw09.SeekerWorst': WHATEVER THE INPUT: true; the input reads as it did. -/
def seekerWorstSpec : ChangeSpec := { name := "seekerWorst", fn := fun _ => fun
  | [d] => { results := [.lit (.bool true)], args := [d] }
  | _ => none }
def seekerWorstRow : OpenClaim := { program := "ytmojepgodbadmaagreatdoor", sum := "4b5369fe0842147e1ce5692353b22fda2f2de9ef45604504f0daff9a3306a356", func := "velarium/velariumlaw09.SeekerWorst", spec := "seekerWorst", unfollowed := true, recurses := true, named := ["velarium/seeker.checks", "velarium/seeker.says"], leaving := true, apart := false, laid := [("velarium/seeker.checks", laid_velarium_seeker_checks), ("velarium/seeker.says", laid_velarium_seeker_says)] }
def SeekerWorstSaid : Prop := seekerWorstRow.holds Tryz.pinned (OpenSpec.ofChange seekerWorstSpec)

/-- ITS FALSE NEIGHBOUR: 'it returns false'. Refute it at one input. -/
def seekerWorstWrong : ChangeSpec := { name := "seekerWorst", fn := fun _ => fun
  | [d] => { results := [.lit (.bool false)], args := [d] }
  | _ => none }
def SeekerWorstWrongFalsely : Prop := seekerWorstRow.holds Tryz.pinned (OpenSpec.ofChange seekerWorstWrong)

/-- 'velariumlaw09.SeekerNews': WHATEVER THE INPUT: true; the input reads as it did. -/
def seekerNewsSpec : ChangeSpec := { name := "seekerNews", fn := fun _ => fun
  | [d1, d2, d3, d4, d5] => { results := [.lit (.bool true)], args := [d1, d2, d3, d4, d5] }
  | _ => none }
def seekerNewsRow : OpenClaim := { program := "ytmojepgodbadmaagreatdoor", sum := "4b5369fe0842147e1ce5692353b22fda2f2de9ef45604504f0daff9a3306a356", func := "velarium/velariumlaw09.SeekerNews", spec := "seekerNews", unfollowed := true, recurses := true, named := ["velarium/seeker.checks", "velarium/seeker.says"], leaving := true, apart := false, laid := [("velarium/seeker.checks", laid_velarium_seeker_checks), ("velarium/seeker.says", laid_velarium_seeker_says)] }
def SeekerNewsSaid : Prop := seekerNewsRow.holds Tryz.pinned (OpenSpec.ofChange seekerNewsSpec)

/-- ITS FALSE NEIGHBOUR: 'it returns false'. Refute it at one input. -/
def seekerNewsWrong : ChangeSpec := { name := "seekerNews", fn := fun _ => fun
  | [d1, d2, d3, d4, d5] => { results := [.lit (.bool false)], args := [d1, d2, d3, d4, d5] }
  | _ => none }
def SeekerNewsWrongFalsely : Prop := seekerNewsRow.holds Tryz.pinned (OpenSpec.ofChange seekerNewsWrong)

/- THE SECOND FORM. 'bulk': how many values and letters a reading holds, each counted each time it is reached (what is shared counts as often as it is met; a slice's spare places count too). A statement '..UptoSaid' is the law's where the arguments, and the package variables that the reading takes, are together of bulk at most 1048576: NARROWER than '..Said'. Prove '..Said' where nothing that the law and all that it calls make is longer than what came in: it says more and counts as full. Else prove '..UptoSaid'. A law counts once. -/
mutual
def uptoBulk {H : Type} : DataW H → Nat
  | .lit (.string bytes) => bytes.length + 1
  | .lit _ => 1
  | .nil => 1
  | .ptr d => uptoBulk d + 1
  | .slice elems spare => uptoBulkAll elems + uptoBulkAll spare + 1
  | .agg parts => uptoBulkAll parts + 1
  | .iface _ d => uptoBulk d + 1
  | .map entries => uptoBulkEntries entries + 1
  | .held _ => 1
def uptoBulkAll {H : Type} : List (DataW H) → Nat
  | [] => 0
  | d :: r => uptoBulk d + uptoBulkAll r
def uptoBulkEntries {H : Type} : List (Lit × DataW H) → Nat
  | [] => 0
  | x :: r => uptoBulkEntry x + uptoBulkEntries r
def uptoBulkEntry {H : Type} : Lit × DataW H → Nat
  | (.string bytes, d) => bytes.length + uptoBulk d + 1
  | (_, d) => uptoBulk d + 1
 end
def uptoSmall : (H : Type) → List (DataW H) → Bool := fun _ ds => decide (uptoBulkAll ds ≤ 1048576)
def OpenSpec.upto (s : _root_.Go.ChangeSpec) : _root_.Go.OpenSpec := { _root_.Go.OpenSpec.ofChange s with cond := some uptoSmall }

/-- 'velariumlaw09.SeekerRights', WHERE WHAT IT READS IS OF BULK AT MOST 1048576: true; the input reads as it did. -/
def seekerRightsUptoRow : OpenClaim := { program := "ytmojepgodbadmaagreatdoor", sum := "4b5369fe0842147e1ce5692353b22fda2f2de9ef45604504f0daff9a3306a356", func := "velarium/velariumlaw09.SeekerRights", spec := "seekerRights", unfollowed := true, recurses := true, named := ["velarium/seeker.checks", "velarium/seeker.says"], leaving := true, apart := false, laid := [("velarium/seeker.checks", laid_velarium_seeker_checks), ("velarium/seeker.says", laid_velarium_seeker_says)], narrowed := true }
def SeekerRightsUptoSaid : Prop := seekerRightsUptoRow.holds Tryz.pinned (OpenSpec.upto seekerRightsSpec)

/-- 'velariumlaw09.SeekerKnown', WHERE WHAT IT READS IS OF BULK AT MOST 1048576: true; the input reads as it did. -/
def seekerKnownUptoRow : OpenClaim := { program := "ytmojepgodbadmaagreatdoor", sum := "4b5369fe0842147e1ce5692353b22fda2f2de9ef45604504f0daff9a3306a356", func := "velarium/velariumlaw09.SeekerKnown", spec := "seekerKnown", unfollowed := true, recurses := true, named := ["velarium/seeker.checks", "velarium/seeker.says"], leaving := true, apart := false, laid := [("velarium/seeker.checks", laid_velarium_seeker_checks), ("velarium/seeker.says", laid_velarium_seeker_says)], narrowed := true }
def SeekerKnownUptoSaid : Prop := seekerKnownUptoRow.holds Tryz.pinned (OpenSpec.upto seekerKnownSpec)

/-- 'velariumlaw09.SeekerWorst', WHERE WHAT IT READS IS OF BULK AT MOST 1048576: true; the input reads as it did. -/
def seekerWorstUptoRow : OpenClaim := { program := "ytmojepgodbadmaagreatdoor", sum := "4b5369fe0842147e1ce5692353b22fda2f2de9ef45604504f0daff9a3306a356", func := "velarium/velariumlaw09.SeekerWorst", spec := "seekerWorst", unfollowed := true, recurses := true, named := ["velarium/seeker.checks", "velarium/seeker.says"], leaving := true, apart := false, laid := [("velarium/seeker.checks", laid_velarium_seeker_checks), ("velarium/seeker.says", laid_velarium_seeker_says)], narrowed := true }
def SeekerWorstUptoSaid : Prop := seekerWorstUptoRow.holds Tryz.pinned (OpenSpec.upto seekerWorstSpec)

/-- 'velariumlaw09.SeekerNews', WHERE WHAT IT READS IS OF BULK AT MOST 1048576: true; the input reads as it did. -/
def seekerNewsUptoRow : OpenClaim := { program := "ytmojepgodbadmaagreatdoor", sum := "4b5369fe0842147e1ce5692353b22fda2f2de9ef45604504f0daff9a3306a356", func := "velarium/velariumlaw09.SeekerNews", spec := "seekerNews", unfollowed := true, recurses := true, named := ["velarium/seeker.checks", "velarium/seeker.says"], leaving := true, apart := false, laid := [("velarium/seeker.checks", laid_velarium_seeker_checks), ("velarium/seeker.says", laid_velarium_seeker_says)], narrowed := true }
def SeekerNewsUptoSaid : Prop := seekerNewsUptoRow.holds Tryz.pinned (OpenSpec.upto seekerNewsSpec)

end Rows
end Go.Proofs.YtmojepgodbadmaaGreatDoor
