/-
  NARROWER THAN 'FOR EVERY INPUT', by the rows' own cells (each row's printed sentence says how): SeekerLearnt: laid · SeekerAsked: laid · SeekerNoOthers: laid · SeekerMore: laid · SeekerLikely: laid · SeekerClashes: laid · SeekerReal: laid · SeekerTurned: laid.
  DERIVED. THE GIVEN ROWS OF THIS SEAT. 8 by the template 'for every input the law returns true; each argument reads behind the call as it read before'; 0 by the template 'total and deterministic' (their statements: YtpdioiojfgknbaaGreatDoorTotals.lean).
  GIVEN WITH THE SEED: the statements are not yours to turn. If you find one false, say at which input.
  Laid BY PROGRAM, IN A SANDBOX (cutbox-rows.mjs): the forced cells as the released guide's own fill.sh prints them over the translation d0a476b0b42b7d0f… (all of the seat's roots in one cut). By AI agents, Wed Nov 11 2026. No macro, syntax, notation, axiom, sorry.
-/
import Derived.Test.YtpdioiojfgknbaaGreatDoorChecked
import GoSem.Claim
import GoSem.ClaimJoined
import GoSem.ClaimMapViews
import Derived.JoinedTies
import Derived.KernelRfl
namespace Go.Proofs.YtpdioiojfgknbaaGreatDoor
/- THE CELL 'sum', in the pinned program and in every row, IS THE sha256 OF THE DUMP (.gsa) THAT YtpdioiojfgknbaaGreatDoorProg.lean LOADS. Nothing in Lean hashes anything: it is a label: what it is worth is what the hold of that sum in a sandbox is worth. -/
noncomputable def Tryz.pinned : Pinned := { name := "ytpdioiojfgknbaagreatdoor", sum := "d0a476b0b42b7d0f8d6338cb524a5b6c59ec0b907afa26525d1e4da5ea9f2bfc", checked := Tryz.checked }
namespace Rows
def none {H : Type} : Left H := { results := [], args := [] }

/- WHAT THE LISTED PACKAGE-LEVEL VARIABLES READ AS WHEN THE CALL BEGINS. Each datum BY PROGRAM (the guide's laid-datum.mjs) off the statement by which the dump's own 'gosem.cut.vars' lays the variable. In a bare row this is a premise. The card (YtpdioiojfgknbaaGreatDoorCards.lean) ties it to the program's text. -/
def laid_velarium_seeker_checks {H : Type} : DataW H := .iface "func table" (.agg [.iface "func" (.lit (.string [40, 118, 101, 108, 97, 114, 105, 117, 109, 47, 115, 101, 101, 107, 101, 114, 46, 114, 111, 117, 110, 100, 41, 46, 110, 117, 109, 98, 101, 114, 115])), .iface "func" (.lit (.string [40, 118, 101, 108, 97, 114, 105, 117, 109, 47, 115, 101, 101, 107, 101, 114, 46, 114, 111, 117, 110, 100, 41, 46, 104, 101, 97, 114, 100])), .iface "func" (.lit (.string [40, 118, 101, 108, 97, 114, 105, 117, 109, 47, 115, 101, 101, 107, 101, 114, 46, 114, 111, 117, 110, 100, 41, 46, 108, 111, 111, 107, 101, 100]))])
def laid_velarium_seeker_says {H : Type} : DataW H := .iface "func table" (.agg [.iface "func" (.lit (.string [40, 118, 101, 108, 97, 114, 105, 117, 109, 47, 115, 101, 101, 107, 101, 114, 46, 99, 111, 117, 110, 116, 41, 46, 115, 111, 109, 101])), .iface "func" (.lit (.string [40, 118, 101, 108, 97, 114, 105, 117, 109, 47, 115, 101, 101, 107, 101, 114, 46, 99, 111, 117, 110, 116, 41, 46, 110, 111, 110, 101])), .iface "func" (.lit (.string [40, 118, 101, 108, 97, 114, 105, 117, 109, 47, 115, 101, 101, 107, 101, 114, 46, 99, 111, 117, 110, 116, 41, 46, 111, 110, 101]))])

/-- 'velariumlaw09.SeekerLearnt': WHATEVER THE INPUT: true; the input reads as it did. -/
def seekerLearntSpec : ChangeSpec := { name := "seekerLearnt", fn := fun _ => fun
  | [d1, d2, d3, d4, d5, d6, d7, d8] => { results := [.lit (.bool true)], args := [d1, d2, d3, d4, d5, d6, d7, d8] }
  | _ => none }
def seekerLearntRow : OpenClaim := { program := "ytpdioiojfgknbaagreatdoor", sum := "d0a476b0b42b7d0f8d6338cb524a5b6c59ec0b907afa26525d1e4da5ea9f2bfc", func := "velarium/velariumlaw09.SeekerLearnt", spec := "seekerLearnt", unfollowed := true, recurses := true, named := ["velarium/seeker.checks", "velarium/seeker.says"], leaving := true, apart := false, laid := [("velarium/seeker.checks", laid_velarium_seeker_checks), ("velarium/seeker.says", laid_velarium_seeker_says)] }
def SeekerLearntSaid : Prop := seekerLearntRow.holds Tryz.pinned (OpenSpec.ofChange seekerLearntSpec)

/-- ITS FALSE NEIGHBOUR: 'it returns false'. Refute it at one input. -/
def seekerLearntWrong : ChangeSpec := { name := "seekerLearnt", fn := fun _ => fun
  | [d1, d2, d3, d4, d5, d6, d7, d8] => { results := [.lit (.bool false)], args := [d1, d2, d3, d4, d5, d6, d7, d8] }
  | _ => none }
def SeekerLearntWrongFalsely : Prop := seekerLearntRow.holds Tryz.pinned (OpenSpec.ofChange seekerLearntWrong)

/-- 'velariumlaw09.SeekerAsked': WHATEVER THE INPUT: true; the input reads as it did. -/
def seekerAskedSpec : ChangeSpec := { name := "seekerAsked", fn := fun _ => fun
  | [d1, d2] => { results := [.lit (.bool true)], args := [d1, d2] }
  | _ => none }
def seekerAskedRow : OpenClaim := { program := "ytpdioiojfgknbaagreatdoor", sum := "d0a476b0b42b7d0f8d6338cb524a5b6c59ec0b907afa26525d1e4da5ea9f2bfc", func := "velarium/velariumlaw09.SeekerAsked", spec := "seekerAsked", unfollowed := true, recurses := true, named := ["velarium/seeker.checks", "velarium/seeker.says"], leaving := true, apart := false, laid := [("velarium/seeker.checks", laid_velarium_seeker_checks), ("velarium/seeker.says", laid_velarium_seeker_says)] }
def SeekerAskedSaid : Prop := seekerAskedRow.holds Tryz.pinned (OpenSpec.ofChange seekerAskedSpec)

/-- ITS FALSE NEIGHBOUR: 'it returns false'. Refute it at one input. -/
def seekerAskedWrong : ChangeSpec := { name := "seekerAsked", fn := fun _ => fun
  | [d1, d2] => { results := [.lit (.bool false)], args := [d1, d2] }
  | _ => none }
def SeekerAskedWrongFalsely : Prop := seekerAskedRow.holds Tryz.pinned (OpenSpec.ofChange seekerAskedWrong)

/-- 'velariumlaw09.SeekerNoOthers': WHATEVER THE INPUT: true; the input reads as it did. -/
def seekerNoOthersSpec : ChangeSpec := { name := "seekerNoOthers", fn := fun _ => fun
  | [d1, d2, d3] => { results := [.lit (.bool true)], args := [d1, d2, d3] }
  | _ => none }
def seekerNoOthersRow : OpenClaim := { program := "ytpdioiojfgknbaagreatdoor", sum := "d0a476b0b42b7d0f8d6338cb524a5b6c59ec0b907afa26525d1e4da5ea9f2bfc", func := "velarium/velariumlaw09.SeekerNoOthers", spec := "seekerNoOthers", unfollowed := true, recurses := true, named := ["velarium/seeker.checks", "velarium/seeker.says"], leaving := true, apart := false, laid := [("velarium/seeker.checks", laid_velarium_seeker_checks), ("velarium/seeker.says", laid_velarium_seeker_says)] }
def SeekerNoOthersSaid : Prop := seekerNoOthersRow.holds Tryz.pinned (OpenSpec.ofChange seekerNoOthersSpec)

/-- ITS FALSE NEIGHBOUR: 'it returns false'. Refute it at one input. -/
def seekerNoOthersWrong : ChangeSpec := { name := "seekerNoOthers", fn := fun _ => fun
  | [d1, d2, d3] => { results := [.lit (.bool false)], args := [d1, d2, d3] }
  | _ => none }
def SeekerNoOthersWrongFalsely : Prop := seekerNoOthersRow.holds Tryz.pinned (OpenSpec.ofChange seekerNoOthersWrong)

/-- 'velariumlaw09.SeekerMore': WHATEVER THE INPUT: true; the input reads as it did. -/
def seekerMoreSpec : ChangeSpec := { name := "seekerMore", fn := fun _ => fun
  | [d1, d2, d3, d4, d5, d6] => { results := [.lit (.bool true)], args := [d1, d2, d3, d4, d5, d6] }
  | _ => none }
def seekerMoreRow : OpenClaim := { program := "ytpdioiojfgknbaagreatdoor", sum := "d0a476b0b42b7d0f8d6338cb524a5b6c59ec0b907afa26525d1e4da5ea9f2bfc", func := "velarium/velariumlaw09.SeekerMore", spec := "seekerMore", unfollowed := true, recurses := true, named := ["velarium/seeker.checks", "velarium/seeker.says"], leaving := true, apart := false, laid := [("velarium/seeker.checks", laid_velarium_seeker_checks), ("velarium/seeker.says", laid_velarium_seeker_says)] }
def SeekerMoreSaid : Prop := seekerMoreRow.holds Tryz.pinned (OpenSpec.ofChange seekerMoreSpec)

/-- ITS FALSE NEIGHBOUR: 'it returns false'. Refute it at one input. -/
def seekerMoreWrong : ChangeSpec := { name := "seekerMore", fn := fun _ => fun
  | [d1, d2, d3, d4, d5, d6] => { results := [.lit (.bool false)], args := [d1, d2, d3, d4, d5, d6] }
  | _ => none }
def SeekerMoreWrongFalsely : Prop := seekerMoreRow.holds Tryz.pinned (OpenSpec.ofChange seekerMoreWrong)

/-- 'velariumlaw09.SeekerLikely': WHATEVER THE INPUT: true; the input reads as it did. -/
def seekerLikelySpec : ChangeSpec := { name := "seekerLikely", fn := fun _ => fun
  | [d1, d2] => { results := [.lit (.bool true)], args := [d1, d2] }
  | _ => none }
def seekerLikelyRow : OpenClaim := { program := "ytpdioiojfgknbaagreatdoor", sum := "d0a476b0b42b7d0f8d6338cb524a5b6c59ec0b907afa26525d1e4da5ea9f2bfc", func := "velarium/velariumlaw09.SeekerLikely", spec := "seekerLikely", unfollowed := true, recurses := true, named := ["velarium/seeker.checks", "velarium/seeker.says"], leaving := true, apart := false, laid := [("velarium/seeker.checks", laid_velarium_seeker_checks), ("velarium/seeker.says", laid_velarium_seeker_says)] }
def SeekerLikelySaid : Prop := seekerLikelyRow.holds Tryz.pinned (OpenSpec.ofChange seekerLikelySpec)

/-- ITS FALSE NEIGHBOUR: 'it returns false'. Refute it at one input. -/
def seekerLikelyWrong : ChangeSpec := { name := "seekerLikely", fn := fun _ => fun
  | [d1, d2] => { results := [.lit (.bool false)], args := [d1, d2] }
  | _ => none }
def SeekerLikelyWrongFalsely : Prop := seekerLikelyRow.holds Tryz.pinned (OpenSpec.ofChange seekerLikelyWrong)

/-- 'velariumlaw09.SeekerClashes': WHATEVER THE INPUT: true; the input reads as it did. -/
def seekerClashesSpec : ChangeSpec := { name := "seekerClashes", fn := fun _ => fun
  | [d1, d2] => { results := [.lit (.bool true)], args := [d1, d2] }
  | _ => none }
def seekerClashesRow : OpenClaim := { program := "ytpdioiojfgknbaagreatdoor", sum := "d0a476b0b42b7d0f8d6338cb524a5b6c59ec0b907afa26525d1e4da5ea9f2bfc", func := "velarium/velariumlaw09.SeekerClashes", spec := "seekerClashes", unfollowed := true, recurses := true, named := ["velarium/seeker.checks", "velarium/seeker.says"], leaving := true, apart := false, laid := [("velarium/seeker.checks", laid_velarium_seeker_checks), ("velarium/seeker.says", laid_velarium_seeker_says)] }
def SeekerClashesSaid : Prop := seekerClashesRow.holds Tryz.pinned (OpenSpec.ofChange seekerClashesSpec)

/-- ITS FALSE NEIGHBOUR: 'it returns false'. Refute it at one input. -/
def seekerClashesWrong : ChangeSpec := { name := "seekerClashes", fn := fun _ => fun
  | [d1, d2] => { results := [.lit (.bool false)], args := [d1, d2] }
  | _ => none }
def SeekerClashesWrongFalsely : Prop := seekerClashesRow.holds Tryz.pinned (OpenSpec.ofChange seekerClashesWrong)

/-- 'velariumlaw09.SeekerReal': WHATEVER THE INPUT: true; the input reads as it did. -/
def seekerRealSpec : ChangeSpec := { name := "seekerReal", fn := fun _ => fun
  | [d1, d2, d3, d4, d5] => { results := [.lit (.bool true)], args := [d1, d2, d3, d4, d5] }
  | _ => none }
def seekerRealRow : OpenClaim := { program := "ytpdioiojfgknbaagreatdoor", sum := "d0a476b0b42b7d0f8d6338cb524a5b6c59ec0b907afa26525d1e4da5ea9f2bfc", func := "velarium/velariumlaw09.SeekerReal", spec := "seekerReal", unfollowed := true, recurses := true, named := ["velarium/seeker.checks", "velarium/seeker.says"], leaving := true, apart := false, laid := [("velarium/seeker.checks", laid_velarium_seeker_checks), ("velarium/seeker.says", laid_velarium_seeker_says)] }
def SeekerRealSaid : Prop := seekerRealRow.holds Tryz.pinned (OpenSpec.ofChange seekerRealSpec)

/-- ITS FALSE NEIGHBOUR: 'it returns false'. Refute it at one input. -/
def seekerRealWrong : ChangeSpec := { name := "seekerReal", fn := fun _ => fun
  | [d1, d2, d3, d4, d5] => { results := [.lit (.bool false)], args := [d1, d2, d3, d4, d5] }
  | _ => none }
def SeekerRealWrongFalsely : Prop := seekerRealRow.holds Tryz.pinned (OpenSpec.ofChange seekerRealWrong)

/-- 'velariumlaw09.SeekerTurned': WHATEVER THE INPUT: true; the input reads as it did. -/
def seekerTurnedSpec : ChangeSpec := { name := "seekerTurned", fn := fun _ => fun
  | [d1, d2, d3, d4, d5, d6] => { results := [.lit (.bool true)], args := [d1, d2, d3, d4, d5, d6] }
  | _ => none }
def seekerTurnedRow : OpenClaim := { program := "ytpdioiojfgknbaagreatdoor", sum := "d0a476b0b42b7d0f8d6338cb524a5b6c59ec0b907afa26525d1e4da5ea9f2bfc", func := "velarium/velariumlaw09.SeekerTurned", spec := "seekerTurned", unfollowed := true, recurses := true, named := ["velarium/seeker.checks", "velarium/seeker.says"], leaving := true, apart := false, laid := [("velarium/seeker.checks", laid_velarium_seeker_checks), ("velarium/seeker.says", laid_velarium_seeker_says)] }
def SeekerTurnedSaid : Prop := seekerTurnedRow.holds Tryz.pinned (OpenSpec.ofChange seekerTurnedSpec)

/-- ITS FALSE NEIGHBOUR: 'it returns false'. Refute it at one input. -/
def seekerTurnedWrong : ChangeSpec := { name := "seekerTurned", fn := fun _ => fun
  | [d1, d2, d3, d4, d5, d6] => { results := [.lit (.bool false)], args := [d1, d2, d3, d4, d5, d6] }
  | _ => none }
def SeekerTurnedWrongFalsely : Prop := seekerTurnedRow.holds Tryz.pinned (OpenSpec.ofChange seekerTurnedWrong)

/- THE SECOND FORM. 'bulk': how many values and letters a reading holds, each counted each time it is reached (what is shared counts as often as it is met; a slice's spare places count too). A statement '..UptoSaid' is the law's where the arguments, and the package variables that the reading takes, are together of bulk at most 1048576: NARROWER than '..Said'. Prove '..Said' where nothing that the law and all that it calls make is longer than what came in: it says more and counts as full. Else prove '..UptoSaid'. A law counts once. -/
mutual
def uptoBulk {H : Type} : DataW H → Nat
  | .lit (.string bytes) => bytes.length + 1
  | .lit _ => 1
  | .nil => 1
  | .ptr d => uptoBulk d + 1
  | .slice elems spare => uptoBulkAll elems + uptoBulkAll spare + 1
  | .agg parts => uptoBulkAll parts + 1
  | .iface _ d => uptoBulk d + 1
  | .map entries => uptoBulkEntries entries + 1
  | .held _ => 1
def uptoBulkAll {H : Type} : List (DataW H) → Nat
  | [] => 0
  | d :: r => uptoBulk d + uptoBulkAll r
def uptoBulkEntries {H : Type} : List (Lit × DataW H) → Nat
  | [] => 0
  | x :: r => uptoBulkEntry x + uptoBulkEntries r
def uptoBulkEntry {H : Type} : Lit × DataW H → Nat
  | (.string bytes, d) => bytes.length + uptoBulk d + 1
  | (_, d) => uptoBulk d + 1
 end
def uptoSmall : (H : Type) → List (DataW H) → Bool := fun _ ds => decide (uptoBulkAll ds ≤ 1048576)
def OpenSpec.upto (s : _root_.Go.ChangeSpec) : _root_.Go.OpenSpec := { _root_.Go.OpenSpec.ofChange s with cond := some uptoSmall }

/-- 'velariumlaw09.SeekerLearnt', WHERE WHAT IT READS IS OF BULK AT MOST 1048576: true; the input reads as it did. -/
def seekerLearntUptoRow : OpenClaim := { program := "ytpdioiojfgknbaagreatdoor", sum := "d0a476b0b42b7d0f8d6338cb524a5b6c59ec0b907afa26525d1e4da5ea9f2bfc", func := "velarium/velariumlaw09.SeekerLearnt", spec := "seekerLearnt", unfollowed := true, recurses := true, named := ["velarium/seeker.checks", "velarium/seeker.says"], leaving := true, apart := false, laid := [("velarium/seeker.checks", laid_velarium_seeker_checks), ("velarium/seeker.says", laid_velarium_seeker_says)], narrowed := true }
def SeekerLearntUptoSaid : Prop := seekerLearntUptoRow.holds Tryz.pinned (OpenSpec.upto seekerLearntSpec)

/-- 'velariumlaw09.SeekerAsked', WHERE WHAT IT READS IS OF BULK AT MOST 1048576: true; the input reads as it did. -/
def seekerAskedUptoRow : OpenClaim := { program := "ytpdioiojfgknbaagreatdoor", sum := "d0a476b0b42b7d0f8d6338cb524a5b6c59ec0b907afa26525d1e4da5ea9f2bfc", func := "velarium/velariumlaw09.SeekerAsked", spec := "seekerAsked", unfollowed := true, recurses := true, named := ["velarium/seeker.checks", "velarium/seeker.says"], leaving := true, apart := false, laid := [("velarium/seeker.checks", laid_velarium_seeker_checks), ("velarium/seeker.says", laid_velarium_seeker_says)], narrowed := true }
def SeekerAskedUptoSaid : Prop := seekerAskedUptoRow.holds Tryz.pinned (OpenSpec.upto seekerAskedSpec)

/-- 'velariumlaw09.SeekerNoOthers', WHERE WHAT IT READS IS OF BULK AT MOST 1048576: true; the input reads as it did. -/
def seekerNoOthersUptoRow : OpenClaim := { program := "ytpdioiojfgknbaagreatdoor", sum := "d0a476b0b42b7d0f8d6338cb524a5b6c59ec0b907afa26525d1e4da5ea9f2bfc", func := "velarium/velariumlaw09.SeekerNoOthers", spec := "seekerNoOthers", unfollowed := true, recurses := true, named := ["velarium/seeker.checks", "velarium/seeker.says"], leaving := true, apart := false, laid := [("velarium/seeker.checks", laid_velarium_seeker_checks), ("velarium/seeker.says", laid_velarium_seeker_says)], narrowed := true }
def SeekerNoOthersUptoSaid : Prop := seekerNoOthersUptoRow.holds Tryz.pinned (OpenSpec.upto seekerNoOthersSpec)

/-- 'velariumlaw09.SeekerMore', WHERE WHAT IT READS IS OF BULK AT MOST 1048576: true; the input reads as it did. -/
def seekerMoreUptoRow : OpenClaim := { program := "ytpdioiojfgknbaagreatdoor", sum := "d0a476b0b42b7d0f8d6338cb524a5b6c59ec0b907afa26525d1e4da5ea9f2bfc", func := "velarium/velariumlaw09.SeekerMore", spec := "seekerMore", unfollowed := true, recurses := true, named := ["velarium/seeker.checks", "velarium/seeker.says"], leaving := true, apart := false, laid := [("velarium/seeker.checks", laid_velarium_seeker_checks), ("velarium/seeker.says", laid_velarium_seeker_says)], narrowed := true }
def SeekerMoreUptoSaid : Prop := seekerMoreUptoRow.holds Tryz.pinned (OpenSpec.upto seekerMoreSpec)

/-- 'velariumlaw09.SeekerLikely', WHERE WHAT IT READS IS OF BULK AT MOST 1048576: true; the input reads as it did. -/
def seekerLikelyUptoRow : OpenClaim := { program := "ytpdioiojfgknbaagreatdoor", sum := "d0a476b0b42b7d0f8d6338cb524a5b6c59ec0b907afa26525d1e4da5ea9f2bfc", func := "velarium/velariumlaw09.SeekerLikely", spec := "seekerLikely", unfollowed := true, recurses := true, named := ["velarium/seeker.checks", "velarium/seeker.says"], leaving := true, apart := false, laid := [("velarium/seeker.checks", laid_velarium_seeker_checks), ("velarium/seeker.says", laid_velarium_seeker_says)], narrowed := true }
def SeekerLikelyUptoSaid : Prop := seekerLikelyUptoRow.holds Tryz.pinned (OpenSpec.upto seekerLikelySpec)

/-- 'velariumlaw09.SeekerClashes', WHERE WHAT IT READS IS OF BULK AT MOST 1048576: true; the input reads as it did. -/
def seekerClashesUptoRow : OpenClaim := { program := "ytpdioiojfgknbaagreatdoor", sum := "d0a476b0b42b7d0f8d6338cb524a5b6c59ec0b907afa26525d1e4da5ea9f2bfc", func := "velarium/velariumlaw09.SeekerClashes", spec := "seekerClashes", unfollowed := true, recurses := true, named := ["velarium/seeker.checks", "velarium/seeker.says"], leaving := true, apart := false, laid := [("velarium/seeker.checks", laid_velarium_seeker_checks), ("velarium/seeker.says", laid_velarium_seeker_says)], narrowed := true }
def SeekerClashesUptoSaid : Prop := seekerClashesUptoRow.holds Tryz.pinned (OpenSpec.upto seekerClashesSpec)

/-- 'velariumlaw09.SeekerReal', WHERE WHAT IT READS IS OF BULK AT MOST 1048576: true; the input reads as it did. -/
def seekerRealUptoRow : OpenClaim := { program := "ytpdioiojfgknbaagreatdoor", sum := "d0a476b0b42b7d0f8d6338cb524a5b6c59ec0b907afa26525d1e4da5ea9f2bfc", func := "velarium/velariumlaw09.SeekerReal", spec := "seekerReal", unfollowed := true, recurses := true, named := ["velarium/seeker.checks", "velarium/seeker.says"], leaving := true, apart := false, laid := [("velarium/seeker.checks", laid_velarium_seeker_checks), ("velarium/seeker.says", laid_velarium_seeker_says)], narrowed := true }
def SeekerRealUptoSaid : Prop := seekerRealUptoRow.holds Tryz.pinned (OpenSpec.upto seekerRealSpec)

/-- 'velariumlaw09.SeekerTurned', WHERE WHAT IT READS IS OF BULK AT MOST 1048576: true; the input reads as it did. -/
def seekerTurnedUptoRow : OpenClaim := { program := "ytpdioiojfgknbaagreatdoor", sum := "d0a476b0b42b7d0f8d6338cb524a5b6c59ec0b907afa26525d1e4da5ea9f2bfc", func := "velarium/velariumlaw09.SeekerTurned", spec := "seekerTurned", unfollowed := true, recurses := true, named := ["velarium/seeker.checks", "velarium/seeker.says"], leaving := true, apart := false, laid := [("velarium/seeker.checks", laid_velarium_seeker_checks), ("velarium/seeker.says", laid_velarium_seeker_says)], narrowed := true }
def SeekerTurnedUptoSaid : Prop := seekerTurnedUptoRow.holds Tryz.pinned (OpenSpec.upto seekerTurnedSpec)

end Rows
end Go.Proofs.YtpdioiojfgknbaaGreatDoor
