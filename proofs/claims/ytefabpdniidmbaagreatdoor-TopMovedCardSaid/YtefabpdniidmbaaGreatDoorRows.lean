/-
  NARROWER THAN 'FOR EVERY INPUT', by the rows' own cells (each row's printed sentence says how): TopFair: laid · TopMoved: laid · TopSteps: laid · TopPlan: laid.
  DERIVED. THE GIVEN ROWS OF THIS SEAT. 4 by the template 'for every input the law returns true; each argument reads behind the call as it read before'; 0 by the template 'total and deterministic' (their statements: YtefabpdniidmbaaGreatDoorTotals.lean).
  GIVEN WITH THE SEED: the statements are not yours to turn. If you find one false, say at which input.
  Laid BY PROGRAM, IN A SANDBOX (cutbox-rows.mjs): the forced cells as the released guide's own fill.sh prints them over the translation fdbc7482d06265f2… (all of the seat's roots in one cut). By AI agents, Wed Nov 11 2026. No macro, syntax, notation, axiom, sorry.
-/
import Derived.Test.YtefabpdniidmbaaGreatDoorChecked
import GoSem.Claim
import GoSem.ClaimJoined
import GoSem.ClaimMapViews
import Derived.JoinedTies
import Derived.KernelRfl
namespace Go.Proofs.YtefabpdniidmbaaGreatDoor
/- THE CELL 'sum', in the pinned program and in every row, IS THE sha256 OF THE DUMP (.gsa) THAT YtefabpdniidmbaaGreatDoorProg.lean LOADS. Nothing in Lean hashes anything: it is a label: what it is worth is what the hold of that sum in a sandbox is worth. -/
noncomputable def Tryz.pinned : Pinned := { name := "ytefabpdniidmbaagreatdoor", sum := "fdbc7482d06265f251acf30a61a242df1b4271d2c2a01c06f9eb53dca358504b", checked := Tryz.checked }
namespace Rows
def none {H : Type} : Left H := { results := [], args := [] }

/- WHAT THE LISTED PACKAGE-LEVEL VARIABLES READ AS WHEN THE CALL BEGINS. Each datum BY PROGRAM (the guide's laid-datum.mjs) off the statement by which the dump's own 'gosem.cut.vars' lays the variable. In a bare row this is a premise. The card (YtefabpdniidmbaaGreatDoorCards.lean) ties it to the program's text. -/
def laid_berthshift_directory_nowhere {H : Type} : DataW H := .agg [.lit (.int .i64 (-1)), .lit (.int .i64 0)]
def laid_berthshift_cluster_unknown {H : Type} : DataW H := .agg [.lit (.int .i64 (-1)), .lit (.int .i64 0)]

/-- 'berthshifttop.TopFair': WHATEVER THE INPUT: true; the input reads as it did. -/
def topFairSpec : ChangeSpec := { name := "topFair", fn := fun _ => fun
  | [d] => { results := [.lit (.bool true)], args := [d] }
  | _ => none }
def topFairRow : OpenClaim := { program := "ytefabpdniidmbaagreatdoor", sum := "fdbc7482d06265f251acf30a61a242df1b4271d2c2a01c06f9eb53dca358504b", func := "berthshift/berthshifttop.TopFair", spec := "topFair", unfollowed := true, recurses := true, named := ["berthshift/directory.nowhere", "berthshift/cluster.unknown"], apart := false, laid := [("berthshift/directory.nowhere", laid_berthshift_directory_nowhere), ("berthshift/cluster.unknown", laid_berthshift_cluster_unknown)] }
def TopFairSaid : Prop := topFairRow.holds Tryz.pinned (OpenSpec.ofChange topFairSpec)

/-- ITS FALSE NEIGHBOUR: 'it returns false'. Refute it at one input. -/
def topFairWrong : ChangeSpec := { name := "topFair", fn := fun _ => fun
  | [d] => { results := [.lit (.bool false)], args := [d] }
  | _ => none }
def TopFairWrongFalsely : Prop := topFairRow.holds Tryz.pinned (OpenSpec.ofChange topFairWrong)

/-- 'berthshifttop.TopMoved': WHATEVER THE INPUT: true; the input reads as it did. -/
def topMovedSpec : ChangeSpec := { name := "topMoved", fn := fun _ => fun
  | [d1, d2, d3] => { results := [.lit (.bool true)], args := [d1, d2, d3] }
  | _ => none }
def topMovedRow : OpenClaim := { program := "ytefabpdniidmbaagreatdoor", sum := "fdbc7482d06265f251acf30a61a242df1b4271d2c2a01c06f9eb53dca358504b", func := "berthshift/berthshifttop.TopMoved", spec := "topMoved", unfollowed := true, recurses := true, named := ["berthshift/directory.nowhere", "berthshift/cluster.unknown"], apart := false, laid := [("berthshift/directory.nowhere", laid_berthshift_directory_nowhere), ("berthshift/cluster.unknown", laid_berthshift_cluster_unknown)] }
def TopMovedSaid : Prop := topMovedRow.holds Tryz.pinned (OpenSpec.ofChange topMovedSpec)

/-- ITS FALSE NEIGHBOUR: 'it returns false'. Refute it at one input. -/
def topMovedWrong : ChangeSpec := { name := "topMoved", fn := fun _ => fun
  | [d1, d2, d3] => { results := [.lit (.bool false)], args := [d1, d2, d3] }
  | _ => none }
def TopMovedWrongFalsely : Prop := topMovedRow.holds Tryz.pinned (OpenSpec.ofChange topMovedWrong)

/-- 'berthshifttop.TopSteps': WHATEVER THE INPUT: true; the input reads as it did. -/
def topStepsSpec : ChangeSpec := { name := "topSteps", fn := fun _ => fun
  | [d1, d2] => { results := [.lit (.bool true)], args := [d1, d2] }
  | _ => none }
def topStepsRow : OpenClaim := { program := "ytefabpdniidmbaagreatdoor", sum := "fdbc7482d06265f251acf30a61a242df1b4271d2c2a01c06f9eb53dca358504b", func := "berthshift/berthshifttop.TopSteps", spec := "topSteps", unfollowed := true, recurses := true, named := ["berthshift/directory.nowhere", "berthshift/cluster.unknown"], apart := false, laid := [("berthshift/directory.nowhere", laid_berthshift_directory_nowhere), ("berthshift/cluster.unknown", laid_berthshift_cluster_unknown)] }
def TopStepsSaid : Prop := topStepsRow.holds Tryz.pinned (OpenSpec.ofChange topStepsSpec)

/-- ITS FALSE NEIGHBOUR: 'it returns false'. Refute it at one input. -/
def topStepsWrong : ChangeSpec := { name := "topSteps", fn := fun _ => fun
  | [d1, d2] => { results := [.lit (.bool false)], args := [d1, d2] }
  | _ => none }
def TopStepsWrongFalsely : Prop := topStepsRow.holds Tryz.pinned (OpenSpec.ofChange topStepsWrong)

/-- 'berthshifttop.TopPlan': WHATEVER THE INPUT: true; the input reads as it did. -/
def topPlanSpec : ChangeSpec := { name := "topPlan", fn := fun _ => fun
  | [d1, d2, d3] => { results := [.lit (.bool true)], args := [d1, d2, d3] }
  | _ => none }
def topPlanRow : OpenClaim := { program := "ytefabpdniidmbaagreatdoor", sum := "fdbc7482d06265f251acf30a61a242df1b4271d2c2a01c06f9eb53dca358504b", func := "berthshift/berthshifttop.TopPlan", spec := "topPlan", unfollowed := true, recurses := true, named := ["berthshift/directory.nowhere", "berthshift/cluster.unknown"], apart := false, laid := [("berthshift/directory.nowhere", laid_berthshift_directory_nowhere), ("berthshift/cluster.unknown", laid_berthshift_cluster_unknown)] }
def TopPlanSaid : Prop := topPlanRow.holds Tryz.pinned (OpenSpec.ofChange topPlanSpec)

/-- ITS FALSE NEIGHBOUR: 'it returns false'. Refute it at one input. -/
def topPlanWrong : ChangeSpec := { name := "topPlan", fn := fun _ => fun
  | [d1, d2, d3] => { results := [.lit (.bool false)], args := [d1, d2, d3] }
  | _ => none }
def TopPlanWrongFalsely : Prop := topPlanRow.holds Tryz.pinned (OpenSpec.ofChange topPlanWrong)

/- THE SECOND FORM. 'bulk': how many values and letters a reading holds, each counted each time it is reached (what is shared counts as often as it is met; a slice's spare places count too). A statement '..UptoSaid' is the law's where the arguments, and the package variables that the reading takes, are together of bulk at most 1048576: NARROWER than '..Said'. Prove '..Said' where nothing that the law and all that it calls make is longer than what came in: it says more and counts as full. Else prove '..UptoSaid'. A law counts once. -/
mutual
def uptoBulk {H : Type} : DataW H → Nat
  | .lit (.string bytes) => bytes.length + 1
  | .lit _ => 1
  | .nil => 1
  | .ptr d => uptoBulk d + 1
  | .slice elems spare => uptoBulkAll elems + uptoBulkAll spare + 1
  | .agg parts => uptoBulkAll parts + 1
  | .iface _ d => uptoBulk d + 1
  | .map entries => uptoBulkEntries entries + 1
  | .held _ => 1
def uptoBulkAll {H : Type} : List (DataW H) → Nat
  | [] => 0
  | d :: r => uptoBulk d + uptoBulkAll r
def uptoBulkEntries {H : Type} : List (Lit × DataW H) → Nat
  | [] => 0
  | x :: r => uptoBulkEntry x + uptoBulkEntries r
def uptoBulkEntry {H : Type} : Lit × DataW H → Nat
  | (.string bytes, d) => bytes.length + uptoBulk d + 1
  | (_, d) => uptoBulk d + 1
 end
def uptoSmall : (H : Type) → List (DataW H) → Bool := fun _ ds => decide (uptoBulkAll ds ≤ 1048576)
def OpenSpec.upto (s : _root_.Go.ChangeSpec) : _root_.Go.OpenSpec := { _root_.Go.OpenSpec.ofChange s with cond := some uptoSmall }

/-- 'berthshifttop.TopFair', WHERE WHAT IT READS IS OF BULK AT MOST 1048576: true; the input reads as it did. -/
def topFairUptoRow : OpenClaim := { program := "ytefabpdniidmbaagreatdoor", sum := "fdbc7482d06265f251acf30a61a242df1b4271d2c2a01c06f9eb53dca358504b", func := "berthshift/berthshifttop.TopFair", spec := "topFair", unfollowed := true, recurses := true, named := ["berthshift/directory.nowhere", "berthshift/cluster.unknown"], apart := false, laid := [("berthshift/directory.nowhere", laid_berthshift_directory_nowhere), ("berthshift/cluster.unknown", laid_berthshift_cluster_unknown)], narrowed := true }
def TopFairUptoSaid : Prop := topFairUptoRow.holds Tryz.pinned (OpenSpec.upto topFairSpec)

/-- 'berthshifttop.TopMoved', WHERE WHAT IT READS IS OF BULK AT MOST 1048576: true; the input reads as it did. -/
def topMovedUptoRow : OpenClaim := { program := "ytefabpdniidmbaagreatdoor", sum := "fdbc7482d06265f251acf30a61a242df1b4271d2c2a01c06f9eb53dca358504b", func := "berthshift/berthshifttop.TopMoved", spec := "topMoved", unfollowed := true, recurses := true, named := ["berthshift/directory.nowhere", "berthshift/cluster.unknown"], apart := false, laid := [("berthshift/directory.nowhere", laid_berthshift_directory_nowhere), ("berthshift/cluster.unknown", laid_berthshift_cluster_unknown)], narrowed := true }
def TopMovedUptoSaid : Prop := topMovedUptoRow.holds Tryz.pinned (OpenSpec.upto topMovedSpec)

/-- 'berthshifttop.TopSteps', WHERE WHAT IT READS IS OF BULK AT MOST 1048576: true; the input reads as it did. -/
def topStepsUptoRow : OpenClaim := { program := "ytefabpdniidmbaagreatdoor", sum := "fdbc7482d06265f251acf30a61a242df1b4271d2c2a01c06f9eb53dca358504b", func := "berthshift/berthshifttop.TopSteps", spec := "topSteps", unfollowed := true, recurses := true, named := ["berthshift/directory.nowhere", "berthshift/cluster.unknown"], apart := false, laid := [("berthshift/directory.nowhere", laid_berthshift_directory_nowhere), ("berthshift/cluster.unknown", laid_berthshift_cluster_unknown)], narrowed := true }
def TopStepsUptoSaid : Prop := topStepsUptoRow.holds Tryz.pinned (OpenSpec.upto topStepsSpec)

/-- 'berthshifttop.TopPlan', WHERE WHAT IT READS IS OF BULK AT MOST 1048576: true; the input reads as it did. -/
def topPlanUptoRow : OpenClaim := { program := "ytefabpdniidmbaagreatdoor", sum := "fdbc7482d06265f251acf30a61a242df1b4271d2c2a01c06f9eb53dca358504b", func := "berthshift/berthshifttop.TopPlan", spec := "topPlan", unfollowed := true, recurses := true, named := ["berthshift/directory.nowhere", "berthshift/cluster.unknown"], apart := false, laid := [("berthshift/directory.nowhere", laid_berthshift_directory_nowhere), ("berthshift/cluster.unknown", laid_berthshift_cluster_unknown)], narrowed := true }
def TopPlanUptoSaid : Prop := topPlanUptoRow.holds Tryz.pinned (OpenSpec.upto topPlanSpec)

end Rows
end Go.Proofs.YtefabpdniidmbaaGreatDoor
