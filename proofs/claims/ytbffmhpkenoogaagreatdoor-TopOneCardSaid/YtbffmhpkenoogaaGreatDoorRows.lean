/-
  NARROWER THAN 'FOR EVERY INPUT', by the rows' own cells (each row's printed sentence says how): TopOne: laid · TopAuthority: laid · TopLinear: laid · ClusterRefuses: laid · TopState: laid · TopFair: laid · TopMoved: laid · TopKept: laid · TopNever: laid · TopStale: laid · TopHandles: laid · TopEpochs: laid · TopSealed: laid · TopAsked: laid · TopPrefix: laid · TopWhole: laid · TopSteps: laid · TopUnsynced: laid · TopAnswers: laid · TopPlan: laid.
  DERIVED. THE GIVEN ROWS OF THIS SEAT. 20 by the template 'for every input the law returns true; each argument reads behind the call as it read before'; 0 by the template 'total and deterministic' (their statements: YtbffmhpkenoogaaGreatDoorTotals.lean).
  GIVEN WITH THE SEED: the statements are not yours to turn. If you find one false, say at which input.
  Laid BY PROGRAM, IN A SANDBOX (cutbox-rows.mjs): the forced cells as the released guide's own fill.sh prints them over the translation 25fe4e2b50f3d9bf… (all of the seat's roots in one cut). By AI agents, Wed Nov 11 2026. No macro, syntax, notation, axiom, sorry.
-/
import Derived.Test.YtbffmhpkenoogaaGreatDoorChecked
import GoSem.Claim
import GoSem.ClaimJoined
import GoSem.ClaimMapViews
import Derived.JoinedTies
import Derived.KernelRfl
namespace Go.Proofs.YtbffmhpkenoogaaGreatDoor
/- THE CELL 'sum', in the pinned program and in every row, IS THE sha256 OF THE DUMP (.gsa) THAT YtbffmhpkenoogaaGreatDoorProg.lean LOADS. Nothing in Lean hashes anything: it is a label: what it is worth is what the hold of that sum in a sandbox is worth. -/
noncomputable def Tryz.pinned : Pinned := { name := "ytbffmhpkenoogaagreatdoor", sum := "25fe4e2b50f3d9bf358d80f09adb686d27886a6bcf0d4dccdb6344e4aa01bae0", checked := Tryz.checked }
namespace Rows
def none {H : Type} : Left H := { results := [], args := [] }

/- WHAT THE LISTED PACKAGE-LEVEL VARIABLES READ AS WHEN THE CALL BEGINS. Each datum BY PROGRAM (the guide's laid-datum.mjs) off the statement by which the dump's own 'gosem.cut.vars' lays the variable. In a bare row this is a premise. The card (YtbffmhpkenoogaaGreatDoorCards.lean) ties it to the program's text. -/
def laid_berthshift_directory_nowhere {H : Type} : DataW H := .agg [.lit (.int .i64 (-1)), .lit (.int .i64 0)]
def laid_berthshift_cluster_unknown {H : Type} : DataW H := .agg [.lit (.int .i64 (-1)), .lit (.int .i64 0)]

/-- 'berthshifttop.TopOne': WHATEVER THE INPUT: true; the input reads as it did. -/
def topOneSpec : ChangeSpec := { name := "topOne", fn := fun _ => fun
  | [d] => { results := [.lit (.bool true)], args := [d] }
  | _ => none }
def topOneRow : OpenClaim := { program := "ytbffmhpkenoogaagreatdoor", sum := "25fe4e2b50f3d9bf358d80f09adb686d27886a6bcf0d4dccdb6344e4aa01bae0", func := "berthshift/berthshifttop.TopOne", spec := "topOne", unfollowed := true, recurses := true, named := ["berthshift/directory.nowhere", "berthshift/cluster.unknown"], apart := false, laid := [("berthshift/directory.nowhere", laid_berthshift_directory_nowhere), ("berthshift/cluster.unknown", laid_berthshift_cluster_unknown)] }
def TopOneSaid : Prop := topOneRow.holds Tryz.pinned (OpenSpec.ofChange topOneSpec)

/-- ITS FALSE NEIGHBOUR: 'it returns false'. Refute it at one input. -/
def topOneWrong : ChangeSpec := { name := "topOne", fn := fun _ => fun
  | [d] => { results := [.lit (.bool false)], args := [d] }
  | _ => none }
def TopOneWrongFalsely : Prop := topOneRow.holds Tryz.pinned (OpenSpec.ofChange topOneWrong)

/-- 'berthshifttop.TopAuthority': WHATEVER THE INPUT: true; the input reads as it did. -/
def topAuthoritySpec : ChangeSpec := { name := "topAuthority", fn := fun _ => fun
  | [d] => { results := [.lit (.bool true)], args := [d] }
  | _ => none }
def topAuthorityRow : OpenClaim := { program := "ytbffmhpkenoogaagreatdoor", sum := "25fe4e2b50f3d9bf358d80f09adb686d27886a6bcf0d4dccdb6344e4aa01bae0", func := "berthshift/berthshifttop.TopAuthority", spec := "topAuthority", unfollowed := true, recurses := true, named := ["berthshift/directory.nowhere", "berthshift/cluster.unknown"], apart := false, laid := [("berthshift/directory.nowhere", laid_berthshift_directory_nowhere), ("berthshift/cluster.unknown", laid_berthshift_cluster_unknown)] }
def TopAuthoritySaid : Prop := topAuthorityRow.holds Tryz.pinned (OpenSpec.ofChange topAuthoritySpec)

/-- ITS FALSE NEIGHBOUR: 'it returns false'. Refute it at one input. -/
def topAuthorityWrong : ChangeSpec := { name := "topAuthority", fn := fun _ => fun
  | [d] => { results := [.lit (.bool false)], args := [d] }
  | _ => none }
def TopAuthorityWrongFalsely : Prop := topAuthorityRow.holds Tryz.pinned (OpenSpec.ofChange topAuthorityWrong)

/-- 'berthshifttop.TopLinear': WHATEVER THE INPUT: true; the input reads as it did. -/
def topLinearSpec : ChangeSpec := { name := "topLinear", fn := fun _ => fun
  | [d] => { results := [.lit (.bool true)], args := [d] }
  | _ => none }
def topLinearRow : OpenClaim := { program := "ytbffmhpkenoogaagreatdoor", sum := "25fe4e2b50f3d9bf358d80f09adb686d27886a6bcf0d4dccdb6344e4aa01bae0", func := "berthshift/berthshifttop.TopLinear", spec := "topLinear", unfollowed := true, recurses := true, named := ["berthshift/directory.nowhere", "berthshift/cluster.unknown"], apart := false, laid := [("berthshift/directory.nowhere", laid_berthshift_directory_nowhere), ("berthshift/cluster.unknown", laid_berthshift_cluster_unknown)] }
def TopLinearSaid : Prop := topLinearRow.holds Tryz.pinned (OpenSpec.ofChange topLinearSpec)

/-- ITS FALSE NEIGHBOUR: 'it returns false'. Refute it at one input. -/
def topLinearWrong : ChangeSpec := { name := "topLinear", fn := fun _ => fun
  | [d] => { results := [.lit (.bool false)], args := [d] }
  | _ => none }
def TopLinearWrongFalsely : Prop := topLinearRow.holds Tryz.pinned (OpenSpec.ofChange topLinearWrong)

/-- 'berthshiftlaw.ClusterRefuses': WHATEVER THE INPUT: true; the input reads as it did. -/
def clusterRefusesSpec : ChangeSpec := { name := "clusterRefuses", fn := fun _ => fun
  | [d] => { results := [.lit (.bool true)], args := [d] }
  | _ => none }
def clusterRefusesRow : OpenClaim := { program := "ytbffmhpkenoogaagreatdoor", sum := "25fe4e2b50f3d9bf358d80f09adb686d27886a6bcf0d4dccdb6344e4aa01bae0", func := "berthshift/berthshiftlaw.ClusterRefuses", spec := "clusterRefuses", unfollowed := true, recurses := true, named := ["berthshift/directory.nowhere", "berthshift/cluster.unknown"], apart := false, laid := [("berthshift/directory.nowhere", laid_berthshift_directory_nowhere), ("berthshift/cluster.unknown", laid_berthshift_cluster_unknown)] }
def ClusterRefusesSaid : Prop := clusterRefusesRow.holds Tryz.pinned (OpenSpec.ofChange clusterRefusesSpec)

/-- ITS FALSE NEIGHBOUR: 'it returns false'. Refute it at one input. -/
def clusterRefusesWrong : ChangeSpec := { name := "clusterRefuses", fn := fun _ => fun
  | [d] => { results := [.lit (.bool false)], args := [d] }
  | _ => none }
def ClusterRefusesWrongFalsely : Prop := clusterRefusesRow.holds Tryz.pinned (OpenSpec.ofChange clusterRefusesWrong)

/-- 'berthshifttop.TopState': WHATEVER THE INPUT: true; the input reads as it did. -/
def topStateSpec : ChangeSpec := { name := "topState", fn := fun _ => fun
  | [d] => { results := [.lit (.bool true)], args := [d] }
  | _ => none }
def topStateRow : OpenClaim := { program := "ytbffmhpkenoogaagreatdoor", sum := "25fe4e2b50f3d9bf358d80f09adb686d27886a6bcf0d4dccdb6344e4aa01bae0", func := "berthshift/berthshifttop.TopState", spec := "topState", unfollowed := true, recurses := true, named := ["berthshift/directory.nowhere", "berthshift/cluster.unknown"], apart := false, laid := [("berthshift/directory.nowhere", laid_berthshift_directory_nowhere), ("berthshift/cluster.unknown", laid_berthshift_cluster_unknown)] }
def TopStateSaid : Prop := topStateRow.holds Tryz.pinned (OpenSpec.ofChange topStateSpec)

/-- ITS FALSE NEIGHBOUR: 'it returns false'. Refute it at one input. -/
def topStateWrong : ChangeSpec := { name := "topState", fn := fun _ => fun
  | [d] => { results := [.lit (.bool false)], args := [d] }
  | _ => none }
def TopStateWrongFalsely : Prop := topStateRow.holds Tryz.pinned (OpenSpec.ofChange topStateWrong)

/-- 'berthshifttop.TopFair': WHATEVER THE INPUT: true; the input reads as it did. -/
def topFairSpec : ChangeSpec := { name := "topFair", fn := fun _ => fun
  | [d] => { results := [.lit (.bool true)], args := [d] }
  | _ => none }
def topFairRow : OpenClaim := { program := "ytbffmhpkenoogaagreatdoor", sum := "25fe4e2b50f3d9bf358d80f09adb686d27886a6bcf0d4dccdb6344e4aa01bae0", func := "berthshift/berthshifttop.TopFair", spec := "topFair", unfollowed := true, recurses := true, named := ["berthshift/directory.nowhere", "berthshift/cluster.unknown"], apart := false, laid := [("berthshift/directory.nowhere", laid_berthshift_directory_nowhere), ("berthshift/cluster.unknown", laid_berthshift_cluster_unknown)] }
def TopFairSaid : Prop := topFairRow.holds Tryz.pinned (OpenSpec.ofChange topFairSpec)

/-- ITS FALSE NEIGHBOUR: 'it returns false'. Refute it at one input. -/
def topFairWrong : ChangeSpec := { name := "topFair", fn := fun _ => fun
  | [d] => { results := [.lit (.bool false)], args := [d] }
  | _ => none }
def TopFairWrongFalsely : Prop := topFairRow.holds Tryz.pinned (OpenSpec.ofChange topFairWrong)

/-- 'berthshifttop.TopMoved': WHATEVER THE INPUT: true; the input reads as it did. -/
def topMovedSpec : ChangeSpec := { name := "topMoved", fn := fun _ => fun
  | [d1, d2, d3] => { results := [.lit (.bool true)], args := [d1, d2, d3] }
  | _ => none }
def topMovedRow : OpenClaim := { program := "ytbffmhpkenoogaagreatdoor", sum := "25fe4e2b50f3d9bf358d80f09adb686d27886a6bcf0d4dccdb6344e4aa01bae0", func := "berthshift/berthshifttop.TopMoved", spec := "topMoved", unfollowed := true, recurses := true, named := ["berthshift/directory.nowhere", "berthshift/cluster.unknown"], apart := false, laid := [("berthshift/directory.nowhere", laid_berthshift_directory_nowhere), ("berthshift/cluster.unknown", laid_berthshift_cluster_unknown)] }
def TopMovedSaid : Prop := topMovedRow.holds Tryz.pinned (OpenSpec.ofChange topMovedSpec)

/-- ITS FALSE NEIGHBOUR: 'it returns false'. Refute it at one input. -/
def topMovedWrong : ChangeSpec := { name := "topMoved", fn := fun _ => fun
  | [d1, d2, d3] => { results := [.lit (.bool false)], args := [d1, d2, d3] }
  | _ => none }
def TopMovedWrongFalsely : Prop := topMovedRow.holds Tryz.pinned (OpenSpec.ofChange topMovedWrong)

/-- 'berthshifttop.TopKept': WHATEVER THE INPUT: true; the input reads as it did. -/
def topKeptSpec : ChangeSpec := { name := "topKept", fn := fun _ => fun
  | [d] => { results := [.lit (.bool true)], args := [d] }
  | _ => none }
def topKeptRow : OpenClaim := { program := "ytbffmhpkenoogaagreatdoor", sum := "25fe4e2b50f3d9bf358d80f09adb686d27886a6bcf0d4dccdb6344e4aa01bae0", func := "berthshift/berthshifttop.TopKept", spec := "topKept", unfollowed := true, recurses := true, named := ["berthshift/directory.nowhere", "berthshift/cluster.unknown"], apart := false, laid := [("berthshift/directory.nowhere", laid_berthshift_directory_nowhere), ("berthshift/cluster.unknown", laid_berthshift_cluster_unknown)] }
def TopKeptSaid : Prop := topKeptRow.holds Tryz.pinned (OpenSpec.ofChange topKeptSpec)

/-- ITS FALSE NEIGHBOUR: 'it returns false'. Refute it at one input. -/
def topKeptWrong : ChangeSpec := { name := "topKept", fn := fun _ => fun
  | [d] => { results := [.lit (.bool false)], args := [d] }
  | _ => none }
def TopKeptWrongFalsely : Prop := topKeptRow.holds Tryz.pinned (OpenSpec.ofChange topKeptWrong)

/-- 'berthshifttop.TopNever': WHATEVER THE INPUT: true; the input reads as it did. -/
def topNeverSpec : ChangeSpec := { name := "topNever", fn := fun _ => fun
  | [d] => { results := [.lit (.bool true)], args := [d] }
  | _ => none }
def topNeverRow : OpenClaim := { program := "ytbffmhpkenoogaagreatdoor", sum := "25fe4e2b50f3d9bf358d80f09adb686d27886a6bcf0d4dccdb6344e4aa01bae0", func := "berthshift/berthshifttop.TopNever", spec := "topNever", unfollowed := true, recurses := true, named := ["berthshift/directory.nowhere", "berthshift/cluster.unknown"], apart := false, laid := [("berthshift/directory.nowhere", laid_berthshift_directory_nowhere), ("berthshift/cluster.unknown", laid_berthshift_cluster_unknown)] }
def TopNeverSaid : Prop := topNeverRow.holds Tryz.pinned (OpenSpec.ofChange topNeverSpec)

/-- ITS FALSE NEIGHBOUR: 'it returns false'. Refute it at one input. -/
def topNeverWrong : ChangeSpec := { name := "topNever", fn := fun _ => fun
  | [d] => { results := [.lit (.bool false)], args := [d] }
  | _ => none }
def TopNeverWrongFalsely : Prop := topNeverRow.holds Tryz.pinned (OpenSpec.ofChange topNeverWrong)

/-- 'berthshifttop.TopStale': WHATEVER THE INPUT: true; the input reads as it did. -/
def topStaleSpec : ChangeSpec := { name := "topStale", fn := fun _ => fun
  | [d] => { results := [.lit (.bool true)], args := [d] }
  | _ => none }
def topStaleRow : OpenClaim := { program := "ytbffmhpkenoogaagreatdoor", sum := "25fe4e2b50f3d9bf358d80f09adb686d27886a6bcf0d4dccdb6344e4aa01bae0", func := "berthshift/berthshifttop.TopStale", spec := "topStale", unfollowed := true, recurses := true, named := ["berthshift/directory.nowhere", "berthshift/cluster.unknown"], apart := false, laid := [("berthshift/directory.nowhere", laid_berthshift_directory_nowhere), ("berthshift/cluster.unknown", laid_berthshift_cluster_unknown)] }
def TopStaleSaid : Prop := topStaleRow.holds Tryz.pinned (OpenSpec.ofChange topStaleSpec)

/-- ITS FALSE NEIGHBOUR: 'it returns false'. Refute it at one input. -/
def topStaleWrong : ChangeSpec := { name := "topStale", fn := fun _ => fun
  | [d] => { results := [.lit (.bool false)], args := [d] }
  | _ => none }
def TopStaleWrongFalsely : Prop := topStaleRow.holds Tryz.pinned (OpenSpec.ofChange topStaleWrong)

/-- 'berthshifttop.TopHandles': WHATEVER THE INPUT: true; the input reads as it did. -/
def topHandlesSpec : ChangeSpec := { name := "topHandles", fn := fun _ => fun
  | [d] => { results := [.lit (.bool true)], args := [d] }
  | _ => none }
def topHandlesRow : OpenClaim := { program := "ytbffmhpkenoogaagreatdoor", sum := "25fe4e2b50f3d9bf358d80f09adb686d27886a6bcf0d4dccdb6344e4aa01bae0", func := "berthshift/berthshifttop.TopHandles", spec := "topHandles", unfollowed := true, recurses := true, named := ["berthshift/directory.nowhere", "berthshift/cluster.unknown"], apart := false, laid := [("berthshift/directory.nowhere", laid_berthshift_directory_nowhere), ("berthshift/cluster.unknown", laid_berthshift_cluster_unknown)] }
def TopHandlesSaid : Prop := topHandlesRow.holds Tryz.pinned (OpenSpec.ofChange topHandlesSpec)

/-- ITS FALSE NEIGHBOUR: 'it returns false'. Refute it at one input. -/
def topHandlesWrong : ChangeSpec := { name := "topHandles", fn := fun _ => fun
  | [d] => { results := [.lit (.bool false)], args := [d] }
  | _ => none }
def TopHandlesWrongFalsely : Prop := topHandlesRow.holds Tryz.pinned (OpenSpec.ofChange topHandlesWrong)

/-- 'berthshifttop.TopEpochs': WHATEVER THE INPUT: true; the input reads as it did. -/
def topEpochsSpec : ChangeSpec := { name := "topEpochs", fn := fun _ => fun
  | [d] => { results := [.lit (.bool true)], args := [d] }
  | _ => none }
def topEpochsRow : OpenClaim := { program := "ytbffmhpkenoogaagreatdoor", sum := "25fe4e2b50f3d9bf358d80f09adb686d27886a6bcf0d4dccdb6344e4aa01bae0", func := "berthshift/berthshifttop.TopEpochs", spec := "topEpochs", unfollowed := true, recurses := true, named := ["berthshift/directory.nowhere", "berthshift/cluster.unknown"], apart := false, laid := [("berthshift/directory.nowhere", laid_berthshift_directory_nowhere), ("berthshift/cluster.unknown", laid_berthshift_cluster_unknown)] }
def TopEpochsSaid : Prop := topEpochsRow.holds Tryz.pinned (OpenSpec.ofChange topEpochsSpec)

/-- ITS FALSE NEIGHBOUR: 'it returns false'. Refute it at one input. -/
def topEpochsWrong : ChangeSpec := { name := "topEpochs", fn := fun _ => fun
  | [d] => { results := [.lit (.bool false)], args := [d] }
  | _ => none }
def TopEpochsWrongFalsely : Prop := topEpochsRow.holds Tryz.pinned (OpenSpec.ofChange topEpochsWrong)

/-- 'berthshifttop.TopSealed': WHATEVER THE INPUT: true; the input reads as it did. -/
def topSealedSpec : ChangeSpec := { name := "topSealed", fn := fun _ => fun
  | [d] => { results := [.lit (.bool true)], args := [d] }
  | _ => none }
def topSealedRow : OpenClaim := { program := "ytbffmhpkenoogaagreatdoor", sum := "25fe4e2b50f3d9bf358d80f09adb686d27886a6bcf0d4dccdb6344e4aa01bae0", func := "berthshift/berthshifttop.TopSealed", spec := "topSealed", unfollowed := true, recurses := true, named := ["berthshift/directory.nowhere", "berthshift/cluster.unknown"], apart := false, laid := [("berthshift/directory.nowhere", laid_berthshift_directory_nowhere), ("berthshift/cluster.unknown", laid_berthshift_cluster_unknown)] }
def TopSealedSaid : Prop := topSealedRow.holds Tryz.pinned (OpenSpec.ofChange topSealedSpec)

/-- ITS FALSE NEIGHBOUR: 'it returns false'. Refute it at one input. -/
def topSealedWrong : ChangeSpec := { name := "topSealed", fn := fun _ => fun
  | [d] => { results := [.lit (.bool false)], args := [d] }
  | _ => none }
def TopSealedWrongFalsely : Prop := topSealedRow.holds Tryz.pinned (OpenSpec.ofChange topSealedWrong)

/-- 'berthshifttop.TopAsked': WHATEVER THE INPUT: true; the input reads as it did. -/
def topAskedSpec : ChangeSpec := { name := "topAsked", fn := fun _ => fun
  | [d] => { results := [.lit (.bool true)], args := [d] }
  | _ => none }
def topAskedRow : OpenClaim := { program := "ytbffmhpkenoogaagreatdoor", sum := "25fe4e2b50f3d9bf358d80f09adb686d27886a6bcf0d4dccdb6344e4aa01bae0", func := "berthshift/berthshifttop.TopAsked", spec := "topAsked", unfollowed := true, recurses := true, named := ["berthshift/directory.nowhere", "berthshift/cluster.unknown"], apart := false, laid := [("berthshift/directory.nowhere", laid_berthshift_directory_nowhere), ("berthshift/cluster.unknown", laid_berthshift_cluster_unknown)] }
def TopAskedSaid : Prop := topAskedRow.holds Tryz.pinned (OpenSpec.ofChange topAskedSpec)

/-- ITS FALSE NEIGHBOUR: 'it returns false'. Refute it at one input. -/
def topAskedWrong : ChangeSpec := { name := "topAsked", fn := fun _ => fun
  | [d] => { results := [.lit (.bool false)], args := [d] }
  | _ => none }
def TopAskedWrongFalsely : Prop := topAskedRow.holds Tryz.pinned (OpenSpec.ofChange topAskedWrong)

/-- 'berthshifttop.TopPrefix': WHATEVER THE INPUT: true; the input reads as it did. -/
def topPrefixSpec : ChangeSpec := { name := "topPrefix", fn := fun _ => fun
  | [d] => { results := [.lit (.bool true)], args := [d] }
  | _ => none }
def topPrefixRow : OpenClaim := { program := "ytbffmhpkenoogaagreatdoor", sum := "25fe4e2b50f3d9bf358d80f09adb686d27886a6bcf0d4dccdb6344e4aa01bae0", func := "berthshift/berthshifttop.TopPrefix", spec := "topPrefix", unfollowed := true, recurses := true, named := ["berthshift/directory.nowhere", "berthshift/cluster.unknown"], apart := false, laid := [("berthshift/directory.nowhere", laid_berthshift_directory_nowhere), ("berthshift/cluster.unknown", laid_berthshift_cluster_unknown)] }
def TopPrefixSaid : Prop := topPrefixRow.holds Tryz.pinned (OpenSpec.ofChange topPrefixSpec)

/-- ITS FALSE NEIGHBOUR: 'it returns false'. Refute it at one input. -/
def topPrefixWrong : ChangeSpec := { name := "topPrefix", fn := fun _ => fun
  | [d] => { results := [.lit (.bool false)], args := [d] }
  | _ => none }
def TopPrefixWrongFalsely : Prop := topPrefixRow.holds Tryz.pinned (OpenSpec.ofChange topPrefixWrong)

/-- 'berthshifttop.TopWhole': WHATEVER THE INPUT: true; the input reads as it did. -/
def topWholeSpec : ChangeSpec := { name := "topWhole", fn := fun _ => fun
  | [d] => { results := [.lit (.bool true)], args := [d] }
  | _ => none }
def topWholeRow : OpenClaim := { program := "ytbffmhpkenoogaagreatdoor", sum := "25fe4e2b50f3d9bf358d80f09adb686d27886a6bcf0d4dccdb6344e4aa01bae0", func := "berthshift/berthshifttop.TopWhole", spec := "topWhole", unfollowed := true, recurses := true, named := ["berthshift/directory.nowhere", "berthshift/cluster.unknown"], apart := false, laid := [("berthshift/directory.nowhere", laid_berthshift_directory_nowhere), ("berthshift/cluster.unknown", laid_berthshift_cluster_unknown)] }
def TopWholeSaid : Prop := topWholeRow.holds Tryz.pinned (OpenSpec.ofChange topWholeSpec)

/-- ITS FALSE NEIGHBOUR: 'it returns false'. Refute it at one input. -/
def topWholeWrong : ChangeSpec := { name := "topWhole", fn := fun _ => fun
  | [d] => { results := [.lit (.bool false)], args := [d] }
  | _ => none }
def TopWholeWrongFalsely : Prop := topWholeRow.holds Tryz.pinned (OpenSpec.ofChange topWholeWrong)

/-- 'berthshifttop.TopSteps': WHATEVER THE INPUT: true; the input reads as it did. -/
def topStepsSpec : ChangeSpec := { name := "topSteps", fn := fun _ => fun
  | [d1, d2] => { results := [.lit (.bool true)], args := [d1, d2] }
  | _ => none }
def topStepsRow : OpenClaim := { program := "ytbffmhpkenoogaagreatdoor", sum := "25fe4e2b50f3d9bf358d80f09adb686d27886a6bcf0d4dccdb6344e4aa01bae0", func := "berthshift/berthshifttop.TopSteps", spec := "topSteps", unfollowed := true, recurses := true, named := ["berthshift/directory.nowhere", "berthshift/cluster.unknown"], apart := false, laid := [("berthshift/directory.nowhere", laid_berthshift_directory_nowhere), ("berthshift/cluster.unknown", laid_berthshift_cluster_unknown)] }
def TopStepsSaid : Prop := topStepsRow.holds Tryz.pinned (OpenSpec.ofChange topStepsSpec)

/-- ITS FALSE NEIGHBOUR: 'it returns false'. Refute it at one input. -/
def topStepsWrong : ChangeSpec := { name := "topSteps", fn := fun _ => fun
  | [d1, d2] => { results := [.lit (.bool false)], args := [d1, d2] }
  | _ => none }
def TopStepsWrongFalsely : Prop := topStepsRow.holds Tryz.pinned (OpenSpec.ofChange topStepsWrong)

/-- 'berthshifttop.TopUnsynced': WHATEVER THE INPUT: true; the input reads as it did. -/
def topUnsyncedSpec : ChangeSpec := { name := "topUnsynced", fn := fun _ => fun
  | [d1, d2] => { results := [.lit (.bool true)], args := [d1, d2] }
  | _ => none }
def topUnsyncedRow : OpenClaim := { program := "ytbffmhpkenoogaagreatdoor", sum := "25fe4e2b50f3d9bf358d80f09adb686d27886a6bcf0d4dccdb6344e4aa01bae0", func := "berthshift/berthshifttop.TopUnsynced", spec := "topUnsynced", unfollowed := true, recurses := true, named := ["berthshift/directory.nowhere", "berthshift/cluster.unknown"], apart := false, laid := [("berthshift/directory.nowhere", laid_berthshift_directory_nowhere), ("berthshift/cluster.unknown", laid_berthshift_cluster_unknown)] }
def TopUnsyncedSaid : Prop := topUnsyncedRow.holds Tryz.pinned (OpenSpec.ofChange topUnsyncedSpec)

/-- ITS FALSE NEIGHBOUR: 'it returns false'. Refute it at one input. -/
def topUnsyncedWrong : ChangeSpec := { name := "topUnsynced", fn := fun _ => fun
  | [d1, d2] => { results := [.lit (.bool false)], args := [d1, d2] }
  | _ => none }
def TopUnsyncedWrongFalsely : Prop := topUnsyncedRow.holds Tryz.pinned (OpenSpec.ofChange topUnsyncedWrong)

/-- 'berthshifttop.TopAnswers': WHATEVER THE INPUT: true; the input reads as it did. -/
def topAnswersSpec : ChangeSpec := { name := "topAnswers", fn := fun _ => fun
  | [d] => { results := [.lit (.bool true)], args := [d] }
  | _ => none }
def topAnswersRow : OpenClaim := { program := "ytbffmhpkenoogaagreatdoor", sum := "25fe4e2b50f3d9bf358d80f09adb686d27886a6bcf0d4dccdb6344e4aa01bae0", func := "berthshift/berthshifttop.TopAnswers", spec := "topAnswers", unfollowed := true, recurses := true, named := ["berthshift/directory.nowhere", "berthshift/cluster.unknown"], apart := false, laid := [("berthshift/directory.nowhere", laid_berthshift_directory_nowhere), ("berthshift/cluster.unknown", laid_berthshift_cluster_unknown)] }
def TopAnswersSaid : Prop := topAnswersRow.holds Tryz.pinned (OpenSpec.ofChange topAnswersSpec)

/-- ITS FALSE NEIGHBOUR: 'it returns false'. Refute it at one input. -/
def topAnswersWrong : ChangeSpec := { name := "topAnswers", fn := fun _ => fun
  | [d] => { results := [.lit (.bool false)], args := [d] }
  | _ => none }
def TopAnswersWrongFalsely : Prop := topAnswersRow.holds Tryz.pinned (OpenSpec.ofChange topAnswersWrong)

/-- 'berthshifttop.TopPlan': WHATEVER THE INPUT: true; the input reads as it did. -/
def topPlanSpec : ChangeSpec := { name := "topPlan", fn := fun _ => fun
  | [d1, d2, d3] => { results := [.lit (.bool true)], args := [d1, d2, d3] }
  | _ => none }
def topPlanRow : OpenClaim := { program := "ytbffmhpkenoogaagreatdoor", sum := "25fe4e2b50f3d9bf358d80f09adb686d27886a6bcf0d4dccdb6344e4aa01bae0", func := "berthshift/berthshifttop.TopPlan", spec := "topPlan", unfollowed := true, recurses := true, named := ["berthshift/directory.nowhere", "berthshift/cluster.unknown"], apart := false, laid := [("berthshift/directory.nowhere", laid_berthshift_directory_nowhere), ("berthshift/cluster.unknown", laid_berthshift_cluster_unknown)] }
def TopPlanSaid : Prop := topPlanRow.holds Tryz.pinned (OpenSpec.ofChange topPlanSpec)

/-- ITS FALSE NEIGHBOUR: 'it returns false'. Refute it at one input. -/
def topPlanWrong : ChangeSpec := { name := "topPlan", fn := fun _ => fun
  | [d1, d2, d3] => { results := [.lit (.bool false)], args := [d1, d2, d3] }
  | _ => none }
def TopPlanWrongFalsely : Prop := topPlanRow.holds Tryz.pinned (OpenSpec.ofChange topPlanWrong)

/- THE SECOND FORM. 'bulk': how many values and letters a reading holds, each counted each time it is reached (what is shared counts as often as it is met; a slice's spare places count too). A statement '..UptoSaid' is the law's where the arguments, and the package variables that the reading takes, are together of bulk at most 1048576: NARROWER than '..Said'. Prove '..Said' where nothing that the law and all that it calls make is longer than what came in: it says more and counts as full. Else prove '..UptoSaid'. A law counts once. -/
mutual
def uptoBulk {H : Type} : DataW H → Nat
  | .lit (.string bytes) => bytes.length + 1
  | .lit _ => 1
  | .nil => 1
  | .ptr d => uptoBulk d + 1
  | .slice elems spare => uptoBulkAll elems + uptoBulkAll spare + 1
  | .agg parts => uptoBulkAll parts + 1
  | .iface _ d => uptoBulk d + 1
  | .map entries => uptoBulkEntries entries + 1
  | .held _ => 1
def uptoBulkAll {H : Type} : List (DataW H) → Nat
  | [] => 0
  | d :: r => uptoBulk d + uptoBulkAll r
def uptoBulkEntries {H : Type} : List (Lit × DataW H) → Nat
  | [] => 0
  | x :: r => uptoBulkEntry x + uptoBulkEntries r
def uptoBulkEntry {H : Type} : Lit × DataW H → Nat
  | (.string bytes, d) => bytes.length + uptoBulk d + 1
  | (_, d) => uptoBulk d + 1
 end
def uptoSmall : (H : Type) → List (DataW H) → Bool := fun _ ds => decide (uptoBulkAll ds ≤ 1048576)
def OpenSpec.upto (s : _root_.Go.ChangeSpec) : _root_.Go.OpenSpec := { _root_.Go.OpenSpec.ofChange s with cond := some uptoSmall }

/-- 'berthshifttop.TopOne', WHERE WHAT IT READS IS OF BULK AT MOST 1048576: true; the input reads as it did. -/
def topOneUptoRow : OpenClaim := { program := "ytbffmhpkenoogaagreatdoor", sum := "25fe4e2b50f3d9bf358d80f09adb686d27886a6bcf0d4dccdb6344e4aa01bae0", func := "berthshift/berthshifttop.TopOne", spec := "topOne", unfollowed := true, recurses := true, named := ["berthshift/directory.nowhere", "berthshift/cluster.unknown"], apart := false, laid := [("berthshift/directory.nowhere", laid_berthshift_directory_nowhere), ("berthshift/cluster.unknown", laid_berthshift_cluster_unknown)], narrowed := true }
def TopOneUptoSaid : Prop := topOneUptoRow.holds Tryz.pinned (OpenSpec.upto topOneSpec)

/-- 'berthshifttop.TopAuthority', WHERE WHAT IT READS IS OF BULK AT MOST 1048576: true; the input reads as it did. -/
def topAuthorityUptoRow : OpenClaim := { program := "ytbffmhpkenoogaagreatdoor", sum := "25fe4e2b50f3d9bf358d80f09adb686d27886a6bcf0d4dccdb6344e4aa01bae0", func := "berthshift/berthshifttop.TopAuthority", spec := "topAuthority", unfollowed := true, recurses := true, named := ["berthshift/directory.nowhere", "berthshift/cluster.unknown"], apart := false, laid := [("berthshift/directory.nowhere", laid_berthshift_directory_nowhere), ("berthshift/cluster.unknown", laid_berthshift_cluster_unknown)], narrowed := true }
def TopAuthorityUptoSaid : Prop := topAuthorityUptoRow.holds Tryz.pinned (OpenSpec.upto topAuthoritySpec)

/-- 'berthshifttop.TopLinear', WHERE WHAT IT READS IS OF BULK AT MOST 1048576: true; the input reads as it did. -/
def topLinearUptoRow : OpenClaim := { program := "ytbffmhpkenoogaagreatdoor", sum := "25fe4e2b50f3d9bf358d80f09adb686d27886a6bcf0d4dccdb6344e4aa01bae0", func := "berthshift/berthshifttop.TopLinear", spec := "topLinear", unfollowed := true, recurses := true, named := ["berthshift/directory.nowhere", "berthshift/cluster.unknown"], apart := false, laid := [("berthshift/directory.nowhere", laid_berthshift_directory_nowhere), ("berthshift/cluster.unknown", laid_berthshift_cluster_unknown)], narrowed := true }
def TopLinearUptoSaid : Prop := topLinearUptoRow.holds Tryz.pinned (OpenSpec.upto topLinearSpec)

/-- 'berthshiftlaw.ClusterRefuses', WHERE WHAT IT READS IS OF BULK AT MOST 1048576: true; the input reads as it did. -/
def clusterRefusesUptoRow : OpenClaim := { program := "ytbffmhpkenoogaagreatdoor", sum := "25fe4e2b50f3d9bf358d80f09adb686d27886a6bcf0d4dccdb6344e4aa01bae0", func := "berthshift/berthshiftlaw.ClusterRefuses", spec := "clusterRefuses", unfollowed := true, recurses := true, named := ["berthshift/directory.nowhere", "berthshift/cluster.unknown"], apart := false, laid := [("berthshift/directory.nowhere", laid_berthshift_directory_nowhere), ("berthshift/cluster.unknown", laid_berthshift_cluster_unknown)], narrowed := true }
def ClusterRefusesUptoSaid : Prop := clusterRefusesUptoRow.holds Tryz.pinned (OpenSpec.upto clusterRefusesSpec)

/-- 'berthshifttop.TopState', WHERE WHAT IT READS IS OF BULK AT MOST 1048576: true; the input reads as it did. -/
def topStateUptoRow : OpenClaim := { program := "ytbffmhpkenoogaagreatdoor", sum := "25fe4e2b50f3d9bf358d80f09adb686d27886a6bcf0d4dccdb6344e4aa01bae0", func := "berthshift/berthshifttop.TopState", spec := "topState", unfollowed := true, recurses := true, named := ["berthshift/directory.nowhere", "berthshift/cluster.unknown"], apart := false, laid := [("berthshift/directory.nowhere", laid_berthshift_directory_nowhere), ("berthshift/cluster.unknown", laid_berthshift_cluster_unknown)], narrowed := true }
def TopStateUptoSaid : Prop := topStateUptoRow.holds Tryz.pinned (OpenSpec.upto topStateSpec)

/-- 'berthshifttop.TopFair', WHERE WHAT IT READS IS OF BULK AT MOST 1048576: true; the input reads as it did. -/
def topFairUptoRow : OpenClaim := { program := "ytbffmhpkenoogaagreatdoor", sum := "25fe4e2b50f3d9bf358d80f09adb686d27886a6bcf0d4dccdb6344e4aa01bae0", func := "berthshift/berthshifttop.TopFair", spec := "topFair", unfollowed := true, recurses := true, named := ["berthshift/directory.nowhere", "berthshift/cluster.unknown"], apart := false, laid := [("berthshift/directory.nowhere", laid_berthshift_directory_nowhere), ("berthshift/cluster.unknown", laid_berthshift_cluster_unknown)], narrowed := true }
def TopFairUptoSaid : Prop := topFairUptoRow.holds Tryz.pinned (OpenSpec.upto topFairSpec)

/-- 'berthshifttop.TopMoved', WHERE WHAT IT READS IS OF BULK AT MOST 1048576: true; the input reads as it did. -/
def topMovedUptoRow : OpenClaim := { program := "ytbffmhpkenoogaagreatdoor", sum := "25fe4e2b50f3d9bf358d80f09adb686d27886a6bcf0d4dccdb6344e4aa01bae0", func := "berthshift/berthshifttop.TopMoved", spec := "topMoved", unfollowed := true, recurses := true, named := ["berthshift/directory.nowhere", "berthshift/cluster.unknown"], apart := false, laid := [("berthshift/directory.nowhere", laid_berthshift_directory_nowhere), ("berthshift/cluster.unknown", laid_berthshift_cluster_unknown)], narrowed := true }
def TopMovedUptoSaid : Prop := topMovedUptoRow.holds Tryz.pinned (OpenSpec.upto topMovedSpec)

/-- 'berthshifttop.TopKept', WHERE WHAT IT READS IS OF BULK AT MOST 1048576: true; the input reads as it did. -/
def topKeptUptoRow : OpenClaim := { program := "ytbffmhpkenoogaagreatdoor", sum := "25fe4e2b50f3d9bf358d80f09adb686d27886a6bcf0d4dccdb6344e4aa01bae0", func := "berthshift/berthshifttop.TopKept", spec := "topKept", unfollowed := true, recurses := true, named := ["berthshift/directory.nowhere", "berthshift/cluster.unknown"], apart := false, laid := [("berthshift/directory.nowhere", laid_berthshift_directory_nowhere), ("berthshift/cluster.unknown", laid_berthshift_cluster_unknown)], narrowed := true }
def TopKeptUptoSaid : Prop := topKeptUptoRow.holds Tryz.pinned (OpenSpec.upto topKeptSpec)

/-- 'berthshifttop.TopNever', WHERE WHAT IT READS IS OF BULK AT MOST 1048576: true; the input reads as it did. -/
def topNeverUptoRow : OpenClaim := { program := "ytbffmhpkenoogaagreatdoor", sum := "25fe4e2b50f3d9bf358d80f09adb686d27886a6bcf0d4dccdb6344e4aa01bae0", func := "berthshift/berthshifttop.TopNever", spec := "topNever", unfollowed := true, recurses := true, named := ["berthshift/directory.nowhere", "berthshift/cluster.unknown"], apart := false, laid := [("berthshift/directory.nowhere", laid_berthshift_directory_nowhere), ("berthshift/cluster.unknown", laid_berthshift_cluster_unknown)], narrowed := true }
def TopNeverUptoSaid : Prop := topNeverUptoRow.holds Tryz.pinned (OpenSpec.upto topNeverSpec)

/-- 'berthshifttop.TopStale', WHERE WHAT IT READS IS OF BULK AT MOST 1048576: true; the input reads as it did. -/
def topStaleUptoRow : OpenClaim := { program := "ytbffmhpkenoogaagreatdoor", sum := "25fe4e2b50f3d9bf358d80f09adb686d27886a6bcf0d4dccdb6344e4aa01bae0", func := "berthshift/berthshifttop.TopStale", spec := "topStale", unfollowed := true, recurses := true, named := ["berthshift/directory.nowhere", "berthshift/cluster.unknown"], apart := false, laid := [("berthshift/directory.nowhere", laid_berthshift_directory_nowhere), ("berthshift/cluster.unknown", laid_berthshift_cluster_unknown)], narrowed := true }
def TopStaleUptoSaid : Prop := topStaleUptoRow.holds Tryz.pinned (OpenSpec.upto topStaleSpec)

/-- 'berthshifttop.TopHandles', WHERE WHAT IT READS IS OF BULK AT MOST 1048576: true; the input reads as it did. -/
def topHandlesUptoRow : OpenClaim := { program := "ytbffmhpkenoogaagreatdoor", sum := "25fe4e2b50f3d9bf358d80f09adb686d27886a6bcf0d4dccdb6344e4aa01bae0", func := "berthshift/berthshifttop.TopHandles", spec := "topHandles", unfollowed := true, recurses := true, named := ["berthshift/directory.nowhere", "berthshift/cluster.unknown"], apart := false, laid := [("berthshift/directory.nowhere", laid_berthshift_directory_nowhere), ("berthshift/cluster.unknown", laid_berthshift_cluster_unknown)], narrowed := true }
def TopHandlesUptoSaid : Prop := topHandlesUptoRow.holds Tryz.pinned (OpenSpec.upto topHandlesSpec)

/-- 'berthshifttop.TopEpochs', WHERE WHAT IT READS IS OF BULK AT MOST 1048576: true; the input reads as it did. -/
def topEpochsUptoRow : OpenClaim := { program := "ytbffmhpkenoogaagreatdoor", sum := "25fe4e2b50f3d9bf358d80f09adb686d27886a6bcf0d4dccdb6344e4aa01bae0", func := "berthshift/berthshifttop.TopEpochs", spec := "topEpochs", unfollowed := true, recurses := true, named := ["berthshift/directory.nowhere", "berthshift/cluster.unknown"], apart := false, laid := [("berthshift/directory.nowhere", laid_berthshift_directory_nowhere), ("berthshift/cluster.unknown", laid_berthshift_cluster_unknown)], narrowed := true }
def TopEpochsUptoSaid : Prop := topEpochsUptoRow.holds Tryz.pinned (OpenSpec.upto topEpochsSpec)

/-- 'berthshifttop.TopSealed', WHERE WHAT IT READS IS OF BULK AT MOST 1048576: true; the input reads as it did. -/
def topSealedUptoRow : OpenClaim := { program := "ytbffmhpkenoogaagreatdoor", sum := "25fe4e2b50f3d9bf358d80f09adb686d27886a6bcf0d4dccdb6344e4aa01bae0", func := "berthshift/berthshifttop.TopSealed", spec := "topSealed", unfollowed := true, recurses := true, named := ["berthshift/directory.nowhere", "berthshift/cluster.unknown"], apart := false, laid := [("berthshift/directory.nowhere", laid_berthshift_directory_nowhere), ("berthshift/cluster.unknown", laid_berthshift_cluster_unknown)], narrowed := true }
def TopSealedUptoSaid : Prop := topSealedUptoRow.holds Tryz.pinned (OpenSpec.upto topSealedSpec)

/-- 'berthshifttop.TopAsked', WHERE WHAT IT READS IS OF BULK AT MOST 1048576: true; the input reads as it did. -/
def topAskedUptoRow : OpenClaim := { program := "ytbffmhpkenoogaagreatdoor", sum := "25fe4e2b50f3d9bf358d80f09adb686d27886a6bcf0d4dccdb6344e4aa01bae0", func := "berthshift/berthshifttop.TopAsked", spec := "topAsked", unfollowed := true, recurses := true, named := ["berthshift/directory.nowhere", "berthshift/cluster.unknown"], apart := false, laid := [("berthshift/directory.nowhere", laid_berthshift_directory_nowhere), ("berthshift/cluster.unknown", laid_berthshift_cluster_unknown)], narrowed := true }
def TopAskedUptoSaid : Prop := topAskedUptoRow.holds Tryz.pinned (OpenSpec.upto topAskedSpec)

/-- 'berthshifttop.TopPrefix', WHERE WHAT IT READS IS OF BULK AT MOST 1048576: true; the input reads as it did. -/
def topPrefixUptoRow : OpenClaim := { program := "ytbffmhpkenoogaagreatdoor", sum := "25fe4e2b50f3d9bf358d80f09adb686d27886a6bcf0d4dccdb6344e4aa01bae0", func := "berthshift/berthshifttop.TopPrefix", spec := "topPrefix", unfollowed := true, recurses := true, named := ["berthshift/directory.nowhere", "berthshift/cluster.unknown"], apart := false, laid := [("berthshift/directory.nowhere", laid_berthshift_directory_nowhere), ("berthshift/cluster.unknown", laid_berthshift_cluster_unknown)], narrowed := true }
def TopPrefixUptoSaid : Prop := topPrefixUptoRow.holds Tryz.pinned (OpenSpec.upto topPrefixSpec)

/-- 'berthshifttop.TopWhole', WHERE WHAT IT READS IS OF BULK AT MOST 1048576: true; the input reads as it did. -/
def topWholeUptoRow : OpenClaim := { program := "ytbffmhpkenoogaagreatdoor", sum := "25fe4e2b50f3d9bf358d80f09adb686d27886a6bcf0d4dccdb6344e4aa01bae0", func := "berthshift/berthshifttop.TopWhole", spec := "topWhole", unfollowed := true, recurses := true, named := ["berthshift/directory.nowhere", "berthshift/cluster.unknown"], apart := false, laid := [("berthshift/directory.nowhere", laid_berthshift_directory_nowhere), ("berthshift/cluster.unknown", laid_berthshift_cluster_unknown)], narrowed := true }
def TopWholeUptoSaid : Prop := topWholeUptoRow.holds Tryz.pinned (OpenSpec.upto topWholeSpec)

/-- 'berthshifttop.TopSteps', WHERE WHAT IT READS IS OF BULK AT MOST 1048576: true; the input reads as it did. -/
def topStepsUptoRow : OpenClaim := { program := "ytbffmhpkenoogaagreatdoor", sum := "25fe4e2b50f3d9bf358d80f09adb686d27886a6bcf0d4dccdb6344e4aa01bae0", func := "berthshift/berthshifttop.TopSteps", spec := "topSteps", unfollowed := true, recurses := true, named := ["berthshift/directory.nowhere", "berthshift/cluster.unknown"], apart := false, laid := [("berthshift/directory.nowhere", laid_berthshift_directory_nowhere), ("berthshift/cluster.unknown", laid_berthshift_cluster_unknown)], narrowed := true }
def TopStepsUptoSaid : Prop := topStepsUptoRow.holds Tryz.pinned (OpenSpec.upto topStepsSpec)

/-- 'berthshifttop.TopUnsynced', WHERE WHAT IT READS IS OF BULK AT MOST 1048576: true; the input reads as it did. -/
def topUnsyncedUptoRow : OpenClaim := { program := "ytbffmhpkenoogaagreatdoor", sum := "25fe4e2b50f3d9bf358d80f09adb686d27886a6bcf0d4dccdb6344e4aa01bae0", func := "berthshift/berthshifttop.TopUnsynced", spec := "topUnsynced", unfollowed := true, recurses := true, named := ["berthshift/directory.nowhere", "berthshift/cluster.unknown"], apart := false, laid := [("berthshift/directory.nowhere", laid_berthshift_directory_nowhere), ("berthshift/cluster.unknown", laid_berthshift_cluster_unknown)], narrowed := true }
def TopUnsyncedUptoSaid : Prop := topUnsyncedUptoRow.holds Tryz.pinned (OpenSpec.upto topUnsyncedSpec)

/-- 'berthshifttop.TopAnswers', WHERE WHAT IT READS IS OF BULK AT MOST 1048576: true; the input reads as it did. -/
def topAnswersUptoRow : OpenClaim := { program := "ytbffmhpkenoogaagreatdoor", sum := "25fe4e2b50f3d9bf358d80f09adb686d27886a6bcf0d4dccdb6344e4aa01bae0", func := "berthshift/berthshifttop.TopAnswers", spec := "topAnswers", unfollowed := true, recurses := true, named := ["berthshift/directory.nowhere", "berthshift/cluster.unknown"], apart := false, laid := [("berthshift/directory.nowhere", laid_berthshift_directory_nowhere), ("berthshift/cluster.unknown", laid_berthshift_cluster_unknown)], narrowed := true }
def TopAnswersUptoSaid : Prop := topAnswersUptoRow.holds Tryz.pinned (OpenSpec.upto topAnswersSpec)

/-- 'berthshifttop.TopPlan', WHERE WHAT IT READS IS OF BULK AT MOST 1048576: true; the input reads as it did. -/
def topPlanUptoRow : OpenClaim := { program := "ytbffmhpkenoogaagreatdoor", sum := "25fe4e2b50f3d9bf358d80f09adb686d27886a6bcf0d4dccdb6344e4aa01bae0", func := "berthshift/berthshifttop.TopPlan", spec := "topPlan", unfollowed := true, recurses := true, named := ["berthshift/directory.nowhere", "berthshift/cluster.unknown"], apart := false, laid := [("berthshift/directory.nowhere", laid_berthshift_directory_nowhere), ("berthshift/cluster.unknown", laid_berthshift_cluster_unknown)], narrowed := true }
def TopPlanUptoSaid : Prop := topPlanUptoRow.holds Tryz.pinned (OpenSpec.upto topPlanSpec)

end Rows
end Go.Proofs.YtbffmhpkenoogaaGreatDoor
