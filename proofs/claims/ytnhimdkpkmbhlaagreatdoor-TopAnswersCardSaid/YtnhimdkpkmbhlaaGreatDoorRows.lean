/-
  NARROWER THAN 'FOR EVERY INPUT', by the rows' own cells (each row's printed sentence says how): TopLinear: laid · TopNever: laid · TopStale: laid · TopHandles: laid · TopEpochs: laid · TopAsked: laid · TopUnsynced: laid · TopAnswers: laid.
  DERIVED. THE GIVEN ROWS OF THIS SEAT. 8 by the template 'for every input the law returns true; each argument reads behind the call as it read before'; 0 by the template 'total and deterministic' (their statements: YtnhimdkpkmbhlaaGreatDoorTotals.lean).
  GIVEN WITH THE SEED: the statements are not yours to turn. If you find one false, say at which input.
  Laid BY PROGRAM, IN A SANDBOX (cutbox-rows.mjs): the forced cells as the released guide's own fill.sh prints them over the translation f58c6b3703fe28c6… (all of the seat's roots in one cut). By AI agents, Wed Nov 11 2026. No macro, syntax, notation, axiom, sorry.
-/
import Derived.Test.YtnhimdkpkmbhlaaGreatDoorChecked
import GoSem.Claim
import GoSem.ClaimJoined
import GoSem.ClaimMapViews
import Derived.JoinedTies
import Derived.KernelRfl
namespace Go.Proofs.YtnhimdkpkmbhlaaGreatDoor
/- THE CELL 'sum', in the pinned program and in every row, IS THE sha256 OF THE DUMP (.gsa) THAT YtnhimdkpkmbhlaaGreatDoorProg.lean LOADS. Nothing in Lean hashes anything: it is a label: what it is worth is what the hold of that sum in a sandbox is worth. -/
noncomputable def Tryz.pinned : Pinned := { name := "ytnhimdkpkmbhlaagreatdoor", sum := "f58c6b3703fe28c643a0eb6e761c34bf9d51958f2ab543ec658cb95235bd58d4", checked := Tryz.checked }
namespace Rows
def none {H : Type} : Left H := { results := [], args := [] }

/- WHAT THE LISTED PACKAGE-LEVEL VARIABLES READ AS WHEN THE CALL BEGINS. Each datum BY PROGRAM (the guide's laid-datum.mjs) off the statement by which the dump's own 'gosem.cut.vars' lays the variable. In a bare row this is a premise. The card (YtnhimdkpkmbhlaaGreatDoorCards.lean) ties it to the program's text. -/
def laid_berthshift_directory_nowhere {H : Type} : DataW H := .agg [.lit (.int .i64 (-1)), .lit (.int .i64 0)]
def laid_berthshift_cluster_unknown {H : Type} : DataW H := .agg [.lit (.int .i64 (-1)), .lit (.int .i64 0)]

/-- 'berthshifttop.TopLinear': WHATEVER THE INPUT: true; the input reads as it did. -/
def topLinearSpec : ChangeSpec := { name := "topLinear", fn := fun _ => fun
  | [d] => { results := [.lit (.bool true)], args := [d] }
  | _ => none }
def topLinearRow : OpenClaim := { program := "ytnhimdkpkmbhlaagreatdoor", sum := "f58c6b3703fe28c643a0eb6e761c34bf9d51958f2ab543ec658cb95235bd58d4", func := "berthshift/berthshifttop.TopLinear", spec := "topLinear", unfollowed := true, recurses := true, named := ["berthshift/directory.nowhere", "berthshift/cluster.unknown"], apart := false, laid := [("berthshift/directory.nowhere", laid_berthshift_directory_nowhere), ("berthshift/cluster.unknown", laid_berthshift_cluster_unknown)] }
def TopLinearSaid : Prop := topLinearRow.holds Tryz.pinned (OpenSpec.ofChange topLinearSpec)

/-- ITS FALSE NEIGHBOUR: 'it returns false'. Refute it at one input. -/
def topLinearWrong : ChangeSpec := { name := "topLinear", fn := fun _ => fun
  | [d] => { results := [.lit (.bool false)], args := [d] }
  | _ => none }
def TopLinearWrongFalsely : Prop := topLinearRow.holds Tryz.pinned (OpenSpec.ofChange topLinearWrong)

/-- 'berthshifttop.TopNever': WHATEVER THE INPUT: true; the input reads as it did. -/
def topNeverSpec : ChangeSpec := { name := "topNever", fn := fun _ => fun
  | [d] => { results := [.lit (.bool true)], args := [d] }
  | _ => none }
def topNeverRow : OpenClaim := { program := "ytnhimdkpkmbhlaagreatdoor", sum := "f58c6b3703fe28c643a0eb6e761c34bf9d51958f2ab543ec658cb95235bd58d4", func := "berthshift/berthshifttop.TopNever", spec := "topNever", unfollowed := true, recurses := true, named := ["berthshift/directory.nowhere", "berthshift/cluster.unknown"], apart := false, laid := [("berthshift/directory.nowhere", laid_berthshift_directory_nowhere), ("berthshift/cluster.unknown", laid_berthshift_cluster_unknown)] }
def TopNeverSaid : Prop := topNeverRow.holds Tryz.pinned (OpenSpec.ofChange topNeverSpec)

/-- ITS FALSE NEIGHBOUR: 'it returns false'. Refute it at one input. -/
def topNeverWrong : ChangeSpec := { name := "topNever", fn := fun _ => fun
  | [d] => { results := [.lit (.bool false)], args := [d] }
  | _ => none }
def TopNeverWrongFalsely : Prop := topNeverRow.holds Tryz.pinned (OpenSpec.ofChange topNeverWrong)

/-- 'berthshifttop.TopStale': WHATEVER THE INPUT: true; the input reads as it did. -/
def topStaleSpec : ChangeSpec := { name := "topStale", fn := fun _ => fun
  | [d] => { results := [.lit (.bool true)], args := [d] }
  | _ => none }
def topStaleRow : OpenClaim := { program := "ytnhimdkpkmbhlaagreatdoor", sum := "f58c6b3703fe28c643a0eb6e761c34bf9d51958f2ab543ec658cb95235bd58d4", func := "berthshift/berthshifttop.TopStale", spec := "topStale", unfollowed := true, recurses := true, named := ["berthshift/directory.nowhere", "berthshift/cluster.unknown"], apart := false, laid := [("berthshift/directory.nowhere", laid_berthshift_directory_nowhere), ("berthshift/cluster.unknown", laid_berthshift_cluster_unknown)] }
def TopStaleSaid : Prop := topStaleRow.holds Tryz.pinned (OpenSpec.ofChange topStaleSpec)

/-- ITS FALSE NEIGHBOUR: 'it returns false'. Refute it at one input. -/
def topStaleWrong : ChangeSpec := { name := "topStale", fn := fun _ => fun
  | [d] => { results := [.lit (.bool false)], args := [d] }
  | _ => none }
def TopStaleWrongFalsely : Prop := topStaleRow.holds Tryz.pinned (OpenSpec.ofChange topStaleWrong)

/-- 'berthshifttop.TopHandles': WHATEVER THE INPUT: true; the input reads as it did. -/
def topHandlesSpec : ChangeSpec := { name := "topHandles", fn := fun _ => fun
  | [d] => { results := [.lit (.bool true)], args := [d] }
  | _ => none }
def topHandlesRow : OpenClaim := { program := "ytnhimdkpkmbhlaagreatdoor", sum := "f58c6b3703fe28c643a0eb6e761c34bf9d51958f2ab543ec658cb95235bd58d4", func := "berthshift/berthshifttop.TopHandles", spec := "topHandles", unfollowed := true, recurses := true, named := ["berthshift/directory.nowhere", "berthshift/cluster.unknown"], apart := false, laid := [("berthshift/directory.nowhere", laid_berthshift_directory_nowhere), ("berthshift/cluster.unknown", laid_berthshift_cluster_unknown)] }
def TopHandlesSaid : Prop := topHandlesRow.holds Tryz.pinned (OpenSpec.ofChange topHandlesSpec)

/-- ITS FALSE NEIGHBOUR: 'it returns false'. Refute it at one input. -/
def topHandlesWrong : ChangeSpec := { name := "topHandles", fn := fun _ => fun
  | [d] => { results := [.lit (.bool false)], args := [d] }
  | _ => none }
def TopHandlesWrongFalsely : Prop := topHandlesRow.holds Tryz.pinned (OpenSpec.ofChange topHandlesWrong)

/-- 'berthshifttop.TopEpochs': WHATEVER THE INPUT: true; the input reads as it did. -/
def topEpochsSpec : ChangeSpec := { name := "topEpochs", fn := fun _ => fun
  | [d] => { results := [.lit (.bool true)], args := [d] }
  | _ => none }
def topEpochsRow : OpenClaim := { program := "ytnhimdkpkmbhlaagreatdoor", sum := "f58c6b3703fe28c643a0eb6e761c34bf9d51958f2ab543ec658cb95235bd58d4", func := "berthshift/berthshifttop.TopEpochs", spec := "topEpochs", unfollowed := true, recurses := true, named := ["berthshift/directory.nowhere", "berthshift/cluster.unknown"], apart := false, laid := [("berthshift/directory.nowhere", laid_berthshift_directory_nowhere), ("berthshift/cluster.unknown", laid_berthshift_cluster_unknown)] }
def TopEpochsSaid : Prop := topEpochsRow.holds Tryz.pinned (OpenSpec.ofChange topEpochsSpec)

/-- ITS FALSE NEIGHBOUR: 'it returns false'. Refute it at one input. -/
def topEpochsWrong : ChangeSpec := { name := "topEpochs", fn := fun _ => fun
  | [d] => { results := [.lit (.bool false)], args := [d] }
  | _ => none }
def TopEpochsWrongFalsely : Prop := topEpochsRow.holds Tryz.pinned (OpenSpec.ofChange topEpochsWrong)

/-- 'berthshifttop.TopAsked': WHATEVER THE INPUT: true; the input reads as it did. -/
def topAskedSpec : ChangeSpec := { name := "topAsked", fn := fun _ => fun
  | [d] => { results := [.lit (.bool true)], args := [d] }
  | _ => none }
def topAskedRow : OpenClaim := { program := "ytnhimdkpkmbhlaagreatdoor", sum := "f58c6b3703fe28c643a0eb6e761c34bf9d51958f2ab543ec658cb95235bd58d4", func := "berthshift/berthshifttop.TopAsked", spec := "topAsked", unfollowed := true, recurses := true, named := ["berthshift/directory.nowhere", "berthshift/cluster.unknown"], apart := false, laid := [("berthshift/directory.nowhere", laid_berthshift_directory_nowhere), ("berthshift/cluster.unknown", laid_berthshift_cluster_unknown)] }
def TopAskedSaid : Prop := topAskedRow.holds Tryz.pinned (OpenSpec.ofChange topAskedSpec)

/-- ITS FALSE NEIGHBOUR: 'it returns false'. Refute it at one input. -/
def topAskedWrong : ChangeSpec := { name := "topAsked", fn := fun _ => fun
  | [d] => { results := [.lit (.bool false)], args := [d] }
  | _ => none }
def TopAskedWrongFalsely : Prop := topAskedRow.holds Tryz.pinned (OpenSpec.ofChange topAskedWrong)

/-- 'berthshifttop.TopUnsynced': WHATEVER THE INPUT: true; the input reads as it did. -/
def topUnsyncedSpec : ChangeSpec := { name := "topUnsynced", fn := fun _ => fun
  | [d1, d2] => { results := [.lit (.bool true)], args := [d1, d2] }
  | _ => none }
def topUnsyncedRow : OpenClaim := { program := "ytnhimdkpkmbhlaagreatdoor", sum := "f58c6b3703fe28c643a0eb6e761c34bf9d51958f2ab543ec658cb95235bd58d4", func := "berthshift/berthshifttop.TopUnsynced", spec := "topUnsynced", unfollowed := true, recurses := true, named := ["berthshift/directory.nowhere", "berthshift/cluster.unknown"], apart := false, laid := [("berthshift/directory.nowhere", laid_berthshift_directory_nowhere), ("berthshift/cluster.unknown", laid_berthshift_cluster_unknown)] }
def TopUnsyncedSaid : Prop := topUnsyncedRow.holds Tryz.pinned (OpenSpec.ofChange topUnsyncedSpec)

/-- ITS FALSE NEIGHBOUR: 'it returns false'. Refute it at one input. -/
def topUnsyncedWrong : ChangeSpec := { name := "topUnsynced", fn := fun _ => fun
  | [d1, d2] => { results := [.lit (.bool false)], args := [d1, d2] }
  | _ => none }
def TopUnsyncedWrongFalsely : Prop := topUnsyncedRow.holds Tryz.pinned (OpenSpec.ofChange topUnsyncedWrong)

/-- 'berthshifttop.TopAnswers': WHATEVER THE INPUT: true; the input reads as it did. -/
def topAnswersSpec : ChangeSpec := { name := "topAnswers", fn := fun _ => fun
  | [d] => { results := [.lit (.bool true)], args := [d] }
  | _ => none }
def topAnswersRow : OpenClaim := { program := "ytnhimdkpkmbhlaagreatdoor", sum := "f58c6b3703fe28c643a0eb6e761c34bf9d51958f2ab543ec658cb95235bd58d4", func := "berthshift/berthshifttop.TopAnswers", spec := "topAnswers", unfollowed := true, recurses := true, named := ["berthshift/directory.nowhere", "berthshift/cluster.unknown"], apart := false, laid := [("berthshift/directory.nowhere", laid_berthshift_directory_nowhere), ("berthshift/cluster.unknown", laid_berthshift_cluster_unknown)] }
def TopAnswersSaid : Prop := topAnswersRow.holds Tryz.pinned (OpenSpec.ofChange topAnswersSpec)

/-- ITS FALSE NEIGHBOUR: 'it returns false'. Refute it at one input. -/
def topAnswersWrong : ChangeSpec := { name := "topAnswers", fn := fun _ => fun
  | [d] => { results := [.lit (.bool false)], args := [d] }
  | _ => none }
def TopAnswersWrongFalsely : Prop := topAnswersRow.holds Tryz.pinned (OpenSpec.ofChange topAnswersWrong)

/- THE SECOND FORM. 'bulk': how many values and letters a reading holds, each counted each time it is reached (what is shared counts as often as it is met; a slice's spare places count too). A statement '..UptoSaid' is the law's where the arguments, and the package variables that the reading takes, are together of bulk at most 1048576: NARROWER than '..Said'. Prove '..Said' where nothing that the law and all that it calls make is longer than what came in: it says more and counts as full. Else prove '..UptoSaid'. A law counts once. -/
mutual
def uptoBulk {H : Type} : DataW H → Nat
  | .lit (.string bytes) => bytes.length + 1
  | .lit _ => 1
  | .nil => 1
  | .ptr d => uptoBulk d + 1
  | .slice elems spare => uptoBulkAll elems + uptoBulkAll spare + 1
  | .agg parts => uptoBulkAll parts + 1
  | .iface _ d => uptoBulk d + 1
  | .map entries => uptoBulkEntries entries + 1
  | .held _ => 1
def uptoBulkAll {H : Type} : List (DataW H) → Nat
  | [] => 0
  | d :: r => uptoBulk d + uptoBulkAll r
def uptoBulkEntries {H : Type} : List (Lit × DataW H) → Nat
  | [] => 0
  | x :: r => uptoBulkEntry x + uptoBulkEntries r
def uptoBulkEntry {H : Type} : Lit × DataW H → Nat
  | (.string bytes, d) => bytes.length + uptoBulk d + 1
  | (_, d) => uptoBulk d + 1
 end
def uptoSmall : (H : Type) → List (DataW H) → Bool := fun _ ds => decide (uptoBulkAll ds ≤ 1048576)
def OpenSpec.upto (s : _root_.Go.ChangeSpec) : _root_.Go.OpenSpec := { _root_.Go.OpenSpec.ofChange s with cond := some uptoSmall }

/-- 'berthshifttop.TopLinear', WHERE WHAT IT READS IS OF BULK AT MOST 1048576: true; the input reads as it did. -/
def topLinearUptoRow : OpenClaim := { program := "ytnhimdkpkmbhlaagreatdoor", sum := "f58c6b3703fe28c643a0eb6e761c34bf9d51958f2ab543ec658cb95235bd58d4", func := "berthshift/berthshifttop.TopLinear", spec := "topLinear", unfollowed := true, recurses := true, named := ["berthshift/directory.nowhere", "berthshift/cluster.unknown"], apart := false, laid := [("berthshift/directory.nowhere", laid_berthshift_directory_nowhere), ("berthshift/cluster.unknown", laid_berthshift_cluster_unknown)], narrowed := true }
def TopLinearUptoSaid : Prop := topLinearUptoRow.holds Tryz.pinned (OpenSpec.upto topLinearSpec)

/-- 'berthshifttop.TopNever', WHERE WHAT IT READS IS OF BULK AT MOST 1048576: true; the input reads as it did. -/
def topNeverUptoRow : OpenClaim := { program := "ytnhimdkpkmbhlaagreatdoor", sum := "f58c6b3703fe28c643a0eb6e761c34bf9d51958f2ab543ec658cb95235bd58d4", func := "berthshift/berthshifttop.TopNever", spec := "topNever", unfollowed := true, recurses := true, named := ["berthshift/directory.nowhere", "berthshift/cluster.unknown"], apart := false, laid := [("berthshift/directory.nowhere", laid_berthshift_directory_nowhere), ("berthshift/cluster.unknown", laid_berthshift_cluster_unknown)], narrowed := true }
def TopNeverUptoSaid : Prop := topNeverUptoRow.holds Tryz.pinned (OpenSpec.upto topNeverSpec)

/-- 'berthshifttop.TopStale', WHERE WHAT IT READS IS OF BULK AT MOST 1048576: true; the input reads as it did. -/
def topStaleUptoRow : OpenClaim := { program := "ytnhimdkpkmbhlaagreatdoor", sum := "f58c6b3703fe28c643a0eb6e761c34bf9d51958f2ab543ec658cb95235bd58d4", func := "berthshift/berthshifttop.TopStale", spec := "topStale", unfollowed := true, recurses := true, named := ["berthshift/directory.nowhere", "berthshift/cluster.unknown"], apart := false, laid := [("berthshift/directory.nowhere", laid_berthshift_directory_nowhere), ("berthshift/cluster.unknown", laid_berthshift_cluster_unknown)], narrowed := true }
def TopStaleUptoSaid : Prop := topStaleUptoRow.holds Tryz.pinned (OpenSpec.upto topStaleSpec)

/-- 'berthshifttop.TopHandles', WHERE WHAT IT READS IS OF BULK AT MOST 1048576: true; the input reads as it did. -/
def topHandlesUptoRow : OpenClaim := { program := "ytnhimdkpkmbhlaagreatdoor", sum := "f58c6b3703fe28c643a0eb6e761c34bf9d51958f2ab543ec658cb95235bd58d4", func := "berthshift/berthshifttop.TopHandles", spec := "topHandles", unfollowed := true, recurses := true, named := ["berthshift/directory.nowhere", "berthshift/cluster.unknown"], apart := false, laid := [("berthshift/directory.nowhere", laid_berthshift_directory_nowhere), ("berthshift/cluster.unknown", laid_berthshift_cluster_unknown)], narrowed := true }
def TopHandlesUptoSaid : Prop := topHandlesUptoRow.holds Tryz.pinned (OpenSpec.upto topHandlesSpec)

/-- 'berthshifttop.TopEpochs', WHERE WHAT IT READS IS OF BULK AT MOST 1048576: true; the input reads as it did. -/
def topEpochsUptoRow : OpenClaim := { program := "ytnhimdkpkmbhlaagreatdoor", sum := "f58c6b3703fe28c643a0eb6e761c34bf9d51958f2ab543ec658cb95235bd58d4", func := "berthshift/berthshifttop.TopEpochs", spec := "topEpochs", unfollowed := true, recurses := true, named := ["berthshift/directory.nowhere", "berthshift/cluster.unknown"], apart := false, laid := [("berthshift/directory.nowhere", laid_berthshift_directory_nowhere), ("berthshift/cluster.unknown", laid_berthshift_cluster_unknown)], narrowed := true }
def TopEpochsUptoSaid : Prop := topEpochsUptoRow.holds Tryz.pinned (OpenSpec.upto topEpochsSpec)

/-- 'berthshifttop.TopAsked', WHERE WHAT IT READS IS OF BULK AT MOST 1048576: true; the input reads as it did. -/
def topAskedUptoRow : OpenClaim := { program := "ytnhimdkpkmbhlaagreatdoor", sum := "f58c6b3703fe28c643a0eb6e761c34bf9d51958f2ab543ec658cb95235bd58d4", func := "berthshift/berthshifttop.TopAsked", spec := "topAsked", unfollowed := true, recurses := true, named := ["berthshift/directory.nowhere", "berthshift/cluster.unknown"], apart := false, laid := [("berthshift/directory.nowhere", laid_berthshift_directory_nowhere), ("berthshift/cluster.unknown", laid_berthshift_cluster_unknown)], narrowed := true }
def TopAskedUptoSaid : Prop := topAskedUptoRow.holds Tryz.pinned (OpenSpec.upto topAskedSpec)

/-- 'berthshifttop.TopUnsynced', WHERE WHAT IT READS IS OF BULK AT MOST 1048576: true; the input reads as it did. -/
def topUnsyncedUptoRow : OpenClaim := { program := "ytnhimdkpkmbhlaagreatdoor", sum := "f58c6b3703fe28c643a0eb6e761c34bf9d51958f2ab543ec658cb95235bd58d4", func := "berthshift/berthshifttop.TopUnsynced", spec := "topUnsynced", unfollowed := true, recurses := true, named := ["berthshift/directory.nowhere", "berthshift/cluster.unknown"], apart := false, laid := [("berthshift/directory.nowhere", laid_berthshift_directory_nowhere), ("berthshift/cluster.unknown", laid_berthshift_cluster_unknown)], narrowed := true }
def TopUnsyncedUptoSaid : Prop := topUnsyncedUptoRow.holds Tryz.pinned (OpenSpec.upto topUnsyncedSpec)

/-- 'berthshifttop.TopAnswers', WHERE WHAT IT READS IS OF BULK AT MOST 1048576: true; the input reads as it did. -/
def topAnswersUptoRow : OpenClaim := { program := "ytnhimdkpkmbhlaagreatdoor", sum := "f58c6b3703fe28c643a0eb6e761c34bf9d51958f2ab543ec658cb95235bd58d4", func := "berthshift/berthshifttop.TopAnswers", spec := "topAnswers", unfollowed := true, recurses := true, named := ["berthshift/directory.nowhere", "berthshift/cluster.unknown"], apart := false, laid := [("berthshift/directory.nowhere", laid_berthshift_directory_nowhere), ("berthshift/cluster.unknown", laid_berthshift_cluster_unknown)], narrowed := true }
def TopAnswersUptoSaid : Prop := topAnswersUptoRow.holds Tryz.pinned (OpenSpec.upto topAnswersSpec)

end Rows
end Go.Proofs.YtnhimdkpkmbhlaaGreatDoor
