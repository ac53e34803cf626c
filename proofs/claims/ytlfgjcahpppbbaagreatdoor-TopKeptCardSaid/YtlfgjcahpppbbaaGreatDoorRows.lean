/-
  NARROWER THAN 'FOR EVERY INPUT', by the rows' own cells (each row's printed sentence says how): TopState: laid · TopKept: laid.
  DERIVED. THE GIVEN ROWS OF THIS SEAT. 2 by the template 'for every input the law returns true; each argument reads behind the call as it read before'; 0 by the template 'total and deterministic' (their statements: YtlfgjcahpppbbaaGreatDoorTotals.lean).
  GIVEN WITH THE SEED: the statements are not yours to turn. If you find one false, say at which input.
  Laid BY PROGRAM, IN A SANDBOX (cutbox-rows.mjs): the forced cells as the released guide's own fill.sh prints them over the translation ce396cb9a43be1e7… (all of the seat's roots in one cut). By AI agents, Wed Nov 11 2026. No macro, syntax, notation, axiom, sorry.
-/
import Derived.Test.YtlfgjcahpppbbaaGreatDoorChecked
import GoSem.Claim
import GoSem.ClaimJoined
import GoSem.ClaimMapViews
import Derived.JoinedTies
import Derived.KernelRfl
namespace Go.Proofs.YtlfgjcahpppbbaaGreatDoor
/- THE CELL 'sum', in the pinned program and in every row, IS THE sha256 OF THE DUMP (.gsa) THAT YtlfgjcahpppbbaaGreatDoorProg.lean LOADS. Nothing in Lean hashes anything: it is a label: what it is worth is what the hold of that sum in a sandbox is worth. -/
noncomputable def Tryz.pinned : Pinned := { name := "ytlfgjcahpppbbaagreatdoor", sum := "ce396cb9a43be1e7857abc61a163dec93b09578398c165e5e765940438150776", checked := Tryz.checked }
namespace Rows
def none {H : Type} : Left H := { results := [], args := [] }

/- WHAT THE LISTED PACKAGE-LEVEL VARIABLES READ AS WHEN THE CALL BEGINS. Each datum BY PROGRAM (the guide's laid-datum.mjs) off the statement by which the dump's own 'gosem.cut.vars' lays the variable. In a bare row this is a premise. The card (YtlfgjcahpppbbaaGreatDoorCards.lean) ties it to the program's text. -/
def laid_berthshift_directory_nowhere {H : Type} : DataW H := .agg [.lit (.int .i64 (-1)), .lit (.int .i64 0)]
def laid_berthshift_cluster_unknown {H : Type} : DataW H := .agg [.lit (.int .i64 (-1)), .lit (.int .i64 0)]

/-- 'berthshifttop.TopState': WHATEVER THE INPUT: true; the input reads as it did. -/
def topStateSpec : ChangeSpec := { name := "topState", fn := fun _ => fun
  | [d] => { results := [.lit (.bool true)], args := [d] }
  | _ => none }
def topStateRow : OpenClaim := { program := "ytlfgjcahpppbbaagreatdoor", sum := "ce396cb9a43be1e7857abc61a163dec93b09578398c165e5e765940438150776", func := "berthshift/berthshifttop.TopState", spec := "topState", unfollowed := true, recurses := true, named := ["berthshift/directory.nowhere", "berthshift/cluster.unknown"], apart := false, laid := [("berthshift/directory.nowhere", laid_berthshift_directory_nowhere), ("berthshift/cluster.unknown", laid_berthshift_cluster_unknown)] }
def TopStateSaid : Prop := topStateRow.holds Tryz.pinned (OpenSpec.ofChange topStateSpec)

/-- ITS FALSE NEIGHBOUR: 'it returns false'. Refute it at one input. -/
def topStateWrong : ChangeSpec := { name := "topState", fn := fun _ => fun
  | [d] => { results := [.lit (.bool false)], args := [d] }
  | _ => none }
def TopStateWrongFalsely : Prop := topStateRow.holds Tryz.pinned (OpenSpec.ofChange topStateWrong)

/-- 'berthshifttop.TopKept': WHATEVER THE INPUT: true; the input reads as it did. -/
def topKeptSpec : ChangeSpec := { name := "topKept", fn := fun _ => fun
  | [d] => { results := [.lit (.bool true)], args := [d] }
  | _ => none }
def topKeptRow : OpenClaim := { program := "ytlfgjcahpppbbaagreatdoor", sum := "ce396cb9a43be1e7857abc61a163dec93b09578398c165e5e765940438150776", func := "berthshift/berthshifttop.TopKept", spec := "topKept", unfollowed := true, recurses := true, named := ["berthshift/directory.nowhere", "berthshift/cluster.unknown"], apart := false, laid := [("berthshift/directory.nowhere", laid_berthshift_directory_nowhere), ("berthshift/cluster.unknown", laid_berthshift_cluster_unknown)] }
def TopKeptSaid : Prop := topKeptRow.holds Tryz.pinned (OpenSpec.ofChange topKeptSpec)

/-- ITS FALSE NEIGHBOUR: 'it returns false'. Refute it at one input. -/
def topKeptWrong : ChangeSpec := { name := "topKept", fn := fun _ => fun
  | [d] => { results := [.lit (.bool false)], args := [d] }
  | _ => none }
def TopKeptWrongFalsely : Prop := topKeptRow.holds Tryz.pinned (OpenSpec.ofChange topKeptWrong)

/- THE SECOND FORM. 'bulk': how many values and letters a reading holds, each counted each time it is reached (what is shared counts as often as it is met; a slice's spare places count too). A statement '..UptoSaid' is the law's where the arguments, and the package variables that the reading takes, are together of bulk at most 1048576: NARROWER than '..Said'. Prove '..Said' where nothing that the law and all that it calls make is longer than what came in: it says more and counts as full. Else prove '..UptoSaid'. A law counts once. -/
mutual
def uptoBulk {H : Type} : DataW H → Nat
  | .lit (.string bytes) => bytes.length + 1
  | .lit _ => 1
  | .nil => 1
  | .ptr d => uptoBulk d + 1
  | .slice elems spare => uptoBulkAll elems + uptoBulkAll spare + 1
  | .agg parts => uptoBulkAll parts + 1
  | .iface _ d => uptoBulk d + 1
  | .map entries => uptoBulkEntries entries + 1
  | .held _ => 1
def uptoBulkAll {H : Type} : List (DataW H) → Nat
  | [] => 0
  | d :: r => uptoBulk d + uptoBulkAll r
def uptoBulkEntries {H : Type} : List (Lit × DataW H) → Nat
  | [] => 0
  | x :: r => uptoBulkEntry x + uptoBulkEntries r
def uptoBulkEntry {H : Type} : Lit × DataW H → Nat
  | (.string bytes, d) => bytes.length + uptoBulk d + 1
  | (_, d) => uptoBulk d + 1
 end
def uptoSmall : (H : Type) → List (DataW H) → Bool := fun _ ds => decide (uptoBulkAll ds ≤ 1048576)
def OpenSpec.upto (s : _root_.Go.ChangeSpec) : _root_.Go.OpenSpec := { _root_.Go.OpenSpec.ofChange s with cond := some uptoSmall }

/-- 'berthshifttop.TopState', WHERE WHAT IT READS IS OF BULK AT MOST 1048576: true; the input reads as it did. -/
def topStateUptoRow : OpenClaim := { program := "ytlfgjcahpppbbaagreatdoor", sum := "ce396cb9a43be1e7857abc61a163dec93b09578398c165e5e765940438150776", func := "berthshift/berthshifttop.TopState", spec := "topState", unfollowed := true, recurses := true, named := ["berthshift/directory.nowhere", "berthshift/cluster.unknown"], apart := false, laid := [("berthshift/directory.nowhere", laid_berthshift_directory_nowhere), ("berthshift/cluster.unknown", laid_berthshift_cluster_unknown)], narrowed := true }
def TopStateUptoSaid : Prop := topStateUptoRow.holds Tryz.pinned (OpenSpec.upto topStateSpec)

/-- 'berthshifttop.TopKept', WHERE WHAT IT READS IS OF BULK AT MOST 1048576: true; the input reads as it did. -/
def topKeptUptoRow : OpenClaim := { program := "ytlfgjcahpppbbaagreatdoor", sum := "ce396cb9a43be1e7857abc61a163dec93b09578398c165e5e765940438150776", func := "berthshift/berthshifttop.TopKept", spec := "topKept", unfollowed := true, recurses := true, named := ["berthshift/directory.nowhere", "berthshift/cluster.unknown"], apart := false, laid := [("berthshift/directory.nowhere", laid_berthshift_directory_nowhere), ("berthshift/cluster.unknown", laid_berthshift_cluster_unknown)], narrowed := true }
def TopKeptUptoSaid : Prop := topKeptUptoRow.holds Tryz.pinned (OpenSpec.upto topKeptSpec)

end Rows
end Go.Proofs.YtlfgjcahpppbbaaGreatDoor
