/-
  NARROWER THAN 'FOR EVERY INPUT', by the rows' own cells (each row's printed sentence says how): DirectoryChecks: laid · DirectoryNews: laid.
  DERIVED. THE GIVEN ROWS OF THIS SEAT. 2 by the template 'for every input the law returns true; each argument reads behind the call as it read before'; 0 by the template 'total and deterministic' (their statements: YtefkifgonadiiaaDoorTotals.lean).
  GIVEN WITH THE SEED: the statements are not yours to turn. If you find one false, say at which input.
  Laid BY PROGRAM, IN A SANDBOX (cutbox-rows.mjs): the forced cells as the released guide's own fill.sh prints them over the translation acd909ebfe1defe9… (all of the seat's roots in one cut). By AI agents, Wed Nov 11 2026. No macro, syntax, notation, axiom, sorry.
-/
import Derived.Test.YtefkifgonadiiaaDoorChecked
import GoSem.Claim
import GoSem.ClaimJoined
import GoSem.ClaimMapViews
import Derived.JoinedTies
import Derived.KernelRfl
namespace Go.Proofs.YtefkifgonadiiaaDoor
/- THE CELL 'sum', in the pinned program and in every row, IS THE sha256 OF THE DUMP (.gsa) THAT YtefkifgonadiiaaDoorProg.lean LOADS. Nothing in Lean hashes anything: it is a label: what it is worth is what the hold of that sum in a sandbox is worth. -/
noncomputable def Tryd.pinned : Pinned := { name := "ytefkifgonadiiaadoor", sum := "acd909ebfe1defe948f29656c591ec2ec4f8376016effd8961b7258143296c27", checked := Tryd.checked }
namespace Rows
def none {H : Type} : Left H := { results := [], args := [] }

/- WHAT THE LISTED PACKAGE-LEVEL VARIABLES READ AS WHEN THE CALL BEGINS. Each datum BY PROGRAM (the guide's laid-datum.mjs) off the statement by which the dump's own 'gosem.cut.vars' lays the variable. In a bare row this is a premise. The card (YtefkifgonadiiaaDoorCards.lean) ties it to the program's text. -/
def laid_berthshift_directory_nowhere {H : Type} : DataW H := .agg [.lit (.int .i64 (-1)), .lit (.int .i64 0)]

/-- 'berthshiftlaw.DirectoryChecks': WHATEVER THE INPUT: true; the input reads as it did. -/
def directoryChecksSpec : ChangeSpec := { name := "directoryChecks", fn := fun _ => fun
  | [d] => { results := [.lit (.bool true)], args := [d] }
  | _ => none }
def directoryChecksRow : OpenClaim := { program := "ytefkifgonadiiaadoor", sum := "acd909ebfe1defe948f29656c591ec2ec4f8376016effd8961b7258143296c27", func := "berthshift/berthshiftlaw.DirectoryChecks", spec := "directoryChecks", named := ["berthshift/directory.nowhere"], apart := false, laid := [("berthshift/directory.nowhere", laid_berthshift_directory_nowhere)] }
def DirectoryChecksSaid : Prop := directoryChecksRow.holds Tryd.pinned (OpenSpec.ofChange directoryChecksSpec)

/-- ITS FALSE NEIGHBOUR: 'it returns false'. Refute it at one input. -/
def directoryChecksWrong : ChangeSpec := { name := "directoryChecks", fn := fun _ => fun
  | [d] => { results := [.lit (.bool false)], args := [d] }
  | _ => none }
def DirectoryChecksWrongFalsely : Prop := directoryChecksRow.holds Tryd.pinned (OpenSpec.ofChange directoryChecksWrong)

/-- 'berthshiftlaw.DirectoryNews': WHATEVER THE INPUT: true; the input reads as it did. -/
def directoryNewsSpec : ChangeSpec := { name := "directoryNews", fn := fun _ => fun
  | [] => { results := [.lit (.bool true)], args := [] }
  | _ => none }
def directoryNewsRow : OpenClaim := { program := "ytefkifgonadiiaadoor", sum := "acd909ebfe1defe948f29656c591ec2ec4f8376016effd8961b7258143296c27", func := "berthshift/berthshiftlaw.DirectoryNews", spec := "directoryNews", named := ["berthshift/directory.nowhere"], apart := false, laid := [("berthshift/directory.nowhere", laid_berthshift_directory_nowhere)] }
def DirectoryNewsSaid : Prop := directoryNewsRow.holds Tryd.pinned (OpenSpec.ofChange directoryNewsSpec)

/-- ITS FALSE NEIGHBOUR: 'it returns false'. Refute it at one input. -/
def directoryNewsWrong : ChangeSpec := { name := "directoryNews", fn := fun _ => fun
  | [] => { results := [.lit (.bool false)], args := [] }
  | _ => none }
def DirectoryNewsWrongFalsely : Prop := directoryNewsRow.holds Tryd.pinned (OpenSpec.ofChange directoryNewsWrong)

/- THE SECOND FORM. 'bulk': how many values and letters a reading holds, each counted each time it is reached (what is shared counts as often as it is met; a slice's spare places count too). A statement '..UptoSaid' is the law's where the arguments, and the package variables that the reading takes, are together of bulk at most 1048576: NARROWER than '..Said'. Prove '..Said' where nothing that the law and all that it calls make is longer than what came in: it says more and counts as full. Else prove '..UptoSaid'. A law counts once. -/
mutual
def uptoBulk {H : Type} : DataW H → Nat
  | .lit (.string bytes) => bytes.length + 1
  | .lit _ => 1
  | .nil => 1
  | .ptr d => uptoBulk d + 1
  | .slice elems spare => uptoBulkAll elems + uptoBulkAll spare + 1
  | .agg parts => uptoBulkAll parts + 1
  | .iface _ d => uptoBulk d + 1
  | .map entries => uptoBulkEntries entries + 1
  | .held _ => 1
def uptoBulkAll {H : Type} : List (DataW H) → Nat
  | [] => 0
  | d :: r => uptoBulk d + uptoBulkAll r
def uptoBulkEntries {H : Type} : List (Lit × DataW H) → Nat
  | [] => 0
  | x :: r => uptoBulkEntry x + uptoBulkEntries r
def uptoBulkEntry {H : Type} : Lit × DataW H → Nat
  | (.string bytes, d) => bytes.length + uptoBulk d + 1
  | (_, d) => uptoBulk d + 1
 end
def uptoSmall : (H : Type) → List (DataW H) → Bool := fun _ ds => decide (uptoBulkAll ds ≤ 1048576)
def OpenSpec.upto (s : _root_.Go.ChangeSpec) : _root_.Go.OpenSpec := { _root_.Go.OpenSpec.ofChange s with cond := some uptoSmall }

/-- 'berthshiftlaw.DirectoryChecks', WHERE WHAT IT READS IS OF BULK AT MOST 1048576: true; the input reads as it did. -/
def directoryChecksUptoRow : OpenClaim := { program := "ytefkifgonadiiaadoor", sum := "acd909ebfe1defe948f29656c591ec2ec4f8376016effd8961b7258143296c27", func := "berthshift/berthshiftlaw.DirectoryChecks", spec := "directoryChecks", named := ["berthshift/directory.nowhere"], apart := false, laid := [("berthshift/directory.nowhere", laid_berthshift_directory_nowhere)], narrowed := true }
def DirectoryChecksUptoSaid : Prop := directoryChecksUptoRow.holds Tryd.pinned (OpenSpec.upto directoryChecksSpec)

/-- 'berthshiftlaw.DirectoryNews', WHERE WHAT IT READS IS OF BULK AT MOST 1048576: true; the input reads as it did. -/
def directoryNewsUptoRow : OpenClaim := { program := "ytefkifgonadiiaadoor", sum := "acd909ebfe1defe948f29656c591ec2ec4f8376016effd8961b7258143296c27", func := "berthshift/berthshiftlaw.DirectoryNews", spec := "directoryNews", named := ["berthshift/directory.nowhere"], apart := false, laid := [("berthshift/directory.nowhere", laid_berthshift_directory_nowhere)], narrowed := true }
def DirectoryNewsUptoSaid : Prop := directoryNewsUptoRow.holds Tryd.pinned (OpenSpec.upto directoryNewsSpec)

end Rows
end Go.Proofs.YtefkifgonadiiaaDoor
