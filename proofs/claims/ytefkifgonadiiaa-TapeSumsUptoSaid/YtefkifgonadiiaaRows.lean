/-
  No cell of these rows narrows 'for every input' (looked for: loops, veiled, ifaces, maps, wideKeys, modest, calm, conditions, laid).
  DERIVED. THE GIVEN ROWS OF THIS SEAT. 10 by the template 'for every input the law returns true; each argument reads behind the call as it read before'; 0 by the template 'total and deterministic' (their statements: YtefkifgonadiiaaTotals.lean).
  GIVEN WITH THE SEED: the statements are not yours to turn. If you find one false, say at which input.
  Laid BY PROGRAM, IN A SANDBOX (cutbox-rows.mjs): the forced cells as the released guide's own fill.sh prints them over the translation 3fea3fcbf6dbafca… (all of the seat's roots in one cut). By AI agents, Wed Nov 11 2026. No macro, syntax, notation, axiom, sorry.
-/
import Derived.Test.YtefkifgonadiiaaChecked
import GoSem.Claim
import GoSem.ClaimJoined
import GoSem.ClaimMapViews
import Derived.JoinedTies
import Derived.KernelRfl
namespace Go.Proofs.Ytefkifgonadiiaa
/- THE CELL 'sum', in the pinned program and in every row, IS THE sha256 OF THE DUMP (.gsa) THAT YtefkifgonadiiaaProg.lean LOADS. Nothing in Lean hashes anything: it is a label: what it is worth is what the hold of that sum in a sandbox is worth. -/
noncomputable def Try.pinned : Pinned := { name := "ytefkifgonadiiaa", sum := "3fea3fcbf6dbafca6766f048c0ad48dca1242f7bebd96452e25daa0f165a01bf", checked := Try.checked }
namespace Rows
def none {H : Type} : Left H := { results := [], args := [] }

/-- 'berthshiftlaw.Names': WHATEVER THE INPUT: true; the input reads as it did. -/
def namesSpec : ChangeSpec := { name := "names", fn := fun _ => fun
  | [] => { results := [.lit (.bool true)], args := [] }
  | _ => none }
def namesRow : OpenClaim := { program := "ytefkifgonadiiaa", sum := "3fea3fcbf6dbafca6766f048c0ad48dca1242f7bebd96452e25daa0f165a01bf", func := "berthshift/berthshiftlaw.Names", spec := "names", apart := false }
def NamesSaid : Prop := namesRow.holds Try.pinned (OpenSpec.ofChange namesSpec)

/-- ITS FALSE NEIGHBOUR: 'it returns false'. Refute it at one input. -/
def namesWrong : ChangeSpec := { name := "names", fn := fun _ => fun
  | [] => { results := [.lit (.bool false)], args := [] }
  | _ => none }
def NamesWrongFalsely : Prop := namesRow.holds Try.pinned (OpenSpec.ofChange namesWrong)

/-- 'berthshiftlaw.PackNumbers': WHATEVER THE INPUT: true; the input reads as it did. -/
def packNumbersSpec : ChangeSpec := { name := "packNumbers", fn := fun _ => fun
  | [d] => { results := [.lit (.bool true)], args := [d] }
  | _ => none }
def packNumbersRow : OpenClaim := { program := "ytefkifgonadiiaa", sum := "3fea3fcbf6dbafca6766f048c0ad48dca1242f7bebd96452e25daa0f165a01bf", func := "berthshift/berthshiftlaw.PackNumbers", spec := "packNumbers", apart := false }
def PackNumbersSaid : Prop := packNumbersRow.holds Try.pinned (OpenSpec.ofChange packNumbersSpec)

/-- ITS FALSE NEIGHBOUR: 'it returns false'. Refute it at one input. -/
def packNumbersWrong : ChangeSpec := { name := "packNumbers", fn := fun _ => fun
  | [d] => { results := [.lit (.bool false)], args := [d] }
  | _ => none }
def PackNumbersWrongFalsely : Prop := packNumbersRow.holds Try.pinned (OpenSpec.ofChange packNumbersWrong)

/-- 'berthshiftlaw.HistoryCommons': WHATEVER THE INPUT: true; the input reads as it did. -/
def historyCommonsSpec : ChangeSpec := { name := "historyCommons", fn := fun _ => fun
  | [d1, d2] => { results := [.lit (.bool true)], args := [d1, d2] }
  | _ => none }
def historyCommonsRow : OpenClaim := { program := "ytefkifgonadiiaa", sum := "3fea3fcbf6dbafca6766f048c0ad48dca1242f7bebd96452e25daa0f165a01bf", func := "berthshift/berthshiftlaw.HistoryCommons", spec := "historyCommons", apart := false }
def HistoryCommonsSaid : Prop := historyCommonsRow.holds Try.pinned (OpenSpec.ofChange historyCommonsSpec)

/-- ITS FALSE NEIGHBOUR: 'it returns false'. Refute it at one input. -/
def historyCommonsWrong : ChangeSpec := { name := "historyCommons", fn := fun _ => fun
  | [d1, d2] => { results := [.lit (.bool false)], args := [d1, d2] }
  | _ => none }
def HistoryCommonsWrongFalsely : Prop := historyCommonsRow.holds Try.pinned (OpenSpec.ofChange historyCommonsWrong)

/-- 'berthshiftlaw.TapeSums': WHATEVER THE INPUT: true; the input reads as it did. -/
def tapeSumsSpec : ChangeSpec := { name := "tapeSums", fn := fun _ => fun
  | [d] => { results := [.lit (.bool true)], args := [d] }
  | _ => none }
def tapeSumsRow : OpenClaim := { program := "ytefkifgonadiiaa", sum := "3fea3fcbf6dbafca6766f048c0ad48dca1242f7bebd96452e25daa0f165a01bf", func := "berthshift/berthshiftlaw.TapeSums", spec := "tapeSums", apart := false }
def TapeSumsSaid : Prop := tapeSumsRow.holds Try.pinned (OpenSpec.ofChange tapeSumsSpec)

/-- ITS FALSE NEIGHBOUR: 'it returns false'. Refute it at one input. -/
def tapeSumsWrong : ChangeSpec := { name := "tapeSums", fn := fun _ => fun
  | [d] => { results := [.lit (.bool false)], args := [d] }
  | _ => none }
def TapeSumsWrongFalsely : Prop := tapeSumsRow.holds Try.pinned (OpenSpec.ofChange tapeSumsWrong)

/-- 'berthshiftlaw.ClientNews': WHATEVER THE INPUT: true; the input reads as it did. -/
def clientNewsSpec : ChangeSpec := { name := "clientNews", fn := fun _ => fun
  | [d] => { results := [.lit (.bool true)], args := [d] }
  | _ => none }
def clientNewsRow : OpenClaim := { program := "ytefkifgonadiiaa", sum := "3fea3fcbf6dbafca6766f048c0ad48dca1242f7bebd96452e25daa0f165a01bf", func := "berthshift/berthshiftlaw.ClientNews", spec := "clientNews", apart := false }
def ClientNewsSaid : Prop := clientNewsRow.holds Try.pinned (OpenSpec.ofChange clientNewsSpec)

/-- ITS FALSE NEIGHBOUR: 'it returns false'. Refute it at one input. -/
def clientNewsWrong : ChangeSpec := { name := "clientNews", fn := fun _ => fun
  | [d] => { results := [.lit (.bool false)], args := [d] }
  | _ => none }
def ClientNewsWrongFalsely : Prop := clientNewsRow.holds Try.pinned (OpenSpec.ofChange clientNewsWrong)

/-- 'berthshiftlaw.PackTakes': WHATEVER THE INPUT: true; the input reads as it did. -/
def packTakesSpec : ChangeSpec := { name := "packTakes", fn := fun _ => fun
  | [d] => { results := [.lit (.bool true)], args := [d] }
  | _ => none }
def packTakesRow : OpenClaim := { program := "ytefkifgonadiiaa", sum := "3fea3fcbf6dbafca6766f048c0ad48dca1242f7bebd96452e25daa0f165a01bf", func := "berthshift/berthshiftlaw.PackTakes", spec := "packTakes", apart := false }
def PackTakesSaid : Prop := packTakesRow.holds Try.pinned (OpenSpec.ofChange packTakesSpec)

/-- ITS FALSE NEIGHBOUR: 'it returns false'. Refute it at one input. -/
def packTakesWrong : ChangeSpec := { name := "packTakes", fn := fun _ => fun
  | [d] => { results := [.lit (.bool false)], args := [d] }
  | _ => none }
def PackTakesWrongFalsely : Prop := packTakesRow.holds Try.pinned (OpenSpec.ofChange packTakesWrong)

/-- 'berthshiftlaw.WindowChecks': WHATEVER THE INPUT: true; the input reads as it did. -/
def windowChecksSpec : ChangeSpec := { name := "windowChecks", fn := fun _ => fun
  | [d] => { results := [.lit (.bool true)], args := [d] }
  | _ => none }
def windowChecksRow : OpenClaim := { program := "ytefkifgonadiiaa", sum := "3fea3fcbf6dbafca6766f048c0ad48dca1242f7bebd96452e25daa0f165a01bf", func := "berthshift/berthshiftlaw.WindowChecks", spec := "windowChecks", apart := false }
def WindowChecksSaid : Prop := windowChecksRow.holds Try.pinned (OpenSpec.ofChange windowChecksSpec)

/-- ITS FALSE NEIGHBOUR: 'it returns false'. Refute it at one input. -/
def windowChecksWrong : ChangeSpec := { name := "windowChecks", fn := fun _ => fun
  | [d] => { results := [.lit (.bool false)], args := [d] }
  | _ => none }
def WindowChecksWrongFalsely : Prop := windowChecksRow.holds Try.pinned (OpenSpec.ofChange windowChecksWrong)

/-- 'berthshiftlaw.PackChecks': WHATEVER THE INPUT: true; the input reads as it did. -/
def packChecksSpec : ChangeSpec := { name := "packChecks", fn := fun _ => fun
  | [d] => { results := [.lit (.bool true)], args := [d] }
  | _ => none }
def packChecksRow : OpenClaim := { program := "ytefkifgonadiiaa", sum := "3fea3fcbf6dbafca6766f048c0ad48dca1242f7bebd96452e25daa0f165a01bf", func := "berthshift/berthshiftlaw.PackChecks", spec := "packChecks", apart := false }
def PackChecksSaid : Prop := packChecksRow.holds Try.pinned (OpenSpec.ofChange packChecksSpec)

/-- ITS FALSE NEIGHBOUR: 'it returns false'. Refute it at one input. -/
def packChecksWrong : ChangeSpec := { name := "packChecks", fn := fun _ => fun
  | [d] => { results := [.lit (.bool false)], args := [d] }
  | _ => none }
def PackChecksWrongFalsely : Prop := packChecksRow.holds Try.pinned (OpenSpec.ofChange packChecksWrong)

/-- 'berthshiftlaw.TapeSyncs': WHATEVER THE INPUT: true; the input reads as it did. -/
def tapeSyncsSpec : ChangeSpec := { name := "tapeSyncs", fn := fun _ => fun
  | [d] => { results := [.lit (.bool true)], args := [d] }
  | _ => none }
def tapeSyncsRow : OpenClaim := { program := "ytefkifgonadiiaa", sum := "3fea3fcbf6dbafca6766f048c0ad48dca1242f7bebd96452e25daa0f165a01bf", func := "berthshift/berthshiftlaw.TapeSyncs", spec := "tapeSyncs", apart := false }
def TapeSyncsSaid : Prop := tapeSyncsRow.holds Try.pinned (OpenSpec.ofChange tapeSyncsSpec)

/-- ITS FALSE NEIGHBOUR: 'it returns false'. Refute it at one input. -/
def tapeSyncsWrong : ChangeSpec := { name := "tapeSyncs", fn := fun _ => fun
  | [d] => { results := [.lit (.bool false)], args := [d] }
  | _ => none }
def TapeSyncsWrongFalsely : Prop := tapeSyncsRow.holds Try.pinned (OpenSpec.ofChange tapeSyncsWrong)

/-- 'berthshiftlaw.TapeCrashes': WHATEVER THE INPUT: true; the input reads as it did. -/
def tapeCrashesSpec : ChangeSpec := { name := "tapeCrashes", fn := fun _ => fun
  | [d1, d2] => { results := [.lit (.bool true)], args := [d1, d2] }
  | _ => none }
def tapeCrashesRow : OpenClaim := { program := "ytefkifgonadiiaa", sum := "3fea3fcbf6dbafca6766f048c0ad48dca1242f7bebd96452e25daa0f165a01bf", func := "berthshift/berthshiftlaw.TapeCrashes", spec := "tapeCrashes", apart := false }
def TapeCrashesSaid : Prop := tapeCrashesRow.holds Try.pinned (OpenSpec.ofChange tapeCrashesSpec)

/-- ITS FALSE NEIGHBOUR: 'it returns false'. Refute it at one input. -/
def tapeCrashesWrong : ChangeSpec := { name := "tapeCrashes", fn := fun _ => fun
  | [d1, d2] => { results := [.lit (.bool false)], args := [d1, d2] }
  | _ => none }
def TapeCrashesWrongFalsely : Prop := tapeCrashesRow.holds Try.pinned (OpenSpec.ofChange tapeCrashesWrong)

/- THE SECOND FORM. 'bulk': how many values and letters a reading holds, each counted each time it is reached (what is shared counts as often as it is met; a slice's spare places count too). A statement '..UptoSaid' is the law's where the arguments, and the package variables that the reading takes, are together of bulk at most 1048576: NARROWER than '..Said'. Prove '..Said' where nothing that the law and all that it calls make is longer than what came in: it says more and counts as full. Else prove '..UptoSaid'. A law counts once. -/
mutual
def uptoBulk {H : Type} : DataW H → Nat
  | .lit (.string bytes) => bytes.length + 1
  | .lit _ => 1
  | .nil => 1
  | .ptr d => uptoBulk d + 1
  | .slice elems spare => uptoBulkAll elems + uptoBulkAll spare + 1
  | .agg parts => uptoBulkAll parts + 1
  | .iface _ d => uptoBulk d + 1
  | .map entries => uptoBulkEntries entries + 1
  | .held _ => 1
def uptoBulkAll {H : Type} : List (DataW H) → Nat
  | [] => 0
  | d :: r => uptoBulk d + uptoBulkAll r
def uptoBulkEntries {H : Type} : List (Lit × DataW H) → Nat
  | [] => 0
  | x :: r => uptoBulkEntry x + uptoBulkEntries r
def uptoBulkEntry {H : Type} : Lit × DataW H → Nat
  | (.string bytes, d) => bytes.length + uptoBulk d + 1
  | (_, d) => uptoBulk d + 1
 end
def uptoSmall : (H : Type) → List (DataW H) → Bool := fun _ ds => decide (uptoBulkAll ds ≤ 1048576)
def OpenSpec.upto (s : _root_.Go.ChangeSpec) : _root_.Go.OpenSpec := { _root_.Go.OpenSpec.ofChange s with cond := some uptoSmall }

/-- 'berthshiftlaw.Names', WHERE WHAT IT READS IS OF BULK AT MOST 1048576: true; the input reads as it did. -/
def namesUptoRow : OpenClaim := { program := "ytefkifgonadiiaa", sum := "3fea3fcbf6dbafca6766f048c0ad48dca1242f7bebd96452e25daa0f165a01bf", func := "berthshift/berthshiftlaw.Names", spec := "names", apart := false, narrowed := true }
def NamesUptoSaid : Prop := namesUptoRow.holds Try.pinned (OpenSpec.upto namesSpec)

/-- 'berthshiftlaw.PackNumbers', WHERE WHAT IT READS IS OF BULK AT MOST 1048576: true; the input reads as it did. -/
def packNumbersUptoRow : OpenClaim := { program := "ytefkifgonadiiaa", sum := "3fea3fcbf6dbafca6766f048c0ad48dca1242f7bebd96452e25daa0f165a01bf", func := "berthshift/berthshiftlaw.PackNumbers", spec := "packNumbers", apart := false, narrowed := true }
def PackNumbersUptoSaid : Prop := packNumbersUptoRow.holds Try.pinned (OpenSpec.upto packNumbersSpec)

/-- 'berthshiftlaw.HistoryCommons', WHERE WHAT IT READS IS OF BULK AT MOST 1048576: true; the input reads as it did. -/
def historyCommonsUptoRow : OpenClaim := { program := "ytefkifgonadiiaa", sum := "3fea3fcbf6dbafca6766f048c0ad48dca1242f7bebd96452e25daa0f165a01bf", func := "berthshift/berthshiftlaw.HistoryCommons", spec := "historyCommons", apart := false, narrowed := true }
def HistoryCommonsUptoSaid : Prop := historyCommonsUptoRow.holds Try.pinned (OpenSpec.upto historyCommonsSpec)

/-- 'berthshiftlaw.TapeSums', WHERE WHAT IT READS IS OF BULK AT MOST 1048576: true; the input reads as it did. -/
def tapeSumsUptoRow : OpenClaim := { program := "ytefkifgonadiiaa", sum := "3fea3fcbf6dbafca6766f048c0ad48dca1242f7bebd96452e25daa0f165a01bf", func := "berthshift/berthshiftlaw.TapeSums", spec := "tapeSums", apart := false, narrowed := true }
def TapeSumsUptoSaid : Prop := tapeSumsUptoRow.holds Try.pinned (OpenSpec.upto tapeSumsSpec)

/-- 'berthshiftlaw.ClientNews', WHERE WHAT IT READS IS OF BULK AT MOST 1048576: true; the input reads as it did. -/
def clientNewsUptoRow : OpenClaim := { program := "ytefkifgonadiiaa", sum := "3fea3fcbf6dbafca6766f048c0ad48dca1242f7bebd96452e25daa0f165a01bf", func := "berthshift/berthshiftlaw.ClientNews", spec := "clientNews", apart := false, narrowed := true }
def ClientNewsUptoSaid : Prop := clientNewsUptoRow.holds Try.pinned (OpenSpec.upto clientNewsSpec)

/-- 'berthshiftlaw.PackTakes', WHERE WHAT IT READS IS OF BULK AT MOST 1048576: true; the input reads as it did. -/
def packTakesUptoRow : OpenClaim := { program := "ytefkifgonadiiaa", sum := "3fea3fcbf6dbafca6766f048c0ad48dca1242f7bebd96452e25daa0f165a01bf", func := "berthshift/berthshiftlaw.PackTakes", spec := "packTakes", apart := false, narrowed := true }
def PackTakesUptoSaid : Prop := packTakesUptoRow.holds Try.pinned (OpenSpec.upto packTakesSpec)

/-- 'berthshiftlaw.WindowChecks', WHERE WHAT IT READS IS OF BULK AT MOST 1048576: true; the input reads as it did. -/
def windowChecksUptoRow : OpenClaim := { program := "ytefkifgonadiiaa", sum := "3fea3fcbf6dbafca6766f048c0ad48dca1242f7bebd96452e25daa0f165a01bf", func := "berthshift/berthshiftlaw.WindowChecks", spec := "windowChecks", apart := false, narrowed := true }
def WindowChecksUptoSaid : Prop := windowChecksUptoRow.holds Try.pinned (OpenSpec.upto windowChecksSpec)

/-- 'berthshiftlaw.PackChecks', WHERE WHAT IT READS IS OF BULK AT MOST 1048576: true; the input reads as it did. -/
def packChecksUptoRow : OpenClaim := { program := "ytefkifgonadiiaa", sum := "3fea3fcbf6dbafca6766f048c0ad48dca1242f7bebd96452e25daa0f165a01bf", func := "berthshift/berthshiftlaw.PackChecks", spec := "packChecks", apart := false, narrowed := true }
def PackChecksUptoSaid : Prop := packChecksUptoRow.holds Try.pinned (OpenSpec.upto packChecksSpec)

/-- 'berthshiftlaw.TapeSyncs', WHERE WHAT IT READS IS OF BULK AT MOST 1048576: true; the input reads as it did. -/
def tapeSyncsUptoRow : OpenClaim := { program := "ytefkifgonadiiaa", sum := "3fea3fcbf6dbafca6766f048c0ad48dca1242f7bebd96452e25daa0f165a01bf", func := "berthshift/berthshiftlaw.TapeSyncs", spec := "tapeSyncs", apart := false, narrowed := true }
def TapeSyncsUptoSaid : Prop := tapeSyncsUptoRow.holds Try.pinned (OpenSpec.upto tapeSyncsSpec)

/-- 'berthshiftlaw.TapeCrashes', WHERE WHAT IT READS IS OF BULK AT MOST 1048576: true; the input reads as it did. -/
def tapeCrashesUptoRow : OpenClaim := { program := "ytefkifgonadiiaa", sum := "3fea3fcbf6dbafca6766f048c0ad48dca1242f7bebd96452e25daa0f165a01bf", func := "berthshift/berthshiftlaw.TapeCrashes", spec := "tapeCrashes", apart := false, narrowed := true }
def TapeCrashesUptoSaid : Prop := tapeCrashesUptoRow.holds Try.pinned (OpenSpec.upto tapeCrashesSpec)

end Rows
end Go.Proofs.Ytefkifgonadiiaa
