/-
  No cell of these rows narrows 'for every input' (looked for: loops, veiled, ifaces, maps, wideKeys, modest, calm, conditions, laid).
  DERIVED. THE GIVEN ROWS OF THIS SEAT. 15 by the template 'for every input the law returns true; each argument reads behind the call as it read before'; 0 by the template 'total and deterministic' (their statements: YtidmifejdbgngaaTotals.lean).
  GIVEN WITH THE SEED: the statements are not yours to turn. If you find one false, say at which input.
  Laid BY PROGRAM, IN A SANDBOX (cutbox-rows.mjs): the forced cells as the released guide's own fill.sh prints them over the translation 42fbc60c497fbc3b… (all of the seat's roots in one cut). By AI agents, Wed Nov 11 2026. No macro, syntax, notation, axiom, sorry.
-/
import Derived.Test.YtidmifejdbgngaaChecked
import GoSem.Claim
import GoSem.ClaimJoined
import GoSem.ClaimMapViews
import Derived.JoinedTies
import Derived.KernelRfl
namespace Go.Proofs.Ytidmifejdbgngaa
/- THE CELL 'sum', in the pinned program and in every row, IS THE sha256 OF THE DUMP (.gsa) THAT YtidmifejdbgngaaProg.lean LOADS. Nothing in Lean hashes anything: it is a label: what it is worth is what the hold of that sum in a sandbox is worth. -/
noncomputable def Try.pinned : Pinned := { name := "ytidmifejdbgngaa", sum := "42fbc60c497fbc3be9c1026c69afbe1128e072f0259442e55fe446fb8b2e909b", checked := Try.checked }
namespace Rows
def none {H : Type} : Left H := { results := [], args := [] }

/-- 'berthshiftlaw.ClientChecks': WHATEVER THE INPUT: true; the input reads as it did. -/
def clientChecksSpec : ChangeSpec := { name := "clientChecks", fn := fun _ => fun
  | [d] => { results := [.lit (.bool true)], args := [d] }
  | _ => none }
def clientChecksRow : OpenClaim := { program := "ytidmifejdbgngaa", sum := "42fbc60c497fbc3be9c1026c69afbe1128e072f0259442e55fe446fb8b2e909b", func := "berthshift/berthshiftlaw.ClientChecks", spec := "clientChecks", apart := false }
def ClientChecksSaid : Prop := clientChecksRow.holds Try.pinned (OpenSpec.ofChange clientChecksSpec)

/-- ITS FALSE NEIGHBOUR: 'it returns false'. Refute it at one input. -/
def clientChecksWrong : ChangeSpec := { name := "clientChecks", fn := fun _ => fun
  | [d] => { results := [.lit (.bool false)], args := [d] }
  | _ => none }
def ClientChecksWrongFalsely : Prop := clientChecksRow.holds Try.pinned (OpenSpec.ofChange clientChecksWrong)

/-- 'berthshiftlaw.WindowTakes': WHATEVER THE INPUT: true; the input reads as it did. -/
def windowTakesSpec : ChangeSpec := { name := "windowTakes", fn := fun _ => fun
  | [d1, d2] => { results := [.lit (.bool true)], args := [d1, d2] }
  | _ => none }
def windowTakesRow : OpenClaim := { program := "ytidmifejdbgngaa", sum := "42fbc60c497fbc3be9c1026c69afbe1128e072f0259442e55fe446fb8b2e909b", func := "berthshift/berthshiftlaw.WindowTakes", spec := "windowTakes", apart := false }
def WindowTakesSaid : Prop := windowTakesRow.holds Try.pinned (OpenSpec.ofChange windowTakesSpec)

/-- ITS FALSE NEIGHBOUR: 'it returns false'. Refute it at one input. -/
def windowTakesWrong : ChangeSpec := { name := "windowTakes", fn := fun _ => fun
  | [d1, d2] => { results := [.lit (.bool false)], args := [d1, d2] }
  | _ => none }
def WindowTakesWrongFalsely : Prop := windowTakesRow.holds Try.pinned (OpenSpec.ofChange windowTakesWrong)

/-- 'berthshiftlaw.QueueChecks': WHATEVER THE INPUT: true; the input reads as it did. -/
def queueChecksSpec : ChangeSpec := { name := "queueChecks", fn := fun _ => fun
  | [d] => { results := [.lit (.bool true)], args := [d] }
  | _ => none }
def queueChecksRow : OpenClaim := { program := "ytidmifejdbgngaa", sum := "42fbc60c497fbc3be9c1026c69afbe1128e072f0259442e55fe446fb8b2e909b", func := "berthshift/berthshiftlaw.QueueChecks", spec := "queueChecks", apart := false }
def QueueChecksSaid : Prop := queueChecksRow.holds Try.pinned (OpenSpec.ofChange queueChecksSpec)

/-- ITS FALSE NEIGHBOUR: 'it returns false'. Refute it at one input. -/
def queueChecksWrong : ChangeSpec := { name := "queueChecks", fn := fun _ => fun
  | [d] => { results := [.lit (.bool false)], args := [d] }
  | _ => none }
def QueueChecksWrongFalsely : Prop := queueChecksRow.holds Try.pinned (OpenSpec.ofChange queueChecksWrong)

/-- 'berthshiftlaw.ClientAsks': WHATEVER THE INPUT: true; the input reads as it did. -/
def clientAsksSpec : ChangeSpec := { name := "clientAsks", fn := fun _ => fun
  | [d1, d2] => { results := [.lit (.bool true)], args := [d1, d2] }
  | _ => none }
def clientAsksRow : OpenClaim := { program := "ytidmifejdbgngaa", sum := "42fbc60c497fbc3be9c1026c69afbe1128e072f0259442e55fe446fb8b2e909b", func := "berthshift/berthshiftlaw.ClientAsks", spec := "clientAsks", apart := false }
def ClientAsksSaid : Prop := clientAsksRow.holds Try.pinned (OpenSpec.ofChange clientAsksSpec)

/-- ITS FALSE NEIGHBOUR: 'it returns false'. Refute it at one input. -/
def clientAsksWrong : ChangeSpec := { name := "clientAsks", fn := fun _ => fun
  | [d1, d2] => { results := [.lit (.bool false)], args := [d1, d2] }
  | _ => none }
def ClientAsksWrongFalsely : Prop := clientAsksRow.holds Try.pinned (OpenSpec.ofChange clientAsksWrong)

/-- 'berthshiftlaw.LinesChecks': WHATEVER THE INPUT: true; the input reads as it did. -/
def linesChecksSpec : ChangeSpec := { name := "linesChecks", fn := fun _ => fun
  | [d] => { results := [.lit (.bool true)], args := [d] }
  | _ => none }
def linesChecksRow : OpenClaim := { program := "ytidmifejdbgngaa", sum := "42fbc60c497fbc3be9c1026c69afbe1128e072f0259442e55fe446fb8b2e909b", func := "berthshift/berthshiftlaw.LinesChecks", spec := "linesChecks", apart := false }
def LinesChecksSaid : Prop := linesChecksRow.holds Try.pinned (OpenSpec.ofChange linesChecksSpec)

/-- ITS FALSE NEIGHBOUR: 'it returns false'. Refute it at one input. -/
def linesChecksWrong : ChangeSpec := { name := "linesChecks", fn := fun _ => fun
  | [d] => { results := [.lit (.bool false)], args := [d] }
  | _ => none }
def LinesChecksWrongFalsely : Prop := linesChecksRow.holds Try.pinned (OpenSpec.ofChange linesChecksWrong)

/-- 'berthshiftlaw.PlanBalances': WHATEVER THE INPUT: true; the input reads as it did. -/
def planBalancesSpec : ChangeSpec := { name := "planBalances", fn := fun _ => fun
  | [d1, d2, d3] => { results := [.lit (.bool true)], args := [d1, d2, d3] }
  | _ => none }
def planBalancesRow : OpenClaim := { program := "ytidmifejdbgngaa", sum := "42fbc60c497fbc3be9c1026c69afbe1128e072f0259442e55fe446fb8b2e909b", func := "berthshift/berthshiftlaw.PlanBalances", spec := "planBalances", apart := false }
def PlanBalancesSaid : Prop := planBalancesRow.holds Try.pinned (OpenSpec.ofChange planBalancesSpec)

/-- ITS FALSE NEIGHBOUR: 'it returns false'. Refute it at one input. -/
def planBalancesWrong : ChangeSpec := { name := "planBalances", fn := fun _ => fun
  | [d1, d2, d3] => { results := [.lit (.bool false)], args := [d1, d2, d3] }
  | _ => none }
def PlanBalancesWrongFalsely : Prop := planBalancesRow.holds Try.pinned (OpenSpec.ofChange planBalancesWrong)

/-- 'berthshiftlaw.PackEncodes': WHATEVER THE INPUT: true; the input reads as it did. -/
def packEncodesSpec : ChangeSpec := { name := "packEncodes", fn := fun _ => fun
  | [d] => { results := [.lit (.bool true)], args := [d] }
  | _ => none }
def packEncodesRow : OpenClaim := { program := "ytidmifejdbgngaa", sum := "42fbc60c497fbc3be9c1026c69afbe1128e072f0259442e55fe446fb8b2e909b", func := "berthshift/berthshiftlaw.PackEncodes", spec := "packEncodes", apart := false }
def PackEncodesSaid : Prop := packEncodesRow.holds Try.pinned (OpenSpec.ofChange packEncodesSpec)

/-- ITS FALSE NEIGHBOUR: 'it returns false'. Refute it at one input. -/
def packEncodesWrong : ChangeSpec := { name := "packEncodes", fn := fun _ => fun
  | [d] => { results := [.lit (.bool false)], args := [d] }
  | _ => none }
def PackEncodesWrongFalsely : Prop := packEncodesRow.holds Try.pinned (OpenSpec.ofChange packEncodesWrong)

/-- 'berthshiftlaw.ClientLearns': WHATEVER THE INPUT: true; the input reads as it did. -/
def clientLearnsSpec : ChangeSpec := { name := "clientLearns", fn := fun _ => fun
  | [d1, d2, d3] => { results := [.lit (.bool true)], args := [d1, d2, d3] }
  | _ => none }
def clientLearnsRow : OpenClaim := { program := "ytidmifejdbgngaa", sum := "42fbc60c497fbc3be9c1026c69afbe1128e072f0259442e55fe446fb8b2e909b", func := "berthshift/berthshiftlaw.ClientLearns", spec := "clientLearns", apart := false }
def ClientLearnsSaid : Prop := clientLearnsRow.holds Try.pinned (OpenSpec.ofChange clientLearnsSpec)

/-- ITS FALSE NEIGHBOUR: 'it returns false'. Refute it at one input. -/
def clientLearnsWrong : ChangeSpec := { name := "clientLearns", fn := fun _ => fun
  | [d1, d2, d3] => { results := [.lit (.bool false)], args := [d1, d2, d3] }
  | _ => none }
def ClientLearnsWrongFalsely : Prop := clientLearnsRow.holds Try.pinned (OpenSpec.ofChange clientLearnsWrong)

/-- 'berthshiftlaw.ClientSends': WHATEVER THE INPUT: true; the input reads as it did. -/
def clientSendsSpec : ChangeSpec := { name := "clientSends", fn := fun _ => fun
  | [d1, d2] => { results := [.lit (.bool true)], args := [d1, d2] }
  | _ => none }
def clientSendsRow : OpenClaim := { program := "ytidmifejdbgngaa", sum := "42fbc60c497fbc3be9c1026c69afbe1128e072f0259442e55fe446fb8b2e909b", func := "berthshift/berthshiftlaw.ClientSends", spec := "clientSends", apart := false }
def ClientSendsSaid : Prop := clientSendsRow.holds Try.pinned (OpenSpec.ofChange clientSendsSpec)

/-- ITS FALSE NEIGHBOUR: 'it returns false'. Refute it at one input. -/
def clientSendsWrong : ChangeSpec := { name := "clientSends", fn := fun _ => fun
  | [d1, d2] => { results := [.lit (.bool false)], args := [d1, d2] }
  | _ => none }
def ClientSendsWrongFalsely : Prop := clientSendsRow.holds Try.pinned (OpenSpec.ofChange clientSendsWrong)

/-- 'berthshiftlaw.PackDecodes': WHATEVER THE INPUT: true; the input reads as it did. -/
def packDecodesSpec : ChangeSpec := { name := "packDecodes", fn := fun _ => fun
  | [d] => { results := [.lit (.bool true)], args := [d] }
  | _ => none }
def packDecodesRow : OpenClaim := { program := "ytidmifejdbgngaa", sum := "42fbc60c497fbc3be9c1026c69afbe1128e072f0259442e55fe446fb8b2e909b", func := "berthshift/berthshiftlaw.PackDecodes", spec := "packDecodes", unfollowed := true, recurses := true, apart := false }
def PackDecodesSaid : Prop := packDecodesRow.holds Try.pinned (OpenSpec.ofChange packDecodesSpec)

/-- ITS FALSE NEIGHBOUR: 'it returns false'. Refute it at one input. -/
def packDecodesWrong : ChangeSpec := { name := "packDecodes", fn := fun _ => fun
  | [d] => { results := [.lit (.bool false)], args := [d] }
  | _ => none }
def PackDecodesWrongFalsely : Prop := packDecodesRow.holds Try.pinned (OpenSpec.ofChange packDecodesWrong)

/-- 'berthshiftlaw.ClientDones': WHATEVER THE INPUT: true; the input reads as it did. -/
def clientDonesSpec : ChangeSpec := { name := "clientDones", fn := fun _ => fun
  | [d1, d2] => { results := [.lit (.bool true)], args := [d1, d2] }
  | _ => none }
def clientDonesRow : OpenClaim := { program := "ytidmifejdbgngaa", sum := "42fbc60c497fbc3be9c1026c69afbe1128e072f0259442e55fe446fb8b2e909b", func := "berthshift/berthshiftlaw.ClientDones", spec := "clientDones", unfollowed := true, recurses := true, apart := false }
def ClientDonesSaid : Prop := clientDonesRow.holds Try.pinned (OpenSpec.ofChange clientDonesSpec)

/-- ITS FALSE NEIGHBOUR: 'it returns false'. Refute it at one input. -/
def clientDonesWrong : ChangeSpec := { name := "clientDones", fn := fun _ => fun
  | [d1, d2] => { results := [.lit (.bool false)], args := [d1, d2] }
  | _ => none }
def ClientDonesWrongFalsely : Prop := clientDonesRow.holds Try.pinned (OpenSpec.ofChange clientDonesWrong)

/-- 'berthshiftlaw.LinesCalls': WHATEVER THE INPUT: true; the input reads as it did. -/
def linesCallsSpec : ChangeSpec := { name := "linesCalls", fn := fun _ => fun
  | [d] => { results := [.lit (.bool true)], args := [d] }
  | _ => none }
def linesCallsRow : OpenClaim := { program := "ytidmifejdbgngaa", sum := "42fbc60c497fbc3be9c1026c69afbe1128e072f0259442e55fe446fb8b2e909b", func := "berthshift/berthshiftlaw.LinesCalls", spec := "linesCalls", apart := false }
def LinesCallsSaid : Prop := linesCallsRow.holds Try.pinned (OpenSpec.ofChange linesCallsSpec)

/-- ITS FALSE NEIGHBOUR: 'it returns false'. Refute it at one input. -/
def linesCallsWrong : ChangeSpec := { name := "linesCalls", fn := fun _ => fun
  | [d] => { results := [.lit (.bool false)], args := [d] }
  | _ => none }
def LinesCallsWrongFalsely : Prop := linesCallsRow.holds Try.pinned (OpenSpec.ofChange linesCallsWrong)

/-- 'berthshiftlaw.TapeWrites': WHATEVER THE INPUT: true; the input reads as it did. -/
def tapeWritesSpec : ChangeSpec := { name := "tapeWrites", fn := fun _ => fun
  | [d1, d2] => { results := [.lit (.bool true)], args := [d1, d2] }
  | _ => none }
def tapeWritesRow : OpenClaim := { program := "ytidmifejdbgngaa", sum := "42fbc60c497fbc3be9c1026c69afbe1128e072f0259442e55fe446fb8b2e909b", func := "berthshift/berthshiftlaw.TapeWrites", spec := "tapeWrites", apart := false }
def TapeWritesSaid : Prop := tapeWritesRow.holds Try.pinned (OpenSpec.ofChange tapeWritesSpec)

/-- ITS FALSE NEIGHBOUR: 'it returns false'. Refute it at one input. -/
def tapeWritesWrong : ChangeSpec := { name := "tapeWrites", fn := fun _ => fun
  | [d1, d2] => { results := [.lit (.bool false)], args := [d1, d2] }
  | _ => none }
def TapeWritesWrongFalsely : Prop := tapeWritesRow.holds Try.pinned (OpenSpec.ofChange tapeWritesWrong)

/-- 'berthshiftlaw.TapeReads': WHATEVER THE INPUT: true; the input reads as it did. -/
def tapeReadsSpec : ChangeSpec := { name := "tapeReads", fn := fun _ => fun
  | [d] => { results := [.lit (.bool true)], args := [d] }
  | _ => none }
def tapeReadsRow : OpenClaim := { program := "ytidmifejdbgngaa", sum := "42fbc60c497fbc3be9c1026c69afbe1128e072f0259442e55fe446fb8b2e909b", func := "berthshift/berthshiftlaw.TapeReads", spec := "tapeReads", unfollowed := true, recurses := true, apart := false }
def TapeReadsSaid : Prop := tapeReadsRow.holds Try.pinned (OpenSpec.ofChange tapeReadsSpec)

/-- ITS FALSE NEIGHBOUR: 'it returns false'. Refute it at one input. -/
def tapeReadsWrong : ChangeSpec := { name := "tapeReads", fn := fun _ => fun
  | [d] => { results := [.lit (.bool false)], args := [d] }
  | _ => none }
def TapeReadsWrongFalsely : Prop := tapeReadsRow.holds Try.pinned (OpenSpec.ofChange tapeReadsWrong)

/-- 'berthshiftlaw.TapeRepairs': WHATEVER THE INPUT: true; the input reads as it did. -/
def tapeRepairsSpec : ChangeSpec := { name := "tapeRepairs", fn := fun _ => fun
  | [d] => { results := [.lit (.bool true)], args := [d] }
  | _ => none }
def tapeRepairsRow : OpenClaim := { program := "ytidmifejdbgngaa", sum := "42fbc60c497fbc3be9c1026c69afbe1128e072f0259442e55fe446fb8b2e909b", func := "berthshift/berthshiftlaw.TapeRepairs", spec := "tapeRepairs", unfollowed := true, recurses := true, apart := false }
def TapeRepairsSaid : Prop := tapeRepairsRow.holds Try.pinned (OpenSpec.ofChange tapeRepairsSpec)

/-- ITS FALSE NEIGHBOUR: 'it returns false'. Refute it at one input. -/
def tapeRepairsWrong : ChangeSpec := { name := "tapeRepairs", fn := fun _ => fun
  | [d] => { results := [.lit (.bool false)], args := [d] }
  | _ => none }
def TapeRepairsWrongFalsely : Prop := tapeRepairsRow.holds Try.pinned (OpenSpec.ofChange tapeRepairsWrong)

/- THE SECOND FORM. 'bulk': how many values and letters a reading holds, each counted each time it is reached (what is shared counts as often as it is met; a slice's spare places count too). A statement '..UptoSaid' is the law's where the arguments, and the package variables that the reading takes, are together of bulk at most 1048576: NARROWER than '..Said'. Prove '..Said' where nothing that the law and all that it calls make is longer than what came in: it says more and counts as full. Else prove '..UptoSaid'. A law counts once. -/
mutual
def uptoBulk {H : Type} : DataW H → Nat
  | .lit (.string bytes) => bytes.length + 1
  | .lit _ => 1
  | .nil => 1
  | .ptr d => uptoBulk d + 1
  | .slice elems spare => uptoBulkAll elems + uptoBulkAll spare + 1
  | .agg parts => uptoBulkAll parts + 1
  | .iface _ d => uptoBulk d + 1
  | .map entries => uptoBulkEntries entries + 1
  | .held _ => 1
def uptoBulkAll {H : Type} : List (DataW H) → Nat
  | [] => 0
  | d :: r => uptoBulk d + uptoBulkAll r
def uptoBulkEntries {H : Type} : List (Lit × DataW H) → Nat
  | [] => 0
  | x :: r => uptoBulkEntry x + uptoBulkEntries r
def uptoBulkEntry {H : Type} : Lit × DataW H → Nat
  | (.string bytes, d) => bytes.length + uptoBulk d + 1
  | (_, d) => uptoBulk d + 1
 end
def uptoSmall : (H : Type) → List (DataW H) → Bool := fun _ ds => decide (uptoBulkAll ds ≤ 1048576)
def OpenSpec.upto (s : _root_.Go.ChangeSpec) : _root_.Go.OpenSpec := { _root_.Go.OpenSpec.ofChange s with cond := some uptoSmall }

/-- 'berthshiftlaw.ClientChecks', WHERE WHAT IT READS IS OF BULK AT MOST 1048576: true; the input reads as it did. -/
def clientChecksUptoRow : OpenClaim := { program := "ytidmifejdbgngaa", sum := "42fbc60c497fbc3be9c1026c69afbe1128e072f0259442e55fe446fb8b2e909b", func := "berthshift/berthshiftlaw.ClientChecks", spec := "clientChecks", apart := false, narrowed := true }
def ClientChecksUptoSaid : Prop := clientChecksUptoRow.holds Try.pinned (OpenSpec.upto clientChecksSpec)

/-- 'berthshiftlaw.WindowTakes', WHERE WHAT IT READS IS OF BULK AT MOST 1048576: true; the input reads as it did. -/
def windowTakesUptoRow : OpenClaim := { program := "ytidmifejdbgngaa", sum := "42fbc60c497fbc3be9c1026c69afbe1128e072f0259442e55fe446fb8b2e909b", func := "berthshift/berthshiftlaw.WindowTakes", spec := "windowTakes", apart := false, narrowed := true }
def WindowTakesUptoSaid : Prop := windowTakesUptoRow.holds Try.pinned (OpenSpec.upto windowTakesSpec)

/-- 'berthshiftlaw.QueueChecks', WHERE WHAT IT READS IS OF BULK AT MOST 1048576: true; the input reads as it did. -/
def queueChecksUptoRow : OpenClaim := { program := "ytidmifejdbgngaa", sum := "42fbc60c497fbc3be9c1026c69afbe1128e072f0259442e55fe446fb8b2e909b", func := "berthshift/berthshiftlaw.QueueChecks", spec := "queueChecks", apart := false, narrowed := true }
def QueueChecksUptoSaid : Prop := queueChecksUptoRow.holds Try.pinned (OpenSpec.upto queueChecksSpec)

/-- 'berthshiftlaw.ClientAsks', WHERE WHAT IT READS IS OF BULK AT MOST 1048576: true; the input reads as it did. -/
def clientAsksUptoRow : OpenClaim := { program := "ytidmifejdbgngaa", sum := "42fbc60c497fbc3be9c1026c69afbe1128e072f0259442e55fe446fb8b2e909b", func := "berthshift/berthshiftlaw.ClientAsks", spec := "clientAsks", apart := false, narrowed := true }
def ClientAsksUptoSaid : Prop := clientAsksUptoRow.holds Try.pinned (OpenSpec.upto clientAsksSpec)

/-- 'berthshiftlaw.LinesChecks', WHERE WHAT IT READS IS OF BULK AT MOST 1048576: true; the input reads as it did. -/
def linesChecksUptoRow : OpenClaim := { program := "ytidmifejdbgngaa", sum := "42fbc60c497fbc3be9c1026c69afbe1128e072f0259442e55fe446fb8b2e909b", func := "berthshift/berthshiftlaw.LinesChecks", spec := "linesChecks", apart := false, narrowed := true }
def LinesChecksUptoSaid : Prop := linesChecksUptoRow.holds Try.pinned (OpenSpec.upto linesChecksSpec)

/-- 'berthshiftlaw.PlanBalances', WHERE WHAT IT READS IS OF BULK AT MOST 1048576: true; the input reads as it did. -/
def planBalancesUptoRow : OpenClaim := { program := "ytidmifejdbgngaa", sum := "42fbc60c497fbc3be9c1026c69afbe1128e072f0259442e55fe446fb8b2e909b", func := "berthshift/berthshiftlaw.PlanBalances", spec := "planBalances", apart := false, narrowed := true }
def PlanBalancesUptoSaid : Prop := planBalancesUptoRow.holds Try.pinned (OpenSpec.upto planBalancesSpec)

/-- 'berthshiftlaw.PackEncodes', WHERE WHAT IT READS IS OF BULK AT MOST 1048576: true; the input reads as it did. -/
def packEncodesUptoRow : OpenClaim := { program := "ytidmifejdbgngaa", sum := "42fbc60c497fbc3be9c1026c69afbe1128e072f0259442e55fe446fb8b2e909b", func := "berthshift/berthshiftlaw.PackEncodes", spec := "packEncodes", apart := false, narrowed := true }
def PackEncodesUptoSaid : Prop := packEncodesUptoRow.holds Try.pinned (OpenSpec.upto packEncodesSpec)

/-- 'berthshiftlaw.ClientLearns', WHERE WHAT IT READS IS OF BULK AT MOST 1048576: true; the input reads as it did. -/
def clientLearnsUptoRow : OpenClaim := { program := "ytidmifejdbgngaa", sum := "42fbc60c497fbc3be9c1026c69afbe1128e072f0259442e55fe446fb8b2e909b", func := "berthshift/berthshiftlaw.ClientLearns", spec := "clientLearns", apart := false, narrowed := true }
def ClientLearnsUptoSaid : Prop := clientLearnsUptoRow.holds Try.pinned (OpenSpec.upto clientLearnsSpec)

/-- 'berthshiftlaw.ClientSends', WHERE WHAT IT READS IS OF BULK AT MOST 1048576: true; the input reads as it did. -/
def clientSendsUptoRow : OpenClaim := { program := "ytidmifejdbgngaa", sum := "42fbc60c497fbc3be9c1026c69afbe1128e072f0259442e55fe446fb8b2e909b", func := "berthshift/berthshiftlaw.ClientSends", spec := "clientSends", apart := false, narrowed := true }
def ClientSendsUptoSaid : Prop := clientSendsUptoRow.holds Try.pinned (OpenSpec.upto clientSendsSpec)

/-- 'berthshiftlaw.PackDecodes', WHERE WHAT IT READS IS OF BULK AT MOST 1048576: true; the input reads as it did. -/
def packDecodesUptoRow : OpenClaim := { program := "ytidmifejdbgngaa", sum := "42fbc60c497fbc3be9c1026c69afbe1128e072f0259442e55fe446fb8b2e909b", func := "berthshift/berthshiftlaw.PackDecodes", spec := "packDecodes", unfollowed := true, recurses := true, apart := false, narrowed := true }
def PackDecodesUptoSaid : Prop := packDecodesUptoRow.holds Try.pinned (OpenSpec.upto packDecodesSpec)

/-- 'berthshiftlaw.ClientDones', WHERE WHAT IT READS IS OF BULK AT MOST 1048576: true; the input reads as it did. -/
def clientDonesUptoRow : OpenClaim := { program := "ytidmifejdbgngaa", sum := "42fbc60c497fbc3be9c1026c69afbe1128e072f0259442e55fe446fb8b2e909b", func := "berthshift/berthshiftlaw.ClientDones", spec := "clientDones", unfollowed := true, recurses := true, apart := false, narrowed := true }
def ClientDonesUptoSaid : Prop := clientDonesUptoRow.holds Try.pinned (OpenSpec.upto clientDonesSpec)

/-- 'berthshiftlaw.LinesCalls', WHERE WHAT IT READS IS OF BULK AT MOST 1048576: true; the input reads as it did. -/
def linesCallsUptoRow : OpenClaim := { program := "ytidmifejdbgngaa", sum := "42fbc60c497fbc3be9c1026c69afbe1128e072f0259442e55fe446fb8b2e909b", func := "berthshift/berthshiftlaw.LinesCalls", spec := "linesCalls", apart := false, narrowed := true }
def LinesCallsUptoSaid : Prop := linesCallsUptoRow.holds Try.pinned (OpenSpec.upto linesCallsSpec)

/-- 'berthshiftlaw.TapeWrites', WHERE WHAT IT READS IS OF BULK AT MOST 1048576: true; the input reads as it did. -/
def tapeWritesUptoRow : OpenClaim := { program := "ytidmifejdbgngaa", sum := "42fbc60c497fbc3be9c1026c69afbe1128e072f0259442e55fe446fb8b2e909b", func := "berthshift/berthshiftlaw.TapeWrites", spec := "tapeWrites", apart := false, narrowed := true }
def TapeWritesUptoSaid : Prop := tapeWritesUptoRow.holds Try.pinned (OpenSpec.upto tapeWritesSpec)

/-- 'berthshiftlaw.TapeReads', WHERE WHAT IT READS IS OF BULK AT MOST 1048576: true; the input reads as it did. -/
def tapeReadsUptoRow : OpenClaim := { program := "ytidmifejdbgngaa", sum := "42fbc60c497fbc3be9c1026c69afbe1128e072f0259442e55fe446fb8b2e909b", func := "berthshift/berthshiftlaw.TapeReads", spec := "tapeReads", unfollowed := true, recurses := true, apart := false, narrowed := true }
def TapeReadsUptoSaid : Prop := tapeReadsUptoRow.holds Try.pinned (OpenSpec.upto tapeReadsSpec)

/-- 'berthshiftlaw.TapeRepairs', WHERE WHAT IT READS IS OF BULK AT MOST 1048576: true; the input reads as it did. -/
def tapeRepairsUptoRow : OpenClaim := { program := "ytidmifejdbgngaa", sum := "42fbc60c497fbc3be9c1026c69afbe1128e072f0259442e55fe446fb8b2e909b", func := "berthshift/berthshiftlaw.TapeRepairs", spec := "tapeRepairs", unfollowed := true, recurses := true, apart := false, narrowed := true }
def TapeRepairsUptoSaid : Prop := tapeRepairsUptoRow.holds Try.pinned (OpenSpec.upto tapeRepairsSpec)

end Rows
end Go.Proofs.Ytidmifejdbgngaa
