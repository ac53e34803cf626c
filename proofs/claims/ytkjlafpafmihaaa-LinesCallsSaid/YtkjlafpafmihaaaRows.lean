/-
  No cell of these rows narrows 'for every input' (looked for: loops, veiled, ifaces, maps, wideKeys, modest, calm, conditions, laid).
  DERIVED. THE GIVEN ROWS OF THIS SEAT. 27 by the template 'for every input the law returns true; each argument reads behind the call as it read before'; 0 by the template 'total and deterministic' (their statements: YtkjlafpafmihaaaTotals.lean).
  GIVEN WITH THE SEED: the statements are not yours to turn. If you find one false, say at which input.
  Laid BY PROGRAM, IN A SANDBOX (cutbox-rows.mjs): the forced cells as the released guide's own fill.sh prints them over the translation fe97e873e1d88075… (all of the seat's roots in one cut). By AI agents, Wed Nov 11 2026. No macro, syntax, notation, axiom, sorry.
-/
import Derived.Test.YtkjlafpafmihaaaChecked
import GoSem.Claim
import GoSem.ClaimJoined
import GoSem.ClaimMapViews
import Derived.JoinedTies
import Derived.KernelRfl
namespace Go.Proofs.Ytkjlafpafmihaaa
/- THE CELL 'sum', in the pinned program and in every row, IS THE sha256 OF THE DUMP (.gsa) THAT YtkjlafpafmihaaaProg.lean LOADS. Nothing in Lean hashes anything: it is a label: what it is worth is what the hold of that sum in a sandbox is worth. -/
noncomputable def Try.pinned : Pinned := { name := "ytkjlafpafmihaaa", sum := "fe97e873e1d8807507dcdbb19a4a6e77dcf13f8df899fef492b98cbe20d9e71b", checked := Try.checked }
namespace Rows
def none {H : Type} : Left H := { results := [], args := [] }

/-- 'berthshiftlaw.QueueChecks': WHATEVER THE INPUT: true; the input reads as it did. -/
def queueChecksSpec : ChangeSpec := { name := "queueChecks", fn := fun _ => fun
  | [d] => { results := [.lit (.bool true)], args := [d] }
  | _ => none }
def queueChecksRow : OpenClaim := { program := "ytkjlafpafmihaaa", sum := "fe97e873e1d8807507dcdbb19a4a6e77dcf13f8df899fef492b98cbe20d9e71b", func := "berthshift/berthshiftlaw.QueueChecks", spec := "queueChecks", apart := false }
def QueueChecksSaid : Prop := queueChecksRow.holds Try.pinned (OpenSpec.ofChange queueChecksSpec)

/-- ITS FALSE NEIGHBOUR: 'it returns false'. Refute it at one input. -/
def queueChecksWrong : ChangeSpec := { name := "queueChecks", fn := fun _ => fun
  | [d] => { results := [.lit (.bool false)], args := [d] }
  | _ => none }
def QueueChecksWrongFalsely : Prop := queueChecksRow.holds Try.pinned (OpenSpec.ofChange queueChecksWrong)

/-- 'berthshiftlaw.LinesChecks': WHATEVER THE INPUT: true; the input reads as it did. -/
def linesChecksSpec : ChangeSpec := { name := "linesChecks", fn := fun _ => fun
  | [d] => { results := [.lit (.bool true)], args := [d] }
  | _ => none }
def linesChecksRow : OpenClaim := { program := "ytkjlafpafmihaaa", sum := "fe97e873e1d8807507dcdbb19a4a6e77dcf13f8df899fef492b98cbe20d9e71b", func := "berthshift/berthshiftlaw.LinesChecks", spec := "linesChecks", apart := false }
def LinesChecksSaid : Prop := linesChecksRow.holds Try.pinned (OpenSpec.ofChange linesChecksSpec)

/-- ITS FALSE NEIGHBOUR: 'it returns false'. Refute it at one input. -/
def linesChecksWrong : ChangeSpec := { name := "linesChecks", fn := fun _ => fun
  | [d] => { results := [.lit (.bool false)], args := [d] }
  | _ => none }
def LinesChecksWrongFalsely : Prop := linesChecksRow.holds Try.pinned (OpenSpec.ofChange linesChecksWrong)

/-- 'berthshiftlaw.PlanBalances': WHATEVER THE INPUT: true; the input reads as it did. -/
def planBalancesSpec : ChangeSpec := { name := "planBalances", fn := fun _ => fun
  | [d1, d2, d3] => { results := [.lit (.bool true)], args := [d1, d2, d3] }
  | _ => none }
def planBalancesRow : OpenClaim := { program := "ytkjlafpafmihaaa", sum := "fe97e873e1d8807507dcdbb19a4a6e77dcf13f8df899fef492b98cbe20d9e71b", func := "berthshift/berthshiftlaw.PlanBalances", spec := "planBalances", apart := false }
def PlanBalancesSaid : Prop := planBalancesRow.holds Try.pinned (OpenSpec.ofChange planBalancesSpec)

/-- ITS FALSE NEIGHBOUR: 'it returns false'. Refute it at one input. -/
def planBalancesWrong : ChangeSpec := { name := "planBalances", fn := fun _ => fun
  | [d1, d2, d3] => { results := [.lit (.bool false)], args := [d1, d2, d3] }
  | _ => none }
def PlanBalancesWrongFalsely : Prop := planBalancesRow.holds Try.pinned (OpenSpec.ofChange planBalancesWrong)

/-- 'berthshiftlaw.PackEncodes': WHATEVER THE INPUT: true; the input reads as it did. -/
def packEncodesSpec : ChangeSpec := { name := "packEncodes", fn := fun _ => fun
  | [d] => { results := [.lit (.bool true)], args := [d] }
  | _ => none }
def packEncodesRow : OpenClaim := { program := "ytkjlafpafmihaaa", sum := "fe97e873e1d8807507dcdbb19a4a6e77dcf13f8df899fef492b98cbe20d9e71b", func := "berthshift/berthshiftlaw.PackEncodes", spec := "packEncodes", apart := false }
def PackEncodesSaid : Prop := packEncodesRow.holds Try.pinned (OpenSpec.ofChange packEncodesSpec)

/-- ITS FALSE NEIGHBOUR: 'it returns false'. Refute it at one input. -/
def packEncodesWrong : ChangeSpec := { name := "packEncodes", fn := fun _ => fun
  | [d] => { results := [.lit (.bool false)], args := [d] }
  | _ => none }
def PackEncodesWrongFalsely : Prop := packEncodesRow.holds Try.pinned (OpenSpec.ofChange packEncodesWrong)

/-- 'berthshiftlaw.ClientLearns': WHATEVER THE INPUT: true; the input reads as it did. -/
def clientLearnsSpec : ChangeSpec := { name := "clientLearns", fn := fun _ => fun
  | [d1, d2, d3] => { results := [.lit (.bool true)], args := [d1, d2, d3] }
  | _ => none }
def clientLearnsRow : OpenClaim := { program := "ytkjlafpafmihaaa", sum := "fe97e873e1d8807507dcdbb19a4a6e77dcf13f8df899fef492b98cbe20d9e71b", func := "berthshift/berthshiftlaw.ClientLearns", spec := "clientLearns", apart := false }
def ClientLearnsSaid : Prop := clientLearnsRow.holds Try.pinned (OpenSpec.ofChange clientLearnsSpec)

/-- ITS FALSE NEIGHBOUR: 'it returns false'. Refute it at one input. -/
def clientLearnsWrong : ChangeSpec := { name := "clientLearns", fn := fun _ => fun
  | [d1, d2, d3] => { results := [.lit (.bool false)], args := [d1, d2, d3] }
  | _ => none }
def ClientLearnsWrongFalsely : Prop := clientLearnsRow.holds Try.pinned (OpenSpec.ofChange clientLearnsWrong)

/-- 'berthshiftlaw.ClientSends': WHATEVER THE INPUT: true; the input reads as it did. -/
def clientSendsSpec : ChangeSpec := { name := "clientSends", fn := fun _ => fun
  | [d1, d2] => { results := [.lit (.bool true)], args := [d1, d2] }
  | _ => none }
def clientSendsRow : OpenClaim := { program := "ytkjlafpafmihaaa", sum := "fe97e873e1d8807507dcdbb19a4a6e77dcf13f8df899fef492b98cbe20d9e71b", func := "berthshift/berthshiftlaw.ClientSends", spec := "clientSends", apart := false }
def ClientSendsSaid : Prop := clientSendsRow.holds Try.pinned (OpenSpec.ofChange clientSendsSpec)

/-- ITS FALSE NEIGHBOUR: 'it returns false'. Refute it at one input. -/
def clientSendsWrong : ChangeSpec := { name := "clientSends", fn := fun _ => fun
  | [d1, d2] => { results := [.lit (.bool false)], args := [d1, d2] }
  | _ => none }
def ClientSendsWrongFalsely : Prop := clientSendsRow.holds Try.pinned (OpenSpec.ofChange clientSendsWrong)

/-- 'berthshiftlaw.PackDecodes': WHATEVER THE INPUT: true; the input reads as it did. -/
def packDecodesSpec : ChangeSpec := { name := "packDecodes", fn := fun _ => fun
  | [d] => { results := [.lit (.bool true)], args := [d] }
  | _ => none }
def packDecodesRow : OpenClaim := { program := "ytkjlafpafmihaaa", sum := "fe97e873e1d8807507dcdbb19a4a6e77dcf13f8df899fef492b98cbe20d9e71b", func := "berthshift/berthshiftlaw.PackDecodes", spec := "packDecodes", unfollowed := true, recurses := true, apart := false }
def PackDecodesSaid : Prop := packDecodesRow.holds Try.pinned (OpenSpec.ofChange packDecodesSpec)

/-- ITS FALSE NEIGHBOUR: 'it returns false'. Refute it at one input. -/
def packDecodesWrong : ChangeSpec := { name := "packDecodes", fn := fun _ => fun
  | [d] => { results := [.lit (.bool false)], args := [d] }
  | _ => none }
def PackDecodesWrongFalsely : Prop := packDecodesRow.holds Try.pinned (OpenSpec.ofChange packDecodesWrong)

/-- 'berthshiftlaw.ClientDones': WHATEVER THE INPUT: true; the input reads as it did. -/
def clientDonesSpec : ChangeSpec := { name := "clientDones", fn := fun _ => fun
  | [d1, d2] => { results := [.lit (.bool true)], args := [d1, d2] }
  | _ => none }
def clientDonesRow : OpenClaim := { program := "ytkjlafpafmihaaa", sum := "fe97e873e1d8807507dcdbb19a4a6e77dcf13f8df899fef492b98cbe20d9e71b", func := "berthshift/berthshiftlaw.ClientDones", spec := "clientDones", unfollowed := true, recurses := true, apart := false }
def ClientDonesSaid : Prop := clientDonesRow.holds Try.pinned (OpenSpec.ofChange clientDonesSpec)

/-- ITS FALSE NEIGHBOUR: 'it returns false'. Refute it at one input. -/
def clientDonesWrong : ChangeSpec := { name := "clientDones", fn := fun _ => fun
  | [d1, d2] => { results := [.lit (.bool false)], args := [d1, d2] }
  | _ => none }
def ClientDonesWrongFalsely : Prop := clientDonesRow.holds Try.pinned (OpenSpec.ofChange clientDonesWrong)

/-- 'berthshiftlaw.LinesCalls': WHATEVER THE INPUT: true; the input reads as it did. -/
def linesCallsSpec : ChangeSpec := { name := "linesCalls", fn := fun _ => fun
  | [d] => { results := [.lit (.bool true)], args := [d] }
  | _ => none }
def linesCallsRow : OpenClaim := { program := "ytkjlafpafmihaaa", sum := "fe97e873e1d8807507dcdbb19a4a6e77dcf13f8df899fef492b98cbe20d9e71b", func := "berthshift/berthshiftlaw.LinesCalls", spec := "linesCalls", apart := false }
def LinesCallsSaid : Prop := linesCallsRow.holds Try.pinned (OpenSpec.ofChange linesCallsSpec)

/-- ITS FALSE NEIGHBOUR: 'it returns false'. Refute it at one input. -/
def linesCallsWrong : ChangeSpec := { name := "linesCalls", fn := fun _ => fun
  | [d] => { results := [.lit (.bool false)], args := [d] }
  | _ => none }
def LinesCallsWrongFalsely : Prop := linesCallsRow.holds Try.pinned (OpenSpec.ofChange linesCallsWrong)

/-- 'berthshiftlaw.TapeWrites': WHATEVER THE INPUT: true; the input reads as it did. -/
def tapeWritesSpec : ChangeSpec := { name := "tapeWrites", fn := fun _ => fun
  | [d1, d2] => { results := [.lit (.bool true)], args := [d1, d2] }
  | _ => none }
def tapeWritesRow : OpenClaim := { program := "ytkjlafpafmihaaa", sum := "fe97e873e1d8807507dcdbb19a4a6e77dcf13f8df899fef492b98cbe20d9e71b", func := "berthshift/berthshiftlaw.TapeWrites", spec := "tapeWrites", apart := false }
def TapeWritesSaid : Prop := tapeWritesRow.holds Try.pinned (OpenSpec.ofChange tapeWritesSpec)

/-- ITS FALSE NEIGHBOUR: 'it returns false'. Refute it at one input. -/
def tapeWritesWrong : ChangeSpec := { name := "tapeWrites", fn := fun _ => fun
  | [d1, d2] => { results := [.lit (.bool false)], args := [d1, d2] }
  | _ => none }
def TapeWritesWrongFalsely : Prop := tapeWritesRow.holds Try.pinned (OpenSpec.ofChange tapeWritesWrong)

/-- 'berthshiftlaw.TapeReads': WHATEVER THE INPUT: true; the input reads as it did. -/
def tapeReadsSpec : ChangeSpec := { name := "tapeReads", fn := fun _ => fun
  | [d] => { results := [.lit (.bool true)], args := [d] }
  | _ => none }
def tapeReadsRow : OpenClaim := { program := "ytkjlafpafmihaaa", sum := "fe97e873e1d8807507dcdbb19a4a6e77dcf13f8df899fef492b98cbe20d9e71b", func := "berthshift/berthshiftlaw.TapeReads", spec := "tapeReads", unfollowed := true, recurses := true, apart := false }
def TapeReadsSaid : Prop := tapeReadsRow.holds Try.pinned (OpenSpec.ofChange tapeReadsSpec)

/-- ITS FALSE NEIGHBOUR: 'it returns false'. Refute it at one input. -/
def tapeReadsWrong : ChangeSpec := { name := "tapeReads", fn := fun _ => fun
  | [d] => { results := [.lit (.bool false)], args := [d] }
  | _ => none }
def TapeReadsWrongFalsely : Prop := tapeReadsRow.holds Try.pinned (OpenSpec.ofChange tapeReadsWrong)

/-- 'berthshiftlaw.TapeRepairs': WHATEVER THE INPUT: true; the input reads as it did. -/
def tapeRepairsSpec : ChangeSpec := { name := "tapeRepairs", fn := fun _ => fun
  | [d] => { results := [.lit (.bool true)], args := [d] }
  | _ => none }
def tapeRepairsRow : OpenClaim := { program := "ytkjlafpafmihaaa", sum := "fe97e873e1d8807507dcdbb19a4a6e77dcf13f8df899fef492b98cbe20d9e71b", func := "berthshift/berthshiftlaw.TapeRepairs", spec := "tapeRepairs", unfollowed := true, recurses := true, apart := false }
def TapeRepairsSaid : Prop := tapeRepairsRow.holds Try.pinned (OpenSpec.ofChange tapeRepairsSpec)

/-- ITS FALSE NEIGHBOUR: 'it returns false'. Refute it at one input. -/
def tapeRepairsWrong : ChangeSpec := { name := "tapeRepairs", fn := fun _ => fun
  | [d] => { results := [.lit (.bool false)], args := [d] }
  | _ => none }
def TapeRepairsWrongFalsely : Prop := tapeRepairsRow.holds Try.pinned (OpenSpec.ofChange tapeRepairsWrong)

/-- 'berthshiftlaw.QueueDoes': WHATEVER THE INPUT: true; the input reads as it did. -/
def queueDoesSpec : ChangeSpec := { name := "queueDoes", fn := fun _ => fun
  | [d1, d2] => { results := [.lit (.bool true)], args := [d1, d2] }
  | _ => none }
def queueDoesRow : OpenClaim := { program := "ytkjlafpafmihaaa", sum := "fe97e873e1d8807507dcdbb19a4a6e77dcf13f8df899fef492b98cbe20d9e71b", func := "berthshift/berthshiftlaw.QueueDoes", spec := "queueDoes", unfollowed := true, recurses := true, apart := false }
def QueueDoesSaid : Prop := queueDoesRow.holds Try.pinned (OpenSpec.ofChange queueDoesSpec)

/-- ITS FALSE NEIGHBOUR: 'it returns false'. Refute it at one input. -/
def queueDoesWrong : ChangeSpec := { name := "queueDoes", fn := fun _ => fun
  | [d1, d2] => { results := [.lit (.bool false)], args := [d1, d2] }
  | _ => none }
def QueueDoesWrongFalsely : Prop := queueDoesRow.holds Try.pinned (OpenSpec.ofChange queueDoesWrong)

/-- 'berthshiftlaw.HistoryReplays': WHATEVER THE INPUT: true; the input reads as it did. -/
def historyReplaysSpec : ChangeSpec := { name := "historyReplays", fn := fun _ => fun
  | [d] => { results := [.lit (.bool true)], args := [d] }
  | _ => none }
def historyReplaysRow : OpenClaim := { program := "ytkjlafpafmihaaa", sum := "fe97e873e1d8807507dcdbb19a4a6e77dcf13f8df899fef492b98cbe20d9e71b", func := "berthshift/berthshiftlaw.HistoryReplays", spec := "historyReplays", unfollowed := true, recurses := true, apart := false }
def HistoryReplaysSaid : Prop := historyReplaysRow.holds Try.pinned (OpenSpec.ofChange historyReplaysSpec)

/-- ITS FALSE NEIGHBOUR: 'it returns false'. Refute it at one input. -/
def historyReplaysWrong : ChangeSpec := { name := "historyReplays", fn := fun _ => fun
  | [d] => { results := [.lit (.bool false)], args := [d] }
  | _ => none }
def HistoryReplaysWrongFalsely : Prop := historyReplaysRow.holds Try.pinned (OpenSpec.ofChange historyReplaysWrong)

/-- 'berthshiftlaw.HistoryAnswers': WHATEVER THE INPUT: true; the input reads as it did. -/
def historyAnswersSpec : ChangeSpec := { name := "historyAnswers", fn := fun _ => fun
  | [d] => { results := [.lit (.bool true)], args := [d] }
  | _ => none }
def historyAnswersRow : OpenClaim := { program := "ytkjlafpafmihaaa", sum := "fe97e873e1d8807507dcdbb19a4a6e77dcf13f8df899fef492b98cbe20d9e71b", func := "berthshift/berthshiftlaw.HistoryAnswers", spec := "historyAnswers", unfollowed := true, recurses := true, apart := false }
def HistoryAnswersSaid : Prop := historyAnswersRow.holds Try.pinned (OpenSpec.ofChange historyAnswersSpec)

/-- ITS FALSE NEIGHBOUR: 'it returns false'. Refute it at one input. -/
def historyAnswersWrong : ChangeSpec := { name := "historyAnswers", fn := fun _ => fun
  | [d] => { results := [.lit (.bool false)], args := [d] }
  | _ => none }
def HistoryAnswersWrongFalsely : Prop := historyAnswersRow.holds Try.pinned (OpenSpec.ofChange historyAnswersWrong)

/-- 'berthshiftlaw.BerthChecks': WHATEVER THE INPUT: true; the input reads as it did. -/
def berthChecksSpec : ChangeSpec := { name := "berthChecks", fn := fun _ => fun
  | [d] => { results := [.lit (.bool true)], args := [d] }
  | _ => none }
def berthChecksRow : OpenClaim := { program := "ytkjlafpafmihaaa", sum := "fe97e873e1d8807507dcdbb19a4a6e77dcf13f8df899fef492b98cbe20d9e71b", func := "berthshift/berthshiftlaw.BerthChecks", spec := "berthChecks", unfollowed := true, recurses := true, apart := false }
def BerthChecksSaid : Prop := berthChecksRow.holds Try.pinned (OpenSpec.ofChange berthChecksSpec)

/-- ITS FALSE NEIGHBOUR: 'it returns false'. Refute it at one input. -/
def berthChecksWrong : ChangeSpec := { name := "berthChecks", fn := fun _ => fun
  | [d] => { results := [.lit (.bool false)], args := [d] }
  | _ => none }
def BerthChecksWrongFalsely : Prop := berthChecksRow.holds Try.pinned (OpenSpec.ofChange berthChecksWrong)

/-- 'berthshiftlaw.BerthForgets': WHATEVER THE INPUT: true; the input reads as it did. -/
def berthForgetsSpec : ChangeSpec := { name := "berthForgets", fn := fun _ => fun
  | [d1, d2] => { results := [.lit (.bool true)], args := [d1, d2] }
  | _ => none }
def berthForgetsRow : OpenClaim := { program := "ytkjlafpafmihaaa", sum := "fe97e873e1d8807507dcdbb19a4a6e77dcf13f8df899fef492b98cbe20d9e71b", func := "berthshift/berthshiftlaw.BerthForgets", spec := "berthForgets", unfollowed := true, recurses := true, apart := false }
def BerthForgetsSaid : Prop := berthForgetsRow.holds Try.pinned (OpenSpec.ofChange berthForgetsSpec)

/-- ITS FALSE NEIGHBOUR: 'it returns false'. Refute it at one input. -/
def berthForgetsWrong : ChangeSpec := { name := "berthForgets", fn := fun _ => fun
  | [d1, d2] => { results := [.lit (.bool false)], args := [d1, d2] }
  | _ => none }
def BerthForgetsWrongFalsely : Prop := berthForgetsRow.holds Try.pinned (OpenSpec.ofChange berthForgetsWrong)

/-- 'berthshiftlaw.BerthMakes': WHATEVER THE INPUT: true; the input reads as it did. -/
def berthMakesSpec : ChangeSpec := { name := "berthMakes", fn := fun _ => fun
  | [d1, d2] => { results := [.lit (.bool true)], args := [d1, d2] }
  | _ => none }
def berthMakesRow : OpenClaim := { program := "ytkjlafpafmihaaa", sum := "fe97e873e1d8807507dcdbb19a4a6e77dcf13f8df899fef492b98cbe20d9e71b", func := "berthshift/berthshiftlaw.BerthMakes", spec := "berthMakes", unfollowed := true, recurses := true, apart := false }
def BerthMakesSaid : Prop := berthMakesRow.holds Try.pinned (OpenSpec.ofChange berthMakesSpec)

/-- ITS FALSE NEIGHBOUR: 'it returns false'. Refute it at one input. -/
def berthMakesWrong : ChangeSpec := { name := "berthMakes", fn := fun _ => fun
  | [d1, d2] => { results := [.lit (.bool false)], args := [d1, d2] }
  | _ => none }
def BerthMakesWrongFalsely : Prop := berthMakesRow.holds Try.pinned (OpenSpec.ofChange berthMakesWrong)

/-- 'berthshiftlaw.BerthParts': WHATEVER THE INPUT: true; the input reads as it did. -/
def berthPartsSpec : ChangeSpec := { name := "berthParts", fn := fun _ => fun
  | [d1, d2] => { results := [.lit (.bool true)], args := [d1, d2] }
  | _ => none }
def berthPartsRow : OpenClaim := { program := "ytkjlafpafmihaaa", sum := "fe97e873e1d8807507dcdbb19a4a6e77dcf13f8df899fef492b98cbe20d9e71b", func := "berthshift/berthshiftlaw.BerthParts", spec := "berthParts", unfollowed := true, recurses := true, apart := false }
def BerthPartsSaid : Prop := berthPartsRow.holds Try.pinned (OpenSpec.ofChange berthPartsSpec)

/-- ITS FALSE NEIGHBOUR: 'it returns false'. Refute it at one input. -/
def berthPartsWrong : ChangeSpec := { name := "berthParts", fn := fun _ => fun
  | [d1, d2] => { results := [.lit (.bool false)], args := [d1, d2] }
  | _ => none }
def BerthPartsWrongFalsely : Prop := berthPartsRow.holds Try.pinned (OpenSpec.ofChange berthPartsWrong)

/-- 'berthshiftlaw.BerthWakes': WHATEVER THE INPUT: true; the input reads as it did. -/
def berthWakesSpec : ChangeSpec := { name := "berthWakes", fn := fun _ => fun
  | [d] => { results := [.lit (.bool true)], args := [d] }
  | _ => none }
def berthWakesRow : OpenClaim := { program := "ytkjlafpafmihaaa", sum := "fe97e873e1d8807507dcdbb19a4a6e77dcf13f8df899fef492b98cbe20d9e71b", func := "berthshift/berthshiftlaw.BerthWakes", spec := "berthWakes", unfollowed := true, recurses := true, apart := false }
def BerthWakesSaid : Prop := berthWakesRow.holds Try.pinned (OpenSpec.ofChange berthWakesSpec)

/-- ITS FALSE NEIGHBOUR: 'it returns false'. Refute it at one input. -/
def berthWakesWrong : ChangeSpec := { name := "berthWakes", fn := fun _ => fun
  | [d] => { results := [.lit (.bool false)], args := [d] }
  | _ => none }
def BerthWakesWrongFalsely : Prop := berthWakesRow.holds Try.pinned (OpenSpec.ofChange berthWakesWrong)

/-- 'berthshiftlaw.BerthBegins': WHATEVER THE INPUT: true; the input reads as it did. -/
def berthBeginsSpec : ChangeSpec := { name := "berthBegins", fn := fun _ => fun
  | [d1, d2, d3] => { results := [.lit (.bool true)], args := [d1, d2, d3] }
  | _ => none }
def berthBeginsRow : OpenClaim := { program := "ytkjlafpafmihaaa", sum := "fe97e873e1d8807507dcdbb19a4a6e77dcf13f8df899fef492b98cbe20d9e71b", func := "berthshift/berthshiftlaw.BerthBegins", spec := "berthBegins", unfollowed := true, recurses := true, apart := false }
def BerthBeginsSaid : Prop := berthBeginsRow.holds Try.pinned (OpenSpec.ofChange berthBeginsSpec)

/-- ITS FALSE NEIGHBOUR: 'it returns false'. Refute it at one input. -/
def berthBeginsWrong : ChangeSpec := { name := "berthBegins", fn := fun _ => fun
  | [d1, d2, d3] => { results := [.lit (.bool false)], args := [d1, d2, d3] }
  | _ => none }
def BerthBeginsWrongFalsely : Prop := berthBeginsRow.holds Try.pinned (OpenSpec.ofChange berthBeginsWrong)

/-- 'berthshiftlaw.BerthGoes': WHATEVER THE INPUT: true; the input reads as it did. -/
def berthGoesSpec : ChangeSpec := { name := "berthGoes", fn := fun _ => fun
  | [d1, d2] => { results := [.lit (.bool true)], args := [d1, d2] }
  | _ => none }
def berthGoesRow : OpenClaim := { program := "ytkjlafpafmihaaa", sum := "fe97e873e1d8807507dcdbb19a4a6e77dcf13f8df899fef492b98cbe20d9e71b", func := "berthshift/berthshiftlaw.BerthGoes", spec := "berthGoes", unfollowed := true, recurses := true, apart := false }
def BerthGoesSaid : Prop := berthGoesRow.holds Try.pinned (OpenSpec.ofChange berthGoesSpec)

/-- ITS FALSE NEIGHBOUR: 'it returns false'. Refute it at one input. -/
def berthGoesWrong : ChangeSpec := { name := "berthGoes", fn := fun _ => fun
  | [d1, d2] => { results := [.lit (.bool false)], args := [d1, d2] }
  | _ => none }
def BerthGoesWrongFalsely : Prop := berthGoesRow.holds Try.pinned (OpenSpec.ofChange berthGoesWrong)

/-- 'berthshiftlaw.BerthCaughts': WHATEVER THE INPUT: true; the input reads as it did. -/
def berthCaughtsSpec : ChangeSpec := { name := "berthCaughts", fn := fun _ => fun
  | [d1, d2] => { results := [.lit (.bool true)], args := [d1, d2] }
  | _ => none }
def berthCaughtsRow : OpenClaim := { program := "ytkjlafpafmihaaa", sum := "fe97e873e1d8807507dcdbb19a4a6e77dcf13f8df899fef492b98cbe20d9e71b", func := "berthshift/berthshiftlaw.BerthCaughts", spec := "berthCaughts", unfollowed := true, recurses := true, apart := false }
def BerthCaughtsSaid : Prop := berthCaughtsRow.holds Try.pinned (OpenSpec.ofChange berthCaughtsSpec)

/-- ITS FALSE NEIGHBOUR: 'it returns false'. Refute it at one input. -/
def berthCaughtsWrong : ChangeSpec := { name := "berthCaughts", fn := fun _ => fun
  | [d1, d2] => { results := [.lit (.bool false)], args := [d1, d2] }
  | _ => none }
def BerthCaughtsWrongFalsely : Prop := berthCaughtsRow.holds Try.pinned (OpenSpec.ofChange berthCaughtsWrong)

/-- 'berthshiftlaw.BerthServes': WHATEVER THE INPUT: true; the input reads as it did. -/
def berthServesSpec : ChangeSpec := { name := "berthServes", fn := fun _ => fun
  | [d1, d2] => { results := [.lit (.bool true)], args := [d1, d2] }
  | _ => none }
def berthServesRow : OpenClaim := { program := "ytkjlafpafmihaaa", sum := "fe97e873e1d8807507dcdbb19a4a6e77dcf13f8df899fef492b98cbe20d9e71b", func := "berthshift/berthshiftlaw.BerthServes", spec := "berthServes", unfollowed := true, recurses := true, apart := false }
def BerthServesSaid : Prop := berthServesRow.holds Try.pinned (OpenSpec.ofChange berthServesSpec)

/-- ITS FALSE NEIGHBOUR: 'it returns false'. Refute it at one input. -/
def berthServesWrong : ChangeSpec := { name := "berthServes", fn := fun _ => fun
  | [d1, d2] => { results := [.lit (.bool false)], args := [d1, d2] }
  | _ => none }
def BerthServesWrongFalsely : Prop := berthServesRow.holds Try.pinned (OpenSpec.ofChange berthServesWrong)

/-- 'berthshiftlaw.BerthImports': WHATEVER THE INPUT: true; the input reads as it did. -/
def berthImportsSpec : ChangeSpec := { name := "berthImports", fn := fun _ => fun
  | [d1, d2, d3, d4, d5] => { results := [.lit (.bool true)], args := [d1, d2, d3, d4, d5] }
  | _ => none }
def berthImportsRow : OpenClaim := { program := "ytkjlafpafmihaaa", sum := "fe97e873e1d8807507dcdbb19a4a6e77dcf13f8df899fef492b98cbe20d9e71b", func := "berthshift/berthshiftlaw.BerthImports", spec := "berthImports", unfollowed := true, recurses := true, apart := false }
def BerthImportsSaid : Prop := berthImportsRow.holds Try.pinned (OpenSpec.ofChange berthImportsSpec)

/-- ITS FALSE NEIGHBOUR: 'it returns false'. Refute it at one input. -/
def berthImportsWrong : ChangeSpec := { name := "berthImports", fn := fun _ => fun
  | [d1, d2, d3, d4, d5] => { results := [.lit (.bool false)], args := [d1, d2, d3, d4, d5] }
  | _ => none }
def BerthImportsWrongFalsely : Prop := berthImportsRow.holds Try.pinned (OpenSpec.ofChange berthImportsWrong)

/-- 'berthshiftlaw.RebuildApplies': WHATEVER THE INPUT: true; the input reads as it did. -/
def rebuildAppliesSpec : ChangeSpec := { name := "rebuildApplies", fn := fun _ => fun
  | [d1, d2] => { results := [.lit (.bool true)], args := [d1, d2] }
  | _ => none }
def rebuildAppliesRow : OpenClaim := { program := "ytkjlafpafmihaaa", sum := "fe97e873e1d8807507dcdbb19a4a6e77dcf13f8df899fef492b98cbe20d9e71b", func := "berthshift/berthshiftlaw.RebuildApplies", spec := "rebuildApplies", unfollowed := true, recurses := true, apart := false }
def RebuildAppliesSaid : Prop := rebuildAppliesRow.holds Try.pinned (OpenSpec.ofChange rebuildAppliesSpec)

/-- ITS FALSE NEIGHBOUR: 'it returns false'. Refute it at one input. -/
def rebuildAppliesWrong : ChangeSpec := { name := "rebuildApplies", fn := fun _ => fun
  | [d1, d2] => { results := [.lit (.bool false)], args := [d1, d2] }
  | _ => none }
def RebuildAppliesWrongFalsely : Prop := rebuildAppliesRow.holds Try.pinned (OpenSpec.ofChange rebuildAppliesWrong)

/-- 'berthshiftlaw.RebuildAlls': WHATEVER THE INPUT: true; the input reads as it did. -/
def rebuildAllsSpec : ChangeSpec := { name := "rebuildAlls", fn := fun _ => fun
  | [d] => { results := [.lit (.bool true)], args := [d] }
  | _ => none }
def rebuildAllsRow : OpenClaim := { program := "ytkjlafpafmihaaa", sum := "fe97e873e1d8807507dcdbb19a4a6e77dcf13f8df899fef492b98cbe20d9e71b", func := "berthshift/berthshiftlaw.RebuildAlls", spec := "rebuildAlls", unfollowed := true, recurses := true, apart := false }
def RebuildAllsSaid : Prop := rebuildAllsRow.holds Try.pinned (OpenSpec.ofChange rebuildAllsSpec)

/-- ITS FALSE NEIGHBOUR: 'it returns false'. Refute it at one input. -/
def rebuildAllsWrong : ChangeSpec := { name := "rebuildAlls", fn := fun _ => fun
  | [d] => { results := [.lit (.bool false)], args := [d] }
  | _ => none }
def RebuildAllsWrongFalsely : Prop := rebuildAllsRow.holds Try.pinned (OpenSpec.ofChange rebuildAllsWrong)

/- THE SECOND FORM. 'bulk': how many values and letters a reading holds, each counted each time it is reached (what is shared counts as often as it is met; a slice's spare places count too). A statement '..UptoSaid' is the law's where the arguments, and the package variables that the reading takes, are together of bulk at most 1048576: NARROWER than '..Said'. Prove '..Said' where nothing that the law and all that it calls make is longer than what came in: it says more and counts as full. Else prove '..UptoSaid'. A law counts once. -/
mutual
def uptoBulk {H : Type} : DataW H → Nat
  | .lit (.string bytes) => bytes.length + 1
  | .lit _ => 1
  | .nil => 1
  | .ptr d => uptoBulk d + 1
  | .slice elems spare => uptoBulkAll elems + uptoBulkAll spare + 1
  | .agg parts => uptoBulkAll parts + 1
  | .iface _ d => uptoBulk d + 1
  | .map entries => uptoBulkEntries entries + 1
  | .held _ => 1
def uptoBulkAll {H : Type} : List (DataW H) → Nat
  | [] => 0
  | d :: r => uptoBulk d + uptoBulkAll r
def uptoBulkEntries {H : Type} : List (Lit × DataW H) → Nat
  | [] => 0
  | x :: r => uptoBulkEntry x + uptoBulkEntries r
def uptoBulkEntry {H : Type} : Lit × DataW H → Nat
  | (.string bytes, d) => bytes.length + uptoBulk d + 1
  | (_, d) => uptoBulk d + 1
 end
def uptoSmall : (H : Type) → List (DataW H) → Bool := fun _ ds => decide (uptoBulkAll ds ≤ 1048576)
def OpenSpec.upto (s : _root_.Go.ChangeSpec) : _root_.Go.OpenSpec := { _root_.Go.OpenSpec.ofChange s with cond := some uptoSmall }

/-- 'berthshiftlaw.QueueChecks', WHERE WHAT IT READS IS OF BULK AT MOST 1048576: true; the input reads as it did. -/
def queueChecksUptoRow : OpenClaim := { program := "ytkjlafpafmihaaa", sum := "fe97e873e1d8807507dcdbb19a4a6e77dcf13f8df899fef492b98cbe20d9e71b", func := "berthshift/berthshiftlaw.QueueChecks", spec := "queueChecks", apart := false, narrowed := true }
def QueueChecksUptoSaid : Prop := queueChecksUptoRow.holds Try.pinned (OpenSpec.upto queueChecksSpec)

/-- 'berthshiftlaw.LinesChecks', WHERE WHAT IT READS IS OF BULK AT MOST 1048576: true; the input reads as it did. -/
def linesChecksUptoRow : OpenClaim := { program := "ytkjlafpafmihaaa", sum := "fe97e873e1d8807507dcdbb19a4a6e77dcf13f8df899fef492b98cbe20d9e71b", func := "berthshift/berthshiftlaw.LinesChecks", spec := "linesChecks", apart := false, narrowed := true }
def LinesChecksUptoSaid : Prop := linesChecksUptoRow.holds Try.pinned (OpenSpec.upto linesChecksSpec)

/-- 'berthshiftlaw.PlanBalances', WHERE WHAT IT READS IS OF BULK AT MOST 1048576: true; the input reads as it did. -/
def planBalancesUptoRow : OpenClaim := { program := "ytkjlafpafmihaaa", sum := "fe97e873e1d8807507dcdbb19a4a6e77dcf13f8df899fef492b98cbe20d9e71b", func := "berthshift/berthshiftlaw.PlanBalances", spec := "planBalances", apart := false, narrowed := true }
def PlanBalancesUptoSaid : Prop := planBalancesUptoRow.holds Try.pinned (OpenSpec.upto planBalancesSpec)

/-- 'berthshiftlaw.PackEncodes', WHERE WHAT IT READS IS OF BULK AT MOST 1048576: true; the input reads as it did. -/
def packEncodesUptoRow : OpenClaim := { program := "ytkjlafpafmihaaa", sum := "fe97e873e1d8807507dcdbb19a4a6e77dcf13f8df899fef492b98cbe20d9e71b", func := "berthshift/berthshiftlaw.PackEncodes", spec := "packEncodes", apart := false, narrowed := true }
def PackEncodesUptoSaid : Prop := packEncodesUptoRow.holds Try.pinned (OpenSpec.upto packEncodesSpec)

/-- 'berthshiftlaw.ClientLearns', WHERE WHAT IT READS IS OF BULK AT MOST 1048576: true; the input reads as it did. -/
def clientLearnsUptoRow : OpenClaim := { program := "ytkjlafpafmihaaa", sum := "fe97e873e1d8807507dcdbb19a4a6e77dcf13f8df899fef492b98cbe20d9e71b", func := "berthshift/berthshiftlaw.ClientLearns", spec := "clientLearns", apart := false, narrowed := true }
def ClientLearnsUptoSaid : Prop := clientLearnsUptoRow.holds Try.pinned (OpenSpec.upto clientLearnsSpec)

/-- 'berthshiftlaw.ClientSends', WHERE WHAT IT READS IS OF BULK AT MOST 1048576: true; the input reads as it did. -/
def clientSendsUptoRow : OpenClaim := { program := "ytkjlafpafmihaaa", sum := "fe97e873e1d8807507dcdbb19a4a6e77dcf13f8df899fef492b98cbe20d9e71b", func := "berthshift/berthshiftlaw.ClientSends", spec := "clientSends", apart := false, narrowed := true }
def ClientSendsUptoSaid : Prop := clientSendsUptoRow.holds Try.pinned (OpenSpec.upto clientSendsSpec)

/-- 'berthshiftlaw.PackDecodes', WHERE WHAT IT READS IS OF BULK AT MOST 1048576: true; the input reads as it did. -/
def packDecodesUptoRow : OpenClaim := { program := "ytkjlafpafmihaaa", sum := "fe97e873e1d8807507dcdbb19a4a6e77dcf13f8df899fef492b98cbe20d9e71b", func := "berthshift/berthshiftlaw.PackDecodes", spec := "packDecodes", unfollowed := true, recurses := true, apart := false, narrowed := true }
def PackDecodesUptoSaid : Prop := packDecodesUptoRow.holds Try.pinned (OpenSpec.upto packDecodesSpec)

/-- 'berthshiftlaw.ClientDones', WHERE WHAT IT READS IS OF BULK AT MOST 1048576: true; the input reads as it did. -/
def clientDonesUptoRow : OpenClaim := { program := "ytkjlafpafmihaaa", sum := "fe97e873e1d8807507dcdbb19a4a6e77dcf13f8df899fef492b98cbe20d9e71b", func := "berthshift/berthshiftlaw.ClientDones", spec := "clientDones", unfollowed := true, recurses := true, apart := false, narrowed := true }
def ClientDonesUptoSaid : Prop := clientDonesUptoRow.holds Try.pinned (OpenSpec.upto clientDonesSpec)

/-- 'berthshiftlaw.LinesCalls', WHERE WHAT IT READS IS OF BULK AT MOST 1048576: true; the input reads as it did. -/
def linesCallsUptoRow : OpenClaim := { program := "ytkjlafpafmihaaa", sum := "fe97e873e1d8807507dcdbb19a4a6e77dcf13f8df899fef492b98cbe20d9e71b", func := "berthshift/berthshiftlaw.LinesCalls", spec := "linesCalls", apart := false, narrowed := true }
def LinesCallsUptoSaid : Prop := linesCallsUptoRow.holds Try.pinned (OpenSpec.upto linesCallsSpec)

/-- 'berthshiftlaw.TapeWrites', WHERE WHAT IT READS IS OF BULK AT MOST 1048576: true; the input reads as it did. -/
def tapeWritesUptoRow : OpenClaim := { program := "ytkjlafpafmihaaa", sum := "fe97e873e1d8807507dcdbb19a4a6e77dcf13f8df899fef492b98cbe20d9e71b", func := "berthshift/berthshiftlaw.TapeWrites", spec := "tapeWrites", apart := false, narrowed := true }
def TapeWritesUptoSaid : Prop := tapeWritesUptoRow.holds Try.pinned (OpenSpec.upto tapeWritesSpec)

/-- 'berthshiftlaw.TapeReads', WHERE WHAT IT READS IS OF BULK AT MOST 1048576: true; the input reads as it did. -/
def tapeReadsUptoRow : OpenClaim := { program := "ytkjlafpafmihaaa", sum := "fe97e873e1d8807507dcdbb19a4a6e77dcf13f8df899fef492b98cbe20d9e71b", func := "berthshift/berthshiftlaw.TapeReads", spec := "tapeReads", unfollowed := true, recurses := true, apart := false, narrowed := true }
def TapeReadsUptoSaid : Prop := tapeReadsUptoRow.holds Try.pinned (OpenSpec.upto tapeReadsSpec)

/-- 'berthshiftlaw.TapeRepairs', WHERE WHAT IT READS IS OF BULK AT MOST 1048576: true; the input reads as it did. -/
def tapeRepairsUptoRow : OpenClaim := { program := "ytkjlafpafmihaaa", sum := "fe97e873e1d8807507dcdbb19a4a6e77dcf13f8df899fef492b98cbe20d9e71b", func := "berthshift/berthshiftlaw.TapeRepairs", spec := "tapeRepairs", unfollowed := true, recurses := true, apart := false, narrowed := true }
def TapeRepairsUptoSaid : Prop := tapeRepairsUptoRow.holds Try.pinned (OpenSpec.upto tapeRepairsSpec)

/-- 'berthshiftlaw.QueueDoes', WHERE WHAT IT READS IS OF BULK AT MOST 1048576: true; the input reads as it did. -/
def queueDoesUptoRow : OpenClaim := { program := "ytkjlafpafmihaaa", sum := "fe97e873e1d8807507dcdbb19a4a6e77dcf13f8df899fef492b98cbe20d9e71b", func := "berthshift/berthshiftlaw.QueueDoes", spec := "queueDoes", unfollowed := true, recurses := true, apart := false, narrowed := true }
def QueueDoesUptoSaid : Prop := queueDoesUptoRow.holds Try.pinned (OpenSpec.upto queueDoesSpec)

/-- 'berthshiftlaw.HistoryReplays', WHERE WHAT IT READS IS OF BULK AT MOST 1048576: true; the input reads as it did. -/
def historyReplaysUptoRow : OpenClaim := { program := "ytkjlafpafmihaaa", sum := "fe97e873e1d8807507dcdbb19a4a6e77dcf13f8df899fef492b98cbe20d9e71b", func := "berthshift/berthshiftlaw.HistoryReplays", spec := "historyReplays", unfollowed := true, recurses := true, apart := false, narrowed := true }
def HistoryReplaysUptoSaid : Prop := historyReplaysUptoRow.holds Try.pinned (OpenSpec.upto historyReplaysSpec)

/-- 'berthshiftlaw.HistoryAnswers', WHERE WHAT IT READS IS OF BULK AT MOST 1048576: true; the input reads as it did. -/
def historyAnswersUptoRow : OpenClaim := { program := "ytkjlafpafmihaaa", sum := "fe97e873e1d8807507dcdbb19a4a6e77dcf13f8df899fef492b98cbe20d9e71b", func := "berthshift/berthshiftlaw.HistoryAnswers", spec := "historyAnswers", unfollowed := true, recurses := true, apart := false, narrowed := true }
def HistoryAnswersUptoSaid : Prop := historyAnswersUptoRow.holds Try.pinned (OpenSpec.upto historyAnswersSpec)

/-- 'berthshiftlaw.BerthChecks', WHERE WHAT IT READS IS OF BULK AT MOST 1048576: true; the input reads as it did. -/
def berthChecksUptoRow : OpenClaim := { program := "ytkjlafpafmihaaa", sum := "fe97e873e1d8807507dcdbb19a4a6e77dcf13f8df899fef492b98cbe20d9e71b", func := "berthshift/berthshiftlaw.BerthChecks", spec := "berthChecks", unfollowed := true, recurses := true, apart := false, narrowed := true }
def BerthChecksUptoSaid : Prop := berthChecksUptoRow.holds Try.pinned (OpenSpec.upto berthChecksSpec)

/-- 'berthshiftlaw.BerthForgets', WHERE WHAT IT READS IS OF BULK AT MOST 1048576: true; the input reads as it did. -/
def berthForgetsUptoRow : OpenClaim := { program := "ytkjlafpafmihaaa", sum := "fe97e873e1d8807507dcdbb19a4a6e77dcf13f8df899fef492b98cbe20d9e71b", func := "berthshift/berthshiftlaw.BerthForgets", spec := "berthForgets", unfollowed := true, recurses := true, apart := false, narrowed := true }
def BerthForgetsUptoSaid : Prop := berthForgetsUptoRow.holds Try.pinned (OpenSpec.upto berthForgetsSpec)

/-- 'berthshiftlaw.BerthMakes', WHERE WHAT IT READS IS OF BULK AT MOST 1048576: true; the input reads as it did. -/
def berthMakesUptoRow : OpenClaim := { program := "ytkjlafpafmihaaa", sum := "fe97e873e1d8807507dcdbb19a4a6e77dcf13f8df899fef492b98cbe20d9e71b", func := "berthshift/berthshiftlaw.BerthMakes", spec := "berthMakes", unfollowed := true, recurses := true, apart := false, narrowed := true }
def BerthMakesUptoSaid : Prop := berthMakesUptoRow.holds Try.pinned (OpenSpec.upto berthMakesSpec)

/-- 'berthshiftlaw.BerthParts', WHERE WHAT IT READS IS OF BULK AT MOST 1048576: true; the input reads as it did. -/
def berthPartsUptoRow : OpenClaim := { program := "ytkjlafpafmihaaa", sum := "fe97e873e1d8807507dcdbb19a4a6e77dcf13f8df899fef492b98cbe20d9e71b", func := "berthshift/berthshiftlaw.BerthParts", spec := "berthParts", unfollowed := true, recurses := true, apart := false, narrowed := true }
def BerthPartsUptoSaid : Prop := berthPartsUptoRow.holds Try.pinned (OpenSpec.upto berthPartsSpec)

/-- 'berthshiftlaw.BerthWakes', WHERE WHAT IT READS IS OF BULK AT MOST 1048576: true; the input reads as it did. -/
def berthWakesUptoRow : OpenClaim := { program := "ytkjlafpafmihaaa", sum := "fe97e873e1d8807507dcdbb19a4a6e77dcf13f8df899fef492b98cbe20d9e71b", func := "berthshift/berthshiftlaw.BerthWakes", spec := "berthWakes", unfollowed := true, recurses := true, apart := false, narrowed := true }
def BerthWakesUptoSaid : Prop := berthWakesUptoRow.holds Try.pinned (OpenSpec.upto berthWakesSpec)

/-- 'berthshiftlaw.BerthBegins', WHERE WHAT IT READS IS OF BULK AT MOST 1048576: true; the input reads as it did. -/
def berthBeginsUptoRow : OpenClaim := { program := "ytkjlafpafmihaaa", sum := "fe97e873e1d8807507dcdbb19a4a6e77dcf13f8df899fef492b98cbe20d9e71b", func := "berthshift/berthshiftlaw.BerthBegins", spec := "berthBegins", unfollowed := true, recurses := true, apart := false, narrowed := true }
def BerthBeginsUptoSaid : Prop := berthBeginsUptoRow.holds Try.pinned (OpenSpec.upto berthBeginsSpec)

/-- 'berthshiftlaw.BerthGoes', WHERE WHAT IT READS IS OF BULK AT MOST 1048576: true; the input reads as it did. -/
def berthGoesUptoRow : OpenClaim := { program := "ytkjlafpafmihaaa", sum := "fe97e873e1d8807507dcdbb19a4a6e77dcf13f8df899fef492b98cbe20d9e71b", func := "berthshift/berthshiftlaw.BerthGoes", spec := "berthGoes", unfollowed := true, recurses := true, apart := false, narrowed := true }
def BerthGoesUptoSaid : Prop := berthGoesUptoRow.holds Try.pinned (OpenSpec.upto berthGoesSpec)

/-- 'berthshiftlaw.BerthCaughts', WHERE WHAT IT READS IS OF BULK AT MOST 1048576: true; the input reads as it did. -/
def berthCaughtsUptoRow : OpenClaim := { program := "ytkjlafpafmihaaa", sum := "fe97e873e1d8807507dcdbb19a4a6e77dcf13f8df899fef492b98cbe20d9e71b", func := "berthshift/berthshiftlaw.BerthCaughts", spec := "berthCaughts", unfollowed := true, recurses := true, apart := false, narrowed := true }
def BerthCaughtsUptoSaid : Prop := berthCaughtsUptoRow.holds Try.pinned (OpenSpec.upto berthCaughtsSpec)

/-- 'berthshiftlaw.BerthServes', WHERE WHAT IT READS IS OF BULK AT MOST 1048576: true; the input reads as it did. -/
def berthServesUptoRow : OpenClaim := { program := "ytkjlafpafmihaaa", sum := "fe97e873e1d8807507dcdbb19a4a6e77dcf13f8df899fef492b98cbe20d9e71b", func := "berthshift/berthshiftlaw.BerthServes", spec := "berthServes", unfollowed := true, recurses := true, apart := false, narrowed := true }
def BerthServesUptoSaid : Prop := berthServesUptoRow.holds Try.pinned (OpenSpec.upto berthServesSpec)

/-- 'berthshiftlaw.BerthImports', WHERE WHAT IT READS IS OF BULK AT MOST 1048576: true; the input reads as it did. -/
def berthImportsUptoRow : OpenClaim := { program := "ytkjlafpafmihaaa", sum := "fe97e873e1d8807507dcdbb19a4a6e77dcf13f8df899fef492b98cbe20d9e71b", func := "berthshift/berthshiftlaw.BerthImports", spec := "berthImports", unfollowed := true, recurses := true, apart := false, narrowed := true }
def BerthImportsUptoSaid : Prop := berthImportsUptoRow.holds Try.pinned (OpenSpec.upto berthImportsSpec)

/-- 'berthshiftlaw.RebuildApplies', WHERE WHAT IT READS IS OF BULK AT MOST 1048576: true; the input reads as it did. -/
def rebuildAppliesUptoRow : OpenClaim := { program := "ytkjlafpafmihaaa", sum := "fe97e873e1d8807507dcdbb19a4a6e77dcf13f8df899fef492b98cbe20d9e71b", func := "berthshift/berthshiftlaw.RebuildApplies", spec := "rebuildApplies", unfollowed := true, recurses := true, apart := false, narrowed := true }
def RebuildAppliesUptoSaid : Prop := rebuildAppliesUptoRow.holds Try.pinned (OpenSpec.upto rebuildAppliesSpec)

/-- 'berthshiftlaw.RebuildAlls', WHERE WHAT IT READS IS OF BULK AT MOST 1048576: true; the input reads as it did. -/
def rebuildAllsUptoRow : OpenClaim := { program := "ytkjlafpafmihaaa", sum := "fe97e873e1d8807507dcdbb19a4a6e77dcf13f8df899fef492b98cbe20d9e71b", func := "berthshift/berthshiftlaw.RebuildAlls", spec := "rebuildAlls", unfollowed := true, recurses := true, apart := false, narrowed := true }
def RebuildAllsUptoSaid : Prop := rebuildAllsUptoRow.holds Try.pinned (OpenSpec.upto rebuildAllsSpec)

end Rows
end Go.Proofs.Ytkjlafpafmihaaa
