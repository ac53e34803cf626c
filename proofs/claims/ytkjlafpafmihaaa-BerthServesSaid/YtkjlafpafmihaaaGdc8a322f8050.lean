/- Parts of proofs: lemmas on memory, on single functions and on the plain models; no condition of their own. -/
import Derived.Test.YtkjlafpafmihaaaRows
import Derived.WalkKit
import Derived.ProofKit
import Derived.OpenShut
import Derived.SizedLaws
import Derived.WalkSpells
import Derived.WalkLawsBesides
import Derived.Handy
import Derived.Deep.QuietTactic
import Derived.BigQuiet
import Derived.Lib.Hide
import Derived.Maps.AppendAt
import Derived.Deep.AppendLies
import Derived.RegionTactic
import Derived.OwnWalk
import Derived.Laws.Tables
import Derived.Deep.MidRow
import Derived.StillTailTactics
import Derived.OrdersHeld
import Derived.Deep.RegionHeld3
import Derived.Laws.IdiomCopy
import Derived.ChangeKeysEq
import Derived.Laws.BitsAllLaws
import Derived.Deep.DeepCutAuto
import Derived.Deep.CutRange
import Derived.Shelf.SlSortCmp.WholeK
import Derived.Shelf.SlSortCmp.NoneTotal
import Derived.Shelf.SlicesG.Cmp
import Derived.Shelf.SlGeneric
import Derived.Ground.SlsfProg
import Derived.Ground.SlgcProg
import Derived.Test.YtkjlafpafmihaaaG0e35ec4e0bdc
import Derived.Test.YtkjlafpafmihaaaG2143c9b0b786
import Derived.Test.YtkjlafpafmihaaaG3cad135f796d
import Derived.Test.YtkjlafpafmihaaaG668153da7687
import Derived.Test.YtkjlafpafmihaaaG8ba6bfb0af5b
import Derived.Test.YtkjlafpafmihaaaG95288c2830db
import Derived.Test.YtkjlafpafmihaaaG9d6a0cc61d66
import Derived.Test.YtkjlafpafmihaaaGa89c1a6f9966
import Derived.Test.YtkjlafpafmihaaaGa956530333d6
import Derived.Test.YtkjlafpafmihaaaGaa4a32ccdcb1
import Derived.Test.YtkjlafpafmihaaaGad4fca606e19
import Derived.Test.YtkjlafpafmihaaaGb06670d46fbe
import Derived.Test.YtkjlafpafmihaaaGb705d1f06a25
import Derived.Test.YtkjlafpafmihaaaGc78e27da6ed6
set_option linter.unusedVariables false
set_option linter.unusedSimpArgs false

namespace Go.Proofs.Ytkjlafpafmihaaa
open Go.ChangeShapes Go.WideShapes Go.RowKit

/-- P7.2. -/
noncomputable def serveM (b : Brt) (e : Ev) : Brt × Ans × Bool × Int :=
  if brtFault b ≠ 0 then (zeroB, ans0, false, brtFault b) else if evFault e ≠ 0 then (zeroB, ans0, false, evFault e) else if e.kind = 4 then (zeroB, ans0, false, 3)
  else if b.role = 3 then (b, ansE 12, false, 0) else if b.role ≠ 1 ∧ b.role ≠ 2 then (b, ansE 7, false, 0)
  else if (doM (tellM b.evs).1 e).2.2.1 = false then (b, (doM (tellM b.evs).1 e).2.1, false, 0)
  else if 1999 ≤ b.evs.length then (b, ansE 14, false, 0) else ({ b with evs := b.evs ++ [e] }, (doM (tellM b.evs).1 e).2.1, true, 0)
end Go.Proofs.Ytkjlafpafmihaaa

