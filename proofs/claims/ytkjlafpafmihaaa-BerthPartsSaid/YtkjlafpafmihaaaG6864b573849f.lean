/- Parts of proofs: lemmas on memory, on single functions and on the plain models; no condition of their own. -/
import Derived.Test.YtkjlafpafmihaaaRows
import Derived.WalkKit
import Derived.ProofKit
import Derived.OpenShut
import Derived.SizedLaws
import Derived.WalkSpells
import Derived.WalkLawsBesides
import Derived.Handy
import Derived.Deep.QuietTactic
import Derived.BigQuiet
import Derived.Lib.Hide
import Derived.Maps.AppendAt
import Derived.Deep.AppendLies
import Derived.RegionTactic
import Derived.OwnWalk
import Derived.Laws.Tables
import Derived.Deep.MidRow
import Derived.StillTailTactics
import Derived.OrdersHeld
import Derived.Deep.RegionHeld3
import Derived.Laws.IdiomCopy
import Derived.ChangeKeysEq
import Derived.Laws.BitsAllLaws
import Derived.Test.YtkjlafpafmihaaaG0e35ec4e0bdc
import Derived.Test.YtkjlafpafmihaaaG3cad135f796d
import Derived.Test.YtkjlafpafmihaaaGa89c1a6f9966
import Derived.Test.YtkjlafpafmihaaaGa956530333d6
import Derived.Test.YtkjlafpafmihaaaGad4fca606e19
import Derived.Test.YtkjlafpafmihaaaGc78e27da6ed6
set_option linter.unusedVariables false
set_option linter.unusedSimpArgs false

namespace Go.Proofs.Ytkjlafpafmihaaa
open Go.ChangeShapes Go.WideShapes Go.RowKit
section
variable {P : Program} {w : World} {t : TypeId} {xo yo : Operand} {l : List Sh} {xs : List Value}
theorem r_beq_self {b : Bool} (hu : P.underlying t = some .bool) : (do eqGuard .eql t xo yo (.bool b) (.bool b); binOp .eql t (.bool b) (.bool b) : Sem Value).run P w = .ok (.bool true) w := by
  rw [Sem.run_bind, show (eqGuard .eql t xo yo (.bool b) (.bool b)).run P w = .ok () w from by cases b <;> rfl]
  have h : ∀ d : Nat, (Op.equalIn (d + 1) t (.bool b) (.bool b)).run P w = .ok true w := fun d => by
    simp [Op.equalIn, run_underlying hu]
  show (binOp .eql t (.bool b) (.bool b)).run P w = _
  simp only [binOp]
  simp [Op.equal, Op.maxDepth, h 9999]
end
end Go.Proofs.Ytkjlafpafmihaaa

