/- Parts of proofs: lemmas on memory, on single functions and on the plain models; no condition of their own. -/
import Derived.Test.YtkjlafpafmihaaaRows
import Derived.WalkKit
import Derived.ProofKit
import Derived.OpenShut
import Derived.SizedLaws
import Derived.WalkSpells
import Derived.WalkLawsBesides
import Derived.Handy
import Derived.Deep.QuietTactic
import Derived.BigQuiet
import Derived.Lib.Hide
import Derived.Maps.AppendAt
import Derived.Deep.AppendLies
import Derived.RegionTactic
import Derived.OwnWalk
import Derived.Laws.Tables
import Derived.Deep.MidRow
import Derived.StillTailTactics
import Derived.OrdersHeld
import Derived.Deep.RegionHeld3
import Derived.Laws.IdiomCopy
import Derived.ChangeKeysEq
import Derived.Laws.BitsAllLaws
import Derived.Deep.DeepCutAuto
import Derived.Deep.CutRange
import Derived.Shelf.SlSortCmp.WholeK
import Derived.Shelf.SlSortCmp.NoneTotal
import Derived.Shelf.SlicesG.Cmp
import Derived.Shelf.SlGeneric
import Derived.Ground.SlsfProg
import Derived.Ground.SlgcProg
import Derived.Maps.OwnSet
import Derived.Lib.SliceRun
import Derived.Deep.RegionLaw
import Derived.Test.YtkjlafpafmihaaaG102d53fcab1e
import Derived.Test.YtkjlafpafmihaaaG106a6d0673e2
import Derived.Test.YtkjlafpafmihaaaG191435b3f518
import Derived.Test.YtkjlafpafmihaaaG2345edf4eaef
import Derived.Test.YtkjlafpafmihaaaG32e02c1e1d9b
import Derived.Test.YtkjlafpafmihaaaG37e7b647d51a
import Derived.Test.YtkjlafpafmihaaaG5048191d089e
import Derived.Test.YtkjlafpafmihaaaG6143c69656b1
import Derived.Test.YtkjlafpafmihaaaG6f4fec0f3fed
import Derived.Test.YtkjlafpafmihaaaG7f5e22065f20
import Derived.Test.YtkjlafpafmihaaaG878ee676a6ad
import Derived.Test.YtkjlafpafmihaaaGa54395e311fb
import Derived.Test.YtkjlafpafmihaaaGaa2045d604a6
import Derived.Test.YtkjlafpafmihaaaGbd4cc4649efe
import Derived.Test.YtkjlafpafmihaaaGe8bce0846ba6
set_option linter.unusedVariables false
set_option linter.unusedSimpArgs false

namespace Go.Proofs.Ytkjlafpafmihaaa
open Go.ChangeShapes Go.WideShapes Go.RowKit

theorem Check_below (e : Ev) (w : World) : Calls Try.prog 142 #[e.val] w (IPost w (evFault e)) := (Check_calls e w).mono fun _ _ h => ⟨h.1, h.2⟩
end Go.Proofs.Ytkjlafpafmihaaa

