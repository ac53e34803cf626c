/- Parts of proofs: lemmas on memory, on single functions and on the plain models; no condition of their own. -/
import Derived.Test.YtkjlafpafmihaaaRows
import Derived.WalkKit
import Derived.ProofKit
import Derived.OpenShut
import Derived.SizedLaws
import Derived.WalkSpells
import Derived.WalkLawsBesides
import Derived.Handy
import Derived.Deep.QuietTactic
import Derived.BigQuiet
import Derived.Lib.Hide
import Derived.Maps.AppendAt
import Derived.Deep.AppendLies
import Derived.RegionTactic
import Derived.OwnWalk
import Derived.Laws.Tables
import Derived.Deep.MidRow
import Derived.StillTailTactics
import Derived.OrdersHeld
import Derived.Deep.RegionHeld3
import Derived.Laws.IdiomCopy
import Derived.ChangeKeysEq
import Derived.Laws.BitsAllLaws
import Derived.Deep.DeepCutAuto
import Derived.Deep.CutRange
import Derived.Shelf.SlSortCmp.WholeK
import Derived.Shelf.SlSortCmp.NoneTotal
import Derived.Shelf.SlicesG.Cmp
import Derived.Shelf.SlGeneric
import Derived.Ground.SlsfProg
import Derived.Ground.SlgcProg
import Derived.Test.YtkjlafpafmihaaaG106a6d0673e2
import Derived.Test.YtkjlafpafmihaaaG191435b3f518
import Derived.Test.YtkjlafpafmihaaaG2345edf4eaef
import Derived.Test.YtkjlafpafmihaaaG37e7b647d51a
import Derived.Test.YtkjlafpafmihaaaG5048191d089e
import Derived.Test.YtkjlafpafmihaaaG6143c69656b1
import Derived.Test.YtkjlafpafmihaaaGa54395e311fb
import Derived.Test.YtkjlafpafmihaaaGaa2045d604a6
import Derived.Test.YtkjlafpafmihaaaGbd4cc4649efe
import Derived.Test.YtkjlafpafmihaaaGe8bce0846ba6
set_option linter.unusedVariables false
set_option linter.unusedSimpArgs false

namespace Go.Proofs.Ytkjlafpafmihaaa
open Go.Shelf
open Go.ChangeShapes Go.WideShapes Go.ChangeAt Go.RowKit
open Go.Sort (HoldsK PermIn SortedIn SWO grow)
instance : Inhabited Msg := ⟨⟨0, 0⟩⟩
end Go.Proofs.Ytkjlafpafmihaaa

namespace Go.Proofs.Ytkjlafpafmihaaa
open Go.ChangeShapes Go.WideShapes Go.RowKit

def Qd.row (Q : Qd) (A1 : Option Addr) (c1 : Nat) (A2 : Option Addr) (c2 : Nat) : Array Value := qRow Q.ep Q.nx Q.gv (.slice A1 Q.ready.length c1) (.slice A2 Q.leases.length c2) Q.ws
end Go.Proofs.Ytkjlafpafmihaaa

