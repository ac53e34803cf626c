/- Parts of proofs: lemmas on memory, on single functions and on the plain models; no condition of their own. -/
import Derived.Test.YtkjlafpafmihaaaRows
import Derived.WalkKit
import Derived.ProofKit
import Derived.OpenShut
import Derived.SizedLaws
import Derived.WalkSpells
import Derived.WalkLawsBesides
import Derived.Handy
import Derived.Deep.QuietTactic
import Derived.BigQuiet
import Derived.Lib.Hide
import Derived.Maps.AppendAt
import Derived.Deep.AppendLies
import Derived.RegionTactic
import Derived.OwnWalk
import Derived.ChangeKeysEq
import Derived.Laws.Tables
import Derived.Deep.MidRow
import Derived.StillTailTactics
import Derived.OrdersHeld
import Derived.Deep.RegionHeld3
import Derived.Laws.IdiomCopy
import Derived.Laws.BitsAllLaws
import Derived.Deep.DeepCutAuto
import Derived.Deep.CutRange
import Derived.Shelf.SlSortCmp.WholeK
import Derived.Shelf.SlSortCmp.NoneTotal
import Derived.Shelf.SlicesG.Cmp
import Derived.Shelf.SlGeneric
import Derived.Ground.SlsfProg
import Derived.Ground.SlgcProg
import Derived.Test.YtkjlafpafmihaaaG1b3f031f3838
import Derived.Test.YtkjlafpafmihaaaG3d3d00a3ec74
import Derived.Test.YtkjlafpafmihaaaG7513e187c541
import Derived.Test.YtkjlafpafmihaaaG94c6852e5657
import Derived.Test.YtkjlafpafmihaaaGa09fbd9efb78
import Derived.Test.YtkjlafpafmihaaaGa90ca60c6bbf
import Derived.Test.YtkjlafpafmihaaaGb48b52f65941
import Derived.Test.YtkjlafpafmihaaaGc7e713607da7
import Derived.Test.YtkjlafpafmihaaaGe0a7094eaa1d
set_option linter.unusedVariables false
set_option linter.unusedSimpArgs false

namespace Go.Proofs.Ytkjlafpafmihaaa
open Go.Shelf
open Go.ChangeShapes Go.WideShapes Go.ChangeAt Go.RowKit
open Go.Sort (HoldsK PermIn SortedIn SWO grow)
instance : Inhabited Msg := ⟨⟨0, 0⟩⟩
end Go.Proofs.Ytkjlafpafmihaaa

namespace Go.Proofs.Ytkjlafpafmihaaa
open Go.ChangeShapes Go.WideShapes Go.RowKit

def Qd.row (Q : Qd) (A1 : Option Addr) (c1 : Nat) (A2 : Option Addr) (c2 : Nat) : Array Value := qRow Q.ep Q.nx Q.gv (.slice A1 Q.ready.length c1) (.slice A2 Q.leases.length c2) Q.ws
end Go.Proofs.Ytkjlafpafmihaaa

namespace Go.Proofs.Ytkjlafpafmihaaa
open Go.ChangeShapes Go.WideShapes Go.RowKit

structure Brt where
  role : Int
  ep : Int
  fr : Int
  tg : Int
  rd : Int
  evs : List Ev
  deriving DecidableEq
def shapeB (b : Brt) : Prop := (b.role = 0 ∧ 0 ≤ b.ep ∧ b.ep ≤ 1048576 ∧ b.fr = 0 ∧ b.tg = 0 ∧ b.rd = 0 ∧ b.evs.length = 0) ∨ (1 ≤ b.ep ∧ b.ep ≤ 1048576 ∧
  ((b.role = 1 ∧ b.fr = 0 ∧ b.tg = 0 ∧ b.rd = 0) ∨ (b.role = 2 ∧ b.fr = 0 ∧ 0 ≤ b.tg ∧ b.tg < 5 ∧ 0 ≤ b.rd ∧ b.rd ≤ 4) ∨ (b.role = 3 ∧ b.fr = 0 ∧ 0 ≤ b.tg ∧ b.tg < 5 ∧ b.rd = 0) ∨ (b.role = 4 ∧ 0 ≤ b.fr ∧ b.fr < 5 ∧ b.tg = 0 ∧ b.rd = 0)))
instance (b : Brt) : Decidable (shapeB b) := by unfold shapeB; exact inferInstance
end Go.Proofs.Ytkjlafpafmihaaa

