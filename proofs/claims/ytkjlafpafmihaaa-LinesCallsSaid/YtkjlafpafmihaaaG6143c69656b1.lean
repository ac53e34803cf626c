/- Parts of proofs: lemmas on memory, on single functions and on the plain models; no condition of their own. -/
import Derived.Test.YtkjlafpafmihaaaRows
import Derived.WalkKit
import Derived.ProofKit
import Derived.OpenShut
import Derived.SizedLaws
import Derived.WalkSpells
import Derived.WalkLawsBesides
import Derived.Handy
import Derived.Deep.QuietTactic
import Derived.BigQuiet
import Derived.Lib.Hide
import Derived.Maps.AppendAt
import Derived.Deep.AppendLies
import Derived.RegionTactic
import Derived.OwnWalk
import Derived.Laws.Tables
import Derived.Deep.MidRow
import Derived.StillTailTactics
import Derived.OrdersHeld
import Derived.Deep.RegionHeld3
import Derived.Laws.IdiomCopy
import Derived.ChangeKeysEq
import Derived.Laws.BitsAllLaws
import Derived.Deep.DeepCutAuto
import Derived.Deep.CutRange
import Derived.Test.YtkjlafpafmihaaaG106a6d0673e2
import Derived.Test.YtkjlafpafmihaaaG191435b3f518
import Derived.Test.YtkjlafpafmihaaaG2345edf4eaef
import Derived.Test.YtkjlafpafmihaaaG32e02c1e1d9b
import Derived.Test.YtkjlafpafmihaaaG37e7b647d51a
import Derived.Test.YtkjlafpafmihaaaG5048191d089e
import Derived.Test.YtkjlafpafmihaaaG7f5e22065f20
import Derived.Test.YtkjlafpafmihaaaGa54395e311fb
import Derived.Test.YtkjlafpafmihaaaGaa2045d604a6
import Derived.Test.YtkjlafpafmihaaaGbd4cc4649efe
import Derived.Test.YtkjlafpafmihaaaGe29d7414e059
import Derived.Test.YtkjlafpafmihaaaGe8bce0846ba6
set_option linter.unusedVariables false
set_option linter.unusedSimpArgs false

namespace Go.Proofs.Ytkjlafpafmihaaa
open Go.ChangeShapes Go.WideShapes Go.RowKit

/-- A queue's cells; r, l: its two slices. -/
def qRow (e n g : Int) (r l : Value) (W : Wins) : Array Value := (.int .i64 e :: .int .i64 n :: .int .i64 g :: r :: l :: W.cells).toArray

def IPost (w : World) (k : Int) (e : Ending) (w' : World) : Prop := e = .returned (.int .i64 k) ∧ Below w.heap.size w w'
def BoolB (w : World) (b : Bool) (e : Ending) (w' : World) : Prop := e = .returned (.bool b) ∧ Below w.heap.size w w'

end Go.Proofs.Ytkjlafpafmihaaa

namespace Go.Proofs.Ytkjlafpafmihaaa
open Go.ChangeShapes Go.WideShapes Go.RowKit

structure Ans where
  code : Int
  hep : Int
  hno : Int
  body : Int
  deriving DecidableEq
def Ans.cells (a : Ans) : List Value := [.int .i64 a.code, .int .i64 a.hep, .int .i64 a.hno, .int .i64 a.body]
def Ans.val (a : Ans) : Value := .agg #[.int .i64 a.code, .int .i64 a.hep, .int .i64 a.hno, .int .i64 a.body]
end Go.Proofs.Ytkjlafpafmihaaa

namespace Go.Proofs.Ytkjlafpafmihaaa
open Go.ChangeShapes Go.WideShapes Go.RowKit

instance : IntRec Msg where
  size := 2
  ints m := [m.no, m.body]
  of xs := ⟨xs.getD 0 0, xs.getD 1 0⟩
  pos := by decide
  len _ := rfl
  inv xs h := by
    match xs, h with
    | [a, b], _ => rfl
instance : IntRec Ls where
  size := 4
  ints m := [m.hep, m.hno, m.msg.no, m.msg.body]
  of xs := ⟨xs.getD 0 0, xs.getD 1 0, ⟨xs.getD 2 0, xs.getD 3 0⟩⟩
  pos := by decide
  len _ := rfl
  inv xs h := by
    match xs, h with
    | [a, b, c, d], _ => rfl
end Go.Proofs.Ytkjlafpafmihaaa

