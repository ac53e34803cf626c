/- Parts of proofs: lemmas on memory, on single functions and on the plain models; no condition of their own. -/
import Derived.Test.YtkjlafpafmihaaaRows
import Derived.WalkKit
import Derived.ProofKit
import Derived.OpenShut
import Derived.SizedLaws
import Derived.WalkSpells
import Derived.WalkLawsBesides
import Derived.Handy
import Derived.Deep.QuietTactic
import Derived.BigQuiet
import Derived.Lib.Hide
import Derived.Maps.AppendAt
import Derived.Deep.AppendLies
import Derived.RegionTactic
import Derived.OwnWalk
import Derived.ChangeKeysEq
import Derived.Laws.Tables
import Derived.Deep.MidRow
import Derived.StillTailTactics
import Derived.OrdersHeld
import Derived.Deep.RegionHeld3
import Derived.Laws.IdiomCopy
import Derived.Laws.BitsAllLaws
import Derived.Deep.DeepCutAuto
import Derived.Deep.CutRange
import Derived.Test.YtkjlafpafmihaaaG1b3f031f3838
import Derived.Test.YtkjlafpafmihaaaG3d3d00a3ec74
import Derived.Test.YtkjlafpafmihaaaG7513e187c541
import Derived.Test.YtkjlafpafmihaaaG94c6852e5657
import Derived.Test.YtkjlafpafmihaaaGa09fbd9efb78
import Derived.Test.YtkjlafpafmihaaaGa90ca60c6bbf
import Derived.Test.YtkjlafpafmihaaaGb48b52f65941
import Derived.Test.YtkjlafpafmihaaaGc7e713607da7
import Derived.Test.YtkjlafpafmihaaaGf662d898f049
set_option linter.unusedVariables false
set_option linter.unusedSimpArgs false

namespace Go.Proofs.Ytkjlafpafmihaaa
open Go.ChangeShapes Go.WideShapes Go.RowKit

structure Msg where
  no : Int
  body : Int
  deriving DecidableEq
structure Ls where
  hep : Int
  hno : Int
  msg : Msg
  deriving DecidableEq
structure Wins where
  a : Win
  b : Win
  c : Win
  d : Win
  deriving DecidableEq
structure Qd where
  ep : Int
  nx : Int
  gv : Int
  ready : List Msg
  leases : List Ls
  ws : Wins
  deriving DecidableEq
def Msg.cells (m : Msg) : List Value := [.int .i64 m.no, .int .i64 m.body]
def Ls.cells (x : Ls) : List Value := [.int .i64 x.hep, .int .i64 x.hno, .int .i64 x.msg.no, .int .i64 x.msg.body]
def Wins.cells (x : Wins) : List Value := x.a.cells ++ (x.b.cells ++ (x.c.cells ++ x.d.cells))
def Wins.at (x : Wins) (p : Nat) : Win := if p = 0 then x.a else if p = 1 then x.b else if p = 2 then x.c else x.d
def Wins.put (x : Wins) (p : Nat) (y : Win) : Wins := if p = 0 then { x with a := y } else if p = 1 then { x with b := y } else if p = 2 then { x with c := y } else { x with d := y }
theorem Wins.len (x : Wins) : x.cells.length = 36 := rfl
theorem Win.len (x : Win) : x.cells.length = 9 := rfl
/-- A queue's cells; r, l: its two slices. -/
def qRow (e n g : Int) (r l : Value) (W : Wins) : Array Value := (.int .i64 e :: .int .i64 n :: .int .i64 g :: r :: l :: W.cells).toArray

def BoolB (w : World) (b : Bool) (e : Ending) (w' : World) : Prop := e = .returned (.bool b) ∧ Below w.heap.size w w'

theorem fm_snoc {α : Type} {enc : α → List Value} {l l' : List α} {x : α} {cs : List Value} (h : l ++ [x] = l') (he : enc x = cs) : l.flatMap enc ++ cs = l'.flatMap enc := by
  subst h
  subst he
  simp
theorem In_t {n lo hi : Int} (h : lo ≤ n ∧ n ≤ hi) (w : World) : Calls Try.prog 107 #[.int .i64 n, .int .i64 lo, .int .i64 hi] w fun e w' => e = .returned (.bool true) ∧ w = w' := by
  have := In_calls n lo hi w
  rw [show inR n lo hi = true by simp [inR, h.1, h.2]] at this
  exact this
theorem In_f {n lo hi : Int} (h : ¬ (lo ≤ n ∧ n ≤ hi)) (w : World) : Calls Try.prog 107 #[.int .i64 n, .int .i64 lo, .int .i64 hi] w fun e w' => e = .returned (.bool false) ∧ w = w' := by
  have := In_calls n lo hi w
  rw [show inR n lo hi = false by simp [inR]; omega] at this
  exact this
end Go.Proofs.Ytkjlafpafmihaaa

namespace Go.Proofs.Ytkjlafpafmihaaa
open Go.ChangeShapes Go.WideShapes Go.RowKit

structure Ans where
  code : Int
  hep : Int
  hno : Int
  body : Int
  deriving DecidableEq
def Ans.cells (a : Ans) : List Value := [.int .i64 a.code, .int .i64 a.hep, .int .i64 a.hno, .int .i64 a.body]
end Go.Proofs.Ytkjlafpafmihaaa

namespace Go.Proofs.Ytkjlafpafmihaaa
open Go.ChangeShapes Go.WideShapes Go.RowKit

instance : IntRec Msg where
  size := 2
  ints m := [m.no, m.body]
  of xs := ⟨xs.getD 0 0, xs.getD 1 0⟩
  pos := by decide
  len _ := rfl
  inv xs h := by
    match xs, h with
    | [a, b], _ => rfl
instance : IntRec Ls where
  size := 4
  ints m := [m.hep, m.hno, m.msg.no, m.msg.body]
  of xs := ⟨xs.getD 0 0, xs.getD 1 0, ⟨xs.getD 2 0, xs.getD 3 0⟩⟩
  pos := by decide
  len _ := rfl
  inv xs h := by
    match xs, h with
    | [a, b, c, d], _ => rfl
end Go.Proofs.Ytkjlafpafmihaaa

