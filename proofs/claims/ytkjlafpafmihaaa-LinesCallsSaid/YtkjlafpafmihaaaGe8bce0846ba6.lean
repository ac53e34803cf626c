/- Parts of proofs: lemmas on memory, on single functions and on the plain models; no condition of their own. -/
import Derived.Test.YtkjlafpafmihaaaRows
import Derived.WalkKit
import Derived.ProofKit
import Derived.OpenShut
import Derived.SizedLaws
import Derived.WalkSpells
import Derived.WalkLawsBesides
import Derived.Handy
import Derived.Deep.QuietTactic
import Derived.BigQuiet
import Derived.Lib.Hide
import Derived.Maps.AppendAt
import Derived.Deep.AppendLies
import Derived.RegionTactic
import Derived.OwnWalk
import Derived.ChangeKeysEq
import Derived.Test.YtkjlafpafmihaaaG37e7b647d51a
import Derived.Test.YtkjlafpafmihaaaGa54395e311fb
import Derived.Test.YtkjlafpafmihaaaGe29d7414e059
set_option linter.unusedVariables false
set_option linter.unusedSimpArgs false

namespace Go.Proofs.Ytkjlafpafmihaaa
open Go.ChangeShapes Go.WideShapes Go.RowKit

/-- A struct of so many ints. -/
class IntRec (α : Type) where
  size : Nat
  ints : α → List Int
  of : List Int → α
  pos : 0 < size
  len : ∀ a, (ints a).length = size
  inv : ∀ xs : List Int, xs.length = size → ints (of xs) = xs

theorem cellsEq_ints : ∀ {xs ys : List Int}, xs.length = ys.length → cellsEq (xs.map (Value.int .i64)) (ys.map (Value.int .i64)) = decide (xs = ys)
  | [], [], _ => by simp [cellsEq]
  | x :: xs, y :: ys, h => by
    have ih := cellsEq_ints (xs := xs) (ys := ys) (by simpa using h)
    simp only [List.map_cons, cellsEq, cellEq, ih, List.cons.injEq]
    rw [Bool.eq_iff_iff]
    simp
  | [], _ :: _, h => by simp at h
  | _ :: _, [], h => by simp at h
theorem kd_ints : ∀ (xs : List Int), All2 Kd (xs.map (Value.int .i64)) (List.replicate xs.length (.at_ (.int .i64)))
  | [] => trivial
  | _ :: xs => ⟨⟨_, rfl⟩, kd_ints xs⟩
end Go.Proofs.Ytkjlafpafmihaaa

namespace Go.Proofs.Ytkjlafpafmihaaa
open Go.ChangeShapes Go.WideShapes Go.RowKit

/-- A window: Top, and which of the eight ids below it were taken. -/
structure Win where
  top : Int
  b0 : Bool
  b1 : Bool
  b2 : Bool
  b3 : Bool
  b4 : Bool
  b5 : Bool
  b6 : Bool
  b7 : Bool
  deriving DecidableEq

def Win.seen (x : Win) : List Bool := [x.b0, x.b1, x.b2, x.b3, x.b4, x.b5, x.b6, x.b7]
def Win.cells (x : Win) : List Value := [.int .i64 x.top, .bool x.b0, .bool x.b1, .bool x.b2, .bool x.b3, .bool x.b4, .bool x.b5, .bool x.b6, .bool x.b7]
def Win.at (x : Win) (k : Nat) : Bool := x.seen.getD k false

end Go.Proofs.Ytkjlafpafmihaaa

namespace Go.Proofs.Ytkjlafpafmihaaa
open Go.ChangeShapes Go.WideShapes Go.RowKit

def winRow (t : Int) (bs : List Bool) : Array Value := (.int .i64 t :: bs.map Value.bool).toArray
theorem eight {bs : List Bool} (h : bs.length = 8) : ∃ a0 a1 a2 a3 a4 a5 a6 a7, bs = [a0, a1, a2, a3, a4, a5, a6, a7] := by
  match bs, h with
  | [a0, a1, a2, a3, a4, a5, a6, a7], _ => exact ⟨a0, a1, a2, a3, a4, a5, a6, a7, rfl⟩

structure WB (w : World) (t : Int) (bs : List Bool) (wr : World) : Prop where
  below : Below w.heap.size w wr
  res : wr.heap[w.heap.size]? = some (.cells #[.int .i64 0, .bool false, .bool false, .bool false, .bool false, .bool false, .bool false, .bool false, .bool false] 26 (0, 0))
  row : wr.heap[w.heap.size + 1]? = some (.cells (winRow t bs) 26 (0, 0))

theorem WB.set_ {w wr : World} {t : Int} {bs : List Bool} (h : WB w t bs wr) (j : Nat) : WB w t (bs.set j true) (wr.setCell ⟨w.heap.size + 1, 1 + j, none⟩ (.bool true)) := by
  refine ⟨h.below.setCell (by simp) _, ?_, ?_⟩
  · rw [Below.heap_setCell _ _ _ _ (by simp)]
    exact h.res
  · have hr := h.row
    simp only [World.setCell, Array.getElem?_modify, hr]
    simp [winRow, Nat.add_comm 1 j, List.map_set]
theorem WB.cell {w wr : World} {t : Int} {bs : List Bool} (h : WB w t bs wr) {j : Nat} (hj : j < bs.length) : wr.cell? ⟨w.heap.size + 1, 1 + j, none⟩ = some (.bool (bs.getD j false)) := by
  rw [cell_of_row wr _ (1 + j) _ _ (0, 0) h.row, Nat.add_comm]
  simp [winRow, hj]
theorem WB.free {w wr : World} {t : Int} {bs : List Bool} (h : WB w t bs wr) (j : Nat) : wr.frozen? ⟨w.heap.size + 1, j, none⟩ = false := by
  have := h.row
  simp [World.frozen?, this]
end Go.Proofs.Ytkjlafpafmihaaa

