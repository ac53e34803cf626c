/- Parts of proofs: lemmas on memory, on single functions and on the plain models; no condition of their own. -/
import Derived.Test.YtkjlafpafmihaaaDoorRows
import Derived.WalkKit
import Derived.ProofKit
import Derived.OpenShut
import Derived.SizedLaws
import Derived.WalkSpells
import Derived.WalkLawsBesides
import Derived.Handy
import Derived.Deep.QuietTactic
import Derived.BigQuiet
import Derived.Lib.Hide
import Derived.Maps.AppendAt
import Derived.Deep.AppendLies
import Derived.RegionTactic
import Derived.OwnWalk
import Derived.ChangeKeysEq
import Derived.Test.YtkjlafpafmihaaaDoorG97f8767f7743
import Derived.Test.YtkjlafpafmihaaaDoorGa487125d06f9
import Derived.Test.YtkjlafpafmihaaaDoorGab8ecdf11465
set_option linter.unusedVariables false
set_option linter.unusedSimpArgs false

namespace Go.Proofs.YtkjlafpafmihaaaDoor
open Go.ChangeShapes Go.WideShapes Go.RowKit

/-- A struct of so many ints. -/
class IntRec (α : Type) where
  size : Nat
  ints : α → List Int
  of : List Int → α
  pos : 0 < size
  len : ∀ a, (ints a).length = size
  inv : ∀ xs : List Int, xs.length = size → ints (of xs) = xs

theorem cellsEq_ints : ∀ {xs ys : List Int}, xs.length = ys.length → cellsEq (xs.map (Value.int .i64)) (ys.map (Value.int .i64)) = decide (xs = ys)
  | [], [], _ => by simp [cellsEq]
  | x :: xs, y :: ys, h => by
    have ih := cellsEq_ints (xs := xs) (ys := ys) (by simpa using h)
    simp only [List.map_cons, cellsEq, cellEq, ih, List.cons.injEq]
    rw [Bool.eq_iff_iff]
    simp
  | [], _ :: _, h => by simp at h
  | _ :: _, [], h => by simp at h
theorem kd_ints : ∀ (xs : List Int), All2 Kd (xs.map (Value.int .i64)) (List.replicate xs.length (.at_ (.int .i64)))
  | [] => trivial
  | _ :: xs => ⟨⟨_, rfl⟩, kd_ints xs⟩
end Go.Proofs.YtkjlafpafmihaaaDoor

