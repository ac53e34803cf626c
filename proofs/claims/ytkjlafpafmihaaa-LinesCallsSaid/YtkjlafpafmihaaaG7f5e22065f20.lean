/- Parts of proofs: lemmas on memory, on single functions and on the plain models; no condition of their own. -/
import Derived.Test.YtkjlafpafmihaaaRows
import Derived.WalkKit
import Derived.ProofKit
import Derived.OpenShut
import Derived.SizedLaws
import Derived.WalkSpells
import Derived.WalkLawsBesides
import Derived.Handy
import Derived.Deep.QuietTactic
import Derived.BigQuiet
import Derived.Lib.Hide
import Derived.ChangeKeysEq
import Derived.Test.YtkjlafpafmihaaaG37e7b647d51a
import Derived.Test.YtkjlafpafmihaaaGa54395e311fb
set_option linter.unusedVariables false
set_option linter.unusedSimpArgs false

namespace Go.Proofs.Ytkjlafpafmihaaa
open Go.ChangeShapes Go.WideShapes Go.RowKit

theorem Ev.cellsEq_ (a b : Ev) : cellsEq a.cells b.cells = decide (a = b) := by
  obtain ⟨a1, a2, a3, a4, a5, a6⟩ := a
  obtain ⟨b1, b2, b3, b4, b5, b6⟩ := b
  simp only [Ev.cells, cellsEq, cellEq, Ev.mk.injEq, Bool.and_true]
  rw [Bool.eq_iff_iff]
  simp

theorem flat_ev : flat Try.prog 30 37 = some evSh := by kernel_rfl
theorem eqOk_ev : eqOk Try.prog 30 37 = true := by kernel_rfl
theorem mkV_ev (xs : List Value) : mkV Try.prog 37 xs = .agg xs.toArray := by
  unfold mkV
  rw [Try.underlying37]
theorem run_neq_ev (a b : Ev) (w : World) : (binOp .neq 37 (.agg #[.int .i64 a.kind, .int .i64 a.producer, .int .i64 a.id, .int .i64 a.body, .int .i64 a.hepoch, .int .i64 a.hno])
    (.agg #[.int .i64 b.kind, .int .i64 b.producer, .int .i64 b.id, .int .i64 b.body, .int .i64 b.hepoch, .int .i64 b.hno])).run Try.prog w = .ok (.bool (!decide (a = b))) w := by
  rw [← Ev.cellsEq_]
  exact run_neq_cells (P := Try.prog) w flat_ev eqOk_ev mkV_ev a.kd b.kd

def Ev.val (e : Ev) : Value := .agg #[.int .i64 e.kind, .int .i64 e.producer, .int .i64 e.id, .int .i64 e.body, .int .i64 e.hepoch, .int .i64 e.hno]

end Go.Proofs.Ytkjlafpafmihaaa

