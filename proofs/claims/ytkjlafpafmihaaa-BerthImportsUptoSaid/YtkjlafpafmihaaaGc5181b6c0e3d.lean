/- Parts of proofs: lemmas on memory, on single functions and on the plain models; no condition of their own. -/
import Derived.Test.YtkjlafpafmihaaaRows
import Derived.WalkKit
import Derived.ProofKit
import Derived.OpenShut
import Derived.SizedLaws
import Derived.WalkSpells
import Derived.WalkLawsBesides
import Derived.Handy
import Derived.Deep.QuietTactic
import Derived.BigQuiet
import Derived.Lib.Hide
import Derived.Maps.AppendAt
import Derived.Deep.AppendLies
import Derived.RegionTactic
import Derived.OwnWalk
import Derived.ChangeKeysEq
import Derived.Test.YtkjlafpafmihaaaG53d9860cd554
import Derived.Test.YtkjlafpafmihaaaG5a4470397ed8
import Derived.Test.YtkjlafpafmihaaaGc91015c24562
set_option linter.unusedVariables false
set_option linter.unusedSimpArgs false

namespace Go.Proofs.Ytkjlafpafmihaaa
open Go.ChangeShapes Go.WideShapes Go.RowKit

theorem flat_events : flat Try.prog 30 57 = some [.sl 48 [.int .i64, .int .i64, .int .i64, .int .i64, .int .i64, .int .i64]] := by kernel_rfl
set_option maxRecDepth 100000 in
theorem arg_events {W : World} {v : Value} (h : ArgOk Try.prog W v 57) : ∃ A n c l, v = .slice A n c ∧ Rd W W.heap.size 6 A n (evCells l) ∧ n ≤ c ∧ c ≤ maxLen ∧ c * 48 ≤ reachBytes ∧ (A = none → c = 0) := by
  obtain ⟨⟨base, hk⟩, l, hl, ha⟩ := h
  rw [flat_events] at hl
  cases hl
  obtain ⟨A, n, c, rfl⟩ := okWide_slice Try.underlying57 hk
  obtain ⟨a, l1, e, h1, _⟩ := All2.cons_ ha
  simp [Value.cells] at e
  obtain ⟨rfl, _⟩ := e
  obtain ⟨A', n', c', l, e, hr, hn, hc, hb, h0⟩ := open_events h1
  simp only [Value.slice.injEq] at e
  obtain ⟨rfl, rfl, rfl⟩ := e
  exact ⟨A, n, c, l, rfl, hr, hn, hc, hb, h0⟩
end Go.Proofs.Ytkjlafpafmihaaa

