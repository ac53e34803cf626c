/- Arguments opened by their types. -/
import Derived.Test.YtkjlafpafmihaaaMem
namespace Go.Proofs.Ytkjlafpafmihaaa
open Go.ChangeShapes Go.WideShapes Go.RowKit

theorem flat_bytes : flat Try.prog 30 52 = some [.sl 1 [.int .u8]] := by kernel_rfl
set_option maxRecDepth 100000 in
theorem arg_bytes {W : World} {v : Value} (h : ArgOk Try.prog W v 52) : ∃ A n c l, v = .slice A n c ∧ Rd W W.heap.size 1 A n (byteCells l) ∧ n ≤ c ∧ c ≤ maxLen ∧ c ≤ reachBytes ∧ (A = none → c = 0) := by
  obtain ⟨⟨base, hk⟩, l, hl, ha⟩ := h
  rw [flat_bytes] at hl
  cases hl
  obtain ⟨A, n, c, rfl⟩ := okWide_slice Try.underlying52 hk
  obtain ⟨a, l1, e, h1, _⟩ := All2.cons_ ha
  simp [Value.cells] at e
  obtain ⟨rfl, _⟩ := e
  obtain ⟨A', n', c', l, e, hr, hn, hc, hb, h0⟩ := open_bytes h1
  simp only [Value.slice.injEq] at e
  obtain ⟨rfl, rfl, rfl⟩ := e
  exact ⟨A, n, c, l, rfl, hr, hn, hc, by simpa using hb, h0⟩
end Go.Proofs.Ytkjlafpafmihaaa
