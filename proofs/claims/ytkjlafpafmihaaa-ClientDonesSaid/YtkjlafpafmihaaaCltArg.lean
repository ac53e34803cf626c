/- An argument that is a client. -/
import Derived.Test.YtkjlafpafmihaaaCltCopy
namespace Go.Proofs.Ytkjlafpafmihaaa
open Go.ChangeShapes Go.WideShapes Go.RowKit

theorem flat_clt : flat Try.prog 30 60 = some [.at_ (.int .i64), .at_ (.int .i64), .sl 48 [.int .i64, .int .i64, .int .i64, .int .i64, .int .i64, .int .i64], .at_ (.int .i64), .at_ (.int .i64), .at_ (.int .i64), .at_ (.int .i64)] := by kernel_rfl
set_option maxRecDepth 100000 in
theorem arg_client {W : World} {v : Value} (h : ArgOk Try.prog W v 60) : ∃ p nx A n c l, ∃ x : Four4, v = .agg #[.int .i64 p, .int .i64 nx, .slice A n c, .int .i64 x.a, .int .i64 x.b, .int .i64 x.c, .int .i64 x.d] ∧
    Rd W W.heap.size 6 A n (evCells l) ∧ n ≤ c ∧ c ≤ maxLen ∧ c * 48 ≤ reachBytes := by
  obtain ⟨⟨base, hk⟩, l, hl, ha⟩ := h
  rw [flat_clt] at hl
  cases hl
  obtain ⟨cs, rfl, _⟩ := okWide_struct Try.underlying60 hk
  obtain ⟨a1, l1, e, ⟨m1, rfl, _⟩, h3⟩ := All2.cons_ ha
  obtain ⟨a2, l2, rfl, ⟨m2, rfl, _⟩, h4⟩ := All2.cons_ h3
  obtain ⟨a3, l3, rfl, hs, h5⟩ := All2.cons_ h4
  obtain ⟨a4, l4, rfl, ⟨m4, rfl, _⟩, h6⟩ := All2.cons_ h5
  obtain ⟨a5, l5, rfl, ⟨m5, rfl, _⟩, h7⟩ := All2.cons_ h6
  obtain ⟨a6, l6, rfl, ⟨m6, rfl, _⟩, h8⟩ := All2.cons_ h7
  obtain ⟨a7, l7, rfl, ⟨m7, rfl, _⟩, h9⟩ := All2.cons_ h8
  have h10 := All2.nil_ h9
  subst h10
  obtain ⟨A, n, c, l, rfl, hr, hn, hc, hb, _⟩ := open_events hs
  refine ⟨m1, m2, A, n, c, l, ⟨m4, m5, m6, m7⟩, ?_, hr, hn, hc, hb⟩
  congr 1
  exact Array.toList_inj.1 e
end Go.Proofs.Ytkjlafpafmihaaa
