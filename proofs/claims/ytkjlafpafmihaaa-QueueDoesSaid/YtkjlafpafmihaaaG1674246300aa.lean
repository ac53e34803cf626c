/- Parts of proofs: lemmas on memory, on single functions and on the plain models; no condition of their own. -/
import Derived.Test.YtkjlafpafmihaaaRows
import Derived.WalkKit
import Derived.ProofKit
import Derived.OpenShut
import Derived.SizedLaws
import Derived.WalkSpells
import Derived.WalkLawsBesides
import Derived.Handy
import Derived.Deep.QuietTactic
import Derived.BigQuiet
import Derived.Lib.Hide
import Derived.Maps.AppendAt
import Derived.Deep.AppendLies
import Derived.RegionTactic
import Derived.OwnWalk
import Derived.Laws.Tables
import Derived.Deep.MidRow
import Derived.StillTailTactics
import Derived.OrdersHeld
import Derived.Deep.RegionHeld3
import Derived.Laws.IdiomCopy
import Derived.ChangeKeysEq
import Derived.Laws.BitsAllLaws
import Derived.Deep.DeepCutAuto
import Derived.Deep.CutRange
import Derived.Test.YtkjlafpafmihaaaG0e35ec4e0bdc
import Derived.Test.YtkjlafpafmihaaaG2143c9b0b786
import Derived.Test.YtkjlafpafmihaaaG3cad135f796d
import Derived.Test.YtkjlafpafmihaaaG668153da7687
import Derived.Test.YtkjlafpafmihaaaGa89c1a6f9966
import Derived.Test.YtkjlafpafmihaaaGa956530333d6
import Derived.Test.YtkjlafpafmihaaaGad4fca606e19
import Derived.Test.YtkjlafpafmihaaaGb705d1f06a25
import Derived.Test.YtkjlafpafmihaaaGc78e27da6ed6
import Derived.Test.YtkjlafpafmihaaaGdeee5436d8fe
set_option linter.unusedVariables false
set_option linter.unusedSimpArgs false

namespace Go.Proofs.Ytkjlafpafmihaaa
open Go.ChangeShapes Go.WideShapes Go.RowKit

theorem flat_queue : flat Try.prog 30 29 = some ([.at_ (.int .i64), .at_ (.int .i64), .at_ (.int .i64), .sl 16 [.int .i64, .int .i64], .sl 32 [.int .i64, .int .i64, .int .i64, .int .i64]] ++ (List.replicate 4 (.at_ (.int .i64) :: List.replicate 8 (.at_ .bool))).flatten) := by kernel_rfl
theorem all2_win {W : World} {cs : List Value} {r : List Sh} (h : All2 (Fits W) cs (.at_ (.int .i64) :: (List.replicate 8 (.at_ .bool) ++ r))) : ∃ (x : Win) (cs' : List Value), cs = x.cells ++ cs' ∧ All2 (Fits W) cs' r := by
  obtain ⟨a0, l0, e0, ⟨t, rfl, _⟩, h0⟩ := All2.cons_ h
  obtain ⟨a1, l1, e1, ⟨b1, rfl⟩, h1⟩ := All2.cons_ h0
  obtain ⟨a2, l2, e2, ⟨b2, rfl⟩, h2⟩ := All2.cons_ h1
  obtain ⟨a3, l3, e3, ⟨b3, rfl⟩, h3⟩ := All2.cons_ h2
  obtain ⟨a4, l4, e4, ⟨b4, rfl⟩, h4⟩ := All2.cons_ h3
  obtain ⟨a5, l5, e5, ⟨b5, rfl⟩, h5⟩ := All2.cons_ h4
  obtain ⟨a6, l6, e6, ⟨b6, rfl⟩, h6⟩ := All2.cons_ h5
  obtain ⟨a7, l7, e7, ⟨b7, rfl⟩, h7⟩ := All2.cons_ h6
  obtain ⟨a8, l8, e8, ⟨b8, rfl⟩, h8⟩ := All2.cons_ h7
  refine ⟨⟨t, b1, b2, b3, b4, b5, b6, b7, b8⟩, l8, ?_, h8⟩
  rw [e0, e1, e2, e3, e4, e5, e6, e7, e8]
  rfl
set_option maxRecDepth 100000 in
theorem arg_queue {W : World} {v : Value} (h : ArgOk Try.prog W v 29) : ∃ ep nx gv A1 c1 A2 c2, ∃ (rs : List Msg) (ls : List Ls) (X : Wins), v = .agg (qRow ep nx gv (.slice A1 rs.length c1) (.slice A2 ls.length c2) X) ∧
    Rd W W.heap.size 2 A1 rs.length (rs.flatMap Msg.cells) ∧ Rd W W.heap.size 4 A2 ls.length (ls.flatMap Ls.cells) ∧ rs.length * 16 ≤ reachBytes ∧ ls.length * 32 ≤ reachBytes := by
  obtain ⟨⟨base, hk⟩, l, hl, ha⟩ := h
  rw [flat_queue] at hl
  cases hl
  obtain ⟨cs, rfl, _⟩ := okWide_struct Try.underlying29 hk
  obtain ⟨a1, l1, e1, ⟨m1, rfl, _⟩, g1⟩ := All2.cons_ ha
  obtain ⟨a2, l2, e2, ⟨m2, rfl, _⟩, g2⟩ := All2.cons_ g1
  obtain ⟨a3, l3, e3, ⟨m3, rfl, _⟩, g3⟩ := All2.cons_ g2
  obtain ⟨a4, l4, e4, h4, g4⟩ := All2.cons_ g3
  obtain ⟨a5, l5, e5, h5, g5⟩ := All2.cons_ g4
  obtain ⟨x0, r0, e6, g6⟩ := all2_win g5
  obtain ⟨x1, r1, e7, g7⟩ := all2_win g6
  obtain ⟨x2, r2, e8, g8⟩ := all2_win g7
  obtain ⟨x3, r3, e9, g9⟩ := all2_win (r := []) g8
  have e10 := All2.nil_ g9
  obtain ⟨A1, n1, c1, rs, rfl, q1, q2, _, q3, _⟩ := open_recs (α := Msg) h4
  obtain ⟨A2, n2, c2, ls, rfl, p1, p2, _, p3, _⟩ := open_recs (α := Ls) h5
  have f1 := q1.rec_len
  have f2 := p1.rec_len
  subst f1
  subst f2
  refine ⟨m1, m2, m3, A1, c1, A2, c2, rs, ls, ⟨x0, x1, x2, x3⟩, ?_, q1, p1, by omega, by omega⟩
  congr 1
  apply Array.toList_inj.1
  have e11 : cs.toList = _ := e1
  rw [e11, e2, e3, e4, e5, e6, e7, e8, e9, e10, List.append_nil]
  rfl
end Go.Proofs.Ytkjlafpafmihaaa

