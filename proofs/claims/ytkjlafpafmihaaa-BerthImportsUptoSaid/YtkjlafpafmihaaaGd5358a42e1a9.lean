/- Parts of proofs: lemmas on memory, on single functions and on the plain models; no condition of their own. -/
import Derived.Test.YtkjlafpafmihaaaRows
import Derived.WalkKit
import Derived.ProofKit
import Derived.OpenShut
import Derived.SizedLaws
import Derived.WalkSpells
import Derived.WalkLawsBesides
import Derived.Handy
import Derived.Deep.QuietTactic
import Derived.BigQuiet
import Derived.Lib.Hide
import Derived.Maps.AppendAt
import Derived.Deep.AppendLies
import Derived.RegionTactic
import Derived.OwnWalk
import Derived.Laws.Tables
import Derived.Deep.MidRow
import Derived.StillTailTactics
import Derived.OrdersHeld
import Derived.Deep.RegionHeld3
import Derived.Laws.IdiomCopy
import Derived.ChangeKeysEq
import Derived.Laws.BitsAllLaws
import Derived.Deep.DeepCutAuto
import Derived.Deep.CutRange
import Derived.Shelf.SlSortCmp.WholeK
import Derived.Shelf.SlSortCmp.NoneTotal
import Derived.Shelf.SlicesG.Cmp
import Derived.Shelf.SlGeneric
import Derived.Ground.SlsfProg
import Derived.Ground.SlgcProg
import Derived.Test.YtkjlafpafmihaaaG10bc09417b62
import Derived.Test.YtkjlafpafmihaaaG53d9860cd554
import Derived.Test.YtkjlafpafmihaaaG5a4470397ed8
import Derived.Test.YtkjlafpafmihaaaG6c7d926bdf1e
import Derived.Test.YtkjlafpafmihaaaG8c8ada4b342a
import Derived.Test.YtkjlafpafmihaaaG90f7600ce72e
import Derived.Test.YtkjlafpafmihaaaG9b85a56455eb
import Derived.Test.YtkjlafpafmihaaaGbea5e349a2aa
import Derived.Test.YtkjlafpafmihaaaGc91015c24562
import Derived.Test.YtkjlafpafmihaaaGcd1d2a0662d0
import Derived.Test.YtkjlafpafmihaaaGd7f7ec5356a9
import Derived.Test.YtkjlafpafmihaaaGdb62e807c2bc
set_option linter.unusedVariables false
set_option linter.unusedSimpArgs false

namespace Go.Proofs.Ytkjlafpafmihaaa
open Go.ChangeShapes Go.WideShapes Go.RowKit

structure Brt where
  role : Int
  ep : Int
  fr : Int
  tg : Int
  rd : Int
  evs : List Ev
  deriving DecidableEq
def shapeB (b : Brt) : Prop := (b.role = 0 ∧ 0 ≤ b.ep ∧ b.ep ≤ 1048576 ∧ b.fr = 0 ∧ b.tg = 0 ∧ b.rd = 0 ∧ b.evs.length = 0) ∨ (1 ≤ b.ep ∧ b.ep ≤ 1048576 ∧
  ((b.role = 1 ∧ b.fr = 0 ∧ b.tg = 0 ∧ b.rd = 0) ∨ (b.role = 2 ∧ b.fr = 0 ∧ 0 ≤ b.tg ∧ b.tg < 5 ∧ 0 ≤ b.rd ∧ b.rd ≤ 4) ∨ (b.role = 3 ∧ b.fr = 0 ∧ 0 ≤ b.tg ∧ b.tg < 5 ∧ b.rd = 0) ∨ (b.role = 4 ∧ 0 ≤ b.fr ∧ b.fr < 5 ∧ b.tg = 0 ∧ b.rd = 0)))
instance (b : Brt) : Decidable (shapeB b) := by unfold shapeB; exact inferInstance
open Classical in
noncomputable def brtFault (b : Brt) : Int := if shapeB b ∧ (tellM b.evs).2.2 = 0 then 0 else 6
section
variable {b : Brt}
theorem bf_ok (h : shapeB b) (h1 : (tellM b.evs).2.2 = 0) : brtFault b = 0 := if_pos ⟨h, h1⟩
theorem bf_shape (h : ¬ shapeB b) : brtFault b = 6 := if_neg fun h1 => h h1.1
theorem bf_tell (h : ¬ (tellM b.evs).2.2 = 0) : brtFault b = 6 := if_neg fun h1 => h h1.2
end
end Go.Proofs.Ytkjlafpafmihaaa

namespace Go.Proofs.Ytkjlafpafmihaaa
open Go.ChangeShapes Go.WideShapes Go.RowKit

theorem flat_brt : flat Try.prog 30 108 = some [.at_ (.int .i64), .at_ (.int .i64), .at_ (.int .i64), .at_ (.int .i64), .at_ (.int .i64), .sl 48 [.int .i64, .int .i64, .int .i64, .int .i64, .int .i64, .int .i64]] := by kernel_rfl
set_option maxRecDepth 100000 in
theorem arg_berth {W : World} {v : Value} (h : ArgOk Try.prog W v 108) : ∃ ro ep fr tg rd A c, ∃ l : List Ev, v = .agg #[.int .i64 ro, .int .i64 ep, .int .i64 fr, .int .i64 tg, .int .i64 rd, .slice A l.length c] ∧
    Rd W W.heap.size 6 A l.length (evCells l) ∧ l.length ≤ c ∧ c ≤ maxLen ∧ l.length * 48 ≤ reachBytes := by
  obtain ⟨⟨base, hk⟩, l, hl, ha⟩ := h
  rw [flat_brt] at hl
  cases hl
  obtain ⟨cs, rfl, _⟩ := okWide_struct Try.underlying108 hk
  obtain ⟨a1, l1, e, ⟨m1, rfl, _⟩, h3⟩ := All2.cons_ ha
  obtain ⟨a2, l2, rfl, ⟨m2, rfl, _⟩, h4⟩ := All2.cons_ h3
  obtain ⟨a3, l3, rfl, ⟨m3, rfl, _⟩, h5⟩ := All2.cons_ h4
  obtain ⟨a4, l4, rfl, ⟨m4, rfl, _⟩, h6⟩ := All2.cons_ h5
  obtain ⟨a5, l5, rfl, ⟨m5, rfl, _⟩, h7⟩ := All2.cons_ h6
  obtain ⟨a6, l6, rfl, hs, h8⟩ := All2.cons_ h7
  have h10 := All2.nil_ h8
  subst h10
  obtain ⟨A, n, c, l, rfl, hr, hn, hc, hb, _⟩ := open_events hs
  obtain rfl := hr.ev_len
  refine ⟨m1, m2, m3, m4, m5, A, c, l, ?_, hr, hn, hc, by omega⟩
  congr 1
  exact Array.toList_inj.1 e
end Go.Proofs.Ytkjlafpafmihaaa

