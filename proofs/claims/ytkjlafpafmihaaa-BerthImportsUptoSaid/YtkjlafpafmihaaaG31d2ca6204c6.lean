/- Parts of proofs: lemmas on memory, on single functions and on the plain models; no condition of their own. -/
import Derived.Test.YtkjlafpafmihaaaRows
import Derived.WalkKit
import Derived.ProofKit
import Derived.OpenShut
import Derived.SizedLaws
import Derived.WalkSpells
import Derived.WalkLawsBesides
import Derived.Handy
import Derived.Deep.QuietTactic
import Derived.BigQuiet
import Derived.Lib.Hide
import Derived.Maps.AppendAt
import Derived.Deep.AppendLies
import Derived.RegionTactic
import Derived.OwnWalk
import Derived.Laws.Tables
import Derived.Deep.MidRow
import Derived.StillTailTactics
import Derived.OrdersHeld
import Derived.Deep.RegionHeld3
import Derived.Laws.IdiomCopy
import Derived.ChangeKeysEq
import Derived.Laws.BitsAllLaws
import Derived.Test.YtkjlafpafmihaaaG19e1afd8d7e3
import Derived.Test.YtkjlafpafmihaaaG53d9860cd554
import Derived.Test.YtkjlafpafmihaaaG5a4470397ed8
import Derived.Test.YtkjlafpafmihaaaG6c7d926bdf1e
import Derived.Test.YtkjlafpafmihaaaG8c8ada4b342a
import Derived.Test.YtkjlafpafmihaaaG90f7600ce72e
import Derived.Test.YtkjlafpafmihaaaGbea5e349a2aa
set_option linter.unusedVariables false
set_option linter.unusedSimpArgs false

namespace Go.Proofs.Ytkjlafpafmihaaa
open Go.ChangeShapes Go.WideShapes Go.ChangeAt Go.RowKit

section
variable {P : Program} {w : World} {t e : TypeId} {A : Option Addr} {n c s B : Nat} {xs : List Value} {kd ke kf : IntKind}
theorem sb_hm {j m : Int} (k q : Nat) (hj : j = k) (hm : m = q) (hkq : k ≤ q) (h : q ≤ c) (w : World) : (Instr.sliceBounds true n c none (some (.int ke j)) (some (.int kf m))).run P w = .ok (0, k, q) w := by
  simp [Instr.sliceBounds, Sem.run_bind, Result.andThen, sb_bound q c _ hm h, sb_bound k q _ hj hkq]
theorem sb_lhm {i j m : Int} (l k q : Nat) (hi : i = l) (hj : j = k) (hm : m = q) (hlk : l ≤ k) (hkq : k ≤ q) (h : q ≤ c) (w : World) : (Instr.sliceBounds true n c (some (.int kd i)) (some (.int ke j)) (some (.int kf m))).run P w = .ok (l, k, q) w := by
  simp [Instr.sliceBounds, Sem.run_bind, Result.andThen, sb_bound q c _ hm h, sb_bound k q _ hj hkq, sb_bound l k _ hi hlk]
end
end Go.Proofs.Ytkjlafpafmihaaa

namespace Go.Proofs.Ytkjlafpafmihaaa
open Go.ChangeShapes Go.WideShapes Go.RowKit

theorem en96 (args : Array Value) (w : World) : (callFunc 96 args).run Try.prog w = .ok (.enter 96 args) w := enters_of_ Try.func96 (by kernel_rfl) rfl args w
theorem en97 (args : Array Value) (w : World) : (callFunc 97 args).run Try.prog w = .ok (.enter 97 args) w := enters_of_ Try.func97 (by kernel_rfl) rfl args w
theorem en162 (args : Array Value) (w : World) : (callFunc 162 args).run Try.prog w = .ok (.enter 162 args) w := enters_of_ Try.func162 (by kernel_rfl) rfl args w
end Go.Proofs.Ytkjlafpafmihaaa

