/- Parts of proofs: lemmas on memory, on single functions and on the plain models; no condition of their own. -/
import Derived.Test.YtkjlafpafmihaaaRows
import Derived.WalkKit
import Derived.ProofKit
import Derived.OpenShut
import Derived.SizedLaws
import Derived.WalkSpells
import Derived.WalkLawsBesides
import Derived.Handy
import Derived.Deep.QuietTactic
import Derived.BigQuiet
import Derived.Lib.Hide
import Derived.Maps.AppendAt
import Derived.Deep.AppendLies
import Derived.RegionTactic
import Derived.OwnWalk
import Derived.Laws.Tables
import Derived.Deep.MidRow
import Derived.StillTailTactics
import Derived.OrdersHeld
import Derived.Deep.RegionHeld3
import Derived.Laws.IdiomCopy
import Derived.ChangeKeysEq
import Derived.Laws.BitsAllLaws
import Derived.Test.YtkjlafpafmihaaaG106a6d0673e2
import Derived.Test.YtkjlafpafmihaaaG191435b3f518
import Derived.Test.YtkjlafpafmihaaaG37e7b647d51a
import Derived.Test.YtkjlafpafmihaaaG5048191d089e
import Derived.Test.YtkjlafpafmihaaaG878ee676a6ad
import Derived.Test.YtkjlafpafmihaaaGa54395e311fb
import Derived.Test.YtkjlafpafmihaaaGaa2045d604a6
set_option linter.unusedVariables false
set_option linter.unusedSimpArgs false

namespace Go.Proofs.Ytkjlafpafmihaaa
open Go.ChangeShapes Go.WideShapes Go.RowKit

theorem inf37 : (Try.prog.info? 37).map (·.size) = some 6 := by kernel_rfl
theorem infz39 : (Try.prog.info? 39).map (fun i => (i.zero, i.size, i.bytes)) = some (some (.agg #[.int .i64 0, .int .i64 0, .int .i64 0, .int .i64 0, .int .i64 0, .int .i64 0, .int .i64 0, .int .i64 0, .int .i64 0, .int .i64 0, .int .i64 0]), 11, 88) := by kernel_rfl
theorem en54 (args : Array Value) (w : World) : (callFunc 54 args).run Try.prog w = .ok (.enter 54 args) w := enters_of_ Try.func54 (by kernel_rfl) rfl args w
theorem en55 (args : Array Value) (w : World) : (callFunc 55 args).run Try.prog w = .ok (.enter 55 args) w := enters_of_ Try.func55 (by kernel_rfl) rfl args w
theorem en56 (args : Array Value) (w : World) : (callFunc 56 args).run Try.prog w = .ok (.enter 56 args) w := enters_of_ Try.func56 (by kernel_rfl) rfl args w
theorem en135 (args : Array Value) (w : World) : (callFunc 135 args).run Try.prog w = .ok (.enter 135 args) w := enters_of_ Try.func135 (by kernel_rfl) rfl args w
theorem en142 (args : Array Value) (w : World) : (callFunc 142 args).run Try.prog w = .ok (.enter 142 args) w := enters_of_ Try.func142 (by kernel_rfl) rfl args w
end Go.Proofs.Ytkjlafpafmihaaa

namespace Go.Proofs.Ytkjlafpafmihaaa
open Go.ChangeShapes Go.WideShapes Go.RowKit
section
variable {P : Program} {N : Nat} {l l' : Slots} {w w' w0 : World} {ops : Array Oper} {o : Oper} {rest : List Oper} {Q : Exit → Act → World → Prop} {d B : Nat} {v p : Value} {fs fs' : List Fact} {ex : Exit}
section
variable {t tt : TypeId} {kd : IntKind} {xo yo : Operand} {x y : Int}
theorem deqlT (ho : o.op = .binOp .eql t xo yo tt := by exact rfl) (hx : ev l xo = some (.int kd x) := by exact rfl) (hy : ev l yo = some (.int kd y) := by exact rfl) (h : x = y := by decide) : Yld P N l o w (.bool true) := y_binop ho hx hy (r_eql_t h)
theorem yneqT (h : ¬ x = y) (ho : o.op = .binOp .neq t xo yo tt := by exact rfl) (hx : ev l xo = some (.int kd x) := by exact rfl) (hy : ev l yo = some (.int kd y) := by exact rfl) : Yld P N l o w (.bool true) := y_binop ho hx hy (r_neq_t h)
theorem yneqF (h : x = y) (ho : o.op = .binOp .neq t xo yo tt := by exact rfl) (hx : ev l xo = some (.int kd x) := by exact rfl) (hy : ev l yo = some (.int kd y) := by exact rfl) : Yld P N l o w (.bool false) := y_binop ho hx hy (r_neq_f h)
end
section
variable {b m f : Nat} {row row' cs : Array Value} {t ty : TypeId} {x y : Operand} {ds : TypeDesc} {z u : Value}
theorem calg {vs : List Value} {R : Ending → World → Prop} {xs : List Operand} {ts : Array TypeId} {j tg : Nat} {bb : Bool} (heg : ∀ args w, (callFunc f args).run P w = .ok (.enter f args) w) (hc : Calls P f vs.toArray w R) (h : ∀ e w', R e w' → ∃ v, e = .returned v ∧ wL P N ops Q rest ((d, v) :: l) w')
    (hg : o.guard = some (j, bb) := by exact rfl) (hj : (ops[j]?).bind (·.dst) = some tg := by exact rfl) (hv : lk l tg = some u := by exact rfl) (hr : (yl u == some bb) = true := by exact rfl) (hd : o.dst = some d := by exact rfl) (hN : Nat.blt d N = true := by exact rfl)
    (ho : o.op = .call { callee := .value (.func f), args := xs.toArray, argTypes := ts } := by exact rfl) (hx : Evs l xs vs := by repeat' first | exact trivial | refine ⟨rfl, ?_⟩) : wL P N ops Q (o :: rest) l w := wL_call (wg hg hj hv hr) hd hN (e_call ho heg hx) hc h
end
end
end Go.Proofs.Ytkjlafpafmihaaa

