/- Parts of proofs: lemmas on memory, on single functions and on the plain models; no condition of their own. -/
import Derived.Test.YtkjlafpafmihaaaRows
import Derived.WalkKit
import Derived.ProofKit
import Derived.OpenShut
import Derived.SizedLaws
import Derived.WalkSpells
import Derived.WalkLawsBesides
import Derived.Handy
import Derived.Deep.QuietTactic
import Derived.BigQuiet
import Derived.Lib.Hide
import Derived.Maps.AppendAt
import Derived.Deep.AppendLies
import Derived.RegionTactic
import Derived.OwnWalk
import Derived.Laws.Tables
import Derived.Deep.MidRow
import Derived.StillTailTactics
import Derived.OrdersHeld
import Derived.Deep.RegionHeld3
import Derived.Laws.IdiomCopy
import Derived.Test.YtkjlafpafmihaaaG106a6d0673e2
import Derived.Test.YtkjlafpafmihaaaG191435b3f518
import Derived.Test.YtkjlafpafmihaaaG37e7b647d51a
import Derived.Test.YtkjlafpafmihaaaG5048191d089e
set_option linter.unusedVariables false
set_option linter.unusedSimpArgs false

namespace Go.Proofs.Ytkjlafpafmihaaa
open Go.ChangeShapes Go.WideShapes Go.ChangeAt Go.RowKit

section
variable {P : Program} {N : Nat} {l l' : Slots} {a : Act} {w w' w0 : World} {B : Nat} {fs fs' : List Fact} {ops : Array Oper} {o : Oper} {rest : List Oper} {Q : Exit → Act → World → Prop} {v u p : Value} {d : Nat}

theorem d_builtin {b : Builtin} {xs : List Operand} {ts : Array TypeId} {vs : List Value} (ho : o.op = .call { callee := .builtin b, args := xs.toArray, argTypes := ts }) (hx : Evs l xs vs)
    (hr : ∀ cs, (builtin b ts o.type cs vs.toArray).run P w = .ok (.value v) w') : Does P N l o w v w' := fun a F => by
  have h1 := F.evs hx
  unfold execOp
  simp only [ho, resolve, invoke, Sem.run_bind, Sem.run_pure, Result.andThen_ok, List.map_toArray, h1, hr]
end
end Go.Proofs.Ytkjlafpafmihaaa

