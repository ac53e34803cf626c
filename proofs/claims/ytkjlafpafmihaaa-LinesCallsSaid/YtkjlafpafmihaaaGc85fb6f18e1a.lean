/- Parts of proofs: lemmas on memory, on single functions and on the plain models; no condition of their own. -/
import Derived.Test.YtkjlafpafmihaaaRows
import Derived.WalkKit
import Derived.ProofKit
import Derived.OpenShut
import Derived.SizedLaws
import Derived.WalkSpells
import Derived.WalkLawsBesides
import Derived.Handy
import Derived.Deep.QuietTactic
import Derived.BigQuiet
import Derived.Lib.Hide
import Derived.Maps.AppendAt
import Derived.Deep.AppendLies
import Derived.RegionTactic
import Derived.OwnWalk
import Derived.Laws.Tables
import Derived.Deep.MidRow
import Derived.StillTailTactics
import Derived.OrdersHeld
import Derived.Deep.RegionHeld3
import Derived.Laws.IdiomCopy
import Derived.ChangeKeysEq
import Derived.Laws.BitsAllLaws
import Derived.Scope
import Derived.Test.YtkjlafpafmihaaaG106a6d0673e2
import Derived.Test.YtkjlafpafmihaaaG191435b3f518
import Derived.Test.YtkjlafpafmihaaaG37e7b647d51a
import Derived.Test.YtkjlafpafmihaaaG5048191d089e
import Derived.Test.YtkjlafpafmihaaaGa54395e311fb
import Derived.Test.YtkjlafpafmihaaaGaa2045d604a6
import Derived.Test.YtkjlafpafmihaaaGe29d7414e059
set_option linter.unusedVariables false
set_option linter.unusedSimpArgs false

namespace Go.Proofs.Ytkjlafpafmihaaa
open Go.ChangeShapes Go.WideShapes Go.ChangeAt Go.RowKit
section
variable {P : Program} {N : Nat} {l : Slots} {w w' w0 : World} {B : Nat} {fs fs' : List Fact} {ops : Array Oper} {o : Oper} {rest : List Oper} {Q : Exit → Act → World → Prop} {v : Value}
/-- A cell of a row that is known as a function. -/
theorem wL_stAt {ty t : TypeId} {x y : Operand} {b k : Nat} {u : Value} {row row' : Array Value} (i : Nat) (S : St B w0 w fs) (hw : Wanted N ops l o true) (hd : o.dst = none) (ho : o.op = .store ty x y) (hx : ev l x = some (.pointer (some ⟨b, k, none⟩))) (hy : ev l y = some v)
    (hi : fs[i]? = some (.blk b row t)) (hv : v.cells = #[u]) (hz : (P.info? ty).map (·.size) = some 1) (h1 : u.oneCell' = true) (hk : k < row.size) (hrow : row.setIfInBounds k u = row')
    (h : ∀ w', St B w0 w' (fs.set i (.blk b row' t)) → wL P N ops Q rest l w') : wL P N ops Q (o :: rest) l w := by
  refine wL_st i S hw hd ho hx hy hi hv hz rfl (by simpa using h1) (by omega) (row' := row') ?_ rfl h
  subst hrow
  rfl
end
end Go.Proofs.Ytkjlafpafmihaaa

