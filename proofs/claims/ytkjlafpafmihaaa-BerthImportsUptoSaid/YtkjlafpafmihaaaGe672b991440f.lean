/- Parts of proofs: lemmas on memory, on single functions and on the plain models; no condition of their own. -/
import Derived.Test.YtkjlafpafmihaaaRows
import Derived.WalkKit
import Derived.ProofKit
import Derived.OpenShut
import Derived.SizedLaws
import Derived.WalkSpells
import Derived.WalkLawsBesides
import Derived.Handy
import Derived.Deep.QuietTactic
import Derived.BigQuiet
import Derived.Lib.Hide
import Derived.Maps.AppendAt
import Derived.Deep.AppendLies
import Derived.RegionTactic
import Derived.OwnWalk
import Derived.Laws.Tables
import Derived.Test.YtkjlafpafmihaaaG4391f5675e30
import Derived.Test.YtkjlafpafmihaaaG5a4470397ed8
import Derived.Test.YtkjlafpafmihaaaG90f7600ce72e
set_option linter.unusedVariables false
set_option linter.unusedSimpArgs false

namespace Go.Proofs.Ytkjlafpafmihaaa
open Go.ChangeShapes Go.WideShapes Go.ChangeAt Go.RowKit

section
variable {B : Nat} {w0 w w' : World} {fs : List Fact}

/-- One fact is brought ahead of all. -/
theorem St.bring {f : Fact} (i : Nat) (S : St B w0 w fs) (hi : fs[i]? = some f) : St B w0 w (f :: fs.eraseIdx i) := by
  refine (S.del i).cons (S.all i f hi) fun k hk j g hg => ?_
  have h : fs[if j < i then j else j + 1]? = some g := by
    rw [List.getElem?_eraseIdx] at hg
    split at hg
    · rename_i e; rw [if_pos e]; exact hg
    · rename_i e; rw [if_neg e]; exact hg
  exact S.sep i _ f g (by split <;> omega) hi h k hk
end
end Go.Proofs.Ytkjlafpafmihaaa

