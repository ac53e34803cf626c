/- Parts of proofs: lemmas on memory, on single functions and on the plain models; no condition of their own. -/
import Derived.Test.YtkjlafpafmihaaaRows
import Derived.WalkKit
import Derived.ProofKit
import Derived.OpenShut
import Derived.SizedLaws
import Derived.WalkSpells
import Derived.WalkLawsBesides
import Derived.Handy
import Derived.Deep.QuietTactic
import Derived.BigQuiet
import Derived.Lib.Hide
import Derived.Maps.AppendAt
import Derived.Deep.AppendLies
import Derived.RegionTactic
import Derived.OwnWalk
import Derived.Laws.Tables
import Derived.Deep.MidRow
import Derived.StillTailTactics
import Derived.OrdersHeld
import Derived.Deep.RegionHeld3
import Derived.Laws.IdiomCopy
import Derived.ChangeKeysEq
import Derived.Laws.BitsAllLaws
import Derived.Deep.DeepCutAuto
import Derived.Deep.CutRange
import Derived.Test.YtkjlafpafmihaaaG53d9860cd554
import Derived.Test.YtkjlafpafmihaaaG5a4470397ed8
import Derived.Test.YtkjlafpafmihaaaG6c7d926bdf1e
import Derived.Test.YtkjlafpafmihaaaG8c8ada4b342a
import Derived.Test.YtkjlafpafmihaaaG90f7600ce72e
import Derived.Test.YtkjlafpafmihaaaG9b85a56455eb
import Derived.Test.YtkjlafpafmihaaaGbea5e349a2aa
import Derived.Test.YtkjlafpafmihaaaGc91015c24562
import Derived.Test.YtkjlafpafmihaaaGd7f7ec5356a9
import Derived.Test.YtkjlafpafmihaaaGdb62e807c2bc
import Derived.Test.YtkjlafpafmihaaaGe6641b382f8c
set_option linter.unusedVariables false
set_option linter.unusedSimpArgs false

namespace Go.Proofs.Ytkjlafpafmihaaa
open Go.ChangeShapes Go.WideShapes Go.RowKit

theorem sameEvents_t {A A' : Option Addr} {n c c' : Nat} {l : List Ev} {w : World} {B B' : Nat} (h : Rd w B 6 A n (evCells l)) (h' : Rd w B' 6 A' n (evCells l)) (hm : n ≤ maxLen) (hm' : n ≤ maxLen) : Calls Try.prog 72 #[.slice A n c, .slice A' n c'] w (BoolB w true) := by
  refine (sameEvents_calls A A' n c n c' l l w h h' hm hm').mono ?_
  rintro e w' ⟨rfl, q, rfl⟩
  exact ⟨by simp, ⟨rfl, rfl, rfl, Nat.le_refl _, fun _ _ => rfl⟩⟩

end Go.Proofs.Ytkjlafpafmihaaa

