/- Parts of proofs: lemmas on memory, on single functions and on the plain models; no condition of their own. -/
import Derived.Test.YtkjlafpafmihaaaRows
import Derived.WalkKit
import Derived.ProofKit
import Derived.OpenShut
import Derived.SizedLaws
import Derived.WalkSpells
import Derived.WalkLawsBesides
import Derived.Handy
import Derived.Deep.QuietTactic
import Derived.BigQuiet
import Derived.Lib.Hide
import Derived.Maps.AppendAt
import Derived.Deep.AppendLies
import Derived.RegionTactic
import Derived.OwnWalk
import Derived.Laws.Tables
import Derived.Deep.MidRow
import Derived.StillTailTactics
import Derived.OrdersHeld
import Derived.Deep.RegionHeld3
import Derived.Laws.IdiomCopy
import Derived.ChangeKeysEq
import Derived.Test.YtkjlafpafmihaaaG0e35ec4e0bdc
import Derived.Test.YtkjlafpafmihaaaG3cad135f796d
import Derived.Test.YtkjlafpafmihaaaGa89c1a6f9966
import Derived.Test.YtkjlafpafmihaaaGa956530333d6
import Derived.Test.YtkjlafpafmihaaaGad4fca606e19
import Derived.Test.YtkjlafpafmihaaaGc78e27da6ed6
set_option linter.unusedVariables false
set_option linter.unusedSimpArgs false

namespace Go.Proofs.Ytkjlafpafmihaaa
open Go.ChangeShapes Go.WideShapes Go.ChangeAt Go.RowKit

section
variable {P : Program} {N : Nat} {l l' : Slots} {a : Act} {w w' w0 : World} {B : Nat} {fs fs' : List Fact} {ops : Array Oper} {o : Oper} {rest : List Oper} {Q : Exit → Act → World → Prop} {v u p : Value} {d : Nat}

theorem wA_three {C : World → Prop} {n : Nat} {listed : Array Bool} {r s t : Nat} (hr : Region.ready .any ops listed = [r, s, t]) (h : wK P N ops Q C n r listed l w) (h' : wK P N ops Q C n s listed l w) (h'' : wK P N ops Q C n t listed l w) : wA P N ops Q C (n + 1) listed l w := wA_all_ hr fun i hi => by
  rcases List.mem_cons.1 hi with rfl | hi
  · exact h
  · rcases List.mem_cons.1 hi with rfl | hi
    · exact h'
    · rcases List.mem_singleton.1 hi with rfl
      exact h''
end
end Go.Proofs.Ytkjlafpafmihaaa

