/- Parts of proofs: lemmas on memory, on single functions and on the plain models; no condition of their own. -/
import Derived.Test.YtkjlafpafmihaaaRows
import Derived.WalkKit
import Derived.ProofKit
import Derived.OpenShut
import Derived.SizedLaws
import Derived.WalkSpells
import Derived.WalkLawsBesides
import Derived.Handy
import Derived.Deep.QuietTactic
import Derived.BigQuiet
import Derived.Lib.Hide
import Derived.Maps.AppendAt
import Derived.Deep.AppendLies
import Derived.RegionTactic
import Derived.OwnWalk
import Derived.Laws.Tables
import Derived.Deep.MidRow
import Derived.StillTailTactics
import Derived.OrdersHeld
import Derived.Deep.RegionHeld3
import Derived.Laws.IdiomCopy
import Derived.ChangeKeysEq
import Derived.Laws.BitsAllLaws
import Derived.Deep.DeepCutAuto
import Derived.Deep.CutRange
import Derived.Shelf.SlSortCmp.WholeK
import Derived.Shelf.SlSortCmp.NoneTotal
import Derived.Shelf.SlicesG.Cmp
import Derived.Shelf.SlGeneric
import Derived.Ground.SlsfProg
import Derived.Ground.SlgcProg
import Derived.Test.YtkjlafpafmihaaaG0e35ec4e0bdc
import Derived.Test.YtkjlafpafmihaaaG2143c9b0b786
import Derived.Test.YtkjlafpafmihaaaG3cad135f796d
import Derived.Test.YtkjlafpafmihaaaG668153da7687
import Derived.Test.YtkjlafpafmihaaaG95288c2830db
import Derived.Test.YtkjlafpafmihaaaG9d6a0cc61d66
import Derived.Test.YtkjlafpafmihaaaGa89c1a6f9966
import Derived.Test.YtkjlafpafmihaaaGa956530333d6
import Derived.Test.YtkjlafpafmihaaaGad4fca606e19
import Derived.Test.YtkjlafpafmihaaaGb705d1f06a25
import Derived.Test.YtkjlafpafmihaaaGc78e27da6ed6
set_option linter.unusedVariables false
set_option linter.unusedSimpArgs false

namespace Go.Proofs.Ytkjlafpafmihaaa
open Go.ChangeShapes Go.WideShapes Go.RowKit

section
variable {Q : Qd} {an : List Ans} {l : List Ev} {e : Ev} {k : Nat}
theorem tellGo_len : ∀ {l : List Ev} {Q : Qd} {an : List Ans} {r : Qd × List Ans}, Q.ready.length + Q.leases.length ≤ 501 → tellGo Q an l = some r → r.1.ready.length + r.1.leases.length ≤ 501 ∧ r.2.length = an.length + l.length
  | [], Q, an, r, hQ, h => by
    simp only [tellGo, Option.some.injEq] at h
    subst h
    exact ⟨hQ, by simp⟩
  | e :: l, Q, an, r, hQ, h => by
    rw [tellGo] at h
    split at h
    · rename_i hc
      obtain ⟨h1, h2⟩ := tellGo_len (do_len hc.1) h
      exact ⟨h1, by rw [h2]; simp; omega⟩
    · cases h
theorem tellM_qlen : (tellM l).1.ready.length + (tellM l).1.leases.length ≤ 501 := by
  unfold tellM
  split
  · simp [zeroQd]
  · split
    · rename_i r hr
      exact (tellGo_len (by simp [zeroQd]) hr).1
    · simp [zeroQd]
end
end Go.Proofs.Ytkjlafpafmihaaa

