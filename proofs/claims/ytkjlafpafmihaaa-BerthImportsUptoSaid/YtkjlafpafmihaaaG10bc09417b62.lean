/- Parts of proofs: lemmas on memory, on single functions and on the plain models; no condition of their own. -/
import Derived.Test.YtkjlafpafmihaaaRows
import Derived.WalkKit
import Derived.ProofKit
import Derived.OpenShut
import Derived.SizedLaws
import Derived.WalkSpells
import Derived.WalkLawsBesides
import Derived.Handy
import Derived.Deep.QuietTactic
import Derived.BigQuiet
import Derived.Lib.Hide
import Derived.Maps.AppendAt
import Derived.Deep.AppendLies
import Derived.RegionTactic
import Derived.OwnWalk
import Derived.Laws.Tables
import Derived.Deep.MidRow
import Derived.StillTailTactics
import Derived.OrdersHeld
import Derived.Deep.RegionHeld3
import Derived.Laws.IdiomCopy
import Derived.ChangeKeysEq
import Derived.Laws.BitsAllLaws
import Derived.Deep.DeepCutAuto
import Derived.Deep.CutRange
import Derived.Shelf.SlSortCmp.WholeK
import Derived.Shelf.SlSortCmp.NoneTotal
import Derived.Shelf.SlicesG.Cmp
import Derived.Shelf.SlGeneric
import Derived.Ground.SlsfProg
import Derived.Ground.SlgcProg
import Derived.Test.YtkjlafpafmihaaaG53d9860cd554
import Derived.Test.YtkjlafpafmihaaaG5a4470397ed8
import Derived.Test.YtkjlafpafmihaaaG6c7d926bdf1e
import Derived.Test.YtkjlafpafmihaaaG7f64e302c5b9
import Derived.Test.YtkjlafpafmihaaaG8c8ada4b342a
import Derived.Test.YtkjlafpafmihaaaG90f7600ce72e
import Derived.Test.YtkjlafpafmihaaaG9b85a56455eb
import Derived.Test.YtkjlafpafmihaaaGbea5e349a2aa
import Derived.Test.YtkjlafpafmihaaaGcd1d2a0662d0
import Derived.Test.YtkjlafpafmihaaaGd7f7ec5356a9
import Derived.Test.YtkjlafpafmihaaaGdb62e807c2bc
set_option linter.unusedVariables false
set_option linter.unusedSimpArgs false

namespace Go.Proofs.Ytkjlafpafmihaaa
open Go.ChangeShapes Go.WideShapes Go.RowKit

noncomputable def tellGo : Qd → List Ans → List Ev → Option (Qd × List Ans)
  | Q, an, [] => some (Q, an)
  | Q, an, e :: r => if (doM Q e).2.2.2 = 0 ∧ (doM Q e).2.2.1 = true then tellGo (doM Q e).1 (an ++ [(doM Q e).2.1]) r else none
noncomputable def tellM (l : List Ev) : Qd × List Ans × Int :=
  if 2000 < l.length then (zeroQd, [], 1) else match tellGo zeroQd [] l with
    | some r => (r.1, r.2, 0)
    | none => (zeroQd, [], 3)
section
variable {Q : Qd} {an : List Ans} {l : List Ev} {e : Ev} {k : Nat}
theorem tellGo_step (h : l[k]? = some e) (h0 : (doM Q e).2.2.2 = 0) (h1 : (doM Q e).2.2.1 = true) : tellGo Q an (l.drop k) = tellGo (doM Q e).1 (an ++ [(doM Q e).2.1]) (l.drop (k + 1)) := by
  obtain ⟨hk, hm⟩ := List.getElem?_eq_some_iff.1 h
  rw [List.drop_eq_getElem_cons hk, hm, tellGo, if_pos ⟨h0, h1⟩]
theorem tellGo_stop (h : l[k]? = some e) (h0 : ¬ ((doM Q e).2.2.2 = 0 ∧ (doM Q e).2.2.1 = true)) : tellGo Q an (l.drop k) = none := by
  obtain ⟨hk, hm⟩ := List.getElem?_eq_some_iff.1 h
  rw [List.drop_eq_getElem_cons hk, hm, tellGo, if_neg h0]
theorem tellGo_end (h : l.length ≤ k) : tellGo Q an (l.drop k) = some (Q, an) := by
  rw [List.drop_eq_nil_of_le h]
  rfl
theorem tellM_big (h : 2000 < l.length) : tellM l = (zeroQd, [], 1) := if_pos h
theorem tellM_ok {r : Qd × List Ans} (h : ¬ 2000 < l.length) (h1 : tellGo zeroQd [] l = some r) : tellM l = (r.1, r.2, 0) := by
  unfold tellM; rw [if_neg h, h1]
theorem tellM_no (h : ¬ 2000 < l.length) (h1 : tellGo zeroQd [] l = none) : tellM l = (zeroQd, [], 3) := by
  unfold tellM; rw [if_neg h, h1]
theorem do_len (h : (doM Q e).2.2.2 = 0) : (doM Q e).1.ready.length + (doM Q e).1.leases.length ≤ 501 := by
  by_cases h0 : Q.fault = 0
  · by_cases h1 : evFault e = 0
    · rw [do_ok h0 h1]
      have h2 := (qf_zero h0).1
      unfold rngQ at h2
      have := step_len (Q := Q) (e := e)
      simp only
      omega
    · rw [do_ef h0 h1]; simp [zeroQd]
  · rw [do_qf h0]; simp [zeroQd]
end
end Go.Proofs.Ytkjlafpafmihaaa

