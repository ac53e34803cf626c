/- Parts of proofs: lemmas on memory, on single functions and on the plain models; no condition of their own. -/
import Derived.Test.YtkjlafpafmihaaaRows
import Derived.WalkKit
import Derived.ProofKit
import Derived.OpenShut
import Derived.SizedLaws
import Derived.WalkSpells
import Derived.WalkLawsBesides
import Derived.Handy
import Derived.Deep.QuietTactic
import Derived.BigQuiet
import Derived.Lib.Hide
import Derived.Maps.AppendAt
import Derived.Deep.AppendLies
import Derived.RegionTactic
import Derived.OwnWalk
import Derived.Laws.Tables
import Derived.Deep.MidRow
import Derived.StillTailTactics
import Derived.OrdersHeld
import Derived.Deep.RegionHeld3
import Derived.Laws.IdiomCopy
import Derived.ChangeKeysEq
import Derived.Laws.BitsAllLaws
import Derived.Test.YtkjlafpafmihaaaG19e1afd8d7e3
import Derived.Test.YtkjlafpafmihaaaG53d9860cd554
import Derived.Test.YtkjlafpafmihaaaG5a4470397ed8
import Derived.Test.YtkjlafpafmihaaaG6c7d926bdf1e
import Derived.Test.YtkjlafpafmihaaaG8c8ada4b342a
import Derived.Test.YtkjlafpafmihaaaG90f7600ce72e
import Derived.Test.YtkjlafpafmihaaaGbea5e349a2aa
set_option linter.unusedVariables false
set_option linter.unusedSimpArgs false

namespace Go.Proofs.Ytkjlafpafmihaaa
open Go.ChangeShapes Go.WideShapes Go.ChangeAt Go.RowKit

section
variable {P : Program} {w : World} {t e : TypeId} {A : Option Addr} {n c s B : Nat} {xs : List Value} {kd ke kf : IntKind}
theorem r_min {x y : Int} {ts : Array TypeId} {ty : TypeId} {cs : Array Bool} : (builtin .min ts ty cs #[.int kd x, .int kd y]).run P w = .ok (.value (.int kd (min x y))) w := by
  have : (if y < x then y else x) = min x y := by split <;> omega
  simp [builtin, run_min_int2, Sem.run_bind, Result.andThen, this]
theorem r_minN {x y : Nat} {ts : Array TypeId} {ty : TypeId} {cs : Array Bool} : (builtin .min ts ty cs #[.int kd x, .int kd y]).run P w = .ok (.value (.int kd ((min x y : Nat) : Int))) w := by
  rw [r_min, show min (x : Int) (y : Int) = ((min x y : Nat) : Int) by omega]
end
end Go.Proofs.Ytkjlafpafmihaaa

namespace Go.Proofs.Ytkjlafpafmihaaa
open Go.ChangeShapes Go.WideShapes Go.ChangeAt Go.RowKit
theorem fm_drop_ {α : Type} {enc : α → List Value} {sz : Nat} (hsz : ∀ x, (enc x).length = sz) : ∀ (k : Nat) (l : List α), (l.flatMap enc).drop (k * sz) = (l.drop k).flatMap enc
  | 0, l => by simp
  | k + 1, [] => by simp
  | k + 1, x :: l => by rw [List.flatMap_cons, Nat.succ_mul, Nat.add_comm, ← List.drop_drop, List.drop_left' (hsz x), fm_drop_ hsz k l]; rfl
theorem fm_take_ {α : Type} {enc : α → List Value} {sz : Nat} (hsz : ∀ x, (enc x).length = sz) : ∀ (k : Nat) (l : List α), (l.flatMap enc).take (k * sz) = (l.take k).flatMap enc
  | 0, l => by simp
  | k + 1, [] => by simp
  | k + 1, x :: l => by rw [List.flatMap_cons, Nat.succ_mul, Nat.add_comm, List.take_append, hsz x, List.take_of_length_le (by rw [hsz x]; omega), Nat.add_sub_cancel_left, fm_take_ hsz k l]; rfl
theorem eslice {P : Program} {t e : TypeId} {α : Type} {enc : α → List Value} {s : Nat} (hsz : ∀ x, (enc x).length = s) {A : Option Addr} {b : List α} {n c : Nat} {lo hi mx : Option Value} {l k q m c' : Nat} (hu : P.underlying t = some (.slice e)) (hz : (P.info? e).map (·.size) = some s) (hb : ∀ w, (Instr.sliceBounds true n c lo hi mx).run P w = .ok (l, k, q) w)
    (hlk : l ≤ k) (hkn : k ≤ n) (hkq : k ≤ q) (hm : k - l = m) (hc : q - l = c') : ∃ A', (∀ w, (Instr.sliceAt t (.slice A n c) lo hi mx).run P w = .ok (.slice A' m c') w) ∧ (∀ (w : World) (B : Nat), Rd w B s A n (b.flatMap enc) → Rd w B s A' m (((b.drop l).take m).flatMap enc)) ∧ ∀ a', A' = some a' → ∃ a, A = some a ∧ a.block = a'.block := by
  subst hm
  subst hc
  obtain ⟨A', h1, h2, h3⟩ := slice_exw (A := A) hu hz hb hlk hkn hkq
  refine ⟨A', h1, fun w B hR => ?_, h3⟩
  replace h2 := h2 w B _ hR
  rw [fm_drop_ hsz, fm_take_ hsz] at h2
  exact h2
end Go.Proofs.Ytkjlafpafmihaaa

