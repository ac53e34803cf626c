/- Parts of proofs: lemmas on memory, on single functions and on the plain models; no condition of their own. -/
import Derived.Test.YtkjlafpafmihaaaRows
import Derived.WalkKit
import Derived.ProofKit
import Derived.OpenShut
import Derived.SizedLaws
import Derived.WalkSpells
import Derived.WalkLawsBesides
import Derived.Handy
import Derived.Deep.QuietTactic
import Derived.BigQuiet
import Derived.Lib.Hide
import Derived.Maps.AppendAt
import Derived.Deep.AppendLies
import Derived.RegionTactic
import Derived.OwnWalk
import Derived.Laws.Tables
import Derived.Test.YtkjlafpafmihaaaG191435b3f518
import Derived.Test.YtkjlafpafmihaaaG37e7b647d51a
import Derived.Test.YtkjlafpafmihaaaG5bf9457ac488
import Derived.Test.YtkjlafpafmihaaaGe29d7414e059
set_option linter.unusedVariables false
set_option linter.unusedSimpArgs false

namespace Go.Proofs.Ytkjlafpafmihaaa
open Go.ChangeShapes Go.WideShapes Go.ChangeAt Go.RowKit

section
variable {B : Nat} {w0 w w' : World} {fs : List Fact}

/-- An own row was appended to. -/
theorem St.append {e e' : TypeId} {s s' : Nat} {v v' : Value} {n n' : Nat} {xs xs' : List Value} (i : Nat) (S : St B w0 w fs) (hi : fs[i]? = some (.own e s v n xs)) (hg : w.grownBy w' v.ownBlock) (ho : w'.ownsRow B e' s' v' n' xs')
    (hat : v'.ownBlock = v.ownBlock ∨ v'.ownBlock = some w.heap.size) : St B w0 w' (fs.set i (.own e' s' v' n' xs')) := by
  have h := S.all i _ hi
  refine S.turn i hi (S.low.grown hg S.base (fun k hk => (Fact.foot_lt h hk).1)) hg.size (fun k hk hne => hg.block k hk (fun e => hne e.symm)) ho (fun k hk => ?_)
  have hk' : v'.ownBlock = some k := hk
  rcases hat with h1 | h1
  · exact .inl (by rw [← hk', h1]; rfl)
  · rw [hk'] at h1
    cases h1
    exact .inr (Nat.le_refl _)
theorem St.ord {e : TypeId} {s : Nat} {A : Option Addr} {c n : Nat} {xs : List Value} (i : Nat) (S : St B w0 w fs) (hi : fs[i]? = some (.own e s (.slice A n c) n xs)) : Rd w w.heap.size s A n xs := Rd.of_own (S.own i hi)
/-- A row of the call's own, or what is only read of one, is from now on only read, a part of it maybe. -/
theorem St.seal {e : TypeId} {s : Nat} {A : Option Addr} {c n : Nat} {xs : List Value} {A' : Option Addr} {n' : Nat} {xs' : List Value} (i : Nat) (S : St B w0 w fs) (hi : fs[i]? = some (.own e s (.slice A n c) n xs)) (hR : Rd w w.heap.size s A' n' xs')
    (hA : ∀ a', A' = some a' → ∃ a, A = some a ∧ a.block = a'.block) : St B w0 w (fs.set i (.rdo s A' n' xs')) := by
  have hf : ∀ a', A' = some a' → (Fact.own e s (.slice A n c) n xs).foot = some a'.block := fun a' ha => by
    obtain ⟨a, h1, h2⟩ := hA a' ha
    rw [h1, ← h2]
    rfl
  refine S.turn i hi S.low (Nat.le_refl _) (fun _ _ _ => rfl) ⟨hR, fun a' ha => Fact.foot_lt (S.all i _ hi) (hf a' ha)⟩ fun k hk => .inl ?_
  cases A' with
  | none => cases hk
  | some a' => cases hk; exact hf a' rfl
theorem St.sealAll {e : TypeId} {s : Nat} {A : Option Addr} {c n : Nat} {xs : List Value} (i : Nat) (S : St B w0 w fs) (hi : fs[i]? = some (.own e s (.slice A n c) n xs)) : St B w0 w (fs.set i (.rdo s A n xs)) :=
  S.seal i hi (S.ord i hi) fun a h => ⟨a, h, rfl⟩
end
end Go.Proofs.Ytkjlafpafmihaaa

