/- Parts of proofs: lemmas on memory, on single functions and on the plain models; no condition of their own. -/
import Derived.Test.YtkjlafpafmihaaaRows
import Derived.WalkKit
import Derived.ProofKit
import Derived.OpenShut
import Derived.SizedLaws
import Derived.WalkSpells
import Derived.WalkLawsBesides
import Derived.Handy
import Derived.Deep.QuietTactic
import Derived.BigQuiet
import Derived.Lib.Hide
import Derived.Maps.AppendAt
import Derived.Deep.AppendLies
import Derived.RegionTactic
import Derived.OwnWalk
import Derived.Laws.Tables
import Derived.Deep.MidRow
import Derived.StillTailTactics
import Derived.OrdersHeld
import Derived.Deep.RegionHeld3
import Derived.Laws.IdiomCopy
import Derived.ChangeKeysEq
import Derived.Laws.BitsAllLaws
import Derived.Deep.DeepCutAuto
import Derived.Deep.CutRange
import Derived.Shelf.SlSortCmp.WholeK
import Derived.Shelf.SlSortCmp.NoneTotal
import Derived.Shelf.SlicesG.Cmp
import Derived.Shelf.SlGeneric
import Derived.Ground.SlsfProg
import Derived.Ground.SlgcProg
import Derived.Maps.OwnSet
import Derived.Lib.SliceRun
import Derived.Deep.RegionLaw
import Derived.Scope
import Derived.Test.YtkjlafpafmihaaaG411632d36699
import Derived.Test.YtkjlafpafmihaaaG48f6c12ab48d
import Derived.Test.YtkjlafpafmihaaaG497b255c2441
import Derived.Test.YtkjlafpafmihaaaG4e172fb27d17
import Derived.Test.YtkjlafpafmihaaaG4eaabf97d977
import Derived.Test.YtkjlafpafmihaaaG570539d87647
import Derived.Test.YtkjlafpafmihaaaG809794e4b789
import Derived.Test.YtkjlafpafmihaaaG924ec51911fe
import Derived.Test.YtkjlafpafmihaaaGaccd88af86f3
import Derived.Test.YtkjlafpafmihaaaGc38f42c026ea
import Derived.Test.YtkjlafpafmihaaaGc8683f30ddc5
import Derived.Test.YtkjlafpafmihaaaGc89f12b5a777
import Derived.Test.YtkjlafpafmihaaaGf428e9c8a46a
import Derived.Test.YtkjlafpafmihaaaGfa570c25a005
set_option linter.unusedVariables false
set_option linter.unusedSimpArgs false

namespace Go.Proofs.Ytkjlafpafmihaaa
open Go.ChangeShapes Go.WideShapes Go.RowKit

def getT (T : List Brt) (q : Int) : Brt := T.getD q.toNat zeroB
noncomputable def allGo : List Rcd → Nat → List Brt → Option (List Brt) × Nat × Int
  | [], _, T => (some T, 0, 0)
  | r :: rs, i, T => if recFault r ≠ 0 then (none, i, recFault r) else if (applyM (getT T r.queue) r).2 ≠ 0 then (none, i, (applyM (getT T r.queue) r).2) else allGo rs (i + 1) (T.set r.queue.toNat (applyM (getT T r.queue) r).1)
noncomputable def allM (l : List Rcd) : Option (List Brt) × Nat × Int := allGo l 0 [zeroB, zeroB, zeroB, zeroB]
section
variable {l : List Rcd} {k : Nat} {r : Rcd} {T : List Brt} {R : Brt × Int}
theorem drop_cons {α : Type} {l : List α} {k : Nat} {x : α} (h : l[k]? = some x) : l.drop k = x :: l.drop (k + 1) := by
  obtain ⟨hk, rfl⟩ := List.getElem?_eq_some_iff.1 h
  exact List.drop_eq_getElem_cons hk
theorem all_rec (h : l[k]? = some r) (hf : ¬ recFault r = 0) : allGo (l.drop k) k T = (none, k, recFault r) := by rw [drop_cons h, allGo, if_pos hf]
theorem all_app (h : l[k]? = some r) (hf : recFault r = 0) (hR : applyM (getT T r.queue) r = R) (ha : ¬ R.2 = 0) : allGo (l.drop k) k T = (none, k, R.2) := by subst hR; rw [drop_cons h, allGo, if_neg (by simp [hf]), if_pos ha]
theorem all_next (h : l[k]? = some r) (hf : recFault r = 0) (hR : applyM (getT T r.queue) r = R) (ha : R.2 = 0) : allGo (l.drop k) k T = allGo (l.drop (k + 1)) (k + 1) (T.set r.queue.toNat R.1) := by subst hR; rw [drop_cons h, allGo, if_neg (by simp [hf]), if_neg (by simp [ha])]
theorem all_end (h : l.length ≤ k) : allGo (l.drop k) k T = (some T, 0, 0) := by rw [List.drop_of_length_le h, allGo]
end
/-- A berth, and where its events lie. -/
structure BX where
  b : Brt
  A : Option Addr
  c : Nat
def BX.cells (x : BX) : List Value := [.int .i64 x.b.role, .int .i64 x.b.ep, .int .i64 x.b.fr, .int .i64 x.b.tg, .int .i64 x.b.rd, .slice x.A x.b.evs.length x.c]
def zeroX : BX := ⟨zeroB, none, 0⟩
def zero4 : List BX := [zeroX, zeroX, zeroX, zeroX]
def evFact (x : BX) : Fact := .rdo 6 x.A x.b.evs.length (evCells x.b.evs)
def evFacts (bs : List BX) : List Fact := bs.map evFact
section
variable {B : Nat} {w0 w : World} {bs : List BX} {k : Nat} {y : BX}
theorem getT_at {q : Int} (h : bs[q.toNat]? = some y) : getT (bs.map BX.b) q = y.b := by
  unfold getT
  rw [List.getD_eq_getElem?_getD, List.getElem?_map, h]
  rfl
theorem rdo_ev (pre : List Fact) (S : St B w0 w (pre ++ evFacts bs)) (h : bs[k]? = some y) : Rd w w.heap.size 6 y.A y.b.evs.length (evCells y.b.evs) :=
  St.rdo (pre.length + k) S (by rw [List.getElem?_append_right (Nat.le_add_right _ _), Nat.add_sub_cancel_left, evFacts, List.getElem?_map, h]; rfl)
theorem St.pull {fs fs' : List Fact} (σ : Nat → Nat) (S : St B w0 w fs) (hs : ∀ (i : Nat) (f : Fact), fs'[i]? = some f → fs[σ i]? = some f) (hi : ∀ i j : Nat, i ≠ j → i < fs'.length → j < fs'.length → σ i ≠ σ j) : St B w0 w fs' :=
  ⟨S.low, S.base, fun i f h => S.all _ f (hs i f h), fun i j f g hij h1 h2 => S.sep _ _ f g (hi i j hij (List.getElem?_eq_some_iff.1 h1).1 (List.getElem?_eq_some_iff.1 h2).1) (hs i f h1) (hs j g h2)⟩
theorem ev_put (pre : List Fact) {z : BX} (S : St B w0 w (pre ++ (evFact z :: evFacts bs))) (hk : k < bs.length) : St B w0 w (pre ++ evFacts (bs.set k z)) := by
  refine St.pull (fun i => if i < pre.length then i else if i = pre.length + k then pre.length else i + 1) S (fun i f h => ?_) (fun i j hij _ _ => ?_)
  · by_cases h1 : i < pre.length
    · simp only [if_pos h1]
      rw [List.getElem?_append_left h1] at h ⊢
      exact h
    · obtain ⟨d, rfl⟩ : ∃ d, i = pre.length + d := ⟨i - pre.length, by omega⟩
      rw [List.getElem?_append_right (Nat.le_add_right _ _), Nat.add_sub_cancel_left, evFacts, List.map_set, List.getElem?_set] at h
      simp only [if_neg h1]
      by_cases h2 : k = d
      · subst h2
        rw [if_pos rfl] at h
        rw [if_pos rfl, List.getElem?_append_right (Nat.le_refl _), Nat.sub_self]
        rw [List.length_map, if_pos hk] at h
        exact h
      · rw [if_neg h2] at h
        rw [if_neg (by omega), List.getElem?_append_right (by omega), show pre.length + d + 1 - pre.length = d + 1 from by omega]
        exact h
  · repeat' split
    all_goals omega
/-- Four berths that are nothing. -/
theorem ev_zero {f1 f2 : Fact} (S : St B w0 w [f1, f2]) : St B w0 w (f1 :: f2 :: evFacts zero4) := (rdo_nil (s := 6) (rdo_nil (s := 6) (rdo_nil (s := 6) (rdo_nil (s := 6) S)))).re [4, 5, 0, 1, 2, 3] (by decide)
end
theorem fm_put {α : Type} {enc : α → List Value} {sz : Nat} (hsz : ∀ x, (enc x).length = sz) (z : α) : ∀ (k : Nat) (l : List α), k < l.length → setL (l.flatMap enc) (k * sz) (enc z) = (l.set k z).flatMap enc
  | _, [], h => absurd h (Nat.not_lt_zero _)
  | 0, x :: l, _ => by
    rw [List.flatMap_cons, Nat.zero_mul, List.set_cons_zero, List.flatMap_cons]
    have : ∀ (vs us xs : List Value), us.length = vs.length → setL (us ++ xs) 0 vs = vs ++ xs := by
      have gen : ∀ (vs us ps xs : List Value), us.length = vs.length → setL (ps ++ (us ++ xs)) ps.length vs = ps ++ (vs ++ xs) := by
        intro vs
        induction vs with
        | nil => intro us ps xs h; rw [List.length_eq_zero_iff.1 h]; rfl
        | cons v vs ih =>
          intro us ps xs h
          obtain ⟨u, us, rfl⟩ : ∃ u us', us = u :: us' := by
            cases us with
            | nil => simp at h
            | cons u us => exact ⟨u, us, rfl⟩
          rw [setL]
          have e : (ps ++ (u :: us ++ xs)).set ps.length v = (ps ++ [v]) ++ (us ++ xs) := by simp
          rw [e]
          have := ih us (ps ++ [v]) xs (by simpa using h)
          rw [List.length_append] at this
          rw [show ps.length + 1 = ps.length + [v].length from rfl, this]
          simp
      intro vs us xs h
      exact gen vs us [] xs h
    exact this _ _ _ (by rw [hsz, hsz])
  | k + 1, x :: l, h => by
    rw [List.flatMap_cons, List.set_cons_succ, List.flatMap_cons, ← fm_put hsz z k l (by simpa using h)]
    have gen : ∀ (vs us xs : List Value) (j : Nat), setL (us ++ xs) (us.length + j) vs = us ++ setL xs j vs := by
      intro vs
      induction vs with
      | nil => intro us xs j; rfl
      | cons v vs ih =>
        intro us xs j
        rw [setL, setL, List.set_append_right _ _ (Nat.le_add_right _ _), Nat.add_sub_cancel_left, Nat.add_assoc, ih]
    rw [Nat.succ_mul, Nat.add_comm, ← hsz x, gen]
def AllPost (w : World) (R : Option (List Brt) × Nat × Int) (e : Ending) (w' : World) : Prop :=
  (R.1 = none → e = .returned (.tuple #[.slice none 0 0, .int .i64 ((R.2.1 : Nat) : Int), .int .i64 R.2.2]) ∧ Below w.heap.size w w') ∧
  (∀ T, R.1 = some T → ∃ A c bs, bs.map BX.b = T ∧ bs.length = 4 ∧ e = .returned (.tuple #[.slice A 4 c, .int .i64 ((R.2.1 : Nat) : Int), .int .i64 R.2.2]) ∧ St w.heap.size w w' (.rdo 6 A 4 (bs.flatMap BX.cells) :: evFacts bs))
theorem apply_len {b : Brt} {r : Rcd} : (applyM b r).1.evs.length ≤ b.evs.length + 1 := by
  have h := actM_len (b := b) (r := r)
  unfold applyM
  repeat' split
  all_goals first | exact h | simp [zeroB]
theorem all_len : ∀ (l : List Rcd) (i : Nat) (T : List Brt) (n : Nat), (∀ b ∈ T, b.evs.length ≤ n) → ∀ T', (allGo l i T).1 = some T' → ∀ b ∈ T', b.evs.length ≤ n + l.length
  | [], _, T, n, h, T', e, b, hb => by
    rw [allGo] at e
    cases e
    exact h b hb
  | r :: rs, i, T, n, h, T', e, b, hb => by
    rw [allGo] at e
    split at e
    · cases e
    · split at e
      · cases e
      · have := all_len rs (i + 1) _ (n + 1) (fun b hb => ?_) T' e b hb
        · rw [List.length_cons]; omega
        · rcases List.mem_or_eq_of_mem_set hb with h1 | h1
          · exact Nat.le_succ_of_le (h b h1)
          · rw [h1]
            have hg : (getT T r.queue).evs.length ≤ n := by
              unfold getT
              rw [List.getD_eq_getElem?_getD]
              cases hc : T[r.queue.toNat]? with
              | none => exact Nat.zero_le _
              | some y => exact h y (List.mem_of_getElem? hc)
            exact Nat.le_trans apply_len (Nat.succ_le_succ hg)
end Go.Proofs.Ytkjlafpafmihaaa

