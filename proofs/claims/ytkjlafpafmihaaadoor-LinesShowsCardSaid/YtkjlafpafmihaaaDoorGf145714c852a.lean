/- Parts of proofs: lemmas on memory, on single functions and on the plain models; no condition of their own. -/
import Derived.Test.YtkjlafpafmihaaaDoorRows
import Derived.WalkKit
import Derived.ProofKit
import Derived.OpenShut
import Derived.SizedLaws
import Derived.WalkSpells
import Derived.WalkLawsBesides
import Derived.Handy
import Derived.Deep.QuietTactic
import Derived.BigQuiet
import Derived.Lib.Hide
import Derived.Maps.AppendAt
import Derived.Deep.AppendLies
import Derived.RegionTactic
import Derived.OwnWalk
import Derived.ChangeKeysEq
import Derived.Test.YtkjlafpafmihaaaDoorG12ec74731733
import Derived.Test.YtkjlafpafmihaaaDoorG29a9d8cef57c
import Derived.Test.YtkjlafpafmihaaaDoorGb8636b134018
set_option linter.unusedVariables false
set_option linter.unusedSimpArgs false

namespace Go.Proofs.YtkjlafpafmihaaaDoor
open Go.ChangeShapes Go.WideShapes Go.RowKit

/-- A struct of so many ints. -/
class IntRec (α : Type) where
  size : Nat
  ints : α → List Int
  of : List Int → α
  pos : 0 < size
  len : ∀ a, (ints a).length = size
  inv : ∀ xs : List Int, xs.length = size → ints (of xs) = xs

section
variable {α : Type} [IntRec α]
open IntRec

def recOne (a : α) : List Value := (ints a).map (Value.int .i64)
def recCells (l : List α) : List Value := l.flatMap recOne
theorem recOne_length (a : α) : (recOne a).length = size α := by simp [recOne, len]
theorem recCells_length (l : List α) : (recCells l).length = l.length * size α := by
  induction l with
  | nil => simp [recCells]
  | cons e l ih => simp only [recCells, List.flatMap_cons, List.length_append, List.length_cons] at *; rw [ih, recOne_length, Nat.succ_mul]; omega
theorem recCells_get {l : List α} {k j : Nat} {a : α} {v : Int} (h : l[k]? = some a) (hj : (ints a)[j]? = some v) : (recCells l)[k * size α + j]? = some (.int .i64 v) := by
  induction l generalizing k with
  | nil => simp at h
  | cons x l ih =>
    have e1 : recCells (x :: l) = recOne x ++ recCells l := by simp [recCells]
    have hx := recOne_length x
    have hjl : j < size α := by
      have := (List.getElem?_eq_some_iff.1 hj).1
      rw [len] at this
      exact this
    rw [e1]
    cases k with
    | zero =>
      simp at h
      subst h
      rw [Nat.zero_mul, Nat.zero_add, List.getElem?_append_left (by omega)]
      simp [recOne, hj]
    | succ k =>
      rw [List.getElem?_append_right (by rw [Nat.succ_mul]; omega), hx, show (k + 1) * size α + j - size α = k * size α + j by rw [Nat.succ_mul]; omega]
      exact ih (by simpa using h)

variable {w : World} {B n : Nat} {A : Option Addr} {l : List α}
theorem Rd.rec_len (h : Rd w B (size α) A n (recCells l)) : l.length = n := by
  have := h.1
  rw [recCells_length] at this
  exact Nat.eq_of_mul_eq_mul_right (pos (α := α)) this
theorem all2_ints {cs : List Value} {m : Nat} (h : All2 Fits0 cs (List.replicate m (.int .i64))) : ∃ xs : List Int, xs.length = m ∧ cs = xs.map (Value.int .i64) := by
  induction m generalizing cs with
  | zero => exact ⟨[], rfl, All2.nil_ h⟩
  | succ m ih =>
    obtain ⟨a, l1, rfl, ⟨x, rfl, _⟩, h3⟩ := All2.cons_ h
    obtain ⟨xs, h4, rfl⟩ := ih h3
    exact ⟨x :: xs, by simp [h4], rfl⟩

/-- An argument that is a slice of such structs. -/
theorem open_recs {W : World} {v : Value} {b : Nat} (h : Fits W v (.sl b (List.replicate (size α) (.int .i64)))) :
    ∃ A n c, ∃ l : List α, v = .slice A n c ∧ Rd W W.heap.size (size α) A n (recCells l) ∧ n ≤ c ∧ c ≤ maxLen ∧ c * b ≤ reachBytes ∧ (A = none → c = 0) := by
  have hp := pos (α := α)
  rcases h with rfl | ⟨ad, n, c, rfl, hn, hc, hr, hcell⟩
  · exact ⟨none, 0, 0, [], rfl, ⟨by simp [recCells], fun h => absurd h (by omega)⟩, Nat.le_refl _, Nat.zero_le _, by simp, fun _ => rfl⟩
  · have hex : ∀ i, i < n → ∃ x : α, ad.block < W.heap.size ∧ ∀ j u, (recOne x)[j]? = some u → W.cell? (ad.add (i * size α + j)) = some u := by
      intro i hi
      obtain ⟨cs, h2, hb, hcs⟩ := hcell i hi
      obtain ⟨xs, hx, rfl⟩ := all2_ints h2
      rw [List.length_replicate] at hb hcs
      refine ⟨of xs, hb hp, fun j u hj => hcs j u ?_⟩
      rw [recOne, inv xs hx] at hj
      exact hj
    have hd : ∃ x : α, True := ⟨of [], trivial⟩
    obtain ⟨f, hf⟩ : ∃ f : Nat → α, ∀ i, i < n → ad.block < W.heap.size ∧ ∀ j u, (recOne (f i))[j]? = some u → W.cell? (ad.add (i * size α + j)) = some u := by
      refine ⟨fun i => if hi : i < n then Classical.choose (hex i hi) else of [], fun i hi => ?_⟩
      simp only [hi, dif_pos]
      exact Classical.choose_spec (hex i hi)
    refine ⟨some ad, n, c, (List.range n).map f, rfl, ⟨by rw [recCells_length]; simp, fun h0 => ?_⟩, hn, hc, hr, fun h => by cases h⟩
    obtain ⟨b, off, spot⟩ := ad
    have hspot : spot = none := by
      have h1 : (recOne (f 0))[0]? = some ((recOne (f 0))[0]'(by rw [recOne_length]; exact hp)) := List.getElem?_eq_getElem _
      simpa [Addr.add] using World.cell?_spot ((hf 0 h0).2 0 _ h1)
    subst hspot
    refine ⟨b, off, rfl, (hf 0 h0).1, fun j u hu => ?_⟩
    have hj : j < n * size α := by
      have := (List.getElem?_eq_some_iff.1 hu).1
      rw [recCells_length] at this
      simpa using this
    have hk : j / size α < n := Nat.div_lt_of_lt_mul (by rw [Nat.mul_comm]; exact hj)
    have hm : j % size α < size α := Nat.mod_lt _ hp
    have hg : ((List.range n).map f)[j / size α]? = some (f (j / size α)) := by simp [hk]
    have e : j / size α * size α + j % size α = j := by rw [Nat.mul_comm]; exact Nat.div_add_mod j (size α)
    have h7 := (hf (j / size α) hk).2 (j % size α) u
    rw [Go.WideShapes.add_plain, e] at h7
    refine h7 ?_
    have hi : (ints (f (j / size α)))[j % size α]? = some ((ints (f (j / size α)))[j % size α]'(by rw [len]; exact hm)) := List.getElem?_eq_getElem _
    have h8 := recCells_get hg hi
    rw [e, hu] at h8
    rw [recOne, List.getElem?_map, hi]
    exact h8.symm
end

theorem cellsEq_ints : ∀ {xs ys : List Int}, xs.length = ys.length → cellsEq (xs.map (Value.int .i64)) (ys.map (Value.int .i64)) = decide (xs = ys)
  | [], [], _ => by simp [cellsEq]
  | x :: xs, y :: ys, h => by
    have ih := cellsEq_ints (xs := xs) (ys := ys) (by simpa using h)
    simp only [List.map_cons, cellsEq, cellEq, ih, List.cons.injEq]
    rw [Bool.eq_iff_iff]
    simp
  | [], _ :: _, h => by simp at h
  | _ :: _, [], h => by simp at h
theorem kd_ints : ∀ (xs : List Int), All2 Kd (xs.map (Value.int .i64)) (List.replicate xs.length (.at_ (.int .i64)))
  | [] => trivial
  | _ :: xs => ⟨⟨_, rfl⟩, kd_ints xs⟩
end Go.Proofs.YtkjlafpafmihaaaDoor

