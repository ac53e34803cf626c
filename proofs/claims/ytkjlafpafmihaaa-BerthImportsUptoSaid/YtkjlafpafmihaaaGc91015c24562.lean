/- Parts of proofs: lemmas on memory, on single functions and on the plain models; no condition of their own. -/
import Derived.Test.YtkjlafpafmihaaaRows
import Derived.WalkKit
import Derived.ProofKit
import Derived.OpenShut
import Derived.SizedLaws
import Derived.WalkSpells
import Derived.WalkLawsBesides
import Derived.Handy
import Derived.Deep.QuietTactic
import Derived.BigQuiet
import Derived.Lib.Hide
import Derived.Maps.AppendAt
import Derived.Deep.AppendLies
import Derived.RegionTactic
import Derived.OwnWalk
import Derived.ChangeKeysEq
import Derived.Test.YtkjlafpafmihaaaG1c4f1809429b
import Derived.Test.YtkjlafpafmihaaaG4391f5675e30
import Derived.Test.YtkjlafpafmihaaaG53d9860cd554
import Derived.Test.YtkjlafpafmihaaaG5a4470397ed8
import Derived.Test.YtkjlafpafmihaaaGd7f7ec5356a9
set_option linter.unusedVariables false
set_option linter.unusedSimpArgs false

namespace Go.Proofs.Ytkjlafpafmihaaa
open Go.ChangeShapes Go.WideShapes Go.RowKit

def evCells (l : List Ev) : List Value := l.flatMap Ev.cells
theorem evCells_length (l : List Ev) : (evCells l).length = l.length * 6 := by
  induction l with
  | nil => rfl
  | cons e l ih => simp only [evCells, List.flatMap_cons, List.length_append] at *; rw [ih]; simp [Ev.cells]; omega
theorem evCells_append (l k : List Ev) : evCells (l ++ k) = evCells l ++ evCells k := by simp [evCells]
theorem evCells_one (l : List Ev) : ∀ u ∈ evCells l, u.oneCell' = true := by
  intro u hu
  simp only [evCells, List.mem_flatMap, Ev.cells] at hu
  obtain ⟨e, _, hu⟩ := hu
  simp only [List.mem_cons, List.not_mem_nil, or_false] at hu
  rcases hu with rfl | rfl | rfl | rfl | rfl | rfl <;> rfl
theorem evCells_get (l : List Ev) (k : Nat) (e : Ev) (h : l[k]? = some e) : (evCells l)[k * 6]? = some (.int .i64 e.kind) ∧ (evCells l)[k * 6 + 1]? = some (.int .i64 e.producer) ∧ (evCells l)[k * 6 + 2]? = some (.int .i64 e.id) ∧
    (evCells l)[k * 6 + 3]? = some (.int .i64 e.body) ∧ (evCells l)[k * 6 + 4]? = some (.int .i64 e.hepoch) ∧ (evCells l)[k * 6 + 5]? = some (.int .i64 e.hno) := by
  induction l generalizing k with
  | nil => simp at h
  | cons x l ih =>
    cases k with
    | zero =>
      simp at h
      subst h
      simp [evCells, Ev.cells]
    | succ k =>
      have h2 := ih k (by simpa using h)
      have e1 : evCells (x :: l) = x.cells ++ evCells l := by simp [evCells]
      have hx : x.cells.length = 6 := rfl
      have key : ∀ j, (x.cells ++ evCells l)[(k + 1) * 6 + j]? = (evCells l)[k * 6 + j]? := by
        intro j
        rw [List.getElem?_append_right (by omega), hx]
        congr 1
        omega
      rw [e1]
      have k0 := key 0
      simp only [Nat.add_zero] at k0
      rw [k0, key 1, key 2, key 3, key 4, key 5]
      exact h2

theorem Rd.ev_len {w : World} {B n : Nat} {A : Option Addr} {l : List Ev} (h : Rd w B 6 A n (evCells l)) : l.length = n := by
  have := h.1
  rw [evCells_length] at this
  omega
/-- One event's cells, by number. -/
theorem Rd.ev_at {w : World} {B n k : Nat} {A : Option Addr} {l : List Ev} (h : Rd w B 6 A n (evCells l)) (hk : k < n) : ∃ b off e, A = some ⟨b, off, none⟩ ∧ b < B ∧ l[k]? = some e ∧
    w.cell? ⟨b, off + k * 6, none⟩ = some (.int .i64 e.kind) ∧ w.cell? ⟨b, off + k * 6 + 1, none⟩ = some (.int .i64 e.producer) ∧ w.cell? ⟨b, off + k * 6 + 2, none⟩ = some (.int .i64 e.id) ∧
    w.cell? ⟨b, off + k * 6 + 3, none⟩ = some (.int .i64 e.body) ∧ w.cell? ⟨b, off + k * 6 + 4, none⟩ = some (.int .i64 e.hepoch) ∧ w.cell? ⟨b, off + k * 6 + 5, none⟩ = some (.int .i64 e.hno) := by
  have hl := h.ev_len
  obtain ⟨b, off, e, hb, hc⟩ := h.2 (by omega)
  have he : l[k]? = some (l[k]'(by omega)) := List.getElem?_eq_getElem (by omega)
  obtain ⟨g0, g1, g2, g3, g4, g5⟩ := evCells_get l k _ he
  exact ⟨b, off, _, e, hb, he, hc _ _ g0, hc _ _ g1, hc _ _ g2, hc _ _ g3, hc _ _ g4, hc _ _ g5⟩


/-- An argument that is a slice of events. -/
theorem open_events {W : World} {v : Value} {b : Nat} (h : Fits W v (.sl b [.int .i64, .int .i64, .int .i64, .int .i64, .int .i64, .int .i64])) :
    ∃ A n c l, v = .slice A n c ∧ Rd W W.heap.size 6 A n (evCells l) ∧ n ≤ c ∧ c ≤ maxLen ∧ c * b ≤ reachBytes ∧ (A = none → c = 0) := by
  rcases h with rfl | ⟨ad, n, c, rfl, hn, hc, hr, hcell⟩
  · exact ⟨none, 0, 0, [], rfl, Rd.none_, Nat.le_refl _, Nat.zero_le _, by simp, fun _ => rfl⟩
  · have hex : ∀ i, i < n → ∃ x : Ev, ad.block < W.heap.size ∧ ∀ j u, x.cells[j]? = some u → W.cell? (ad.add (i * 6 + j)) = some u := by
      intro i hi
      obtain ⟨cs, h2, hb, hcs⟩ := hcell i hi
      obtain ⟨a1, l1, rfl, ⟨m1, rfl, _⟩, h3⟩ := All2.cons_ h2
      obtain ⟨a2, l2, rfl, ⟨m2, rfl, _⟩, h4⟩ := All2.cons_ h3
      obtain ⟨a3, l3, rfl, ⟨m3, rfl, _⟩, h5⟩ := All2.cons_ h4
      obtain ⟨a4, l4, rfl, ⟨m4, rfl, _⟩, h6⟩ := All2.cons_ h5
      obtain ⟨a5, l5, rfl, ⟨m5, rfl, _⟩, h7⟩ := All2.cons_ h6
      obtain ⟨a6, l6, rfl, ⟨m6, rfl, _⟩, h8⟩ := All2.cons_ h7
      rw [All2.nil_ h8] at hcs
      exact ⟨⟨m1, m2, m3, m4, m5, m6⟩, hb (by simp), fun j u hj => hcs j u hj⟩
    obtain ⟨f, hf⟩ : ∃ f : Nat → Ev, ∀ i, i < n → ad.block < W.heap.size ∧ ∀ j u, (f i).cells[j]? = some u → W.cell? (ad.add (i * 6 + j)) = some u := by
      refine ⟨fun i => if hi : i < n then Classical.choose (hex i hi) else ⟨0, 0, 0, 0, 0, 0⟩, fun i hi => ?_⟩
      simp only [hi, dif_pos]
      exact Classical.choose_spec (hex i hi)
    refine ⟨some ad, n, c, (List.range n).map f, rfl, ⟨by rw [evCells_length]; simp, fun h0 => ?_⟩, hn, hc, hr, fun h => by cases h⟩
    obtain ⟨b, off, spot⟩ := ad
    have hspot : spot = none := by simpa [Addr.add] using World.cell?_spot ((hf 0 h0).2 0 _ rfl)
    subst hspot
    refine ⟨b, off, rfl, (hf 0 h0).1, fun j u hu => ?_⟩
    have hj : j < n * 6 := by
      have := (List.getElem?_eq_some_iff.1 hu).1
      rw [evCells_length] at this
      simpa using this
    have hk : j / 6 < n := by omega
    have hg : ((List.range n).map f)[j / 6]? = some (f (j / 6)) := by simp [hk]
    have h7 := (hf (j / 6) hk).2 (j % 6) u
    have e : j / 6 * 6 + j % 6 = j := by omega
    rw [Go.WideShapes.add_plain, e] at h7
    refine h7 ?_
    obtain ⟨g0, g1, g2, g3, g4, g5⟩ := evCells_get _ _ _ hg
    have hm : j % 6 = 0 ∨ j % 6 = 1 ∨ j % 6 = 2 ∨ j % 6 = 3 ∨ j % 6 = 4 ∨ j % 6 = 5 := by omega
    rw [← e] at hu
    rcases hm with hm | hm | hm | hm | hm | hm <;> rw [hm] at hu ⊢
    · rw [Nat.add_zero, g0] at hu; exact hu
    · rw [g1] at hu; exact hu
    · rw [g2] at hu; exact hu
    · rw [g3] at hu; exact hu
    · rw [g4] at hu; exact hu
    · rw [g5] at hu; exact hu

end Go.Proofs.Ytkjlafpafmihaaa

namespace Go.Proofs.Ytkjlafpafmihaaa
open Go.ChangeShapes Go.WideShapes Go.RowKit

theorem ev_new (w : World) (e : Ev) (t : TypeId) : Rd (w.alloc (.cells #[.int .i64 e.kind, .int .i64 e.producer, .int .i64 e.id, .int .i64 e.body, .int .i64 e.hepoch, .int .i64 e.hno] t)) (w.heap.size + 1) 6 (some ⟨w.heap.size, 0, none⟩) 1 (evCells [e]) :=
  Rd.new_ w t (evCells [e]) 1 6 (by simp [evCells_length])

set_option maxHeartbeats 800000 in
theorem EventsCopy_calls (A : Option Addr) (n c : Nat) (l : List Ev) (w : World) (h : Rd w w.heap.size 6 A n (evCells l)) (hc : n * 48 ≤ reachBytes) :
    Calls Try.prog 152 #[.slice A n c] w (OwnPost w 37 6 n (evCells l)) := by
  have hc' : n * 48 ≤ 140737488351232 := hc
  obtain ⟨i0, hi0, hz0, hz1, hz2⟩ := info_parts ev_info
  have hl := h.ev_len
  have H := Lib.hid h
  have HL := Lib.hid hl
  clear h hl hc
  go_enter Try.func152, Try.ntmps152
  go_wp2
  go_loopw [3, 4] (fun v i wr => ∃ k : Nat, k ≤ n ∧ i = .int .i64 k ∧ Below w.heap.size w wr ∧ wr.ownsRow w.heap.size 37 6 v k (evCells (l.take k))) (fun _ i _ => n - (intOf i).toNat)
  case atStart => exact ⟨0, Nat.zero_le _, rfl, Below.refl _ _, ownsRow_nil_ _ _ _ _⟩
  case round =>
    obtain ⟨k, hk, rfl, hB, hown⟩ := hrel
    by_cases hlt : k < n
    · obtain ⟨b, off, e, rfl, hb, he, c0, c1, c2, c3, c4, c5⟩ := (H.out.below hB (Nat.le_refl _)).ev_at hlt
      have hs := hB.size
      have HE := Lib.hid he
      have HB := Lib.hid hB
      have HO := Lib.hid hown
      clear he hB hown
      have hE := ev_new wr e 37
      have HN := Lib.hid hE
      clear hE
      go_wp2_with (at_builtin; refine wpList_append_any _ rfl (.tmp 11) (.tmp 16) _ rfl w.heap.size 37 i0 _ 6 48 Try.underlying57 hi0 hz0 hz1 hz2 rfl (by omega) _ k (evCells (l.take k)) rfl (HO.out.alloc _) (wr.heap.size + 1) (some ⟨wr.heap.size, 0, none⟩) 1 1 (evCells [e]) rfl HN.out (evCells_one _) (by simp only [maxLen]; omega) (by omega) (by simp; omega) ?_; intro v1 w1 hown1 hg1 hat1)
      have hB1 : Below w.heap.size w w1 := (HB.out.alloc hs _).grown hg1 (by simp; omega) (HO.out.own_lt ·)
      rw [← evCells_append, take_snoc_ HE.out] at hown1
      have HB1 := Lib.hid hB1
      have HO1 := Lib.hid hown1
      clear hB1 hown1 hg1 hat1
      go_wp2
      go_roundw
      case rel => exact ⟨k + 1, by omega, by go_num, HB1.out, HO1.out⟩
      case measure => simp [intOf]; omega
    · obtain rfl : k = n := by omega
      have HB := Lib.hid hB
      have HO := Lib.hid hown
      clear hB hown
      go_wp2
      go_ret
      have hown := HO.out
      rw [List.take_of_length_le (by have := HL.out; omega)] at hown
      exact OwnPost.of HB.out hown
end Go.Proofs.Ytkjlafpafmihaaa

