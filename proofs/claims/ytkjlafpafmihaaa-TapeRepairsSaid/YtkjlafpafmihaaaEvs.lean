/- Slices of events. -/
import Derived.Test.YtkjlafpafmihaaaApp
import Derived.Test.YtkjlafpafmihaaaEv
namespace Go.Proofs.Ytkjlafpafmihaaa
open Go.ChangeShapes Go.WideShapes Go.RowKit

def evCells (l : List Ev) : List Value := l.flatMap Ev.cells
theorem evCells_length (l : List Ev) : (evCells l).length = l.length * 6 := by
  induction l with
  | nil => rfl
  | cons e l ih => simp only [evCells, List.flatMap_cons, List.length_append] at *; rw [ih]; simp [Ev.cells]; omega
theorem evCells_append (l k : List Ev) : evCells (l ++ k) = evCells l ++ evCells k := by simp [evCells]
theorem evCells_one (l : List Ev) : ∀ u ∈ evCells l, u.oneCell' = true := by
  intro u hu
  simp only [evCells, List.mem_flatMap, Ev.cells] at hu
  obtain ⟨e, _, hu⟩ := hu
  simp only [List.mem_cons, List.not_mem_nil, or_false] at hu
  rcases hu with rfl | rfl | rfl | rfl | rfl | rfl <;> rfl
theorem evCells_get (l : List Ev) (k : Nat) (e : Ev) (h : l[k]? = some e) : (evCells l)[k * 6]? = some (.int .i64 e.kind) ∧ (evCells l)[k * 6 + 1]? = some (.int .i64 e.producer) ∧ (evCells l)[k * 6 + 2]? = some (.int .i64 e.id) ∧
    (evCells l)[k * 6 + 3]? = some (.int .i64 e.body) ∧ (evCells l)[k * 6 + 4]? = some (.int .i64 e.hepoch) ∧ (evCells l)[k * 6 + 5]? = some (.int .i64 e.hno) := by
  induction l generalizing k with
  | nil => simp at h
  | cons x l ih =>
    cases k with
    | zero =>
      simp at h
      subst h
      simp [evCells, Ev.cells]
    | succ k =>
      have h2 := ih k (by simpa using h)
      have e1 : evCells (x :: l) = x.cells ++ evCells l := by simp [evCells]
      have hx : x.cells.length = 6 := rfl
      have key : ∀ j, (x.cells ++ evCells l)[(k + 1) * 6 + j]? = (evCells l)[k * 6 + j]? := by
        intro j
        rw [List.getElem?_append_right (by omega), hx]
        congr 1
        omega
      rw [e1]
      have k0 := key 0
      simp only [Nat.add_zero] at k0
      rw [k0, key 1, key 2, key 3, key 4, key 5]
      exact h2

theorem Rd.ev_len {w : World} {B n : Nat} {A : Option Addr} {l : List Ev} (h : Rd w B 6 A n (evCells l)) : l.length = n := by
  have := h.1
  rw [evCells_length] at this
  omega
/-- One event's cells, by number. -/
theorem Rd.ev_at {w : World} {B n k : Nat} {A : Option Addr} {l : List Ev} (h : Rd w B 6 A n (evCells l)) (hk : k < n) : ∃ b off e, A = some ⟨b, off, none⟩ ∧ b < B ∧ l[k]? = some e ∧
    w.cell? ⟨b, off + k * 6, none⟩ = some (.int .i64 e.kind) ∧ w.cell? ⟨b, off + k * 6 + 1, none⟩ = some (.int .i64 e.producer) ∧ w.cell? ⟨b, off + k * 6 + 2, none⟩ = some (.int .i64 e.id) ∧
    w.cell? ⟨b, off + k * 6 + 3, none⟩ = some (.int .i64 e.body) ∧ w.cell? ⟨b, off + k * 6 + 4, none⟩ = some (.int .i64 e.hepoch) ∧ w.cell? ⟨b, off + k * 6 + 5, none⟩ = some (.int .i64 e.hno) := by
  have hl := h.ev_len
  obtain ⟨b, off, e, hb, hc⟩ := h.2 (by omega)
  have he : l[k]? = some (l[k]'(by omega)) := List.getElem?_eq_getElem (by omega)
  obtain ⟨g0, g1, g2, g3, g4, g5⟩ := evCells_get l k _ he
  exact ⟨b, off, _, e, hb, he, hc _ _ g0, hc _ _ g1, hc _ _ g2, hc _ _ g3, hc _ _ g4, hc _ _ g5⟩


/-- An argument that is a slice of events. -/
theorem open_events {W : World} {v : Value} {b : Nat} (h : Fits W v (.sl b [.int .i64, .int .i64, .int .i64, .int .i64, .int .i64, .int .i64])) :
    ∃ A n c l, v = .slice A n c ∧ Rd W W.heap.size 6 A n (evCells l) ∧ n ≤ c ∧ c ≤ maxLen ∧ c * b ≤ reachBytes ∧ (A = none → c = 0) := by
  rcases h with rfl | ⟨ad, n, c, rfl, hn, hc, hr, hcell⟩
  · exact ⟨none, 0, 0, [], rfl, Rd.none_, Nat.le_refl _, Nat.zero_le _, by simp, fun _ => rfl⟩
  · have hex : ∀ i, i < n → ∃ x : Ev, ad.block < W.heap.size ∧ ∀ j u, x.cells[j]? = some u → W.cell? (ad.add (i * 6 + j)) = some u := by
      intro i hi
      obtain ⟨cs, h2, hb, hcs⟩ := hcell i hi
      obtain ⟨a1, l1, rfl, ⟨m1, rfl, _⟩, h3⟩ := All2.cons_ h2
      obtain ⟨a2, l2, rfl, ⟨m2, rfl, _⟩, h4⟩ := All2.cons_ h3
      obtain ⟨a3, l3, rfl, ⟨m3, rfl, _⟩, h5⟩ := All2.cons_ h4
      obtain ⟨a4, l4, rfl, ⟨m4, rfl, _⟩, h6⟩ := All2.cons_ h5
      obtain ⟨a5, l5, rfl, ⟨m5, rfl, _⟩, h7⟩ := All2.cons_ h6
      obtain ⟨a6, l6, rfl, ⟨m6, rfl, _⟩, h8⟩ := All2.cons_ h7
      rw [All2.nil_ h8] at hcs
      exact ⟨⟨m1, m2, m3, m4, m5, m6⟩, hb (by simp), fun j u hj => hcs j u hj⟩
    obtain ⟨f, hf⟩ : ∃ f : Nat → Ev, ∀ i, i < n → ad.block < W.heap.size ∧ ∀ j u, (f i).cells[j]? = some u → W.cell? (ad.add (i * 6 + j)) = some u := by
      refine ⟨fun i => if hi : i < n then Classical.choose (hex i hi) else ⟨0, 0, 0, 0, 0, 0⟩, fun i hi => ?_⟩
      simp only [hi, dif_pos]
      exact Classical.choose_spec (hex i hi)
    refine ⟨some ad, n, c, (List.range n).map f, rfl, ⟨by rw [evCells_length]; simp, fun h0 => ?_⟩, hn, hc, hr, fun h => by cases h⟩
    obtain ⟨b, off, spot⟩ := ad
    have hspot : spot = none := by simpa [Addr.add] using World.cell?_spot ((hf 0 h0).2 0 _ rfl)
    subst hspot
    refine ⟨b, off, rfl, (hf 0 h0).1, fun j u hu => ?_⟩
    have hj : j < n * 6 := by
      have := (List.getElem?_eq_some_iff.1 hu).1
      rw [evCells_length] at this
      simpa using this
    have hk : j / 6 < n := by omega
    have hg : ((List.range n).map f)[j / 6]? = some (f (j / 6)) := by simp [hk]
    have h7 := (hf (j / 6) hk).2 (j % 6) u
    have e : j / 6 * 6 + j % 6 = j := by omega
    rw [Go.WideShapes.add_plain, e] at h7
    refine h7 ?_
    obtain ⟨g0, g1, g2, g3, g4, g5⟩ := evCells_get _ _ _ hg
    have hm : j % 6 = 0 ∨ j % 6 = 1 ∨ j % 6 = 2 ∨ j % 6 = 3 ∨ j % 6 = 4 ∨ j % 6 = 5 := by omega
    rw [← e] at hu
    rcases hm with hm | hm | hm | hm | hm | hm <;> rw [hm] at hu ⊢
    · rw [Nat.add_zero, g0] at hu; exact hu
    · rw [g1] at hu; exact hu
    · rw [g2] at hu; exact hu
    · rw [g3] at hu; exact hu
    · rw [g4] at hu; exact hu
    · rw [g5] at hu; exact hu

theorem flat_events : flat Try.prog 30 57 = some [.sl 48 [.int .i64, .int .i64, .int .i64, .int .i64, .int .i64, .int .i64]] := by kernel_rfl
set_option maxRecDepth 100000 in
theorem arg_events {W : World} {v : Value} (h : ArgOk Try.prog W v 57) : ∃ A n c l, v = .slice A n c ∧ Rd W W.heap.size 6 A n (evCells l) ∧ n ≤ c ∧ c ≤ maxLen ∧ c * 48 ≤ reachBytes ∧ (A = none → c = 0) := by
  obtain ⟨⟨base, hk⟩, l, hl, ha⟩ := h
  rw [flat_events] at hl
  cases hl
  obtain ⟨A, n, c, rfl⟩ := okWide_slice Try.underlying57 hk
  obtain ⟨a, l1, e, h1, _⟩ := All2.cons_ ha
  simp [Value.cells] at e
  obtain ⟨rfl, _⟩ := e
  obtain ⟨A', n', c', l, e, hr, hn, hc, hb, h0⟩ := open_events h1
  simp only [Value.slice.injEq] at e
  obtain ⟨rfl, rfl, rfl⟩ := e
  exact ⟨A, n, c, l, rfl, hr, hn, hc, hb, h0⟩
end Go.Proofs.Ytkjlafpafmihaaa
