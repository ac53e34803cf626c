/- PLAIN LAW: taking an id into a window, as the program and as the reference do it. No program in sight. -/
import Derived.Test.YtkjlafpafmihaaaWinSeen
namespace Go.Proofs.Ytkjlafpafmihaaa

theorem foldBits (t : Int) (i : Nat) (hi : i < 8) : ∀ (l : List Int) (bs : List Bool), bs.length = 8 →
    (l.foldl (fun bs x => setBit bs (x - t + 8)) bs).getD i false = (bs.getD i false || decide (t - 8 + i ∈ l))
  | [], bs, _ => by simp
  | x :: l, bs, h => by
    rw [List.foldl_cons, foldBits t i hi l _ (by rw [setBit_len]; exact h)]
    have key : (setBit bs (x - t + 8)).getD i false = (bs.getD i false || decide (t - 8 + (i : Int) = x)) := by
      unfold setBit
      split
      · rename_i h0
        rw [getD_set, h]
        by_cases e : t - 8 + (i : Int) = x
        · rw [if_pos (by omega)]
          simp [e]
        · rw [if_neg (by omega)]
          simp [e]
      · rename_i h0
        have e : ¬ t - 8 + (i : Int) = x := by omega
        simp [e]
    rw [key, Bool.or_assoc]
    congr 1
    rw [Bool.eq_iff_iff]
    simp

theorem bitsTo_mem (t : Int) (l : List Int) (i : Nat) (hi : i < 8) : (bitsTo t l).getD i false = decide (t - 8 + i ∈ l) := by
  unfold bitsTo
  rw [foldBits t i hi l _ rfl]
  have : ([false, false, false, false, false, false, false, false] : List Bool).getD i false = false := by
    match i with
    | 0 | 1 | 2 | 3 | 4 | 5 | 6 | 7 => rfl
    | n + 8 => rfl
  rw [this, Bool.false_or]

theorem winOn_congr (t : Int) (l k : List Int) (h : ∀ z, z ∈ l ↔ z ∈ k) : winOn t (bitsTo t l) = winOn t (bitsTo t k) := by
  unfold winOn
  have e : ∀ i, i < 8 → (bitsTo t l).getD i false = (bitsTo t k).getD i false := fun i hi => by
    rw [bitsTo_mem _ _ _ hi, bitsTo_mem _ _ _ hi, Bool.eq_iff_iff]
    simp [h]
  rw [e 0 (by omega), e 1 (by omega), e 2 (by omega), e 3 (by omega), e 4 (by omega), e 5 (by omega), e 6 (by omega), e 7 (by omega)]

/-- The reference's loop: what is out, and whether the id is in it. -/
def insF (id : Int) (l : List Int) : List Int × Bool := l.foldl (fun s y => ((if s.2 = false ∧ id < y then s.1 ++ [id] else s.1) ++ [y], s.2 || decide (id < y))) ([], false)
def insM (id : Int) (l : List Int) : List Int := if (insF id l).2 = true then (insF id l).1 else (insF id l).1 ++ [id]
theorem insF_snoc (id : Int) (l : List Int) (y : Int) : insF id (l ++ [y]) = ((if (insF id l).2 = false ∧ id < y then (insF id l).1 ++ [id] else (insF id l).1) ++ [y], (insF id l).2 || decide (id < y)) := by
  unfold insF
  rw [List.foldl_append]
  rfl

theorem insF_facts (id : Int) (l : List Int) : ∀ k, k ≤ l.length →
    (∀ z, z ∈ (insF id (l.take k)).1 ↔ (z ∈ l.take k ∨ ((insF id (l.take k)).2 = true ∧ z = id))) ∧ ((insF id (l.take k)).2 = true ↔ ∃ y ∈ l.take k, id < y) ∧
    (l.take k ≠ [] → (insF id (l.take k)).1.getLastD 0 = (l.take k).getLastD 0) ∧ ((insF id (l.take k)).1.length ≤ k + 1) ∧ ((insF id (l.take k)).2 = false → (insF id (l.take k)).1.length ≤ k) := by
  intro k
  induction k with
  | zero => intro _; simp [insF]
  | succ k ih =>
    intro hk
    obtain ⟨h1, h2, h3, h4, h5⟩ := ih (by omega)
    have hx : l[k]? = some l[k] := List.getElem?_eq_getElem (by omega)
    have e : l.take (k + 1) = l.take k ++ [l[k]] := by rw [List.take_add_one, hx]; rfl
    rw [e, insF_snoc]
    generalize l[k] = y
    generalize l.take k = m at h1 h2 h3 h4 h5
    generalize insF id m = s at h1 h2 h3 h4 h5
    obtain ⟨o, d⟩ := s
    simp only at h1 h2 h3 h4 h5 ⊢
    cases d
    · have h2' : ¬ ∃ y ∈ m, id < y := fun h => by have := h2.2 h; cases this
      by_cases hy : id < y
      · simp only [hy, and_self, if_true, Bool.false_or, decide_true]
        refine ⟨fun z => ?_, ?_, fun _ => by simp, by have := h5 rfl; simp; omega, fun h => by cases h⟩
        · simp only [List.mem_append, List.mem_singleton, h1]
          simp
          constructor
          · rintro ((h | h) | h)
            · exact .inl (.inl h)
            · exact .inr h
            · exact .inl (.inr h)
          · rintro ((h | h) | h)
            · exact .inl (.inl h)
            · exact .inr h
            · exact .inl (.inr h)
        · simp only [true_iff]
          exact ⟨y, by simp, hy⟩
      · simp only [hy, and_false, if_false, Bool.false_or, decide_false]
        refine ⟨fun z => ?_, ?_, fun _ => by simp, by have := h5 rfl; simp; omega, fun _ => by have := h5 rfl; simp; omega⟩
        · simp only [List.mem_append, List.mem_singleton, h1]
          simp
        · simp only [Bool.false_eq_true, false_iff]
          rintro ⟨z, hz, hlt⟩
          rcases List.mem_append.1 hz with h | h
          · exact h2' ⟨z, h, hlt⟩
          · simp at h; subst h; exact hy hlt
    · have h2' := h2.1 rfl
      simp only [Bool.true_eq_false, false_and, if_false, Bool.true_or]
      refine ⟨fun z => ?_, ?_, fun _ => by simp, by simp; omega, fun h => by cases h⟩
      · simp only [List.mem_append, List.mem_singleton, h1]
        simp
        constructor
        · rintro ((h | h) | h)
          · exact .inl (.inl h)
          · exact .inr h
          · exact .inl (.inr h)
        · rintro ((h | h) | h)
          · exact .inl (.inl h)
          · exact .inr h
          · exact .inl (.inr h)
      · simp only [true_iff]
        obtain ⟨z, hz, hlt⟩ := h2'
        exact ⟨z, by simp [hz], hlt⟩

/-- The window behind the taking. -/
def outM (x : Win) (id : Int) : Win := winOn (max x.top (id + 1)) (bitsTo (max x.top (id + 1)) (idsTo x.top x.at 8 ++ [id]))

theorem winFault_ids {x : Win} (h : winFault x = 0) : (x.top = 0 ∧ idsTo x.top x.at 8 = []) ∨ (0 < x.top ∧ idsTo x.top x.at 8 ≠ [] ∧ (idsTo x.top x.at 8).getLastD 0 = x.top - 1) := by
  have h0 := winFault_zero h
  unfold winFault at h
  split at h
  · rename_i hh
    simp only [Bool.and_eq_true, decide_eq_true_eq, Bool.or_eq_true, Bool.not_eq_true', decide_eq_false_iff_not] at hh
    obtain ⟨⟨_, hw⟩, h7⟩ := hh
    by_cases ht : 0 < x.top
    · right
      have hb : x.at 7 = true := by
        rcases h7 with h | h
        · exact absurd ht h
        · exact h
      have e : idsTo x.top x.at 8 = idsTo x.top x.at 7 ++ [x.top - 1] := by
        show (if x.at 7 = true then _ else _) = _
        rw [hb, if_pos rfl, show x.top - 8 + ((7 : Nat) : Int) = x.top - 1 by omega]
      exact ⟨ht, by rw [e]; simp, by rw [e]; simp⟩
    · left
      have ht0 : x.top = 0 := by omega
      refine ⟨ht0, List.eq_nil_iff_forall_not_mem.2 fun y hy => ?_⟩
      obtain ⟨i, h1, h2, h3⟩ := ids_mem.1 hy
      have := winAll_iff.1 hw i h1 h2
      omega
  · cases h

theorem insM_eq (x : Win) (id : Int) (h : winFault x = 0) (h0 : 0 ≤ id) (hn : ¬ id ∈ idsTo x.top x.at 8) : winOf (insM id (idsTo x.top x.at 8)) = outM x id := by
  have hc := winFault_ids h
  have hlt : ∀ y ∈ idsTo x.top x.at 8, y < x.top := fun y hy => by have := idsTo_lt _ _ _ y hy; omega
  unfold outM
  generalize idsTo x.top x.at 8 = l at hc hn hlt
  obtain ⟨f1, f2, f3, _, _⟩ := insF_facts id l l.length (Nat.le_refl _)
  rw [List.take_length] at f1 f2 f3
  unfold insM
  generalize insF id l = s at f1 f2 f3
  obtain ⟨o, d⟩ := s
  simp only at f1 f2 f3 ⊢
  cases d
  · simp only [Bool.false_eq_true, if_false]
    have hge : ∀ y ∈ l, ¬ id < y := fun y hy hlt => by have := f2.2 ⟨y, hy, hlt⟩; cases this
    have hT : max x.top (id + 1) = id + 1 := by
      rcases hc with ⟨h1, _⟩ | ⟨h1, h2, h3⟩
      · omega
      · have hm : x.top - 1 ∈ l := by
          rw [← h3, List.getLastD_eq_getLast?, List.getLast?_eq_some_getLast h2]
          exact List.getLast_mem _
        have := hge _ hm
        omega
    unfold winOf
    rw [if_neg (by simp), hT, show (o ++ [id]).getLastD 0 = id by simp]
    refine winOn_congr _ _ _ fun z => ?_
    simp [f1]
  · simp only [if_true]
    obtain ⟨y, hy, hlt2⟩ := f2.1 rfl
    rcases hc with ⟨_, h2⟩ | ⟨h1, h2, h3⟩
    · rw [h2] at hy; cases hy
    · have := hlt y hy
      have hT : max x.top (id + 1) = x.top := by omega
      have hne : o ≠ [] := by
        intro e
        have := (f1 y).2 (.inl hy)
        rw [e] at this
        cases this
      unfold winOf
      rw [if_neg hne, f3 h2, h3, hT, show x.top - 1 + 1 = x.top by omega]
      refine winOn_congr _ _ _ fun z => ?_
      simp [f1]
end Go.Proofs.Ytkjlafpafmihaaa
