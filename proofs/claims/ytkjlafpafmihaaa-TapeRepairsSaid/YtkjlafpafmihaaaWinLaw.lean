/- PLAIN LAW: a window is the window of its own ids just where it may be. No program in sight. -/
import Derived.Test.YtkjlafpafmihaaaWinRef
namespace Go.Proofs.Ytkjlafpafmihaaa

def headNeg : List Int → Bool
  | [] => false
  | a :: _ => decide (a < 0)

/-- P3.1 as the reference asks it. -/
def winFaultRef (x : Win) : Int :=
  if ¬ (0 ≤ x.top ∧ x.top ≤ 1073741825) then 6
  else if headNeg (idsTo x.top x.at 8) = true then 6
  else if x = winOf (idsTo x.top x.at 8) then 0 else 6

theorem idsTo_lt (t : Int) (f : Nat → Bool) (k : Nat) : ∀ x ∈ idsTo t f k, t - 8 ≤ x ∧ x < t - 8 + k := by
  induction k with
  | zero => simp [idsTo]
  | succ k ih =>
    intro x hx
    unfold idsTo at hx
    split at hx
    · rcases List.mem_append.1 hx with h | h
      · have := ih x h; omega
      · simp at h; omega
    · have := ih x hx; omega

theorem headNeg_append {l : List Int} {y : Int} (h : ∀ x ∈ l, x < y) : headNeg (l ++ [y]) = (headNeg l || decide (y < 0)) := by
  cases l with
  | nil => simp [headNeg]
  | cons a l =>
    have := h a (by simp)
    simp only [List.cons_append, headNeg]
    by_cases ha : a < 0
    · simp [ha]
    · have hy : ¬ y < 0 := by omega
      simp [ha, hy]

theorem headNeg_ids (t : Int) (f : Nat → Bool) (k : Nat) : headNeg (idsTo t f k) = true ↔ ∃ i, i < k ∧ f i = true ∧ t - 8 + i < 0 := by
  induction k with
  | zero => simp [idsTo, headNeg]
  | succ k ih =>
    unfold idsTo
    split
    · rename_i hf
      rw [headNeg_append (fun x hx => (idsTo_lt t f k x hx).2), Bool.or_eq_true, ih, decide_eq_true_eq]
      constructor
      · rintro (⟨i, h1, h2, h3⟩ | h)
        · exact ⟨i, by omega, h2, h3⟩
        · exact ⟨k, by omega, hf, h⟩
      · rintro ⟨i, h1, h2, h3⟩
        by_cases hik : i = k
        · subst hik; exact .inr h3
        · exact .inl ⟨i, by omega, h2, h3⟩
    · rename_i hf
      rw [ih]
      constructor
      · rintro ⟨i, h1, h2, h3⟩; exact ⟨i, by omega, h2, h3⟩
      · rintro ⟨i, h1, h2, h3⟩
        have : i ≠ k := by rintro rfl; exact hf h2
        exact ⟨i, by omega, h2, h3⟩

theorem headNeg_winAll (t : Int) (f : Nat → Bool) : headNeg (idsTo t f 8) = !winAll t f := by
  cases h : winAll t f
  · have h' : ¬ ∀ k, k < 8 → f k = true → 8 ≤ t + k := fun hh => by rw [winAll_iff.2 hh] at h; cases h
    rw [Bool.not_false, headNeg_ids]
    apply Classical.byContradiction
    intro hn
    exact h' (fun k hk hf => by
      apply Classical.byContradiction
      intro hlt
      exact hn ⟨k, hk, hf, by omega⟩)
  · have h' := winAll_iff.1 h
    rw [Bool.not_true, ← Bool.not_eq_true, headNeg_ids]
    rintro ⟨i, h1, h2, h3⟩
    have := h' i h1 h2
    omega

theorem getD_set (bs : List Bool) (k i : Nat) : (bs.set k true).getD i false = if i = k ∧ k < bs.length then true else bs.getD i false := by
  simp only [List.getD_eq_getElem?_getD, List.getElem?_set]
  by_cases h : k = i
  · subst h
    by_cases h2 : k < bs.length <;> simp [h2]
  · have h3 : ¬ i = k := fun e => h e.symm
    simp [h, h3]

theorem bits_ids (t : Int) (f : Nat → Bool) (k : Nat) (hk : k ≤ 8) (i : Nat) : (bitsTo t (idsTo t f k)).getD i false = (decide (i < k) && f i) := by
  induction k with
  | zero =>
    simp only [idsTo, bitsTo, List.foldl_nil, Nat.not_lt_zero, decide_false, Bool.false_and]
    match i with
    | 0 | 1 | 2 | 3 | 4 | 5 | 6 | 7 => rfl
    | n + 8 => rfl
  | succ k ih =>
    have ih := ih (by omega)
    unfold idsTo
    split
    · rename_i hf
      rw [bitsTo_snoc]
      unfold setBit
      rw [if_pos (by omega), show (t - 8 + (k : Int) - t + 8).toNat = k by omega, getD_set, ih, bitsTo_len]
      by_cases h : i = k
      · subst h
        have h8 : i < 8 := by omega
        simp [hf, h8]
      · have h2 : (i < k + 1) ↔ i < k := by omega
        simp [h, h2]
    · rename_i hf
      rw [ih]
      by_cases h : i = k
      · subst h
        simp [hf]
      · have h2 : (i < k + 1) ↔ i < k := by omega
        simp [h2]

theorem winOn_ids (x : Win) : winOn x.top (bitsTo x.top (idsTo x.top x.at 8)) = x := by
  obtain ⟨t, b0, b1, b2, b3, b4, b5, b6, b7⟩ := x
  unfold winOn
  simp only [bits_ids _ _ 8 (Nat.le_refl _)]
  simp [Win.at, Win.seen]

theorem ids_nil {t : Int} {f : Nat → Bool} : ∀ {k : Nat}, idsTo t f k = [] → ∀ i, i < k → f i = false
  | 0, _, i, hi => by omega
  | k + 1, h, i, hi => by
    unfold idsTo at h
    split at h
    · simp at h
    · rename_i hf
      by_cases hik : i = k
      · subst hik; simpa using hf
      · exact ids_nil h i (by omega)

theorem winFaultRef_eq (x : Win) : winFaultRef x = winFault x := by
  have hx := winOn_ids x
  by_cases h : 0 ≤ x.top ∧ x.top ≤ 1073741825
  · unfold winFaultRef winFault
    simp only [h, and_self, not_true_eq_false, if_false, decide_true, Bool.true_and]
    rw [headNeg_winAll]
    cases hw : winAll x.top x.at
    · simp
    · simp only [Bool.not_true, Bool.false_eq_true, if_false, Bool.true_and]
      have hall := winAll_iff.1 hw
      have h7 : x.at 7 = x.b7 := rfl
      cases hb : x.b7
      · have h8 : idsTo x.top x.at 8 = idsTo x.top x.at 7 := by
          show (if x.at 7 = true then _ else _) = _
          rw [h7, hb]
          rfl
        cases hi : idsTo x.top x.at 7 with
        | nil =>
          have hf := ids_nil hi
          rw [h8, hi]
          by_cases ht : 0 < x.top
          · rw [if_neg (fun e => by rw [e] at ht; simp [winOf] at ht)]
            simp [ht]
          · have ht0 : x.top = 0 := by omega
            have e : x = winOf [] := by
              obtain ⟨t, b0, b1, b2, b3, b4, b5, b6, b7⟩ := x
              have g0 := hf 0 (by omega)
              have g1 := hf 1 (by omega)
              have g2 := hf 2 (by omega)
              have g3 := hf 3 (by omega)
              have g4 := hf 4 (by omega)
              have g5 := hf 5 (by omega)
              have g6 := hf 6 (by omega)
              simp only [Win.at, Win.seen, List.getD_cons_zero, List.getD_cons_succ] at g0 g1 g2 g3 g4 g5 g6
              simp only at ht0 hb
              subst g0; subst g1; subst g2; subst g3; subst g4; subst g5; subst g6; subst ht0; subst hb
              rfl
            rw [if_pos e]
            simp [ht]
        | cons a l =>
          have hlast : (a :: l).getLastD 0 ∈ a :: l := by
            rw [List.getLastD_eq_getLast?, List.getLast?_eq_some_getLast (by simp)]
            exact List.getLast_mem _
          have hlt := idsTo_lt x.top x.at 7 _ (by rw [hi]; exact hlast)
          rw [h8, hi]
          have ne : x ≠ winOf (a :: l) := by
            intro e
            have e2 := congrArg Win.top e
            simp only [winOf, List.cons_ne_nil, if_false, winOn] at e2
            omega
          rw [if_neg ne]
          by_cases ht : 0 < x.top
          · simp [ht]
          · exfalso
            obtain ⟨i, h1, h2⟩ : ∃ i, i < 7 ∧ x.at i = true := by
              apply Classical.byContradiction
              intro hn
              have hz : ∀ k, k ≤ 7 → idsTo x.top x.at k = [] := by
                intro k
                induction k with
                | zero => intro _; rfl
                | succ k ih =>
                  intro hk
                  unfold idsTo
                  rw [if_neg (fun hh => hn ⟨k, by omega, hh⟩)]
                  exact ih (by omega)
              rw [hz 7 (Nat.le_refl _)] at hi
              cases hi
            have := hall i (by omega) h2
            omega
      · have h8 : idsTo x.top x.at 8 = idsTo x.top x.at 7 ++ [x.top - 1] := by
          show (if x.at 7 = true then _ else _) = _
          rw [h7, hb, if_pos rfl, show x.top - 8 + ((7 : Nat) : Int) = x.top - 1 by omega]
        have e : x = winOf (idsTo x.top x.at 8) := by
          unfold winOf
          rw [if_neg (by rw [h8]; simp)]
          have hl : (idsTo x.top x.at 8).getLastD 0 + 1 = x.top := by
            rw [h8]
            simp
          rw [hl]
          exact hx.symm
        rw [if_pos e]
        simp
  · unfold winFaultRef winFault
    simp only [h, not_false_eq_true, if_true]
    have : (decide (0 ≤ x.top) && decide (x.top ≤ 1073741825)) = false := by
      rw [Bool.eq_false_iff]
      intro hh
      simp at hh
      exact h hh
    simp [this]
end Go.Proofs.Ytkjlafpafmihaaa
