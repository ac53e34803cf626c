/- The making, as data. -/
import Derived.Test.YtefkifgonadiiabDoorDirAsk
namespace Go.Proofs.YtefkifgonadiiabDoor
open Go.ChangeShapes Go.WideShapes Go.RowKit

theorem askM_zero {d : Dir} {q : Int} (h : (askM d q).2 = 0) : 0 ≤ q ∧ q ≤ 3 := by
  by_cases hf : dirFault d = 0
  · by_cases hq : q < 0 ∨ 3 < q
    · rw [askM_range hf hq] at h
      cases h
    · exact ⟨by omega, by omega⟩
  · rw [askM_fault hf] at h
    exact absurd h hf
theorem askM_codes (d : Dir) (q : Int) : (askM d q).2 = 0 ∨ (askM d q).2 = 6 ∨ (askM d q).2 = 2 := by
  by_cases hf : dirFault d = 0
  · by_cases hq : q < 0 ∨ 3 < q
    · rw [askM_range hf hq]
      exact .inr (.inr rfl)
    · rw [askM_in hf hq]
      exact .inl rfl
  · rw [askM_fault hf]
    refine .inr (.inl ?_)
    unfold dirFault at hf ⊢
    split
    · rename_i h
      rw [if_pos h] at hf
      exact absurd rfl hf
    · rfl
/-- P6.4. -/
noncomputable def makeM (d : Dir) (q node : Int) : Dir × Int :=
  if (askM d q).2 ≠ 0 then (zeroDir, (askM d q).2) else if node < 0 ∨ 4 < node then (zeroDir, 2) else if (askM d q).1 ≠ nowhere then (zeroDir, 8) else (d.set q.toNat ⟨node, 1⟩, 0)
/-- As the reference asks it. -/
theorem makeM_ref (d : Dir) (q node : Int) : makeM d q node = if (whereM d q).2 ≠ 0 ∧ (whereM d q).2 ≠ 7 then (zeroDir, (whereM d q).2) else if node < 0 ∨ 4 < node then (zeroDir, 2) else if (whereM d q).2 = 0 then (zeroDir, 8) else (d.set q.toNat ⟨node, 1⟩, 0) := by
  have hc := askM_codes d q
  unfold makeM whereM
  generalize askM d q = a at *
  obtain ⟨p, z⟩ := a
  simp only at hc ⊢
  by_cases hz : z = 0
  · subst hz
    by_cases hp : p = nowhere
    · simp [hp]
    · simp [hp]
  · have h7 : z ≠ 7 := by omega
    simp [hz, h7]
theorem whereM_seven {d : Dir} {q : Int} (h : (whereM d q).2 = 7 ∨ (whereM d q).2 = 0) : 0 ≤ q ∧ q ≤ 3 := by
  have hc := askM_codes d q
  have hz := askM_zero (d := d) (q := q)
  unfold whereM at h
  split at h
  · rename_i hh
    exact hz hh.1
  · refine hz ?_
    omega
end Go.Proofs.YtefkifgonadiiabDoor
