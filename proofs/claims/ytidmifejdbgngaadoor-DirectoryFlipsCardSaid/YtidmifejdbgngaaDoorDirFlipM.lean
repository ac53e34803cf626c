/- Contract of the flip, as data. -/
import Derived.Test.YtidmifejdbgngaaDoorDirAsk
namespace Go.Proofs.YtidmifejdbgngaaDoor
open Go.ChangeShapes Go.WideShapes Go.RowKit

theorem whereM_zero {d : Dir} {q : Int} (h : (whereM d q).2 = 0) : 0 ≤ q ∧ q ≤ 3 ∧ (whereM d q).1 = d.at q.toNat ∧ (whereM d q).1 ≠ nowhere ∧ plOk (whereM d q).1 := by
  by_cases hf : dirFault d = 0
  · by_cases hq : q < 0 ∨ 3 < q
    · rw [whereM_range hf hq] at h
      cases h
    · by_cases hn : d.at q.toNat = nowhere
      · rw [whereM_none hf hq hn] at h
        cases h
      · rw [whereM_some hf hq hn]
        exact ⟨by omega, by omega, rfl, hn, dirFault_zero hf _ (by omega)⟩
  · rw [whereM_fault hf] at h
    exact absurd h hf

/-- P6.5. -/
noncomputable def flipM (d : Dir) (q epoch node : Int) : Dir × Int :=
  if (whereM d q).2 ≠ 0 then (zeroDir, (whereM d q).2) else if node < 0 ∨ 4 < node then (zeroDir, 2) else if (whereM d q).1.epoch ≠ epoch then (zeroDir, 15)
  else if (whereM d q).1.node = node then (zeroDir, 8) else if epoch = 1048576 then (zeroDir, 14) else (d.set q.toNat ⟨node, epoch + 1⟩, 0)
end Go.Proofs.YtidmifejdbgngaaDoor
