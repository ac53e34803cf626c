/- Contracts: tape.Sync, tape.Crash, ref.TapeMay, ref.Octets, ref.TapeSynced, ref.TapeCrashed, berthshiftlaw.sameTape. -/
import Derived.Test.YtkjlafpafmihaaaTape
namespace Go.Proofs.Ytkjlafpafmihaaa
open Go.ChangeShapes Go.WideShapes Go.RowKit

/-- A tape and an error number, the tape's bytes in memory. -/
def TapePost (w : World) (r : List UInt8 × Int × Int) (e : Ending) (w' : World) : Prop :=
  ∃ A c, e = .returned (.tuple #[.agg #[.slice A r.1.length c, .int .i64 r.2.1], .int .i64 r.2.2]) ∧ Below w.heap.size w w' ∧ Rd w' w'.heap.size 1 A r.1.length (byteCells r.1)

def syncM (l : List UInt8) (s : Int) : List UInt8 × Int × Int := if tapeMay l s = true then (l, l.length, 0) else ([], 0, 6)
theorem openM_eq (l : List UInt8) (s : Int) : (openM l s = (l, s, true) ∧ tapeMay l s = true) ∨ (openM l s = ([], 0, false) ∧ tapeMay l s = false) := by
  unfold openM
  cases h : tapeMay l s <;> simp
theorem tapeMay_of {l : List UInt8} {s : Int} (h : tapeMay l s = true) : l.length ≤ 100000 ∧ 0 ≤ s ∧ s ≤ l.length := by
  simp [tapeMay] at h
  omega

/-- P2.5. -/
def crashM (l : List UInt8) (s keep : Int) : List UInt8 × Int × Int :=
  if tapeMay l s = true then if keep < 0 then ([], 0, 2) else if (l.length : Int) - s < keep then (l, l.length, 0) else (l.take (s + keep).toNat, s + keep, 0) else ([], 0, 6)

theorem Rd.take {w : World} {B size n : Nat} {A : Option Addr} {xs : List Value} (h : Rd w B size A n xs) {m : Nat} (hm : m ≤ n) : Rd w B size A m (xs.take (m * size)) := by
  refine ⟨?_, fun h0 => ?_⟩
  · rw [List.length_take, h.1]
    exact Nat.min_eq_left (Nat.mul_le_mul_right _ hm)
  · obtain ⟨b, off, e, hb, hc⟩ := h.2 (by omega)
    refine ⟨b, off, e, hb, fun j u hu => hc j u ?_⟩
    rw [List.getElem?_take] at hu
    split at hu
    · exact hu
    · cases hu
theorem byteCells_take (l : List UInt8) (m : Nat) : (byteCells l).take m = byteCells (l.take m) := by simp [byteCells, List.map_take]

end Go.Proofs.Ytkjlafpafmihaaa
