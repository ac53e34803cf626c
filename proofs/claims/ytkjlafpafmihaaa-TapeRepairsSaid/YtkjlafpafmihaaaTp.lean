/- The tape's records as plain data: what lies at the head of bytes, all records. No program in sight but for the records' words. -/
import Derived.Test.YtkjlafpafmihaaaRecOf2
import Derived.Test.YtkjlafpafmihaaaSums
import Derived.Test.YtkjlafpafmihaaaFrm
import Derived.Test.YtkjlafpafmihaaaTapeB
namespace Go.Proofs.Ytkjlafpafmihaaa
open Go.ChangeShapes Go.WideShapes Go.RowKit

def numB (l : List UInt8) : Int := l.foldl (fun s c => s * 256 + (c.toNat : Int)) 0
theorem numB_snoc (l : List UInt8) (c : UInt8) : numB (l ++ [c]) = numB l * 256 + c.toNat := by simp [numB]
theorem numB_bd : ∀ (l : List UInt8), l.length ≤ 4 → 0 ≤ numB l ∧ numB l ≤ 4294967295
  | [], _ => by simp [numB]
  | [a], _ => by have := u8_in a; simp [numB]; omega
  | [a, b], _ => by have := u8_in a; have := u8_in b; simp [numB]; omega
  | [a, b, c], _ => by have := u8_in a; have := u8_in b; have := u8_in c; simp [numB]; omega
  | [a, b, c, d], _ => by have := u8_in a; have := u8_in b; have := u8_in c; have := u8_in d; simp [numB]; omega
  | _ :: _ :: _ :: _ :: _ :: _, h => by simp at h
def noRcd : Rcd × Nat := (zeroRcd, 0)
/-- How long the payload is that bytes begin with. -/
def payN (b : List UInt8) : Nat := match b with
  | x :: y :: _ => x.toNat * 256 + y.toNat
  | _ => 0
/-- The record that bytes begin with, and its frame's length. -/
def firstM (b : List UInt8) : Rcd × Nat :=
  if b.length < 2 then noRcd else if b.length < payN b + 6 then noRcd else if numB ((b.drop (2 + payN b)).take 4) ≠ sumM (b.take (2 + payN b)) then noRcd
  else if (decM ((b.drop 2).take (payN b))).2 ≠ 0 then noRcd else ((decM ((b.drop 2).take (payN b))).1, payN b + 6)
section
variable {b : List UInt8}
theorem firstM_short (h : b.length < 2) : firstM b = noRcd := if_pos h
theorem firstM_cut (h : ¬ b.length < 2) (h1 : b.length < payN b + 6) : firstM b = noRcd := by unfold firstM; rw [if_neg h, if_pos h1]
theorem firstM_sum (h : ¬ b.length < 2) (h1 : ¬ b.length < payN b + 6) (h2 : numB ((b.drop (2 + payN b)).take 4) ≠ sumM (b.take (2 + payN b))) : firstM b = noRcd := by unfold firstM; rw [if_neg h, if_neg h1, if_pos h2]
theorem firstM_dec (h : ¬ b.length < 2) (h1 : ¬ b.length < payN b + 6) (h2 : numB ((b.drop (2 + payN b)).take 4) = sumM (b.take (2 + payN b))) (h3 : (decM ((b.drop 2).take (payN b))).2 ≠ 0) : firstM b = noRcd := by
  unfold firstM; rw [if_neg h, if_neg h1, if_neg (by simpa using h2), if_pos h3]
theorem firstM_ok (h : ¬ b.length < 2) (h1 : ¬ b.length < payN b + 6) (h2 : numB ((b.drop (2 + payN b)).take 4) = sumM (b.take (2 + payN b))) (h3 : (decM ((b.drop 2).take (payN b))).2 = 0) : firstM b = ((decM ((b.drop 2).take (payN b))).1, payN b + 6) := by
  unfold firstM; rw [if_neg h, if_neg h1, if_neg (by simpa using h2), if_neg (by simpa using h3)]
theorem firstM_le : (firstM b).2 ≤ b.length := by
  unfold firstM noRcd
  split
  · exact Nat.zero_le _
  · split
    · exact Nat.zero_le _
    · split
      · exact Nat.zero_le _
      · split
        · exact Nat.zero_le _
        · simp; omega
theorem pay_at {x y : UInt8} (hx : b[0]? = some x) (hy : b[1]? = some y) : payN b = x.toNat * 256 + y.toNat := by
  match b, hx, hy with
  | x' :: y' :: r, hx, hy =>
    simp at hx hy
    subst hx
    subst hy
    rfl
  | [_], _, hy => simp at hy
end
def readsN : Nat → List UInt8 → List Rcd × Nat
  | 0, _ => ([], 0)
  | f + 1, b => if (firstM b).2 = 0 then ([], 0) else ((firstM b).1 :: (readsN f (b.drop (firstM b).2)).1, (firstM b).2 + (readsN f (b.drop (firstM b).2)).2)
theorem readsN_more : ∀ (f g : Nat) (b : List UInt8), b.length < f → b.length < g → readsN f b = readsN g b
  | 0, _, b, h, _ => absurd h (by omega)
  | _, 0, b, _, h => absurd h (by omega)
  | f + 1, g + 1, b, hf, hg => by
    unfold readsN
    by_cases h : (firstM b).2 = 0
    · rw [if_pos h, if_pos h]
    · rw [if_neg h, if_neg h, readsN_more f g _ (by rw [List.length_drop]; have := @firstM_le b; omega) (by rw [List.length_drop]; have := @firstM_le b; omega)]
/-- P2.6: all records, and how many bytes they have. -/
def readsM (b : List UInt8) : List Rcd × Nat := readsN (b.length + 1) b
theorem readsM_stop {b : List UInt8} (h : (firstM b).2 = 0) : readsM b = ([], 0) := by unfold readsM readsN; rw [if_pos h]
theorem readsM_go {b : List UInt8} (h : ¬ (firstM b).2 = 0) : readsM b = ((firstM b).1 :: (readsM (b.drop (firstM b).2)).1, (firstM b).2 + (readsM (b.drop (firstM b).2)).2) := by
  unfold readsM
  rw [readsN, if_neg h, readsN_more b.length ((b.drop (firstM b).2).length + 1) _ (by rw [List.length_drop]; have := @firstM_le b; omega) (by omega)]
theorem readsM_le : ∀ (f : Nat) (b : List UInt8), (readsN f b).2 ≤ b.length ∧ (readsN f b).1.length ≤ b.length
  | 0, b => by simp [readsN]
  | f + 1, b => by
    unfold readsN
    split
    · simp
    · rename_i h
      have h1 := readsM_le f (b.drop (firstM b).2)
      rw [List.length_drop] at h1
      have h2 := @firstM_le b
      simp
      omega
def readM (l : List UInt8) (s : Int) : List Rcd × Nat × Int := if tapeMay l s = true then ((readsM l).1, (readsM l).2, 0) else ([], 0, 6)
def Rcd.cells (r : Rcd) : List Value := [.int .i64 r.kind, .int .i64 r.queue, .int .i64 r.epoch, .int .i64 r.peer, .int .i64 r.ev.kind, .int .i64 r.ev.producer, .int .i64 r.ev.id, .int .i64 r.ev.body, .int .i64 r.ev.hepoch, .int .i64 r.ev.hno]
theorem rcds_one (l : List Rcd) : ∀ u ∈ l.flatMap Rcd.cells, u.oneCell' = true := by
  intro u hu
  rw [List.mem_flatMap] at hu
  obtain ⟨r, _, h⟩ := hu
  exact oneAll (cs := r.cells) rfl u h
def ReadPost (w : World) (r : List Rcd × Nat × Int) (e : Ending) (w' : World) : Prop :=
  ∃ A c, e = .returned (.tuple #[.slice A r.1.length c, .int .i64 (r.2.1 : Int), .int .i64 r.2.2]) ∧ St w.heap.size w w' [.own 51 10 (.slice A r.1.length c) r.1.length (r.1.flatMap Rcd.cells)]
end Go.Proofs.Ytkjlafpafmihaaa
