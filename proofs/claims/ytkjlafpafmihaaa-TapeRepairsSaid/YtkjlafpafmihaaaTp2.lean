/- Decoding and then encoding gives the same bytes; a frame's bytes and its sum. Plain law. -/
import Derived.Test.YtkjlafpafmihaaaTRead
import Derived.Test.YtkjlafpafmihaaaEncode
namespace Go.Proofs.Ytkjlafpafmihaaa
open Go.ChangeShapes Go.WideShapes Go.RowKit

theorem u8_ofInt {a : UInt8} {n : Int} (h : n = a.toNat) : UInt8.ofNat n.toNat = a := by
  subst h
  simp
theorem be4_parts {a b c d : UInt8} {n : Int} (h : n = 16777216 * (a.toNat : Int) + 65536 * (b.toNat : Int) + 256 * (c.toNat : Int) + (d.toNat : Int)) : be4 n = [a, b, c, d] := by
  have := u8_in a; have := u8_in b; have := u8_in c; have := u8_in d
  unfold be4
  rw [u8_ofInt (a := a) (by omega), u8_ofInt (a := b) (by omega), u8_ofInt (a := c) (by omega), u8_ofInt (a := d) (by omega)]
theorem num_tk {q : List UInt8} (h : (takeM q).2 = 0) : (numberM (takeM q).1).1 = q.take 4 := by
  match q, h with
  | a :: b :: c :: d :: r, h =>
    have h1 : ¬ 127 < a.toNat := fun h1 => by simp [takeM, h1] at h
    have := u8_in a; have := u8_in b; have := u8_in c; have := u8_in d
    simp only [takeM, if_neg h1]
    unfold numberM
    rw [if_pos (by omega)]
    exact be4_parts rfl
  | [], h => simp [takeM] at h
  | [_], h => simp [takeM] at h
  | [_, _], h => simp [takeM] at h
  | [_, _, _], h => simp [takeM] at h
theorem put_to {b : List UInt8} : ∀ {k : Nat}, (∀ j, j < k → (tk b j).2 = 0) → putM ((List.range k).map fun j => (tk b j).1) = b.take (4 * k)
  | 0, _ => by simp [putM]
  | k + 1, h => by
    rw [List.range_succ, List.map_append, putM_append, put_to (fun j hj => h j (by omega)), Nat.mul_succ, List.take_add]
    congr 1
    have := num_tk (h k (by omega))
    simp only [putM, List.map_cons, List.map_nil, List.flatMap_cons, List.flatMap_nil, List.append_nil]
    exact this
theorem errTo_each {b : List UInt8} : ∀ {k : Nat}, errTo b k = 0 → ∀ j, j < k → (tk b j).2 = 0
  | 0, _, j, hj => absurd hj (by omega)
  | k + 1, h, j, hj => by
    unfold errTo at h
    by_cases h1 : errTo b k ≠ 0
    · rw [if_pos h1] at h; exact absurd h h1
    · rw [if_neg h1] at h
      rcases Nat.lt_succ_iff_lt_or_eq.1 hj with h2 | h2
      · exact errTo_each (by simpa using h1) j h2
      · rw [h2]; exact h
/-- What decodes well is encoded to the same bytes. -/
theorem enc_dec {b : List UInt8} (h : (decM b).2 = 0) : encM (decM b).1 = (b, 0) := by
  unfold decM at h ⊢
  by_cases h1 : errTo b (manyOf b) ≠ 0
  · rw [if_pos h1] at h; exact absurd h h1
  · rw [if_neg h1] at h ⊢
    by_cases h2 : b.length ≠ 4 * manyOf b ∨ recFault (rcdTo b (manyOf b)) ≠ 0
    · rw [if_pos h2] at h; simp at h
    · rw [if_neg h2]
      rw [not_or] at h2
      obtain ⟨h3, h4⟩ := h2
      have h5 := errTo_each (by simpa using h1 : errTo b (manyOf b) = 0)
      have h6 := put_to h5
      rw [← show b.length = 4 * manyOf b by simpa using h3, List.take_length] at h6
      unfold encM
      rw [if_neg h4]
      congr 1
      refine Eq.trans ?_ h6
      have hk : (rcdTo b (manyOf b)).kind = (tk b 0).1 := by
        show (if 0 < manyOf b then (tk b 0).1 else 0) = _
        rw [if_pos]
        unfold manyOf
        split <;> omega
      unfold recNums
      rw [hk]
      by_cases h7 : hasEv (tk b 0).1 = true
      · rw [show manyOf b = 10 from if_pos h7, if_pos h7]
        rfl
      · rw [show manyOf b = 4 from if_neg h7, if_neg h7]
        rfl
theorem numB_four {a b c d : UInt8} : numB [a, b, c, d] = 16777216 * (a.toNat : Int) + 65536 * (b.toNat : Int) + 256 * (c.toNat : Int) + (d.toNat : Int) := by
  simp [numB]
  omega
theorem numB_be4 {q : List UInt8} {s : Int} (hq : q.length = 4) (h0 : 0 ≤ s) (h1 : s ≤ 4294967295) : numB q = s ↔ be4 s = q := by
  match q, hq with
  | [a, b, c, d], _ =>
    constructor
    · intro h
      rw [numB_four] at h
      exact be4_parts h.symm
    · intro h
      have ha := u8_in a; have hb := u8_in b; have hc := u8_in c; have hd := u8_in d
      unfold be4 at h
      simp only [List.cons.injEq, and_true] at h
      obtain ⟨e1, e2, e3, e4⟩ := h
      subst e1; subst e2; subst e3; subst e4
      rw [numB_four]
      simp only [UInt8.toNat_ofNat']
      omega
section
variable {b : List UInt8}
theorem headed_pay (h : ¬ b.length < 2) (h1 : ¬ b.length < payN b + 6) : headed ((b.drop 2).take (payN b)) = b.take (2 + payN b) := by
  match b, h, h1 with
  | x :: y :: r, _, h1 =>
    have e : payN (x :: y :: r) = x.toNat * 256 + y.toNat := rfl
    have hx := x.toNat_lt; have hy := y.toNat_lt
    have hl : ((List.drop 2 (x :: y :: r)).take (payN (x :: y :: r))).length = payN (x :: y :: r) := by
      rw [List.length_take, List.length_drop]
      omega
    unfold headed
    rw [hl, show UInt8.ofNat (payN (x :: y :: r) / 256) = x by rw [e, show (x.toNat * 256 + y.toNat) / 256 = x.toNat by omega]; simp,
      show UInt8.ofNat (payN (x :: y :: r) % 256) = y by rw [e, show (x.toNat * 256 + y.toNat) % 256 = y.toNat by omega]; simp]
    rw [Nat.add_comm 2]
    rfl
  | [], h, _ => simp at h
  | [_], h, _ => simp at h
theorem frame_iff (h : ¬ b.length < 2) (h1 : ¬ b.length < payN b + 6) : numB ((b.drop (2 + payN b)).take 4) = sumM (b.take (2 + payN b)) ↔ frameM ((b.drop 2).take (payN b)) = b.take (payN b + 6) := by
  unfold frameM
  rw [headed_pay h h1, show payN b + 6 = (2 + payN b) + 4 by omega, List.take_add (i := 2 + payN b) (j := 4), List.append_cancel_left_eq]
  obtain ⟨s0, s1⟩ := sumM_range (b.take (2 + payN b))
  exact numB_be4 (by rw [List.length_take, List.length_drop]; omega) s0 (by omega)
theorem firstM_bad (h : ¬ b.length < 2) (h1 : ¬ b.length < payN b + 6) (h3 : (decM ((b.drop 2).take (payN b))).2 ≠ 0) : firstM b = noRcd := by
  unfold firstM
  rw [if_neg h, if_neg h1, if_pos h3]
  split <;> rfl
theorem firstM_frame (h : ¬ b.length < 2) (h1 : ¬ b.length < payN b + 6) (h3 : (decM ((b.drop 2).take (payN b))).2 = 0) (hf : frameM ((b.drop 2).take (payN b)) = b.take (payN b + 6)) : firstM b = ((decM ((b.drop 2).take (payN b))).1, payN b + 6) :=
  firstM_ok h h1 ((frame_iff h h1).2 hf) h3
theorem firstM_torn (h : ¬ b.length < 2) (h1 : ¬ b.length < payN b + 6) (hf : ¬ frameM ((b.drop 2).take (payN b)) = b.take (payN b + 6)) : firstM b = noRcd :=
  firstM_sum h h1 fun e => hf ((frame_iff h h1).1 e)
end
end Go.Proofs.Ytkjlafpafmihaaa
