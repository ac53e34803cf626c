/- Contracts: tape.Sum, ref.Summed, for bytes that are not too many. -/
import Derived.Test.YtkjlafpafmihaaaNum
import Derived.Test.YtkjlafpafmihaaaBits
namespace Go.Proofs.Ytkjlafpafmihaaa
open Go.ChangeShapes Go.WideShapes Go.RowKit

/-- Both sums, whole. -/
def sAB (l : List UInt8) : Int × Int := l.foldl (fun s c => (s.1 + c.toNat, s.2 + (s.1 + c.toNat))) (1, 0)
theorem sAB_snoc (l : List UInt8) (x : UInt8) : sAB (l ++ [x]) = ((sAB l).1 + x.toNat, (sAB l).2 + ((sAB l).1 + x.toNat)) := by simp [sAB]
theorem sAB_take {l : List UInt8} {k : Nat} {x : UInt8} (h : l[k]? = some x) : sAB (l.take (k + 1)) = ((sAB (l.take k)).1 + x.toNat, (sAB (l.take k)).2 + ((sAB (l.take k)).1 + x.toNat)) := by
  rw [← sAB_snoc, List.take_add_one, h]
  rfl
theorem sAB_bounds (l : List UInt8) (hl : l.length ≤ 1048576) (k : Nat) (hk : k ≤ l.length) : 1 ≤ (sAB (l.take k)).1 ∧ (sAB (l.take k)).1 ≤ 1 + 255 * k ∧ 0 ≤ (sAB (l.take k)).2 ∧ (sAB (l.take k)).2 ≤ 267386881 * k := by
  induction k with
  | zero => simp [sAB]
  | succ k ih =>
    have ih := ih (by omega)
    have hx : l[k]? = some l[k] := List.getElem?_eq_getElem (by omega)
    have h255 : (l[k]).toNat ≤ 255 := by have := (l[k]).toNat_lt; omega
    rw [sAB_take hx]
    generalize sAB (l.take k) = s at ih
    generalize (l[k]).toNat = v at h255
    obtain ⟨h1, h2, h3, h4⟩ := ih
    refine ⟨?_, ?_, ?_, ?_⟩ <;> simp only <;> omega

/-- P2.2. -/
def sumM (l : List UInt8) : Int := (sAB l).2 % 65521 * 65536 + (sAB l).1 % 65521

theorem Rd.byteAt {w : World} {B n k : Nat} {A : Option Addr} {l : List UInt8} (h : Rd w B 1 A n (byteCells l)) (hk : k < n) : ∃ b off x, A = some ⟨b, off, none⟩ ∧ b < B ∧ l[k]? = some x ∧ w.cell? ⟨b, off + k, none⟩ = some (.int .u8 x.toNat) := by
  obtain ⟨b, off, u, e, hb, hx, hc⟩ := h.at_ hk
  simp only [byteCells, List.getElem?_map, Option.map_eq_some_iff] at hx
  obtain ⟨x, hx, rfl⟩ := hx
  exact ⟨b, off, x, e, hb, hx, hc⟩

set_option maxRecDepth 100000 in
set_option maxHeartbeats 2000000 in
theorem Summed_calls (A : Option Addr) (n c : Nat) (l : List UInt8) (w : World) {B : Nat} (h : Rd w B 1 A n (byteCells l)) (hn : n ≤ 1048576) :
    Calls Try.prog 173 #[.slice A n c] w fun e w' => e = .returned (.int .i64 (sumM l)) ∧ ∃ q, w' = w.drewN q := by
  have hl := h.bytes_len
  have H := Lib.hid h
  have HL := Lib.hid hl
  have HBD := Lib.hid (sAB_bounds l (by omega))
  have HZ0 : Hid (∀ z, z = sumM l → z = (sAB l).2 % 65521 * 65536 + (sAB l).1 % 65521) := Lib.hid (fun z h => h)
  generalize hz : sumM l = z
  have HZ := Lib.hid (HZ0.out z hz.symm)
  clear h hl hz HZ0
  go_enter Try.func173, Try.ntmps173
  go_wp2_with fail
  go_loopw [3, 4, 5] (fun a b i wr => ∃ k : Nat, k ≤ n ∧ i = .int .i64 k ∧ a = .int .i64 (sAB (l.take k)).1 ∧ b = .int .i64 (sAB (l.take k)).2 ∧ ∃ q, wr = w.drewN q) (fun _ _ i _ => n - (intOf i).toNat)
  case atStart => exact ⟨0, by omega, rfl, rfl, rfl, 0, rfl⟩
  case round =>
    obtain ⟨k, hk, rfl, rfl, rfl, q, rfl⟩ := hrel
    obtain ⟨b1, b2, b3, b4⟩ := HBD.out k (by have := HL.out; omega)
    by_cases hlt : k < n
    · obtain ⟨b, off, x, rfl, hb, hx, hc⟩ := H.out.byteAt hlt
      have hx255 : x.toNat ≤ 255 := by have := x.toNat_lt; omega
      have HE := Lib.hid (sAB_take hx)
      clear hx
      generalize sAB (l.take k) = s at HE b1 b2 b3 b4 ⊢
      obtain ⟨s1, s2⟩ := s
      simp only at b1 b2 b3 b4 HE ⊢
      go_wp2_with fail
      go_roundw
      case rel => exact ⟨k + 1, by omega, by go_num, by rw [HE.out], by rw [HE.out], q, rfl⟩
      case measure => simp [intOf]; omega
    · obtain rfl : k = n := by omega
      have e1 : l.take k = l := List.take_of_length_le (by have := HL.out; omega)
      rw [e1] at b1 b2 b3 b4 ⊢
      clear e1 HBD
      generalize sAB l = s at HZ b1 b2 b3 b4 ⊢
      obtain ⟨s1, s2⟩ := s
      simp only at b1 b2 b3 b4 HZ ⊢
      have m1 : s1.tmod 65521 = s1 % 65521 := Int.tmod_eq_emod_of_nonneg (by omega)
      have m2 : s2.tmod 65521 = s2 % 65521 := Int.tmod_eq_emod_of_nonneg (by omega)
      have k1 : 0 ≤ s1 % 65521 ∧ s1 % 65521 < 65521 := by omega
      have k2 : 0 ≤ s2 % 65521 ∧ s2 % 65521 < 65521 := by omega
      go_wp2_with fail
      go_ret
      exact ⟨by rw [HZ.out]; rfl, q, rfl⟩

set_option maxRecDepth 100000 in
set_option maxHeartbeats 2000000 in
theorem Sum_calls (A : Option Addr) (n c : Nat) (l : List UInt8) (w : World) {B : Nat} (h : Rd w B 1 A n (byteCells l)) (hn : n ≤ 1048576) :
    Calls Try.prog 172 #[.slice A n c] w fun e w' => e = .returned (.int .i64 (sumM l)) ∧ ∃ q, w' = w.drewN q := by
  have hl := h.bytes_len
  have H := Lib.hid h
  have HL := Lib.hid hl
  have HBD := Lib.hid (sAB_bounds l (by omega))
  have HZ0 : Hid (∀ z, z = sumM l → z = (sAB l).2 % 65521 * 65536 + (sAB l).1 % 65521) := Lib.hid (fun z h => h)
  generalize hz : sumM l = z
  have HZ := Lib.hid (HZ0.out z hz.symm)
  clear h hl hz HZ0
  go_enter Try.func172, Try.ntmps172
  go_wp2_with fail
  go_loopw [3, 4, 9] (fun a b i wr => ∃ k : Nat, k ≤ n ∧ i = .int .i64 k ∧ a = .int .i64 ((sAB (l.take k)).1 % 65521) ∧ b = .int .i64 ((sAB (l.take k)).2 % 65521) ∧ ∃ q, wr = w.drewN q) (fun _ _ i _ => n - (intOf i).toNat)
  case atStart => exact ⟨0, by omega, rfl, rfl, rfl, 0, rfl⟩
  case round =>
    obtain ⟨k, hk, rfl, rfl, rfl, q, rfl⟩ := hrel
    obtain ⟨b1, b2, b3, b4⟩ := HBD.out k (by have := HL.out; omega)
    by_cases hlt : k < n
    · obtain ⟨b, off, x, rfl, hb, hx, hc⟩ := H.out.byteAt hlt
      have hx255 : x.toNat ≤ 255 := by have := x.toNat_lt; omega
      have HE := Lib.hid (sAB_take hx)
      clear hx
      generalize sAB (l.take k) = s at HE b1 b2 b3 b4 ⊢
      obtain ⟨s1, s2⟩ := s
      simp only at b1 b2 b3 b4 HE ⊢
      have k1 : 0 ≤ s1 % 65521 ∧ s1 % 65521 < 65521 := by omega
      have k2 : 0 ≤ s2 % 65521 ∧ s2 % 65521 < 65521 := by omega
      have HS1 : Hid ((s1 + (x.toNat : Int)) % 65521 = (s1 % 65521 + x.toNat) % 65521) := Lib.hid (by omega)
      have HS2 : Hid ((s2 + (s1 + (x.toNat : Int))) % 65521 = (s2 % 65521 + (s1 % 65521 + x.toNat) % 65521) % 65521) := Lib.hid (by omega)
      obtain ⟨k1a, k1b⟩ := k1
      obtain ⟨k2a, k2b⟩ := k2
      generalize s1 % 65521 = u1 at HS1 HS2 k1a k1b ⊢
      generalize s2 % 65521 = u2 at HS2 k2a k2b ⊢
      have m1 : (u1 + (x.toNat : Int)).tmod 65521 = (u1 + x.toNat) % 65521 := Int.tmod_eq_emod_of_nonneg (by omega)
      have k3 : 0 ≤ (u1 + (x.toNat : Int)) % 65521 ∧ (u1 + (x.toNat : Int)) % 65521 < 65521 := by omega
      obtain ⟨k3a, k3b⟩ := k3
      generalize (u1 + (x.toNat : Int)) % 65521 = u3 at m1 HS1 HS2 k3a k3b
      have m2 : (u2 + u3).tmod 65521 = (u2 + u3) % 65521 := Int.tmod_eq_emod_of_nonneg (by omega)
      go_wp2_with fail
      go_roundw
      case rel => exact ⟨k + 1, by omega, by go_num, by rw [HE.out, HS1.out], by rw [HE.out, HS2.out], q, rfl⟩
      case measure => simp [intOf]; omega
    · obtain rfl : k = n := by omega
      have e1 : l.take k = l := List.take_of_length_le (by have := HL.out; omega)
      rw [e1] at b1 b2 b3 b4 ⊢
      clear e1 HBD
      generalize sAB l = s at HZ b1 b2 b3 b4 ⊢
      obtain ⟨s1, s2⟩ := s
      simp only at b1 b2 b3 b4 HZ ⊢
      have k1 : 0 ≤ s1 % 65521 ∧ s1 % 65521 < 65521 := by omega
      have k2 : 0 ≤ s2 % 65521 ∧ s2 % 65521 < 65521 := by omega
      obtain ⟨k1a, k1b⟩ := k1
      obtain ⟨k2a, k2b⟩ := k2
      have ho := or16 (s2 % 65521) (s1 % 65521) k2a (by omega) k1a (by omega)
      have HO := Lib.hid ho
      clear b1 b2 b3 b4
      go_wp2_with fail
      go_ret
      exact ⟨by rw [HZ.out]; rfl, q, rfl⟩
end Go.Proofs.Ytkjlafpafmihaaa
