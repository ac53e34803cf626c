/- 'v<<8 | x' on ints that are not negative is a sum. No program in sight. -/
import Derived.Test.YtkjlafpafmihaaaMem
import Derived.Laws.BitsAllLaws
namespace Go.Proofs.Ytkjlafpafmihaaa

theorem i64_or_nat (a b : Nat) (ha : a < 4611686018427387904) (hb : b < 4611686018427387904) : bits .or .i64 (a : Int) (b : Int) = ((a ||| b : Nat) : Int) := by
  have hx : a ||| b < 2 ^ 62 := Nat.or_lt_two_pow (by omega) (by omega)
  show IntKind.i64.wrap ((BitVec.ofInt 64 (a : Int) ||| BitVec.ofInt 64 (b : Int)).toNat : Int) = _
  rw [BitVec.toNat_or, ofInt_u64 a (by omega), ofInt_u64 b (by omega), IntKind.wrap_i64]
  omega

theorem or_pow (v x i : Nat) (hx : x < 2 ^ i) : (v * 2 ^ i) ||| x = v * 2 ^ i + x := by
  rw [← Nat.shiftLeft_eq, Nat.shiftLeft_add_eq_or_of_lt hx]

theorem or8 (v x : Int) (h0 : 0 ≤ v) (h1 : v ≤ 1099511627776) (h2 : 0 ≤ x) (h3 : x ≤ 255) : bits .or .i64 (v * 256) x = v * 256 + x := by
  obtain ⟨a, rfl⟩ := Int.eq_ofNat_of_zero_le h0
  obtain ⟨b, rfl⟩ := Int.eq_ofNat_of_zero_le h2
  have e : ((a : Int) * 256) = ((a * 256 : Nat) : Int) := by omega
  have h := or_pow a b 8 (by omega)
  rw [e, i64_or_nat _ _ (by omega) (by omega)]
  simp only [Nat.reducePow] at h
  rw [h]
  omega

theorem or16 (v x : Int) (h0 : 0 ≤ v) (h1 : v ≤ 1099511627776) (h2 : 0 ≤ x) (h3 : x ≤ 65535) : bits .or .i64 (v * 65536) x = v * 65536 + x := by
  obtain ⟨a, rfl⟩ := Int.eq_ofNat_of_zero_le h0
  obtain ⟨b, rfl⟩ := Int.eq_ofNat_of_zero_le h2
  have e : ((a : Int) * 65536) = ((a * 65536 : Nat) : Int) := by omega
  have h := or_pow a b 16 (by omega)
  rw [e, i64_or_nat _ _ (by omega) (by omega)]
  simp only [Nat.reducePow] at h
  rw [h]
  omega

theorem or8z (x : Int) (h2 : 0 ≤ x) (h3 : x ≤ 255) : bits .or .i64 0 x = x := by
  have := or8 0 x (by omega) (by omega) h2 h3
  simpa using this
end Go.Proofs.Ytkjlafpafmihaaa
