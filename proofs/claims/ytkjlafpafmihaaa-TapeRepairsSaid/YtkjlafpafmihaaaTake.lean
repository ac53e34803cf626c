/- Contracts: octets, pack.Take, ref.Taken. -/
import Derived.Test.YtkjlafpafmihaaaApp
import Derived.Test.YtkjlafpafmihaaaNum
import Derived.Test.YtkjlafpafmihaaaBits
namespace Go.Proofs.Ytkjlafpafmihaaa
open Go.RowKit

theorem u8_info : (Try.prog.info? 5).map (fun i => (i.zero, i.size, i.bytes)) = some (some (.int .u8 0), 1, 1) := by kernel_rfl

set_option maxHeartbeats 400000 in
theorem octets_calls (A : Option Addr) (n c : Nat) (l : List UInt8) (w : World) (h : Rd w w.heap.size 1 A n (byteCells l)) (hc : n ≤ reachBytes) :
    Calls Try.prog 49 #[.slice A n c] w (OwnPost w 5 1 n (byteCells l)) := by
  have hc' : n ≤ 140737488351232 := hc
  obtain ⟨i0, hi0, hz0, hz1, hz2⟩ := info_parts u8_info
  go_enter Try.func49, Try.ntmps49
  go_wp2_with (at_builtin; refine wpList_append_any _ rfl (.const (.slice none 0 0)) (.tmp 3) _ rfl w.heap.size 5 i0 _ 1 1 Try.underlying52 hi0 hz0 hz1 hz2 rfl (by omega) (.slice none 0 0) 0 [] rfl (ownsRow_nil_ _ _ _ _) w.heap.size A n c (byteCells l) rfl h (byteCells_one l) (by simp only [maxLen]; omega) (by omega) (Nat.le_refl _) ?_; intro v1 w1 hown1 hg1 hat1)
  go_ret
  obtain ⟨A1, c1, rfl, _⟩ := own_form hown1
  simp only [Nat.zero_add, List.nil_append] at hown1 ⊢
  exact ⟨A1, c1, rfl, (Below.refl _ _).grown hg1 (Nat.le_refl _) (by simp [Value.ownBlock]), hown1⟩

/-- P1.2. -/
def takeM : List UInt8 → Int × Int
  | a :: b :: c :: d :: _ => if 127 < a.toNat then (0, 2) else (16777216 * (a.toNat : Int) + 65536 * (b.toNat : Int) + 256 * (c.toNat : Int) + (d.toNat : Int), 0)
  | _ => (0, 4)

theorem takeM_short {l : List UInt8} (h : l.length < 4) : takeM l = (0, 4) := by
  match l, h with
  | [], _ => rfl
  | [_], _ => rfl
  | [_, _], _ => rfl
  | [_, _, _], _ => rfl

theorem four_of {l : List UInt8} (h : ¬ l.length < 4) : ∃ a b c d r, l = a :: b :: c :: d :: r := by
  match l, h with
  | a :: b :: c :: d :: r, _ => exact ⟨a, b, c, d, r, rfl⟩
  | [], h => simp at h
  | [_], h => simp at h
  | [_, _], h => simp at h
  | [_, _, _], h => simp at h

theorem u8_lt (a : UInt8) : 0 ≤ (a.toNat : Int) ∧ (a.toNat : Int) ≤ 255 := by
  have := a.toNat_lt
  omega

set_option maxHeartbeats 400000 in
theorem Take_calls (A : Option Addr) (n c : Nat) (l : List UInt8) (w : World) {B : Nat} (h : Rd w B 1 A n (byteCells l)) (hn : n ≤ c) :
    Calls Try.prog 170 #[.slice A n c] w fun e w' => e = .returned (.tuple #[.int .i64 (takeM l).1, .int .i64 (takeM l).2]) ∧ w = w' := by
  have hl := h.bytes_len
  by_cases h4 : l.length < 4
  · rw [takeM_short h4]
    have hn4 : n < 4 := by omega
    clear hl h4
    go_enter Try.func170, Try.ntmps170
    go_wp2
    go_ret2
    exact ⟨rfl, rfl⟩
  · have hn4 : 4 ≤ n := by omega
    have hc4 : 4 ≤ c := by omega
    obtain ⟨x0, x1, x2, x3, r, rfl⟩ := four_of h4
    obtain ⟨b, off, rfl, _, hcell⟩ := h.2 (by omega)
    have c0 := hcell 0 (.int .u8 x0.toNat) rfl
    have c1 := hcell 1 (.int .u8 x1.toNat) rfl
    have c2 := hcell 2 (.int .u8 x2.toNat) rfl
    have c3 := hcell 3 (.int .u8 x3.toNat) rfl
    rw [Nat.add_zero] at c0
    have b0 := u8_lt x0
    have b1 := u8_lt x1
    have b2 := u8_lt x2
    have b3 := u8_lt x3
    have q0 := or8z x0.toNat (by omega) (by omega)
    have q1 := or8 x0.toNat x1.toNat (by omega) (by omega) (by omega) (by omega)
    have q2 := or8 (x0.toNat * 256 + x1.toNat) x2.toNat (by omega) (by omega) (by omega) (by omega)
    have q3 := or8 ((x0.toNat * 256 + x1.toNat) * 256 + x2.toNat) x3.toNat (by omega) (by omega) (by omega) (by omega)
    have hm : takeM (x0 :: x1 :: x2 :: x3 :: r) = if 127 < x0.toNat then (0, 2) else (16777216 * (x0.toNat : Int) + 65536 * (x1.toNat : Int) + 256 * (x2.toNat : Int) + (x3.toNat : Int), 0) := rfl
    clear h hl h4 hcell
    by_cases hx : 127 < x0.toNat
    · rw [hm, if_pos hx]
      clear hm
      go_enter Try.func170, Try.ntmps170
      go_wp2
      go_rounds 5
      go_ret2
      exact ⟨rfl, rfl⟩
    · rw [hm, if_neg hx]
      clear hm
      go_enter Try.func170, Try.ntmps170
      go_wp2
      go_rounds 5
      go_ret2
      exact ⟨tup_int (by omega), rfl⟩

set_option maxHeartbeats 400000 in
theorem Taken_calls (A : Option Addr) (n c : Nat) (l : List UInt8) (w : World) {B : Nat} (h : Rd w B 1 A n (byteCells l)) :
    Calls Try.prog 131 #[.slice A n c] w fun e w' => e = .returned (.tuple #[.int .i64 (takeM l).1, .int .i64 (takeM l).2]) ∧ ∃ q, w' = w.drewN q := by
  have hl := h.bytes_len
  by_cases h4 : l.length < 4
  · rw [takeM_short h4]
    have hn4 : n < 4 := by omega
    clear hl h4
    go_enter Try.func131, Try.ntmps131
    go_wp2
    go_ret2
    exact ⟨rfl, 0, rfl⟩
  · have hn4 : 4 ≤ n := by omega
    obtain ⟨x0, x1, x2, x3, r, rfl⟩ := four_of h4
    obtain ⟨b, off, rfl, _, hcell⟩ := h.2 (by omega)
    have c0 := hcell 0 (.int .u8 x0.toNat) rfl
    have c1 := hcell 1 (.int .u8 x1.toNat) rfl
    have c2 := hcell 2 (.int .u8 x2.toNat) rfl
    have c3 := hcell 3 (.int .u8 x3.toNat) rfl
    rw [Nat.add_zero] at c0
    have b0 := u8_lt x0
    have b1 := u8_lt x1
    have b2 := u8_lt x2
    have b3 := u8_lt x3
    have hm : takeM (x0 :: x1 :: x2 :: x3 :: r) = if 127 < x0.toNat then (0, 2) else (16777216 * (x0.toNat : Int) + 65536 * (x1.toNat : Int) + 256 * (x2.toNat : Int) + (x3.toNat : Int), 0) := rfl
    clear h hl h4 hcell
    by_cases hx : 127 < x0.toNat
    · rw [hm, if_pos hx]
      clear hm
      go_enter Try.func131, Try.ntmps131
      go_wp2
      go_ret2
      exact ⟨rfl, 0, rfl⟩
    · rw [hm, if_neg hx]
      clear hm
      go_enter Try.func131, Try.ntmps131
      go_wp2
      go_quiet (fail)
      go_wp2
      go_ret2
      exact ⟨rfl, _, rfl⟩
end Go.Proofs.Ytkjlafpafmihaaa
