/- Contracts: pack.Number, ref.Four, berthshiftlaw.sameBytes, berthshiftlaw.octets. -/
import Derived.Test.YtkjlafpafmihaaaMem
import Derived.Test.YtkjlafpafmihaaaIn
namespace Go.Proofs.Ytkjlafpafmihaaa
open Go.RowKit

/-- A number's four bytes, the highest one first. -/
def be4 (n : Int) : List UInt8 := [UInt8.ofNat (n / 16777216).toNat, UInt8.ofNat (n / 65536 % 256).toNat, UInt8.ofNat (n / 256 % 256).toNat, UInt8.ofNat (n % 256).toNat]

theorem be4_cells {n : Int} (h0 : 0 ≤ n) (h1 : n ≤ 2147483647) :
    byteCells (be4 n) = [.int .u8 (n / 16777216), .int .u8 (n / 65536 % 256), .int .u8 (n / 256 % 256), .int .u8 (n % 256)] := by
  have key : ∀ m : Int, 0 ≤ m → m ≤ 255 → ((UInt8.ofNat m.toNat).toNat : Int) = m := by
    intro m a b
    simp
    omega
  simp only [byteCells, be4, List.map_cons, List.map_nil]
  rw [key _ (by omega) (by omega), key _ (by omega) (by omega), key _ (by omega) (by omega), key _ (by omega) (by omega)]

/-- P1.1. -/
def numberM (n : Int) : List UInt8 × Int := if 0 ≤ n ∧ n ≤ 2147483647 then (be4 n, 0) else ([], 2)

/-- Bytes in memory of the call's own, and an error number. -/
def BytesPost (w : World) (r : List UInt8 × Int) (e : Ending) (w' : World) : Prop :=
  ∃ A c, e = .returned (.tuple #[.slice A r.1.length c, .int .i64 r.2]) ∧ Below w.heap.size w w' ∧ Rd w' w'.heap.size 1 A r.1.length (byteCells r.1)

theorem BytesPost.none_ (w : World) (k : Int) : BytesPost w ([], k) (.returned (.tuple #[.slice none 0 0, .int .i64 k])) w :=
  ⟨none, 0, rfl, Below.refl _ _, Rd.none_⟩

theorem BytesPost.four (w : World) (n : Int) (h0 : 0 ≤ n) (h1 : n ≤ 2147483647) (t : TypeId) :
    BytesPost w (be4 n, 0) (.returned (.tuple #[.slice (some ⟨w.heap.size, 0, none⟩) 4 4, .int .i64 0])) (w.alloc (.cells #[.int .u8 (n / 16777216), .int .u8 (n / 65536 % 256), .int .u8 (n / 256 % 256), .int .u8 (n % 256)] t)) := by
  refine ⟨_, 4, rfl, by go_grown, ?_⟩
  have := Rd.new_ w t (byteCells (be4 n)) 4 1 (by simp [byteCells, be4])
  rw [be4_cells h0 h1] at this ⊢
  have e4 : (be4 n).length = 4 := rfl
  simpa [e4] using this

set_option maxHeartbeats 400000 in
theorem Number_calls (n : Int) (w : World) : Calls Try.prog 169 #[.int .i64 n] w (BytesPost w (numberM n)) := by
  by_cases h : 0 ≤ n ∧ n ≤ 2147483647
  · have hm : numberM n = (be4 n, 0) := if_pos h
    rw [hm]
    clear hm
    obtain ⟨h0, h1⟩ := h
    go_enter Try.func169, Try.ntmps169
    go_wp2
    go_ret2
    exact BytesPost.four w n h0 h1 _
  · have hm : numberM n = ([], 2) := if_neg h
    rw [hm]
    clear hm
    by_cases h0 : n < 0
    · clear h
      go_enter Try.func169, Try.ntmps169
      go_wp2
      go_ret2
      exact BytesPost.none_ w 2
    · have h1 : 2147483647 < n := by omega
      clear h
      go_enter Try.func169, Try.ntmps169
      go_wp2
      go_ret2
      exact BytesPost.none_ w 2

set_option maxHeartbeats 400000 in
theorem Four_calls (n : Int) (w : World) : Calls Try.prog 124 #[.int .i64 n] w (BytesPost w (numberM n)) := by
  by_cases h : 0 ≤ n ∧ n ≤ 2147483647
  · have hm : numberM n = (be4 n, 0) := if_pos h
    rw [hm]
    clear hm
    have hin : inR n 0 2147483647 = true := inR_true.2 h
    obtain ⟨h0, h1⟩ := h
    go_enter Try.func124, Try.ntmps124
    go_wp2_with (go_at_call 107; refine (In_calls _ _ _ _).mono ?_; rintro e w' ⟨rfl, rfl⟩)
    go_ret2
    exact BytesPost.four w n h0 h1 _
  · have hm : numberM n = ([], 2) := if_neg h
    rw [hm]
    clear hm
    have hin : inR n 0 2147483647 = false := inR_false.2 (by omega)
    clear h
    go_enter Try.func124, Try.ntmps124
    go_wp2_with (go_at_call 107; refine (In_calls _ _ _ _).mono ?_; rintro e w' ⟨rfl, rfl⟩)
    go_ret2
    exact BytesPost.none_ w 2

set_option maxHeartbeats 400000 in
theorem sameBytes_calls (A A' : Option Addr) (n n' c c' : Nat) (l l' : List UInt8) (w : World) {B B' : Nat} (h : Rd w B 1 A n (byteCells l)) (h' : Rd w B' 1 A' n' (byteCells l')) :
    Calls Try.prog 42 #[.slice A n c, .slice A' n' c'] w fun e w' => e = .returned (.bool (l == l')) ∧ w = w' := by
  have h1 := run_str h c Try.underlying52 Try.underlying5 Try.underlying9
  have h2 := run_str h' c' Try.underlying52 Try.underlying5 Try.underlying9
  go_enter Try.func42, Try.ntmps42
  go_wp2
  go_ret
  exact ⟨by simp, rfl⟩
end Go.Proofs.Ytkjlafpafmihaaa
