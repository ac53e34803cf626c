/- 'berthshiftlaw.PackTakes' returns true at every slice of bytes. -/
import Derived.Test.YtefkifgonadiiaaTake
import Derived.Test.YtefkifgonadiiaaArgs
namespace Go.Proofs.Ytefkifgonadiiaa
open Go.ChangeShapes Go.WideShapes Go.RowKit

set_option maxHeartbeats 400000 in
theorem packTakes_calls (A : Option Addr) (n c : Nat) (l : List UInt8) (w : World) (h : Rd w w.heap.size 1 A n (byteCells l)) (hc : n ≤ reachBytes) :
    Calls Try.prog 8 #[.slice A n c] w fun e w' => e = .returned (.bool true) ∧ Below w.heap.size w w' := by
  go_enter Try.func8, Try.ntmps8
  go_wp2_with fail
  refine (octets_calls A n c l _ h hc).mono ?_
  rintro e w1 ⟨A1, c1, rfl, hb1, hown1⟩
  have hr1 := Rd.of_own hown1
  obtain ⟨A2, c2, hv, hn1, _⟩ := own_form hown1
  simp only [Value.slice.injEq] at hv
  obtain ⟨rfl, _, rfl⟩ := hv
  have h1 := h.on hb1
  go_wp2_with fail
  refine (Take_calls _ _ _ l _ hr1 hn1).mono ?_
  rintro e w2 ⟨rfl, rfl⟩
  go_wp2_with fail
  refine (Taken_calls _ _ _ l _ h1).mono ?_
  rintro e w2 ⟨rfl, q, rfl⟩
  go_wp2_with fail
  go_ret
  exact ⟨by simp, ⟨hb1.os, hb1.tape, hb1.output, hb1.size, hb1.block⟩⟩

theorem packTakes_walk (W : World) (args : Array Value) (h : All2 (ArgOk Try.prog W) args.toList Try.f8.params.toList) :
    Calls Try.prog 8 args W fun e W' => e = .returned (.bool true) ∧ Below W.heap.size W W' := by
  rw [Try.params8] at h
  obtain ⟨v, l1, hv, h1, h0⟩ := All2.cons_ h
  have h2 := All2.nil_ h0
  subst h2
  obtain rfl : args = #[v] := by cases args; simp_all
  obtain ⟨A, n, c, l, rfl, hr, hn, _, hb⟩ := arg_bytes h1
  exact packTakes_calls A n c l W hr (by omega)
end Go.Proofs.Ytefkifgonadiiaa
