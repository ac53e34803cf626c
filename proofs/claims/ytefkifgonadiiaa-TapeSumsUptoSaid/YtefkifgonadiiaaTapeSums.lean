/- 'berthshiftlaw.TapeSums' returns true at every slice of bytes that is not too long. -/
import Derived.Test.YtefkifgonadiiaaSums
import Derived.Test.YtefkifgonadiiaaTake
import Derived.Test.YtefkifgonadiiaaArgs
namespace Go.Proofs.Ytefkifgonadiiaa
open Go.ChangeShapes Go.WideShapes Go.RowKit

set_option maxHeartbeats 400000 in
theorem tapeSums_calls (A : Option Addr) (n c : Nat) (l : List UInt8) (w : World) (h : Rd w w.heap.size 1 A n (byteCells l)) (hc : n ≤ reachBytes) (hn : n ≤ 1048576) :
    Calls Try.prog 6 #[.slice A n c] w fun e w' => e = .returned (.bool true) ∧ Below w.heap.size w w' := by
  have HS := Lib.hid (fun A c w B (h : Rd w B 1 A n (byteCells l)) => Sum_calls A n c l w h hn)
  have HR := Lib.hid (fun A c w B (h : Rd w B 1 A n (byteCells l)) => Summed_calls A n c l w h hn)
  generalize sumM l = z at HS HR
  go_enter Try.func6, Try.ntmps6
  go_wp2_with fail
  refine (octets_calls A n c l _ h hc).mono ?_
  rintro e w1 ⟨A1, c1, rfl, hb1, hown1⟩
  have hr1 := Rd.of_own hown1
  have h1 := h.on hb1
  have HR1 := Lib.hid hr1
  have HH1 := Lib.hid h1
  have HB := Lib.hid hb1
  clear hr1 h1 hown1 hb1 h
  go_wp2_with fail
  refine (HS.out _ _ _ _ HR1.out).mono ?_
  rintro e w2 ⟨rfl, q, rfl⟩
  go_wp2_with fail
  refine (HR.out _ _ _ _ (by exact HH1.out)).mono ?_
  rintro e w2 ⟨rfl, q2, rfl⟩
  go_wp2_with fail
  go_ret
  have hb1 := HB.out
  exact ⟨by simp, ⟨hb1.os, hb1.tape, hb1.output, hb1.size, hb1.block⟩⟩

theorem tapeSums_walk (W : World) (args : Array Value) (h : All2 (ArgOk Try.prog W) args.toList Try.f6.params.toList) (hs : ∀ A n c, args.toList = [.slice A n c] → n ≤ 1048576) :
    Calls Try.prog 6 args W fun e W' => e = .returned (.bool true) ∧ Below W.heap.size W W' := by
  rw [Try.params6] at h
  obtain ⟨v, l1, hv, h1, h0⟩ := All2.cons_ h
  have h2 := All2.nil_ h0
  subst h2
  obtain rfl : args = #[v] := by cases args; simp_all
  obtain ⟨A, n, c, l, rfl, hr, hn, _, hb⟩ := arg_bytes h1
  exact tapeSums_calls A n c l W hr (by omega) (hs A n c rfl)
end Go.Proofs.Ytefkifgonadiiaa
