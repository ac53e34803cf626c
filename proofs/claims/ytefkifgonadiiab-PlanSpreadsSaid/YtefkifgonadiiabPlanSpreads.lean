/- 'berthshiftlaw.PlanSpreads' returns true at every list of loads and number of nodes. -/
import Derived.Test.YtefkifgonadiiabPlanS
namespace Go.Proofs.Ytefkifgonadiiab
open Go.ChangeShapes Go.WideShapes Go.RowKit

set_option maxRecDepth 100000 in
set_option maxHeartbeats 1000000 in
theorem planSpreads_calls (A : Option Addr) (n c : Nat) (l : List Ld) (nodes : Int) (w : World) (h : Rd w w.heap.size 3 A n (recCells l)) (hm : n ≤ maxLen) (hc : n * 24 ≤ reachBytes) :
    Calls Try.prog 5 #[.slice A n c, .int .i64 nodes] w fun e w' => e = .returned (.bool true) ∧ Below w.heap.size w w' := by
  have H := Lib.hid h
  clear h
  go_enter Try.func5, Try.ntmps5
  go_wp2_with fail
  refine (loads_calls A n c l _ H.out hc).mono ?_
  rintro e w1 ⟨A1, c1, rfl, hb1, hown⟩
  have HB := Lib.hid hb1
  have HR := Lib.hid (Rd.of_own hown)
  clear hb1 hown
  go_wp2_with fail
  refine (Spread_calls A1 n c1 l nodes _ HR.out hm).mono ?_
  rintro e w2 ⟨rfl, hb2⟩
  have HB2 := Lib.hid (HB.out.trans (hb2.mono HB.out.size))
  clear hb2
  go_wp2_with fail
  refine (SpreadOf_calls A n c l nodes _ (H.out.on HB2.out) hm).mono ?_
  rintro e w3 ⟨rfl, hb3⟩
  have HB3 := Lib.hid (HB2.out.trans (hb3.mono HB2.out.size))
  clear hb3
  go_wp2_with fail
  go_ret
  exact ⟨by simp, HB3.out⟩

set_option maxRecDepth 100000 in
theorem planSpreads_walk (W : World) (args : Array Value) (h : All2 (ArgOk Try.prog W) args.toList Try.f5.params.toList) :
    Calls Try.prog 5 args W fun e W' => e = .returned (.bool true) ∧ Below W.heap.size W W' := by
  rw [Try.params5] at h
  obtain ⟨v, l1, hv, h1, h0⟩ := All2.cons_ h
  obtain ⟨v2, l2, hv2, ⟨⟨base, hk⟩, _⟩, h3⟩ := All2.cons_ h0
  have h4 := All2.nil_ h3
  subst h4
  subst hv2
  obtain rfl : args = #[v, v2] := by cases args; simp_all
  obtain ⟨A, n, c, l, rfl, hr, hn, hm, hb, _⟩ := arg_loads h1
  obtain ⟨nodes, rfl⟩ := okWide_int Try.underlying3 hk
  exact planSpreads_calls A n c l nodes W hr (Nat.le_trans hn hm) (by omega)
end Go.Proofs.Ytefkifgonadiiab
