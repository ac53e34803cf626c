/- 'berthshiftlaw.HistoryCommons' returns true at every two histories. -/
import Derived.Test.YtefkifgonadiiaaCommon
namespace Go.Proofs.Ytefkifgonadiiaa
open Go.ChangeShapes Go.WideShapes Go.RowKit

set_option maxHeartbeats 400000 in
theorem historyCommons_calls (A A' : Option Addr) (n c n' c' : Nat) (l l' : List Ev) (w : World) (h : Rd w w.heap.size 6 A n (evCells l)) (h' : Rd w w.heap.size 6 A' n' (evCells l'))
    (hc : n * 48 ≤ reachBytes) (hc' : n' * 48 ≤ reachBytes) :
    Calls Try.prog 5 #[.slice A n c, .slice A' n' c'] w fun e w' => e = .returned (.bool true) ∧ Below w.heap.size w w' := by
  have hn : n ≤ maxLen := by unfold maxLen; unfold reachBytes at hc; omega
  go_enter Try.func5, Try.ntmps5
  go_wp2_with fail
  refine (events_calls A n c l _ h hc).mono ?_
  intro e w1 hp
  obtain ⟨A1, c1, rfl, hb1, hr1, _, hm1⟩ := hp.opened
  have h1 := h.on hb1
  have h1' := h'.on hb1
  clear hp h h'
  go_wp2_with fail
  refine (events_calls A' n' c' l' _ h1' hc').mono ?_
  intro e w2 hp
  obtain ⟨A2, c2, rfl, hb2, hr2, _, hm2⟩ := hp.opened
  have h2 := h1.on hb2
  have h2' := h1'.on hb2
  have hr1' := hr1.on hb2
  have hb : Below w.heap.size w w2 := hb1.trans (hb2.mono hb1.size)
  clear hp h1 h1' hr1 hb1 hb2
  go_wp2_with fail
  refine (Common_calls A1 A2 n c1 n' c2 l l' _ hr1' hr2 (by omega) (by omega)).mono ?_
  rintro e w3 ⟨rfl, q, rfl⟩
  go_wp2_with fail
  refine (CommonTo_calls A A' n c n' c' l l' _ (h2.drewN q) (h2'.drewN q) hn).mono ?_
  rintro e w4 ⟨rfl, q', rfl⟩
  go_wp2_with fail
  go_ret
  exact ⟨by simp, hb.os, hb.tape, hb.output, hb.size, hb.block⟩

theorem historyCommons_walk (W : World) (args : Array Value) (h : All2 (ArgOk Try.prog W) args.toList Try.f5.params.toList) :
    Calls Try.prog 5 args W fun e W' => e = .returned (.bool true) ∧ Below W.heap.size W W' := by
  rw [Try.params5] at h
  obtain ⟨v, l1, hv, h1, h0⟩ := All2.cons_ h
  obtain ⟨v', l2, hv', h1', h2⟩ := All2.cons_ h0
  have h3 := All2.nil_ h2
  subst h3
  subst hv'
  obtain rfl : args = #[v, v'] := by cases args; simp_all
  obtain ⟨A, n, c, l, rfl, hr, hn, _, hb, _⟩ := arg_events h1
  obtain ⟨A', n', c', l', rfl, hr', hn', _, hb', _⟩ := arg_events h1'
  exact historyCommons_calls A A' n c n' c' l l' W hr hr' (by omega) (by omega)
end Go.Proofs.Ytefkifgonadiiaa
