/- 'berthshiftlaw.WindowTakes' returns true at every window and id. -/
import Derived.Test.YtidmifejdbgngaaWinTake
namespace Go.Proofs.Ytidmifejdbgngaa
open Go.ChangeShapes Go.WideShapes Go.RowKit

set_option maxRecDepth 100000 in
set_option maxHeartbeats 1000000 in
theorem windowTakes_calls (x : Win) (id : Int) (w : World) : Calls Try.prog 4 #[x.val, .int .i64 id] w fun e w' => e = .returned (.bool true) ∧ Below w.heap.size w w' := by
  have H1 := Lib.hid (WTake_calls x id)
  have H2 := Lib.hid (IdTaken_calls x id)
  generalize takeW x id = r at H1 H2
  obtain ⟨y, rb, rk⟩ := r
  have hq := run_eql_win y y
  obtain ⟨t, b0, b1, b2, b3, b4, b5, b6, b7⟩ := x
  obtain ⟨t', d0, d1, d2, d3, d4, d5, d6, d7⟩ := y
  unfold Win.val at *
  simp only [decide_true] at hq
  have H2 : Hid (∀ w : World, Calls Try.prog 22 #[.agg #[.int .i64 t, .bool b0, .bool b1, .bool b2, .bool b3, .bool b4, .bool b5, .bool b6, .bool b7], .int .i64 id] w fun e w' => e = .returned (.tuple #[.agg #[.int .i64 t', .bool d0, .bool d1, .bool d2, .bool d3, .bool d4, .bool d5, .bool d6, .bool d7], .bool rb, .int .i64 rk]) ∧ Below w.heap.size w w') := Lib.hid (fun w => H2.out w)
  have H1 : Hid (∀ w : World, Calls Try.prog 21 #[.agg #[.int .i64 t, .bool b0, .bool b1, .bool b2, .bool b3, .bool b4, .bool b5, .bool b6, .bool b7], .int .i64 id] w fun e w' => e = .returned (.tuple #[.agg #[.int .i64 t', .bool d0, .bool d1, .bool d2, .bool d3, .bool d4, .bool d5, .bool d6, .bool d7], .bool rb, .int .i64 rk]) ∧ Below w.heap.size w w') := Lib.hid (fun w => H1.out w)
  go_enter Try.func4, Try.ntmps4
  go_wp2_with fail
  refine (H1.out _).mono ?_
  rintro e w1 ⟨rfl, hb1⟩
  have B1 := (Blk.new w _ _).below hb1 (by simp)
  obtain ⟨c0, c1, c2, c3, c4, c5, c6, c7, c8, cf⟩ := B1.cells9
  have hz1 : w.heap.size < w1.heap.size := B1.lt
  have HB : Hid (Below w.heap.size w w1) := Lib.hid (Below.trans (by go_grown) (hb1.mono (by simp)))
  clear hb1
  go_wp2_with fail
  refine (H2.out _).mono ?_
  rintro e w2 ⟨rfl, hb2⟩
  have B2 := (Blk.new w1 _ _).below hb2 (by simp)
  obtain ⟨g0, g1, g2, g3, g4, g5, g6, g7, g8, gf⟩ := B2.cells9
  have hz2 : w1.heap.size < w2.heap.size := B2.lt
  have HB2 : Hid (Below w1.heap.size w1 w2) := Lib.hid (Below.trans (by go_grown) (hb2.mono (by simp)))
  clear hb2
  go_wp2_with fail
  go_ret
  have hB : Below w.heap.size w w2 := HB.out.trans (HB2.out.mono (by omega))
  exact ⟨by simp, by go_grown⟩

set_option maxRecDepth 100000 in
theorem windowTakes_walk (W : World) (args : Array Value) (h : All2 (ArgOk Try.prog W) args.toList Try.f4.params.toList) :
    Calls Try.prog 4 args W fun e W' => e = .returned (.bool true) ∧ Below W.heap.size W W' := by
  rw [Try.params4] at h
  obtain ⟨v, l1, hv, h1, h0⟩ := All2.cons_ h
  obtain ⟨v2, l2, hv2, ⟨⟨base, hk⟩, _⟩, h3⟩ := All2.cons_ h0
  have h4 := All2.nil_ h3
  subst h4
  subst hv2
  obtain rfl : args = #[v, v2] := by cases args; simp_all
  obtain ⟨x, rfl⟩ := arg_window h1
  obtain ⟨id, rfl⟩ := okWide_int Try.underlying3 hk
  exact windowTakes_calls x id W
end Go.Proofs.Ytidmifejdbgngaa
