/- 'berthshiftlaw.PackNumbers' returns true at every int: pack.Number and the reference give the same bytes and the same error. -/
import Derived.Test.YtefkifgonadiiaaNum
namespace Go.Proofs.Ytefkifgonadiiaa
open Go.ChangeShapes Go.WideShapes Go.RowKit

set_option maxHeartbeats 400000 in
theorem packNumbers_calls (n : Int) (w : World) : Calls Try.prog 4 #[.int .i64 n] w fun e w' => e = .returned (.bool true) ∧ Below w.heap.size w w' := by
  have h1 := Number_calls n
  have h2 := Four_calls n
  generalize numberM n = r at h1 h2
  obtain ⟨l, k⟩ := r
  have H1 := Lib.hid h1
  have H2 := Lib.hid h2
  clear h1 h2
  go_enter Try.func4, Try.ntmps4
  go_wp2_with fail
  refine (H1.out _).mono ?_
  rintro e w1 ⟨A, c, rfl, hb1, hr1⟩
  go_wp2_with fail
  refine (H2.out _).mono ?_
  rintro e w2 ⟨A', c', rfl, hb2, hr2⟩
  have hr3 := hr1.on hb2
  go_wp2_with fail
  refine (sameBytes_calls A A' l.length l.length c c' l l _ hr3 hr2).mono ?_
  rintro e w' ⟨rfl, rfl⟩
  go_wp2_with fail
  go_ret
  exact ⟨by simp, hb1.trans (hb2.mono hb1.size)⟩

theorem packNumbers_walk (W : World) (args : Array Value) (h : All2 (ArgOk Try.prog W) args.toList Try.f4.params.toList) :
    Calls Try.prog 4 args W fun e W' => e = .returned (.bool true) ∧ Below W.heap.size W W' := by
  rw [Try.params4] at h
  obtain ⟨v, l1, hv, ⟨⟨base, hk⟩, _⟩, h0⟩ := All2.cons_ h
  have h1 := All2.nil_ h0
  subst h1
  obtain rfl : args = #[v] := by cases args; simp_all
  obtain ⟨n, rfl⟩ := okWide_int Try.underlying3 hk
  exact packNumbers_calls n W
end Go.Proofs.Ytefkifgonadiiaa
