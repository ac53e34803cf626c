/- 'berthshiftlaw.WindowSeens' returns true at every window and id. -/
import Derived.Test.YtefkifgonadiiabWinSeen
namespace Go.Proofs.Ytefkifgonadiiab
open Go.ChangeShapes Go.WideShapes Go.RowKit

set_option maxRecDepth 100000 in
set_option maxHeartbeats 1000000 in
theorem windowSeens_calls (x : Win) (id : Int) (w : World) : Calls Try.prog 3 #[x.val, .int .i64 id] w fun e w' => e = .returned (.bool true) ∧ Below w.heap.size w w' := by
  have H1 := Lib.hid (WSeen_calls x id)
  have H2 := Lib.hid (IdSeen_calls x id)
  generalize seenM x id = r at H1 H2
  obtain ⟨rb, rk⟩ := r
  obtain ⟨t, b0, b1, b2, b3, b4, b5, b6, b7⟩ := x
  unfold Win.val at *
  go_enter Try.func3, Try.ntmps3
  go_wp2_with fail
  refine (H1.out _).mono ?_
  rintro e w1 ⟨rfl, hb1⟩
  have c0 := hb1.cell (p := ⟨w.heap.size, 0, none⟩) (by simp)
  have c1 := hb1.cell (p := ⟨w.heap.size, 1, none⟩) (by simp)
  have c2 := hb1.cell (p := ⟨w.heap.size, 2, none⟩) (by simp)
  have c3 := hb1.cell (p := ⟨w.heap.size, 3, none⟩) (by simp)
  have c4 := hb1.cell (p := ⟨w.heap.size, 4, none⟩) (by simp)
  have c5 := hb1.cell (p := ⟨w.heap.size, 5, none⟩) (by simp)
  have c6 := hb1.cell (p := ⟨w.heap.size, 6, none⟩) (by simp)
  have c7 := hb1.cell (p := ⟨w.heap.size, 7, none⟩) (by simp)
  have c8 := hb1.cell (p := ⟨w.heap.size, 8, none⟩) (by simp)
  simp only [World.cell?_alloc_mark] at c0 c1 c2 c3 c4 c5 c6 c7 c8
  have HB := Lib.hid hb1
  clear hb1
  go_wp2_with fail
  refine (H2.out _).mono ?_
  rintro e w2 ⟨rfl, hb2⟩
  have HB2 := Lib.hid hb2
  clear hb2
  go_wp2_with fail
  go_ret
  have hs := HB.out.size
  simp only [World.size_alloc] at hs
  exact ⟨by simp, ((Below.refl _ w).alloc (Nat.le_refl _) _).trans ((HB.out.mono (by simp)).trans (HB2.out.mono (by omega)))⟩

theorem windowSeens_walk (W : World) (args : Array Value) (h : All2 (ArgOk Try.prog W) args.toList Try.f3.params.toList) :
    Calls Try.prog 3 args W fun e W' => e = .returned (.bool true) ∧ Below W.heap.size W W' := by
  rw [Try.params3] at h
  obtain ⟨v, l1, hv, h1, h0⟩ := All2.cons_ h
  obtain ⟨v2, l2, hv2, ⟨⟨base, hk⟩, _⟩, h3⟩ := All2.cons_ h0
  have h4 := All2.nil_ h3
  subst h4
  subst hv2
  obtain rfl : args = #[v, v2] := by cases args; simp_all
  obtain ⟨x, rfl⟩ := arg_window h1
  obtain ⟨id, rfl⟩ := okWide_int Try.underlying3 hk
  exact windowSeens_calls x id W
end Go.Proofs.Ytefkifgonadiiab
