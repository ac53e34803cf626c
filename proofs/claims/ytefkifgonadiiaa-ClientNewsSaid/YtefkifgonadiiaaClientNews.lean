/- 'berthshiftlaw.ClientNews' returns true at every number. -/
import Derived.Test.YtefkifgonadiiaaCli
namespace Go.Proofs.Ytefkifgonadiiaa
open Go.ChangeShapes Go.WideShapes Go.RowKit

set_option maxRecDepth 100000 in
set_option maxHeartbeats 1000000 in
theorem clientNews_calls (p : Int) (w : World) : Calls Try.prog 7 #[.int .i64 p] w fun e w' => e = .returned (.bool true) ∧ Below w.heap.size w w' := by
  have H1 := Lib.hid (New_calls p)
  have H2 := Lib.hid (ClientNew_calls p)
  have HS := Lib.hid (fun (p x : Int) (w : World) => sameClient_calls none none 0 0 0 0 [] [] p p 0 0 ⟨x, x, x, x⟩ ⟨x, x, x, x⟩ w Rd.none_ Rd.none_ (by simp) (by simp))
  generalize newM p = r at H1 H2
  obtain ⟨q, x, k⟩ := r
  go_enter Try.func7, Try.ntmps7
  go_wp2_with fail
  refine (H1.out _).mono ?_
  rintro e w1 ⟨rfl, hb1⟩
  have HB := Lib.hid hb1
  clear hb1
  go_wp2_with fail
  refine (H2.out _).mono ?_
  rintro e w2 ⟨rfl, hb2⟩
  have hz : w1.heap.size < w2.heap.size := by have := hb2.size; simp at this; omega
  have c0 := hb2.cell (p := ⟨w1.heap.size, 0, none⟩) (by simp)
  have c1 := hb2.cell (p := ⟨w1.heap.size, 1, none⟩) (by simp)
  have c2 := hb2.cell (p := ⟨w1.heap.size, 2, none⟩) (by simp)
  have c3 := hb2.cell (p := ⟨w1.heap.size, 3, none⟩) (by simp)
  have c4 := hb2.cell (p := ⟨w1.heap.size, 4, none⟩) (by simp)
  have c5 := hb2.cell (p := ⟨w1.heap.size, 5, none⟩) (by simp)
  have c6 := hb2.cell (p := ⟨w1.heap.size, 6, none⟩) (by simp)
  simp at c0 c1 c2 c3 c4 c5 c6
  have HB2 : Hid (Below w1.heap.size w1 w2) := Lib.hid (Below.trans (by go_grown) (hb2.mono (by simp)))
  clear hb2
  go_wp2_with fail
  refine (HS.out q x _).mono ?_
  rintro e w3 ⟨rfl, hb3⟩
  have HB3 : Hid (Below w2.heap.size w2 w3) := Lib.hid (Below.trans (by go_grown) (hb3.mono (by simp)))
  clear hb3
  go_wp2_with fail
  go_ret
  exact ⟨by simp, HB.out.trans ((HB2.out.trans (HB3.out.mono (by omega))).mono HB.out.size)⟩

theorem clientNews_walk (W : World) (args : Array Value) (h : All2 (ArgOk Try.prog W) args.toList Try.f7.params.toList) :
    Calls Try.prog 7 args W fun e W' => e = .returned (.bool true) ∧ Below W.heap.size W W' := by
  rw [Try.params7] at h
  obtain ⟨v2, l2, hv2, ⟨⟨base, hk⟩, _⟩, h3⟩ := All2.cons_ h
  have h4 := All2.nil_ h3
  subst h4
  obtain rfl : args = #[v2] := by cases args; simp_all
  obtain ⟨p, rfl⟩ := okWide_int Try.underlying3 hk
  exact clientNews_calls p W
end Go.Proofs.Ytefkifgonadiiaa
