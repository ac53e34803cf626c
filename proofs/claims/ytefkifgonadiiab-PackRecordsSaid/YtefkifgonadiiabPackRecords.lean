/- 'berthshiftlaw.PackRecords' returns true at every record. -/
import Derived.Test.YtefkifgonadiiabRcd
namespace Go.Proofs.Ytefkifgonadiiab
open Go.ChangeShapes Go.WideShapes Go.RowKit

set_option maxHeartbeats 400000 in
theorem packRecords_calls (x : Rcd) (w : World) : Calls Try.prog 4 #[x.val] w fun e w' => e = .returned (.bool true) ∧ Below w.heap.size w w' := by
  have H1 := Lib.hid (Record_calls x)
  have H2 := Lib.hid (RecordFault_calls x)
  generalize recFault x = k at H1 H2
  obtain ⟨x0, x1, x2, x3, x4, x5, x6, x7, x8, x9⟩ := x
  unfold Rcd.val at *
  go_enter Try.func4, Try.ntmps4
  go_wp2_with fail
  refine (H1.out _).mono ?_
  rintro e w1 ⟨rfl, hb1⟩
  have c0 := hb1.cell (p := ⟨w.heap.size, 0, none⟩) (by simp)
  have c1 := hb1.cell (p := ⟨w.heap.size, 1, none⟩) (by simp)
  have c2 := hb1.cell (p := ⟨w.heap.size, 2, none⟩) (by simp)
  have c3 := hb1.cell (p := ⟨w.heap.size, 3, none⟩) (by simp)
  have c4 := hb1.cell (p := ⟨w.heap.size, 4, none⟩) (by simp)
  have c5 := hb1.cell (p := ⟨w.heap.size, 5, none⟩) (by simp)
  have c6 := hb1.cell (p := ⟨w.heap.size, 6, none⟩) (by simp)
  have c7 := hb1.cell (p := ⟨w.heap.size, 7, none⟩) (by simp)
  have c8 := hb1.cell (p := ⟨w.heap.size, 8, none⟩) (by simp)
  have c9 := hb1.cell (p := ⟨w.heap.size, 9, none⟩) (by simp)
  simp only [World.cell?_alloc_mark] at c0 c1 c2 c3 c4 c5 c6 c7 c8 c9
  have HB := Lib.hid hb1
  clear hb1
  go_wp2_with fail
  refine (H2.out _).mono ?_
  rintro e w2 ⟨rfl, hb2⟩
  have HB2 := Lib.hid hb2
  clear hb2
  go_wp2_with fail
  go_ret
  have hs := HB.out.size
  simp only [World.size_alloc] at hs
  exact ⟨by simp, ((Below.refl _ w).alloc (Nat.le_refl _) _).trans ((HB.out.mono (by simp)).trans (HB2.out.mono (by omega)))⟩

theorem packRecords_walk (W : World) (args : Array Value) (h : All2 (ArgOk Try.prog W) args.toList Try.f4.params.toList) :
    Calls Try.prog 4 args W fun e W' => e = .returned (.bool true) ∧ Below W.heap.size W W' := by
  rw [Try.params4] at h
  obtain ⟨v, l1, hv, h1, h0⟩ := All2.cons_ h
  have h2 := All2.nil_ h0
  subst h2
  obtain rfl : args = #[v] := by cases args; simp_all
  obtain ⟨x, rfl⟩ := arg_record h1
  exact packRecords_calls x W
end Go.Proofs.Ytefkifgonadiiab
