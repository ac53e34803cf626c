/- 'berthshiftlaw.PackChecks' returns true at every event. -/
import Derived.Test.YtefkifgonadiiaaEvFaultRef
namespace Go.Proofs.Ytefkifgonadiiaa
open Go.ChangeShapes Go.WideShapes Go.RowKit

theorem arg_event {W : World} {v : Value} (h : ArgOk Try.prog W v 54) : ∃ e : Ev, v = e.val := by
  obtain ⟨⟨base, hk⟩, l, hl, ha⟩ := h
  rw [flat_ev] at hl
  cases hl
  obtain ⟨cs, rfl, _⟩ := okWide_struct Try.underlying54 hk
  obtain ⟨a1, l1, e, ⟨m1, rfl, _⟩, h3⟩ := All2.cons_ ha
  obtain ⟨a2, l2, rfl, ⟨m2, rfl, _⟩, h4⟩ := All2.cons_ h3
  obtain ⟨a3, l3, rfl, ⟨m3, rfl, _⟩, h5⟩ := All2.cons_ h4
  obtain ⟨a4, l4, rfl, ⟨m4, rfl, _⟩, h6⟩ := All2.cons_ h5
  obtain ⟨a5, l5, rfl, ⟨m5, rfl, _⟩, h7⟩ := All2.cons_ h6
  obtain ⟨a6, l6, rfl, ⟨m6, rfl, _⟩, h8⟩ := All2.cons_ h7
  have h9 := All2.nil_ h8
  subst h9
  refine ⟨⟨m1, m2, m3, m4, m5, m6⟩, ?_⟩
  simp only [Value.cells] at e
  unfold Ev.val
  congr 1
  exact Array.toList_inj.1 e

set_option maxHeartbeats 400000 in
theorem packChecks_calls (x : Ev) (w : World) : Calls Try.prog 10 #[x.val] w fun e w' => e = .returned (.bool true) ∧ Below w.heap.size w w' := by
  have H1 := Lib.hid (Check_calls x)
  have H2 := Lib.hid (EventFault_calls x)
  generalize evFault x = k at H1 H2
  obtain ⟨x0, x1, x2, x3, x4, x5⟩ := x
  unfold Ev.val at *
  go_enter Try.func10, Try.ntmps10
  go_wp2_with fail
  refine (H1.out _).mono ?_
  rintro e w1 ⟨rfl, hb1⟩
  have c0 := hb1.cell (p := ⟨w.heap.size, 0, none⟩) (by simp)
  have c1 := hb1.cell (p := ⟨w.heap.size, 1, none⟩) (by simp)
  have c2 := hb1.cell (p := ⟨w.heap.size, 2, none⟩) (by simp)
  have c3 := hb1.cell (p := ⟨w.heap.size, 3, none⟩) (by simp)
  have c4 := hb1.cell (p := ⟨w.heap.size, 4, none⟩) (by simp)
  have c5 := hb1.cell (p := ⟨w.heap.size, 5, none⟩) (by simp)
  simp only [World.cell?_alloc_mark] at c0 c1 c2 c3 c4 c5
  have HB := Lib.hid hb1
  clear hb1
  go_wp2_with fail
  refine (H2.out _).mono ?_
  rintro e w2 ⟨rfl, hb2⟩
  have HB2 := Lib.hid hb2
  clear hb2
  go_wp2_with fail
  go_ret
  have hs := HB.out.size
  simp only [World.size_alloc] at hs
  exact ⟨by simp, ((Below.refl _ w).alloc (Nat.le_refl _) _).trans ((HB.out.mono (by simp)).trans (HB2.out.mono (by omega)))⟩

theorem packChecks_walk (W : World) (args : Array Value) (h : All2 (ArgOk Try.prog W) args.toList Try.f10.params.toList) :
    Calls Try.prog 10 args W fun e W' => e = .returned (.bool true) ∧ Below W.heap.size W W' := by
  rw [Try.params10] at h
  obtain ⟨v, l1, hv, h1, h0⟩ := All2.cons_ h
  have h2 := All2.nil_ h0
  subst h2
  obtain rfl : args = #[v] := by cases args; simp_all
  obtain ⟨x, rfl⟩ := arg_event h1
  exact packChecks_calls x W
end Go.Proofs.Ytefkifgonadiiaa
