/- 'berthshiftlaw.TapeCrashes' returns true at every tape and keep; the tape that it is given is as it was. -/
import Derived.Test.YtefkifgonadiiaaTapeRef
namespace Go.Proofs.Ytefkifgonadiiaa
open Go.ChangeShapes Go.WideShapes Go.RowKit

set_option maxRecDepth 100000 in
set_option maxHeartbeats 4000000 in
theorem tapeCrashes_calls (A : Option Addr) (n c : Nat) (l : List UInt8) (s : Int) (keep : Int) (w : World) (h : Rd w w.heap.size 1 A n (byteCells l)) (hc : n ≤ reachBytes) :
    Calls Try.prog 12 #[.agg #[.slice A n c, .int .i64 s], .int .i64 keep] w (BoolPost w true) := by
  have HP := Lib.hid fun A n c w h => Crash_calls A n c l s keep w h
  have HQ := Lib.hid fun A n c w h => TapeCrashed_calls A n c l s keep w h
  generalize crashM l s keep = r at HP HQ
  obtain ⟨x, y, z⟩ := r
  have H := Lib.hid h
  clear h
  go_enter Try.func12, Try.ntmps12
  go_wp2_with fail
  refine (tapes_calls A n c l s _ (by exact H.out.on (by go_grown)) hc).mono ?_
  rintro e w1 ⟨A1, c1, rfl, hb1, hown1⟩
  have hz1 : w.heap.size < w1.heap.size := by have := hb1.size; simp at this; omega
  have HB1 : Hid (Below w.heap.size w w1) := Lib.hid (Below.trans (by go_grown) (hb1.mono (by simp)))
  have R1 := Lib.hid (Rd.of_own hown1)
  have q0 := hb1.cell (p := ⟨w.heap.size, 0, none⟩) (by simp)
  have q1 := hb1.cell (p := ⟨w.heap.size, 1, none⟩) (by simp)
  simp at q0 q1
  clear hb1 hown1
  go_wp2_with fail
  refine (HP.out A1 n c1 _ (by exact R1.out.on (by go_grown))).mono ?_
  rintro e w2 ⟨A2, c2, rfl, hb2, hr2⟩
  have hz2 : w.heap.size < w2.heap.size := by have := hb2.size; simp at this; omega
  have hz21 : w1.heap.size < w2.heap.size := by have := hb2.size; simp at this; omega
  have HB2 : Hid (Below w1.heap.size w1 w2) := Lib.hid (Below.trans (by go_grown) (hb2.mono (by simp)))
  have R2 := Lib.hid hr2
  have p0 := hb2.cell (p := ⟨w.heap.size, 0, none⟩) (by simp; omega)
  have p1 := hb2.cell (p := ⟨w.heap.size, 1, none⟩) (by simp; omega)
  have p2 := hb2.cell (p := ⟨w1.heap.size, 0, none⟩) (by simp)
  have p3 := hb2.cell (p := ⟨w1.heap.size, 1, none⟩) (by simp)
  simp [World.cell?_alloc_lt, q0, q1, hz1] at p0 p1 p2 p3
  clear hb2 hr2 q0 q1
  go_wp2_with fail
  refine (HQ.out A n c _ (by exact (H.out.on HB1.out).on (Below.trans HB2.out (by go_grown)))).mono ?_
  rintro e w3 ⟨A3, c3, rfl, hb3, hr3⟩
  have hz3 : w.heap.size < w3.heap.size := by have := hb3.size; simp at this; omega
  have hz31 : w1.heap.size < w3.heap.size := by have := hb3.size; simp at this; omega
  have hz32 : w2.heap.size < w3.heap.size := by have := hb3.size; simp at this; omega
  have HB3 : Hid (Below w2.heap.size w2 w3) := Lib.hid (Below.trans (by go_grown) (hb3.mono (by simp)))
  have R3 := Lib.hid hr3
  have o0 := hb3.cell (p := ⟨w.heap.size, 0, none⟩) (by simp; omega)
  have o1 := hb3.cell (p := ⟨w.heap.size, 1, none⟩) (by simp; omega)
  have o2 := hb3.cell (p := ⟨w1.heap.size, 0, none⟩) (by simp; omega)
  have o3 := hb3.cell (p := ⟨w1.heap.size, 1, none⟩) (by simp; omega)
  have o4 := hb3.cell (p := ⟨w2.heap.size, 0, none⟩) (by simp)
  have o5 := hb3.cell (p := ⟨w2.heap.size, 1, none⟩) (by simp)
  simp [World.cell?_alloc_lt, p0, p1, p2, p3, hz2, hz21] at o0 o1 o2 o3 o4 o5
  clear hb3 hr3 p0 p1 p2 p3
  go_wp2_with fail
  refine (sameTape_calls A2 A3 x.length c2 x.length c3 x x y y _ (by exact (R2.out.on HB3.out).on (by go_grown)) (by exact R3.out.on (by go_grown))).mono ?_
  rintro e w4 ⟨rfl, hb4⟩
  have HB4 : Hid (Below w3.heap.size w3 w4) := Lib.hid (Below.trans (by go_grown) (hb4.mono (by simp)))
  have m0 := hb4.cell (p := ⟨w.heap.size, 0, none⟩) (by simp; omega)
  have m1 := hb4.cell (p := ⟨w.heap.size, 1, none⟩) (by simp; omega)
  have m2 := hb4.cell (p := ⟨w1.heap.size, 0, none⟩) (by simp; omega)
  have m3 := hb4.cell (p := ⟨w1.heap.size, 1, none⟩) (by simp; omega)
  simp [World.cell?_alloc_lt, o0, o1, o2, o3, hz3, hz31] at m0 m1 m2 m3
  clear hb4 o0 o1 o2 o3 o4 o5
  have hs : (y == y && x == x) = true := by simp
  rw [hs]
  clear hs
  go_wp2_with fail
  refine (sameTape_calls A1 A n c1 n c l l s s _ (by exact R1.out.on (HB2.out.trans ((HB3.out.trans (HB4.out.mono HB3.out.size)).mono HB2.out.size))) (by exact H.out.on (HB1.out.trans ((HB2.out.trans ((HB3.out.trans (HB4.out.mono HB3.out.size)).mono HB2.out.size)).mono HB1.out.size)))).mono ?_
  rintro e w5 ⟨rfl, hb5⟩
  have HB5 := Lib.hid hb5
  clear hb5
  have hs : (s == s && l == l) = true := by simp
  rw [hs]
  clear hs
  go_wp2_with fail
  go_ret
  have b2 := HB4.out.trans (HB5.out.mono HB4.out.size)
  have b3 := HB3.out.trans (b2.mono HB3.out.size)
  have b4 := HB2.out.trans (b3.mono HB2.out.size)
  exact ⟨rfl, HB1.out.trans (b4.mono HB1.out.size)⟩

theorem tapeCrashes_walk (W : World) (args : Array Value) (h : All2 (ArgOk Try.prog W) args.toList Try.f12.params.toList) :
    Calls Try.prog 12 args W fun e W' => e = .returned (.bool true) ∧ Below W.heap.size W W' := by
  rw [Try.params12] at h
  obtain ⟨v, l1, hv, h1, h0⟩ := All2.cons_ h
  obtain ⟨v', l2, hv', ⟨⟨base, hk⟩, _⟩, h2⟩ := All2.cons_ h0
  have h3 := All2.nil_ h2
  subst h3
  subst hv'
  obtain rfl : args = #[v, v'] := by cases args; simp_all
  obtain ⟨A, n, c, l, s, rfl, hr, _, hb⟩ := arg_tape h1
  obtain ⟨keep, rfl⟩ := okWide_int Try.underlying3 hk
  exact tapeCrashes_calls A n c l s keep W hr hb
end Go.Proofs.Ytefkifgonadiiaa
