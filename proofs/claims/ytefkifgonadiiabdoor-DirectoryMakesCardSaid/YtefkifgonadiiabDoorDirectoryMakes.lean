/- 'berthshiftlaw.DirectoryMakes' returns true at every directory and numbers, where the package's variable is as laid. -/
import Derived.Test.YtefkifgonadiiabDoorDirMake
import Derived.Test.YtefkifgonadiiabDoorDirMadeAt
import Derived.Test.YtefkifgonadiiabDoorDirLaid
namespace Go.Proofs.YtefkifgonadiiabDoor
open Go.ChangeShapes Go.WideShapes Go.RowKit

set_option maxRecDepth 100000 in
set_option maxHeartbeats 2000000 in
theorem directoryMakes_calls (d : Dir) (q node : Int) (w : World) (hn : Nw w) : Calls Tryd.prog 4 #[d.val, .int .i64 q, .int .i64 node] w fun e w' => e = .returned (.bool true) ∧ Below w.heap.size w w' := by
  have HN := Lib.hid hn
  have H1 := Lib.hid (fun w h => Make_calls d q node w h)
  have H2 := Lib.hid (fun w => MadeAt_calls d q node w)
  clear hn
  generalize makeM d q node = r at H1 H2
  obtain ⟨y, k⟩ := r
  have hq := run_eql_dir y y
  obtain ⟨⟨n0, e0⟩, ⟨n1, e1⟩, ⟨n2, e2⟩, ⟨n3, e3⟩⟩ := d
  obtain ⟨⟨m0, f0⟩, ⟨m1, f1⟩, ⟨m2, f2⟩, ⟨m3, f3⟩⟩ := y
  unfold Dir.val at *
  simp only [decide_true] at hq
  have H1 : Hid (∀ w : World, Nw w → Calls Tryd.prog 7 #[.agg #[.int .i64 n0, .int .i64 e0, .int .i64 n1, .int .i64 e1, .int .i64 n2, .int .i64 e2, .int .i64 n3, .int .i64 e3], .int .i64 q, .int .i64 node] w fun e w' => e = .returned (.tuple #[.agg #[.int .i64 m0, .int .i64 f0, .int .i64 m1, .int .i64 f1, .int .i64 m2, .int .i64 f2, .int .i64 m3, .int .i64 f3], .int .i64 k]) ∧ Below w.heap.size w w') := Lib.hid (fun w h => H1.out w h)
  have H2 : Hid (∀ w : World, Calls Tryd.prog 8 #[.agg #[.int .i64 n0, .int .i64 e0, .int .i64 n1, .int .i64 e1, .int .i64 n2, .int .i64 e2, .int .i64 n3, .int .i64 e3], .int .i64 q, .int .i64 node] w fun e w' => e = .returned (.tuple #[.agg #[.int .i64 m0, .int .i64 f0, .int .i64 m1, .int .i64 f1, .int .i64 m2, .int .i64 f2, .int .i64 m3, .int .i64 f3], .int .i64 k]) ∧ Below w.heap.size w w') := Lib.hid (fun w => H2.out w)
  go_enter Tryd.func4, Tryd.ntmps4
  go_wp2_with fail
  refine (H1.out _ (HN.out.on (by go_grown))).mono ?_
  rintro e w1 ⟨rfl, hb1⟩
  have B1 := (Blk.new w _ _).below hb1 (by simp)
  obtain ⟨c0, c1, c2, c3, c4, c5, c6, c7, cf⟩ := B1.cells8
  have hz1 : w.heap.size < w1.heap.size := B1.lt
  have HB : Hid (Below w.heap.size w w1) := Lib.hid (Below.trans (by go_grown) (hb1.mono (by simp)))
  clear hb1
  go_wp2_with fail
  refine (H2.out _).mono ?_
  rintro e w2 ⟨rfl, hb2⟩
  have B2 := (Blk.new w1 _ _).below hb2 (by simp)
  obtain ⟨g0, g1, g2, g3, g4, g5, g6, g7, gf⟩ := B2.cells8
  have hz2 : w1.heap.size < w2.heap.size := B2.lt
  have HB2 : Hid (Below w1.heap.size w1 w2) := Lib.hid (Below.trans (by go_grown) (hb2.mono (by simp)))
  clear hb2
  go_wp2_with fail
  go_ret
  have hB : Below w.heap.size w w2 := HB.out.trans (HB2.out.mono (by omega))
  exact ⟨by simp, by go_grown⟩

set_option maxRecDepth 100000 in
theorem directoryMakes_walk (W : World) (hn : Nw W) (args : Array Value) (h : All2 (ArgOk Tryd.prog W) args.toList Tryd.f4.params.toList) :
    Calls Tryd.prog 4 args W fun e W' => e = .returned (.bool true) ∧ Below W.heap.size W W' := by
  rw [Tryd.params4] at h
  obtain ⟨v, l1, hv, h1, h0⟩ := All2.cons_ h
  obtain ⟨v0, l2, hv0, ⟨⟨base0, hk0⟩, _⟩, g0⟩ := All2.cons_ h0
  obtain ⟨v1, l3, hv1, ⟨⟨base1, hk1⟩, _⟩, g1⟩ := All2.cons_ g0
  have h4 := All2.nil_ g1
  subst h4
  subst hv1
  subst hv0
  obtain rfl : args = #[v, v0, v1] := by cases args; simp_all
  obtain ⟨d, rfl⟩ := arg_dir h1
  obtain ⟨q, rfl⟩ := okWide_int Tryd.underlying3 hk0
  obtain ⟨node, rfl⟩ := okWide_int Tryd.underlying3 hk1
  exact directoryMakes_calls d q node W hn
end Go.Proofs.YtefkifgonadiiabDoor
