/- 'berthshiftlaw.DirectoryWheres' returns true at every directory and queue, where the package's variable is as laid. -/
import Derived.Test.YtefkifgonadiiabDoorDirWhere
import Derived.Test.YtefkifgonadiiabDoorDirWhereRef
import Derived.Test.YtefkifgonadiiabDoorDirLaid
namespace Go.Proofs.YtefkifgonadiiabDoor
open Go.ChangeShapes Go.WideShapes Go.RowKit

set_option maxRecDepth 100000 in
set_option maxHeartbeats 2000000 in
theorem directoryWheres_calls (d : Dir) (q : Int) (w : World) (hn : Nw w) : Calls Tryd.prog 3 #[d.val, .int .i64 q] w fun e w' => e = .returned (.bool true) ∧ Below w.heap.size w w' := by
  have HN := Lib.hid hn
  have H1 := Lib.hid (fun w h => Where_calls d q w h)
  have H2 := Lib.hid (fun w => WhereIs_calls d q w)
  clear hn
  generalize whereM d q = r at H1 H2
  obtain ⟨⟨pn, pe⟩, k⟩ := r
  have hq := run_eql_pl ⟨pn, pe⟩ ⟨pn, pe⟩
  obtain ⟨⟨n0, e0⟩, ⟨n1, e1⟩, ⟨n2, e2⟩, ⟨n3, e3⟩⟩ := d
  unfold Dir.val at *
  simp only [decide_true] at hq
  go_enter Tryd.func3, Tryd.ntmps3
  go_wp2_with fail
  refine (H1.out _ (HN.out.on (by go_grown))).mono ?_
  rintro e w1 ⟨rfl, hb1⟩
  have B1 := (Blk.new w _ _).below hb1 (by simp)
  obtain ⟨c0, c1, c2, c3, c4, c5, c6, c7, cf⟩ := B1.cells8
  have hz1 : w.heap.size < w1.heap.size := B1.lt
  have HB : Hid (Below w.heap.size w w1) := Lib.hid (Below.trans (by go_grown) (hb1.mono (by simp)))
  clear hb1
  go_wp2_with fail
  refine (H2.out _).mono ?_
  rintro e w2 ⟨rfl, hb2⟩
  have B2 := (Blk.new w1 _ _).below hb2 (by simp)
  obtain ⟨g0, g1, gf⟩ := B2.cells2
  have hz2 : w1.heap.size < w2.heap.size := B2.lt
  have HB2 : Hid (Below w1.heap.size w1 w2) := Lib.hid (Below.trans (by go_grown) (hb2.mono (by simp)))
  clear hb2
  go_wp2_with fail
  go_ret
  have hB : Below w.heap.size w w2 := HB.out.trans (HB2.out.mono (by omega))
  exact ⟨by simp, by go_grown⟩

set_option maxRecDepth 100000 in
theorem directoryWheres_walk (W : World) (hn : Nw W) (args : Array Value) (h : All2 (ArgOk Tryd.prog W) args.toList Tryd.f3.params.toList) :
    Calls Tryd.prog 3 args W fun e W' => e = .returned (.bool true) ∧ Below W.heap.size W W' := by
  rw [Tryd.params3] at h
  obtain ⟨v, l1, hv, h1, h0⟩ := All2.cons_ h
  obtain ⟨v0, l2, hv0, ⟨⟨base0, hk0⟩, _⟩, g0⟩ := All2.cons_ h0
  have h4 := All2.nil_ g0
  subst h4
  subst hv0
  obtain rfl : args = #[v, v0] := by cases args; simp_all
  obtain ⟨d, rfl⟩ := arg_dir h1
  obtain ⟨q, rfl⟩ := okWide_int Tryd.underlying3 hk0
  exact directoryWheres_calls d q W hn
end Go.Proofs.YtefkifgonadiiabDoor
