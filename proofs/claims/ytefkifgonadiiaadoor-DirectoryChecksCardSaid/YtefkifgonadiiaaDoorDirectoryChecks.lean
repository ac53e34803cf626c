/- 'berthshiftlaw.DirectoryChecks' returns true at every directory, where the package's variable is as laid. -/
import Derived.Test.YtefkifgonadiiaaDoorDir
import Derived.Test.YtefkifgonadiiaaDoorDirLaid
namespace Go.Proofs.YtefkifgonadiiaaDoor
open Go.ChangeShapes Go.WideShapes Go.RowKit

set_option maxRecDepth 100000 in
set_option maxHeartbeats 2000000 in
theorem directoryChecks_calls (d : Dir) (w : World) (hn : Nw w) : Calls Tryd.prog 3 #[d.val] w fun e w' => e = .returned (.bool true) ∧ Below w.heap.size w w' := by
  have HN := Lib.hid hn
  have H1 := Lib.hid (fun w h => DCheck_calls d w h)
  have H2 := Lib.hid (fun w => DirectoryFault_calls d w)
  clear hn
  generalize dirFault d = k at H1 H2
  obtain ⟨⟨n0, e0⟩, ⟨n1, e1⟩, ⟨n2, e2⟩, ⟨n3, e3⟩⟩ := d
  unfold Dir.val at *
  simp only at H1 H2 ⊢
  go_enter Tryd.func3, Tryd.ntmps3
  go_wp2_with fail
  refine (H1.out _ (HN.out.on (by go_grown))).mono ?_
  rintro e w1 ⟨rfl, hb1⟩
  have B1 := (Blk.new w _ _).below hb1 (by simp)
  obtain ⟨c0, c1, c2, c3, c4, c5, c6, c7, cf⟩ := B1.cells8
  have hz1 : w.heap.size < w1.heap.size := B1.lt
  have HB : Hid (Below w.heap.size w w1) := Lib.hid (Below.trans (by go_grown) (hb1.mono (by simp)))
  clear hb1
  go_wp2_with fail
  refine (H2.out _).mono ?_
  rintro e w2 ⟨rfl, hb2⟩
  have HB2 := Lib.hid (HB.out.trans (hb2.mono HB.out.size))
  clear hb2
  go_wp2_with fail
  go_ret
  exact ⟨by simp, HB2.out⟩

set_option maxRecDepth 100000 in
theorem directoryChecks_walk (W : World) (hn : Nw W) (args : Array Value) (h : All2 (ArgOk Tryd.prog W) args.toList Tryd.f3.params.toList) :
    Calls Tryd.prog 3 args W fun e W' => e = .returned (.bool true) ∧ Below W.heap.size W W' := by
  rw [Tryd.params3] at h
  obtain ⟨v, l1, hv, h1, h0⟩ := All2.cons_ h
  have h4 := All2.nil_ h0
  subst h4
  obtain rfl : args = #[v] := by cases args; simp_all
  obtain ⟨d, rfl⟩ := arg_dir h1
  exact directoryChecks_calls d W hn
end Go.Proofs.YtefkifgonadiiaaDoor
