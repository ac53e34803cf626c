/- 'berthshiftlaw.PackEncodes' returns true at every record. -/
import Derived.Test.YtkjlafpafmihaaaEncode
namespace Go.Proofs.Ytkjlafpafmihaaa
open Go.ChangeShapes Go.WideShapes Go.RowKit

set_option maxRecDepth 100000 in
set_option maxHeartbeats 1000000 in
theorem packEncodes_calls (r : Rcd) (w : World) : Calls Try.prog 6 #[r.val] w fun e w' => e = .returned (.bool true) ∧ Below w.heap.size w w' := by
  have H1 := Lib.hid (fun w => Encode_calls r w)
  have H2 := Lib.hid (fun w => RecordBytes_calls r w)
  generalize encM r = z at H1 H2
  obtain ⟨k, q, ep, pe, x0, x1, x2, x3, x4, x5⟩ := r
  obtain ⟨zl, zk⟩ := z
  unfold Rcd.val at H1 H2 ⊢
  simp only at H1 H2 ⊢
  go_enter Try.func6, Try.ntmps6
  go_wp2_with fail
  refine (H1.out _).mono ?_
  rintro e w1 ⟨A1, c1, rfl, hb1, hr1⟩
  simp only at hr1
  have B0 := (Blk.new w _ _).below hb1 (by simp)
  obtain ⟨c0, c1', c2, c3, c4, c5, c6, c7, c8, c9, cf⟩ := B0.cells10
  have HB : Hid (Below w.heap.size w w1) := Lib.hid (Below.trans (by go_grown) (hb1.mono (by simp)))
  have HR := Lib.hid hr1
  clear hb1 hr1
  simp only
  go_wp2_with fail
  refine (H2.out _).mono ?_
  rintro e w2 ⟨A2, d2, rfl, hb2, hr2⟩
  simp only at hr2
  have HB2 := Lib.hid (HB.out.trans (hb2.mono HB.out.size))
  have HR2 := Lib.hid hr2
  have HR1 := Lib.hid (HR.out.on hb2)
  clear hb2 hr2 c0 c1' c2 c3 c4 c5 c6 c7 c8 c9 cf B0 HB HR
  simp only
  go_wp2_with fail
  refine (sameBytes_calls A1 A2 zl.length zl.length c1 d2 zl zl _ HR1.out HR2.out).mono ?_
  rintro e w3 ⟨rfl, rfl⟩
  have hs : (zl == zl) = true := by simp
  rw [hs]
  clear hs
  go_wp2_with fail
  go_ret
  exact ⟨by simp, HB2.out⟩

set_option maxRecDepth 100000 in
theorem packEncodes_walk (W : World) (args : Array Value) (h : All2 (ArgOk Try.prog W) args.toList Try.f6.params.toList) :
    Calls Try.prog 6 args W fun e W' => e = .returned (.bool true) ∧ Below W.heap.size W W' := by
  rw [Try.params6] at h
  obtain ⟨v, l1, hv, h1, h0⟩ := All2.cons_ h
  have h2 := All2.nil_ h0
  subst h2
  obtain rfl : args = #[v] := by cases args; simp_all
  obtain ⟨r, rfl⟩ := arg_record h1
  exact packEncodes_calls r W
end Go.Proofs.Ytkjlafpafmihaaa
