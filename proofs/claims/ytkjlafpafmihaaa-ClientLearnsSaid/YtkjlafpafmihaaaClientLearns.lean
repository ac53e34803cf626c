/- 'berthshiftlaw.ClientLearns' returns true at every client, queue and node. -/
import Derived.Test.YtkjlafpafmihaaaCltLearn
namespace Go.Proofs.Ytkjlafpafmihaaa
open Go.ChangeShapes Go.WideShapes Go.RowKit

set_option maxRecDepth 100000 in
set_option maxHeartbeats 1000000 in
theorem clientLearns_calls (p nx : Int) (A : Option Addr) (n c : Nat) (l : List Ev) (x : Four4) (q node : Int) (w : World) (h : Rd w w.heap.size 6 A n (evCells l)) (hm : n ≤ maxLen) (hc : n * 48 ≤ reachBytes) :
    Calls Try.prog 7 #[.agg #[.int .i64 p, .int .i64 nx, .slice A n c, .int .i64 x.a, .int .i64 x.b, .int .i64 x.c, .int .i64 x.d], .int .i64 q, .int .i64 node] w fun e w' => e = .returned (.bool true) ∧ Below w.heap.size w w' := by
  have H := Lib.hid h
  have H1 := Lib.hid (fun w h => clients_calls p nx A n c l x w h hc)
  have H2 := Lib.hid (fun (A : Option Addr) (c : Nat) w h => Learn_calls p nx A n c l x q node w h hm hc)
  have H3 := Lib.hid (fun w h => ClientLearnt_calls p nx A n c l x q node w h hm hc)
  generalize learnC p nx l x q node = z at H2 H3
  obtain ⟨⟨zp, zn, zl, z0, z1, z2, z3⟩, zk⟩ := z
  clear h
  obtain ⟨xa, xb, xc, xd⟩ := x
  simp only at H1 H2 H3 ⊢
  go_enter Try.func7, Try.ntmps7
  go_wp2_with fail
  refine (H1.out _ (by exact H.out.on (by go_grown))).mono ?_
  rintro e w1 ⟨A1, c1, rfl, hb1, hown⟩
  have B1 := (Blk.new w _ _).below hb1 (by simp)
  have HR := Lib.hid (Rd.of_own hown)
  have HB : Hid (Below w.heap.size w w1) := Lib.hid (Below.trans (by go_grown) (hb1.mono (by simp)))
  clear hb1 hown
  go_wp2_with fail
  refine (H2.out A1 c1 _ HR.out).mono ?_
  rintro e w2 ⟨A2, n2, c2, rfl, hb2, hr2, hn2⟩
  simp only at hr2 hn2
  obtain ⟨c0, c1', c2', c3, c4, c5, c6, cf⟩ := (B1.on hb2).cells7
  have HB2 := Lib.hid (HB.out.trans (hb2.mono HB.out.size))
  have HR2 := Lib.hid hr2
  have hz2 : w.heap.size < w2.heap.size := (B1.on hb2).lt
  clear hb2 B1 hr2
  simp only
  go_wp2_with fail
  refine (H3.out _ (by have hB := HB2.out; exact H.out.on (by go_grown))).mono ?_
  rintro e w3 ⟨A3, n3, c3', rfl, hb3, hr3, hn3⟩
  simp only at hr3 hn3
  have BZ := (Blk.new w2 _ _).below hb3 (by simp)
  obtain ⟨d0, d1, d2, d3, d4, d5, d6, df⟩ := BZ.cells7
  have HB3 : Hid (Below w.heap.size w w3) := Lib.hid (Below.trans (HB2.out.alloc (by omega) _) (hb3.mono (by simp; omega)))
  have HR3 := Lib.hid hr3
  have HR2' : Hid (Rd w3 w3.heap.size 6 A2 n2 (evCells zl)) := Lib.hid ((HR2.out.alloc (Nat.le_refl _) _).below hb3 (by simp) |>.more (by have := hb3.size; simp at this; omega))
  have hz3 : w2.heap.size < w3.heap.size := BZ.lt
  clear hb3 hr3 BZ
  simp only
  go_wp2_with fail
  refine (sameClient_calls A2 A3 n2 c2 n3 c3' zl zl zp zp zn zn ⟨z0, z1, z2, z3⟩ ⟨z0, z1, z2, z3⟩ _ (by exact HR2'.out.on (by go_grown)) (by exact HR3.out.on (by go_grown)) hn2 hn3).mono ?_
  rintro e w4 ⟨rfl, hb4⟩
  have HB4 : Hid (Below w.heap.size w w4) := Lib.hid (Below.trans (HB3.out.alloc (by omega) _) (hb4.mono (by simp; omega)))
  clear hb4
  have hs : (zp == zp && zn == zn && decide ((⟨z0, z1, z2, z3⟩ : Four4) = ⟨z0, z1, z2, z3⟩) && decide (zl = zl)) = true := by simp
  rw [hs]
  clear hs
  go_wp2_with fail
  go_ret
  exact ⟨by simp, HB4.out⟩

set_option maxRecDepth 100000 in
theorem clientLearns_walk (W : World) (args : Array Value) (h : All2 (ArgOk Try.prog W) args.toList Try.f7.params.toList) :
    Calls Try.prog 7 args W fun e W' => e = .returned (.bool true) ∧ Below W.heap.size W W' := by
  rw [Try.params7] at h
  obtain ⟨v, l1, hv, h1, h0⟩ := All2.cons_ h
  obtain ⟨v0, l2, hv0, ⟨⟨base0, hk0⟩, _⟩, g0⟩ := All2.cons_ h0
  obtain ⟨v1, l3, hv1, ⟨⟨base1, hk1⟩, _⟩, g1⟩ := All2.cons_ g0
  have h4 := All2.nil_ g1
  subst h4
  subst hv1
  subst hv0
  obtain rfl : args = #[v, v0, v1] := by cases args; simp_all
  obtain ⟨p, nx, A, n, c, l, x, rfl, hr, hn, hc, hb⟩ := arg_client h1
  obtain ⟨q, rfl⟩ := okWide_int Try.underlying3 hk0
  obtain ⟨node, rfl⟩ := okWide_int Try.underlying3 hk1
  exact clientLearns_calls p nx A n c l x q node W hr (Nat.le_trans hn hc) (by omega)
end Go.Proofs.Ytkjlafpafmihaaa
