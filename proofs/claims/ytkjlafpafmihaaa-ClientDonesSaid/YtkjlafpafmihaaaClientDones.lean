/- 'berthshiftlaw.ClientDones' returns true at every client and id; the client that it is given is as it was. -/
import Derived.Test.YtkjlafpafmihaaaCltDoneR
namespace Go.Proofs.Ytkjlafpafmihaaa
open Go.ChangeShapes Go.WideShapes Go.RowKit

set_option maxRecDepth 100000 in
set_option maxHeartbeats 2000000 in
theorem clientDones_calls (p nx : Int) (A : Option Addr) (n c : Nat) (l : List Ev) (x : Four4) (id : Int) (w : World) (h : Rd w w.heap.size 6 A n (evCells l)) (hm : n ≤ maxLen) (hc : n * 48 ≤ reachBytes) :
    Calls Try.prog 10 #[.agg #[.int .i64 p, .int .i64 nx, .slice A n c, .int .i64 x.a, .int .i64 x.b, .int .i64 x.c, .int .i64 x.d], .int .i64 id] w fun e w' => e = .returned (.bool true) ∧ Below w.heap.size w w' := by
  have H := Lib.hid h
  have H1 := Lib.hid (fun w h => clients_calls p nx A n c l x w h hc)
  have H2 := Lib.hid (fun (A : Option Addr) (c : Nat) w h => Done_calls p nx A n c l x id w h hm hc)
  have H3 := Lib.hid (fun w h => ClientDone_calls p nx A n c l x id w h hm hc)
  generalize doneC p nx l x id = z at H2 H3
  obtain ⟨⟨zp, zn, zl, z0, z1, z2, z3⟩, zk⟩ := z
  clear h
  obtain ⟨xa, xb, xc, xd⟩ := x
  simp only at H1 H2 H3 ⊢
  go_enter Try.func10, Try.ntmps10
  go_wp2_with fail
  refine (H1.out _ (by exact H.out.on (by go_grown))).mono ?_
  rintro e w1 ⟨A1, c1, rfl, hb1, hown⟩
  have B1 := (Blk.new w _ _).below hb1 (by simp)
  have HR := Lib.hid (Rd.of_own hown)
  have hz1 : w.heap.size < w1.heap.size := B1.lt
  have HB : Hid (Below w.heap.size w w1) := Lib.hid (Below.trans (by go_grown) (hb1.mono (by simp)))
  clear hb1 hown
  go_wp2_with fail
  refine (H2.out A1 c1 _ (by exact HR.out.on (by go_grown))).mono ?_
  rintro e w2 ⟨A2, n2, c2, rfl, hb2, hr2, hn2⟩
  simp only at hr2 hn2
  have C1 := (B1.alloc _).on hb2
  have CC := (Blk.new w1 _ _).on hb2
  have HRC := Lib.hid ((HR.out.on (by go_grown)).on hb2)
  have HB2 := Lib.hid ((HB.out.alloc (by omega) _).trans (hb2.mono (by simp; omega)))
  have HR2 := Lib.hid hr2
  have hz2 : w1.heap.size < w2.heap.size := CC.lt
  have hz20 : w.heap.size < w2.heap.size := by omega
  obtain ⟨c0, c1', c2', c3, c4, c5, c6, cf⟩ := C1.cells7
  clear hb2 B1 hr2 HR HB
  simp only
  go_wp2_with fail
  refine (H3.out _ (by have hB := HB2.out; exact H.out.on (by go_grown))).mono ?_
  rintro e w3 ⟨A3, n3, c3', rfl, hb3, hr3, hn3⟩
  simp only at hr3 hn3
  have D1 := (C1.alloc _).on hb3
  have DC := (CC.alloc _).on hb3
  have DZ := (Blk.new w2 _ _).on hb3
  have HB3 : Hid (Below w.heap.size w w3) := Lib.hid ((HB2.out.alloc (by omega) _).trans (hb3.mono (by simp; omega)))
  have HR3 := Lib.hid hr3
  have HR2' := Lib.hid ((HR2.out.on (by go_grown)).on hb3)
  have HRC' := Lib.hid ((HRC.out.on (by go_grown)).on hb3)
  have hz30 : w2.heap.size < w3.heap.size := DZ.lt
  have hz31 : w1.heap.size < w3.heap.size := by omega
  have hz32 : w.heap.size < w3.heap.size := by omega
  clear hb3 hr3 HR2 HRC HB2 C1 CC c0 c1' c2' c3 c4 c5 c6 cf
  obtain ⟨d0, d1, d2, d3, d4, d5, d6, df⟩ := DZ.cells7
  obtain ⟨f0, f1, f2, f3, f4, f5, f6, ff⟩ := DC.cells7
  obtain ⟨g0, g1, g2, g3, g4, g5, g6, gf⟩ := D1.cells7
  simp only
  go_wp2_with fail
  refine (sameClient_calls A2 A3 n2 c2 n3 c3' zl zl zp zp zn zn ⟨z0, z1, z2, z3⟩ ⟨z0, z1, z2, z3⟩ _ (by exact HR2'.out.on (by go_grown)) (by exact HR3.out.on (by go_grown)) hn2 hn3).mono ?_
  rintro e w4 ⟨rfl, hb4⟩
  have HB4 : Hid (Below w.heap.size w w4) := Lib.hid ((HB3.out.alloc (by omega) _).trans (hb4.mono (by simp; omega)))
  have F1 := (D1.alloc _).on hb4
  have FC := (DC.alloc _).on hb4
  have HRC4 := Lib.hid ((HRC'.out.on (by go_grown)).on hb4)
  clear hb4 D1 DC DZ d0 d1 d2 d3 d4 d5 d6 df f0 f1 f2 f3 f4 f5 f6 ff g0 g1 g2 g3 g4 g5 g6 gf
  obtain ⟨f0, f1, f2, f3, f4, f5, f6, ff⟩ := FC.cells7
  obtain ⟨g0, g1, g2, g3, g4, g5, g6, gf⟩ := F1.cells7
  have hs : (zp == zp && zn == zn && decide ((⟨z0, z1, z2, z3⟩ : Four4) = ⟨z0, z1, z2, z3⟩) && decide (zl = zl)) = true := by simp
  rw [hs]
  clear hs
  go_wp2_with fail
  refine (sameClient_calls A1 A n c1 n c l l p p nx nx ⟨xa, xb, xc, xd⟩ ⟨xa, xb, xc, xd⟩ _ (by exact HRC4.out) (by have hB := HB4.out; exact H.out.on (by go_grown)) hm hm).mono ?_
  rintro e w5 ⟨rfl, hb5⟩
  have HB5 : Hid (Below w.heap.size w w5) := Lib.hid (HB4.out.trans (hb5.mono HB4.out.size))
  clear hb5
  have hs : (p == p && nx == nx && decide ((⟨xa, xb, xc, xd⟩ : Four4) = ⟨xa, xb, xc, xd⟩) && decide (l = l)) = true := by simp
  rw [hs]
  clear hs
  go_wp2_with fail
  go_ret
  exact ⟨by simp, HB5.out⟩

set_option maxRecDepth 100000 in
theorem clientDones_walk (W : World) (args : Array Value) (h : All2 (ArgOk Try.prog W) args.toList Try.f10.params.toList) :
    Calls Try.prog 10 args W fun e W' => e = .returned (.bool true) ∧ Below W.heap.size W W' := by
  rw [Try.params10] at h
  obtain ⟨v, l1, hv, h1, h0⟩ := All2.cons_ h
  obtain ⟨v0, l2, hv0, ⟨⟨base0, hk0⟩, _⟩, g0⟩ := All2.cons_ h0
  have h4 := All2.nil_ g0
  subst h4
  subst hv0
  obtain rfl : args = #[v, v0] := by cases args; simp_all
  obtain ⟨p, nx, A, n, c, l, x, rfl, hr, hn, hc, hb⟩ := arg_client h1
  obtain ⟨id, rfl⟩ := okWide_int Try.underlying3 hk0
  exact clientDones_calls p nx A n c l x id W hr (Nat.le_trans hn hc) (by omega)
end Go.Proofs.Ytkjlafpafmihaaa
