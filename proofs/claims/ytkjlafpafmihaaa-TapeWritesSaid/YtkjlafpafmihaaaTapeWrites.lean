/- 'berthshiftlaw.TapeWrites' returns true at every tape and record; the tape that it is given is as it was. -/
import Derived.Test.YtkjlafpafmihaaaTWrite
namespace Go.Proofs.Ytkjlafpafmihaaa
open Go.ChangeShapes Go.WideShapes Go.RowKit

set_option maxRecDepth 100000 in
set_option maxHeartbeats 4000000 in
theorem tapeWrites_calls (A : Option Addr) (n c : Nat) (l : List UInt8) (s : Int) (r : Rcd) (w : World) (h : Rd w w.heap.size 1 A n (byteCells l)) (hc : n ≤ reachBytes) :
    Calls Try.prog 12 #[.agg #[.slice A n c, .int .i64 s], r.val] w fun e w' => e = .returned (.bool true) ∧ Below w.heap.size w w' := by
  have HT := Lib.hid fun w h => tapes_calls A n c l s w h hc
  have HP := Lib.hid fun A n c w h => Write_calls A n c l s r w h
  have HQ := Lib.hid fun A n c w h => Written_calls A n c l s r w h
  generalize writeM l s r = z at HP HQ
  obtain ⟨x, y, zk⟩ := z
  obtain ⟨k, q, ep, pr, x0, x1, x2, x3, x4, x5⟩ := r
  unfold Rcd.val at HP HQ ⊢
  simp only at HP HQ ⊢
  have H := Lib.hid h
  clear h
  go_enter Try.func12, Try.ntmps12
  go_wp2_with fail
  refine (HT.out _ (by exact H.out.on (by go_grown))).mono ?_
  rintro e w1 ⟨A1, c1, rfl, hb1, hown1⟩
  have B0 := ((Blk.new w _ _).alloc _).below hb1 (by simp; omega)
  have B1 := (Blk.new1 w _ _ _).below hb1 (by simp)
  have hz1 : w.heap.size + 1 < w1.heap.size := B1.lt
  have hz10 : w.heap.size < w1.heap.size := by omega
  have HB1 : Hid (Below w.heap.size w w1) := Lib.hid (Below.trans (by go_grown) (hb1.mono (by simp; omega)))
  have R1 := Lib.hid (Rd.of_own hown1)
  obtain ⟨c0, d1, d2, d3, d4, d5, d6, d7, d8, d9, cf⟩ := B1.cells10
  clear hb1 hown1
  go_wp2_with fail
  refine (HP.out A1 n c1 _ (by exact R1.out.on (by go_grown))).mono ?_
  rintro e w2 ⟨A2, c2, rfl, hb2, hr2⟩
  simp only at hr2
  have C0 := (B0.alloc _).on hb2
  have C1 := (B1.alloc _).on hb2
  have CC := (Blk.new w1 _ _).on hb2
  have R1 := Lib.hid ((R1.out.on (by go_grown)).on hb2)
  have HB2 := Lib.hid ((HB1.out.alloc (by omega) _).trans (hb2.mono (by simp; omega)))
  have R2 := Lib.hid hr2
  have hz2 : w1.heap.size < w2.heap.size := CC.lt
  have hz20 : w.heap.size < w2.heap.size := by omega
  have hz21 : w.heap.size + 1 < w2.heap.size := by omega
  clear hb2 hr2 c0 d1 d2 d3 d4 d5 d6 d7 d8 d9 cf B0 B1
  obtain ⟨c0, d1, d2, d3, d4, d5, d6, d7, d8, d9, cf⟩ := C1.cells10
  obtain ⟨g0, g1, gf⟩ := C0.cells2
  simp only
  go_wp2_with fail
  refine (HQ.out A n c _ (by have hB := HB2.out; exact H.out.on (by go_grown))).mono ?_
  rintro e w3 ⟨A3, c3, rfl, hb3, hr3⟩
  simp only at hr3
  have D0 := (C0.alloc _).on hb3
  have DC := (CC.alloc _).on hb3
  have DA := (Blk.new w2 _ _).on hb3
  have R1 := Lib.hid ((R1.out.on (by go_grown)).on hb3)
  have R2 := Lib.hid ((R2.out.on (by go_grown)).on hb3)
  have HB3 := Lib.hid ((HB2.out.alloc (by omega) _).trans (hb3.mono (by simp; omega)))
  have R3 := Lib.hid hr3
  have hz3 : w2.heap.size < w3.heap.size := DA.lt
  have hz30 : w.heap.size < w3.heap.size := by omega
  have hz31 : w1.heap.size < w3.heap.size := by omega
  clear hb3 hr3 c0 d1 d2 d3 d4 d5 d6 d7 d8 d9 cf C0 C1 CC g0 g1 gf
  obtain ⟨g0, g1, gf⟩ := D0.cells2
  obtain ⟨f0, f1, ff⟩ := DC.cells2
  obtain ⟨e0, e1, ef⟩ := DA.cells2
  simp only
  go_wp2_with fail
  refine (sameTape_calls A2 A3 x.length c2 x.length c3 x x y y _ (by exact R2.out.on (by go_grown)) (by exact R3.out.on (by go_grown))).mono ?_
  rintro e w4 ⟨rfl, hb4⟩
  have F0 := (D0.alloc _).on hb4
  have FC := (DC.alloc _).on hb4
  have R1 := Lib.hid ((R1.out.on (by go_grown)).on hb4)
  have HB4 := Lib.hid ((HB3.out.alloc (by omega) _).trans (hb4.mono (by simp; omega)))
  clear hb4 g0 g1 gf f0 f1 ff e0 e1 ef D0 DC DA
  obtain ⟨g0, g1, gf⟩ := F0.cells2
  obtain ⟨f0, f1, ff⟩ := FC.cells2
  have hs : (y == y && x == x) = true := by simp
  rw [hs]
  clear hs
  go_wp2_with fail
  refine (sameTape_calls A1 A n c1 n c l l s s _ (by exact R1.out) (by exact H.out.on HB4.out)).mono ?_
  rintro e w5 ⟨rfl, hb5⟩
  have HB5 := Lib.hid (HB4.out.trans (hb5.mono HB4.out.size))
  clear hb5
  have hs : (s == s && l == l) = true := by simp
  rw [hs]
  clear hs
  go_wp2_with fail
  go_ret
  exact ⟨by simp, HB5.out⟩

set_option maxRecDepth 100000 in
theorem tapeWrites_walk (W : World) (args : Array Value) (h : All2 (ArgOk Try.prog W) args.toList Try.f12.params.toList) :
    Calls Try.prog 12 args W fun e W' => e = .returned (.bool true) ∧ Below W.heap.size W W' := by
  rw [Try.params12] at h
  obtain ⟨v, l1, hv, h1, h0⟩ := All2.cons_ h
  obtain ⟨v', l2, hv', hk, h2⟩ := All2.cons_ h0
  have h3 := All2.nil_ h2
  subst h3
  subst hv'
  obtain rfl : args = #[v, v'] := by cases args; simp_all
  obtain ⟨A, n, c, l, s, rfl, hr, _, hb⟩ := arg_tape h1
  obtain ⟨r, rfl⟩ := arg_record hk
  exact tapeWrites_calls A n c l s r W hr hb
end Go.Proofs.Ytkjlafpafmihaaa
