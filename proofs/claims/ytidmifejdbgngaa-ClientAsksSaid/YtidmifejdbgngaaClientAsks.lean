/- 'berthshiftlaw.ClientAsks' returns true at every client and queue. -/
import Derived.Test.YtidmifejdbgngaaCltAsk
namespace Go.Proofs.Ytidmifejdbgngaa
open Go.ChangeShapes Go.WideShapes Go.RowKit

set_option maxRecDepth 100000 in
set_option maxHeartbeats 1000000 in
theorem clientAsks_calls (p nx : Int) (A : Option Addr) (n c : Nat) (l : List Ev) (x : Four4) (q : Int) (w : World) (h : Rd w w.heap.size 6 A n (evCells l)) (hm : n ≤ maxLen) (hc : n * 48 ≤ reachBytes) :
    Calls Try.prog 6 #[.agg #[.int .i64 p, .int .i64 nx, .slice A n c, .int .i64 x.a, .int .i64 x.b, .int .i64 x.c, .int .i64 x.d], .int .i64 q] w fun e w' => e = .returned (.bool true) ∧ Below w.heap.size w w' := by
  have H := Lib.hid h
  have H1 := Lib.hid (fun w h => clients_calls p nx A n c l x w h hc)
  have H2 := Lib.hid (fun (A : Option Addr) (c : Nat) w h => CAsk_calls p nx A n c l x q w h hm)
  have H3 := Lib.hid (fun w h => ClientAsked_calls p nx A n c l x q w h hm)
  generalize askC p nx l x q = z at H2 H3
  obtain ⟨z1, z2⟩ := z
  clear h
  obtain ⟨xa, xb, xc, xd⟩ := x
  simp only at H1 H2 H3 ⊢
  go_enter Try.func6, Try.ntmps6
  go_wp2_with fail
  refine (H1.out _ (by exact H.out.on (by go_grown))).mono ?_
  rintro e w1 ⟨A1, c1, rfl, hb1, hown⟩
  have B1 := (Blk.new w _ _).below hb1 (by simp)
  have HR := Lib.hid (Rd.of_own hown)
  have HB : Hid (Below w.heap.size w w1) := Lib.hid (Below.trans (by go_grown) (hb1.mono (by simp)))
  clear hb1 hown
  go_wp2_with fail
  refine (H2.out A1 c1 _ HR.out).mono ?_
  rintro e w2 ⟨rfl, hb2⟩
  obtain ⟨c0, c1', c2, c3, c4, c5, c6, cf⟩ := (B1.on hb2).cells7
  have HB2 := Lib.hid (HB.out.trans (hb2.mono HB.out.size))
  clear hb2 B1
  go_wp2_with fail
  refine (H3.out _ (by exact H.out.on HB2.out)).mono ?_
  rintro e w3 ⟨rfl, hb3⟩
  have HB3 := Lib.hid (HB2.out.trans (hb3.mono HB2.out.size))
  clear hb3
  go_wp2_with fail
  go_ret
  exact ⟨by simp, HB3.out⟩

set_option maxRecDepth 100000 in
theorem clientAsks_walk (W : World) (args : Array Value) (h : All2 (ArgOk Try.prog W) args.toList Try.f6.params.toList) :
    Calls Try.prog 6 args W fun e W' => e = .returned (.bool true) ∧ Below W.heap.size W W' := by
  rw [Try.params6] at h
  obtain ⟨v, l1, hv, h1, h0⟩ := All2.cons_ h
  obtain ⟨v0, l2, hv0, ⟨⟨base0, hk0⟩, _⟩, g0⟩ := All2.cons_ h0
  have h4 := All2.nil_ g0
  subst h4
  subst hv0
  obtain rfl : args = #[v, v0] := by cases args; simp_all
  obtain ⟨p, nx, A, n, c, l, x, rfl, hr, hn, hc, hb⟩ := arg_client h1
  obtain ⟨q, rfl⟩ := okWide_int Try.underlying3 hk0
  exact clientAsks_calls p nx A n c l x q W hr (Nat.le_trans hn hc) (by omega)
end Go.Proofs.Ytidmifejdbgngaa
