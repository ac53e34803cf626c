/- Parts of proofs: lemmas on memory, on single functions and on the plain models; no condition of their own. -/
import Derived.Test.YtkjlafpafmihaaaRows
import Derived.WalkKit
import Derived.ProofKit
import Derived.OpenShut
import Derived.SizedLaws
import Derived.WalkSpells
import Derived.WalkLawsBesides
import Derived.Handy
import Derived.Deep.QuietTactic
import Derived.BigQuiet
import Derived.Lib.Hide
import Derived.Maps.AppendAt
import Derived.Deep.AppendLies
import Derived.RegionTactic
import Derived.OwnWalk
import Derived.Laws.Tables
import Derived.Deep.MidRow
import Derived.StillTailTactics
import Derived.OrdersHeld
import Derived.Deep.RegionHeld3
import Derived.Laws.IdiomCopy
import Derived.ChangeKeysEq
import Derived.Laws.BitsAllLaws
import Derived.Deep.DeepCutAuto
import Derived.Deep.CutRange
import Derived.Shelf.SlSortCmp.WholeK
import Derived.Shelf.SlSortCmp.NoneTotal
import Derived.Shelf.SlicesG.Cmp
import Derived.Shelf.SlGeneric
import Derived.Ground.SlsfProg
import Derived.Ground.SlgcProg
import Derived.Maps.OwnSet
import Derived.Lib.SliceRun
import Derived.Deep.RegionLaw
import Derived.Test.YtkjlafpafmihaaaG0e35ec4e0bdc
import Derived.Test.YtkjlafpafmihaaaG1674246300aa
import Derived.Test.YtkjlafpafmihaaaG2143c9b0b786
import Derived.Test.YtkjlafpafmihaaaG3c0105795df2
import Derived.Test.YtkjlafpafmihaaaG3cad135f796d
import Derived.Test.YtkjlafpafmihaaaG3d16030d529c
import Derived.Test.YtkjlafpafmihaaaG527bea714f09
import Derived.Test.YtkjlafpafmihaaaG668153da7687
import Derived.Test.YtkjlafpafmihaaaG6864b573849f
import Derived.Test.YtkjlafpafmihaaaG9d6a0cc61d66
import Derived.Test.YtkjlafpafmihaaaGa60a71c986f2
import Derived.Test.YtkjlafpafmihaaaGa89c1a6f9966
import Derived.Test.YtkjlafpafmihaaaGa956530333d6
import Derived.Test.YtkjlafpafmihaaaGa9878bd86bfb
import Derived.Test.YtkjlafpafmihaaaGaa4a32ccdcb1
import Derived.Test.YtkjlafpafmihaaaGad4fca606e19
import Derived.Test.YtkjlafpafmihaaaGad8ff53a6080
import Derived.Test.YtkjlafpafmihaaaGae0ac1618302
import Derived.Test.YtkjlafpafmihaaaGb705d1f06a25
import Derived.Test.YtkjlafpafmihaaaGc78e27da6ed6
import Derived.Test.YtkjlafpafmihaaaGedeed8e41c13
import Derived.Test.YtkjlafpafmihaaaGfed51b8f206e
set_option linter.unusedVariables false
set_option linter.unusedSimpArgs false

namespace Go.Proofs.Ytkjlafpafmihaaa
open Go.ChangeShapes Go.WideShapes Go.RowKit

theorem do_small (Q : Qd) (e : Ev) : (doM Q e).1.ready.length + (doM Q e).1.leases.length ≤ 501 := by
  by_cases h0 : Q.fault = 0
  · by_cases h1 : evFault e = 0
    · rw [do_ok h0 h1]
      have h2 := (qf_zero h0).1
      unfold rngQ at h2
      have := step_len (Q := Q) (e := e)
      simp only
      omega
    · rw [do_ef h0 h1]; simp [zeroQd]
  · rw [do_qf h0]; simp [zeroQd]

set_option maxRecDepth 100000 in
set_option maxHeartbeats 2000000 in
theorem queueDoes_calls (ep nx gv kd pr id bd he hn : Int) (A1 A2 : Option Addr) (c1 c2 : Nat) (rs : List Msg) (ls : List Ls) (W : Wins) (w : World) (h1 : Rd w w.heap.size 2 A1 rs.length (rs.flatMap Msg.cells)) (h2 : Rd w w.heap.size 4 A2 ls.length (ls.flatMap Ls.cells)) (hb1 : rs.length * 16 ≤ reachBytes) (hb2 : ls.length * 32 ≤ reachBytes) :
    Calls Try.prog 15 #[.agg (qRow ep nx gv (.slice A1 rs.length c1) (.slice A2 ls.length c2) W), .agg #[.int .i64 kd, .int .i64 pr, .int .i64 id, .int .i64 bd, .int .i64 he, .int .i64 hn]] w fun e w' => e = .returned (.bool true) ∧ Below w.heap.size w w' := by
 have S := ((St.start w).addRd h2).addRd h1; clear h1 h2
 have HD1 := fun A1 A2 c1 c2 w h1 h2 => Do_calls ep nx gv kd pr id bd he hn A1 A2 c1 c2 rs ls W w h1 h2 hb1 hb2
 have HD2 := fun A1 A2 c1 c2 w h1 h2 => QueueDone_calls ep nx gv kd pr id bd he hn A1 A2 c1 c2 rs ls W w h1 h2 hb1 hb2
 have hsm := do_small ⟨ep, nx, gv, rs, ls, W⟩ ⟨kd, pr, id, bd, he, hn⟩
 generalize doM ⟨ep, nx, gv, rs, ls, W⟩ ⟨kd, pr, id, bd, he, hn⟩ = R at HD1 HD2 hsm
 unfold reachBytes at hb1 hb2
 refine calls_of_wC (N := 55) (vs := [.agg (qRow ep nx gv (.slice A1 rs.length c1) (.slice A2 ls.length c2) W), .agg #[.int .i64 kd, .int .i64 pr, .int .i64 id, .int .i64 bd, .int .i64 he, .int .i64 hn]]) Try.func15 rfl rfl rfl ?_
 refine wC_sub (l' := [(0, .agg (qRow ep nx gv (.slice A1 rs.length c1) (.slice A2 ls.length c2) W)), (1, .agg #[.int .i64 kd, .int .i64 pr, .int .i64 id, .int .i64 bd, .int .i64 he, .int .i64 hn])]) ⟨rfl, rfl, trivial⟩ (wC_seq (wC_region (wL_new (V := fun b => .pointer (some ⟨b, 0, none⟩)) (row := qRow ep nx gv (.slice A1 rs.length c1) (.slice A2 ls.length c2) W) (t := 29) S (wn rfl) rfl rfl (d_box rfl rfl rfl) ?_))); intro b1 w2 S3; clear S
 refine wL_new (V := fun b => .pointer (some ⟨b, 0, none⟩)) (row := #[.int .i64 kd, .int .i64 pr, .int .i64 id, .int .i64 bd, .int .i64 he, .int .i64 hn]) (t := 37) S3 (wn rfl) rfl rfl (d_box rfl rfl rfl) ?_; intro b4 w5 S6; clear S3
 refine wL_val (wn rfl) rfl rfl (y_assign rfl rfl) ?_
 refine wL_nil (wQ_sub (l' := [(2, _), (3, _), (4, _)]) ⟨rfl, rfl, rfl, trivial⟩ (wQ_then (wC_seq (wC_region (wL_val (wn rfl) rfl rfl (y_load rfl rfl (r_load_row 1 S6 rfl Try.underlying29 rfl inf29 rfl)) ?_)))))
 refine wL_call (vs := [.agg (qRow ep nx gv (.slice A1 rs.length c1) (.slice A2 ls.length c2) W)]) (wn rfl) rfl rfl (e_call (vs := [.agg (qRow ep nx gv (.slice A1 rs.length c1) (.slice A2 ls.length c2) W)]) rfl en31 ⟨rfl, trivial⟩) (queues_calls ep nx gv A1 A2 c1 c2 rs ls W _ (St.rd 2 S6 rfl) (St.rd 3 S6 rfl) hb1 hb2) ?_
 rintro _ w11 ⟨A7, c8, A9, c10, rfl, T13⟩
 refine ⟨_, rfl, ?_⟩
 have S12 := S6.ext T13 rfl; clear T13 S6
 change St _ _ _ [.own 141 4 (.slice A9 ls.length c10) ls.length ((ls).flatMap Ls.cells), .own 137 2 (.slice A7 rs.length c8) rs.length ((rs).flatMap Msg.cells), _, _, _, _] at S12
 refine wL_new (V := fun b => .pointer (some ⟨b, 0, none⟩)) (row := qRow 0 0 0 (.slice none 0 0) (.slice none 0 0) zeroWs) (t := 29) S12 (wn rfl) rfl rfl (d_alloc rfl (Try.zeroValue29 _) rfl) ?_; intro b14 w15 S16; clear S12
 refine wL_st (fs' := [_, _, _, _, _, _, _]) 0 S16 (wn rfl) rfl rfl rfl rfl rfl rfl inf29 rfl (qRow_one rfl rfl) (Nat.le_of_ble_eq_true rfl) (setAll_all rfl) rfl ?_; intro w17 S18; clear S16
 refine wL_nil (wQ_sub (l' := [(2, _), (3, _), (4, _), (5, _)]) ⟨rfl, rfl, rfl, rfl, trivial⟩ (wQ_then (wC_seq (wC_region (wL_val (wn rfl) rfl rfl (y_load rfl rfl (r_load_row 0 S18 rfl Try.underlying29 rfl inf29 rfl)) ?_)))))
 refine wL_val (wn rfl) rfl rfl (y_load rfl rfl (r_load_row 3 S18 rfl Try.underlying37 rfl inf37 rfl)) ?_
 refine wL_call (vs := [.agg (qRow ep nx gv (.slice A7 rs.length c8) (.slice A9 ls.length c10) W), .agg #[.int .i64 kd, .int .i64 pr, .int .i64 id, .int .i64 bd, .int .i64 he, .int .i64 hn]]) (wn rfl) rfl rfl (e_call (vs := [.agg (qRow ep nx gv (.slice A7 rs.length c8) (.slice A9 ls.length c10) W), .agg #[.int .i64 kd, .int .i64 pr, .int .i64 id, .int .i64 bd, .int .i64 he, .int .i64 hn]]) rfl en66 ⟨rfl, rfl, trivial⟩) (HD1 A7 A9 c8 c10 _ (St.ord 2 S18 rfl) (St.ord 1 S18 rfl)) ?_
 rintro _ w23 ⟨A19, c20, A21, c22, rfl, T25⟩
 refine ⟨_, rfl, ?_⟩
 have S24 := S18.ext T25 rfl; clear T25 S18
 change St _ _ _ [.rdo 2 A19 R.1.ready.length ((R.1.ready).flatMap Msg.cells), .rdo 4 A21 R.1.leases.length ((R.1.leases).flatMap Ls.cells), _, _, _, _, _, _, _] at S24
 refine wL_val (wn rfl) rfl rfl (y_move rfl rfl) ?_
 refine wL_val (wn rfl) rfl rfl (y_extract rfl rfl rfl) ?_
 refine wL_val (wn rfl) rfl rfl (y_extract rfl rfl rfl) ?_
 refine wL_val (wn rfl) rfl rfl (y_extract rfl rfl rfl) ?_
 refine wL_val (wn rfl) rfl rfl (y_extract rfl rfl rfl) ?_
 refine wL_new (V := fun b => .pointer (some ⟨b, 0, none⟩)) (row := qRow 0 0 0 (.slice none 0 0) (.slice none 0 0) zeroWs) (t := 29) S24 (wn rfl) rfl rfl (d_alloc rfl (Try.zeroValue29 _) rfl) ?_; intro b26 w27 S28; clear S24
 refine wL_new (V := fun b => .pointer (some ⟨b, 0, none⟩)) (row := #[.int .i64 0, .int .i64 0, .int .i64 0, .int .i64 0]) (t := 93) S28 (wn rfl) rfl rfl (d_alloc rfl (Try.zeroValue93 _) rfl) ?_; intro b29 w30 S31; clear S28
 refine wL_st (fs' := [_, _, _, _, _, _, _, _, _, _, _]) 1 S31 (wn rfl) rfl rfl rfl rfl rfl rfl inf29 rfl (qRow_one rfl rfl) (Nat.le_of_ble_eq_true rfl) (setAll_all rfl) rfl ?_; intro w32 S33; clear S31
 refine wL_st (fs' := [_, _, _, _, _, _, _, _, _, _, _]) 0 S33 (wn rfl) rfl rfl rfl rfl rfl rfl inf93 rfl (oneAll rfl) (Nat.le_of_ble_eq_true rfl) (setAll_all rfl) rfl ?_; intro w34 S35; clear S33
 refine wL_val (wn rfl) rfl rfl (y_assign rfl rfl) ?_
 refine wL_val (wn rfl) rfl rfl (y_assign rfl rfl) ?_
 refine wL_nil (wQ_sub (l' := [(2, _), (3, _), (4, _), (5, _), (6, _), (7, _), (8, _), (9, _)]) ⟨rfl, rfl, rfl, rfl, rfl, rfl, rfl, rfl, trivial⟩ (wQ_then (wC_seq (wC_region (wL_val (wn rfl) rfl rfl (y_load rfl rfl (r_load_row 8 S35 rfl Try.underlying29 rfl inf29 rfl)) ?_)))))
 refine wL_val (wn rfl) rfl rfl (y_load rfl rfl (r_load_row 7 S35 rfl Try.underlying37 rfl inf37 rfl)) ?_
 refine wL_call (vs := [.agg (qRow ep nx gv (.slice A1 rs.length c1) (.slice A2 ls.length c2) W), .agg #[.int .i64 kd, .int .i64 pr, .int .i64 id, .int .i64 bd, .int .i64 he, .int .i64 hn]]) (wn rfl) rfl rfl (e_call (vs := [.agg (qRow ep nx gv (.slice A1 rs.length c1) (.slice A2 ls.length c2) W), .agg #[.int .i64 kd, .int .i64 pr, .int .i64 id, .int .i64 bd, .int .i64 he, .int .i64 hn]]) rfl en67 ⟨rfl, rfl, trivial⟩) (HD2 A1 A2 c1 c2 _ (St.rd 9 S35 rfl) (St.rd 10 S35 rfl)) ?_
 rintro _ w40 ⟨A36, c37, A38, c39, rfl, T42⟩
 refine ⟨_, rfl, ?_⟩
 have S41 := S35.ext T42 rfl; clear T42 S35
 change St _ _ _ [.rdo 2 A36 R.1.ready.length ((R.1.ready).flatMap Msg.cells), .rdo 4 A38 R.1.leases.length ((R.1.leases).flatMap Ls.cells), _, _, _, _, _, _, _, _, _, _, _] at S41
 refine wL_val (wn rfl) rfl rfl (y_move rfl rfl) ?_
 refine wL_val (wn rfl) rfl rfl (y_extract rfl rfl rfl) ?_
 refine wL_val (wn rfl) rfl rfl (y_extract rfl rfl rfl) ?_
 refine wL_val (wn rfl) rfl rfl (y_extract rfl rfl rfl) ?_
 refine wL_val (wn rfl) rfl rfl (y_extract rfl rfl rfl) ?_
 refine wL_new (V := fun b => .pointer (some ⟨b, 0, none⟩)) (row := qRow 0 0 0 (.slice none 0 0) (.slice none 0 0) zeroWs) (t := 29) S41 (wn rfl) rfl rfl (d_alloc rfl (Try.zeroValue29 _) rfl) ?_; intro b43 w44 S45; clear S41
 refine wL_new (V := fun b => .pointer (some ⟨b, 0, none⟩)) (row := #[.int .i64 0, .int .i64 0, .int .i64 0, .int .i64 0]) (t := 93) S45 (wn rfl) rfl rfl (d_alloc rfl (Try.zeroValue93 _) rfl) ?_; intro b46 w47 S48; clear S45
 refine wL_st (fs' := [_, _, _, _, _, _, _, _, _, _, _, _, _, _, _]) 1 S48 (wn rfl) rfl rfl rfl rfl rfl rfl inf29 rfl (qRow_one rfl rfl) (Nat.le_of_ble_eq_true rfl) (setAll_all rfl) rfl ?_; intro w49 S50; clear S48
 refine wL_st (fs' := [_, _, _, _, _, _, _, _, _, _, _, _, _, _, _]) 0 S50 (wn rfl) rfl rfl rfl rfl rfl rfl inf93 rfl (oneAll rfl) (Nat.le_of_ble_eq_true rfl) (setAll_all rfl) rfl ?_; intro w51 S52; clear S50
 refine wL_val (wn rfl) rfl rfl (y_assign rfl rfl) ?_
 refine wL_val (wn rfl) rfl rfl (y_assign rfl rfl) ?_
 refine wL_nil (wQ_sub (l' := [(2, _), (4, _), (5, _), (6, _), (7, _), (8, _), (9, _), (10, _), (11, _), (12, _), (13, _)]) ⟨rfl, rfl, rfl, rfl, rfl, rfl, rfl, rfl, rfl, rfl, rfl, trivial⟩ (wQ_then (wC_seq (wC_region (wL_val (wn rfl) rfl rfl (y_load rfl rfl (r_load_row 4 S52 rfl Try.underlying93 rfl inf93 rfl)) ?_)))))
 refine wL_val (wn rfl) rfl rfl (y_load rfl rfl (r_load_row 0 S52 rfl Try.underlying93 rfl inf93 rfl)) ?_
 refine wL_val (v := .bool true) (wn rfl) rfl rfl (y_binop rfl rfl rfl (r_eqg (by kernel_rfl) (ans_eql R.2.1  _))) ?_
 refine wL_val (wn rfl) rfl rfl (y_move rfl rfl) ?_
 refine wL_val (wg rfl rfl rfl rfl) rfl rfl (y_move rfl rfl) ?_
 refine wL_val (wg rfl rfl rfl rfl) rfl rfl (y_move rfl rfl) ?_
 refine wL_val (v := .bool true) (wg rfl rfl rfl rfl) rfl rfl (y_binop rfl rfl rfl (r_beq_self Try.underlying4)) ?_
 refine wL_val (wn rfl) rfl rfl (y_pick_t rfl rfl rfl) ?_
 refine wL_val (wn rfl) rfl rfl (y_move rfl rfl) ?_
 refine wL_val (wg rfl rfl rfl rfl) rfl rfl (y_move rfl rfl) ?_
 refine wL_val (wg rfl rfl rfl rfl) rfl rfl (y_move rfl rfl) ?_
 refine wL_val (v := .bool true) (wg rfl rfl rfl rfl) rfl rfl (y_binop rfl rfl rfl (r_eql_t rfl)) ?_
 refine wL_val (wn rfl) rfl rfl (y_pick_t rfl rfl rfl) ?_
 refine wL_val (wn rfl) rfl rfl (y_move rfl rfl) ?_
 refine wL_val (wg rfl rfl rfl rfl) rfl rfl (y_load rfl rfl (r_load_row 5 S52 rfl Try.underlying29 rfl inf29 rfl)) ?_
 refine wL_val (wg rfl rfl rfl rfl) rfl rfl (y_load rfl rfl (r_load_row 1 S52 rfl Try.underlying29 rfl inf29 rfl)) ?_
 refine wL_call (vs := [.agg (qRow R.1.ep R.1.nx R.1.gv (.slice A19 R.1.ready.length c20) (.slice A21 R.1.leases.length c22) R.1.ws), .agg (qRow R.1.ep R.1.nx R.1.gv (.slice A36 R.1.ready.length c37) (.slice A38 R.1.leases.length c39) R.1.ws)]) (wg rfl rfl rfl rfl) rfl rfl (e_call (vs := [.agg (qRow R.1.ep R.1.nx R.1.gv (.slice A19 R.1.ready.length c20) (.slice A21 R.1.leases.length c22) R.1.ws), .agg (qRow R.1.ep R.1.nx R.1.gv (.slice A36 R.1.ready.length c37) (.slice A38 R.1.leases.length c39) R.1.ws)]) rfl en68 ⟨rfl, rfl, trivial⟩) (sameQueue_calls R.1.ep R.1.nx R.1.gv A19 A21 A36 A38 c20 c22 c37 c39 R.1.ready R.1.leases R.1.ws _ (St.rdo 6 S52 rfl) (St.rdo 7 S52 rfl) (St.rdo 2 S52 rfl) (St.rdo 3 S52 rfl) (by omega) (by omega)) ?_
 rintro _ w53 ⟨rfl, hb55⟩
 refine ⟨_, rfl, ?_⟩
 have S54 := S52.on hb55; clear hb55 S52
 refine wL_val (wn rfl) rfl rfl (y_pick_t rfl rfl rfl) ?_
 refine wL_val (wn rfl) rfl rfl (y_move rfl rfl) ?_
 refine wL_val (wg rfl rfl rfl rfl) rfl rfl (y_load rfl rfl (r_load_row 8 S54 rfl Try.underlying29 rfl inf29 rfl)) ?_
 refine wL_val (wg rfl rfl rfl rfl) rfl rfl (y_load rfl rfl (r_load_row 12 S54 rfl Try.underlying29 rfl inf29 rfl)) ?_
 refine wL_call (vs := [.agg (qRow ep nx gv (.slice A7 rs.length c8) (.slice A9 ls.length c10) W), .agg (qRow ep nx gv (.slice A1 rs.length c1) (.slice A2 ls.length c2) W)]) (wg rfl rfl rfl rfl) rfl rfl (e_call (vs := [.agg (qRow ep nx gv (.slice A7 rs.length c8) (.slice A9 ls.length c10) W), .agg (qRow ep nx gv (.slice A1 rs.length c1) (.slice A2 ls.length c2) W)]) rfl en68 ⟨rfl, rfl, trivial⟩) (sameQueue_calls ep nx gv A7 A9 A1 A2 c8 c10 c1 c2 rs ls W _ (St.ord 10 S54 rfl) (St.ord 9 S54 rfl) (St.rd 13 S54 rfl) (St.rd 14 S54 rfl) (by omega) (by omega)) ?_
 rintro _ w56 ⟨rfl, hb58⟩
 refine ⟨_, rfl, ?_⟩
 have S57 := S54.on hb58; clear hb58 S54
 refine wL_val (wn rfl) rfl rfl (y_pick_t rfl rfl rfl) ?_
 refine wL_val (wn rfl) rfl rfl (y_assign rfl rfl) ?_
 refine wL_nil (wQ_sub (l' := [(4, _)]) ⟨rfl, trivial⟩ (wQ_then (wC_ret (wQ_post (rs := [.tmp 4]) (vs := [.bool true]) rfl ⟨rfl, trivial⟩ ?_))))
 exact ⟨rfl, S57.low⟩

set_option maxRecDepth 100000 in
theorem queueDoes_walk (W : World) (args : Array Value) (h : All2 (ArgOk Try.prog W) args.toList Try.f15.params.toList) :
    Calls Try.prog 15 args W fun e W' => e = .returned (.bool true) ∧ Below W.heap.size W W' := by
  rw [Try.params15] at h
  obtain ⟨v, l1, hv, h1, h0⟩ := All2.cons_ h
  obtain ⟨v2, l2, hv2, h2, h3⟩ := All2.cons_ h0
  have h4 := All2.nil_ h3
  subst h4
  obtain rfl : args = #[v, v2] := by cases args; simp_all
  obtain ⟨ep, nx, gv, A1, c1, A2, c2, rs, ls, X, rfl, hr1, hr2, hb1, hb2⟩ := arg_queue h1
  obtain ⟨e, rfl⟩ := arg_event h2
  exact queueDoes_calls ep nx gv e.kind e.producer e.id e.body e.hepoch e.hno A1 A2 c1 c2 rs ls X W hr1 hr2 hb1 hb2
end Go.Proofs.Ytkjlafpafmihaaa

