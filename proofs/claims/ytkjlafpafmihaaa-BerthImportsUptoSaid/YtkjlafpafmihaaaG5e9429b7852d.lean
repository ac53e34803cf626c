/- Parts of proofs: lemmas on memory, on single functions and on the plain models; no condition of their own. -/
import Derived.Test.YtkjlafpafmihaaaRows
import Derived.WalkKit
import Derived.ProofKit
import Derived.OpenShut
import Derived.SizedLaws
import Derived.WalkSpells
import Derived.WalkLawsBesides
import Derived.Handy
import Derived.Deep.QuietTactic
import Derived.BigQuiet
import Derived.Lib.Hide
import Derived.Maps.AppendAt
import Derived.Deep.AppendLies
import Derived.RegionTactic
import Derived.OwnWalk
import Derived.Laws.Tables
import Derived.Deep.MidRow
import Derived.StillTailTactics
import Derived.OrdersHeld
import Derived.Deep.RegionHeld3
import Derived.Laws.IdiomCopy
import Derived.ChangeKeysEq
import Derived.Laws.BitsAllLaws
import Derived.Deep.DeepCutAuto
import Derived.Deep.CutRange
import Derived.Shelf.SlSortCmp.WholeK
import Derived.Shelf.SlSortCmp.NoneTotal
import Derived.Shelf.SlicesG.Cmp
import Derived.Shelf.SlGeneric
import Derived.Ground.SlsfProg
import Derived.Ground.SlgcProg
import Derived.Maps.OwnSet
import Derived.Lib.SliceRun
import Derived.Deep.RegionLaw
import Derived.Test.YtkjlafpafmihaaaG025f9f49839b
import Derived.Test.YtkjlafpafmihaaaG19e1afd8d7e3
import Derived.Test.YtkjlafpafmihaaaG4391f5675e30
import Derived.Test.YtkjlafpafmihaaaG53d9860cd554
import Derived.Test.YtkjlafpafmihaaaG5a4470397ed8
import Derived.Test.YtkjlafpafmihaaaG6c7d926bdf1e
import Derived.Test.YtkjlafpafmihaaaG712ac46ef6c7
import Derived.Test.YtkjlafpafmihaaaG7f64e302c5b9
import Derived.Test.YtkjlafpafmihaaaG8c8ada4b342a
import Derived.Test.YtkjlafpafmihaaaG90f7600ce72e
import Derived.Test.YtkjlafpafmihaaaG9b85a56455eb
import Derived.Test.YtkjlafpafmihaaaGbea5e349a2aa
import Derived.Test.YtkjlafpafmihaaaGcd1d2a0662d0
import Derived.Test.YtkjlafpafmihaaaGd7f7ec5356a9
import Derived.Test.YtkjlafpafmihaaaGd979d1ba89b9
import Derived.Test.YtkjlafpafmihaaaGdb62e807c2bc
import Derived.Test.YtkjlafpafmihaaaGe98b793de2b2
set_option linter.unusedVariables false
set_option linter.unusedSimpArgs false

namespace Go.Proofs.Ytkjlafpafmihaaa
open Go.ChangeShapes Go.WideShapes Go.RowKit

theorem Check_below (e : Ev) (w : World) : Calls Try.prog 142 #[e.val] w (IPost w (evFault e)) := (Check_calls e w).mono fun _ _ h => ⟨h.1, h.2⟩
theorem rdo_nil2 {B : Nat} {w0 w : World} (S : St B w0 w []) : St B w0 w [.rdo 2 none 0 [], .rdo 4 none 0 []] :=
  (rdo_nil S).cons ⟨Rd.none_, fun a h => by cases h⟩ fun k hk => by cases hk

set_option maxRecDepth 100000 in
set_option maxHeartbeats 4000000 in
theorem Do_calls (ep nx gv kd pr id bd he hn : Int) (A1 A2 : Option Addr) (c1 c2 : Nat) (rs : List Msg) (ls : List Ls) (W : Wins) (w : World) (h1 : Rd w w.heap.size 2 A1 rs.length (rs.flatMap Msg.cells)) (h2 : Rd w w.heap.size 4 A2 ls.length (ls.flatMap Ls.cells)) (hb1 : rs.length * 16 ≤ reachBytes) (hb2 : ls.length * 32 ≤ reachBytes) :
    Calls Try.prog 66 #[.agg (qRow ep nx gv (.slice A1 rs.length c1) (.slice A2 ls.length c2) W), .agg #[.int .i64 kd, .int .i64 pr, .int .i64 id, .int .i64 bd, .int .i64 he, .int .i64 hn]] w (QdoPost w (doM ⟨ep, nx, gv, rs, ls, W⟩ ⟨kd, pr, id, bd, he, hn⟩)) := by
 have S := ((St.start w).addRd h2).addRd h1; clear h1 h2
 refine calls_of_wC (N := 70) (vs := [.agg (qRow ep nx gv (.slice A1 rs.length c1) (.slice A2 ls.length c2) W), .agg #[.int .i64 kd, .int .i64 pr, .int .i64 id, .int .i64 bd, .int .i64 he, .int .i64 hn]]) Try.func66 rfl rfl rfl ?_
 refine wC_sub (l' := [(0, .agg (qRow ep nx gv (.slice A1 rs.length c1) (.slice A2 ls.length c2) W)), (1, .agg #[.int .i64 kd, .int .i64 pr, .int .i64 id, .int .i64 bd, .int .i64 he, .int .i64 hn])]) ⟨rfl, rfl, trivial⟩ (wC_seq (wC_region (wL_new (V := fun b => .pointer (some ⟨b, 0, none⟩)) (row := qRow ep nx gv (.slice A1 rs.length c1) (.slice A2 ls.length c2) W) (t := 29) S (wn rfl) rfl rfl (d_box rfl rfl rfl) ?_))); intro b1 w2 S3; clear S
 refine wL_new (V := fun b => .pointer (some ⟨b, 0, none⟩)) (row := #[.int .i64 kd, .int .i64 pr, .int .i64 id, .int .i64 bd, .int .i64 he, .int .i64 hn]) (t := 37) S3 (wn rfl) rfl rfl (d_box rfl rfl rfl) ?_; intro b4 w5 S6; clear S3
 refine wL_new (V := fun b => .pointer (some ⟨b, 0, none⟩)) (row := qRow 0 0 0 (.slice none 0 0) (.slice none 0 0) zeroWs) (t := 29) S6 (wn rfl) rfl rfl (d_alloc rfl (Try.zeroValue29 _) rfl) ?_; intro b7 w8 S9; clear S6
 refine wL_new (V := fun b => .pointer (some ⟨b, 0, none⟩)) (row := #[.int .i64 0, .int .i64 0, .int .i64 0, .int .i64 0]) (t := 93) S9 (wn rfl) rfl rfl (d_alloc rfl (Try.zeroValue93 _) rfl) ?_; intro b10 w11 S12; clear S9
 refine wL_val (wn rfl) rfl rfl (y_assign rfl rfl) ?_
 refine wL_val (wn rfl) rfl rfl (y_assign rfl rfl) ?_
 refine wL_nil (wQ_sub (l' := [(2, _), (3, _), (4, _), (5, _), (6, _), (7, _)]) ⟨rfl, rfl, rfl, rfl, rfl, rfl, trivial⟩ (wQ_then (wC_seq (wC_seq (wC_region (wL_val (wn rfl) rfl rfl (y_load rfl rfl (r_load_row 3 S12 rfl Try.underlying29 rfl inf29 rfl)) ?_))))))
 refine wL_call (vs := [.agg (qRow ep nx gv (.slice A1 rs.length c1) (.slice A2 ls.length c2) W)]) (wn rfl) rfl rfl (e_call (vs := [.agg (qRow ep nx gv (.slice A1 rs.length c1) (.slice A2 ls.length c2) W)]) rfl en30 ⟨rfl, trivial⟩) (QCheck_calls ep nx gv A1 A2 c1 c2 rs ls W _ (St.rd 4 S12 rfl) (St.rd 5 S12 rfl) hb1 hb2) ?_
 rintro _ w13 ⟨rfl, hb15⟩
 refine ⟨_, rfl, ?_⟩
 have S14 := S12.on hb15; clear hb15 S12
 refine wL_val (wn rfl) rfl rfl (y_assign rfl rfl) ?_
 refine wL_nil (wQ_sub (l' := [(2, _), (3, _), (4, _), (5, _), (6, _), (7, _), (8, _)]) ⟨rfl, rfl, rfl, rfl, rfl, rfl, rfl, trivial⟩ (wQ_then (wC_seq (wC_region (wL_val (wn rfl) rfl rfl (y_move rfl rfl) ?_)))))
 by_cases h0 : queueFault ep nx gv rs ls W = 0
 ·obtain ⟨hR, hW, hRd, hLs, hNd⟩ := qf_zero h0
  unfold rngQ at hR
  refine wL_val (v := .bool false) (wn rfl) rfl rfl (y_binop rfl rfl rfl (r_neq_f h0)) ?_
  refine wL_nil (wQ_sub (l' := [(2, _), (3, _), (4, _), (5, _), (6, _), (7, _), (8, _), (17, _)]) ⟨rfl, rfl, rfl, rfl, rfl, rfl, rfl, rfl, trivial⟩ (wQ_then (wC_cond_f rfl (wC_skip (wQ_then (wC_seq (wC_seq (wC_region (wL_val (wn rfl) rfl rfl (y_load rfl rfl (r_load_row 2 S14 rfl Try.underlying37 rfl inf37 rfl)) ?_)))))))))
  refine wL_call (vs := [.agg #[.int .i64 kd, .int .i64 pr, .int .i64 id, .int .i64 bd, .int .i64 he, .int .i64 hn]]) (wn rfl) rfl rfl (e_call (vs := [.agg #[.int .i64 kd, .int .i64 pr, .int .i64 id, .int .i64 bd, .int .i64 he, .int .i64 hn]]) rfl en142 ⟨rfl, trivial⟩) (Check_below ⟨kd, pr, id, bd, he, hn⟩ _) ?_
  rintro _ w16 ⟨rfl, hb18⟩
  refine ⟨_, rfl, ?_⟩
  have S17 := S14.on hb18; clear hb18 S14
  refine wL_val (wn rfl) rfl rfl (y_assign rfl rfl) ?_
  refine wL_nil (wQ_sub (l' := [(2, _), (3, _), (4, _), (5, _), (6, _), (7, _), (9, _)]) ⟨rfl, rfl, rfl, rfl, rfl, rfl, rfl, trivial⟩ (wQ_then (wC_seq (wC_region (wL_val (wn rfl) rfl rfl (y_move rfl rfl) ?_)))))
  by_cases h1 : evFault ⟨kd, pr, id, bd, he, hn⟩ = 0
  ·have hkd := ev_kind h1
   have hpr := ev_prod h1
   simp only at hkd hpr
   obtain ⟨k, hk0⟩ : ∃ k : Nat, pr = (k : Int) := ⟨pr.toNat, by omega⟩
   subst hk0
   have hk : k < 4 := by omega
   refine wL_val (v := .bool false) (wn rfl) rfl rfl (y_binop rfl rfl rfl (r_neq_f h1)) ?_
   refine wL_nil (wQ_sub (l' := [(2, _), (3, _), (4, _), (5, _), (6, _), (7, _), (9, _), (24, _)]) ⟨rfl, rfl, rfl, rfl, rfl, rfl, rfl, rfl, trivial⟩ (wQ_then (wC_cond_f rfl (wC_skip (wQ_then (wC_seq (wC_region (wL_val (wn rfl) rfl rfl (y_load rfl rfl (r_load_row 3 S17 rfl Try.underlying29 rfl inf29 rfl)) ?_))))))))
   refine wL_val (v := .agg (qRow ep nx gv (.slice A1 rs.length c1) (.slice A2 ls.length c2) W)) (wn rfl) rfl rfl (y_build (vs := [(0, .agg (qRow ep nx gv (.slice A1 rs.length c1) (.slice A2 ls.length c2) W))]) rfl ⟨rfl, rfl, trivial⟩ (by kernel_rfl)) ?_
   refine wL_new (V := fun b => .pointer (some ⟨b, 0, none⟩)) (row := qRow ep nx gv (.slice A1 rs.length c1) (.slice A2 ls.length c2) W) (t := 190) S17 (wn rfl) rfl rfl (d_box rfl rfl rfl) ?_; intro b19 w20 S21; clear S17
   refine wL_val (wn rfl) rfl rfl (y_assign rfl rfl) ?_
   refine wL_nil (wQ_sub (l' := [(2, _), (3, _), (4, _), (5, _), (6, _), (7, _), (10, _)]) ⟨rfl, rfl, rfl, rfl, rfl, rfl, rfl, trivial⟩ (wQ_then (wC_seq ?_)))
   have S22 := S21.drew; clear S21
   refine wC_any_ (C := fun w' => St w.heap.size w w' [.blk b10 #[.int .i64 0, .int .i64 0, .int .i64 0, .int .i64 0] 93, .blk b7 (qRow 0 0 0 (.slice none 0 0) (.slice none 0 0) zeroWs) 29, .blk b4 #[.int .i64 kd, .int .i64 ((k : Nat) : Int), .int .i64 id, .int .i64 bd, .int .i64 he, .int .i64 hn] 37, .blk b1 (qRow ep nx gv (.slice A1 rs.length c1) (.slice A2 ls.length c2) W) 29, .rd 2 A1 rs.length ((rs).flatMap Msg.cells), .rd 4 A2 ls.length ((ls).flatMap Ls.cells)]) (n := 16) (listed := #[false, false, false, false, false, false, false, false, false, false, false, false, false, false, false, false]) mixed rfl rfl ?_
   refine wA_take (v := .pointer (some ⟨b19, 0, none⟩)) (i := 0) (n := 15) (listed' := #[true, false, false, false, false, false, false, false, false, false, false, false, false, false, false, false]) rfl (by kernel_rfl) (by kernel_rfl) (by kernel_rfl) (St.del 0 S22) rfl (wn rfl) rfl rfl (fun _ _ => (y_move rfl rfl)) ?_
   refine wA_take (v := .pointer (some ⟨b19, 0, none⟩)) (i := 1) (n := 14) (listed' := #[true, true, false, false, false, false, false, false, false, false, false, false, false, false, false, false]) rfl (by kernel_rfl) (by kernel_rfl) (by kernel_rfl) (St.del 0 S22) rfl (wn rfl) rfl rfl (fun _ _ => (y_move rfl rfl)) ?_
   refine wA_take (v := .pointer (some ⟨b1, 3, none⟩)) (i := 2) (n := 13) (listed' := #[true, true, true, false, false, false, false, false, false, false, false, false, false, false, false, false]) rfl (by kernel_rfl) (by kernel_rfl) (by kernel_rfl) (St.del 0 S22) rfl (wn rfl) rfl rfl (fun _ _ => (y_fieldAddr rfl rfl (fa29_3 _ _ _))) ?_
   refine wA_take (v := .slice A1 rs.length c1) (i := 3) (n := 12) (listed' := #[true, true, true, true, false, false, false, false, false, false, false, false, false, false, false, false]) rfl (by kernel_rfl) (by kernel_rfl) (by kernel_rfl) (St.del 0 S22) rfl (wn rfl) rfl rfl (fun _ Sx26 => (y_load rfl rfl (r_load Try.underlying22 rfl (St.cl 3 Sx26 rfl qRow_g3)))) ?_
   refine wA_take (v := .pointer (some ⟨b1, 4, none⟩)) (i := 5) (n := 11) (listed' := #[true, true, true, true, false, true, false, false, false, false, false, false, false, false, false, false]) rfl (by kernel_rfl) (by kernel_rfl) (by kernel_rfl) (St.del 0 S22) rfl (wn rfl) rfl rfl (fun _ _ => (y_fieldAddr rfl rfl (fa29_4 _ _ _))) ?_
   refine wA_take (v := .slice A2 ls.length c2) (i := 6) (n := 10) (listed' := #[true, true, true, true, false, true, true, false, false, false, false, false, false, false, false, false]) rfl (by kernel_rfl) (by kernel_rfl) (by kernel_rfl) (St.del 0 S22) rfl (wn rfl) rfl rfl (fun _ Sx28 => (y_load rfl rfl (r_load Try.underlying23 rfl (St.cl 3 Sx28 rfl qRow_g4)))) ?_
   refine wA_one (n := 9) (r := 4) (by kernel_rfl) ?_
   refine wN_call_ (i := 4) (listed' := #[true, true, true, true, true, true, true, false, false, false, false, false, false, false, false, false]) rfl rfl (vs := [.slice A1 rs.length c1]) (wn rfl) rfl rfl (e_call (vs := [.slice A1 rs.length c1]) rfl en143 ⟨rfl, trivial⟩) (CloneM_calls A1 rs.length c1 _ _ (St.rd 5 S22 rfl) (msgs_one rs) hb1) ?_
   rintro _ w33 ⟨A29, c30, rfl, hb31, ho32⟩
   refine ⟨_, rfl, ?_⟩
   have S34 := S22.onOwn hb31 ho32; clear hb31 ho32 S22
   change St _ _ _ [.own 137 2 (.slice A29 rs.length c30) rs.length ((rs).flatMap Msg.cells), _, _, _, _, _, _, _] at S34
   refine ⟨(St.del 0 (St.del 1 S34)), ?_⟩
   refine wA_one (n := 8) (r := 7) (by kernel_rfl) ?_
   refine wN_call_ (i := 7) (listed' := #[true, true, true, true, true, true, true, true, false, false, false, false, false, false, false, false]) rfl rfl (vs := [.slice A2 ls.length c2]) (wn rfl) rfl rfl (e_call (vs := [.slice A2 ls.length c2]) rfl en144 ⟨rfl, trivial⟩) (CloneL_calls A2 ls.length c2 _ _ (St.rd 7 S34 rfl) (lss_one ls) hb2) ?_
   rintro _ w39 ⟨A35, c36, rfl, hb37, ho38⟩
   refine ⟨_, rfl, ?_⟩
   have S40 := S34.onOwn hb37 ho38; clear hb37 ho38 S34
   change St _ _ _ [.own 141 4 (.slice A35 ls.length c36) ls.length ((ls).flatMap Ls.cells), _, _, _, _, _, _, _, _] at S40
   refine ⟨(St.del 0 (St.del 1 (St.del 2 S40))), ?_⟩
   refine wA_take (v := .pointer (some ⟨b19, 0, none⟩)) (i := 8) (n := 7) (listed' := #[true, true, true, true, true, true, true, true, true, false, false, false, false, false, false, false]) rfl (by kernel_rfl) (by kernel_rfl) (by kernel_rfl) (St.del 0 (St.del 1 (St.del 2 S40))) rfl (wn rfl) rfl rfl (fun _ _ => (y_nil rfl rfl trivial)) ?_
   refine wA_take (v := .pointer (some ⟨b19, 0, none⟩)) (i := 9) (n := 6) (listed' := #[true, true, true, true, true, true, true, true, true, true, false, false, false, false, false, false]) rfl (by kernel_rfl) (by kernel_rfl) (by kernel_rfl) (St.del 0 (St.del 1 (St.del 2 S40))) rfl (wn rfl) rfl rfl (fun _ _ => (y_fieldAddr rfl rfl (fa190_0 _ _ _))) ?_
   refine wA_take (v := .pointer (some ⟨b19, 3, none⟩)) (i := 10) (n := 5) (listed' := #[true, true, true, true, true, true, true, true, true, true, true, false, false, false, false, false]) rfl (by kernel_rfl) (by kernel_rfl) (by kernel_rfl) (St.del 0 (St.del 1 (St.del 2 S40))) rfl (wn rfl) rfl rfl (fun _ _ => (y_fieldAddr rfl rfl (fa29_3 _ _ _))) ?_
   refine wA_one (n := 4) (r := 11) (by kernel_rfl) ?_
   refine wN_st (i := 11) (listed' := #[true, true, true, true, true, true, true, true, true, true, true, true, false, false, false, false]) rfl rfl (cs := #[.slice A29 rs.length c30]) (row' := qRow ep nx gv (.slice A29 rs.length c30) (.slice A2 ls.length c2) W) (fs' := [_, _, .blk b19 (qRow ep nx gv (.slice A29 rs.length c30) (.slice A2 ls.length c2) W) 190, _, _, _, _, _, _]) 2 S40 (wn rfl) rfl rfl rfl rfl rfl rfl inf22 rfl (oneAll rfl) (Nat.le_of_ble_eq_true rfl) qRow_s3 rfl ?_; intro w44 S45; clear S40
   refine ⟨(St.del 0 (St.del 1 (St.del 2 S45))), ?_⟩
   refine wA_take (v := .pointer (some ⟨b19, 0, none⟩)) (i := 12) (n := 3) (listed' := #[true, true, true, true, true, true, true, true, true, true, true, true, true, false, false, false]) rfl (by kernel_rfl) (by kernel_rfl) (by kernel_rfl) (St.del 0 (St.del 1 (St.del 2 S45))) rfl (wn rfl) rfl rfl (fun _ _ => (y_nil rfl rfl trivial)) ?_
   refine wA_take (v := .pointer (some ⟨b19, 0, none⟩)) (i := 13) (n := 2) (listed' := #[true, true, true, true, true, true, true, true, true, true, true, true, true, true, false, false]) rfl (by kernel_rfl) (by kernel_rfl) (by kernel_rfl) (St.del 0 (St.del 1 (St.del 2 S45))) rfl (wn rfl) rfl rfl (fun _ _ => (y_fieldAddr rfl rfl (fa190_0 _ _ _))) ?_
   refine wA_take (v := .pointer (some ⟨b19, 4, none⟩)) (i := 14) (n := 1) (listed' := #[true, true, true, true, true, true, true, true, true, true, true, true, true, true, true, false]) rfl (by kernel_rfl) (by kernel_rfl) (by kernel_rfl) (St.del 0 (St.del 1 (St.del 2 S45))) rfl (wn rfl) rfl rfl (fun _ _ => (y_fieldAddr rfl rfl (fa29_4 _ _ _))) ?_
   refine wA_one (n := 0) (r := 15) (by kernel_rfl) ?_
   refine wN_st (i := 15) (listed' := #[true, true, true, true, true, true, true, true, true, true, true, true, true, true, true, true]) rfl rfl (cs := #[.slice A35 ls.length c36]) (row' := qRow ep nx gv (.slice A29 rs.length c30) (.slice A35 ls.length c36) W) (fs' := [_, _, .blk b19 (qRow ep nx gv (.slice A29 rs.length c30) (.slice A35 ls.length c36) W) 190, _, _, _, _, _, _]) 2 S45 (wn rfl) rfl rfl rfl rfl rfl rfl inf23 rfl (oneAll rfl) (Nat.le_of_ble_eq_true rfl) qRow_s4 rfl ?_; intro w49 S50; clear S45
   refine ⟨(St.del 0 (St.del 1 (St.del 2 S50))), ?_⟩
   refine wA_done (by kernel_rfl) ?_
   refine wQ_sub (l' := [(3, _), (4, _), (5, _), (6, _), (7, _), (10, _)]) ⟨rfl, rfl, rfl, rfl, rfl, rfl, trivial⟩ (wQ_then (wC_seq (wC_region (wL_makeF (k := 3) S50 (wn rfl) rfl rfl rfl ?_)))); intro b51 w52 S53; clear S50
   refine wL_val (wn rfl) rfl rfl (y_move rfl rfl) ?_
   refine wL_val (v := .func (.func 145) #[.pointer (some ⟨b19, 0, none⟩)] #[]) (wn rfl) rfl rfl (y_makeFunc (vs := [.pointer (some ⟨b19, 0, none⟩)]) (us := []) rfl ⟨rfl, trivial⟩ trivial) ?_
   refine wL_insF (e := 193) 0 S53 (wn rfl) rfl rfl rfl rfl rfl rfl Try.underlying3 Try.underlying194 (by decide) (by decide) ?_; intro w54 S55; clear S53
   change St _ _ _ [.loc b51 (FMap Try.prog 3 (fun y => if y = 1 then some (.func (.func 145) #[.pointer (some ⟨b19, 0, none⟩)] #[]) else (fun _ => none) y) 1), .own 141 4 (.slice A35 ls.length c36) ls.length ((ls).flatMap Ls.cells), .own 137 2 (.slice A29 rs.length c30) rs.length ((rs).flatMap Msg.cells), .blk b19 (qRow ep nx gv (.slice A29 rs.length c30) (.slice A35 ls.length c36) W) 190, .blk b10 #[.int .i64 0, .int .i64 0, .int .i64 0, .int .i64 0] 93, .blk b7 (qRow 0 0 0 (.slice none 0 0) (.slice none 0 0) zeroWs) 29, .blk b4 #[.int .i64 kd, .int .i64 ((k : Nat) : Int), .int .i64 id, .int .i64 bd, .int .i64 he, .int .i64 hn] 37, .blk b1 (qRow ep nx gv (.slice A1 rs.length c1) (.slice A2 ls.length c2) W) 29, .rd 2 A1 rs.length ((rs).flatMap Msg.cells), .rd 4 A2 ls.length ((ls).flatMap Ls.cells)] at S55
   refine wL_val (wn rfl) rfl rfl (y_move rfl rfl) ?_
   refine wL_val (v := .func (.func 146) #[.pointer (some ⟨b19, 0, none⟩)] #[]) (wn rfl) rfl rfl (y_makeFunc (vs := [.pointer (some ⟨b19, 0, none⟩)]) (us := []) rfl ⟨rfl, trivial⟩ trivial) ?_
   refine wL_insF (e := 193) 0 S55 (wn rfl) rfl rfl rfl rfl rfl rfl Try.underlying3 Try.underlying194 (by decide) (by decide) ?_; intro w56 S57; clear S55
   change St _ _ _ [.loc b51 (FMap Try.prog 3 (fun y => if y = 2 then some (.func (.func 146) #[.pointer (some ⟨b19, 0, none⟩)] #[]) else (fun y => if y = 1 then some (.func (.func 145) #[.pointer (some ⟨b19, 0, none⟩)] #[]) else (fun _ => none) y) y) 2), .own 141 4 (.slice A35 ls.length c36) ls.length ((ls).flatMap Ls.cells), .own 137 2 (.slice A29 rs.length c30) rs.length ((rs).flatMap Msg.cells), .blk b19 (qRow ep nx gv (.slice A29 rs.length c30) (.slice A35 ls.length c36) W) 190, .blk b10 #[.int .i64 0, .int .i64 0, .int .i64 0, .int .i64 0] 93, .blk b7 (qRow 0 0 0 (.slice none 0 0) (.slice none 0 0) zeroWs) 29, .blk b4 #[.int .i64 kd, .int .i64 ((k : Nat) : Int), .int .i64 id, .int .i64 bd, .int .i64 he, .int .i64 hn] 37, .blk b1 (qRow ep nx gv (.slice A1 rs.length c1) (.slice A2 ls.length c2) W) 29, .rd 2 A1 rs.length ((rs).flatMap Msg.cells), .rd 4 A2 ls.length ((ls).flatMap Ls.cells)] at S57
   refine wL_val (wn rfl) rfl rfl (y_move rfl rfl) ?_
   refine wL_val (v := .func (.func 147) #[.pointer (some ⟨b19, 0, none⟩)] #[]) (wn rfl) rfl rfl (y_makeFunc (vs := [.pointer (some ⟨b19, 0, none⟩)]) (us := []) rfl ⟨rfl, trivial⟩ trivial) ?_
   refine wL_insF (e := 193) 0 S57 (wn rfl) rfl rfl rfl rfl rfl rfl Try.underlying3 Try.underlying194 (by decide) (by decide) ?_; intro w58 S59; clear S57
   change St _ _ _ [.loc b51 (FMap Try.prog 3 (fun y => if y = 3 then some (.func (.func 147) #[.pointer (some ⟨b19, 0, none⟩)] #[]) else (fun y => if y = 2 then some (.func (.func 146) #[.pointer (some ⟨b19, 0, none⟩)] #[]) else (fun y => if y = 1 then some (.func (.func 145) #[.pointer (some ⟨b19, 0, none⟩)] #[]) else (fun _ => none) y) y) y) 3), .own 141 4 (.slice A35 ls.length c36) ls.length ((ls).flatMap Ls.cells), .own 137 2 (.slice A29 rs.length c30) rs.length ((rs).flatMap Msg.cells), .blk b19 (qRow ep nx gv (.slice A29 rs.length c30) (.slice A35 ls.length c36) W) 190, .blk b10 #[.int .i64 0, .int .i64 0, .int .i64 0, .int .i64 0] 93, .blk b7 (qRow 0 0 0 (.slice none 0 0) (.slice none 0 0) zeroWs) 29, .blk b4 #[.int .i64 kd, .int .i64 ((k : Nat) : Int), .int .i64 id, .int .i64 bd, .int .i64 he, .int .i64 hn] 37, .blk b1 (qRow ep nx gv (.slice A1 rs.length c1) (.slice A2 ls.length c2) W) 29, .rd 2 A1 rs.length ((rs).flatMap Msg.cells), .rd 4 A2 ls.length ((ls).flatMap Ls.cells)] at S59
   refine wL_val (wn rfl) rfl rfl (y_move rfl rfl) ?_
   refine wL_val (v := .func (.func 148) #[.pointer (some ⟨b19, 0, none⟩)] #[]) (wn rfl) rfl rfl (y_makeFunc (vs := [.pointer (some ⟨b19, 0, none⟩)]) (us := []) rfl ⟨rfl, trivial⟩ trivial) ?_
   refine wL_insF (e := 193) 0 S59 (wn rfl) rfl rfl rfl rfl rfl rfl Try.underlying3 Try.underlying194 (by decide) (by decide) ?_; intro w60 S61; clear S59
   change St _ _ _ [.loc b51 (FMap Try.prog 3 (fun y => if y = 4 then some (.func (.func 148) #[.pointer (some ⟨b19, 0, none⟩)] #[]) else (fun y => if y = 3 then some (.func (.func 147) #[.pointer (some ⟨b19, 0, none⟩)] #[]) else (fun y => if y = 2 then some (.func (.func 146) #[.pointer (some ⟨b19, 0, none⟩)] #[]) else (fun y => if y = 1 then some (.func (.func 145) #[.pointer (some ⟨b19, 0, none⟩)] #[]) else (fun _ => none) y) y) y) y) 4), .own 141 4 (.slice A35 ls.length c36) ls.length ((ls).flatMap Ls.cells), .own 137 2 (.slice A29 rs.length c30) rs.length ((rs).flatMap Msg.cells), .blk b19 (qRow ep nx gv (.slice A29 rs.length c30) (.slice A35 ls.length c36) W) 190, .blk b10 #[.int .i64 0, .int .i64 0, .int .i64 0, .int .i64 0] 93, .blk b7 (qRow 0 0 0 (.slice none 0 0) (.slice none 0 0) zeroWs) 29, .blk b4 #[.int .i64 kd, .int .i64 ((k : Nat) : Int), .int .i64 id, .int .i64 bd, .int .i64 he, .int .i64 hn] 37, .blk b1 (qRow ep nx gv (.slice A1 rs.length c1) (.slice A2 ls.length c2) W) 29, .rd 2 A1 rs.length ((rs).flatMap Msg.cells), .rd 4 A2 ls.length ((ls).flatMap Ls.cells)] at S61
   refine wL_val (wn rfl) rfl rfl (y_move rfl rfl) ?_
   refine wL_val (v := .pointer (some ⟨b4, 0, none⟩)) (wn rfl) rfl rfl (y_fieldAddr rfl rfl (fa37_0 _ _ _)) ?_
   refine wL_val (wn rfl) rfl rfl (y_load rfl rfl (r_load Try.underlying3 rfl (St.cl 6 S61 rfl rfl))) ?_
   rcases (by omega : kd = 1 ∨ kd = 2 ∨ kd = 3 ∨ kd = 4) with rfl | rfl | rfl | rfl
   ·refine wL_val (v := .func (.func 145) #[.pointer (some ⟨b19, 0, none⟩)] #[]) (wn rfl) rfl rfl (y_lookF 0 S61 rfl rfl rfl rfl Try.underlying3 Try.underlying194 (Try.zeroValue193 _) (by decide) rfl) ?_
    refine wL_val (wn rfl) rfl rfl (y_assign rfl rfl) ?_
    refine wL_nil (wQ_sub (l' := [(3, _), (4, _), (5, _), (6, _), (7, _), (10, _), (11, _)]) ⟨rfl, rfl, rfl, rfl, rfl, rfl, rfl, trivial⟩ (wQ_then (wC_seq (wC_region (wL_val (wn rfl) rfl rfl (y_move rfl rfl) ?_)))))
    refine wL_val (wn rfl) rfl rfl (y_load rfl rfl (r_load_row 6 S61 rfl Try.underlying37 rfl inf37 rfl)) ?_
    have S62 : St w.heap.size w w60 [.blk b19 (qRow ep nx gv (.slice A29 rs.length c30) (.slice A35 ls.length c36) W) 190, .own 137 2 (.slice A29 rs.length c30) rs.length ((rs).flatMap Msg.cells), .own 141 4 (.slice A35 ls.length c36) ls.length ((ls).flatMap Ls.cells), .loc b51 (FMap Try.prog 3 (fun y => if y = 4 then some (.func (.func 148) #[.pointer (some ⟨b19, 0, none⟩)] #[]) else (fun y => if y = 3 then some (.func (.func 147) #[.pointer (some ⟨b19, 0, none⟩)] #[]) else (fun y => if y = 2 then some (.func (.func 146) #[.pointer (some ⟨b19, 0, none⟩)] #[]) else (fun y => if y = 1 then some (.func (.func 145) #[.pointer (some ⟨b19, 0, none⟩)] #[]) else (fun _ => none) y) y) y) y) 4), .blk b10 #[.int .i64 0, .int .i64 0, .int .i64 0, .int .i64 0] 93, .blk b7 (qRow 0 0 0 (.slice none 0 0) (.slice none 0 0) zeroWs) 29, .blk b4 #[.int .i64 1, .int .i64 ((k : Nat) : Int), .int .i64 id, .int .i64 bd, .int .i64 he, .int .i64 hn] 37, .blk b1 (qRow ep nx gv (.slice A1 rs.length c1) (.slice A2 ls.length c2) W) 29, .rd 2 A1 rs.length ((rs).flatMap Msg.cells), .rd 4 A2 ls.length ((ls).flatMap Ls.cells)] := S61.re [3, 2, 1, 0, 4, 5, 6, 7, 8, 9] (by decide); clear S61
    have HC := publish_calls (kd := 1) (k := k) (id := id) (bd := bd) (he := he) (hn := hn) S62 hk (by omega) (by omega) (by omega) (by omega)
    rw [← show stepM ⟨ep, nx, gv, rs, ls, W⟩ ⟨1, ((k : Nat) : Int), id, bd, he, hn⟩ = pubM ⟨ep, nx, gv, rs, ls, W⟩ k id bd from by simp [stepM]] at HC
    obtain ⟨R, hRM⟩ : ∃ R, stepM ⟨ep, nx, gv, rs, ls, W⟩ ⟨1, ((k : Nat) : Int), id, bd, he, hn⟩ = R := ⟨_, rfl⟩
    rw [hRM] at HC
    refine wL_call (vs := [.pointer (some ⟨b19, 0, none⟩), .agg #[.int .i64 1, .int .i64 ((k : Nat) : Int), .int .i64 id, .int .i64 bd, .int .i64 he, .int .i64 hn]]) (wn rfl) rfl rfl (e_callv (first := [.pointer (some ⟨b19, 0, none⟩)]) (cap := []) (vs := [.agg #[.int .i64 1, .int .i64 ((k : Nat) : Int), .int .i64 id, .int .i64 bd, .int .i64 he, .int .i64 hn]]) rfl rfl en145 ⟨rfl, trivial⟩ rfl) (HC) ?_
    rintro _ w67 ⟨rfl, A63, c64, A65, c66, S68⟩
    refine ⟨_, rfl, ?_⟩; clear HC S62
    change St _ _ _ [.blk b19 (qRow R.1.ep R.1.nx R.1.gv (.slice A63 R.1.ready.length c64) (.slice A65 R.1.leases.length c66) R.1.ws) 190, .rdo 2 A63 R.1.ready.length ((R.1.ready).flatMap Msg.cells), .rdo 4 A65 R.1.leases.length ((R.1.leases).flatMap Ls.cells), .loc b51 (FMap Try.prog 3 (fun y => if y = 4 then some (.func (.func 148) #[.pointer (some ⟨b19, 0, none⟩)] #[]) else (fun y => if y = 3 then some (.func (.func 147) #[.pointer (some ⟨b19, 0, none⟩)] #[]) else (fun y => if y = 2 then some (.func (.func 146) #[.pointer (some ⟨b19, 0, none⟩)] #[]) else (fun y => if y = 1 then some (.func (.func 145) #[.pointer (some ⟨b19, 0, none⟩)] #[]) else (fun _ => none) y) y) y) y) 4), .blk b10 #[.int .i64 0, .int .i64 0, .int .i64 0, .int .i64 0] 93, .blk b7 (qRow 0 0 0 (.slice none 0 0) (.slice none 0 0) zeroWs) 29, .blk b4 #[.int .i64 1, .int .i64 ((k : Nat) : Int), .int .i64 id, .int .i64 bd, .int .i64 he, .int .i64 hn] 37, .blk b1 (qRow ep nx gv (.slice A1 rs.length c1) (.slice A2 ls.length c2) W) 29, .rd 2 A1 rs.length ((rs).flatMap Msg.cells), .rd 4 A2 ls.length ((ls).flatMap Ls.cells)] at S68
    refine wL_val (wn rfl) rfl rfl (y_move rfl rfl) ?_
    refine wL_val (wn rfl) rfl rfl (y_extract rfl rfl rfl) ?_
    refine wL_val (wn rfl) rfl rfl (y_extract rfl rfl rfl) ?_
    refine wL_new (V := fun b => .pointer (some ⟨b, 0, none⟩)) (row := #[.int .i64 0, .int .i64 0, .int .i64 0, .int .i64 0]) (t := 93) S68 (wn rfl) rfl rfl (d_alloc rfl (Try.zeroValue93 _) rfl) ?_; intro b69 w70 S71; clear S68
    refine wL_st (fs' := [_, _, _, _, _, _, _, _, _, _, _]) 0 S71 (wn rfl) rfl rfl rfl rfl rfl rfl inf93 rfl (oneAll rfl) (Nat.le_of_ble_eq_true rfl) (setAll_all rfl) rfl ?_; intro w72 S73; clear S71
    refine wL_val (wn rfl) rfl rfl (y_assign rfl rfl) ?_
    refine wL_nil (wQ_sub (l' := [(4, _), (5, _), (6, _), (7, _), (10, _), (12, _), (13, _)]) ⟨rfl, rfl, rfl, rfl, rfl, rfl, rfl, trivial⟩ (wQ_then (wC_seq ?_)))
    have S74 := S73.drew; clear S73
    refine wC_any_ (C := fun w' => St w.heap.size w w' [.blk b69 #[.int .i64 R.2.1.code, .int .i64 R.2.1.hep, .int .i64 R.2.1.hno, .int .i64 R.2.1.body] 93, .blk b19 (qRow R.1.ep R.1.nx R.1.gv (.slice A63 R.1.ready.length c64) (.slice A65 R.1.leases.length c66) R.1.ws) 190, .rdo 2 A63 R.1.ready.length ((R.1.ready).flatMap Msg.cells), .rdo 4 A65 R.1.leases.length ((R.1.leases).flatMap Ls.cells), .loc b51 (FMap Try.prog 3 (fun y => if y = 4 then some (.func (.func 148) #[.pointer (some ⟨b19, 0, none⟩)] #[]) else (fun y => if y = 3 then some (.func (.func 147) #[.pointer (some ⟨b19, 0, none⟩)] #[]) else (fun y => if y = 2 then some (.func (.func 146) #[.pointer (some ⟨b19, 0, none⟩)] #[]) else (fun y => if y = 1 then some (.func (.func 145) #[.pointer (some ⟨b19, 0, none⟩)] #[]) else (fun _ => none) y) y) y) y) 4), .blk b4 #[.int .i64 1, .int .i64 ((k : Nat) : Int), .int .i64 id, .int .i64 bd, .int .i64 he, .int .i64 hn] 37, .blk b1 (qRow ep nx gv (.slice A1 rs.length c1) (.slice A2 ls.length c2) W) 29, .rd 2 A1 rs.length ((rs).flatMap Msg.cells), .rd 4 A2 ls.length ((ls).flatMap Ls.cells)]) (n := 10) (listed := #[false, false, false, false, false, false, false, false, false, false]) mixed rfl rfl ?_
    refine wA_take (v := .pointer (some ⟨b19, 0, none⟩)) (i := 0) (n := 9) (listed' := #[true, false, false, false, false, false, false, false, false, false]) rfl (by kernel_rfl) (by kernel_rfl) (by kernel_rfl) (St.del 5 (St.del 6 S74)) rfl (wn rfl) rfl rfl (fun _ _ => (y_move rfl rfl)) ?_
    refine wA_take (v := .pointer (some ⟨b19, 0, none⟩)) (i := 1) (n := 8) (listed' := #[true, true, false, false, false, false, false, false, false, false]) rfl (by kernel_rfl) (by kernel_rfl) (by kernel_rfl) (St.del 5 (St.del 6 S74)) rfl (wn rfl) rfl rfl (fun _ _ => (y_nil rfl rfl trivial)) ?_
    refine wA_take (v := .pointer (some ⟨b19, 0, none⟩)) (i := 2) (n := 7) (listed' := #[true, true, true, false, false, false, false, false, false, false]) rfl (by kernel_rfl) (by kernel_rfl) (by kernel_rfl) (St.del 5 (St.del 6 S74)) rfl (wn rfl) rfl rfl (fun _ _ => (y_fieldAddr rfl rfl (fa190_0 _ _ _))) ?_
    refine wA_take (v := .agg (qRow R.1.ep R.1.nx R.1.gv (.slice A63 R.1.ready.length c64) (.slice A65 R.1.leases.length c66) R.1.ws)) (i := 3) (n := 6) (listed' := #[true, true, true, true, false, false, false, false, false, false]) rfl (by kernel_rfl) (by kernel_rfl) (by kernel_rfl) (St.del 5 (St.del 6 S74)) rfl (wn rfl) rfl rfl (fun _ Sx78 => (y_load rfl rfl (r_load_row 1 Sx78 rfl Try.underlying29 rfl inf29 rfl))) ?_
    refine wA_take (v := .agg #[.int .i64 R.2.1.code, .int .i64 R.2.1.hep, .int .i64 R.2.1.hno, .int .i64 R.2.1.body]) (i := 4) (n := 5) (listed' := #[true, true, true, true, true, false, false, false, false, false]) rfl (by kernel_rfl) (by kernel_rfl) (by kernel_rfl) (St.del 5 (St.del 6 S74)) rfl (wn rfl) rfl rfl (fun _ Sx79 => (y_load rfl rfl (r_load_row 0 Sx79 rfl Try.underlying93 rfl inf93 rfl))) ?_
    refine wA_take (v := .bool R.2.2) (i := 5) (n := 4) (listed' := #[true, true, true, true, true, true, false, false, false, false]) rfl (by kernel_rfl) (by kernel_rfl) (by kernel_rfl) (St.del 5 (St.del 6 S74)) rfl (wn rfl) rfl rfl (fun _ _ => (y_move rfl rfl)) ?_
    refine wA_one (n := 3) (r := 6) (by kernel_rfl) ?_
    refine wN_st (i := 6) (listed' := #[true, true, true, true, true, true, true, false, false, false]) rfl rfl (fs' := [_, _, _, _, _, _, _, _, _, _, _]) 6 S74 (wn rfl) rfl rfl rfl rfl rfl rfl inf29 rfl (qRow_one rfl rfl) (Nat.le_of_ble_eq_true rfl) (setAll_all rfl) rfl ?_; intro w81 S82; clear S74
    refine ⟨(St.del 5 (St.del 6 S82)), ?_⟩
    refine wA_one (n := 2) (r := 7) (by kernel_rfl) ?_
    refine wN_st (i := 7) (listed' := #[true, true, true, true, true, true, true, true, false, false]) rfl rfl (fs' := [_, _, _, _, _, _, _, _, _, _, _]) 5 S82 (wn rfl) rfl rfl rfl rfl rfl rfl inf93 rfl (oneAll rfl) (Nat.le_of_ble_eq_true rfl) (setAll_all rfl) rfl ?_; intro w83 S84; clear S82
    refine ⟨(St.del 5 (St.del 6 S84)), ?_⟩
    refine wA_take (v := .bool R.2.2) (i := 8) (n := 1) (listed' := #[true, true, true, true, true, true, true, true, true, false]) rfl (by kernel_rfl) (by kernel_rfl) (by kernel_rfl) (St.del 5 (St.del 6 S84)) rfl (wn rfl) rfl rfl (fun _ _ => (y_assign rfl rfl)) ?_
    refine wA_take (v := .int .i64 0) (i := 9) (n := 0) (listed' := #[true, true, true, true, true, true, true, true, true, true]) rfl (by kernel_rfl) (by kernel_rfl) (by kernel_rfl) (St.del 5 (St.del 6 S84)) rfl (wn rfl) rfl rfl (fun _ _ => (y_assign rfl rfl)) ?_
    refine wA_done (by kernel_rfl) ?_
    refine wQ_sub (l' := [(4, _), (5, _), (6, _), (7, _)]) ⟨rfl, rfl, rfl, rfl, trivial⟩ (wQ_then (wC_ret (wQ_post (rs := [.cell 4 29, .cell 5 93, .tmp 6, .tmp 7]) (vs := [.agg (qRow R.1.ep R.1.nx R.1.gv (.slice A63 R.1.ready.length c64) (.slice A65 R.1.leases.length c66) R.1.ws), .agg #[.int .i64 R.2.1.code, .int .i64 R.2.1.hep, .int .i64 R.2.1.hno, .int .i64 R.2.1.body], .bool R.2.2, .int .i64 0]) rfl ⟨⟨_, rfl, res_row 6 S84 rfl Try.underlying29 rfl inf29⟩, ⟨_, rfl, res_row 5 S84 rfl Try.underlying93 rfl inf93⟩, rfl, rfl, trivial⟩ ?_)))
    have S87 : St w.heap.size w w83 [_, _] := (St.del 0 (St.del 1 (St.del 4 (St.del 5 (St.del 6 (St.del 7 (St.del 8 (St.del 9 (St.del 10 S84))))))))); clear S84
    rw [do_ok (Q := ⟨ep, nx, gv, rs, ls, W⟩) h0 h1, hRM]
    exact ⟨A63, c64, A65, c66, rfl, S87⟩
   ·refine wL_val (v := .func (.func 146) #[.pointer (some ⟨b19, 0, none⟩)] #[]) (wn rfl) rfl rfl (y_lookF 0 S61 rfl rfl rfl rfl Try.underlying3 Try.underlying194 (Try.zeroValue193 _) (by decide) rfl) ?_
    refine wL_val (wn rfl) rfl rfl (y_assign rfl rfl) ?_
    refine wL_nil (wQ_sub (l' := [(3, _), (4, _), (5, _), (6, _), (7, _), (10, _), (11, _)]) ⟨rfl, rfl, rfl, rfl, rfl, rfl, rfl, trivial⟩ (wQ_then (wC_seq (wC_region (wL_val (wn rfl) rfl rfl (y_move rfl rfl) ?_)))))
    refine wL_val (wn rfl) rfl rfl (y_load rfl rfl (r_load_row 6 S61 rfl Try.underlying37 rfl inf37 rfl)) ?_
    have S88 : St w.heap.size w w60 [.blk b19 (qRow ep nx gv (.slice A29 rs.length c30) (.slice A35 ls.length c36) W) 190, .own 137 2 (.slice A29 rs.length c30) rs.length ((rs).flatMap Msg.cells), .own 141 4 (.slice A35 ls.length c36) ls.length ((ls).flatMap Ls.cells), .loc b51 (FMap Try.prog 3 (fun y => if y = 4 then some (.func (.func 148) #[.pointer (some ⟨b19, 0, none⟩)] #[]) else (fun y => if y = 3 then some (.func (.func 147) #[.pointer (some ⟨b19, 0, none⟩)] #[]) else (fun y => if y = 2 then some (.func (.func 146) #[.pointer (some ⟨b19, 0, none⟩)] #[]) else (fun y => if y = 1 then some (.func (.func 145) #[.pointer (some ⟨b19, 0, none⟩)] #[]) else (fun _ => none) y) y) y) y) 4), .blk b10 #[.int .i64 0, .int .i64 0, .int .i64 0, .int .i64 0] 93, .blk b7 (qRow 0 0 0 (.slice none 0 0) (.slice none 0 0) zeroWs) 29, .blk b4 #[.int .i64 2, .int .i64 ((k : Nat) : Int), .int .i64 id, .int .i64 bd, .int .i64 he, .int .i64 hn] 37, .blk b1 (qRow ep nx gv (.slice A1 rs.length c1) (.slice A2 ls.length c2) W) 29, .rd 2 A1 rs.length ((rs).flatMap Msg.cells), .rd 4 A2 ls.length ((ls).flatMap Ls.cells)] := S61.re [3, 2, 1, 0, 4, 5, 6, 7, 8, 9] (by decide); clear S61
    have HC := receive_calls (kd := 2) (k := k) (id := id) (bd := bd) (he := he) (hn := hn) S88 hk (by omega) (by omega) (by omega) (by omega)
    rw [← show stepM ⟨ep, nx, gv, rs, ls, W⟩ ⟨2, ((k : Nat) : Int), id, bd, he, hn⟩ = recM ⟨ep, nx, gv, rs, ls, W⟩ from by simp [stepM]] at HC
    obtain ⟨R, hRM⟩ : ∃ R, stepM ⟨ep, nx, gv, rs, ls, W⟩ ⟨2, ((k : Nat) : Int), id, bd, he, hn⟩ = R := ⟨_, rfl⟩
    rw [hRM] at HC
    refine wL_call (vs := [.pointer (some ⟨b19, 0, none⟩), .agg #[.int .i64 2, .int .i64 ((k : Nat) : Int), .int .i64 id, .int .i64 bd, .int .i64 he, .int .i64 hn]]) (wn rfl) rfl rfl (e_callv (first := [.pointer (some ⟨b19, 0, none⟩)]) (cap := []) (vs := [.agg #[.int .i64 2, .int .i64 ((k : Nat) : Int), .int .i64 id, .int .i64 bd, .int .i64 he, .int .i64 hn]]) rfl rfl en146 ⟨rfl, trivial⟩ rfl) (HC) ?_
    rintro _ w93 ⟨rfl, A89, c90, A91, c92, S94⟩
    refine ⟨_, rfl, ?_⟩; clear HC S88
    change St _ _ _ [.blk b19 (qRow R.1.ep R.1.nx R.1.gv (.slice A89 R.1.ready.length c90) (.slice A91 R.1.leases.length c92) R.1.ws) 190, .rdo 2 A89 R.1.ready.length ((R.1.ready).flatMap Msg.cells), .rdo 4 A91 R.1.leases.length ((R.1.leases).flatMap Ls.cells), .loc b51 (FMap Try.prog 3 (fun y => if y = 4 then some (.func (.func 148) #[.pointer (some ⟨b19, 0, none⟩)] #[]) else (fun y => if y = 3 then some (.func (.func 147) #[.pointer (some ⟨b19, 0, none⟩)] #[]) else (fun y => if y = 2 then some (.func (.func 146) #[.pointer (some ⟨b19, 0, none⟩)] #[]) else (fun y => if y = 1 then some (.func (.func 145) #[.pointer (some ⟨b19, 0, none⟩)] #[]) else (fun _ => none) y) y) y) y) 4), .blk b10 #[.int .i64 0, .int .i64 0, .int .i64 0, .int .i64 0] 93, .blk b7 (qRow 0 0 0 (.slice none 0 0) (.slice none 0 0) zeroWs) 29, .blk b4 #[.int .i64 2, .int .i64 ((k : Nat) : Int), .int .i64 id, .int .i64 bd, .int .i64 he, .int .i64 hn] 37, .blk b1 (qRow ep nx gv (.slice A1 rs.length c1) (.slice A2 ls.length c2) W) 29, .rd 2 A1 rs.length ((rs).flatMap Msg.cells), .rd 4 A2 ls.length ((ls).flatMap Ls.cells)] at S94
    refine wL_val (wn rfl) rfl rfl (y_move rfl rfl) ?_
    refine wL_val (wn rfl) rfl rfl (y_extract rfl rfl rfl) ?_
    refine wL_val (wn rfl) rfl rfl (y_extract rfl rfl rfl) ?_
    refine wL_new (V := fun b => .pointer (some ⟨b, 0, none⟩)) (row := #[.int .i64 0, .int .i64 0, .int .i64 0, .int .i64 0]) (t := 93) S94 (wn rfl) rfl rfl (d_alloc rfl (Try.zeroValue93 _) rfl) ?_; intro b95 w96 S97; clear S94
    refine wL_st (fs' := [_, _, _, _, _, _, _, _, _, _, _]) 0 S97 (wn rfl) rfl rfl rfl rfl rfl rfl inf93 rfl (oneAll rfl) (Nat.le_of_ble_eq_true rfl) (setAll_all rfl) rfl ?_; intro w98 S99; clear S97
    refine wL_val (wn rfl) rfl rfl (y_assign rfl rfl) ?_
    refine wL_nil (wQ_sub (l' := [(4, _), (5, _), (6, _), (7, _), (10, _), (12, _), (13, _)]) ⟨rfl, rfl, rfl, rfl, rfl, rfl, rfl, trivial⟩ (wQ_then (wC_seq ?_)))
    have S100 := S99.drew; clear S99
    refine wC_any_ (C := fun w' => St w.heap.size w w' [.blk b95 #[.int .i64 R.2.1.code, .int .i64 R.2.1.hep, .int .i64 R.2.1.hno, .int .i64 R.2.1.body] 93, .blk b19 (qRow R.1.ep R.1.nx R.1.gv (.slice A89 R.1.ready.length c90) (.slice A91 R.1.leases.length c92) R.1.ws) 190, .rdo 2 A89 R.1.ready.length ((R.1.ready).flatMap Msg.cells), .rdo 4 A91 R.1.leases.length ((R.1.leases).flatMap Ls.cells), .loc b51 (FMap Try.prog 3 (fun y => if y = 4 then some (.func (.func 148) #[.pointer (some ⟨b19, 0, none⟩)] #[]) else (fun y => if y = 3 then some (.func (.func 147) #[.pointer (some ⟨b19, 0, none⟩)] #[]) else (fun y => if y = 2 then some (.func (.func 146) #[.pointer (some ⟨b19, 0, none⟩)] #[]) else (fun y => if y = 1 then some (.func (.func 145) #[.pointer (some ⟨b19, 0, none⟩)] #[]) else (fun _ => none) y) y) y) y) 4), .blk b4 #[.int .i64 2, .int .i64 ((k : Nat) : Int), .int .i64 id, .int .i64 bd, .int .i64 he, .int .i64 hn] 37, .blk b1 (qRow ep nx gv (.slice A1 rs.length c1) (.slice A2 ls.length c2) W) 29, .rd 2 A1 rs.length ((rs).flatMap Msg.cells), .rd 4 A2 ls.length ((ls).flatMap Ls.cells)]) (n := 10) (listed := #[false, false, false, false, false, false, false, false, false, false]) mixed rfl rfl ?_
    refine wA_take (v := .pointer (some ⟨b19, 0, none⟩)) (i := 0) (n := 9) (listed' := #[true, false, false, false, false, false, false, false, false, false]) rfl (by kernel_rfl) (by kernel_rfl) (by kernel_rfl) (St.del 5 (St.del 6 S100)) rfl (wn rfl) rfl rfl (fun _ _ => (y_move rfl rfl)) ?_
    refine wA_take (v := .pointer (some ⟨b19, 0, none⟩)) (i := 1) (n := 8) (listed' := #[true, true, false, false, false, false, false, false, false, false]) rfl (by kernel_rfl) (by kernel_rfl) (by kernel_rfl) (St.del 5 (St.del 6 S100)) rfl (wn rfl) rfl rfl (fun _ _ => (y_nil rfl rfl trivial)) ?_
    refine wA_take (v := .pointer (some ⟨b19, 0, none⟩)) (i := 2) (n := 7) (listed' := #[true, true, true, false, false, false, false, false, false, false]) rfl (by kernel_rfl) (by kernel_rfl) (by kernel_rfl) (St.del 5 (St.del 6 S100)) rfl (wn rfl) rfl rfl (fun _ _ => (y_fieldAddr rfl rfl (fa190_0 _ _ _))) ?_
    refine wA_take (v := .agg (qRow R.1.ep R.1.nx R.1.gv (.slice A89 R.1.ready.length c90) (.slice A91 R.1.leases.length c92) R.1.ws)) (i := 3) (n := 6) (listed' := #[true, true, true, true, false, false, false, false, false, false]) rfl (by kernel_rfl) (by kernel_rfl) (by kernel_rfl) (St.del 5 (St.del 6 S100)) rfl (wn rfl) rfl rfl (fun _ Sx104 => (y_load rfl rfl (r_load_row 1 Sx104 rfl Try.underlying29 rfl inf29 rfl))) ?_
    refine wA_take (v := .agg #[.int .i64 R.2.1.code, .int .i64 R.2.1.hep, .int .i64 R.2.1.hno, .int .i64 R.2.1.body]) (i := 4) (n := 5) (listed' := #[true, true, true, true, true, false, false, false, false, false]) rfl (by kernel_rfl) (by kernel_rfl) (by kernel_rfl) (St.del 5 (St.del 6 S100)) rfl (wn rfl) rfl rfl (fun _ Sx105 => (y_load rfl rfl (r_load_row 0 Sx105 rfl Try.underlying93 rfl inf93 rfl))) ?_
    refine wA_take (v := .bool R.2.2) (i := 5) (n := 4) (listed' := #[true, true, true, true, true, true, false, false, false, false]) rfl (by kernel_rfl) (by kernel_rfl) (by kernel_rfl) (St.del 5 (St.del 6 S100)) rfl (wn rfl) rfl rfl (fun _ _ => (y_move rfl rfl)) ?_
    refine wA_one (n := 3) (r := 6) (by kernel_rfl) ?_
    refine wN_st (i := 6) (listed' := #[true, true, true, true, true, true, true, false, false, false]) rfl rfl (fs' := [_, _, _, _, _, _, _, _, _, _, _]) 6 S100 (wn rfl) rfl rfl rfl rfl rfl rfl inf29 rfl (qRow_one rfl rfl) (Nat.le_of_ble_eq_true rfl) (setAll_all rfl) rfl ?_; intro w107 S108; clear S100
    refine ⟨(St.del 5 (St.del 6 S108)), ?_⟩
    refine wA_one (n := 2) (r := 7) (by kernel_rfl) ?_
    refine wN_st (i := 7) (listed' := #[true, true, true, true, true, true, true, true, false, false]) rfl rfl (fs' := [_, _, _, _, _, _, _, _, _, _, _]) 5 S108 (wn rfl) rfl rfl rfl rfl rfl rfl inf93 rfl (oneAll rfl) (Nat.le_of_ble_eq_true rfl) (setAll_all rfl) rfl ?_; intro w109 S110; clear S108
    refine ⟨(St.del 5 (St.del 6 S110)), ?_⟩
    refine wA_take (v := .bool R.2.2) (i := 8) (n := 1) (listed' := #[true, true, true, true, true, true, true, true, true, false]) rfl (by kernel_rfl) (by kernel_rfl) (by kernel_rfl) (St.del 5 (St.del 6 S110)) rfl (wn rfl) rfl rfl (fun _ _ => (y_assign rfl rfl)) ?_
    refine wA_take (v := .int .i64 0) (i := 9) (n := 0) (listed' := #[true, true, true, true, true, true, true, true, true, true]) rfl (by kernel_rfl) (by kernel_rfl) (by kernel_rfl) (St.del 5 (St.del 6 S110)) rfl (wn rfl) rfl rfl (fun _ _ => (y_assign rfl rfl)) ?_
    refine wA_done (by kernel_rfl) ?_
    refine wQ_sub (l' := [(4, _), (5, _), (6, _), (7, _)]) ⟨rfl, rfl, rfl, rfl, trivial⟩ (wQ_then (wC_ret (wQ_post (rs := [.cell 4 29, .cell 5 93, .tmp 6, .tmp 7]) (vs := [.agg (qRow R.1.ep R.1.nx R.1.gv (.slice A89 R.1.ready.length c90) (.slice A91 R.1.leases.length c92) R.1.ws), .agg #[.int .i64 R.2.1.code, .int .i64 R.2.1.hep, .int .i64 R.2.1.hno, .int .i64 R.2.1.body], .bool R.2.2, .int .i64 0]) rfl ⟨⟨_, rfl, res_row 6 S110 rfl Try.underlying29 rfl inf29⟩, ⟨_, rfl, res_row 5 S110 rfl Try.underlying93 rfl inf93⟩, rfl, rfl, trivial⟩ ?_)))
    have S113 : St w.heap.size w w109 [_, _] := (St.del 0 (St.del 1 (St.del 4 (St.del 5 (St.del 6 (St.del 7 (St.del 8 (St.del 9 (St.del 10 S110))))))))); clear S110
    rw [do_ok (Q := ⟨ep, nx, gv, rs, ls, W⟩) h0 h1, hRM]
    exact ⟨A89, c90, A91, c92, rfl, S113⟩
   ·refine wL_val (v := .func (.func 147) #[.pointer (some ⟨b19, 0, none⟩)] #[]) (wn rfl) rfl rfl (y_lookF 0 S61 rfl rfl rfl rfl Try.underlying3 Try.underlying194 (Try.zeroValue193 _) (by decide) rfl) ?_
    refine wL_val (wn rfl) rfl rfl (y_assign rfl rfl) ?_
    refine wL_nil (wQ_sub (l' := [(3, _), (4, _), (5, _), (6, _), (7, _), (10, _), (11, _)]) ⟨rfl, rfl, rfl, rfl, rfl, rfl, rfl, trivial⟩ (wQ_then (wC_seq (wC_region (wL_val (wn rfl) rfl rfl (y_move rfl rfl) ?_)))))
    refine wL_val (wn rfl) rfl rfl (y_load rfl rfl (r_load_row 6 S61 rfl Try.underlying37 rfl inf37 rfl)) ?_
    have S114 : St w.heap.size w w60 [.blk b19 (qRow ep nx gv (.slice A29 rs.length c30) (.slice A35 ls.length c36) W) 190, .own 137 2 (.slice A29 rs.length c30) rs.length ((rs).flatMap Msg.cells), .own 141 4 (.slice A35 ls.length c36) ls.length ((ls).flatMap Ls.cells), .loc b51 (FMap Try.prog 3 (fun y => if y = 4 then some (.func (.func 148) #[.pointer (some ⟨b19, 0, none⟩)] #[]) else (fun y => if y = 3 then some (.func (.func 147) #[.pointer (some ⟨b19, 0, none⟩)] #[]) else (fun y => if y = 2 then some (.func (.func 146) #[.pointer (some ⟨b19, 0, none⟩)] #[]) else (fun y => if y = 1 then some (.func (.func 145) #[.pointer (some ⟨b19, 0, none⟩)] #[]) else (fun _ => none) y) y) y) y) 4), .blk b10 #[.int .i64 0, .int .i64 0, .int .i64 0, .int .i64 0] 93, .blk b7 (qRow 0 0 0 (.slice none 0 0) (.slice none 0 0) zeroWs) 29, .blk b4 #[.int .i64 3, .int .i64 ((k : Nat) : Int), .int .i64 id, .int .i64 bd, .int .i64 he, .int .i64 hn] 37, .blk b1 (qRow ep nx gv (.slice A1 rs.length c1) (.slice A2 ls.length c2) W) 29, .rd 2 A1 rs.length ((rs).flatMap Msg.cells), .rd 4 A2 ls.length ((ls).flatMap Ls.cells)] := S61.re [3, 2, 1, 0, 4, 5, 6, 7, 8, 9] (by decide); clear S61
    have HC := ack_calls (kd := 3) (k := k) (id := id) (bd := bd) (he := he) (hn := hn) S114 hk (by omega) (by omega) (by omega) (by omega) (ls_hep hLs) (ls_inj hLs)
    rw [← show stepM ⟨ep, nx, gv, rs, ls, W⟩ ⟨3, ((k : Nat) : Int), id, bd, he, hn⟩ = ackM ⟨ep, nx, gv, rs, ls, W⟩ he hn from by simp [stepM]] at HC
    obtain ⟨R, hRM⟩ : ∃ R, stepM ⟨ep, nx, gv, rs, ls, W⟩ ⟨3, ((k : Nat) : Int), id, bd, he, hn⟩ = R := ⟨_, rfl⟩
    rw [hRM] at HC
    refine wL_call (vs := [.pointer (some ⟨b19, 0, none⟩), .agg #[.int .i64 3, .int .i64 ((k : Nat) : Int), .int .i64 id, .int .i64 bd, .int .i64 he, .int .i64 hn]]) (wn rfl) rfl rfl (e_callv (first := [.pointer (some ⟨b19, 0, none⟩)]) (cap := []) (vs := [.agg #[.int .i64 3, .int .i64 ((k : Nat) : Int), .int .i64 id, .int .i64 bd, .int .i64 he, .int .i64 hn]]) rfl rfl en147 ⟨rfl, trivial⟩ rfl) (HC) ?_
    rintro _ w119 ⟨rfl, A115, c116, A117, c118, S120⟩
    refine ⟨_, rfl, ?_⟩; clear HC S114
    change St _ _ _ [.blk b19 (qRow R.1.ep R.1.nx R.1.gv (.slice A115 R.1.ready.length c116) (.slice A117 R.1.leases.length c118) R.1.ws) 190, .rdo 2 A115 R.1.ready.length ((R.1.ready).flatMap Msg.cells), .rdo 4 A117 R.1.leases.length ((R.1.leases).flatMap Ls.cells), .loc b51 (FMap Try.prog 3 (fun y => if y = 4 then some (.func (.func 148) #[.pointer (some ⟨b19, 0, none⟩)] #[]) else (fun y => if y = 3 then some (.func (.func 147) #[.pointer (some ⟨b19, 0, none⟩)] #[]) else (fun y => if y = 2 then some (.func (.func 146) #[.pointer (some ⟨b19, 0, none⟩)] #[]) else (fun y => if y = 1 then some (.func (.func 145) #[.pointer (some ⟨b19, 0, none⟩)] #[]) else (fun _ => none) y) y) y) y) 4), .blk b10 #[.int .i64 0, .int .i64 0, .int .i64 0, .int .i64 0] 93, .blk b7 (qRow 0 0 0 (.slice none 0 0) (.slice none 0 0) zeroWs) 29, .blk b4 #[.int .i64 3, .int .i64 ((k : Nat) : Int), .int .i64 id, .int .i64 bd, .int .i64 he, .int .i64 hn] 37, .blk b1 (qRow ep nx gv (.slice A1 rs.length c1) (.slice A2 ls.length c2) W) 29, .rd 2 A1 rs.length ((rs).flatMap Msg.cells), .rd 4 A2 ls.length ((ls).flatMap Ls.cells)] at S120
    refine wL_val (wn rfl) rfl rfl (y_move rfl rfl) ?_
    refine wL_val (wn rfl) rfl rfl (y_extract rfl rfl rfl) ?_
    refine wL_val (wn rfl) rfl rfl (y_extract rfl rfl rfl) ?_
    refine wL_new (V := fun b => .pointer (some ⟨b, 0, none⟩)) (row := #[.int .i64 0, .int .i64 0, .int .i64 0, .int .i64 0]) (t := 93) S120 (wn rfl) rfl rfl (d_alloc rfl (Try.zeroValue93 _) rfl) ?_; intro b121 w122 S123; clear S120
    refine wL_st (fs' := [_, _, _, _, _, _, _, _, _, _, _]) 0 S123 (wn rfl) rfl rfl rfl rfl rfl rfl inf93 rfl (oneAll rfl) (Nat.le_of_ble_eq_true rfl) (setAll_all rfl) rfl ?_; intro w124 S125; clear S123
    refine wL_val (wn rfl) rfl rfl (y_assign rfl rfl) ?_
    refine wL_nil (wQ_sub (l' := [(4, _), (5, _), (6, _), (7, _), (10, _), (12, _), (13, _)]) ⟨rfl, rfl, rfl, rfl, rfl, rfl, rfl, trivial⟩ (wQ_then (wC_seq ?_)))
    have S126 := S125.drew; clear S125
    refine wC_any_ (C := fun w' => St w.heap.size w w' [.blk b121 #[.int .i64 R.2.1.code, .int .i64 R.2.1.hep, .int .i64 R.2.1.hno, .int .i64 R.2.1.body] 93, .blk b19 (qRow R.1.ep R.1.nx R.1.gv (.slice A115 R.1.ready.length c116) (.slice A117 R.1.leases.length c118) R.1.ws) 190, .rdo 2 A115 R.1.ready.length ((R.1.ready).flatMap Msg.cells), .rdo 4 A117 R.1.leases.length ((R.1.leases).flatMap Ls.cells), .loc b51 (FMap Try.prog 3 (fun y => if y = 4 then some (.func (.func 148) #[.pointer (some ⟨b19, 0, none⟩)] #[]) else (fun y => if y = 3 then some (.func (.func 147) #[.pointer (some ⟨b19, 0, none⟩)] #[]) else (fun y => if y = 2 then some (.func (.func 146) #[.pointer (some ⟨b19, 0, none⟩)] #[]) else (fun y => if y = 1 then some (.func (.func 145) #[.pointer (some ⟨b19, 0, none⟩)] #[]) else (fun _ => none) y) y) y) y) 4), .blk b4 #[.int .i64 3, .int .i64 ((k : Nat) : Int), .int .i64 id, .int .i64 bd, .int .i64 he, .int .i64 hn] 37, .blk b1 (qRow ep nx gv (.slice A1 rs.length c1) (.slice A2 ls.length c2) W) 29, .rd 2 A1 rs.length ((rs).flatMap Msg.cells), .rd 4 A2 ls.length ((ls).flatMap Ls.cells)]) (n := 10) (listed := #[false, false, false, false, false, false, false, false, false, false]) mixed rfl rfl ?_
    refine wA_take (v := .pointer (some ⟨b19, 0, none⟩)) (i := 0) (n := 9) (listed' := #[true, false, false, false, false, false, false, false, false, false]) rfl (by kernel_rfl) (by kernel_rfl) (by kernel_rfl) (St.del 5 (St.del 6 S126)) rfl (wn rfl) rfl rfl (fun _ _ => (y_move rfl rfl)) ?_
    refine wA_take (v := .pointer (some ⟨b19, 0, none⟩)) (i := 1) (n := 8) (listed' := #[true, true, false, false, false, false, false, false, false, false]) rfl (by kernel_rfl) (by kernel_rfl) (by kernel_rfl) (St.del 5 (St.del 6 S126)) rfl (wn rfl) rfl rfl (fun _ _ => (y_nil rfl rfl trivial)) ?_
    refine wA_take (v := .pointer (some ⟨b19, 0, none⟩)) (i := 2) (n := 7) (listed' := #[true, true, true, false, false, false, false, false, false, false]) rfl (by kernel_rfl) (by kernel_rfl) (by kernel_rfl) (St.del 5 (St.del 6 S126)) rfl (wn rfl) rfl rfl (fun _ _ => (y_fieldAddr rfl rfl (fa190_0 _ _ _))) ?_
    refine wA_take (v := .agg (qRow R.1.ep R.1.nx R.1.gv (.slice A115 R.1.ready.length c116) (.slice A117 R.1.leases.length c118) R.1.ws)) (i := 3) (n := 6) (listed' := #[true, true, true, true, false, false, false, false, false, false]) rfl (by kernel_rfl) (by kernel_rfl) (by kernel_rfl) (St.del 5 (St.del 6 S126)) rfl (wn rfl) rfl rfl (fun _ Sx130 => (y_load rfl rfl (r_load_row 1 Sx130 rfl Try.underlying29 rfl inf29 rfl))) ?_
    refine wA_take (v := .agg #[.int .i64 R.2.1.code, .int .i64 R.2.1.hep, .int .i64 R.2.1.hno, .int .i64 R.2.1.body]) (i := 4) (n := 5) (listed' := #[true, true, true, true, true, false, false, false, false, false]) rfl (by kernel_rfl) (by kernel_rfl) (by kernel_rfl) (St.del 5 (St.del 6 S126)) rfl (wn rfl) rfl rfl (fun _ Sx131 => (y_load rfl rfl (r_load_row 0 Sx131 rfl Try.underlying93 rfl inf93 rfl))) ?_
    refine wA_take (v := .bool R.2.2) (i := 5) (n := 4) (listed' := #[true, true, true, true, true, true, false, false, false, false]) rfl (by kernel_rfl) (by kernel_rfl) (by kernel_rfl) (St.del 5 (St.del 6 S126)) rfl (wn rfl) rfl rfl (fun _ _ => (y_move rfl rfl)) ?_
    refine wA_one (n := 3) (r := 6) (by kernel_rfl) ?_
    refine wN_st (i := 6) (listed' := #[true, true, true, true, true, true, true, false, false, false]) rfl rfl (fs' := [_, _, _, _, _, _, _, _, _, _, _]) 6 S126 (wn rfl) rfl rfl rfl rfl rfl rfl inf29 rfl (qRow_one rfl rfl) (Nat.le_of_ble_eq_true rfl) (setAll_all rfl) rfl ?_; intro w133 S134; clear S126
    refine ⟨(St.del 5 (St.del 6 S134)), ?_⟩
    refine wA_one (n := 2) (r := 7) (by kernel_rfl) ?_
    refine wN_st (i := 7) (listed' := #[true, true, true, true, true, true, true, true, false, false]) rfl rfl (fs' := [_, _, _, _, _, _, _, _, _, _, _]) 5 S134 (wn rfl) rfl rfl rfl rfl rfl rfl inf93 rfl (oneAll rfl) (Nat.le_of_ble_eq_true rfl) (setAll_all rfl) rfl ?_; intro w135 S136; clear S134
    refine ⟨(St.del 5 (St.del 6 S136)), ?_⟩
    refine wA_take (v := .bool R.2.2) (i := 8) (n := 1) (listed' := #[true, true, true, true, true, true, true, true, true, false]) rfl (by kernel_rfl) (by kernel_rfl) (by kernel_rfl) (St.del 5 (St.del 6 S136)) rfl (wn rfl) rfl rfl (fun _ _ => (y_assign rfl rfl)) ?_
    refine wA_take (v := .int .i64 0) (i := 9) (n := 0) (listed' := #[true, true, true, true, true, true, true, true, true, true]) rfl (by kernel_rfl) (by kernel_rfl) (by kernel_rfl) (St.del 5 (St.del 6 S136)) rfl (wn rfl) rfl rfl (fun _ _ => (y_assign rfl rfl)) ?_
    refine wA_done (by kernel_rfl) ?_
    refine wQ_sub (l' := [(4, _), (5, _), (6, _), (7, _)]) ⟨rfl, rfl, rfl, rfl, trivial⟩ (wQ_then (wC_ret (wQ_post (rs := [.cell 4 29, .cell 5 93, .tmp 6, .tmp 7]) (vs := [.agg (qRow R.1.ep R.1.nx R.1.gv (.slice A115 R.1.ready.length c116) (.slice A117 R.1.leases.length c118) R.1.ws), .agg #[.int .i64 R.2.1.code, .int .i64 R.2.1.hep, .int .i64 R.2.1.hno, .int .i64 R.2.1.body], .bool R.2.2, .int .i64 0]) rfl ⟨⟨_, rfl, res_row 6 S136 rfl Try.underlying29 rfl inf29⟩, ⟨_, rfl, res_row 5 S136 rfl Try.underlying93 rfl inf93⟩, rfl, rfl, trivial⟩ ?_)))
    have S139 : St w.heap.size w w135 [_, _] := (St.del 0 (St.del 1 (St.del 4 (St.del 5 (St.del 6 (St.del 7 (St.del 8 (St.del 9 (St.del 10 S136))))))))); clear S136
    rw [do_ok (Q := ⟨ep, nx, gv, rs, ls, W⟩) h0 h1, hRM]
    exact ⟨A115, c116, A117, c118, rfl, S139⟩
   ·refine wL_val (v := .func (.func 148) #[.pointer (some ⟨b19, 0, none⟩)] #[]) (wn rfl) rfl rfl (y_lookF 0 S61 rfl rfl rfl rfl Try.underlying3 Try.underlying194 (Try.zeroValue193 _) (by decide) rfl) ?_
    refine wL_val (wn rfl) rfl rfl (y_assign rfl rfl) ?_
    refine wL_nil (wQ_sub (l' := [(3, _), (4, _), (5, _), (6, _), (7, _), (10, _), (11, _)]) ⟨rfl, rfl, rfl, rfl, rfl, rfl, rfl, trivial⟩ (wQ_then (wC_seq (wC_region (wL_val (wn rfl) rfl rfl (y_move rfl rfl) ?_)))))
    refine wL_val (wn rfl) rfl rfl (y_load rfl rfl (r_load_row 6 S61 rfl Try.underlying37 rfl inf37 rfl)) ?_
    have S140 : St w.heap.size w w60 [.blk b19 (qRow ep nx gv (.slice A29 rs.length c30) (.slice A35 ls.length c36) W) 190, .own 137 2 (.slice A29 rs.length c30) rs.length ((rs).flatMap Msg.cells), .own 141 4 (.slice A35 ls.length c36) ls.length ((ls).flatMap Ls.cells), .loc b51 (FMap Try.prog 3 (fun y => if y = 4 then some (.func (.func 148) #[.pointer (some ⟨b19, 0, none⟩)] #[]) else (fun y => if y = 3 then some (.func (.func 147) #[.pointer (some ⟨b19, 0, none⟩)] #[]) else (fun y => if y = 2 then some (.func (.func 146) #[.pointer (some ⟨b19, 0, none⟩)] #[]) else (fun y => if y = 1 then some (.func (.func 145) #[.pointer (some ⟨b19, 0, none⟩)] #[]) else (fun _ => none) y) y) y) y) 4), .blk b10 #[.int .i64 0, .int .i64 0, .int .i64 0, .int .i64 0] 93, .blk b7 (qRow 0 0 0 (.slice none 0 0) (.slice none 0 0) zeroWs) 29, .blk b4 #[.int .i64 4, .int .i64 ((k : Nat) : Int), .int .i64 id, .int .i64 bd, .int .i64 he, .int .i64 hn] 37, .blk b1 (qRow ep nx gv (.slice A1 rs.length c1) (.slice A2 ls.length c2) W) 29, .rd 2 A1 rs.length ((rs).flatMap Msg.cells), .rd 4 A2 ls.length ((ls).flatMap Ls.cells)] := S61.re [3, 2, 1, 0, 4, 5, 6, 7, 8, 9] (by decide); clear S61
    have HC := end_calls (kd := 4) (k := k) (id := id) (bd := bd) (he := he) (hn := hn) S140 hk (by omega) (by omega) (by omega) (by omega) (rdy_asc hRd) hNd
    rw [← show stepM ⟨ep, nx, gv, rs, ls, W⟩ ⟨4, ((k : Nat) : Int), id, bd, he, hn⟩ = endM ⟨ep, nx, gv, rs, ls, W⟩ from by simp [stepM]] at HC
    obtain ⟨R, hRM⟩ : ∃ R, stepM ⟨ep, nx, gv, rs, ls, W⟩ ⟨4, ((k : Nat) : Int), id, bd, he, hn⟩ = R := ⟨_, rfl⟩
    rw [hRM] at HC
    refine wL_call (vs := [.pointer (some ⟨b19, 0, none⟩), .agg #[.int .i64 4, .int .i64 ((k : Nat) : Int), .int .i64 id, .int .i64 bd, .int .i64 he, .int .i64 hn]]) (wn rfl) rfl rfl (e_callv (first := [.pointer (some ⟨b19, 0, none⟩)]) (cap := []) (vs := [.agg #[.int .i64 4, .int .i64 ((k : Nat) : Int), .int .i64 id, .int .i64 bd, .int .i64 he, .int .i64 hn]]) rfl rfl en148 ⟨rfl, trivial⟩ rfl) (HC) ?_
    rintro _ w145 ⟨rfl, A141, c142, A143, c144, S146⟩
    refine ⟨_, rfl, ?_⟩; clear HC S140
    change St _ _ _ [.blk b19 (qRow R.1.ep R.1.nx R.1.gv (.slice A141 R.1.ready.length c142) (.slice A143 R.1.leases.length c144) R.1.ws) 190, .rdo 2 A141 R.1.ready.length ((R.1.ready).flatMap Msg.cells), .rdo 4 A143 R.1.leases.length ((R.1.leases).flatMap Ls.cells), .loc b51 (FMap Try.prog 3 (fun y => if y = 4 then some (.func (.func 148) #[.pointer (some ⟨b19, 0, none⟩)] #[]) else (fun y => if y = 3 then some (.func (.func 147) #[.pointer (some ⟨b19, 0, none⟩)] #[]) else (fun y => if y = 2 then some (.func (.func 146) #[.pointer (some ⟨b19, 0, none⟩)] #[]) else (fun y => if y = 1 then some (.func (.func 145) #[.pointer (some ⟨b19, 0, none⟩)] #[]) else (fun _ => none) y) y) y) y) 4), .blk b10 #[.int .i64 0, .int .i64 0, .int .i64 0, .int .i64 0] 93, .blk b7 (qRow 0 0 0 (.slice none 0 0) (.slice none 0 0) zeroWs) 29, .blk b4 #[.int .i64 4, .int .i64 ((k : Nat) : Int), .int .i64 id, .int .i64 bd, .int .i64 he, .int .i64 hn] 37, .blk b1 (qRow ep nx gv (.slice A1 rs.length c1) (.slice A2 ls.length c2) W) 29, .rd 2 A1 rs.length ((rs).flatMap Msg.cells), .rd 4 A2 ls.length ((ls).flatMap Ls.cells)] at S146
    refine wL_val (wn rfl) rfl rfl (y_move rfl rfl) ?_
    refine wL_val (wn rfl) rfl rfl (y_extract rfl rfl rfl) ?_
    refine wL_val (wn rfl) rfl rfl (y_extract rfl rfl rfl) ?_
    refine wL_new (V := fun b => .pointer (some ⟨b, 0, none⟩)) (row := #[.int .i64 0, .int .i64 0, .int .i64 0, .int .i64 0]) (t := 93) S146 (wn rfl) rfl rfl (d_alloc rfl (Try.zeroValue93 _) rfl) ?_; intro b147 w148 S149; clear S146
    refine wL_st (fs' := [_, _, _, _, _, _, _, _, _, _, _]) 0 S149 (wn rfl) rfl rfl rfl rfl rfl rfl inf93 rfl (oneAll rfl) (Nat.le_of_ble_eq_true rfl) (setAll_all rfl) rfl ?_; intro w150 S151; clear S149
    refine wL_val (wn rfl) rfl rfl (y_assign rfl rfl) ?_
    refine wL_nil (wQ_sub (l' := [(4, _), (5, _), (6, _), (7, _), (10, _), (12, _), (13, _)]) ⟨rfl, rfl, rfl, rfl, rfl, rfl, rfl, trivial⟩ (wQ_then (wC_seq ?_)))
    have S152 := S151.drew; clear S151
    refine wC_any_ (C := fun w' => St w.heap.size w w' [.blk b147 #[.int .i64 R.2.1.code, .int .i64 R.2.1.hep, .int .i64 R.2.1.hno, .int .i64 R.2.1.body] 93, .blk b19 (qRow R.1.ep R.1.nx R.1.gv (.slice A141 R.1.ready.length c142) (.slice A143 R.1.leases.length c144) R.1.ws) 190, .rdo 2 A141 R.1.ready.length ((R.1.ready).flatMap Msg.cells), .rdo 4 A143 R.1.leases.length ((R.1.leases).flatMap Ls.cells), .loc b51 (FMap Try.prog 3 (fun y => if y = 4 then some (.func (.func 148) #[.pointer (some ⟨b19, 0, none⟩)] #[]) else (fun y => if y = 3 then some (.func (.func 147) #[.pointer (some ⟨b19, 0, none⟩)] #[]) else (fun y => if y = 2 then some (.func (.func 146) #[.pointer (some ⟨b19, 0, none⟩)] #[]) else (fun y => if y = 1 then some (.func (.func 145) #[.pointer (some ⟨b19, 0, none⟩)] #[]) else (fun _ => none) y) y) y) y) 4), .blk b4 #[.int .i64 4, .int .i64 ((k : Nat) : Int), .int .i64 id, .int .i64 bd, .int .i64 he, .int .i64 hn] 37, .blk b1 (qRow ep nx gv (.slice A1 rs.length c1) (.slice A2 ls.length c2) W) 29, .rd 2 A1 rs.length ((rs).flatMap Msg.cells), .rd 4 A2 ls.length ((ls).flatMap Ls.cells)]) (n := 10) (listed := #[false, false, false, false, false, false, false, false, false, false]) mixed rfl rfl ?_
    refine wA_take (v := .pointer (some ⟨b19, 0, none⟩)) (i := 0) (n := 9) (listed' := #[true, false, false, false, false, false, false, false, false, false]) rfl (by kernel_rfl) (by kernel_rfl) (by kernel_rfl) (St.del 5 (St.del 6 S152)) rfl (wn rfl) rfl rfl (fun _ _ => (y_move rfl rfl)) ?_
    refine wA_take (v := .pointer (some ⟨b19, 0, none⟩)) (i := 1) (n := 8) (listed' := #[true, true, false, false, false, false, false, false, false, false]) rfl (by kernel_rfl) (by kernel_rfl) (by kernel_rfl) (St.del 5 (St.del 6 S152)) rfl (wn rfl) rfl rfl (fun _ _ => (y_nil rfl rfl trivial)) ?_
    refine wA_take (v := .pointer (some ⟨b19, 0, none⟩)) (i := 2) (n := 7) (listed' := #[true, true, true, false, false, false, false, false, false, false]) rfl (by kernel_rfl) (by kernel_rfl) (by kernel_rfl) (St.del 5 (St.del 6 S152)) rfl (wn rfl) rfl rfl (fun _ _ => (y_fieldAddr rfl rfl (fa190_0 _ _ _))) ?_
    refine wA_take (v := .agg (qRow R.1.ep R.1.nx R.1.gv (.slice A141 R.1.ready.length c142) (.slice A143 R.1.leases.length c144) R.1.ws)) (i := 3) (n := 6) (listed' := #[true, true, true, true, false, false, false, false, false, false]) rfl (by kernel_rfl) (by kernel_rfl) (by kernel_rfl) (St.del 5 (St.del 6 S152)) rfl (wn rfl) rfl rfl (fun _ Sx156 => (y_load rfl rfl (r_load_row 1 Sx156 rfl Try.underlying29 rfl inf29 rfl))) ?_
    refine wA_take (v := .agg #[.int .i64 R.2.1.code, .int .i64 R.2.1.hep, .int .i64 R.2.1.hno, .int .i64 R.2.1.body]) (i := 4) (n := 5) (listed' := #[true, true, true, true, true, false, false, false, false, false]) rfl (by kernel_rfl) (by kernel_rfl) (by kernel_rfl) (St.del 5 (St.del 6 S152)) rfl (wn rfl) rfl rfl (fun _ Sx157 => (y_load rfl rfl (r_load_row 0 Sx157 rfl Try.underlying93 rfl inf93 rfl))) ?_
    refine wA_take (v := .bool R.2.2) (i := 5) (n := 4) (listed' := #[true, true, true, true, true, true, false, false, false, false]) rfl (by kernel_rfl) (by kernel_rfl) (by kernel_rfl) (St.del 5 (St.del 6 S152)) rfl (wn rfl) rfl rfl (fun _ _ => (y_move rfl rfl)) ?_
    refine wA_one (n := 3) (r := 6) (by kernel_rfl) ?_
    refine wN_st (i := 6) (listed' := #[true, true, true, true, true, true, true, false, false, false]) rfl rfl (fs' := [_, _, _, _, _, _, _, _, _, _, _]) 6 S152 (wn rfl) rfl rfl rfl rfl rfl rfl inf29 rfl (qRow_one rfl rfl) (Nat.le_of_ble_eq_true rfl) (setAll_all rfl) rfl ?_; intro w159 S160; clear S152
    refine ⟨(St.del 5 (St.del 6 S160)), ?_⟩
    refine wA_one (n := 2) (r := 7) (by kernel_rfl) ?_
    refine wN_st (i := 7) (listed' := #[true, true, true, true, true, true, true, true, false, false]) rfl rfl (fs' := [_, _, _, _, _, _, _, _, _, _, _]) 5 S160 (wn rfl) rfl rfl rfl rfl rfl rfl inf93 rfl (oneAll rfl) (Nat.le_of_ble_eq_true rfl) (setAll_all rfl) rfl ?_; intro w161 S162; clear S160
    refine ⟨(St.del 5 (St.del 6 S162)), ?_⟩
    refine wA_take (v := .bool R.2.2) (i := 8) (n := 1) (listed' := #[true, true, true, true, true, true, true, true, true, false]) rfl (by kernel_rfl) (by kernel_rfl) (by kernel_rfl) (St.del 5 (St.del 6 S162)) rfl (wn rfl) rfl rfl (fun _ _ => (y_assign rfl rfl)) ?_
    refine wA_take (v := .int .i64 0) (i := 9) (n := 0) (listed' := #[true, true, true, true, true, true, true, true, true, true]) rfl (by kernel_rfl) (by kernel_rfl) (by kernel_rfl) (St.del 5 (St.del 6 S162)) rfl (wn rfl) rfl rfl (fun _ _ => (y_assign rfl rfl)) ?_
    refine wA_done (by kernel_rfl) ?_
    refine wQ_sub (l' := [(4, _), (5, _), (6, _), (7, _)]) ⟨rfl, rfl, rfl, rfl, trivial⟩ (wQ_then (wC_ret (wQ_post (rs := [.cell 4 29, .cell 5 93, .tmp 6, .tmp 7]) (vs := [.agg (qRow R.1.ep R.1.nx R.1.gv (.slice A141 R.1.ready.length c142) (.slice A143 R.1.leases.length c144) R.1.ws), .agg #[.int .i64 R.2.1.code, .int .i64 R.2.1.hep, .int .i64 R.2.1.hno, .int .i64 R.2.1.body], .bool R.2.2, .int .i64 0]) rfl ⟨⟨_, rfl, res_row 6 S162 rfl Try.underlying29 rfl inf29⟩, ⟨_, rfl, res_row 5 S162 rfl Try.underlying93 rfl inf93⟩, rfl, rfl, trivial⟩ ?_)))
    have S165 : St w.heap.size w w161 [_, _] := (St.del 0 (St.del 1 (St.del 4 (St.del 5 (St.del 6 (St.del 7 (St.del 8 (St.del 9 (St.del 10 S162))))))))); clear S162
    rw [do_ok (Q := ⟨ep, nx, gv, rs, ls, W⟩) h0 h1, hRM]
    exact ⟨A141, c142, A143, c144, rfl, S165⟩
  ·refine wL_val (v := .bool true) (wn rfl) rfl rfl (y_binop rfl rfl rfl (r_neq_t h1)) ?_
   refine wL_nil (wQ_sub (l' := [(2, _), (3, _), (4, _), (5, _), (6, _), (7, _), (9, _), (24, _)]) ⟨rfl, rfl, rfl, rfl, rfl, rfl, rfl, rfl, trivial⟩ (wQ_then (wC_cond_t rfl (wC_seq (wC_region (wL_val (v := .agg (qRow 0 0 0 (.slice none 0 0) (.slice none 0 0) zeroWs)) (wn rfl) rfl rfl (y_build (vs := []) rfl trivial (by kernel_rfl)) ?_))))))
   refine wL_val (v := .agg #[.int .i64 0, .int .i64 0, .int .i64 0, .int .i64 0]) (wn rfl) rfl rfl (y_build (vs := []) rfl trivial (by kernel_rfl)) ?_
   refine wL_val (wn rfl) rfl rfl (y_move rfl rfl) ?_
   refine wL_st (fs' := [_, _, _, _, _, _]) 1 S17 (wn rfl) rfl rfl rfl rfl rfl rfl inf29 rfl (qRow_one rfl rfl) (Nat.le_of_ble_eq_true rfl) (setAll_all rfl) rfl ?_; intro w166 S167; clear S17
   refine wL_st (fs' := [_, _, _, _, _, _]) 0 S167 (wn rfl) rfl rfl rfl rfl rfl rfl inf93 rfl (oneAll rfl) (Nat.le_of_ble_eq_true rfl) (setAll_all rfl) rfl ?_; intro w168 S169; clear S167
   refine wL_val (wn rfl) rfl rfl (y_assign rfl rfl) ?_
   refine wL_val (wn rfl) rfl rfl (y_assign rfl rfl) ?_
   refine wL_nil (wQ_sub (l' := [(4, _), (5, _), (6, _), (7, _)]) ⟨rfl, rfl, rfl, rfl, trivial⟩ (wQ_then (wC_ret (wQ_then_ret (wQ_post (rs := [.cell 4 29, .cell 5 93, .tmp 6, .tmp 7]) (vs := [.agg (qRow 0 0 0 (.slice none 0 0) (.slice none 0 0) zeroWs), .agg #[.int .i64 0, .int .i64 0, .int .i64 0, .int .i64 0], .bool false, .int .i64 (evFault ⟨kd, pr, id, bd, he, hn⟩)]) rfl ⟨⟨_, rfl, res_row 1 S169 rfl Try.underlying29 rfl inf29⟩, ⟨_, rfl, res_row 0 S169 rfl Try.underlying93 rfl inf93⟩, rfl, rfl, trivial⟩ ?_)))))
   have S170 : St w.heap.size w w168 [] := (St.del 0 (St.del 1 (St.del 2 (St.del 3 (St.del 4 (St.del 5 S169)))))); clear S169
   rw [do_ef (Q := ⟨ep, nx, gv, rs, ls, W⟩) h0 h1]
   exact ⟨none, 0, none, 0, rfl, rdo_nil2 S170⟩
 ·refine wL_val (v := .bool true) (wn rfl) rfl rfl (y_binop rfl rfl rfl (r_neq_t h0)) ?_
  refine wL_nil (wQ_sub (l' := [(2, _), (3, _), (4, _), (5, _), (6, _), (7, _), (8, _), (17, _)]) ⟨rfl, rfl, rfl, rfl, rfl, rfl, rfl, rfl, trivial⟩ (wQ_then (wC_cond_t rfl (wC_seq (wC_region (wL_val (v := .agg (qRow 0 0 0 (.slice none 0 0) (.slice none 0 0) zeroWs)) (wn rfl) rfl rfl (y_build (vs := []) rfl trivial (by kernel_rfl)) ?_))))))
  refine wL_val (v := .agg #[.int .i64 0, .int .i64 0, .int .i64 0, .int .i64 0]) (wn rfl) rfl rfl (y_build (vs := []) rfl trivial (by kernel_rfl)) ?_
  refine wL_val (wn rfl) rfl rfl (y_move rfl rfl) ?_
  refine wL_st (fs' := [_, _, _, _, _, _]) 1 S14 (wn rfl) rfl rfl rfl rfl rfl rfl inf29 rfl (qRow_one rfl rfl) (Nat.le_of_ble_eq_true rfl) (setAll_all rfl) rfl ?_; intro w171 S172; clear S14
  refine wL_st (fs' := [_, _, _, _, _, _]) 0 S172 (wn rfl) rfl rfl rfl rfl rfl rfl inf93 rfl (oneAll rfl) (Nat.le_of_ble_eq_true rfl) (setAll_all rfl) rfl ?_; intro w173 S174; clear S172
  refine wL_val (wn rfl) rfl rfl (y_assign rfl rfl) ?_
  refine wL_val (wn rfl) rfl rfl (y_assign rfl rfl) ?_
  refine wL_nil (wQ_sub (l' := [(4, _), (5, _), (6, _), (7, _)]) ⟨rfl, rfl, rfl, rfl, trivial⟩ (wQ_then (wC_ret (wQ_then_ret (wQ_post (rs := [.cell 4 29, .cell 5 93, .tmp 6, .tmp 7]) (vs := [.agg (qRow 0 0 0 (.slice none 0 0) (.slice none 0 0) zeroWs), .agg #[.int .i64 0, .int .i64 0, .int .i64 0, .int .i64 0], .bool false, .int .i64 (queueFault ep nx gv rs ls W)]) rfl ⟨⟨_, rfl, res_row 1 S174 rfl Try.underlying29 rfl inf29⟩, ⟨_, rfl, res_row 0 S174 rfl Try.underlying93 rfl inf93⟩, rfl, rfl, trivial⟩ ?_)))))
  have S175 : St w.heap.size w w173 [] := (St.del 0 (St.del 1 (St.del 2 (St.del 3 (St.del 4 (St.del 5 S174)))))); clear S174
  rw [do_qf (Q := ⟨ep, nx, gv, rs, ls, W⟩) h0]
  exact ⟨none, 0, none, 0, rfl, rdo_nil2 S175⟩
end Go.Proofs.Ytkjlafpafmihaaa

namespace Go.Proofs.Ytkjlafpafmihaaa
open Go.ChangeShapes Go.WideShapes Go.RowKit

theorem IdTaken_below (x : Win) (id : Int) (w : World) : Calls Try.prog 150 #[.agg x.cells.toArray, .int .i64 id] w fun e w' => e = .returned (.tuple #[.agg (takeW x id).1.cells.toArray, .bool (takeW x id).2.1, .int .i64 (takeW x id).2.2]) ∧ Below w.heap.size w w' := (IdTaken_calls x id w).mono fun _ _ h => h

set_option maxRecDepth 100000 in
set_option maxHeartbeats 2000000 in
theorem messageIn_calls (A : Option Addr) (c : Nat) (l : List Msg) (m : Msg) (w : World) (h : Rd w w.heap.size 2 A l.length (l.flatMap Msg.cells)) (hl : l.length ≤ 100000) :
    Calls Try.prog 151 #[.slice A l.length c, .agg #[.int .i64 m.no, .int .i64 m.body]] w (OwnPost w 137 2 (l.length + 1) ((putMsg m l).flatMap Msg.cells)) := by
 have S := (St.start w).addRd h; clear h
 refine calls_of_wC (N := 44) (vs := [.slice A l.length c, .agg #[.int .i64 m.no, .int .i64 m.body]]) Try.func151 rfl rfl rfl ?_
 refine wC_sub (l' := [(0, .slice A l.length c), (1, .agg #[.int .i64 m.no, .int .i64 m.body])]) ⟨rfl, rfl, trivial⟩ (wC_seq (wC_region (wL_new (V := fun b => .pointer (some ⟨b, 0, none⟩)) (row := #[.int .i64 m.no, .int .i64 m.body]) (t := 137) S (wn rfl) rfl rfl (d_box rfl rfl rfl) ?_))); intro b1 w2 S3; clear S
 refine wL_val (wn rfl) rfl rfl (y_assign rfl rfl) ?_
 refine wL_nil (wQ_sub (l' := [(0, _), (3, _), (4, _)]) ⟨rfl, rfl, rfl, trivial⟩ (wQ_then (wC_seq (wC_region (wL_val (wn rfl) rfl rfl (y_assign rfl rfl) ?_)))))
 refine wL_nil (wQ_then (wC_seq (wC_region (wL_val (wn rfl) rfl rfl (y_assign rfl rfl) ?_))))
 refine wL_nil (wQ_then (wC_seq (wC_seq (wC_region (wL_val (wn rfl) rfl rfl (y_assign rfl rfl) ?_)))))
 refine wL_nil (wQ_then (wC_block ?_))
 have S4 := S3.nil 137 2; clear S3
 change St _ _ _ [.own 137 2 (.slice none 0 0) 0 (([]).flatMap Msg.cells), .blk b1 #[.int .i64 m.no, .int .i64 m.body] 137, .rd 2 A l.length ((l).flatMap Msg.cells)] at S4
 refine wC_loop (X := Nat × (Option Addr) × Nat × (List Msg) × Nat × Bool) (fun xv => [(0, .slice A l.length c), (3, .pointer (some ⟨b1, 0, none⟩)), (4, .slice none 0 0), (5, .slice xv.2.1 xv.2.2.2.2.1 xv.2.2.1), (6, .bool xv.2.2.2.2.2), (7, .int .i64 ((xv.1 : Nat) : Int))]) (fun xv wr => (xv.1 ≤ l.length) ∧ (putMsg m l = xv.2.2.2.1 ++ putRest m (l.drop xv.1) xv.2.2.2.2.2) ∧ (xv.2.2.2.2.1 = xv.2.2.2.1.length) ∧ (xv.2.2.2.2.1 = xv.1 + xv.2.2.2.2.2.toNat) ∧ St w.heap.size w wr [.own 137 2 (.slice xv.2.1 xv.2.2.2.2.1 xv.2.2.1) xv.2.2.2.2.1 ((xv.2.2.2.1).flatMap Msg.cells), .blk b1 #[.int .i64 m.no, .int .i64 m.body] 137, .rd 2 A l.length ((l).flatMap Msg.cells)]) (fun xv => l.length - xv.1) (0, none, 0, [], 0, false) ?_ ?_ ?_
 ·exact ⟨Nat.zero_le _, rfl, rfl, rfl, S4⟩
 ·exact ⟨rfl, rfl, rfl, rfl, rfl, rfl, trivial⟩
 ·rintro ⟨k, Ab, cb, out, n, dn⟩ w5 ⟨hi7, hi8, hi9, hi10, S6⟩
  try dsimp only at hi7 hi8 hi9 hi10 S6; clear S4
  refine wC_sub (l' := [(0, .slice A l.length c), (3, .pointer (some ⟨b1, 0, none⟩)), (4, .slice none 0 0), (5, .slice Ab n cb), (6, .bool dn), (7, .int .i64 ((k : Nat) : Int))]) ⟨rfl, rfl, rfl, rfl, rfl, rfl, trivial⟩ (wC_seq (wC_seq (wC_region (wL_val (wn rfl) rfl rfl (y_move rfl rfl) ?_))))
  refine wL_val (wn rfl) rfl rfl (y_move rfl rfl) ?_
  refine wL_val (v := .int .i64 ((l.length : Nat) : Int)) (wn rfl) rfl rfl (y_builtin (vs := [.slice A l.length c]) rfl ⟨rfl, trivial⟩ fun _ => r_len rfl Try.underlying22) ?_
  by_cases h11 : ((k : Nat) : Int) < ((l.length : Nat) : Int)
  ·refine wL_val (v := .bool true) (wn rfl) rfl rfl (y_binop rfl rfl rfl (r_lss_t h11)) ?_
   refine wL_nil (wQ_sub (l' := [(0, _), (3, _), (4, _), (5, _), (6, _), (7, _), (11, _)]) ⟨rfl, rfl, rfl, rfl, rfl, rfl, rfl, trivial⟩ (wQ_then (wC_cond_t rfl (wC_skip (wQ_then (wC_seq (wC_block (wC_seq (wC_seq (wC_quiet S6 mixed (by kernel_rfl) ?_))))))))))
   refine wU_val (v := .bool dn) (wn rfl) rfl rfl (fun _ _ => (y_move rfl rfl)) ?_
   cases dn with
   | false =>
    have hn3 := hi10
    simp at hn3
    refine wU_val (v := .bool true) (wn rfl) rfl rfl (fun _ _ => (y_unop rfl rfl r_not)) ?_
    refine wU_val (v := .bool true) (wn rfl) rfl rfl (fun _ _ => (y_move rfl rfl)) ?_
    refine wU_val (v := .slice A l.length c) (wg rfl rfl rfl rfl) rfl rfl (fun _ _ => (y_move rfl rfl)) ?_
    refine wU_val (v := .int .i64 ((k : Nat) : Int)) (wg rfl rfl rfl rfl) rfl rfl (fun _ _ => (y_move rfl rfl)) ?_
    obtain ⟨b17, o18, rfl⟩ := Rd.addr (St.rd 2 S6 rfl) (by omega)
    obtain ⟨x19, hx20⟩ : ∃ x, (l)[k]? = some x := ⟨_, List.getElem?_eq_getElem (by have := (St.rd 2 S6 rfl).1; rw [fm_len (sz := 2) (fun _ => rfl)] at this; omega)⟩
    refine wU_val (v := .pointer (some ⟨b17, o18 + k * 2, none⟩)) (wg rfl rfl rfl rfl) rfl rfl (fun _ _ => (y_indexAddr rfl rfl rfl (r_indexAddr k Try.underlying22 inf137 (by omega) (by omega)))) ?_
    refine wU_val (v := .pointer (some ⟨b17, o18 + k * 2, none⟩)) (wg rfl rfl rfl rfl) rfl rfl (fun _ _ => (y_fieldAddr rfl rfl (fa137_0 _ _ _))) ?_
    refine wU_val (v := .int .i64 x19.no) (wg rfl rfl rfl rfl) rfl rfl (fun _ Sx23 => (y_load rfl rfl (r_load Try.underlying3 rfl (Rd.cl2 (i := 0) (St.rd 2 Sx23 rfl) (fm_get (enc := Msg.cells) (sz := 2) (fun _ => rfl) hx20 rfl))))) ?_
    refine wU_val (v := .pointer (some ⟨b1, 0, none⟩)) (wg rfl rfl rfl rfl) rfl rfl (fun _ _ => (y_fieldAddr rfl rfl (fa137_0 _ _ _))) ?_
    refine wU_val (v := .int .i64 m.no) (wg rfl rfl rfl rfl) rfl rfl (fun _ Sx25 => (y_load rfl rfl (r_load Try.underlying3 rfl (St.cl 1 Sx25 rfl rfl)))) ?_
    by_cases hlt : m.no < x19.no
    ·refine wU_val (v := .bool true) (wg rfl rfl rfl rfl) rfl rfl (fun _ _ => (y_binop rfl rfl rfl (r_gtr_t hlt))) ?_
     refine wU_val (v := .bool true) (wn rfl) rfl rfl (fun _ _ => (y_pick_t rfl rfl rfl)) ?_
     refine wU_nil fun w28 S29 => ?_; clear S6
     refine wQ_sub (l' := [(0, _), (3, _), (4, _), (5, _), (6, _), (7, _), (25, _)]) ⟨rfl, rfl, rfl, rfl, rfl, rfl, rfl, trivial⟩ (wQ_then (wC_cond_t rfl (wC_seq (wC_region (wL_val (wn rfl) rfl rfl (y_move rfl rfl) ?_)))))
     refine wL_val (wn rfl) rfl rfl (y_load rfl rfl (r_load_row 1 S29 rfl Try.underlying137 rfl inf137 rfl)) ?_
     refine wL_new (V := fun b => .slice (some ⟨b, 0, none⟩) 1 1) (row := #[.int .i64 m.no, .int .i64 m.body]) (t := 137) S29 (wn rfl) rfl rfl (d_buildSlice (vs := [(0, .agg #[.int .i64 m.no, .int .i64 m.body])]) rfl ⟨rfl, rfl, trivial⟩ (by kernel_rfl)) ?_; intro b30 w31 S32; clear S29
     refine wL_append (news := [.int .i64 m.no, .int .i64 m.body]) (xs' := (out ++ [m]).flatMap Msg.cells) 1 S32 (wn rfl) rfl rfl rfl rfl rfl rfl (St.bld (xs := [.int .i64 m.no, .int .i64 m.body]) 0 S32 rfl rfl rfl) Try.underlying22 infz137 rfl (by decide) (oneAll rfl) (by simp only [maxLen]; omega) (by omega) (fm_snoc (enc := Msg.cells) rfl rfl) ?_; intro A33 c34 w35 hc37 hm38 S36; clear S32
     change St _ _ _ [_, .own 137 2 (.slice A33 (n + 1) c34) (n + 1) ((out ++ [m]).flatMap Msg.cells), _, _] at S36
     refine wL_val (wn rfl) rfl rfl (y_assign rfl rfl) ?_
     refine wL_nil (wQ_sub (l' := [(0, _), (3, _), (4, _), (5, _), (7, _)]) ⟨rfl, rfl, rfl, rfl, rfl, trivial⟩ (wQ_then (wC_region (wL_val (wn rfl) rfl rfl (y_assign rfl rfl) ?_))))
     refine wL_nil (wQ_then (wC_region (wL_val (wn rfl) rfl rfl (y_move rfl rfl) ?_)))
     refine wL_val (wn rfl) rfl rfl (y_move rfl rfl) ?_
     refine wL_val (wn rfl) rfl rfl (y_move rfl rfl) ?_
     refine wL_val (v := .pointer (some ⟨b17, o18 + k * 2, none⟩)) (wn rfl) rfl rfl (y_indexAddr rfl rfl rfl (r_indexAddr k Try.underlying22 inf137 (by omega) (by omega))) ?_
     refine wL_val (wn rfl) rfl rfl (y_load rfl rfl (r_load_agg (cs := Msg.cells x19) Try.underlying137 rfl inf137 rfl (Rd.rg2 (St.rd 3 S36 rfl) (fun _ _ h => fm_get (enc := Msg.cells) (sz := 2) (fun _ => rfl) hx20 h)))) ?_
     refine wL_new (V := fun b => .slice (some ⟨b, 0, none⟩) 1 1) (row := #[.int .i64 x19.no, .int .i64 x19.body]) (t := 137) S36 (wn rfl) rfl rfl (d_buildSlice (vs := [(0, .agg #[.int .i64 x19.no, .int .i64 x19.body])]) rfl ⟨rfl, rfl, trivial⟩ (by kernel_rfl)) ?_; intro b39 w40 S41; clear S36
     refine wL_append (news := [.int .i64 x19.no, .int .i64 x19.body]) (xs' := (out ++ [m] ++ [x19]).flatMap Msg.cells) 2 S41 (wn rfl) rfl rfl rfl rfl rfl rfl (St.bld (xs := [.int .i64 x19.no, .int .i64 x19.body]) 0 S41 rfl rfl rfl) Try.underlying22 infz137 rfl (by decide) (oneAll rfl) (by simp only [maxLen]; omega) (by omega) (fm_snoc (enc := Msg.cells) rfl rfl) ?_; intro A42 c43 w44 hc46 hm47 S45; clear S41
     change St _ _ _ [_, _, .own 137 2 (.slice A42 ((n + 1) + 1) c43) ((n + 1) + 1) ((out ++ [m] ++ [x19]).flatMap Msg.cells), _, _] at S45
     refine wL_val (wn rfl) rfl rfl (y_assign rfl rfl) ?_
     refine wL_nil (wQ_sub (l' := [(0, _), (3, _), (4, _), (5, _), (7, _), (6, _)]) ⟨rfl, rfl, rfl, rfl, rfl, rfl, trivial⟩ (wQ_blk_n (wQ_then (wC_region (wL_val (wn rfl) rfl rfl (y_move rfl rfl) ?_)))))
     refine wL_val (v := .int .i64 ((k + 1 : Nat) : Int)) (wn rfl) rfl rfl (y_binop rfl rfl rfl (r_add (by omega) (by omega))) ?_
     refine wL_val (wn rfl) rfl rfl (y_assign rfl rfl) ?_
     refine wL_nil (wQ_sub (l' := [(0, _), (3, _), (4, _), (5, _), (7, _), (6, _)]) ⟨rfl, rfl, rfl, rfl, rfl, rfl, trivial⟩ ?_)
     have S48 : St w.heap.size w w44 [_, _, _] := (St.del 0 (St.del 1 S45)); clear S45
     refine wQ_round (k + 1, A42, c43, out ++ [m] ++ [x19], n + 1 + 1, true) ?_ ⟨rfl, rfl, rfl, rfl, rfl, rfl, trivial⟩ (by first | omega | (dsimp only; omega))
     exact ⟨(by dsimp only; omega), put_mid hx20 hlt hi8, (by dsimp only; simp; omega), (by dsimp only; simp at *; omega), S48⟩
    ·refine wU_val (v := .bool false) (wg rfl rfl rfl rfl) rfl rfl (fun _ _ => (y_binop rfl rfl rfl (r_gtr_f hlt))) ?_
     refine wU_val (v := .bool false) (wn rfl) rfl rfl (fun _ _ => (y_pick_t rfl rfl rfl)) ?_
     refine wU_nil fun w51 S52 => ?_; clear S6
     refine wQ_sub (l' := [(0, _), (3, _), (4, _), (5, _), (6, _), (7, _), (25, _)]) ⟨rfl, rfl, rfl, rfl, rfl, rfl, rfl, trivial⟩ (wQ_then (wC_cond_f rfl (wC_skip (wQ_then (wC_region (wL_val (wn rfl) rfl rfl (y_move rfl rfl) ?_))))))
     refine wL_val (wn rfl) rfl rfl (y_move rfl rfl) ?_
     refine wL_val (wn rfl) rfl rfl (y_move rfl rfl) ?_
     refine wL_val (v := .pointer (some ⟨b17, o18 + k * 2, none⟩)) (wn rfl) rfl rfl (y_indexAddr rfl rfl rfl (r_indexAddr k Try.underlying22 inf137 (by omega) (by omega))) ?_
     refine wL_val (wn rfl) rfl rfl (y_load rfl rfl (r_load_agg (cs := Msg.cells x19) Try.underlying137 rfl inf137 rfl (Rd.rg2 (St.rd 2 S52 rfl) (fun _ _ h => fm_get (enc := Msg.cells) (sz := 2) (fun _ => rfl) hx20 h)))) ?_
     refine wL_new (V := fun b => .slice (some ⟨b, 0, none⟩) 1 1) (row := #[.int .i64 x19.no, .int .i64 x19.body]) (t := 137) S52 (wn rfl) rfl rfl (d_buildSlice (vs := [(0, .agg #[.int .i64 x19.no, .int .i64 x19.body])]) rfl ⟨rfl, rfl, trivial⟩ (by kernel_rfl)) ?_; intro b53 w54 S55; clear S52
     refine wL_append (news := [.int .i64 x19.no, .int .i64 x19.body]) (xs' := (out ++ [x19]).flatMap Msg.cells) 1 S55 (wn rfl) rfl rfl rfl rfl rfl rfl (St.bld (xs := [.int .i64 x19.no, .int .i64 x19.body]) 0 S55 rfl rfl rfl) Try.underlying22 infz137 rfl (by decide) (oneAll rfl) (by simp only [maxLen]; omega) (by omega) (fm_snoc (enc := Msg.cells) rfl rfl) ?_; intro A56 c57 w58 hc60 hm61 S59; clear S55
     change St _ _ _ [_, .own 137 2 (.slice A56 (n + 1) c57) (n + 1) ((out ++ [x19]).flatMap Msg.cells), _, _] at S59
     refine wL_val (wn rfl) rfl rfl (y_assign rfl rfl) ?_
     refine wL_nil (wQ_sub (l' := [(0, _), (3, _), (4, _), (5, _), (6, _), (7, _)]) ⟨rfl, rfl, rfl, rfl, rfl, rfl, trivial⟩ (wQ_blk_n (wQ_then (wC_region (wL_val (wn rfl) rfl rfl (y_move rfl rfl) ?_)))))
     refine wL_val (v := .int .i64 ((k + 1 : Nat) : Int)) (wn rfl) rfl rfl (y_binop rfl rfl rfl (r_add (by omega) (by omega))) ?_
     refine wL_val (wn rfl) rfl rfl (y_assign rfl rfl) ?_
     refine wL_nil (wQ_sub (l' := [(0, _), (3, _), (4, _), (5, _), (6, _), (7, _)]) ⟨rfl, rfl, rfl, rfl, rfl, rfl, trivial⟩ ?_)
     have S62 : St w.heap.size w w58 [_, _, _] := (St.del 0 S59); clear S59
     refine wQ_round (k + 1, A56, c57, out ++ [x19], n + 1, false) ?_ ⟨rfl, rfl, rfl, rfl, rfl, rfl, trivial⟩ (by first | omega | (dsimp only; omega))
     exact ⟨(by dsimp only; omega), put_past hx20 hlt hi8, (by dsimp only; simp; omega), (by dsimp only; simp at *; omega), S62⟩
   | true =>
    have hn3 := hi10
    simp at hn3
    refine wU_val (v := .bool false) (wn rfl) rfl rfl (fun _ _ => (y_unop rfl rfl r_not)) ?_
    refine wU_val (v := .bool false) (wn rfl) rfl rfl (fun _ _ => (y_move rfl rfl)) ?_
    refine wU_skip (wg rfl rfl rfl rfl) rfl rfl ?_
    refine wU_skip (wg rfl rfl rfl rfl) rfl rfl ?_
    refine wU_skip (wg rfl rfl rfl rfl) rfl rfl ?_
    refine wU_skip (wg rfl rfl rfl rfl) rfl rfl ?_
    refine wU_skip (wg rfl rfl rfl rfl) rfl rfl ?_
    refine wU_skip (wg rfl rfl rfl rfl) rfl rfl ?_
    refine wU_skip (wg rfl rfl rfl rfl) rfl rfl ?_
    refine wU_skip (wg rfl rfl rfl rfl) rfl rfl ?_
    refine wU_val (v := .bool false) (wn rfl) rfl rfl (fun _ _ => (y_pick_f rfl rfl rfl)) ?_
    refine wU_nil fun w66 S67 => ?_; clear S6
    refine wQ_sub (l' := [(0, _), (3, _), (4, _), (5, _), (6, _), (7, _), (25, _)]) ⟨rfl, rfl, rfl, rfl, rfl, rfl, rfl, trivial⟩ (wQ_then (wC_cond_f rfl (wC_skip (wQ_then (wC_region (wL_val (wn rfl) rfl rfl (y_move rfl rfl) ?_))))))
    refine wL_val (wn rfl) rfl rfl (y_move rfl rfl) ?_
    refine wL_val (wn rfl) rfl rfl (y_move rfl rfl) ?_
    obtain ⟨b68, o69, rfl⟩ := Rd.addr (St.rd 2 S67 rfl) (by omega)
    obtain ⟨x70, hx71⟩ : ∃ x, (l)[k]? = some x := ⟨_, List.getElem?_eq_getElem (by have := (St.rd 2 S67 rfl).1; rw [fm_len (sz := 2) (fun _ => rfl)] at this; omega)⟩
    refine wL_val (v := .pointer (some ⟨b68, o69 + k * 2, none⟩)) (wn rfl) rfl rfl (y_indexAddr rfl rfl rfl (r_indexAddr k Try.underlying22 inf137 (by omega) (by omega))) ?_
    refine wL_val (wn rfl) rfl rfl (y_load rfl rfl (r_load_agg (cs := Msg.cells x70) Try.underlying137 rfl inf137 rfl (Rd.rg2 (St.rd 2 S67 rfl) (fun _ _ h => fm_get (enc := Msg.cells) (sz := 2) (fun _ => rfl) hx71 h)))) ?_
    refine wL_new (V := fun b => .slice (some ⟨b, 0, none⟩) 1 1) (row := #[.int .i64 x70.no, .int .i64 x70.body]) (t := 137) S67 (wn rfl) rfl rfl (d_buildSlice (vs := [(0, .agg #[.int .i64 x70.no, .int .i64 x70.body])]) rfl ⟨rfl, rfl, trivial⟩ (by kernel_rfl)) ?_; intro b72 w73 S74; clear S67
    refine wL_append (news := [.int .i64 x70.no, .int .i64 x70.body]) (xs' := (out ++ [x70]).flatMap Msg.cells) 1 S74 (wn rfl) rfl rfl rfl rfl rfl rfl (St.bld (xs := [.int .i64 x70.no, .int .i64 x70.body]) 0 S74 rfl rfl rfl) Try.underlying22 infz137 rfl (by decide) (oneAll rfl) (by simp only [maxLen]; omega) (by omega) (fm_snoc (enc := Msg.cells) rfl rfl) ?_; intro A75 c76 w77 hc79 hm80 S78; clear S74
    change St _ _ _ [_, .own 137 2 (.slice A75 (n + 1) c76) (n + 1) ((out ++ [x70]).flatMap Msg.cells), _, _] at S78
    refine wL_val (wn rfl) rfl rfl (y_assign rfl rfl) ?_
    refine wL_nil (wQ_sub (l' := [(0, _), (3, _), (4, _), (5, _), (6, _), (7, _)]) ⟨rfl, rfl, rfl, rfl, rfl, rfl, trivial⟩ (wQ_blk_n (wQ_then (wC_region (wL_val (wn rfl) rfl rfl (y_move rfl rfl) ?_)))))
    refine wL_val (v := .int .i64 ((k + 1 : Nat) : Int)) (wn rfl) rfl rfl (y_binop rfl rfl rfl (r_add (by omega) (by omega))) ?_
    refine wL_val (wn rfl) rfl rfl (y_assign rfl rfl) ?_
    refine wL_nil (wQ_sub (l' := [(0, _), (3, _), (4, _), (5, _), (6, _), (7, _)]) ⟨rfl, rfl, rfl, rfl, rfl, rfl, trivial⟩ ?_)
    have S81 : St w.heap.size w w77 [_, _, _] := (St.del 0 S78); clear S78
    refine wQ_round (k + 1, A75, c76, out ++ [x70], n + 1, true) ?_ ⟨rfl, rfl, rfl, rfl, rfl, rfl, trivial⟩ (by first | omega | (dsimp only; omega))
    exact ⟨(by dsimp only; omega), put_rest hx71 hi8, (by dsimp only; simp; omega), (by dsimp only; simp at *; omega), S81⟩
  ·refine wL_val (v := .bool false) (wn rfl) rfl rfl (y_binop rfl rfl rfl (r_lss_f h11)) ?_
   refine wL_nil (wQ_sub (l' := [(0, _), (3, _), (4, _), (5, _), (6, _), (7, _), (11, _)]) ⟨rfl, rfl, rfl, rfl, rfl, rfl, rfl, trivial⟩ (wQ_then (wC_cond_f rfl (wC_exit (wQ_then_exit (wQ_then_exit (wQ_blk_same (wQ_then (wC_seq (wC_seq (wC_region ?_)))))))))))
   obtain rfl : k = l.length := by omega
   refine wL_val (wn rfl) rfl rfl (y_move rfl rfl) ?_
   cases dn with
   | false =>
    obtain rfl : n = l.length := by simp at hi10; omega
    refine wL_val (v := .bool true) (wn rfl) rfl rfl (y_unop rfl rfl r_not) ?_
    refine wL_nil (wQ_sub (l' := [(3, _), (4, _), (5, _), (38, _)]) ⟨rfl, rfl, rfl, rfl, trivial⟩ (wQ_then (wC_cond_t rfl (wC_region (wL_val (wn rfl) rfl rfl (y_move rfl rfl) ?_)))))
    refine wL_val (wn rfl) rfl rfl (y_load rfl rfl (r_load_row 1 S6 rfl Try.underlying137 rfl inf137 rfl)) ?_
    refine wL_new (V := fun b => .slice (some ⟨b, 0, none⟩) 1 1) (row := #[.int .i64 m.no, .int .i64 m.body]) (t := 137) S6 (wn rfl) rfl rfl (d_buildSlice (vs := [(0, .agg #[.int .i64 m.no, .int .i64 m.body])]) rfl ⟨rfl, rfl, trivial⟩ (by kernel_rfl)) ?_; intro b82 w83 S84; clear S6
    refine wL_append (news := [.int .i64 m.no, .int .i64 m.body]) (xs' := (out ++ [m]).flatMap Msg.cells) 1 S84 (wn rfl) rfl rfl rfl rfl rfl rfl (St.bld (xs := [.int .i64 m.no, .int .i64 m.body]) 0 S84 rfl rfl rfl) Try.underlying22 infz137 rfl (by decide) (oneAll rfl) (by simp only [maxLen]; omega) (by omega) (fm_snoc (enc := Msg.cells) rfl rfl) ?_; intro A85 c86 w87 hc89 hm90 S88; clear S84
    change St _ _ _ [_, .own 137 2 (.slice A85 (l.length + 1) c86) (l.length + 1) ((out ++ [m]).flatMap Msg.cells), _, _] at S88
    refine wL_val (wn rfl) rfl rfl (y_assign rfl rfl) ?_
    refine wL_nil (wQ_sub (l' := [(4, _), (5, _)]) ⟨rfl, rfl, trivial⟩ (wQ_then (wC_seq (wC_region (wL_val (wn rfl) rfl rfl (y_move rfl rfl) ?_)))))
    refine wL_val (wn rfl) rfl rfl (y_assign rfl rfl) ?_
    refine wL_nil (wQ_sub (l' := [(4, _)]) ⟨rfl, trivial⟩ (wQ_then (wC_ret (wQ_post (rs := [.tmp 4]) (vs := [.slice A85 (l.length + 1) c86]) rfl ⟨rfl, trivial⟩ ?_))))
    have S91 : St w.heap.size w w87 [_] := (St.del 0 (St.del 2 (St.del 3 S88))); clear S88
    rw [put_end (Nat.le_refl _) hi8]
    exact OwnPost.of S91.low (S91.own 0 rfl)
   | true =>
    obtain rfl : n = l.length + 1 := by simp at hi10; omega
    refine wL_val (v := .bool false) (wn rfl) rfl rfl (y_unop rfl rfl r_not) ?_
    refine wL_nil (wQ_sub (l' := [(3, _), (4, _), (5, _), (38, _)]) ⟨rfl, rfl, rfl, rfl, trivial⟩ (wQ_then (wC_cond_f rfl (wC_skip (wQ_then (wC_seq (wC_region (wL_val (wn rfl) rfl rfl (y_move rfl rfl) ?_))))))))
    refine wL_val (wn rfl) rfl rfl (y_assign rfl rfl) ?_
    refine wL_nil (wQ_sub (l' := [(4, _)]) ⟨rfl, trivial⟩ (wQ_then (wC_ret (wQ_post (rs := [.tmp 4]) (vs := [.slice Ab (l.length + 1) cb]) rfl ⟨rfl, trivial⟩ ?_))))
    have S92 : St w.heap.size w w5 [_] := (St.del 1 (St.del 2 S6)); clear S6
    rw [put_done (Nat.le_refl _) hi8]
    exact OwnPost.of S92.low (S92.own 0 rfl)

set_option maxRecDepth 100000 in
set_option maxHeartbeats 4000000 in
theorem QueueDone_calls (ep nx gv kd pr id bd he hn : Int) (A1 A2 : Option Addr) (c1 c2 : Nat) (rs : List Msg) (ls : List Ls) (W : Wins) (w : World) (h1 : Rd w w.heap.size 2 A1 rs.length (rs.flatMap Msg.cells)) (h2 : Rd w w.heap.size 4 A2 ls.length (ls.flatMap Ls.cells)) (hb1 : rs.length * 16 ≤ reachBytes) (hb2 : ls.length * 32 ≤ reachBytes) :
    Calls Try.prog 67 #[.agg (qRow ep nx gv (.slice A1 rs.length c1) (.slice A2 ls.length c2) W), .agg #[.int .i64 kd, .int .i64 pr, .int .i64 id, .int .i64 bd, .int .i64 he, .int .i64 hn]] w (QdoPost w (doM ⟨ep, nx, gv, rs, ls, W⟩ ⟨kd, pr, id, bd, he, hn⟩)) := by
 have S := ((St.start w).addRd h2).addRd h1; clear h1 h2
 refine calls_of_wC (N := 236) (vs := [.agg (qRow ep nx gv (.slice A1 rs.length c1) (.slice A2 ls.length c2) W), .agg #[.int .i64 kd, .int .i64 pr, .int .i64 id, .int .i64 bd, .int .i64 he, .int .i64 hn]]) Try.func67 rfl rfl rfl ?_
 refine wC_sub (l' := [(0, .agg (qRow ep nx gv (.slice A1 rs.length c1) (.slice A2 ls.length c2) W)), (1, .agg #[.int .i64 kd, .int .i64 pr, .int .i64 id, .int .i64 bd, .int .i64 he, .int .i64 hn])]) ⟨rfl, rfl, trivial⟩ (wC_seq (wC_region (wL_new (V := fun b => .pointer (some ⟨b, 0, none⟩)) (row := qRow ep nx gv (.slice A1 rs.length c1) (.slice A2 ls.length c2) W) (t := 29) S (wn rfl) rfl rfl (d_box rfl rfl rfl) ?_))); intro b1 w2 S3; clear S
 refine wL_new (V := fun b => .pointer (some ⟨b, 0, none⟩)) (row := #[.int .i64 kd, .int .i64 pr, .int .i64 id, .int .i64 bd, .int .i64 he, .int .i64 hn]) (t := 37) S3 (wn rfl) rfl rfl (d_box rfl rfl rfl) ?_; intro b4 w5 S6; clear S3
 refine wL_new (V := fun b => .pointer (some ⟨b, 0, none⟩)) (row := qRow 0 0 0 (.slice none 0 0) (.slice none 0 0) zeroWs) (t := 29) S6 (wn rfl) rfl rfl (d_alloc rfl (Try.zeroValue29 _) rfl) ?_; intro b7 w8 S9; clear S6
 refine wL_new (V := fun b => .pointer (some ⟨b, 0, none⟩)) (row := #[.int .i64 0, .int .i64 0, .int .i64 0, .int .i64 0]) (t := 93) S9 (wn rfl) rfl rfl (d_alloc rfl (Try.zeroValue93 _) rfl) ?_; intro b10 w11 S12; clear S9
 refine wL_val (wn rfl) rfl rfl (y_assign rfl rfl) ?_
 refine wL_val (wn rfl) rfl rfl (y_assign rfl rfl) ?_
 refine wL_nil (wQ_sub (l' := [(2, _), (3, _), (4, _), (5, _), (6, _), (7, _)]) ⟨rfl, rfl, rfl, rfl, rfl, rfl, trivial⟩ (wQ_then (wC_seq (wC_region (wL_val (wn rfl) rfl rfl (y_load rfl rfl (r_load_row 3 S12 rfl Try.underlying29 rfl inf29 rfl)) ?_)))))
 refine wL_call (vs := [.agg (qRow ep nx gv (.slice A1 rs.length c1) (.slice A2 ls.length c2) W)]) (wn rfl) rfl rfl (e_call (vs := [.agg (qRow ep nx gv (.slice A1 rs.length c1) (.slice A2 ls.length c2) W)]) rfl en32 ⟨rfl, trivial⟩) (QueueFault_calls ep nx gv A1 A2 c1 c2 rs ls W _ (St.rd 4 S12 rfl) (St.rd 5 S12 rfl) hb1 hb2) ?_
 rintro _ w13 ⟨rfl, hb15⟩
 refine ⟨_, rfl, ?_⟩
 have S14 := S12.on hb15; clear hb15 S12
 refine wL_val (wn rfl) rfl rfl (y_assign rfl rfl) ?_
 refine wL_nil (wQ_sub (l' := [(2, _), (3, _), (4, _), (5, _), (6, _), (7, _), (8, _)]) ⟨rfl, rfl, rfl, rfl, rfl, rfl, rfl, trivial⟩ (wQ_then (wC_seq (wC_seq (wC_region (wL_val (wn rfl) rfl rfl (y_move rfl rfl) ?_))))))
 by_cases h0 : queueFault ep nx gv rs ls W = 0
 ·obtain ⟨hR, hW, hRd, hLs, hNd⟩ := qf_zero h0
  unfold rngQ at hR
  refine wL_val (v := .bool false) (wn rfl) rfl rfl (y_binop rfl rfl rfl (r_neq_f h0)) ?_
  refine wL_nil (wQ_sub (l' := [(2, _), (3, _), (4, _), (5, _), (6, _), (7, _), (8, _), (21, _)]) ⟨rfl, rfl, rfl, rfl, rfl, rfl, rfl, rfl, trivial⟩ (wQ_then (wC_cond_f rfl (wC_skip (wQ_then (wC_seq (wC_region (wL_val (wn rfl) rfl rfl (y_load rfl rfl (r_load_row 2 S14 rfl Try.underlying37 rfl inf37 rfl)) ?_))))))))
  refine wL_call (vs := [.agg #[.int .i64 kd, .int .i64 pr, .int .i64 id, .int .i64 bd, .int .i64 he, .int .i64 hn]]) (wn rfl) rfl rfl (e_call (vs := [.agg #[.int .i64 kd, .int .i64 pr, .int .i64 id, .int .i64 bd, .int .i64 he, .int .i64 hn]]) rfl en149 ⟨rfl, trivial⟩) (EventFault_calls ⟨kd, pr, id, bd, he, hn⟩ _) ?_
  rintro _ w16 ⟨rfl, hb18⟩
  refine ⟨_, rfl, ?_⟩
  have S17 := S14.on hb18; clear hb18 S14
  refine wL_val (wn rfl) rfl rfl (y_assign rfl rfl) ?_
  refine wL_nil (wQ_sub (l' := [(2, _), (3, _), (4, _), (5, _), (6, _), (7, _), (8, _)]) ⟨rfl, rfl, rfl, rfl, rfl, rfl, rfl, trivial⟩ (wQ_then (wC_seq (wC_seq (wC_region (wL_val (wn rfl) rfl rfl (y_move rfl rfl) ?_))))))
  by_cases h1 : evFault ⟨kd, pr, id, bd, he, hn⟩ = 0
  ·have hkd := ev_kind h1
   have hpr := ev_prod h1
   simp only at hkd hpr
   obtain ⟨k, hk0⟩ : ∃ k : Nat, pr = (k : Int) := ⟨pr.toNat, by omega⟩
   subst hk0
   have hk : k < 4 := by omega
   refine wL_val (v := .bool false) (wn rfl) rfl rfl (y_binop rfl rfl rfl (r_neq_f h1)) ?_
   refine wL_nil (wQ_sub (l' := [(2, _), (3, _), (4, _), (5, _), (6, _), (7, _), (8, _), (28, _)]) ⟨rfl, rfl, rfl, rfl, rfl, rfl, rfl, rfl, trivial⟩ (wQ_then (wC_cond_f rfl (wC_skip (wQ_then (wC_seq (wC_region (wL_val (wn rfl) rfl rfl (y_load rfl rfl (r_load_row 3 S17 rfl Try.underlying29 rfl inf29 rfl)) ?_))))))))
   refine wL_call (vs := [.agg (qRow ep nx gv (.slice A1 rs.length c1) (.slice A2 ls.length c2) W)]) (wn rfl) rfl rfl (e_call (vs := [.agg (qRow ep nx gv (.slice A1 rs.length c1) (.slice A2 ls.length c2) W)]) rfl en106 ⟨rfl, trivial⟩) (QueueCopy_calls ep nx gv A1 A2 c1 c2 rs ls W _ (St.rd 4 S17 rfl) (St.rd 5 S17 rfl) hb1 hb2) ?_
   rintro _ w23 ⟨A19, c20, A21, c22, rfl, T25⟩
   refine ⟨_, rfl, ?_⟩
   have S24 := S17.ext T25 rfl; clear T25 S17
   change St _ _ _ [.own 141 4 (.slice A21 ls.length c22) ls.length ((ls).flatMap Ls.cells), .own 137 2 (.slice A19 rs.length c20) rs.length ((rs).flatMap Msg.cells), _, _, _, _, _, _] at S24
   refine wL_new (V := fun b => .pointer (some ⟨b, 0, none⟩)) (row := qRow 0 0 0 (.slice none 0 0) (.slice none 0 0) zeroWs) (t := 29) S24 (wn rfl) rfl rfl (d_alloc rfl (Try.zeroValue29 _) rfl) ?_; intro b26 w27 S28; clear S24
   refine wL_st (fs' := [_, _, _, _, _, _, _, _, _]) 0 S28 (wn rfl) rfl rfl rfl rfl rfl rfl inf29 rfl (qRow_one rfl rfl) (Nat.le_of_ble_eq_true rfl) (setAll_all rfl) rfl ?_; intro w29 S30; clear S28
   refine wL_nil (wQ_sub (l' := [(2, _), (3, _), (4, _), (5, _), (6, _), (7, _), (9, _)]) ⟨rfl, rfl, rfl, rfl, rfl, rfl, rfl, trivial⟩ (wQ_then (wC_seq (wC_region (wL_val (v := .pointer (some ⟨b1, 3, none⟩)) (wn rfl) rfl rfl (y_fieldAddr rfl rfl (fa29_3 _ _ _)) ?_)))))
   refine wL_val (wn rfl) rfl rfl (y_load rfl rfl (r_load Try.underlying22 rfl (St.cl 6 S30 rfl qRow_g3))) ?_
   refine wL_val (v := .int .i64 ((rs.length : Nat) : Int)) (wn rfl) rfl rfl (y_builtin (vs := [.slice A1 rs.length c1]) rfl ⟨rfl, trivial⟩ fun _ => r_len rfl Try.underlying22) ?_
   refine wL_val (v := .pointer (some ⟨b1, 4, none⟩)) (wn rfl) rfl rfl (y_fieldAddr rfl rfl (fa29_4 _ _ _)) ?_
   refine wL_val (wn rfl) rfl rfl (y_load rfl rfl (r_load Try.underlying23 rfl (St.cl 6 S30 rfl qRow_g4))) ?_
   refine wL_val (v := .int .i64 ((ls.length : Nat) : Int)) (wn rfl) rfl rfl (y_builtin (vs := [.slice A2 ls.length c2]) rfl ⟨rfl, trivial⟩ fun _ => r_len rfl Try.underlying23) ?_
   refine wL_val (v := .int .i64 ((rs.length + ls.length : Nat) : Int)) (wn rfl) rfl rfl (y_binop rfl rfl rfl (r_add (by omega) (by omega))) ?_
   refine wL_val (v := .bool (decide (((rs.length + ls.length : Nat) : Int) = 500))) (wn rfl) rfl rfl (y_binop rfl rfl rfl r_eql) ?_
   refine wL_val (wn rfl) rfl rfl (y_assign rfl rfl) ?_
   refine wL_nil (wQ_sub (l' := [(2, _), (3, _), (4, _), (5, _), (6, _), (7, _), (9, _), (10, _)]) ⟨rfl, rfl, rfl, rfl, rfl, rfl, rfl, rfl, trivial⟩ (wQ_then (wC_seq (wC_seq (wC_region (wL_val (v := .pointer (some ⟨b4, 0, none⟩)) (wn rfl) rfl rfl (y_fieldAddr rfl rfl (fa37_0 _ _ _)) ?_))))))
   refine wL_val (wn rfl) rfl rfl (y_load rfl rfl (r_load Try.underlying3 rfl (St.cl 5 S30 rfl rfl))) ?_
   by_cases hz1 : kd = 1
   ·subst hz1
    refine wL_val (v := .bool true) (wn rfl) rfl rfl (y_binop rfl rfl rfl (r_eql_t rfl)) ?_
    refine wL_nil (wQ_sub (l' := [(2, _), (3, _), (4, _), (5, _), (6, _), (7, _), (9, _), (10, _), (44, _)]) ⟨rfl, rfl, rfl, rfl, rfl, rfl, rfl, rfl, rfl, trivial⟩ (wQ_then (wC_cond_t rfl (wC_cut (X := Nat) (fun xv => [(2, .pointer (some ⟨b1, 0, none⟩)), (3, .pointer (some ⟨b4, 0, none⟩)), (4, .pointer (some ⟨b7, 0, none⟩)), (5, .pointer (some ⟨b10, 0, none⟩)), (6, .bool false), (7, .int .i64 0), (9, .pointer (some ⟨b26, 0, none⟩)), (10, .bool (decide (((rs.length + ls.length : Nat) : Int) = 500))), (11, .pointer (some ⟨xv, 0, none⟩)), (12, .bool ((takeW (W.at k) id).2.1)), (13, .int .i64 ((takeW (W.at k) id).2.2))]) (fun xv wr => St w.heap.size w wr [.blk xv (((takeW (W.at k) id).1.cells).toArray) 26, .blk b26 (qRow ep nx gv (.slice A19 rs.length c20) (.slice A21 ls.length c22) W) 29, .own 141 4 (.slice A21 ls.length c22) ls.length ((ls).flatMap Ls.cells), .own 137 2 (.slice A19 rs.length c20) rs.length ((rs).flatMap Msg.cells), .blk b10 #[.int .i64 0, .int .i64 0, .int .i64 0, .int .i64 0] 93, .blk b7 (qRow 0 0 0 (.slice none 0 0) (.slice none 0 0) zeroWs) 29, .blk b4 #[.int .i64 1, .int .i64 ((k : Nat) : Int), .int .i64 id, .int .i64 bd, .int .i64 he, .int .i64 hn] 37, .blk b1 (qRow ep nx gv (.slice A1 rs.length c1) (.slice A2 ls.length c2) W) 29, .rd 2 A1 rs.length ((rs).flatMap Msg.cells), .rd 4 A2 ls.length ((ls).flatMap Ls.cells)]) ?_ ?_))))
    ·have S31 := S30.drew; clear S30
     refine wC_any_ (C := fun w' => St w.heap.size w w' [.blk b26 (qRow ep nx gv (.slice A19 rs.length c20) (.slice A21 ls.length c22) W) 29, .own 141 4 (.slice A21 ls.length c22) ls.length ((ls).flatMap Ls.cells), .own 137 2 (.slice A19 rs.length c20) rs.length ((rs).flatMap Msg.cells), .blk b10 #[.int .i64 0, .int .i64 0, .int .i64 0, .int .i64 0] 93, .blk b7 (qRow 0 0 0 (.slice none 0 0) (.slice none 0 0) zeroWs) 29, .blk b4 #[.int .i64 1, .int .i64 ((k : Nat) : Int), .int .i64 id, .int .i64 bd, .int .i64 he, .int .i64 hn] 37, .blk b1 (qRow ep nx gv (.slice A1 rs.length c1) (.slice A2 ls.length c2) W) 29, .rd 2 A1 rs.length ((rs).flatMap Msg.cells), .rd 4 A2 ls.length ((ls).flatMap Ls.cells)]) (n := 16) (listed := #[false, false, false, false, false, false, false, false, false, false, false, false, false, false, false, false]) mixed rfl rfl ?_
     refine wA_take (v := .pointer (some ⟨b4, 1, none⟩)) (i := 0) (n := 15) (listed' := #[true, false, false, false, false, false, false, false, false, false, false, false, false, false, false, false]) rfl (by kernel_rfl) (by kernel_rfl) (by kernel_rfl) S31 rfl (wn rfl) rfl rfl (fun _ _ => (y_fieldAddr rfl rfl (fa37_1 _ _ _))) ?_
     refine wA_take (v := .int .i64 ((k : Nat) : Int)) (i := 1) (n := 14) (listed' := #[true, true, false, false, false, false, false, false, false, false, false, false, false, false, false, false]) rfl (by kernel_rfl) (by kernel_rfl) (by kernel_rfl) S31 rfl (wn rfl) rfl rfl (fun _ Sx33 => (y_load rfl rfl (r_load Try.underlying3 rfl (St.cl 5 Sx33 rfl rfl)))) ?_
     refine wA_take (v := .pointer (some ⟨b1, 5, none⟩)) (i := 2) (n := 13) (listed' := #[true, true, true, false, false, false, false, false, false, false, false, false, false, false, false, false]) rfl (by kernel_rfl) (by kernel_rfl) (by kernel_rfl) S31 rfl (wn rfl) rfl rfl (fun _ _ => (y_fieldAddr rfl rfl (fa29_5 _ _ _))) ?_
     refine wA_take (v := .pointer (some ⟨b1, 5 + k * 9, none⟩)) (i := 3) (n := 12) (listed' := #[true, true, true, true, false, false, false, false, false, false, false, false, false, false, false, false]) rfl (by kernel_rfl) (by kernel_rfl) (by kernel_rfl) S31 rfl (wn rfl) rfl rfl (fun _ _ => (y_indexAddr rfl rfl rfl (r_indexArr k Try.underlying27 inf26 rfl hk))) ?_
     refine wA_take (v := .agg (((W.at k).cells).toArray)) (i := 4) (n := 11) (listed' := #[true, true, true, true, true, false, false, false, false, false, false, false, false, false, false, false]) rfl (by kernel_rfl) (by kernel_rfl) (by kernel_rfl) S31 rfl (wn rfl) rfl rfl (fun _ Sx36 => (y_load rfl rfl (r_load_agg (cs := (W.at k).cells) Try.underlying26 rfl inf26 rfl (St.rg 6 Sx36 rfl (qRow_wk hk))))) ?_
     refine wA_take (v := .pointer (some ⟨b4, 2, none⟩)) (i := 5) (n := 10) (listed' := #[true, true, true, true, true, true, false, false, false, false, false, false, false, false, false, false]) rfl (by kernel_rfl) (by kernel_rfl) (by kernel_rfl) S31 rfl (wn rfl) rfl rfl (fun _ _ => (y_fieldAddr rfl rfl (fa37_2 _ _ _))) ?_
     refine wA_take (v := .int .i64 id) (i := 6) (n := 9) (listed' := #[true, true, true, true, true, true, true, false, false, false, false, false, false, false, false, false]) rfl (by kernel_rfl) (by kernel_rfl) (by kernel_rfl) S31 rfl (wn rfl) rfl rfl (fun _ Sx38 => (y_load rfl rfl (r_load Try.underlying3 rfl (St.cl 5 Sx38 rfl rfl)))) ?_
     refine wA_two (n := 8) (r := 7) (s := 12) (by kernel_rfl) ?_ ?_
     ·refine wN_call_ (i := 7) (listed' := #[true, true, true, true, true, true, true, true, false, false, false, false, false, false, false, false]) rfl rfl (vs := [.agg (((W.at k).cells).toArray), .int .i64 id]) (wn rfl) rfl rfl (e_call (vs := [.agg (((W.at k).cells).toArray), .int .i64 id]) rfl en150 ⟨rfl, rfl, trivial⟩) (IdTaken_below (W.at k) id _) ?_
      rintro _ w39 ⟨rfl, hb41⟩
      refine ⟨_, rfl, ?_⟩
      have S40 := S31.on hb41; clear hb41 S31
      refine ⟨S40, ?_⟩
      refine wA_take (v := .tuple #[.agg (((takeW (W.at k) id).1.cells).toArray), .bool ((takeW (W.at k) id).2.1), .int .i64 ((takeW (W.at k) id).2.2)]) (i := 8) (n := 7) (listed' := #[true, true, true, true, true, true, true, true, true, false, false, false, false, false, false, false]) rfl (by kernel_rfl) (by kernel_rfl) (by kernel_rfl) S40 rfl (wn rfl) rfl rfl (fun _ _ => (y_move rfl rfl)) ?_
      refine wA_take (v := .agg (((takeW (W.at k) id).1.cells).toArray)) (i := 9) (n := 6) (listed' := #[true, true, true, true, true, true, true, true, true, true, false, false, false, false, false, false]) rfl (by kernel_rfl) (by kernel_rfl) (by kernel_rfl) S40 rfl (wn rfl) rfl rfl (fun _ _ => (y_extract rfl rfl rfl)) ?_
      refine wA_take (v := .bool ((takeW (W.at k) id).2.1)) (i := 10) (n := 5) (listed' := #[true, true, true, true, true, true, true, true, true, true, true, false, false, false, false, false]) rfl (by kernel_rfl) (by kernel_rfl) (by kernel_rfl) S40 rfl (wn rfl) rfl rfl (fun _ _ => (y_extract rfl rfl rfl)) ?_
      refine wA_take (v := .int .i64 ((takeW (W.at k) id).2.2)) (i := 11) (n := 4) (listed' := #[true, true, true, true, true, true, true, true, true, true, true, true, false, false, false, false]) rfl (by kernel_rfl) (by kernel_rfl) (by kernel_rfl) S40 rfl (wn rfl) rfl rfl (fun _ _ => (y_extract rfl rfl rfl)) ?_
      refine wA_one (n := 3) (r := 12) (by kernel_rfl) ?_
      refine wN_new (i := 12) (listed' := #[true, true, true, true, true, true, true, true, true, true, true, true, true, false, false, false]) rfl rfl (V := fun b => .pointer (some ⟨b, 0, none⟩)) (row := #[.int .i64 0, .bool false, .bool false, .bool false, .bool false, .bool false, .bool false, .bool false, .bool false]) (t := 26) S40 (wn rfl) rfl rfl (d_alloc rfl (Try.zeroValue26 _) rfl) ?_; intro b46 w47 S48; clear S40
      refine ⟨(St.del 0 S48), ?_⟩
      refine wA_one (n := 2) (r := 13) (by kernel_rfl) ?_
      refine wN_st (i := 13) (listed' := #[true, true, true, true, true, true, true, true, true, true, true, true, true, true, false, false]) rfl rfl (fs' := [_, _, _, _, _, _, _, _, _, _]) 0 S48 (wn rfl) rfl rfl rfl rfl rfl rfl inf26 rfl (win_one _) (Nat.le_of_ble_eq_true rfl) (setAll_all rfl) rfl ?_; intro w49 S50; clear S48
      refine ⟨(St.del 0 S50), ?_⟩
      refine wA_take (v := .bool ((takeW (W.at k) id).2.1)) (i := 14) (n := 1) (listed' := #[true, true, true, true, true, true, true, true, true, true, true, true, true, true, true, false]) rfl (by kernel_rfl) (by kernel_rfl) (by kernel_rfl) (St.del 0 S50) rfl (wn rfl) rfl rfl (fun _ _ => (y_assign rfl rfl)) ?_
      refine wA_take (v := .int .i64 ((takeW (W.at k) id).2.2)) (i := 15) (n := 0) (listed' := #[true, true, true, true, true, true, true, true, true, true, true, true, true, true, true, true]) rfl (by kernel_rfl) (by kernel_rfl) (by kernel_rfl) (St.del 0 S50) rfl (wn rfl) rfl rfl (fun _ _ => (y_assign rfl rfl)) ?_
      refine wA_done (by kernel_rfl) ?_
      refine wQ_sub (l' := [(2, _), (3, _), (4, _), (5, _), (6, _), (7, _), (9, _), (10, _), (11, _), (12, _), (13, _)]) ⟨rfl, rfl, rfl, rfl, rfl, rfl, rfl, rfl, rfl, rfl, rfl, trivial⟩ (wQ_cut b46 ?_ ⟨rfl, rfl, rfl, rfl, rfl, rfl, rfl, rfl, rfl, rfl, rfl, trivial⟩)
      exact S50
     ·refine wN_new (i := 12) (listed' := #[true, true, true, true, true, true, true, false, false, false, false, false, true, false, false, false]) rfl rfl (V := fun b => .pointer (some ⟨b, 0, none⟩)) (row := #[.int .i64 0, .bool false, .bool false, .bool false, .bool false, .bool false, .bool false, .bool false, .bool false]) (t := 26) S31 (wn rfl) rfl rfl (d_alloc rfl (Try.zeroValue26 _) rfl) ?_; intro b53 w54 S55; clear S31
      refine ⟨(St.del 0 S55), ?_⟩
      refine wA_one (n := 7) (r := 7) (by kernel_rfl) ?_
      refine wN_call_ (i := 7) (listed' := #[true, true, true, true, true, true, true, true, false, false, false, false, true, false, false, false]) rfl rfl (vs := [.agg (((W.at k).cells).toArray), .int .i64 id]) (wn rfl) rfl rfl (e_call (vs := [.agg (((W.at k).cells).toArray), .int .i64 id]) rfl en150 ⟨rfl, rfl, trivial⟩) (IdTaken_below (W.at k) id _) ?_
      rintro _ w56 ⟨rfl, hb58⟩
      refine ⟨_, rfl, ?_⟩
      have S57 := S55.on hb58; clear hb58 S55
      refine ⟨(St.del 0 S57), ?_⟩
      refine wA_take (v := .tuple #[.agg (((takeW (W.at k) id).1.cells).toArray), .bool ((takeW (W.at k) id).2.1), .int .i64 ((takeW (W.at k) id).2.2)]) (i := 8) (n := 6) (listed' := #[true, true, true, true, true, true, true, true, true, false, false, false, true, false, false, false]) rfl (by kernel_rfl) (by kernel_rfl) (by kernel_rfl) (St.del 0 S57) rfl (wn rfl) rfl rfl (fun _ _ => (y_move rfl rfl)) ?_
      refine wA_take (v := .agg (((takeW (W.at k) id).1.cells).toArray)) (i := 9) (n := 5) (listed' := #[true, true, true, true, true, true, true, true, true, true, false, false, true, false, false, false]) rfl (by kernel_rfl) (by kernel_rfl) (by kernel_rfl) (St.del 0 S57) rfl (wn rfl) rfl rfl (fun _ _ => (y_extract rfl rfl rfl)) ?_
      refine wA_take (v := .bool ((takeW (W.at k) id).2.1)) (i := 10) (n := 4) (listed' := #[true, true, true, true, true, true, true, true, true, true, true, false, true, false, false, false]) rfl (by kernel_rfl) (by kernel_rfl) (by kernel_rfl) (St.del 0 S57) rfl (wn rfl) rfl rfl (fun _ _ => (y_extract rfl rfl rfl)) ?_
      refine wA_take (v := .int .i64 ((takeW (W.at k) id).2.2)) (i := 11) (n := 3) (listed' := #[true, true, true, true, true, true, true, true, true, true, true, true, true, false, false, false]) rfl (by kernel_rfl) (by kernel_rfl) (by kernel_rfl) (St.del 0 S57) rfl (wn rfl) rfl rfl (fun _ _ => (y_extract rfl rfl rfl)) ?_
      refine wA_one (n := 2) (r := 13) (by kernel_rfl) ?_
      refine wN_st (i := 13) (listed' := #[true, true, true, true, true, true, true, true, true, true, true, true, true, true, false, false]) rfl rfl (fs' := [_, _, _, _, _, _, _, _, _, _]) 0 S57 (wn rfl) rfl rfl rfl rfl rfl rfl inf26 rfl (win_one _) (Nat.le_of_ble_eq_true rfl) (setAll_all rfl) rfl ?_; intro w63 S64; clear S57
      refine ⟨(St.del 0 S64), ?_⟩
      refine wA_take (v := .bool ((takeW (W.at k) id).2.1)) (i := 14) (n := 1) (listed' := #[true, true, true, true, true, true, true, true, true, true, true, true, true, true, true, false]) rfl (by kernel_rfl) (by kernel_rfl) (by kernel_rfl) (St.del 0 S64) rfl (wn rfl) rfl rfl (fun _ _ => (y_assign rfl rfl)) ?_
      refine wA_take (v := .int .i64 ((takeW (W.at k) id).2.2)) (i := 15) (n := 0) (listed' := #[true, true, true, true, true, true, true, true, true, true, true, true, true, true, true, true]) rfl (by kernel_rfl) (by kernel_rfl) (by kernel_rfl) (St.del 0 S64) rfl (wn rfl) rfl rfl (fun _ _ => (y_assign rfl rfl)) ?_
      refine wA_done (by kernel_rfl) ?_
      refine wQ_sub (l' := [(2, _), (3, _), (4, _), (5, _), (6, _), (7, _), (9, _), (10, _), (11, _), (12, _), (13, _)]) ⟨rfl, rfl, rfl, rfl, rfl, rfl, rfl, rfl, rfl, rfl, rfl, trivial⟩ (wQ_cut b53 ?_ ⟨rfl, rfl, rfl, rfl, rfl, rfl, rfl, rfl, rfl, rfl, rfl, trivial⟩)
      exact S64
    ·rintro b67 w68 S69
     try dsimp only at S69; clear S30
     refine wC_sub (l' := [(2, .pointer (some ⟨b1, 0, none⟩)), (3, .pointer (some ⟨b4, 0, none⟩)), (4, .pointer (some ⟨b7, 0, none⟩)), (5, .pointer (some ⟨b10, 0, none⟩)), (6, .bool false), (7, .int .i64 0), (9, .pointer (some ⟨b26, 0, none⟩)), (10, .bool (decide (((rs.length + ls.length : Nat) : Int) = 500))), (11, .pointer (some ⟨b67, 0, none⟩)), (12, .bool ((takeW (W.at k) id).2.1)), (13, .int .i64 ((takeW (W.at k) id).2.2))]) ⟨rfl, rfl, rfl, rfl, rfl, rfl, rfl, rfl, rfl, rfl, rfl, trivial⟩ (wC_seq (wC_seq (wC_region (wL_val (wn rfl) rfl rfl (y_move rfl rfl) ?_))))
     by_cases h2 : (takeW (W.at k) id).2.2 = 0
     ·refine wL_val (v := .bool false) (wn rfl) rfl rfl (y_binop rfl rfl rfl (r_neq_f h2)) ?_
      refine wL_val (wn rfl) rfl rfl (y_move rfl rfl) ?_
      refine wL_val (wg rfl rfl rfl rfl) rfl rfl (y_move rfl rfl) ?_
      cases h3 : (takeW (W.at k) id).2.1
      ·refine wL_val (v := .bool true) (wg rfl rfl rfl rfl) rfl rfl (y_unop rfl rfl r_not) ?_
       refine wL_val (wn rfl) rfl rfl (y_pick_f rfl rfl rfl) ?_
       refine wL_nil (wQ_sub (l' := [(2, _), (3, _), (4, _), (5, _), (6, _), (7, _), (9, _), (10, _), (11, _), (13, _), (62, _)]) ⟨rfl, rfl, rfl, rfl, rfl, rfl, rfl, rfl, rfl, rfl, rfl, trivial⟩ (wQ_then (wC_cond_t rfl (wC_seq (wC_region (wL_val (wn rfl) rfl rfl (y_load rfl rfl (r_load_row 1 S69 rfl Try.underlying29 rfl inf29 rfl)) ?_))))))
       refine wL_val (wn rfl) rfl rfl (y_move rfl rfl) ?_
       refine wL_val (v := .agg #[.int .i64 ((takeW (W.at k) id).2.2), .int .i64 0, .int .i64 0, .int .i64 0]) (wn rfl) rfl rfl (y_build (vs := [(0, .int .i64 ((takeW (W.at k) id).2.2))]) rfl ⟨rfl, rfl, trivial⟩ (by kernel_rfl)) ?_
       refine wL_st (fs' := [_, _, _, _, _, _, _, _, _, _]) 5 S69 (wn rfl) rfl rfl rfl rfl rfl rfl inf29 rfl (qRow_one rfl rfl) (Nat.le_of_ble_eq_true rfl) (setAll_all rfl) rfl ?_; intro w70 S71; clear S69
       refine wL_st (fs' := [_, _, _, _, _, _, _, _, _, _]) 4 S71 (wn rfl) rfl rfl rfl rfl rfl rfl inf93 rfl (oneAll rfl) (Nat.le_of_ble_eq_true rfl) (setAll_all rfl) rfl ?_; intro w72 S73; clear S71
       refine wL_val (wn rfl) rfl rfl (y_assign rfl rfl) ?_
       refine wL_val (wn rfl) rfl rfl (y_assign rfl rfl) ?_
       refine wL_nil (wQ_sub (l' := [(4, _), (5, _), (6, _), (7, _)]) ⟨rfl, rfl, rfl, rfl, trivial⟩ (wQ_then (wC_ret (wQ_then_ret (wQ_then_ret (wQ_post (rs := [.cell 4 29, .cell 5 93, .tmp 6, .tmp 7]) (vs := [.agg (qRow ep nx gv (.slice A19 rs.length c20) (.slice A21 ls.length c22) W), .agg #[.int .i64 ((takeW (W.at k) id).2.2), .int .i64 0, .int .i64 0, .int .i64 0], .bool false, .int .i64 0]) rfl ⟨⟨_, rfl, res_row 5 S73 rfl Try.underlying29 rfl inf29⟩, ⟨_, rfl, res_row 4 S73 rfl Try.underlying93 rfl inf93⟩, rfl, rfl, trivial⟩ ?_))))))
       have S74 : St w.heap.size w w72 [_, _] := (St.del 0 (St.del 1 (St.del 4 (St.del 5 (St.del 6 (St.del 7 (St.del 8 (St.del 9 S73)))))))); clear S73
       have S75 : St w.heap.size w w72 [.own 137 2 (.slice A19 rs.length c20) rs.length ((rs).flatMap Msg.cells), .own 141 4 (.slice A21 ls.length c22) ls.length ((ls).flatMap Ls.cells)] := S74.re [1, 0] (by decide); clear S74
       have S76 := S75.sealAll 0 rfl; clear S75
       change St _ _ _ [.rdo 2 A19 rs.length ((rs).flatMap Msg.cells), _] at S76
       have S77 := S76.sealAll 1 rfl; clear S76
       change St _ _ _ [_, .rdo 4 A21 ls.length ((ls).flatMap Ls.cells)] at S77
       rw [do_ok (Q := ⟨ep, nx, gv, rs, ls, W⟩) h0 h1, show stepM ⟨ep, nx, gv, rs, ls, W⟩ ⟨1, ((k : Nat) : Int), id, bd, he, hn⟩ = pubM ⟨ep, nx, gv, rs, ls, W⟩ k id bd from by simp [stepM], pub_old h2 h3]
       refine ⟨A19, c20, A21, c22, ?_, ?_⟩
       · dsimp only; rw [h2]; rfl
       · dsimp only; exact S77
      ·refine wL_val (v := .bool false) (wg rfl rfl rfl rfl) rfl rfl (y_unop rfl rfl r_not) ?_
       refine wL_val (wn rfl) rfl rfl (y_pick_f rfl rfl rfl) ?_
       refine wL_nil (wQ_sub (l' := [(2, _), (3, _), (4, _), (5, _), (6, _), (7, _), (9, _), (10, _), (11, _), (13, _), (62, _)]) ⟨rfl, rfl, rfl, rfl, rfl, rfl, rfl, rfl, rfl, rfl, rfl, trivial⟩ (wQ_then (wC_cond_f rfl (wC_skip (wQ_then (wC_seq (wC_seq (wC_region (wL_val (wn rfl) rfl rfl (y_move rfl rfl) ?_)))))))))
       by_cases h4 : rs.length + ls.length = 500
       ·have hdc : (decide (((rs.length + ls.length : Nat) : Int) = 500)) = true := decide_eq_true (by omega)
        rw [hdc]
        refine wL_val (v := .bool true) (wn rfl) rfl rfl (y_move rfl rfl) ?_
        refine wL_skip (wg rfl rfl rfl rfl) rfl rfl ?_
        refine wL_skip (wg rfl rfl rfl rfl) rfl rfl ?_
        refine wL_skip (wg rfl rfl rfl rfl) rfl rfl ?_
        refine wL_val (wn rfl) rfl rfl (y_pick_t rfl rfl rfl) ?_
        refine wL_nil (wQ_sub (l' := [(2, _), (3, _), (4, _), (5, _), (6, _), (7, _), (9, _), (11, _), (71, _)]) ⟨rfl, rfl, rfl, rfl, rfl, rfl, rfl, rfl, rfl, trivial⟩ (wQ_then (wC_cond_t rfl (wC_seq (wC_region (wL_val (wn rfl) rfl rfl (y_load rfl rfl (r_load_row 1 S69 rfl Try.underlying29 rfl inf29 rfl)) ?_))))))
        refine wL_val (v := .agg #[.int .i64 14, .int .i64 0, .int .i64 0, .int .i64 0]) (wn rfl) rfl rfl (y_build (vs := [(0, .int .i64 14)]) rfl ⟨rfl, rfl, trivial⟩ (by kernel_rfl)) ?_
        refine wL_st (fs' := [_, _, _, _, _, _, _, _, _, _]) 5 S69 (wn rfl) rfl rfl rfl rfl rfl rfl inf29 rfl (qRow_one rfl rfl) (Nat.le_of_ble_eq_true rfl) (setAll_all rfl) rfl ?_; intro w78 S79; clear S69
        refine wL_st (fs' := [_, _, _, _, _, _, _, _, _, _]) 4 S79 (wn rfl) rfl rfl rfl rfl rfl rfl inf93 rfl (oneAll rfl) (Nat.le_of_ble_eq_true rfl) (setAll_all rfl) rfl ?_; intro w80 S81; clear S79
        refine wL_val (wn rfl) rfl rfl (y_assign rfl rfl) ?_
        refine wL_val (wn rfl) rfl rfl (y_assign rfl rfl) ?_
        refine wL_nil (wQ_sub (l' := [(4, _), (5, _), (6, _), (7, _)]) ⟨rfl, rfl, rfl, rfl, trivial⟩ (wQ_then (wC_ret (wQ_then_ret (wQ_then_ret (wQ_post (rs := [.cell 4 29, .cell 5 93, .tmp 6, .tmp 7]) (vs := [.agg (qRow ep nx gv (.slice A19 rs.length c20) (.slice A21 ls.length c22) W), .agg #[.int .i64 14, .int .i64 0, .int .i64 0, .int .i64 0], .bool false, .int .i64 0]) rfl ⟨⟨_, rfl, res_row 5 S81 rfl Try.underlying29 rfl inf29⟩, ⟨_, rfl, res_row 4 S81 rfl Try.underlying93 rfl inf93⟩, rfl, rfl, trivial⟩ ?_))))))
        have S82 : St w.heap.size w w80 [_, _] := (St.del 0 (St.del 1 (St.del 4 (St.del 5 (St.del 6 (St.del 7 (St.del 8 (St.del 9 S81)))))))); clear S81
        have S83 : St w.heap.size w w80 [.own 137 2 (.slice A19 rs.length c20) rs.length ((rs).flatMap Msg.cells), .own 141 4 (.slice A21 ls.length c22) ls.length ((ls).flatMap Ls.cells)] := S82.re [1, 0] (by decide); clear S82
        have S84 := S83.sealAll 0 rfl; clear S83
        change St _ _ _ [.rdo 2 A19 rs.length ((rs).flatMap Msg.cells), _] at S84
        have S85 := S84.sealAll 1 rfl; clear S84
        change St _ _ _ [_, .rdo 4 A21 ls.length ((ls).flatMap Ls.cells)] at S85
        rw [do_ok (Q := ⟨ep, nx, gv, rs, ls, W⟩) h0 h1, show stepM ⟨ep, nx, gv, rs, ls, W⟩ ⟨1, ((k : Nat) : Int), id, bd, he, hn⟩ = pubM ⟨ep, nx, gv, rs, ls, W⟩ k id bd from by simp [stepM], pub_full h2 h3 (.inl h4)]
        refine ⟨A19, c20, A21, c22, ?_, ?_⟩
        · dsimp only; rfl
        · dsimp only; exact S85
       ·have hdc : (decide (((rs.length + ls.length : Nat) : Int) = 500)) = false := decide_eq_false (by omega)
        rw [hdc]
        refine wL_val (wn rfl) rfl rfl (y_move rfl rfl) ?_
        refine wL_val (v := .pointer (some ⟨b1, 1, none⟩)) (wg rfl rfl rfl rfl) rfl rfl (y_fieldAddr rfl rfl (fa29_1 _ _ _)) ?_
        refine wL_val (wg rfl rfl rfl rfl) rfl rfl (y_load rfl rfl (r_load Try.underlying3 rfl (St.cl 7 S69 rfl qRow_g1))) ?_
        by_cases h5 : nx = 1073741824
        ·refine wL_val (v := .bool true) (wg rfl rfl rfl rfl) rfl rfl (y_binop rfl rfl rfl (r_eql_t h5)) ?_
         refine wL_val (wn rfl) rfl rfl (y_pick_f rfl rfl rfl) ?_
         refine wL_nil (wQ_sub (l' := [(2, _), (3, _), (4, _), (5, _), (6, _), (7, _), (9, _), (11, _), (71, _)]) ⟨rfl, rfl, rfl, rfl, rfl, rfl, rfl, rfl, rfl, trivial⟩ (wQ_then (wC_cond_t rfl (wC_seq (wC_region (wL_val (wn rfl) rfl rfl (y_load rfl rfl (r_load_row 1 S69 rfl Try.underlying29 rfl inf29 rfl)) ?_))))))
         refine wL_val (v := .agg #[.int .i64 14, .int .i64 0, .int .i64 0, .int .i64 0]) (wn rfl) rfl rfl (y_build (vs := [(0, .int .i64 14)]) rfl ⟨rfl, rfl, trivial⟩ (by kernel_rfl)) ?_
         refine wL_st (fs' := [_, _, _, _, _, _, _, _, _, _]) 5 S69 (wn rfl) rfl rfl rfl rfl rfl rfl inf29 rfl (qRow_one rfl rfl) (Nat.le_of_ble_eq_true rfl) (setAll_all rfl) rfl ?_; intro w86 S87; clear S69
         refine wL_st (fs' := [_, _, _, _, _, _, _, _, _, _]) 4 S87 (wn rfl) rfl rfl rfl rfl rfl rfl inf93 rfl (oneAll rfl) (Nat.le_of_ble_eq_true rfl) (setAll_all rfl) rfl ?_; intro w88 S89; clear S87
         refine wL_val (wn rfl) rfl rfl (y_assign rfl rfl) ?_
         refine wL_val (wn rfl) rfl rfl (y_assign rfl rfl) ?_
         refine wL_nil (wQ_sub (l' := [(4, _), (5, _), (6, _), (7, _)]) ⟨rfl, rfl, rfl, rfl, trivial⟩ (wQ_then (wC_ret (wQ_then_ret (wQ_then_ret (wQ_post (rs := [.cell 4 29, .cell 5 93, .tmp 6, .tmp 7]) (vs := [.agg (qRow ep nx gv (.slice A19 rs.length c20) (.slice A21 ls.length c22) W), .agg #[.int .i64 14, .int .i64 0, .int .i64 0, .int .i64 0], .bool false, .int .i64 0]) rfl ⟨⟨_, rfl, res_row 5 S89 rfl Try.underlying29 rfl inf29⟩, ⟨_, rfl, res_row 4 S89 rfl Try.underlying93 rfl inf93⟩, rfl, rfl, trivial⟩ ?_))))))
         have S90 : St w.heap.size w w88 [_, _] := (St.del 0 (St.del 1 (St.del 4 (St.del 5 (St.del 6 (St.del 7 (St.del 8 (St.del 9 S89)))))))); clear S89
         have S91 : St w.heap.size w w88 [.own 137 2 (.slice A19 rs.length c20) rs.length ((rs).flatMap Msg.cells), .own 141 4 (.slice A21 ls.length c22) ls.length ((ls).flatMap Ls.cells)] := S90.re [1, 0] (by decide); clear S90
         have S92 := S91.sealAll 0 rfl; clear S91
         change St _ _ _ [.rdo 2 A19 rs.length ((rs).flatMap Msg.cells), _] at S92
         have S93 := S92.sealAll 1 rfl; clear S92
         change St _ _ _ [_, .rdo 4 A21 ls.length ((ls).flatMap Ls.cells)] at S93
         rw [do_ok (Q := ⟨ep, nx, gv, rs, ls, W⟩) h0 h1, show stepM ⟨ep, nx, gv, rs, ls, W⟩ ⟨1, ((k : Nat) : Int), id, bd, he, hn⟩ = pubM ⟨ep, nx, gv, rs, ls, W⟩ k id bd from by simp [stepM], pub_full h2 h3 (.inr h5)]
         refine ⟨A19, c20, A21, c22, ?_, ?_⟩
         · dsimp only; rfl
         · dsimp only; exact S93
        ·refine wL_val (v := .bool false) (wg rfl rfl rfl rfl) rfl rfl (y_binop rfl rfl rfl (r_eql_f h5)) ?_
         refine wL_val (wn rfl) rfl rfl (y_pick_f rfl rfl rfl) ?_
         refine wL_nil (wQ_sub (l' := [(2, _), (3, _), (4, _), (5, _), (6, _), (7, _), (9, _), (11, _), (71, _)]) ⟨rfl, rfl, rfl, rfl, rfl, rfl, rfl, rfl, rfl, trivial⟩ (wQ_then (wC_cond_f rfl (wC_skip (wQ_then (wC_seq (wC_region (wL_val (v := .pointer (some ⟨b4, 1, none⟩)) (wn rfl) rfl rfl (y_fieldAddr rfl rfl (fa37_1 _ _ _)) ?_))))))))
         refine wL_val (wn rfl) rfl rfl (y_load rfl rfl (r_load Try.underlying3 rfl (St.cl 6 S69 rfl rfl))) ?_
         refine wL_val (wn rfl) rfl rfl (y_load rfl rfl (r_load_row 0 S69 rfl Try.underlying26 rfl inf26 rfl)) ?_
         refine wL_val (v := .pointer (some ⟨b26, 5, none⟩)) (wn rfl) rfl rfl (y_fieldAddr rfl rfl (fa29_5 _ _ _)) ?_
         refine wL_val (v := .pointer (some ⟨b26, 5 + k * 9, none⟩)) (wn rfl) rfl rfl (y_indexAddr rfl rfl rfl (r_indexArr k Try.underlying27 inf26 rfl hk)) ?_
         refine wL_st (cs := ((takeW (W.at k) id).1.cells).toArray) (row' := qRow ep nx gv (.slice A19 rs.length c20) (.slice A21 ls.length c22) (W.put k (takeW (W.at k) id).1)) (fs' := [.blk b67 (((takeW (W.at k) id).1.cells).toArray) 26, .blk b26 (qRow ep nx gv (.slice A19 rs.length c20) (.slice A21 ls.length c22) (W.put k (takeW (W.at k) id).1)) 29, .own 141 4 (.slice A21 ls.length c22) ls.length ((ls).flatMap Ls.cells), .own 137 2 (.slice A19 rs.length c20) rs.length ((rs).flatMap Msg.cells), .blk b10 #[.int .i64 0, .int .i64 0, .int .i64 0, .int .i64 0] 93, .blk b7 (qRow 0 0 0 (.slice none 0 0) (.slice none 0 0) zeroWs) 29, .blk b4 #[.int .i64 1, .int .i64 ((k : Nat) : Int), .int .i64 id, .int .i64 bd, .int .i64 he, .int .i64 hn] 37, .blk b1 (qRow ep nx gv (.slice A1 rs.length c1) (.slice A2 ls.length c2) W) 29, .rd 2 A1 rs.length ((rs).flatMap Msg.cells), .rd 4 A2 ls.length ((ls).flatMap Ls.cells)]) 1 S69 (wn rfl) rfl rfl rfl rfl rfl rfl inf26 rfl (win_one _) (by rw [qRow_size]; omega) (qRow_pk hk) rfl ?_; intro w94 S95; clear S69
         refine wL_nil (wQ_sub (l' := [(2, _), (3, _), (4, _), (5, _), (6, _), (7, _), (9, _)]) ⟨rfl, rfl, rfl, rfl, rfl, rfl, rfl, trivial⟩ (wQ_then (wC_seq (wC_region (wL_val (v := .pointer (some ⟨b26, 3, none⟩)) (wn rfl) rfl rfl (y_fieldAddr rfl rfl (fa29_3 _ _ _)) ?_)))))
         refine wL_val (wn rfl) rfl rfl (y_load rfl rfl (r_load Try.underlying22 rfl (St.cl 1 S95 rfl qRow_g3))) ?_
         refine wL_val (v := .pointer (some ⟨b1, 1, none⟩)) (wn rfl) rfl rfl (y_fieldAddr rfl rfl (fa29_1 _ _ _)) ?_
         refine wL_val (wn rfl) rfl rfl (y_load rfl rfl (r_load Try.underlying3 rfl (St.cl 7 S95 rfl qRow_g1))) ?_
         refine wL_val (v := .pointer (some ⟨b4, 3, none⟩)) (wn rfl) rfl rfl (y_fieldAddr rfl rfl (fa37_3 _ _ _)) ?_
         refine wL_val (wn rfl) rfl rfl (y_load rfl rfl (r_load Try.underlying3 rfl (St.cl 6 S95 rfl rfl))) ?_
         refine wL_val (v := .agg #[.int .i64 nx, .int .i64 bd]) (wn rfl) rfl rfl (y_build (vs := [(0, .int .i64 nx), (1, .int .i64 bd)]) rfl ⟨rfl, rfl, rfl, rfl, trivial⟩ (by kernel_rfl)) ?_
         refine wL_new (V := fun b => .slice (some ⟨b, 0, none⟩) 1 1) (row := #[.int .i64 nx, .int .i64 bd]) (t := 137) S95 (wn rfl) rfl rfl (d_buildSlice (vs := [(0, .agg #[.int .i64 nx, .int .i64 bd])]) rfl ⟨rfl, rfl, trivial⟩ (by kernel_rfl)) ?_; intro b96 w97 S98; clear S95
         refine wL_append (news := [.int .i64 nx, .int .i64 bd]) (xs' := (rs ++ [(⟨nx, bd⟩ : Msg)]).flatMap Msg.cells) 4 S98 (wn rfl) rfl rfl rfl rfl rfl rfl (St.bld (xs := [.int .i64 nx, .int .i64 bd]) 0 S98 rfl rfl rfl) Try.underlying22 infz137 rfl (by decide) (oneAll rfl) (by simp only [maxLen]; omega) (by omega) (fm_snoc (enc := Msg.cells) rfl rfl) ?_; intro A99 c100 w101 hc103 hm104 S102; clear S98
         change St _ _ _ [_, _, _, _, .own 137 2 (.slice A99 (rs.length + 1) c100) (rs.length + 1) ((rs ++ [(⟨nx, bd⟩ : Msg)]).flatMap Msg.cells), _, _, _, _, _, _] at S102
         refine wL_val (v := .pointer (some ⟨b26, 3, none⟩)) (wn rfl) rfl rfl (y_fieldAddr rfl rfl (fa29_3 _ _ _)) ?_
         refine wL_st (cs := #[.slice A99 (rs.length + 1) c100]) (row' := qRow ep nx gv (.slice A99 (rs.length + 1) c100) (.slice A21 ls.length c22) (W.put k (takeW (W.at k) id).1)) (fs' := [_, _, .blk b26 (qRow ep nx gv (.slice A99 (rs.length + 1) c100) (.slice A21 ls.length c22) (W.put k (takeW (W.at k) id).1)) 29, _, _, _, _, _, _, _, _]) 2 S102 (wn rfl) rfl rfl rfl rfl rfl rfl inf22 rfl (oneAll rfl) (Nat.le_of_ble_eq_true rfl) qRow_s3 rfl ?_; intro w105 S106; clear S102
         refine wL_nil (wQ_sub (l' := [(2, _), (4, _), (5, _), (6, _), (7, _), (9, _)]) ⟨rfl, rfl, rfl, rfl, rfl, rfl, trivial⟩ (wQ_then (wC_seq (wC_region (wL_val (v := .pointer (some ⟨b1, 1, none⟩)) (wn rfl) rfl rfl (y_fieldAddr rfl rfl (fa29_1 _ _ _)) ?_)))))
         refine wL_val (wn rfl) rfl rfl (y_load rfl rfl (r_load Try.underlying3 rfl (St.cl 8 S106 rfl qRow_g1))) ?_
         refine wL_val (v := .int .i64 (nx + 1)) (wn rfl) rfl rfl (y_binop rfl rfl rfl (r_add (by omega) (by omega))) ?_
         refine wL_val (v := .pointer (some ⟨b26, 1, none⟩)) (wn rfl) rfl rfl (y_fieldAddr rfl rfl (fa29_1 _ _ _)) ?_
         refine wL_st (cs := #[.int .i64 (nx + 1)]) (row' := qRow ep (nx + 1) gv (.slice A99 (rs.length + 1) c100) (.slice A21 ls.length c22) (W.put k (takeW (W.at k) id).1)) (fs' := [_, _, .blk b26 (qRow ep (nx + 1) gv (.slice A99 (rs.length + 1) c100) (.slice A21 ls.length c22) (W.put k (takeW (W.at k) id).1)) 29, _, _, _, _, _, _, _, _]) 2 S106 (wn rfl) rfl rfl rfl rfl rfl rfl inf3 rfl (oneAll rfl) (Nat.le_of_ble_eq_true rfl) qRow_s1 rfl ?_; intro w107 S108; clear S106
         refine wL_nil (wQ_sub (l' := [(4, _), (5, _), (6, _), (7, _), (9, _)]) ⟨rfl, rfl, rfl, rfl, rfl, trivial⟩ (wQ_then (wC_seq (wC_region (wL_val (wn rfl) rfl rfl (y_load rfl rfl (r_load_row 2 S108 rfl Try.underlying29 rfl inf29 rfl)) ?_)))))
         refine wL_val (v := .agg #[.int .i64 0, .int .i64 0, .int .i64 0, .int .i64 0]) (wn rfl) rfl rfl (y_build (vs := []) rfl trivial (by kernel_rfl)) ?_
         refine wL_st (fs' := [_, _, _, _, _, _, _, _, _, _, _]) 6 S108 (wn rfl) rfl rfl rfl rfl rfl rfl inf29 rfl (qRow_one rfl rfl) (Nat.le_of_ble_eq_true rfl) (setAll_all rfl) rfl ?_; intro w109 S110; clear S108
         refine wL_st (fs' := [_, _, _, _, _, _, _, _, _, _, _]) 5 S110 (wn rfl) rfl rfl rfl rfl rfl rfl inf93 rfl (oneAll rfl) (Nat.le_of_ble_eq_true rfl) (setAll_all rfl) rfl ?_; intro w111 S112; clear S110
         refine wL_val (wn rfl) rfl rfl (y_assign rfl rfl) ?_
         refine wL_val (wn rfl) rfl rfl (y_assign rfl rfl) ?_
         refine wL_nil (wQ_sub (l' := [(4, _), (5, _), (6, _), (7, _)]) ⟨rfl, rfl, rfl, rfl, trivial⟩ (wQ_then (wC_ret (wQ_then_ret (wQ_post (rs := [.cell 4 29, .cell 5 93, .tmp 6, .tmp 7]) (vs := [.agg (qRow ep (nx + 1) gv (.slice A99 (rs.length + 1) c100) (.slice A21 ls.length c22) (W.put k (takeW (W.at k) id).1)), .agg #[.int .i64 0, .int .i64 0, .int .i64 0, .int .i64 0], .bool true, .int .i64 0]) rfl ⟨⟨_, rfl, res_row 6 S112 rfl Try.underlying29 rfl inf29⟩, ⟨_, rfl, res_row 5 S112 rfl Try.underlying93 rfl inf93⟩, rfl, rfl, trivial⟩ ?_)))))
         have S113 : St w.heap.size w w111 [_, _] := (St.del 0 (St.del 1 (St.del 2 (St.del 5 (St.del 6 (St.del 7 (St.del 8 (St.del 9 (St.del 10 S112))))))))); clear S112
         have S114 : St w.heap.size w w111 [.own 137 2 (.slice A99 (rs.length + 1) c100) (rs.length + 1) ((rs ++ [(⟨nx, bd⟩ : Msg)]).flatMap Msg.cells), .own 141 4 (.slice A21 ls.length c22) ls.length ((ls).flatMap Ls.cells)] := S113.re [1, 0] (by decide); clear S113
         have S115 := S114.sealAll 0 rfl; clear S114
         change St _ _ _ [.rdo 2 A99 (rs.length + 1) ((rs ++ [(⟨nx, bd⟩ : Msg)]).flatMap Msg.cells), _] at S115
         have S116 := S115.sealAll 1 rfl; clear S115
         change St _ _ _ [_, .rdo 4 A21 ls.length ((ls).flatMap Ls.cells)] at S116
         rw [do_ok (Q := ⟨ep, nx, gv, rs, ls, W⟩) h0 h1, show stepM ⟨ep, nx, gv, rs, ls, W⟩ ⟨1, ((k : Nat) : Int), id, bd, he, hn⟩ = pubM ⟨ep, nx, gv, rs, ls, W⟩ k id bd from by simp [stepM], pub_ok h2 h3 (fun h => h.elim h4 h5)]
         have hl1 : (rs ++ [(⟨nx, bd⟩ : Msg)]).length = rs.length + 1 := by simp
         refine ⟨A99, c100, A21, c22, ?_, ?_⟩
         · dsimp only; rw [hl1]; rfl
         · dsimp only; rw [hl1]; exact S116
     ·refine wL_val (v := .bool true) (wn rfl) rfl rfl (y_binop rfl rfl rfl (r_neq_t h2)) ?_
      refine wL_val (wn rfl) rfl rfl (y_move rfl rfl) ?_
      refine wL_skip (wg rfl rfl rfl rfl) rfl rfl ?_
      refine wL_skip (wg rfl rfl rfl rfl) rfl rfl ?_
      refine wL_val (wn rfl) rfl rfl (y_pick_t rfl rfl rfl) ?_
      refine wL_nil (wQ_sub (l' := [(2, _), (3, _), (4, _), (5, _), (6, _), (7, _), (9, _), (10, _), (11, _), (13, _), (62, _)]) ⟨rfl, rfl, rfl, rfl, rfl, rfl, rfl, rfl, rfl, rfl, rfl, trivial⟩ (wQ_then (wC_cond_t rfl (wC_seq (wC_region (wL_val (wn rfl) rfl rfl (y_load rfl rfl (r_load_row 1 S69 rfl Try.underlying29 rfl inf29 rfl)) ?_))))))
      refine wL_val (wn rfl) rfl rfl (y_move rfl rfl) ?_
      refine wL_val (v := .agg #[.int .i64 ((takeW (W.at k) id).2.2), .int .i64 0, .int .i64 0, .int .i64 0]) (wn rfl) rfl rfl (y_build (vs := [(0, .int .i64 ((takeW (W.at k) id).2.2))]) rfl ⟨rfl, rfl, trivial⟩ (by kernel_rfl)) ?_
      refine wL_st (fs' := [_, _, _, _, _, _, _, _, _, _]) 5 S69 (wn rfl) rfl rfl rfl rfl rfl rfl inf29 rfl (qRow_one rfl rfl) (Nat.le_of_ble_eq_true rfl) (setAll_all rfl) rfl ?_; intro w117 S118; clear S69
      refine wL_st (fs' := [_, _, _, _, _, _, _, _, _, _]) 4 S118 (wn rfl) rfl rfl rfl rfl rfl rfl inf93 rfl (oneAll rfl) (Nat.le_of_ble_eq_true rfl) (setAll_all rfl) rfl ?_; intro w119 S120; clear S118
      refine wL_val (wn rfl) rfl rfl (y_assign rfl rfl) ?_
      refine wL_val (wn rfl) rfl rfl (y_assign rfl rfl) ?_
      refine wL_nil (wQ_sub (l' := [(4, _), (5, _), (6, _), (7, _)]) ⟨rfl, rfl, rfl, rfl, trivial⟩ (wQ_then (wC_ret (wQ_then_ret (wQ_then_ret (wQ_post (rs := [.cell 4 29, .cell 5 93, .tmp 6, .tmp 7]) (vs := [.agg (qRow ep nx gv (.slice A19 rs.length c20) (.slice A21 ls.length c22) W), .agg #[.int .i64 ((takeW (W.at k) id).2.2), .int .i64 0, .int .i64 0, .int .i64 0], .bool false, .int .i64 0]) rfl ⟨⟨_, rfl, res_row 5 S120 rfl Try.underlying29 rfl inf29⟩, ⟨_, rfl, res_row 4 S120 rfl Try.underlying93 rfl inf93⟩, rfl, rfl, trivial⟩ ?_))))))
      have S121 : St w.heap.size w w119 [_, _] := (St.del 0 (St.del 1 (St.del 4 (St.del 5 (St.del 6 (St.del 7 (St.del 8 (St.del 9 S120)))))))); clear S120
      have S122 : St w.heap.size w w119 [.own 137 2 (.slice A19 rs.length c20) rs.length ((rs).flatMap Msg.cells), .own 141 4 (.slice A21 ls.length c22) ls.length ((ls).flatMap Ls.cells)] := S121.re [1, 0] (by decide); clear S121
      have S123 := S122.sealAll 0 rfl; clear S122
      change St _ _ _ [.rdo 2 A19 rs.length ((rs).flatMap Msg.cells), _] at S123
      have S124 := S123.sealAll 1 rfl; clear S123
      change St _ _ _ [_, .rdo 4 A21 ls.length ((ls).flatMap Ls.cells)] at S124
      rw [do_ok (Q := ⟨ep, nx, gv, rs, ls, W⟩) h0 h1, show stepM ⟨ep, nx, gv, rs, ls, W⟩ ⟨1, ((k : Nat) : Int), id, bd, he, hn⟩ = pubM ⟨ep, nx, gv, rs, ls, W⟩ k id bd from by simp [stepM], pub_err h2]
      refine ⟨A19, c20, A21, c22, ?_, ?_⟩
      · dsimp only; rfl
      · dsimp only; exact S124
   ·refine wL_val (v := .bool false) (wn rfl) rfl rfl (y_binop rfl rfl rfl (r_eql_f hz1)) ?_
    refine wL_nil (wQ_sub (l' := [(2, _), (3, _), (4, _), (5, _), (6, _), (7, _), (9, _), (10, _), (44, _)]) ⟨rfl, rfl, rfl, rfl, rfl, rfl, rfl, rfl, rfl, trivial⟩ (wQ_then (wC_cond_f rfl (wC_skip (wQ_then (wC_seq (wC_seq (wC_region (wL_val (v := .pointer (some ⟨b4, 0, none⟩)) (wn rfl) rfl rfl (y_fieldAddr rfl rfl (fa37_0 _ _ _)) ?_)))))))))
    refine wL_val (wn rfl) rfl rfl (y_load rfl rfl (r_load Try.underlying3 rfl (St.cl 5 S30 rfl rfl))) ?_
    by_cases hz2 : kd = 2
    ·subst hz2
     refine wL_val (v := .bool true) (wn rfl) rfl rfl (y_binop rfl rfl rfl (r_eql_t rfl)) ?_
     refine wL_nil (wQ_sub (l' := [(2, _), (3, _), (4, _), (5, _), (6, _), (7, _), (9, _), (97, _)]) ⟨rfl, rfl, rfl, rfl, rfl, rfl, rfl, rfl, trivial⟩ (wQ_then (wC_cond_t rfl (wC_seq (wC_seq (wC_region (wL_val (v := .pointer (some ⟨b1, 3, none⟩)) (wn rfl) rfl rfl (y_fieldAddr rfl rfl (fa29_3 _ _ _)) ?_)))))))
     refine wL_val (wn rfl) rfl rfl (y_load rfl rfl (r_load Try.underlying22 rfl (St.cl 6 S30 rfl qRow_g3))) ?_
     refine wL_val (v := .int .i64 ((rs.length : Nat) : Int)) (wn rfl) rfl rfl (y_builtin (vs := [.slice A1 rs.length c1]) rfl ⟨rfl, trivial⟩ fun _ => r_len rfl Try.underlying22) ?_
     by_cases h2 : rs.length = 0
     ·refine wL_val (v := .bool true) (wn rfl) rfl rfl (y_binop rfl rfl rfl (r_eql_t (by omega))) ?_
      refine wL_nil (wQ_sub (l' := [(2, _), (4, _), (5, _), (6, _), (7, _), (9, _), (101, _)]) ⟨rfl, rfl, rfl, rfl, rfl, rfl, rfl, trivial⟩ (wQ_then (wC_cond_t rfl (wC_seq (wC_region (wL_val (wn rfl) rfl rfl (y_load rfl rfl (r_load_row 0 S30 rfl Try.underlying29 rfl inf29 rfl)) ?_))))))
      refine wL_val (v := .agg #[.int .i64 10, .int .i64 0, .int .i64 0, .int .i64 0]) (wn rfl) rfl rfl (y_build (vs := [(0, .int .i64 10)]) rfl ⟨rfl, rfl, trivial⟩ (by kernel_rfl)) ?_
      refine wL_st (fs' := [_, _, _, _, _, _, _, _, _]) 4 S30 (wn rfl) rfl rfl rfl rfl rfl rfl inf29 rfl (qRow_one rfl rfl) (Nat.le_of_ble_eq_true rfl) (setAll_all rfl) rfl ?_; intro w125 S126; clear S30
      refine wL_st (fs' := [_, _, _, _, _, _, _, _, _]) 3 S126 (wn rfl) rfl rfl rfl rfl rfl rfl inf93 rfl (oneAll rfl) (Nat.le_of_ble_eq_true rfl) (setAll_all rfl) rfl ?_; intro w127 S128; clear S126
      refine wL_val (wn rfl) rfl rfl (y_assign rfl rfl) ?_
      refine wL_val (wn rfl) rfl rfl (y_assign rfl rfl) ?_
      refine wL_nil (wQ_sub (l' := [(4, _), (5, _), (6, _), (7, _)]) ⟨rfl, rfl, rfl, rfl, trivial⟩ (wQ_then (wC_ret (wQ_then_ret (wQ_then_ret (wQ_post (rs := [.cell 4 29, .cell 5 93, .tmp 6, .tmp 7]) (vs := [.agg (qRow ep nx gv (.slice A19 rs.length c20) (.slice A21 ls.length c22) W), .agg #[.int .i64 10, .int .i64 0, .int .i64 0, .int .i64 0], .bool false, .int .i64 0]) rfl ⟨⟨_, rfl, res_row 4 S128 rfl Try.underlying29 rfl inf29⟩, ⟨_, rfl, res_row 3 S128 rfl Try.underlying93 rfl inf93⟩, rfl, rfl, trivial⟩ ?_))))))
      have S129 : St w.heap.size w w127 [_, _] := (St.del 0 (St.del 3 (St.del 4 (St.del 5 (St.del 6 (St.del 7 (St.del 8 S128))))))); clear S128
      have S130 : St w.heap.size w w127 [.own 137 2 (.slice A19 rs.length c20) rs.length ((rs).flatMap Msg.cells), .own 141 4 (.slice A21 ls.length c22) ls.length ((ls).flatMap Ls.cells)] := S129.re [1, 0] (by decide); clear S129
      have S131 := S130.sealAll 0 rfl; clear S130
      change St _ _ _ [.rdo 2 A19 rs.length ((rs).flatMap Msg.cells), _] at S131
      have S132 := S131.sealAll 1 rfl; clear S131
      change St _ _ _ [_, .rdo 4 A21 ls.length ((ls).flatMap Ls.cells)] at S132
      rw [do_ok (Q := ⟨ep, nx, gv, rs, ls, W⟩) h0 h1, show stepM ⟨ep, nx, gv, rs, ls, W⟩ ⟨2, ((k : Nat) : Int), id, bd, he, hn⟩ = recM ⟨ep, nx, gv, rs, ls, W⟩ from by simp [stepM], rec_none h2]
      refine ⟨A19, c20, A21, c22, ?_, ?_⟩
      · dsimp only; rfl
      · dsimp only; exact S132
     ·refine wL_val (v := .bool false) (wn rfl) rfl rfl (y_binop rfl rfl rfl (r_eql_f (by omega))) ?_
      refine wL_nil (wQ_sub (l' := [(2, _), (4, _), (5, _), (6, _), (7, _), (9, _), (101, _)]) ⟨rfl, rfl, rfl, rfl, rfl, rfl, rfl, trivial⟩ (wQ_then (wC_cond_f rfl (wC_skip (wQ_then (wC_seq (wC_seq (wC_region (wL_val (v := .pointer (some ⟨b1, 2, none⟩)) (wn rfl) rfl rfl (y_fieldAddr rfl rfl (fa29_2 _ _ _)) ?_)))))))))
      refine wL_val (wn rfl) rfl rfl (y_load rfl rfl (r_load Try.underlying3 rfl (St.cl 6 S30 rfl qRow_g2))) ?_
      by_cases h3 : gv = 1073741824
      ·refine wL_val (v := .bool true) (wn rfl) rfl rfl (y_binop rfl rfl rfl (r_eql_t h3)) ?_
       refine wL_nil (wQ_sub (l' := [(2, _), (4, _), (5, _), (6, _), (7, _), (9, _), (106, _)]) ⟨rfl, rfl, rfl, rfl, rfl, rfl, rfl, trivial⟩ (wQ_then (wC_cond_t rfl (wC_seq (wC_region (wL_val (wn rfl) rfl rfl (y_load rfl rfl (r_load_row 0 S30 rfl Try.underlying29 rfl inf29 rfl)) ?_))))))
       refine wL_val (v := .agg #[.int .i64 14, .int .i64 0, .int .i64 0, .int .i64 0]) (wn rfl) rfl rfl (y_build (vs := [(0, .int .i64 14)]) rfl ⟨rfl, rfl, trivial⟩ (by kernel_rfl)) ?_
       refine wL_st (fs' := [_, _, _, _, _, _, _, _, _]) 4 S30 (wn rfl) rfl rfl rfl rfl rfl rfl inf29 rfl (qRow_one rfl rfl) (Nat.le_of_ble_eq_true rfl) (setAll_all rfl) rfl ?_; intro w133 S134; clear S30
       refine wL_st (fs' := [_, _, _, _, _, _, _, _, _]) 3 S134 (wn rfl) rfl rfl rfl rfl rfl rfl inf93 rfl (oneAll rfl) (Nat.le_of_ble_eq_true rfl) (setAll_all rfl) rfl ?_; intro w135 S136; clear S134
       refine wL_val (wn rfl) rfl rfl (y_assign rfl rfl) ?_
       refine wL_val (wn rfl) rfl rfl (y_assign rfl rfl) ?_
       refine wL_nil (wQ_sub (l' := [(4, _), (5, _), (6, _), (7, _)]) ⟨rfl, rfl, rfl, rfl, trivial⟩ (wQ_then (wC_ret (wQ_then_ret (wQ_then_ret (wQ_post (rs := [.cell 4 29, .cell 5 93, .tmp 6, .tmp 7]) (vs := [.agg (qRow ep nx gv (.slice A19 rs.length c20) (.slice A21 ls.length c22) W), .agg #[.int .i64 14, .int .i64 0, .int .i64 0, .int .i64 0], .bool false, .int .i64 0]) rfl ⟨⟨_, rfl, res_row 4 S136 rfl Try.underlying29 rfl inf29⟩, ⟨_, rfl, res_row 3 S136 rfl Try.underlying93 rfl inf93⟩, rfl, rfl, trivial⟩ ?_))))))
       have S137 : St w.heap.size w w135 [_, _] := (St.del 0 (St.del 3 (St.del 4 (St.del 5 (St.del 6 (St.del 7 (St.del 8 S136))))))); clear S136
       have S138 : St w.heap.size w w135 [.own 137 2 (.slice A19 rs.length c20) rs.length ((rs).flatMap Msg.cells), .own 141 4 (.slice A21 ls.length c22) ls.length ((ls).flatMap Ls.cells)] := S137.re [1, 0] (by decide); clear S137
       have S139 := S138.sealAll 0 rfl; clear S138
       change St _ _ _ [.rdo 2 A19 rs.length ((rs).flatMap Msg.cells), _] at S139
       have S140 := S139.sealAll 1 rfl; clear S139
       change St _ _ _ [_, .rdo 4 A21 ls.length ((ls).flatMap Ls.cells)] at S140
       rw [do_ok (Q := ⟨ep, nx, gv, rs, ls, W⟩) h0 h1, show stepM ⟨ep, nx, gv, rs, ls, W⟩ ⟨2, ((k : Nat) : Int), id, bd, he, hn⟩ = recM ⟨ep, nx, gv, rs, ls, W⟩ from by simp [stepM], rec_full h2 h3]
       refine ⟨A19, c20, A21, c22, ?_, ?_⟩
       · dsimp only; rfl
       · dsimp only; exact S140
      ·refine wL_val (v := .bool false) (wn rfl) rfl rfl (y_binop rfl rfl rfl (r_eql_f h3)) ?_
       refine wL_nil (wQ_sub (l' := [(2, _), (4, _), (5, _), (6, _), (7, _), (9, _), (106, _)]) ⟨rfl, rfl, rfl, rfl, rfl, rfl, rfl, trivial⟩ (wQ_then (wC_cond_f rfl (wC_skip (wQ_then (wC_seq (wC_region (wL_val (v := .pointer (some ⟨b1, 0, none⟩)) (wn rfl) rfl rfl (y_fieldAddr rfl rfl (fa29_0 _ _ _)) ?_))))))))
       refine wL_val (wn rfl) rfl rfl (y_load rfl rfl (r_load Try.underlying3 rfl (St.cl 6 S30 rfl qRow_g0))) ?_
       refine wL_val (v := .pointer (some ⟨b1, 2, none⟩)) (wn rfl) rfl rfl (y_fieldAddr rfl rfl (fa29_2 _ _ _)) ?_
       refine wL_val (wn rfl) rfl rfl (y_load rfl rfl (r_load Try.underlying3 rfl (St.cl 6 S30 rfl qRow_g2))) ?_
       refine wL_val (v := .agg #[.int .i64 ep, .int .i64 gv]) (wn rfl) rfl rfl (y_build (vs := [(0, .int .i64 ep), (1, .int .i64 gv)]) rfl ⟨rfl, rfl, rfl, rfl, trivial⟩ (by kernel_rfl)) ?_
       refine wL_new (V := fun b => .pointer (some ⟨b, 0, none⟩)) (row := #[.int .i64 0, .int .i64 0]) (t := 35) S30 (wn rfl) rfl rfl (d_alloc rfl (Try.zeroValue35 _) rfl) ?_; intro b141 w142 S143; clear S30
       refine wL_st (fs' := [_, _, _, _, _, _, _, _, _, _]) 0 S143 (wn rfl) rfl rfl rfl rfl rfl rfl inf35 rfl (oneAll rfl) (Nat.le_of_ble_eq_true rfl) (setAll_all rfl) rfl ?_; intro w144 S145; clear S143
       refine wL_nil (wQ_sub (l' := [(2, _), (4, _), (5, _), (6, _), (7, _), (9, _), (14, _)]) ⟨rfl, rfl, rfl, rfl, rfl, rfl, rfl, trivial⟩ (wQ_then (wC_seq (wC_region (wL_val (v := .pointer (some ⟨b26, 3, none⟩)) (wn rfl) rfl rfl (y_fieldAddr rfl rfl (fa29_3 _ _ _)) ?_)))))
       refine wL_st (cs := #[.slice none 0 0]) (row' := qRow ep nx gv (.slice none 0 0) (.slice A21 ls.length c22) W) (fs' := [_, .blk b26 (qRow ep nx gv (.slice none 0 0) (.slice A21 ls.length c22) W) 29, _, _, _, _, _, _, _, _]) 1 S145 (wn rfl) rfl rfl rfl rfl rfl rfl inf22 rfl (oneAll rfl) (Nat.le_of_ble_eq_true rfl) qRow_s3 rfl ?_; intro w146 S147; clear S145
       refine wL_nil (wQ_sub (l' := [(2, _), (4, _), (5, _), (6, _), (7, _), (9, _), (14, _)]) ⟨rfl, rfl, rfl, rfl, rfl, rfl, rfl, trivial⟩ (wQ_then (wC_seq (wC_seq (wC_region (wL_val (wn rfl) rfl rfl (y_assign rfl rfl) ?_))))))
       refine wL_nil (wQ_then (wC_block ?_))
       have S148 : St w.heap.size w w146 [_, _, _, _, _, _, _, _, _] := (St.del 3 S147); clear S147
       have S149 := S148.nil 137 2; clear S148
       change St _ _ _ [.own 137 2 (.slice none 0 0) 0 (([]).flatMap Msg.cells), .blk b141 #[.int .i64 ep, .int .i64 gv] 35, .blk b26 (qRow ep nx gv (.slice none 0 0) (.slice A21 ls.length c22) W) 29, .own 141 4 (.slice A21 ls.length c22) ls.length ((ls).flatMap Ls.cells), .blk b10 #[.int .i64 0, .int .i64 0, .int .i64 0, .int .i64 0] 93, .blk b7 (qRow 0 0 0 (.slice none 0 0) (.slice none 0 0) zeroWs) 29, .blk b4 #[.int .i64 2, .int .i64 ((k : Nat) : Int), .int .i64 id, .int .i64 bd, .int .i64 he, .int .i64 hn] 37, .blk b1 (qRow ep nx gv (.slice A1 rs.length c1) (.slice A2 ls.length c2) W) 29, .rd 2 A1 rs.length ((rs).flatMap Msg.cells), .rd 4 A2 ls.length ((ls).flatMap Ls.cells)] at S149
       refine wC_loop (X := Nat × (Option Addr) × Nat) (fun xv => [(2, .pointer (some ⟨b1, 0, none⟩)), (4, .pointer (some ⟨b7, 0, none⟩)), (5, .pointer (some ⟨b10, 0, none⟩)), (6, .bool false), (7, .int .i64 0), (9, .pointer (some ⟨b26, 0, none⟩)), (14, .pointer (some ⟨b141, 0, none⟩)), (15, .int .i64 ((xv.1 + 1 : Nat) : Int))]) (fun xv wr => (xv.1 + 1 ≤ rs.length) ∧ St w.heap.size w wr [.own 137 2 (.slice xv.2.1 xv.1 xv.2.2) xv.1 (((rs.drop 1).take xv.1).flatMap Msg.cells), .blk b141 #[.int .i64 ep, .int .i64 gv] 35, .blk b26 (qRow ep nx gv (.slice xv.2.1 xv.1 xv.2.2) (.slice A21 ls.length c22) W) 29, .own 141 4 (.slice A21 ls.length c22) ls.length ((ls).flatMap Ls.cells), .blk b10 #[.int .i64 0, .int .i64 0, .int .i64 0, .int .i64 0] 93, .blk b7 (qRow 0 0 0 (.slice none 0 0) (.slice none 0 0) zeroWs) 29, .blk b4 #[.int .i64 2, .int .i64 ((k : Nat) : Int), .int .i64 id, .int .i64 bd, .int .i64 he, .int .i64 hn] 37, .blk b1 (qRow ep nx gv (.slice A1 rs.length c1) (.slice A2 ls.length c2) W) 29, .rd 2 A1 rs.length ((rs).flatMap Msg.cells), .rd 4 A2 ls.length ((ls).flatMap Ls.cells)]) (fun xv => rs.length - xv.1) (0, none, 0) ?_ ?_ ?_
       ·exact ⟨(by dsimp only; omega), S149⟩
       ·exact ⟨rfl, rfl, rfl, rfl, rfl, rfl, rfl, rfl, trivial⟩
       ·rintro ⟨j, Ab, cb⟩ w150 ⟨hi152, S151⟩
        try dsimp only at hi152 S151; clear S149
        refine wC_sub (l' := [(2, .pointer (some ⟨b1, 0, none⟩)), (4, .pointer (some ⟨b7, 0, none⟩)), (5, .pointer (some ⟨b10, 0, none⟩)), (6, .bool false), (7, .int .i64 0), (9, .pointer (some ⟨b26, 0, none⟩)), (14, .pointer (some ⟨b141, 0, none⟩)), (15, .int .i64 ((j + 1 : Nat) : Int))]) ⟨rfl, rfl, rfl, rfl, rfl, rfl, rfl, rfl, trivial⟩ (wC_seq (wC_seq (wC_region (wL_val (wn rfl) rfl rfl (y_move rfl rfl) ?_))))
        refine wL_val (v := .pointer (some ⟨b1, 3, none⟩)) (wn rfl) rfl rfl (y_fieldAddr rfl rfl (fa29_3 _ _ _)) ?_
        refine wL_val (wn rfl) rfl rfl (y_load rfl rfl (r_load Try.underlying22 rfl (St.cl 7 S151 rfl qRow_g3))) ?_
        refine wL_val (v := .int .i64 ((rs.length : Nat) : Int)) (wn rfl) rfl rfl (y_builtin (vs := [.slice A1 rs.length c1]) rfl ⟨rfl, trivial⟩ fun _ => r_len rfl Try.underlying22) ?_
        by_cases h153 : ((j + 1 : Nat) : Int) < ((rs.length : Nat) : Int)
        ·refine wL_val (v := .bool true) (wn rfl) rfl rfl (y_binop rfl rfl rfl (r_lss_t h153)) ?_
         refine wL_nil (wQ_sub (l' := [(2, _), (4, _), (5, _), (6, _), (7, _), (9, _), (14, _), (15, _), (119, _)]) ⟨rfl, rfl, rfl, rfl, rfl, rfl, rfl, rfl, rfl, trivial⟩ (wQ_then (wC_cond_t rfl (wC_skip (wQ_then (wC_seq (wC_block ?_)))))))
         have S154 := S151.drew; clear S151
         refine wC_head (C := fun w' => St w.heap.size w w' [.blk b141 #[.int .i64 ep, .int .i64 gv] 35, .blk b26 (qRow ep nx gv (.slice Ab j cb) (.slice A21 ls.length c22) W) 29, .own 141 4 (.slice A21 ls.length c22) ls.length ((ls).flatMap Ls.cells), .blk b10 #[.int .i64 0, .int .i64 0, .int .i64 0, .int .i64 0] 93, .blk b7 (qRow 0 0 0 (.slice none 0 0) (.slice none 0 0) zeroWs) 29, .blk b4 #[.int .i64 2, .int .i64 ((k : Nat) : Int), .int .i64 id, .int .i64 bd, .int .i64 he, .int .i64 hn] 37, .blk b1 (qRow ep nx gv (.slice A1 rs.length c1) (.slice A2 ls.length c2) W) 29, .rd 2 A1 rs.length ((rs).flatMap Msg.cells), .rd 4 A2 ls.length ((ls).flatMap Ls.cells)]) (m := 11) (listed := #[false, false, false, false, false, false, false, false, false, false, false]) 9 mixed rfl rfl ?_
         refine wG_take (v := .pointer (some ⟨b26, 3, none⟩)) (i := 0) (m := 10) (listed' := #[true, false, false, false, false, false, false, false, false, false, false]) rfl (by kernel_rfl) (by kernel_rfl) (by kernel_rfl) rfl (by kernel_rfl) rfl (St.del 0 S154) rfl (wn rfl) rfl rfl (fun _ _ => (y_fieldAddr rfl rfl (fa29_3 _ _ _))) ?_
         refine wG_take (v := .slice Ab j cb) (i := 1) (m := 9) (listed' := #[true, true, false, false, false, false, false, false, false, false, false]) rfl (by kernel_rfl) (by kernel_rfl) (by kernel_rfl) rfl (by kernel_rfl) rfl (St.del 0 S154) rfl (wn rfl) rfl rfl (fun _ Sx156 => (y_load rfl rfl (r_load Try.underlying22 rfl (St.cl 1 Sx156 rfl qRow_g3)))) ?_
         refine wG_take (v := .pointer (some ⟨b1, 3, none⟩)) (i := 2) (m := 8) (listed' := #[true, true, true, false, false, false, false, false, false, false, false]) rfl (by kernel_rfl) (by kernel_rfl) (by kernel_rfl) rfl (by kernel_rfl) rfl (St.del 0 S154) rfl (wn rfl) rfl rfl (fun _ _ => (y_fieldAddr rfl rfl (fa29_3 _ _ _))) ?_
         refine wG_take (v := .slice A1 rs.length c1) (i := 3) (m := 7) (listed' := #[true, true, true, true, false, false, false, false, false, false, false]) rfl (by kernel_rfl) (by kernel_rfl) (by kernel_rfl) rfl (by kernel_rfl) rfl (St.del 0 S154) rfl (wn rfl) rfl rfl (fun _ Sx158 => (y_load rfl rfl (r_load Try.underlying22 rfl (St.cl 6 Sx158 rfl qRow_g3)))) ?_
         refine wG_take (v := .int .i64 ((j + 1 : Nat) : Int)) (i := 4) (m := 6) (listed' := #[true, true, true, true, true, false, false, false, false, false, false]) rfl (by kernel_rfl) (by kernel_rfl) (by kernel_rfl) rfl (by kernel_rfl) rfl (St.del 0 S154) rfl (wn rfl) rfl rfl (fun _ _ => (y_move rfl rfl)) ?_
         obtain ⟨b160, o161, rfl⟩ := Rd.addr (St.rd 8 S154 rfl) (by omega)
         obtain ⟨x162, hx163⟩ : ∃ x, (rs)[j + 1]? = some x := ⟨_, List.getElem?_eq_getElem (by have := (St.rd 8 S154 rfl).1; rw [fm_len (sz := 2) (fun _ => rfl)] at this; omega)⟩
         refine wG_take (v := .pointer (some ⟨b160, o161 + (j + 1) * 2, none⟩)) (i := 5) (m := 5) (listed' := #[true, true, true, true, true, true, false, false, false, false, false]) rfl (by kernel_rfl) (by kernel_rfl) (by kernel_rfl) rfl (by kernel_rfl) rfl (St.del 0 S154) rfl (wn rfl) rfl rfl (fun _ _ => (y_indexAddr rfl rfl rfl (r_indexAddr (j + 1) Try.underlying22 inf137 (by omega) (by omega)))) ?_
         refine wG_take (v := .agg #[.int .i64 x162.no, .int .i64 x162.body]) (i := 6) (m := 4) (listed' := #[true, true, true, true, true, true, true, false, false, false, false]) rfl (by kernel_rfl) (by kernel_rfl) (by kernel_rfl) rfl (by kernel_rfl) rfl (St.del 0 S154) rfl (wn rfl) rfl rfl (fun _ Sx165 => (y_load rfl rfl (r_load_agg (cs := Msg.cells x162) Try.underlying137 rfl inf137 rfl (Rd.rg2 (St.rd 7 Sx165 rfl) (fun _ _ h => fm_get (enc := Msg.cells) (sz := 2) (fun _ => rfl) hx163 h))))) ?_
         refine wG_one (m := 3) (r := 7) (by kernel_rfl) ?_
         refine wH_new (i := 7) (listed' := #[true, true, true, true, true, true, true, true, false, false, false]) rfl rfl (V := fun b => .slice (some ⟨b, 0, none⟩) 1 1) (row := #[.int .i64 x162.no, .int .i64 x162.body]) (t := 137) S154 (wn rfl) rfl rfl (d_buildSlice (vs := [(0, .agg #[.int .i64 x162.no, .int .i64 x162.body])]) rfl ⟨rfl, rfl, trivial⟩ (by kernel_rfl)) ?_; intro b166 w167 S168; clear S154
         refine ⟨(St.del 0 (St.del 1 S168)), ?_⟩
         refine wG_one (m := 2) (r := 8) (by kernel_rfl) ?_
         refine wH_append (i := 8) (listed' := #[true, true, true, true, true, true, true, true, true, false, false]) rfl rfl (news := [.int .i64 x162.no, .int .i64 x162.body]) (xs' := ((rs.drop 1).take (j + 1)).flatMap Msg.cells) 1 S168 (wn rfl) rfl rfl rfl rfl rfl rfl (St.bld (xs := [.int .i64 x162.no, .int .i64 x162.body]) 0 S168 rfl rfl rfl) Try.underlying22 infz137 rfl (by decide) (oneAll rfl) (by simp only [maxLen]; omega) (by omega) (fm_snoc (enc := Msg.cells) (take_snoc_ (by rw [List.getElem?_drop, Nat.add_comm]; exact hx163)) rfl) ?_; intro A169 c170 w171 hc173 hm174 S172; clear S168
         change St _ _ _ [_, .own 137 2 (.slice A169 (j + 1) c170) (j + 1) (((rs.drop 1).take (j + 1)).flatMap Msg.cells), _, _, _, _, _, _, _, _, _] at S172
         refine ⟨(St.del 0 (St.del 1 S172)), ?_⟩
         refine wG_tail (by kernel_rfl) rfl rfl rfl ?_
         refine wL_val (v := .pointer (some ⟨b26, 3, none⟩)) (wn rfl) rfl rfl (y_fieldAddr rfl rfl (fa29_3 _ _ _)) ?_
         refine wL_st (cs := #[.slice A169 (j + 1) c170]) (row' := qRow ep nx gv (.slice A169 (j + 1) c170) (.slice A21 ls.length c22) W) (fs' := [_, _, _, .blk b26 (qRow ep nx gv (.slice A169 (j + 1) c170) (.slice A21 ls.length c22) W) 29, _, _, _, _, _, _, _]) 3 S172 (wn rfl) rfl rfl rfl rfl rfl rfl inf22 rfl (oneAll rfl) (Nat.le_of_ble_eq_true rfl) qRow_s3 rfl ?_; intro w175 S176; clear S172
         refine wL_nil (wQ_np ?_)
         refine wQ_sub (l' := [(2, _), (4, _), (5, _), (6, _), (7, _), (9, _), (14, _), (15, _)]) ⟨rfl, rfl, rfl, rfl, rfl, rfl, rfl, rfl, trivial⟩ (wQ_blk_n (wQ_then (wC_region (wL_val (wn rfl) rfl rfl (y_move rfl rfl) ?_))))
         refine wL_val (v := .int .i64 (((j + 1) + 1 : Nat) : Int)) (wn rfl) rfl rfl (y_binop rfl rfl rfl (r_add (by omega) (by omega))) ?_
         refine wL_val (wn rfl) rfl rfl (y_assign rfl rfl) ?_
         refine wL_nil (wQ_sub (l' := [(2, _), (4, _), (5, _), (6, _), (7, _), (9, _), (14, _), (15, _)]) ⟨rfl, rfl, rfl, rfl, rfl, rfl, rfl, rfl, trivial⟩ ?_)
         have S177 : St w.heap.size w w175 [_, _, _, _, _, _, _, _, _, _] := (St.del 0 S176); clear S176
         refine wQ_round (j + 1, A169, c170) ?_ ⟨rfl, rfl, rfl, rfl, rfl, rfl, rfl, rfl, trivial⟩ (by first | omega | (dsimp only; omega))
         exact ⟨(by dsimp only; omega), S177⟩
        ·refine wL_val (v := .bool false) (wn rfl) rfl rfl (y_binop rfl rfl rfl (r_lss_f h153)) ?_
         refine wL_nil (wQ_sub (l' := [(2, _), (4, _), (5, _), (6, _), (7, _), (9, _), (14, _), (15, _), (119, _)]) ⟨rfl, rfl, rfl, rfl, rfl, rfl, rfl, rfl, rfl, trivial⟩ (wQ_then (wC_cond_f rfl (wC_exit (wQ_then_exit (wQ_then_exit (wQ_blk_same (wQ_then (wC_seq ?_)))))))))
         have S178 := S151.drew; clear S151
         refine wC_head (C := fun w' => St w.heap.size w w' [.own 137 2 (.slice Ab j cb) j (((rs.drop 1).take j).flatMap Msg.cells), .blk b141 #[.int .i64 ep, .int .i64 gv] 35, .blk b26 (qRow ep nx gv (.slice Ab j cb) (.slice A21 ls.length c22) W) 29, .blk b10 #[.int .i64 0, .int .i64 0, .int .i64 0, .int .i64 0] 93, .blk b7 (qRow 0 0 0 (.slice none 0 0) (.slice none 0 0) zeroWs) 29, .blk b4 #[.int .i64 2, .int .i64 ((k : Nat) : Int), .int .i64 id, .int .i64 bd, .int .i64 he, .int .i64 hn] 37, .blk b1 (qRow ep nx gv (.slice A1 rs.length c1) (.slice A2 ls.length c2) W) 29, .rd 2 A1 rs.length ((rs).flatMap Msg.cells), .rd 4 A2 ls.length ((ls).flatMap Ls.cells)]) (m := 12) (listed := #[false, false, false, false, false, false, false, false, false, false, false, false]) 10 mixed rfl rfl ?_
         refine wG_take (v := .pointer (some ⟨b26, 4, none⟩)) (i := 0) (m := 11) (listed' := #[true, false, false, false, false, false, false, false, false, false, false, false]) rfl (by kernel_rfl) (by kernel_rfl) (by kernel_rfl) rfl (by kernel_rfl) rfl (St.del 3 S178) rfl (wn rfl) rfl rfl (fun _ _ => (y_fieldAddr rfl rfl (fa29_4 _ _ _))) ?_
         refine wG_take (v := .slice A21 ls.length c22) (i := 1) (m := 10) (listed' := #[true, true, false, false, false, false, false, false, false, false, false, false]) rfl (by kernel_rfl) (by kernel_rfl) (by kernel_rfl) rfl (by kernel_rfl) rfl (St.del 3 S178) rfl (wn rfl) rfl rfl (fun _ Sx180 => (y_load rfl rfl (r_load Try.underlying23 rfl (St.cl 2 Sx180 rfl qRow_g4)))) ?_
         refine wG_take (v := .agg #[.int .i64 ep, .int .i64 gv]) (i := 2) (m := 9) (listed' := #[true, true, true, false, false, false, false, false, false, false, false, false]) rfl (by kernel_rfl) (by kernel_rfl) (by kernel_rfl) rfl (by kernel_rfl) rfl (St.del 3 S178) rfl (wn rfl) rfl rfl (fun _ Sx181 => (y_load rfl rfl (r_load_row 1 Sx181 rfl Try.underlying35 rfl inf35 rfl))) ?_
         refine wG_take (v := .pointer (some ⟨b1, 3, none⟩)) (i := 3) (m := 8) (listed' := #[true, true, true, true, false, false, false, false, false, false, false, false]) rfl (by kernel_rfl) (by kernel_rfl) (by kernel_rfl) rfl (by kernel_rfl) rfl (St.del 3 S178) rfl (wn rfl) rfl rfl (fun _ _ => (y_fieldAddr rfl rfl (fa29_3 _ _ _))) ?_
         refine wG_take (v := .slice A1 rs.length c1) (i := 4) (m := 7) (listed' := #[true, true, true, true, true, false, false, false, false, false, false, false]) rfl (by kernel_rfl) (by kernel_rfl) (by kernel_rfl) rfl (by kernel_rfl) rfl (St.del 3 S178) rfl (wn rfl) rfl rfl (fun _ Sx183 => (y_load rfl rfl (r_load Try.underlying22 rfl (St.cl 6 Sx183 rfl qRow_g3)))) ?_
         obtain ⟨b184, o185, rfl⟩ := Rd.addr (St.rd 8 S178 rfl) (by omega)
         obtain ⟨x186, hx187⟩ : ∃ x, (rs)[0]? = some x := ⟨_, List.getElem?_eq_getElem (by have := (St.rd 8 S178 rfl).1; rw [fm_len (sz := 2) (fun _ => rfl)] at this; omega)⟩
         refine wG_take (v := .pointer (some ⟨b184, o185 + 0 * 2, none⟩)) (i := 5) (m := 6) (listed' := #[true, true, true, true, true, true, false, false, false, false, false, false]) rfl (by kernel_rfl) (by kernel_rfl) (by kernel_rfl) rfl (by kernel_rfl) rfl (St.del 3 S178) rfl (wn rfl) rfl rfl (fun _ _ => (y_indexAddr rfl rfl rfl (r_indexAddr 0 Try.underlying22 inf137 (by omega) (by omega)))) ?_
         refine wG_take (v := .agg #[.int .i64 x186.no, .int .i64 x186.body]) (i := 6) (m := 5) (listed' := #[true, true, true, true, true, true, true, false, false, false, false, false]) rfl (by kernel_rfl) (by kernel_rfl) (by kernel_rfl) rfl (by kernel_rfl) rfl (St.del 3 S178) rfl (wn rfl) rfl rfl (fun _ Sx189 => (y_load rfl rfl (r_load_agg (cs := Msg.cells x186) Try.underlying137 rfl inf137 rfl (Rd.rg2 (St.rd 7 Sx189 rfl) (fun _ _ h => fm_get (enc := Msg.cells) (sz := 2) (fun _ => rfl) hx187 h))))) ?_
         refine wG_take (v := .agg #[.int .i64 ep, .int .i64 gv, .int .i64 x186.no, .int .i64 x186.body]) (i := 7) (m := 4) (listed' := #[true, true, true, true, true, true, true, true, false, false, false, false]) rfl (by kernel_rfl) (by kernel_rfl) (by kernel_rfl) rfl (by kernel_rfl) rfl (St.del 3 S178) rfl (wn rfl) rfl rfl (fun _ _ => (y_build (vs := [(0, .agg #[.int .i64 ep, .int .i64 gv]), (1, .agg #[.int .i64 x186.no, .int .i64 x186.body])]) rfl ⟨rfl, rfl, rfl, rfl, trivial⟩ (by kernel_rfl))) ?_
         refine wG_one (m := 3) (r := 8) (by kernel_rfl) ?_
         refine wH_new (i := 8) (listed' := #[true, true, true, true, true, true, true, true, true, false, false, false]) rfl rfl (V := fun b => .slice (some ⟨b, 0, none⟩) 1 1) (row := #[.int .i64 ep, .int .i64 gv, .int .i64 x186.no, .int .i64 x186.body]) (t := 141) S178 (wn rfl) rfl rfl (d_buildSlice (vs := [(0, .agg #[.int .i64 ep, .int .i64 gv, .int .i64 x186.no, .int .i64 x186.body])]) rfl ⟨rfl, rfl, trivial⟩ (by kernel_rfl)) ?_; intro b191 w192 S193; clear S178
         refine ⟨(St.del 0 (St.del 4 S193)), ?_⟩
         refine wG_one (m := 2) (r := 9) (by kernel_rfl) ?_
         refine wH_append (i := 9) (listed' := #[true, true, true, true, true, true, true, true, true, true, false, false]) rfl rfl (news := [.int .i64 ep, .int .i64 gv, .int .i64 x186.no, .int .i64 x186.body]) (xs' := (ls ++ [(⟨ep, gv, x186⟩ : Ls)]).flatMap Ls.cells) 4 S193 (wn rfl) rfl rfl rfl rfl rfl rfl (St.bld (xs := [.int .i64 ep, .int .i64 gv, .int .i64 x186.no, .int .i64 x186.body]) 0 S193 rfl rfl rfl) Try.underlying23 infz141 rfl (by decide) (oneAll rfl) (by simp only [maxLen]; omega) (by omega) (fm_snoc (enc := Ls.cells) rfl rfl) ?_; intro A194 c195 w196 hc198 hm199 S197; clear S193
         change St _ _ _ [_, _, _, _, .own 141 4 (.slice A194 (ls.length + 1) c195) (ls.length + 1) ((ls ++ [(⟨ep, gv, x186⟩ : Ls)]).flatMap Ls.cells), _, _, _, _, _, _] at S197
         refine ⟨(St.del 0 (St.del 4 S197)), ?_⟩
         refine wG_tail (by kernel_rfl) rfl rfl rfl ?_
         refine wL_val (v := .pointer (some ⟨b26, 4, none⟩)) (wn rfl) rfl rfl (y_fieldAddr rfl rfl (fa29_4 _ _ _)) ?_
         refine wL_st (cs := #[.slice A194 (ls.length + 1) c195]) (row' := qRow ep nx gv (.slice Ab j cb) (.slice A194 (ls.length + 1) c195) W) (fs' := [_, _, _, .blk b26 (qRow ep nx gv (.slice Ab j cb) (.slice A194 (ls.length + 1) c195) W) 29, _, _, _, _, _, _, _]) 3 S197 (wn rfl) rfl rfl rfl rfl rfl rfl inf23 rfl (oneAll rfl) (Nat.le_of_ble_eq_true rfl) qRow_s4 rfl ?_; intro w200 S201; clear S197
         refine wL_nil (wQ_np ?_)
         refine wQ_sub (l' := [(2, _), (4, _), (5, _), (6, _), (7, _), (9, _), (14, _)]) ⟨rfl, rfl, rfl, rfl, rfl, rfl, rfl, trivial⟩ (wQ_then (wC_seq (wC_region (wL_val (v := .pointer (some ⟨b1, 2, none⟩)) (wn rfl) rfl rfl (y_fieldAddr rfl rfl (fa29_2 _ _ _)) ?_))))
         refine wL_val (wn rfl) rfl rfl (y_load rfl rfl (r_load Try.underlying3 rfl (St.cl 8 S201 rfl qRow_g2))) ?_
         refine wL_val (v := .int .i64 (gv + 1)) (wn rfl) rfl rfl (y_binop rfl rfl rfl (r_add (by omega) (by omega))) ?_
         refine wL_val (v := .pointer (some ⟨b26, 2, none⟩)) (wn rfl) rfl rfl (y_fieldAddr rfl rfl (fa29_2 _ _ _)) ?_
         refine wL_st (cs := #[.int .i64 (gv + 1)]) (row' := qRow ep nx (gv + 1) (.slice Ab j cb) (.slice A194 (ls.length + 1) c195) W) (fs' := [_, _, _, .blk b26 (qRow ep nx (gv + 1) (.slice Ab j cb) (.slice A194 (ls.length + 1) c195) W) 29, _, _, _, _, _, _, _]) 3 S201 (wn rfl) rfl rfl rfl rfl rfl rfl inf3 rfl (oneAll rfl) (Nat.le_of_ble_eq_true rfl) qRow_s2 rfl ?_; intro w202 S203; clear S201
         refine wL_nil (wQ_sub (l' := [(2, _), (4, _), (5, _), (6, _), (7, _), (9, _), (14, _)]) ⟨rfl, rfl, rfl, rfl, rfl, rfl, rfl, trivial⟩ (wQ_then (wC_seq ?_)))
         have S204 := S203.drew; clear S203
         refine wC_any_ (C := fun w' => St w.heap.size w w' [.blk b191 #[.int .i64 ep, .int .i64 gv, .int .i64 x186.no, .int .i64 x186.body] 141, .own 137 2 (.slice Ab j cb) j (((rs.drop 1).take j).flatMap Msg.cells), .blk b141 #[.int .i64 ep, .int .i64 gv] 35, .blk b26 (qRow ep nx (gv + 1) (.slice Ab j cb) (.slice A194 (ls.length + 1) c195) W) 29, .own 141 4 (.slice A194 (ls.length + 1) c195) (ls.length + 1) ((ls ++ [(⟨ep, gv, x186⟩ : Ls)]).flatMap Ls.cells), .blk b4 #[.int .i64 2, .int .i64 ((k : Nat) : Int), .int .i64 id, .int .i64 bd, .int .i64 he, .int .i64 hn] 37, .blk b1 (qRow ep nx gv (.slice (some ⟨b184, o185, none⟩) rs.length c1) (.slice A2 ls.length c2) W) 29, .rd 2 (some ⟨b184, o185, none⟩) rs.length ((rs).flatMap Msg.cells), .rd 4 A2 ls.length ((ls).flatMap Ls.cells)]) (n := 12) (listed := #[false, false, false, false, false, false, false, false, false, false, false, false]) mixed rfl rfl ?_
         refine wA_take (v := .agg (qRow ep nx (gv + 1) (.slice Ab j cb) (.slice A194 (ls.length + 1) c195) W)) (i := 0) (n := 11) (listed' := #[true, false, false, false, false, false, false, false, false, false, false, false]) rfl (by kernel_rfl) (by kernel_rfl) (by kernel_rfl) (St.del 5 (St.del 6 S204)) rfl (wn rfl) rfl rfl (fun _ Sx205 => (y_load rfl rfl (r_load_row 3 Sx205 rfl Try.underlying29 rfl inf29 rfl))) ?_
         refine wA_take (v := .agg #[.int .i64 ep, .int .i64 gv]) (i := 1) (n := 10) (listed' := #[true, true, false, false, false, false, false, false, false, false, false, false]) rfl (by kernel_rfl) (by kernel_rfl) (by kernel_rfl) (St.del 5 (St.del 6 S204)) rfl (wn rfl) rfl rfl (fun _ Sx206 => (y_load rfl rfl (r_load_row 2 Sx206 rfl Try.underlying35 rfl inf35 rfl))) ?_
         refine wA_take (v := .pointer (some ⟨b1, 3, none⟩)) (i := 2) (n := 9) (listed' := #[true, true, true, false, false, false, false, false, false, false, false, false]) rfl (by kernel_rfl) (by kernel_rfl) (by kernel_rfl) (St.del 5 (St.del 6 S204)) rfl (wn rfl) rfl rfl (fun _ _ => (y_fieldAddr rfl rfl (fa29_3 _ _ _))) ?_
         refine wA_take (v := .slice (some ⟨b184, o185, none⟩) rs.length c1) (i := 3) (n := 8) (listed' := #[true, true, true, true, false, false, false, false, false, false, false, false]) rfl (by kernel_rfl) (by kernel_rfl) (by kernel_rfl) (St.del 5 (St.del 6 S204)) rfl (wn rfl) rfl rfl (fun _ Sx208 => (y_load rfl rfl (r_load Try.underlying22 rfl (St.cl 6 Sx208 rfl qRow_g3)))) ?_
         refine wA_take (v := .pointer (some ⟨b184, o185 + 0 * 2, none⟩)) (i := 4) (n := 7) (listed' := #[true, true, true, true, true, false, false, false, false, false, false, false]) rfl (by kernel_rfl) (by kernel_rfl) (by kernel_rfl) (St.del 5 (St.del 6 S204)) rfl (wn rfl) rfl rfl (fun _ _ => (y_indexAddr rfl rfl rfl (r_indexAddr 0 Try.underlying22 inf137 (by omega) (by omega)))) ?_
         refine wA_take (v := .pointer (some ⟨b184, o185 + 0 * 2 + 1, none⟩)) (i := 5) (n := 6) (listed' := #[true, true, true, true, true, true, false, false, false, false, false, false]) rfl (by kernel_rfl) (by kernel_rfl) (by kernel_rfl) (St.del 5 (St.del 6 S204)) rfl (wn rfl) rfl rfl (fun _ _ => (y_fieldAddr rfl rfl (fa137_1 _ _ _))) ?_
         refine wA_take (v := .int .i64 x186.body) (i := 6) (n := 5) (listed' := #[true, true, true, true, true, true, true, false, false, false, false, false]) rfl (by kernel_rfl) (by kernel_rfl) (by kernel_rfl) (St.del 5 (St.del 6 S204)) rfl (wn rfl) rfl rfl (fun _ Sx211 => (y_load rfl rfl (r_load Try.underlying3 rfl (Rd.cl2 (i := 1) (St.rd 7 Sx211 rfl) (fm_get (enc := Msg.cells) (sz := 2) (fun _ => rfl) hx187 rfl))))) ?_
         refine wA_take (v := .agg #[.int .i64 0, .int .i64 ep, .int .i64 gv, .int .i64 x186.body]) (i := 7) (n := 4) (listed' := #[true, true, true, true, true, true, true, true, false, false, false, false]) rfl (by kernel_rfl) (by kernel_rfl) (by kernel_rfl) (St.del 5 (St.del 6 S204)) rfl (wn rfl) rfl rfl (fun _ _ => (y_build (vs := [(1, .agg #[.int .i64 ep, .int .i64 gv]), (2, .int .i64 x186.body)]) rfl ⟨rfl, rfl, rfl, rfl, trivial⟩ (by kernel_rfl))) ?_
         refine wA_one (n := 3) (r := 8) (by kernel_rfl) ?_
         refine wN_st (i := 8) (listed' := #[true, true, true, true, true, true, true, true, true, false, false, false]) rfl rfl (fs' := [_, _, _, _, _, _, _, _, _, _, _]) 6 S204 (wn rfl) rfl rfl rfl rfl rfl rfl inf29 rfl (qRow_one rfl rfl) (Nat.le_of_ble_eq_true rfl) (setAll_all rfl) rfl ?_; intro w213 S214; clear S204
         refine ⟨(St.del 5 (St.del 6 S214)), ?_⟩
         refine wA_one (n := 2) (r := 9) (by kernel_rfl) ?_
         refine wN_st (i := 9) (listed' := #[true, true, true, true, true, true, true, true, true, true, false, false]) rfl rfl (fs' := [_, _, _, _, _, _, _, _, _, _, _]) 5 S214 (wn rfl) rfl rfl rfl rfl rfl rfl inf93 rfl (oneAll rfl) (Nat.le_of_ble_eq_true rfl) (setAll_all rfl) rfl ?_; intro w215 S216; clear S214
         refine ⟨(St.del 5 (St.del 6 S216)), ?_⟩
         refine wA_take (v := .bool true) (i := 10) (n := 1) (listed' := #[true, true, true, true, true, true, true, true, true, true, true, false]) rfl (by kernel_rfl) (by kernel_rfl) (by kernel_rfl) (St.del 5 (St.del 6 S216)) rfl (wn rfl) rfl rfl (fun _ _ => (y_assign rfl rfl)) ?_
         refine wA_take (v := .int .i64 0) (i := 11) (n := 0) (listed' := #[true, true, true, true, true, true, true, true, true, true, true, true]) rfl (by kernel_rfl) (by kernel_rfl) (by kernel_rfl) (St.del 5 (St.del 6 S216)) rfl (wn rfl) rfl rfl (fun _ _ => (y_assign rfl rfl)) ?_
         refine wA_done (by kernel_rfl) ?_
         refine wQ_sub (l' := [(4, _), (5, _), (6, _), (7, _)]) ⟨rfl, rfl, rfl, rfl, trivial⟩ (wQ_then (wC_ret (wQ_then_ret (wQ_post (rs := [.cell 4 29, .cell 5 93, .tmp 6, .tmp 7]) (vs := [.agg (qRow ep nx (gv + 1) (.slice Ab j cb) (.slice A194 (ls.length + 1) c195) W), .agg #[.int .i64 0, .int .i64 ep, .int .i64 gv, .int .i64 x186.body], .bool true, .int .i64 0]) rfl ⟨⟨_, rfl, res_row 6 S216 rfl Try.underlying29 rfl inf29⟩, ⟨_, rfl, res_row 5 S216 rfl Try.underlying93 rfl inf93⟩, rfl, rfl, trivial⟩ ?_))))
         obtain rfl : j = rs.length - 1 := by omega
         have S219 := S216; clear S216
         rw [List.take_of_length_le (by simp)] at S219
         change St _ _ _ [.blk b191 #[.int .i64 ep, .int .i64 gv, .int .i64 x186.no, .int .i64 x186.body] 141, .own 137 2 (.slice Ab (rs.length - 1) cb) (rs.length - 1) ((rs.drop 1).flatMap Msg.cells), .blk b141 #[.int .i64 ep, .int .i64 gv] 35, .blk b26 (qRow ep nx (gv + 1) (.slice Ab (rs.length - 1) cb) (.slice A194 (ls.length + 1) c195) W) 29, .own 141 4 (.slice A194 (ls.length + 1) c195) (ls.length + 1) ((ls ++ [(⟨ep, gv, x186⟩ : Ls)]).flatMap Ls.cells), .blk b10 #[.int .i64 0, .int .i64 ep, .int .i64 gv, .int .i64 x186.body] 93, .blk b7 (qRow ep nx (gv + 1) (.slice Ab (rs.length - 1) cb) (.slice A194 (ls.length + 1) c195) W) 29, .blk b4 #[.int .i64 2, .int .i64 ((k : Nat) : Int), .int .i64 id, .int .i64 bd, .int .i64 he, .int .i64 hn] 37, .blk b1 (qRow ep nx gv (.slice (some ⟨b184, o185, none⟩) rs.length c1) (.slice A2 ls.length c2) W) 29, .rd 2 (some ⟨b184, o185, none⟩) rs.length ((rs).flatMap Msg.cells), .rd 4 A2 ls.length ((ls).flatMap Ls.cells)] at S219
         have S220 : St w.heap.size w w215 [_, _] := (St.del 0 (St.del 2 (St.del 3 (St.del 5 (St.del 6 (St.del 7 (St.del 8 (St.del 9 (St.del 10 S219))))))))); clear S219
         have S221 := S220.sealAll 0 rfl; clear S220
         change St _ _ _ [.rdo 2 Ab (rs.length - 1) ((rs.drop 1).flatMap Msg.cells), _] at S221
         have S222 := S221.sealAll 1 rfl; clear S221
         change St _ _ _ [_, .rdo 4 A194 (ls.length + 1) ((ls ++ [(⟨ep, gv, x186⟩ : Ls)]).flatMap Ls.cells)] at S222
         rw [do_ok (Q := ⟨ep, nx, gv, rs, ls, W⟩) h0 h1, show stepM ⟨ep, nx, gv, rs, ls, W⟩ ⟨2, ((k : Nat) : Int), id, bd, he, hn⟩ = recM ⟨ep, nx, gv, rs, ls, W⟩ from by simp [stepM], rec_ok hx187 h3]
         have hl1 : (rs.drop 1).length = rs.length - 1 := by simp
         have hl2 : (ls ++ [(⟨ep, gv, x186⟩ : Ls)]).length = ls.length + 1 := by simp
         refine ⟨Ab, cb, A194, c195, ?_, ?_⟩
         · dsimp only; rw [hl1, hl2]; rfl
         · dsimp only; rw [hl1, hl2]; exact S222
    ·refine wL_val (v := .bool false) (wn rfl) rfl rfl (y_binop rfl rfl rfl (r_eql_f hz2)) ?_
     refine wL_nil (wQ_sub (l' := [(2, _), (3, _), (4, _), (5, _), (6, _), (7, _), (9, _), (97, _)]) ⟨rfl, rfl, rfl, rfl, rfl, rfl, rfl, rfl, trivial⟩ (wQ_then (wC_cond_f rfl (wC_skip (wQ_then (wC_seq (wC_seq (wC_region (wL_val (v := .pointer (some ⟨b4, 0, none⟩)) (wn rfl) rfl rfl (y_fieldAddr rfl rfl (fa37_0 _ _ _)) ?_)))))))))
     refine wL_val (wn rfl) rfl rfl (y_load rfl rfl (r_load Try.underlying3 rfl (St.cl 5 S30 rfl rfl))) ?_
     by_cases hz3 : kd = 3
     ·subst hz3
      refine wL_val (v := .bool true) (wn rfl) rfl rfl (y_binop rfl rfl rfl (r_eql_t rfl)) ?_
      refine wL_nil (wQ_sub (l' := [(2, _), (3, _), (4, _), (5, _), (6, _), (7, _), (9, _), (157, _)]) ⟨rfl, rfl, rfl, rfl, rfl, rfl, rfl, rfl, trivial⟩ (wQ_then (wC_cond_t rfl (wC_seq (wC_seq (wC_region (wL_val (v := .pointer (some ⟨b4, 4, none⟩)) (wn rfl) rfl rfl (y_fieldAddr rfl rfl (fa37_4 _ _ _)) ?_)))))))
      refine wL_val (v := .pointer (some ⟨b4, 4, none⟩)) (wn rfl) rfl rfl (y_fieldAddr rfl rfl (fa35_0 _ _ _)) ?_
      refine wL_val (wn rfl) rfl rfl (y_load rfl rfl (r_load Try.underlying3 rfl (St.cl 5 S30 rfl rfl))) ?_
      refine wL_val (v := .pointer (some ⟨b1, 0, none⟩)) (wn rfl) rfl rfl (y_fieldAddr rfl rfl (fa29_0 _ _ _)) ?_
      refine wL_val (wn rfl) rfl rfl (y_load rfl rfl (r_load Try.underlying3 rfl (St.cl 6 S30 rfl qRow_g0))) ?_
      by_cases h2 : he = ep
      ·refine wL_val (v := .bool false) (wn rfl) rfl rfl (y_binop rfl rfl rfl (r_neq_f h2)) ?_
       refine wL_nil (wQ_sub (l' := [(2, _), (3, _), (4, _), (5, _), (6, _), (7, _), (9, _), (163, _)]) ⟨rfl, rfl, rfl, rfl, rfl, rfl, rfl, rfl, trivial⟩ (wQ_then (wC_cond_f rfl (wC_skip (wQ_then (wC_seq (wC_region (wL_val (v := .pointer (some ⟨b26, 4, none⟩)) (wn rfl) rfl rfl (y_fieldAddr rfl rfl (fa29_4 _ _ _)) ?_))))))))
       refine wL_st (cs := #[.slice none 0 0]) (row' := qRow ep nx gv (.slice A19 rs.length c20) (.slice none 0 0) W) (fs' := [.blk b26 (qRow ep nx gv (.slice A19 rs.length c20) (.slice none 0 0) W) 29, _, _, _, _, _, _, _, _]) 0 S30 (wn rfl) rfl rfl rfl rfl rfl rfl inf23 rfl (oneAll rfl) (Nat.le_of_ble_eq_true rfl) qRow_s4 rfl ?_; intro w223 S224; clear S30
       refine wL_nil (wQ_sub (l' := [(2, _), (3, _), (4, _), (5, _), (6, _), (7, _), (9, _)]) ⟨rfl, rfl, rfl, rfl, rfl, rfl, rfl, trivial⟩ (wQ_then (wC_seq (wC_seq (wC_region (wL_val (wn rfl) rfl rfl (y_assign rfl rfl) ?_))))))
       refine wL_nil (wQ_then (wC_block ?_))
       have S225 : St w.heap.size w w223 [_, _, _, _, _, _, _, _] := (St.del 1 S224); clear S224
       have S226 := S225.nil 141 4; clear S225
       change St _ _ _ [.own 141 4 (.slice none 0 0) 0 (([]).flatMap Ls.cells), .blk b26 (qRow ep nx gv (.slice A19 rs.length c20) (.slice none 0 0) W) 29, .own 137 2 (.slice A19 rs.length c20) rs.length ((rs).flatMap Msg.cells), .blk b10 #[.int .i64 0, .int .i64 0, .int .i64 0, .int .i64 0] 93, .blk b7 (qRow 0 0 0 (.slice none 0 0) (.slice none 0 0) zeroWs) 29, .blk b4 #[.int .i64 3, .int .i64 ((k : Nat) : Int), .int .i64 id, .int .i64 bd, .int .i64 he, .int .i64 hn] 37, .blk b1 (qRow ep nx gv (.slice A1 rs.length c1) (.slice A2 ls.length c2) W) 29, .rd 2 A1 rs.length ((rs).flatMap Msg.cells), .rd 4 A2 ls.length ((ls).flatMap Ls.cells)] at S226
       refine wC_loop (X := Nat × (Option Addr) × Nat × Nat) (fun xv => [(2, .pointer (some ⟨b1, 0, none⟩)), (3, .pointer (some ⟨b4, 0, none⟩)), (4, .pointer (some ⟨b7, 0, none⟩)), (5, .pointer (some ⟨b10, 0, none⟩)), (6, .bool false), (7, .int .i64 0), (9, .pointer (some ⟨b26, 0, none⟩)), (16, .int .i64 ((xv.1 : Nat) : Int))]) (fun xv wr => (xv.1 ≤ ls.length) ∧ (xv.2.2.2 = ((ls.take xv.1).filter fun x => decide (x.hno ≠ hn)).length) ∧ St w.heap.size w wr [.own 141 4 (.slice xv.2.1 xv.2.2.2 xv.2.2.1) xv.2.2.2 (((ls.take xv.1).filter fun x => decide (x.hno ≠ hn)).flatMap Ls.cells), .blk b26 (qRow ep nx gv (.slice A19 rs.length c20) (.slice xv.2.1 xv.2.2.2 xv.2.2.1) W) 29, .own 137 2 (.slice A19 rs.length c20) rs.length ((rs).flatMap Msg.cells), .blk b10 #[.int .i64 0, .int .i64 0, .int .i64 0, .int .i64 0] 93, .blk b7 (qRow 0 0 0 (.slice none 0 0) (.slice none 0 0) zeroWs) 29, .blk b4 #[.int .i64 3, .int .i64 ((k : Nat) : Int), .int .i64 id, .int .i64 bd, .int .i64 he, .int .i64 hn] 37, .blk b1 (qRow ep nx gv (.slice A1 rs.length c1) (.slice A2 ls.length c2) W) 29, .rd 2 A1 rs.length ((rs).flatMap Msg.cells), .rd 4 A2 ls.length ((ls).flatMap Ls.cells)]) (fun xv => ls.length - xv.1) (0, none, 0, 0) ?_ ?_ ?_
       ·exact ⟨Nat.zero_le _, rfl, S226⟩
       ·exact ⟨rfl, rfl, rfl, rfl, rfl, rfl, rfl, rfl, trivial⟩
       ·rintro ⟨j, Ab, cb, n⟩ w227 ⟨hi229, hi230, S228⟩
        try dsimp only at hi229 hi230 S228; clear S226
        refine wC_sub (l' := [(2, .pointer (some ⟨b1, 0, none⟩)), (3, .pointer (some ⟨b4, 0, none⟩)), (4, .pointer (some ⟨b7, 0, none⟩)), (5, .pointer (some ⟨b10, 0, none⟩)), (6, .bool false), (7, .int .i64 0), (9, .pointer (some ⟨b26, 0, none⟩)), (16, .int .i64 ((j : Nat) : Int))]) ⟨rfl, rfl, rfl, rfl, rfl, rfl, rfl, rfl, trivial⟩ (wC_seq (wC_seq (wC_region (wL_val (wn rfl) rfl rfl (y_move rfl rfl) ?_))))
        refine wL_val (v := .pointer (some ⟨b1, 4, none⟩)) (wn rfl) rfl rfl (y_fieldAddr rfl rfl (fa29_4 _ _ _)) ?_
        refine wL_val (wn rfl) rfl rfl (y_load rfl rfl (r_load Try.underlying23 rfl (St.cl 6 S228 rfl qRow_g4))) ?_
        refine wL_val (v := .int .i64 ((ls.length : Nat) : Int)) (wn rfl) rfl rfl (y_builtin (vs := [.slice A2 ls.length c2]) rfl ⟨rfl, trivial⟩ fun _ => r_len rfl Try.underlying23) ?_
        by_cases h231 : ((j : Nat) : Int) < ((ls.length : Nat) : Int)
        ·refine wL_val (v := .bool true) (wn rfl) rfl rfl (y_binop rfl rfl rfl (r_lss_t h231)) ?_
         refine wL_nil (wQ_sub (l' := [(2, _), (3, _), (4, _), (5, _), (6, _), (7, _), (9, _), (16, _), (171, _)]) ⟨rfl, rfl, rfl, rfl, rfl, rfl, rfl, rfl, rfl, trivial⟩ (wQ_then (wC_cond_t rfl (wC_skip (wQ_then (wC_seq (wC_block (wC_seq (wC_quiet S228 mixed (by kernel_rfl) ?_)))))))))
         refine wU_val (v := .pointer (some ⟨b1, 4, none⟩)) (wn rfl) rfl rfl (fun _ _ => (y_fieldAddr rfl rfl (fa29_4 _ _ _))) ?_
         refine wU_val (v := .slice A2 ls.length c2) (wn rfl) rfl rfl (fun _ Sx233 => (y_load rfl rfl (r_load Try.underlying23 rfl (St.cl 6 Sx233 rfl qRow_g4)))) ?_
         refine wU_val (v := .int .i64 ((j : Nat) : Int)) (wn rfl) rfl rfl (fun _ _ => (y_move rfl rfl)) ?_
         obtain ⟨b235, o236, rfl⟩ := Rd.addr (St.rd 8 S228 rfl) (by omega)
         obtain ⟨x237, hx238⟩ : ∃ x, (ls)[j]? = some x := ⟨_, List.getElem?_eq_getElem (by have := (St.rd 8 S228 rfl).1; rw [fm_len (sz := 4) (fun _ => rfl)] at this; omega)⟩
         refine wU_val (v := .pointer (some ⟨b235, o236 + j * 4, none⟩)) (wn rfl) rfl rfl (fun _ _ => (y_indexAddr rfl rfl rfl (r_indexAddr j Try.underlying23 inf141 (by omega) (by omega)))) ?_
         refine wU_val (v := .pointer (some ⟨b235, o236 + j * 4, none⟩)) (wn rfl) rfl rfl (fun _ _ => (y_fieldAddr rfl rfl (fa141_0 _ _ _))) ?_
         refine wU_val (v := .pointer (some ⟨b235, o236 + j * 4 + 1, none⟩)) (wn rfl) rfl rfl (fun _ _ => (y_fieldAddr rfl rfl (fa35_1 _ _ _))) ?_
         refine wU_val (v := .int .i64 x237.hno) (wn rfl) rfl rfl (fun _ Sx242 => (y_load rfl rfl (r_load Try.underlying3 rfl (Rd.cl2 (i := 1) (St.rd 8 Sx242 rfl) (fm_get (enc := Ls.cells) (sz := 4) (fun _ => rfl) hx238 rfl))))) ?_
         refine wU_val (v := .pointer (some ⟨b4, 4, none⟩)) (wn rfl) rfl rfl (fun _ _ => (y_fieldAddr rfl rfl (fa37_4 _ _ _))) ?_
         refine wU_val (v := .pointer (some ⟨b4, 5, none⟩)) (wn rfl) rfl rfl (fun _ _ => (y_fieldAddr rfl rfl (fa35_1 _ _ _))) ?_
         refine wU_val (v := .int .i64 hn) (wn rfl) rfl rfl (fun _ Sx245 => (y_load rfl rfl (r_load Try.underlying3 rfl (St.cl 5 Sx245 rfl rfl)))) ?_
         have hfb := List.length_filter_le (fun x : Ls => decide (x.hno ≠ hn)) (ls.take j)
         rw [List.length_take] at hfb
         by_cases hne : x237.hno ≠ hn
         ·refine wU_val (v := .bool true) (wn rfl) rfl rfl (fun _ _ => (y_binop rfl rfl rfl (r_neq_t hne))) ?_
          refine wU_nil fun w247 S248 => ?_; clear S228
          refine wQ_sub (l' := [(2, _), (3, _), (4, _), (5, _), (6, _), (7, _), (9, _), (16, _), (184, _)]) ⟨rfl, rfl, rfl, rfl, rfl, rfl, rfl, rfl, rfl, trivial⟩ (wQ_then (wC_cond_t rfl ?_))
          have S249 := S248.drew; clear S248
          refine wC_head (C := fun w' => St w.heap.size w w' [.blk b26 (qRow ep nx gv (.slice A19 rs.length c20) (.slice Ab n cb) W) 29, .own 137 2 (.slice A19 rs.length c20) rs.length ((rs).flatMap Msg.cells), .blk b10 #[.int .i64 0, .int .i64 0, .int .i64 0, .int .i64 0] 93, .blk b7 (qRow 0 0 0 (.slice none 0 0) (.slice none 0 0) zeroWs) 29, .blk b4 #[.int .i64 3, .int .i64 ((k : Nat) : Int), .int .i64 id, .int .i64 bd, .int .i64 he, .int .i64 hn] 37, .blk b1 (qRow ep nx gv (.slice A1 rs.length c1) (.slice (some ⟨b235, o236, none⟩) ls.length c2) W) 29, .rd 2 A1 rs.length ((rs).flatMap Msg.cells), .rd 4 (some ⟨b235, o236, none⟩) ls.length ((ls).flatMap Ls.cells)]) (m := 11) (listed := #[false, false, false, false, false, false, false, false, false, false, false]) 9 mixed rfl rfl ?_
          refine wG_take (v := .pointer (some ⟨b26, 4, none⟩)) (i := 0) (m := 10) (listed' := #[true, false, false, false, false, false, false, false, false, false, false]) rfl (by kernel_rfl) (by kernel_rfl) (by kernel_rfl) rfl (by kernel_rfl) rfl (St.del 0 S249) rfl (wn rfl) rfl rfl (fun _ _ => (y_fieldAddr rfl rfl (fa29_4 _ _ _))) ?_
          refine wG_take (v := .slice Ab n cb) (i := 1) (m := 9) (listed' := #[true, true, false, false, false, false, false, false, false, false, false]) rfl (by kernel_rfl) (by kernel_rfl) (by kernel_rfl) rfl (by kernel_rfl) rfl (St.del 0 S249) rfl (wn rfl) rfl rfl (fun _ Sx251 => (y_load rfl rfl (r_load Try.underlying23 rfl (St.cl 0 Sx251 rfl qRow_g4)))) ?_
          refine wG_take (v := .pointer (some ⟨b1, 4, none⟩)) (i := 2) (m := 8) (listed' := #[true, true, true, false, false, false, false, false, false, false, false]) rfl (by kernel_rfl) (by kernel_rfl) (by kernel_rfl) rfl (by kernel_rfl) rfl (St.del 0 S249) rfl (wn rfl) rfl rfl (fun _ _ => (y_fieldAddr rfl rfl (fa29_4 _ _ _))) ?_
          refine wG_take (v := .slice (some ⟨b235, o236, none⟩) ls.length c2) (i := 3) (m := 7) (listed' := #[true, true, true, true, false, false, false, false, false, false, false]) rfl (by kernel_rfl) (by kernel_rfl) (by kernel_rfl) rfl (by kernel_rfl) rfl (St.del 0 S249) rfl (wn rfl) rfl rfl (fun _ Sx253 => (y_load rfl rfl (r_load Try.underlying23 rfl (St.cl 5 Sx253 rfl qRow_g4)))) ?_
          refine wG_take (v := .int .i64 ((j : Nat) : Int)) (i := 4) (m := 6) (listed' := #[true, true, true, true, true, false, false, false, false, false, false]) rfl (by kernel_rfl) (by kernel_rfl) (by kernel_rfl) rfl (by kernel_rfl) rfl (St.del 0 S249) rfl (wn rfl) rfl rfl (fun _ _ => (y_move rfl rfl)) ?_
          refine wG_take (v := .pointer (some ⟨b235, o236 + j * 4, none⟩)) (i := 5) (m := 5) (listed' := #[true, true, true, true, true, true, false, false, false, false, false]) rfl (by kernel_rfl) (by kernel_rfl) (by kernel_rfl) rfl (by kernel_rfl) rfl (St.del 0 S249) rfl (wn rfl) rfl rfl (fun _ _ => (y_indexAddr rfl rfl rfl (r_indexAddr j Try.underlying23 inf141 (by omega) (by omega)))) ?_
          refine wG_take (v := .agg #[.int .i64 x237.hep, .int .i64 x237.hno, .int .i64 x237.msg.no, .int .i64 x237.msg.body]) (i := 6) (m := 4) (listed' := #[true, true, true, true, true, true, true, false, false, false, false]) rfl (by kernel_rfl) (by kernel_rfl) (by kernel_rfl) rfl (by kernel_rfl) rfl (St.del 0 S249) rfl (wn rfl) rfl rfl (fun _ Sx256 => (y_load rfl rfl (r_load_agg (cs := Ls.cells x237) Try.underlying141 rfl inf141 rfl (Rd.rg2 (St.rd 7 Sx256 rfl) (fun _ _ h => fm_get (enc := Ls.cells) (sz := 4) (fun _ => rfl) hx238 h))))) ?_
          refine wG_one (m := 3) (r := 7) (by kernel_rfl) ?_
          refine wH_new (i := 7) (listed' := #[true, true, true, true, true, true, true, true, false, false, false]) rfl rfl (V := fun b => .slice (some ⟨b, 0, none⟩) 1 1) (row := #[.int .i64 x237.hep, .int .i64 x237.hno, .int .i64 x237.msg.no, .int .i64 x237.msg.body]) (t := 141) S249 (wn rfl) rfl rfl (d_buildSlice (vs := [(0, .agg #[.int .i64 x237.hep, .int .i64 x237.hno, .int .i64 x237.msg.no, .int .i64 x237.msg.body])]) rfl ⟨rfl, rfl, trivial⟩ (by kernel_rfl)) ?_; intro b257 w258 S259; clear S249
          refine ⟨(St.del 0 (St.del 1 S259)), ?_⟩
          refine wG_one (m := 2) (r := 8) (by kernel_rfl) ?_
          refine wH_append (i := 8) (listed' := #[true, true, true, true, true, true, true, true, true, false, false]) rfl rfl (news := [.int .i64 x237.hep, .int .i64 x237.hno, .int .i64 x237.msg.no, .int .i64 x237.msg.body]) (xs' := ((ls.take (j + 1)).filter fun x => decide (x.hno ≠ hn)).flatMap Ls.cells) 1 S259 (wn rfl) rfl rfl rfl rfl rfl rfl (St.bld (xs := [.int .i64 x237.hep, .int .i64 x237.hno, .int .i64 x237.msg.no, .int .i64 x237.msg.body]) 0 S259 rfl rfl rfl) Try.underlying23 infz141 rfl (by decide) (oneAll rfl) (by simp only [maxLen]; omega) (by omega) (fm_snoc (enc := Ls.cells) (filt_step hx238 (decide_eq_true hne)) rfl) ?_; intro A260 c261 w262 hc264 hm265 S263; clear S259
          change St _ _ _ [_, .own 141 4 (.slice A260 (n + 1) c261) (n + 1) (((ls.take (j + 1)).filter fun x => decide (x.hno ≠ hn)).flatMap Ls.cells), _, _, _, _, _, _, _, _] at S263
          refine ⟨(St.del 0 (St.del 1 S263)), ?_⟩
          refine wG_tail (by kernel_rfl) rfl rfl rfl ?_
          refine wL_val (v := .pointer (some ⟨b26, 4, none⟩)) (wn rfl) rfl rfl (y_fieldAddr rfl rfl (fa29_4 _ _ _)) ?_
          refine wL_st (cs := #[.slice A260 (n + 1) c261]) (row' := qRow ep nx gv (.slice A19 rs.length c20) (.slice A260 (n + 1) c261) W) (fs' := [_, _, .blk b26 (qRow ep nx gv (.slice A19 rs.length c20) (.slice A260 (n + 1) c261) W) 29, _, _, _, _, _, _, _]) 2 S263 (wn rfl) rfl rfl rfl rfl rfl rfl inf23 rfl (oneAll rfl) (Nat.le_of_ble_eq_true rfl) qRow_s4 rfl ?_; intro w266 S267; clear S263
          refine wL_nil (wQ_np ?_)
          refine wQ_sub (l' := [(2, _), (3, _), (4, _), (5, _), (6, _), (7, _), (9, _), (16, _)]) ⟨rfl, rfl, rfl, rfl, rfl, rfl, rfl, rfl, trivial⟩ (wQ_blk_n (wQ_then (wC_region (wL_val (wn rfl) rfl rfl (y_move rfl rfl) ?_))))
          refine wL_val (v := .int .i64 ((j + 1 : Nat) : Int)) (wn rfl) rfl rfl (y_binop rfl rfl rfl (r_add (by omega) (by omega))) ?_
          refine wL_val (wn rfl) rfl rfl (y_assign rfl rfl) ?_
          refine wL_nil (wQ_sub (l' := [(2, _), (3, _), (4, _), (5, _), (6, _), (7, _), (9, _), (16, _)]) ⟨rfl, rfl, rfl, rfl, rfl, rfl, rfl, rfl, trivial⟩ ?_)
          have S268 : St w.heap.size w w266 [_, _, _, _, _, _, _, _, _] := (St.del 0 S267); clear S267
          refine wQ_round (j + 1, A260, c261, n + 1) ?_ ⟨rfl, rfl, rfl, rfl, rfl, rfl, rfl, rfl, trivial⟩ (by first | omega | (dsimp only; omega))
          exact ⟨(by dsimp only; omega), (by dsimp only; rw [hi230, ← filt_step (f := fun x : Ls => decide (x.hno ≠ hn)) hx238 (decide_eq_true hne)]; simp), S268⟩
         ·refine wU_val (v := .bool false) (wn rfl) rfl rfl (fun _ _ => (y_binop rfl rfl rfl (r_neq_f (by omega)))) ?_
          refine wU_nil fun w270 S271 => ?_; clear S228
          refine wQ_sub (l' := [(2, _), (3, _), (4, _), (5, _), (6, _), (7, _), (9, _), (16, _), (184, _)]) ⟨rfl, rfl, rfl, rfl, rfl, rfl, rfl, rfl, rfl, trivial⟩ (wQ_then (wC_cond_f rfl (wC_skip (wQ_blk_n (wQ_then (wC_region (wL_val (wn rfl) rfl rfl (y_move rfl rfl) ?_)))))))
          refine wL_val (v := .int .i64 ((j + 1 : Nat) : Int)) (wn rfl) rfl rfl (y_binop rfl rfl rfl (r_add (by omega) (by omega))) ?_
          refine wL_val (wn rfl) rfl rfl (y_assign rfl rfl) ?_
          refine wL_nil (wQ_sub (l' := [(2, _), (3, _), (4, _), (5, _), (6, _), (7, _), (9, _), (16, _)]) ⟨rfl, rfl, rfl, rfl, rfl, rfl, rfl, rfl, trivial⟩ ?_)
          have S272 := S271; clear S271
          rw [filt_skip (f := fun x : Ls => decide (x.hno ≠ hn)) hx238 (decide_eq_false hne)] at S272
          refine wQ_round (j + 1, Ab, cb, n) ?_ ⟨rfl, rfl, rfl, rfl, rfl, rfl, rfl, rfl, trivial⟩ (by first | omega | (dsimp only; omega))
          exact ⟨(by dsimp only; omega), (by dsimp only; rw [hi230, filt_skip (f := fun x : Ls => decide (x.hno ≠ hn)) hx238 (decide_eq_false hne)]), S272⟩
        ·refine wL_val (v := .bool false) (wn rfl) rfl rfl (y_binop rfl rfl rfl (r_lss_f h231)) ?_
         refine wL_nil (wQ_sub (l' := [(2, _), (3, _), (4, _), (5, _), (6, _), (7, _), (9, _), (16, _), (171, _)]) ⟨rfl, rfl, rfl, rfl, rfl, rfl, rfl, rfl, rfl, trivial⟩ (wQ_then (wC_cond_f rfl (wC_exit (wQ_then_exit (wQ_then_exit (wQ_blk_same (wQ_then (wC_seq (wC_seq (wC_region ?_)))))))))))
         obtain rfl : j = ls.length := by omega
         have S273 := S228; clear S228
         have hnn : n = (ls.filter fun x => decide (x.hno ≠ hn)).length := by have := hi230; rw [List.take_length] at this; exact this
         rw [List.take_length] at S273
         have hnl := List.length_filter_le (fun x : Ls => decide (x.hno ≠ hn)) ls
         change St _ _ _ [.own 141 4 (.slice Ab n cb) n ((ls.filter fun x => decide (x.hno ≠ hn)).flatMap Ls.cells), .blk b26 (qRow ep nx gv (.slice A19 rs.length c20) (.slice Ab n cb) W) 29, .own 137 2 (.slice A19 rs.length c20) rs.length ((rs).flatMap Msg.cells), .blk b10 #[.int .i64 0, .int .i64 0, .int .i64 0, .int .i64 0] 93, .blk b7 (qRow 0 0 0 (.slice none 0 0) (.slice none 0 0) zeroWs) 29, .blk b4 #[.int .i64 3, .int .i64 ((k : Nat) : Int), .int .i64 id, .int .i64 bd, .int .i64 he, .int .i64 hn] 37, .blk b1 (qRow ep nx gv (.slice A1 rs.length c1) (.slice A2 ls.length c2) W) 29, .rd 2 A1 rs.length ((rs).flatMap Msg.cells), .rd 4 A2 ls.length ((ls).flatMap Ls.cells)] at S273
         refine wL_val (v := .pointer (some ⟨b26, 4, none⟩)) (wn rfl) rfl rfl (y_fieldAddr rfl rfl (fa29_4 _ _ _)) ?_
         refine wL_val (wn rfl) rfl rfl (y_load rfl rfl (r_load Try.underlying23 rfl (St.cl 1 S273 rfl qRow_g4))) ?_
         refine wL_val (v := .int .i64 ((n : Nat) : Int)) (wn rfl) rfl rfl (y_builtin (vs := [.slice Ab n cb]) rfl ⟨rfl, trivial⟩ fun _ => r_len rfl Try.underlying23) ?_
         refine wL_val (v := .pointer (some ⟨b1, 4, none⟩)) (wn rfl) rfl rfl (y_fieldAddr rfl rfl (fa29_4 _ _ _)) ?_
         refine wL_val (wn rfl) rfl rfl (y_load rfl rfl (r_load Try.underlying23 rfl (St.cl 6 S273 rfl qRow_g4))) ?_
         refine wL_val (v := .int .i64 ((ls.length : Nat) : Int)) (wn rfl) rfl rfl (y_builtin (vs := [.slice A2 ls.length c2]) rfl ⟨rfl, trivial⟩ fun _ => r_len rfl Try.underlying23) ?_
         by_cases h3 : (ls.filter fun x => decide (x.hno ≠ hn)).length = ls.length
         ·refine wL_val (v := .bool true) (wn rfl) rfl rfl (y_binop rfl rfl rfl (r_eql_t (by omega))) ?_
          refine wL_nil (wQ_sub (l' := [(4, _), (5, _), (6, _), (7, _), (9, _), (201, _)]) ⟨rfl, rfl, rfl, rfl, rfl, rfl, trivial⟩ (wQ_then (wC_cond_t rfl (wC_seq (wC_region (wL_val (wn rfl) rfl rfl (y_load rfl rfl (r_load_row 1 S273 rfl Try.underlying29 rfl inf29 rfl)) ?_))))))
          refine wL_val (v := .agg #[.int .i64 7, .int .i64 0, .int .i64 0, .int .i64 0]) (wn rfl) rfl rfl (y_build (vs := [(0, .int .i64 7)]) rfl ⟨rfl, rfl, trivial⟩ (by kernel_rfl)) ?_
          refine wL_st (fs' := [_, _, _, _, _, _, _, _, _]) 4 S273 (wn rfl) rfl rfl rfl rfl rfl rfl inf29 rfl (qRow_one rfl rfl) (Nat.le_of_ble_eq_true rfl) (setAll_all rfl) rfl ?_; intro w274 S275; clear S273
          refine wL_st (fs' := [_, _, _, _, _, _, _, _, _]) 3 S275 (wn rfl) rfl rfl rfl rfl rfl rfl inf93 rfl (oneAll rfl) (Nat.le_of_ble_eq_true rfl) (setAll_all rfl) rfl ?_; intro w276 S277; clear S275
          refine wL_val (wn rfl) rfl rfl (y_assign rfl rfl) ?_
          refine wL_val (wn rfl) rfl rfl (y_assign rfl rfl) ?_
          refine wL_nil (wQ_sub (l' := [(4, _), (5, _), (6, _), (7, _)]) ⟨rfl, rfl, rfl, rfl, trivial⟩ (wQ_then (wC_ret (wQ_then_ret (wQ_then_ret (wQ_post (rs := [.cell 4 29, .cell 5 93, .tmp 6, .tmp 7]) (vs := [.agg (qRow ep nx gv (.slice A19 rs.length c20) (.slice Ab n cb) W), .agg #[.int .i64 7, .int .i64 0, .int .i64 0, .int .i64 0], .bool false, .int .i64 0]) rfl ⟨⟨_, rfl, res_row 4 S277 rfl Try.underlying29 rfl inf29⟩, ⟨_, rfl, res_row 3 S277 rfl Try.underlying93 rfl inf93⟩, rfl, rfl, trivial⟩ ?_))))))
          have hself : (ls.filter fun x => decide (x.hno ≠ hn)) = ls := List.length_filter_eq_length_iff.1 h3 |> fun h => List.filter_eq_self.2 h
          obtain rfl : n = ls.length := by omega
          rw [hself] at S277
          change St _ _ _ [.own 141 4 (.slice Ab ls.length cb) ls.length ((ls).flatMap Ls.cells), .blk b26 (qRow ep nx gv (.slice A19 rs.length c20) (.slice Ab ls.length cb) W) 29, .own 137 2 (.slice A19 rs.length c20) rs.length ((rs).flatMap Msg.cells), .blk b10 #[.int .i64 7, .int .i64 0, .int .i64 0, .int .i64 0] 93, .blk b7 (qRow ep nx gv (.slice A19 rs.length c20) (.slice Ab ls.length cb) W) 29, .blk b4 #[.int .i64 3, .int .i64 ((k : Nat) : Int), .int .i64 id, .int .i64 bd, .int .i64 he, .int .i64 hn] 37, .blk b1 (qRow ep nx gv (.slice A1 rs.length c1) (.slice A2 ls.length c2) W) 29, .rd 2 A1 rs.length ((rs).flatMap Msg.cells), .rd 4 A2 ls.length ((ls).flatMap Ls.cells)] at S277
          have S279 : St w.heap.size w w276 [_, _] := (St.del 1 (St.del 3 (St.del 4 (St.del 5 (St.del 6 (St.del 7 (St.del 8 S277))))))); clear S277
          have S280 : St w.heap.size w w276 [.own 137 2 (.slice A19 rs.length c20) rs.length ((rs).flatMap Msg.cells), .own 141 4 (.slice Ab ls.length cb) ls.length ((ls).flatMap Ls.cells)] := S279.re [1, 0] (by decide); clear S279
          have S281 := S280.sealAll 0 rfl; clear S280
          change St _ _ _ [.rdo 2 A19 rs.length ((rs).flatMap Msg.cells), _] at S281
          have S282 := S281.sealAll 1 rfl; clear S281
          change St _ _ _ [_, .rdo 4 Ab ls.length ((ls).flatMap Ls.cells)] at S282
          rw [do_ok (Q := ⟨ep, nx, gv, rs, ls, W⟩) h0 h1, show stepM ⟨ep, nx, gv, rs, ls, W⟩ ⟨3, ((k : Nat) : Int), id, bd, he, hn⟩ = ackM ⟨ep, nx, gv, rs, ls, W⟩ he hn from by simp [stepM], ack_none h2 h3]
          refine ⟨A19, c20, Ab, cb, ?_, ?_⟩
          · dsimp only; rfl
          · dsimp only; exact S282
         ·refine wL_val (v := .bool false) (wn rfl) rfl rfl (y_binop rfl rfl rfl (r_eql_f (by omega))) ?_
          refine wL_nil (wQ_sub (l' := [(4, _), (5, _), (6, _), (7, _), (9, _), (201, _)]) ⟨rfl, rfl, rfl, rfl, rfl, rfl, trivial⟩ (wQ_then (wC_cond_f rfl (wC_skip (wQ_then (wC_seq (wC_region (wL_val (wn rfl) rfl rfl (y_load rfl rfl (r_load_row 1 S273 rfl Try.underlying29 rfl inf29 rfl)) ?_))))))))
          refine wL_val (v := .agg #[.int .i64 0, .int .i64 0, .int .i64 0, .int .i64 0]) (wn rfl) rfl rfl (y_build (vs := []) rfl trivial (by kernel_rfl)) ?_
          refine wL_st (fs' := [_, _, _, _, _, _, _, _, _]) 4 S273 (wn rfl) rfl rfl rfl rfl rfl rfl inf29 rfl (qRow_one rfl rfl) (Nat.le_of_ble_eq_true rfl) (setAll_all rfl) rfl ?_; intro w283 S284; clear S273
          refine wL_st (fs' := [_, _, _, _, _, _, _, _, _]) 3 S284 (wn rfl) rfl rfl rfl rfl rfl rfl inf93 rfl (oneAll rfl) (Nat.le_of_ble_eq_true rfl) (setAll_all rfl) rfl ?_; intro w285 S286; clear S284
          refine wL_val (wn rfl) rfl rfl (y_assign rfl rfl) ?_
          refine wL_val (wn rfl) rfl rfl (y_assign rfl rfl) ?_
          refine wL_nil (wQ_sub (l' := [(4, _), (5, _), (6, _), (7, _)]) ⟨rfl, rfl, rfl, rfl, trivial⟩ (wQ_then (wC_ret (wQ_then_ret (wQ_post (rs := [.cell 4 29, .cell 5 93, .tmp 6, .tmp 7]) (vs := [.agg (qRow ep nx gv (.slice A19 rs.length c20) (.slice Ab n cb) W), .agg #[.int .i64 0, .int .i64 0, .int .i64 0, .int .i64 0], .bool true, .int .i64 0]) rfl ⟨⟨_, rfl, res_row 4 S286 rfl Try.underlying29 rfl inf29⟩, ⟨_, rfl, res_row 3 S286 rfl Try.underlying93 rfl inf93⟩, rfl, rfl, trivial⟩ ?_)))))
          subst hnn
          have S288 : St w.heap.size w w285 [_, _] := (St.del 1 (St.del 3 (St.del 4 (St.del 5 (St.del 6 (St.del 7 (St.del 8 S286))))))); clear S286
          have S289 : St w.heap.size w w285 [.own 137 2 (.slice A19 rs.length c20) rs.length ((rs).flatMap Msg.cells), .own 141 4 (.slice Ab ((ls.filter fun x => decide (x.hno ≠ hn)).length) cb) ((ls.filter fun x => decide (x.hno ≠ hn)).length) ((ls.filter fun x => decide (x.hno ≠ hn)).flatMap Ls.cells)] := S288.re [1, 0] (by decide); clear S288
          have S290 := S289.sealAll 0 rfl; clear S289
          change St _ _ _ [.rdo 2 A19 rs.length ((rs).flatMap Msg.cells), _] at S290
          have S291 := S290.sealAll 1 rfl; clear S290
          change St _ _ _ [_, .rdo 4 Ab ((ls.filter fun x => decide (x.hno ≠ hn)).length) ((ls.filter fun x => decide (x.hno ≠ hn)).flatMap Ls.cells)] at S291
          rw [do_ok (Q := ⟨ep, nx, gv, rs, ls, W⟩) h0 h1, show stepM ⟨ep, nx, gv, rs, ls, W⟩ ⟨3, ((k : Nat) : Int), id, bd, he, hn⟩ = ackM ⟨ep, nx, gv, rs, ls, W⟩ he hn from by simp [stepM], ack_ok h2 h3]
          refine ⟨A19, c20, Ab, cb, ?_, ?_⟩
          · dsimp only; rfl
          · dsimp only; exact S291
      ·refine wL_val (v := .bool true) (wn rfl) rfl rfl (y_binop rfl rfl rfl (r_neq_t h2)) ?_
       refine wL_nil (wQ_sub (l' := [(2, _), (3, _), (4, _), (5, _), (6, _), (7, _), (9, _), (163, _)]) ⟨rfl, rfl, rfl, rfl, rfl, rfl, rfl, rfl, trivial⟩ (wQ_then (wC_cond_t rfl (wC_seq (wC_region (wL_val (wn rfl) rfl rfl (y_load rfl rfl (r_load_row 0 S30 rfl Try.underlying29 rfl inf29 rfl)) ?_))))))
       refine wL_val (v := .agg #[.int .i64 11, .int .i64 0, .int .i64 0, .int .i64 0]) (wn rfl) rfl rfl (y_build (vs := [(0, .int .i64 11)]) rfl ⟨rfl, rfl, trivial⟩ (by kernel_rfl)) ?_
       refine wL_st (fs' := [_, _, _, _, _, _, _, _, _]) 4 S30 (wn rfl) rfl rfl rfl rfl rfl rfl inf29 rfl (qRow_one rfl rfl) (Nat.le_of_ble_eq_true rfl) (setAll_all rfl) rfl ?_; intro w292 S293; clear S30
       refine wL_st (fs' := [_, _, _, _, _, _, _, _, _]) 3 S293 (wn rfl) rfl rfl rfl rfl rfl rfl inf93 rfl (oneAll rfl) (Nat.le_of_ble_eq_true rfl) (setAll_all rfl) rfl ?_; intro w294 S295; clear S293
       refine wL_val (wn rfl) rfl rfl (y_assign rfl rfl) ?_
       refine wL_val (wn rfl) rfl rfl (y_assign rfl rfl) ?_
       refine wL_nil (wQ_sub (l' := [(4, _), (5, _), (6, _), (7, _)]) ⟨rfl, rfl, rfl, rfl, trivial⟩ (wQ_then (wC_ret (wQ_then_ret (wQ_then_ret (wQ_post (rs := [.cell 4 29, .cell 5 93, .tmp 6, .tmp 7]) (vs := [.agg (qRow ep nx gv (.slice A19 rs.length c20) (.slice A21 ls.length c22) W), .agg #[.int .i64 11, .int .i64 0, .int .i64 0, .int .i64 0], .bool false, .int .i64 0]) rfl ⟨⟨_, rfl, res_row 4 S295 rfl Try.underlying29 rfl inf29⟩, ⟨_, rfl, res_row 3 S295 rfl Try.underlying93 rfl inf93⟩, rfl, rfl, trivial⟩ ?_))))))
       have S296 : St w.heap.size w w294 [_, _] := (St.del 0 (St.del 3 (St.del 4 (St.del 5 (St.del 6 (St.del 7 (St.del 8 S295))))))); clear S295
       have S297 : St w.heap.size w w294 [.own 137 2 (.slice A19 rs.length c20) rs.length ((rs).flatMap Msg.cells), .own 141 4 (.slice A21 ls.length c22) ls.length ((ls).flatMap Ls.cells)] := S296.re [1, 0] (by decide); clear S296
       have S298 := S297.sealAll 0 rfl; clear S297
       change St _ _ _ [.rdo 2 A19 rs.length ((rs).flatMap Msg.cells), _] at S298
       have S299 := S298.sealAll 1 rfl; clear S298
       change St _ _ _ [_, .rdo 4 A21 ls.length ((ls).flatMap Ls.cells)] at S299
       rw [do_ok (Q := ⟨ep, nx, gv, rs, ls, W⟩) h0 h1, show stepM ⟨ep, nx, gv, rs, ls, W⟩ ⟨3, ((k : Nat) : Int), id, bd, he, hn⟩ = ackM ⟨ep, nx, gv, rs, ls, W⟩ he hn from by simp [stepM], ack_stale h2]
       refine ⟨A19, c20, A21, c22, ?_, ?_⟩
       · dsimp only; rfl
       · dsimp only; exact S299
     ·obtain rfl : kd = 4 := by omega
      refine wL_val (v := .bool false) (wn rfl) rfl rfl (y_binop rfl rfl rfl (r_eql_f (by decide))) ?_
      refine wL_nil (wQ_sub (l' := [(2, _), (3, _), (4, _), (5, _), (6, _), (7, _), (9, _), (157, _)]) ⟨rfl, rfl, rfl, rfl, rfl, rfl, rfl, rfl, trivial⟩ (wQ_then (wC_cond_f rfl (wC_skip (wQ_then (wC_seq (wC_seq (wC_region (wL_val (v := .pointer (some ⟨b1, 0, none⟩)) (wn rfl) rfl rfl (y_fieldAddr rfl rfl (fa29_0 _ _ _)) ?_)))))))))
      refine wL_val (wn rfl) rfl rfl (y_load rfl rfl (r_load Try.underlying3 rfl (St.cl 6 S30 rfl qRow_g0))) ?_
      by_cases h2 : ep = 1048576
      ·refine wL_val (v := .bool true) (wn rfl) rfl rfl (y_binop rfl rfl rfl (r_eql_t h2)) ?_
       refine wL_nil (wQ_sub (l' := [(2, _), (4, _), (5, _), (6, _), (7, _), (9, _), (208, _)]) ⟨rfl, rfl, rfl, rfl, rfl, rfl, rfl, trivial⟩ (wQ_then (wC_cond_t rfl (wC_seq (wC_region (wL_val (wn rfl) rfl rfl (y_load rfl rfl (r_load_row 0 S30 rfl Try.underlying29 rfl inf29 rfl)) ?_))))))
       refine wL_val (v := .agg #[.int .i64 14, .int .i64 0, .int .i64 0, .int .i64 0]) (wn rfl) rfl rfl (y_build (vs := [(0, .int .i64 14)]) rfl ⟨rfl, rfl, trivial⟩ (by kernel_rfl)) ?_
       refine wL_st (fs' := [_, _, _, _, _, _, _, _, _]) 4 S30 (wn rfl) rfl rfl rfl rfl rfl rfl inf29 rfl (qRow_one rfl rfl) (Nat.le_of_ble_eq_true rfl) (setAll_all rfl) rfl ?_; intro w300 S301; clear S30
       refine wL_st (fs' := [_, _, _, _, _, _, _, _, _]) 3 S301 (wn rfl) rfl rfl rfl rfl rfl rfl inf93 rfl (oneAll rfl) (Nat.le_of_ble_eq_true rfl) (setAll_all rfl) rfl ?_; intro w302 S303; clear S301
       refine wL_val (wn rfl) rfl rfl (y_assign rfl rfl) ?_
       refine wL_val (wn rfl) rfl rfl (y_assign rfl rfl) ?_
       refine wL_nil (wQ_sub (l' := [(4, _), (5, _), (6, _), (7, _)]) ⟨rfl, rfl, rfl, rfl, trivial⟩ (wQ_then (wC_ret (wQ_then_ret (wQ_post (rs := [.cell 4 29, .cell 5 93, .tmp 6, .tmp 7]) (vs := [.agg (qRow ep nx gv (.slice A19 rs.length c20) (.slice A21 ls.length c22) W), .agg #[.int .i64 14, .int .i64 0, .int .i64 0, .int .i64 0], .bool false, .int .i64 0]) rfl ⟨⟨_, rfl, res_row 4 S303 rfl Try.underlying29 rfl inf29⟩, ⟨_, rfl, res_row 3 S303 rfl Try.underlying93 rfl inf93⟩, rfl, rfl, trivial⟩ ?_)))))
       have S304 : St w.heap.size w w302 [_, _] := (St.del 0 (St.del 3 (St.del 4 (St.del 5 (St.del 6 (St.del 7 (St.del 8 S303))))))); clear S303
       have S305 : St w.heap.size w w302 [.own 137 2 (.slice A19 rs.length c20) rs.length ((rs).flatMap Msg.cells), .own 141 4 (.slice A21 ls.length c22) ls.length ((ls).flatMap Ls.cells)] := S304.re [1, 0] (by decide); clear S304
       have S306 := S305.sealAll 0 rfl; clear S305
       change St _ _ _ [.rdo 2 A19 rs.length ((rs).flatMap Msg.cells), _] at S306
       have S307 := S306.sealAll 1 rfl; clear S306
       change St _ _ _ [_, .rdo 4 A21 ls.length ((ls).flatMap Ls.cells)] at S307
       rw [do_ok (Q := ⟨ep, nx, gv, rs, ls, W⟩) h0 h1, show stepM ⟨ep, nx, gv, rs, ls, W⟩ ⟨4, ((k : Nat) : Int), id, bd, he, hn⟩ = endM ⟨ep, nx, gv, rs, ls, W⟩ from by simp [stepM], end_full h2]
       refine ⟨A19, c20, A21, c22, ?_, ?_⟩
       · dsimp only; rfl
       · dsimp only; exact S307
      ·refine wL_val (v := .bool false) (wn rfl) rfl rfl (y_binop rfl rfl rfl (r_eql_f h2)) ?_
       refine wL_nil (wQ_sub (l' := [(2, _), (4, _), (5, _), (6, _), (7, _), (9, _), (208, _)]) ⟨rfl, rfl, rfl, rfl, rfl, rfl, rfl, trivial⟩ (wQ_then (wC_cond_f rfl (wC_skip (wQ_then (wC_seq (wC_seq (wC_region (wL_val (wn rfl) rfl rfl (y_assign rfl rfl) ?_)))))))))
       refine wL_nil (wQ_sub (l' := [(2, _), (4, _), (5, _), (6, _), (7, _), (9, _), (17, _)]) ⟨rfl, rfl, rfl, rfl, rfl, rfl, rfl, trivial⟩ (wQ_then (wC_block (wC_loop (X := Nat × (Option Addr) × Nat) (fun xv => [(2, .pointer (some ⟨b1, 0, none⟩)), (4, .pointer (some ⟨b7, 0, none⟩)), (5, .pointer (some ⟨b10, 0, none⟩)), (6, .bool false), (7, .int .i64 0), (9, .pointer (some ⟨b26, 0, none⟩)), (17, .int .i64 ((xv.1 : Nat) : Int))]) (fun xv wr => (xv.1 ≤ ls.length) ∧ St w.heap.size w wr [.blk b26 (qRow ep nx gv (.slice xv.2.1 (rs.length + xv.1) xv.2.2) (.slice A21 ls.length c22) W) 29, .own 141 4 (.slice A21 ls.length c22) ls.length ((ls).flatMap Ls.cells), .own 137 2 (.slice xv.2.1 (rs.length + xv.1) xv.2.2) (rs.length + xv.1) (((ls.take xv.1).foldl (fun l x => putMsg x.msg l) rs).flatMap Msg.cells), .blk b10 #[.int .i64 0, .int .i64 0, .int .i64 0, .int .i64 0] 93, .blk b7 (qRow 0 0 0 (.slice none 0 0) (.slice none 0 0) zeroWs) 29, .blk b4 #[.int .i64 4, .int .i64 ((k : Nat) : Int), .int .i64 id, .int .i64 bd, .int .i64 he, .int .i64 hn] 37, .blk b1 (qRow ep nx gv (.slice A1 rs.length c1) (.slice A2 ls.length c2) W) 29, .rd 2 A1 rs.length ((rs).flatMap Msg.cells), .rd 4 A2 ls.length ((ls).flatMap Ls.cells)]) (fun xv => ls.length - xv.1) (0, A19, c20) ?_ ?_ ?_))))
       ·exact ⟨Nat.zero_le _, by dsimp only; exact S30⟩
       ·exact ⟨rfl, rfl, rfl, rfl, rfl, rfl, rfl, trivial⟩
       ·rintro ⟨j, Ab, cb⟩ w308 ⟨hi310, S309⟩
        try dsimp only at hi310 S309; clear S30
        refine wC_sub (l' := [(2, .pointer (some ⟨b1, 0, none⟩)), (4, .pointer (some ⟨b7, 0, none⟩)), (5, .pointer (some ⟨b10, 0, none⟩)), (6, .bool false), (7, .int .i64 0), (9, .pointer (some ⟨b26, 0, none⟩)), (17, .int .i64 ((j : Nat) : Int))]) ⟨rfl, rfl, rfl, rfl, rfl, rfl, rfl, trivial⟩ (wC_seq (wC_seq (wC_region (wL_val (wn rfl) rfl rfl (y_move rfl rfl) ?_))))
        refine wL_val (v := .pointer (some ⟨b1, 4, none⟩)) (wn rfl) rfl rfl (y_fieldAddr rfl rfl (fa29_4 _ _ _)) ?_
        refine wL_val (wn rfl) rfl rfl (y_load rfl rfl (r_load Try.underlying23 rfl (St.cl 6 S309 rfl qRow_g4))) ?_
        refine wL_val (v := .int .i64 ((ls.length : Nat) : Int)) (wn rfl) rfl rfl (y_builtin (vs := [.slice A2 ls.length c2]) rfl ⟨rfl, trivial⟩ fun _ => r_len rfl Try.underlying23) ?_
        by_cases h311 : ((j : Nat) : Int) < ((ls.length : Nat) : Int)
        ·refine wL_val (v := .bool true) (wn rfl) rfl rfl (y_binop rfl rfl rfl (r_lss_t h311)) ?_
         refine wL_nil (wQ_sub (l' := [(2, _), (4, _), (5, _), (6, _), (7, _), (9, _), (17, _), (215, _)]) ⟨rfl, rfl, rfl, rfl, rfl, rfl, rfl, rfl, trivial⟩ (wQ_then (wC_cond_t rfl (wC_skip (wQ_then (wC_seq (wC_block ?_)))))))
         have S312 := S309.drew; clear S309
         refine wC_head (C := fun w' => St w.heap.size w w' [.blk b10 #[.int .i64 0, .int .i64 0, .int .i64 0, .int .i64 0] 93, .blk b7 (qRow 0 0 0 (.slice none 0 0) (.slice none 0 0) zeroWs) 29, .blk b4 #[.int .i64 4, .int .i64 ((k : Nat) : Int), .int .i64 id, .int .i64 bd, .int .i64 he, .int .i64 hn] 37, .blk b1 (qRow ep nx gv (.slice A1 rs.length c1) (.slice A2 ls.length c2) W) 29, .rd 2 A1 rs.length ((rs).flatMap Msg.cells), .rd 4 A2 ls.length ((ls).flatMap Ls.cells)]) (m := 11) (listed := #[false, false, false, false, false, false, false, false, false, false, false]) 9 mixed rfl rfl ?_
         refine wG_take (v := .pointer (some ⟨b26, 3, none⟩)) (i := 0) (m := 10) (listed' := #[true, false, false, false, false, false, false, false, false, false, false]) rfl (by kernel_rfl) (by kernel_rfl) (by kernel_rfl) rfl (by kernel_rfl) rfl (St.del 0 (St.del 1 (St.del 2 S312))) rfl (wn rfl) rfl rfl (fun _ _ => (y_fieldAddr rfl rfl (fa29_3 _ _ _))) ?_
         refine wG_take (v := .pointer (some ⟨b1, 4, none⟩)) (i := 2) (m := 9) (listed' := #[true, false, true, false, false, false, false, false, false, false, false]) rfl (by kernel_rfl) (by kernel_rfl) (by kernel_rfl) rfl (by kernel_rfl) rfl (St.del 0 (St.del 1 (St.del 2 S312))) rfl (wn rfl) rfl rfl (fun _ _ => (y_fieldAddr rfl rfl (fa29_4 _ _ _))) ?_
         refine wG_take (v := .slice A2 ls.length c2) (i := 3) (m := 8) (listed' := #[true, false, true, true, false, false, false, false, false, false, false]) rfl (by kernel_rfl) (by kernel_rfl) (by kernel_rfl) rfl (by kernel_rfl) rfl (St.del 0 (St.del 1 (St.del 2 S312))) rfl (wn rfl) rfl rfl (fun _ Sx315 => (y_load rfl rfl (r_load Try.underlying23 rfl (St.cl 3 Sx315 rfl qRow_g4)))) ?_
         refine wG_take (v := .int .i64 ((j : Nat) : Int)) (i := 4) (m := 7) (listed' := #[true, false, true, true, true, false, false, false, false, false, false]) rfl (by kernel_rfl) (by kernel_rfl) (by kernel_rfl) rfl (by kernel_rfl) rfl (St.del 0 (St.del 1 (St.del 2 S312))) rfl (wn rfl) rfl rfl (fun _ _ => (y_move rfl rfl)) ?_
         obtain ⟨b317, o318, rfl⟩ := Rd.addr (St.rd 8 S312 rfl) (by omega)
         obtain ⟨x319, hx320⟩ : ∃ x, (ls)[j]? = some x := ⟨_, List.getElem?_eq_getElem (by have := (St.rd 8 S312 rfl).1; rw [fm_len (sz := 4) (fun _ => rfl)] at this; omega)⟩
         refine wG_take (v := .pointer (some ⟨b317, o318 + j * 4, none⟩)) (i := 5) (m := 6) (listed' := #[true, false, true, true, true, true, false, false, false, false, false]) rfl (by kernel_rfl) (by kernel_rfl) (by kernel_rfl) rfl (by kernel_rfl) rfl (St.del 0 (St.del 1 (St.del 2 S312))) rfl (wn rfl) rfl rfl (fun _ _ => (y_indexAddr rfl rfl rfl (r_indexAddr j Try.underlying23 inf141 (by omega) (by omega)))) ?_
         refine wG_take (v := .pointer (some ⟨b317, o318 + j * 4 + 2, none⟩)) (i := 6) (m := 5) (listed' := #[true, false, true, true, true, true, true, false, false, false, false]) rfl (by kernel_rfl) (by kernel_rfl) (by kernel_rfl) rfl (by kernel_rfl) rfl (St.del 0 (St.del 1 (St.del 2 S312))) rfl (wn rfl) rfl rfl (fun _ _ => (y_fieldAddr rfl rfl (fa141_1 _ _ _))) ?_
         refine wG_take (v := .agg #[.int .i64 x319.msg.no, .int .i64 x319.msg.body]) (i := 7) (m := 4) (listed' := #[true, false, true, true, true, true, true, true, false, false, false]) rfl (by kernel_rfl) (by kernel_rfl) (by kernel_rfl) rfl (by kernel_rfl) rfl (St.del 0 (St.del 1 (St.del 2 S312))) rfl (wn rfl) rfl rfl (fun _ Sx323 => (y_load rfl rfl (r_load_agg (cs := [.int .i64 x319.msg.no, .int .i64 x319.msg.body]) Try.underlying137 rfl inf137 rfl (Rd.rg3 (x := 2) (m := 2) (L := Ls.cells x319) (St.rd 5 Sx323 rfl) (fun _ _ h => fm_get (enc := Ls.cells) (sz := 4) (fun _ => rfl) hx320 h) rfl)))) ?_
         refine wG_one (m := 3) (r := 1) (by kernel_rfl) ?_
         refine wH_val (i := 1) (listed' := #[true, true, true, true, true, true, true, true, false, false, false]) rfl rfl (v := .slice Ab (rs.length + j) cb) (wn rfl) rfl rfl (y_load rfl rfl (r_load Try.underlying22 rfl (St.cl 0 S312 rfl qRow_g3))) ?_
         refine ⟨(St.del 0 (St.del 1 (St.del 2 S312))), ?_⟩
         refine wG_one (m := 2) (r := 8) (by kernel_rfl) ?_
         have hfl : ((ls.take j).foldl (fun l x => putMsg x.msg l) rs).length = rs.length + j := by rw [fold_len, List.length_take]; omega
         have HM := fun A c w (h : Rd w w.heap.size 2 A ((ls.take j).foldl (fun l x => putMsg x.msg l) rs).length (((ls.take j).foldl (fun l x => putMsg x.msg l) rs).flatMap Msg.cells)) => messageIn_calls A c ((ls.take j).foldl (fun l x => putMsg x.msg l) rs) x319.msg w h (by omega)
         rw [hfl, fold_step hx320] at HM
         refine wH_call (i := 8) (listed' := #[true, true, true, true, true, true, true, true, true, false, false]) rfl rfl (vs := [.slice Ab (rs.length + j) cb, .agg #[.int .i64 x319.msg.no, .int .i64 x319.msg.body]]) (wn rfl) rfl rfl (e_call (vs := [.slice Ab (rs.length + j) cb, .agg #[.int .i64 x319.msg.no, .int .i64 x319.msg.body]]) rfl en151 ⟨rfl, rfl, trivial⟩) (HM Ab cb _ (St.ord 2 S312 rfl)) ?_
         rintro _ w328 ⟨A324, c325, rfl, hb326, ho327⟩
         refine ⟨_, rfl, ?_⟩
         have S329 := S312.onOwn hb326 ho327; clear HM hfl hb326 ho327 S312
         change St _ _ _ [.own 137 2 (.slice A324 (rs.length + j + 1) c325) (rs.length + j + 1) (((ls.take (j + 1)).foldl (fun l x => putMsg x.msg l) rs).flatMap Msg.cells), .blk b26 (qRow ep nx gv (.slice Ab (rs.length + j) cb) (.slice A21 ls.length c22) W) 29, .own 141 4 (.slice A21 ls.length c22) ls.length ((ls).flatMap Ls.cells), .own 137 2 (.slice Ab (rs.length + j) cb) (rs.length + j) (((ls.take j).foldl (fun l x => putMsg x.msg l) rs).flatMap Msg.cells), .blk b10 #[.int .i64 0, .int .i64 0, .int .i64 0, .int .i64 0] 93, .blk b7 (qRow 0 0 0 (.slice none 0 0) (.slice none 0 0) zeroWs) 29, .blk b4 #[.int .i64 4, .int .i64 ((k : Nat) : Int), .int .i64 id, .int .i64 bd, .int .i64 he, .int .i64 hn] 37, .blk b1 (qRow ep nx gv (.slice A1 rs.length c1) (.slice (some ⟨b317, o318, none⟩) ls.length c2) W) 29, .rd 2 A1 rs.length ((rs).flatMap Msg.cells), .rd 4 (some ⟨b317, o318, none⟩) ls.length ((ls).flatMap Ls.cells)] at S329
         refine ⟨(St.del 0 (St.del 1 (St.del 2 (St.del 3 S329)))), ?_⟩
         refine wG_tail (by kernel_rfl) rfl rfl rfl ?_
         refine wL_val (v := .pointer (some ⟨b26, 3, none⟩)) (wn rfl) rfl rfl (y_fieldAddr rfl rfl (fa29_3 _ _ _)) ?_
         refine wL_st (cs := #[.slice A324 (rs.length + j + 1) c325]) (row' := qRow ep nx gv (.slice A324 (rs.length + j + 1) c325) (.slice A21 ls.length c22) W) (fs' := [_, .blk b26 (qRow ep nx gv (.slice A324 (rs.length + j + 1) c325) (.slice A21 ls.length c22) W) 29, _, _, _, _, _, _, _, _]) 1 S329 (wn rfl) rfl rfl rfl rfl rfl rfl inf22 rfl (oneAll rfl) (Nat.le_of_ble_eq_true rfl) qRow_s3 rfl ?_; intro w330 S331; clear S329
         refine wL_nil (wQ_np ?_)
         refine wQ_sub (l' := [(2, _), (4, _), (5, _), (6, _), (7, _), (9, _), (17, _)]) ⟨rfl, rfl, rfl, rfl, rfl, rfl, rfl, trivial⟩ (wQ_blk_n (wQ_then (wC_region (wL_val (wn rfl) rfl rfl (y_move rfl rfl) ?_))))
         refine wL_val (v := .int .i64 ((j + 1 : Nat) : Int)) (wn rfl) rfl rfl (y_binop rfl rfl rfl (r_add (by omega) (by omega))) ?_
         refine wL_val (wn rfl) rfl rfl (y_assign rfl rfl) ?_
         refine wL_nil (wQ_sub (l' := [(2, _), (4, _), (5, _), (6, _), (7, _), (9, _), (17, _)]) ⟨rfl, rfl, rfl, rfl, rfl, rfl, rfl, trivial⟩ ?_)
         have S332 : St w.heap.size w w330 [_, _, _, _, _, _, _, _, _] := (St.del 3 S331); clear S331
         have S333 : St w.heap.size w w330 [_, _, _, _, _, _, _, _, _] := S332.re [1, 2, 0, 3, 4, 5, 6, 7, 8] (by decide); clear S332
         refine wQ_round (j + 1, A324, c325) ?_ ⟨rfl, rfl, rfl, rfl, rfl, rfl, rfl, trivial⟩ (by first | omega | (dsimp only; omega))
         exact ⟨(by dsimp only; omega), S333⟩
        ·refine wL_val (v := .bool false) (wn rfl) rfl rfl (y_binop rfl rfl rfl (r_lss_f h311)) ?_
         refine wL_nil (wQ_sub (l' := [(2, _), (4, _), (5, _), (6, _), (7, _), (9, _), (17, _), (215, _)]) ⟨rfl, rfl, rfl, rfl, rfl, rfl, rfl, rfl, trivial⟩ (wQ_then (wC_cond_f rfl (wC_exit (wQ_then_exit (wQ_then_exit (wQ_blk_same (wQ_then (wC_seq (wC_region ?_))))))))))
         obtain rfl : j = ls.length := by omega
         have S334 := S309; clear S309
         rw [List.take_length] at S334
         change St _ _ _ [.blk b26 (qRow ep nx gv (.slice Ab (rs.length + ls.length) cb) (.slice A21 ls.length c22) W) 29, .own 141 4 (.slice A21 ls.length c22) ls.length ((ls).flatMap Ls.cells), .own 137 2 (.slice Ab (rs.length + ls.length) cb) (rs.length + ls.length) ((ls.foldl (fun l x => putMsg x.msg l) rs).flatMap Msg.cells), .blk b10 #[.int .i64 0, .int .i64 0, .int .i64 0, .int .i64 0] 93, .blk b7 (qRow 0 0 0 (.slice none 0 0) (.slice none 0 0) zeroWs) 29, .blk b4 #[.int .i64 4, .int .i64 ((k : Nat) : Int), .int .i64 id, .int .i64 bd, .int .i64 he, .int .i64 hn] 37, .blk b1 (qRow ep nx gv (.slice A1 rs.length c1) (.slice A2 ls.length c2) W) 29, .rd 2 A1 rs.length ((rs).flatMap Msg.cells), .rd 4 A2 ls.length ((ls).flatMap Ls.cells)] at S334
         refine wL_val (v := .pointer (some ⟨b26, 4, none⟩)) (wn rfl) rfl rfl (y_fieldAddr rfl rfl (fa29_4 _ _ _)) ?_
         refine wL_st (cs := #[.slice none 0 0]) (row' := qRow ep nx gv (.slice Ab (rs.length + ls.length) cb) (.slice none 0 0) W) (fs' := [.blk b26 (qRow ep nx gv (.slice Ab (rs.length + ls.length) cb) (.slice none 0 0) W) 29, _, _, _, _, _, _, _, _]) 0 S334 (wn rfl) rfl rfl rfl rfl rfl rfl inf23 rfl (oneAll rfl) (Nat.le_of_ble_eq_true rfl) qRow_s4 rfl ?_; intro w335 S336; clear S334
         refine wL_nil (wQ_sub (l' := [(2, _), (4, _), (5, _), (6, _), (7, _), (9, _)]) ⟨rfl, rfl, rfl, rfl, rfl, rfl, trivial⟩ (wQ_then (wC_seq (wC_region (wL_val (v := .pointer (some ⟨b1, 0, none⟩)) (wn rfl) rfl rfl (y_fieldAddr rfl rfl (fa29_0 _ _ _)) ?_)))))
         refine wL_val (wn rfl) rfl rfl (y_load rfl rfl (r_load Try.underlying3 rfl (St.cl 6 S336 rfl qRow_g0))) ?_
         refine wL_val (v := .int .i64 (ep + 1)) (wn rfl) rfl rfl (y_binop rfl rfl rfl (r_add (by omega) (by omega))) ?_
         refine wL_val (v := .pointer (some ⟨b26, 0, none⟩)) (wn rfl) rfl rfl (y_fieldAddr rfl rfl (fa29_0 _ _ _)) ?_
         refine wL_st (cs := #[.int .i64 (ep + 1)]) (row' := qRow (ep + 1) nx gv (.slice Ab (rs.length + ls.length) cb) (.slice none 0 0) W) (fs' := [.blk b26 (qRow (ep + 1) nx gv (.slice Ab (rs.length + ls.length) cb) (.slice none 0 0) W) 29, _, _, _, _, _, _, _, _]) 0 S336 (wn rfl) rfl rfl rfl rfl rfl rfl inf3 rfl (oneAll rfl) (Nat.le_of_ble_eq_true rfl) qRow_s0 rfl ?_; intro w337 S338; clear S336
         refine wL_nil (wQ_sub (l' := [(4, _), (5, _), (6, _), (7, _), (9, _)]) ⟨rfl, rfl, rfl, rfl, rfl, trivial⟩ (wQ_then (wC_seq (wC_region (wL_val (v := .pointer (some ⟨b26, 2, none⟩)) (wn rfl) rfl rfl (y_fieldAddr rfl rfl (fa29_2 _ _ _)) ?_)))))
         refine wL_st (cs := #[.int .i64 0]) (row' := qRow (ep + 1) nx 0 (.slice Ab (rs.length + ls.length) cb) (.slice none 0 0) W) (fs' := [.blk b26 (qRow (ep + 1) nx 0 (.slice Ab (rs.length + ls.length) cb) (.slice none 0 0) W) 29, _, _, _, _, _, _, _, _]) 0 S338 (wn rfl) rfl rfl rfl rfl rfl rfl inf3 rfl (oneAll rfl) (Nat.le_of_ble_eq_true rfl) qRow_s2 rfl ?_; intro w339 S340; clear S338
         refine wL_nil (wQ_sub (l' := [(4, _), (5, _), (6, _), (7, _), (9, _)]) ⟨rfl, rfl, rfl, rfl, rfl, trivial⟩ (wQ_then (wC_seq (wC_region (wL_val (wn rfl) rfl rfl (y_load rfl rfl (r_load_row 0 S340 rfl Try.underlying29 rfl inf29 rfl)) ?_)))))
         refine wL_val (v := .agg #[.int .i64 0, .int .i64 0, .int .i64 0, .int .i64 0]) (wn rfl) rfl rfl (y_build (vs := []) rfl trivial (by kernel_rfl)) ?_
         refine wL_st (fs' := [_, _, _, _, _, _, _, _, _]) 4 S340 (wn rfl) rfl rfl rfl rfl rfl rfl inf29 rfl (qRow_one rfl rfl) (Nat.le_of_ble_eq_true rfl) (setAll_all rfl) rfl ?_; intro w341 S342; clear S340
         refine wL_st (fs' := [_, _, _, _, _, _, _, _, _]) 3 S342 (wn rfl) rfl rfl rfl rfl rfl rfl inf93 rfl (oneAll rfl) (Nat.le_of_ble_eq_true rfl) (setAll_all rfl) rfl ?_; intro w343 S344; clear S342
         refine wL_val (wn rfl) rfl rfl (y_assign rfl rfl) ?_
         refine wL_val (wn rfl) rfl rfl (y_assign rfl rfl) ?_
         refine wL_nil (wQ_sub (l' := [(4, _), (5, _), (6, _), (7, _)]) ⟨rfl, rfl, rfl, rfl, trivial⟩ (wQ_then (wC_ret (wQ_post (rs := [.cell 4 29, .cell 5 93, .tmp 6, .tmp 7]) (vs := [.agg (qRow (ep + 1) nx 0 (.slice Ab (rs.length + ls.length) cb) (.slice none 0 0) W), .agg #[.int .i64 0, .int .i64 0, .int .i64 0, .int .i64 0], .bool true, .int .i64 0]) rfl ⟨⟨_, rfl, res_row 4 S344 rfl Try.underlying29 rfl inf29⟩, ⟨_, rfl, res_row 3 S344 rfl Try.underlying93 rfl inf93⟩, rfl, rfl, trivial⟩ ?_))))
         have S345 : St w.heap.size w w343 [_] := (St.del 0 (St.del 1 (St.del 3 (St.del 4 (St.del 5 (St.del 6 (St.del 7 (St.del 8 S344)))))))); clear S344
         have S346 : St w.heap.size w w343 (.rdo 4 none 0 ((([] : List Ls)).flatMap Ls.cells) :: [.own 137 2 (.slice Ab (rs.length + ls.length) cb) (rs.length + ls.length) ((ls.foldl (fun l x => putMsg x.msg l) rs).flatMap Msg.cells)]) := rdo_nil S345; clear S345
         have S347 : St w.heap.size w w343 [.own 137 2 (.slice Ab (rs.length + ls.length) cb) (rs.length + ls.length) ((ls.foldl (fun l x => putMsg x.msg l) rs).flatMap Msg.cells), .rdo 4 none 0 ((([] : List Ls)).flatMap Ls.cells)] := S346.re [1, 0] (by decide); clear S346
         have S348 := S347.sealAll 0 rfl; clear S347
         change St _ _ _ [.rdo 2 Ab (rs.length + ls.length) ((ls.foldl (fun l x => putMsg x.msg l) rs).flatMap Msg.cells), _] at S348
         rw [do_ok (Q := ⟨ep, nx, gv, rs, ls, W⟩) h0 h1, show stepM ⟨ep, nx, gv, rs, ls, W⟩ ⟨4, ((k : Nat) : Int), id, bd, he, hn⟩ = endM ⟨ep, nx, gv, rs, ls, W⟩ from by simp [stepM], end_ok h2]
         have hl1 := fold_len ls rs
         refine ⟨Ab, cb, none, 0, ?_, ?_⟩
         · dsimp only; rw [hl1]; rfl
         · dsimp only; rw [hl1]; exact S348
  ·refine wL_val (v := .bool true) (wn rfl) rfl rfl (y_binop rfl rfl rfl (r_neq_t h1)) ?_
   refine wL_nil (wQ_sub (l' := [(2, _), (3, _), (4, _), (5, _), (6, _), (7, _), (8, _), (28, _)]) ⟨rfl, rfl, rfl, rfl, rfl, rfl, rfl, rfl, trivial⟩ (wQ_then (wC_cond_t rfl (wC_seq (wC_region (wL_val (v := .agg (qRow 0 0 0 (.slice none 0 0) (.slice none 0 0) zeroWs)) (wn rfl) rfl rfl (y_build (vs := []) rfl trivial (by kernel_rfl)) ?_))))))
   refine wL_val (v := .agg #[.int .i64 0, .int .i64 0, .int .i64 0, .int .i64 0]) (wn rfl) rfl rfl (y_build (vs := []) rfl trivial (by kernel_rfl)) ?_
   refine wL_val (wn rfl) rfl rfl (y_move rfl rfl) ?_
   refine wL_st (fs' := [_, _, _, _, _, _]) 1 S17 (wn rfl) rfl rfl rfl rfl rfl rfl inf29 rfl (qRow_one rfl rfl) (Nat.le_of_ble_eq_true rfl) (setAll_all rfl) rfl ?_; intro w349 S350; clear S17
   refine wL_st (fs' := [_, _, _, _, _, _]) 0 S350 (wn rfl) rfl rfl rfl rfl rfl rfl inf93 rfl (oneAll rfl) (Nat.le_of_ble_eq_true rfl) (setAll_all rfl) rfl ?_; intro w351 S352; clear S350
   refine wL_val (wn rfl) rfl rfl (y_assign rfl rfl) ?_
   refine wL_val (wn rfl) rfl rfl (y_assign rfl rfl) ?_
   refine wL_nil (wQ_sub (l' := [(4, _), (5, _), (6, _), (7, _)]) ⟨rfl, rfl, rfl, rfl, trivial⟩ (wQ_then (wC_ret (wQ_then_ret (wQ_post (rs := [.cell 4 29, .cell 5 93, .tmp 6, .tmp 7]) (vs := [.agg (qRow 0 0 0 (.slice none 0 0) (.slice none 0 0) zeroWs), .agg #[.int .i64 0, .int .i64 0, .int .i64 0, .int .i64 0], .bool false, .int .i64 (evFault ⟨kd, pr, id, bd, he, hn⟩)]) rfl ⟨⟨_, rfl, res_row 1 S352 rfl Try.underlying29 rfl inf29⟩, ⟨_, rfl, res_row 0 S352 rfl Try.underlying93 rfl inf93⟩, rfl, rfl, trivial⟩ ?_)))))
   have S353 : St w.heap.size w w351 [] := (St.del 0 (St.del 1 (St.del 2 (St.del 3 (St.del 4 (St.del 5 S352)))))); clear S352
   rw [do_ef (Q := ⟨ep, nx, gv, rs, ls, W⟩) h0 h1]
   exact ⟨none, 0, none, 0, rfl, rdo_nil2 S353⟩
 ·refine wL_val (v := .bool true) (wn rfl) rfl rfl (y_binop rfl rfl rfl (r_neq_t h0)) ?_
  refine wL_nil (wQ_sub (l' := [(2, _), (3, _), (4, _), (5, _), (6, _), (7, _), (8, _), (21, _)]) ⟨rfl, rfl, rfl, rfl, rfl, rfl, rfl, rfl, trivial⟩ (wQ_then (wC_cond_t rfl (wC_seq (wC_region (wL_val (v := .agg (qRow 0 0 0 (.slice none 0 0) (.slice none 0 0) zeroWs)) (wn rfl) rfl rfl (y_build (vs := []) rfl trivial (by kernel_rfl)) ?_))))))
  refine wL_val (v := .agg #[.int .i64 0, .int .i64 0, .int .i64 0, .int .i64 0]) (wn rfl) rfl rfl (y_build (vs := []) rfl trivial (by kernel_rfl)) ?_
  refine wL_val (wn rfl) rfl rfl (y_move rfl rfl) ?_
  refine wL_st (fs' := [_, _, _, _, _, _]) 1 S14 (wn rfl) rfl rfl rfl rfl rfl rfl inf29 rfl (qRow_one rfl rfl) (Nat.le_of_ble_eq_true rfl) (setAll_all rfl) rfl ?_; intro w354 S355; clear S14
  refine wL_st (fs' := [_, _, _, _, _, _]) 0 S355 (wn rfl) rfl rfl rfl rfl rfl rfl inf93 rfl (oneAll rfl) (Nat.le_of_ble_eq_true rfl) (setAll_all rfl) rfl ?_; intro w356 S357; clear S355
  refine wL_val (wn rfl) rfl rfl (y_assign rfl rfl) ?_
  refine wL_val (wn rfl) rfl rfl (y_assign rfl rfl) ?_
  refine wL_nil (wQ_sub (l' := [(4, _), (5, _), (6, _), (7, _)]) ⟨rfl, rfl, rfl, rfl, trivial⟩ (wQ_then (wC_ret (wQ_then_ret (wQ_post (rs := [.cell 4 29, .cell 5 93, .tmp 6, .tmp 7]) (vs := [.agg (qRow 0 0 0 (.slice none 0 0) (.slice none 0 0) zeroWs), .agg #[.int .i64 0, .int .i64 0, .int .i64 0, .int .i64 0], .bool false, .int .i64 (queueFault ep nx gv rs ls W)]) rfl ⟨⟨_, rfl, res_row 1 S357 rfl Try.underlying29 rfl inf29⟩, ⟨_, rfl, res_row 0 S357 rfl Try.underlying93 rfl inf93⟩, rfl, rfl, trivial⟩ ?_)))))
  have S358 : St w.heap.size w w356 [] := (St.del 0 (St.del 1 (St.del 2 (St.del 3 (St.del 4 (St.del 5 S357)))))); clear S357
  rw [do_qf (Q := ⟨ep, nx, gv, rs, ls, W⟩) h0]
  exact ⟨none, 0, none, 0, rfl, rdo_nil2 S358⟩
end Go.Proofs.Ytkjlafpafmihaaa

