/- Parts of the proof of QueueDoes: lemmas on memory, on single functions and on the plain models; no condition of their own. -/
import Derived.Test.YtkjlafpafmihaaaQueueDoesP0
import Derived.Test.YtkjlafpafmihaaaQueueDoesP1
import Derived.Test.YtkjlafpafmihaaaQueueDoesP2

namespace Go.Proofs.Ytkjlafpafmihaaa
open Go.ChangeShapes Go.WideShapes Go.RowKit

theorem Check_below (e : Ev) (w : World) : Calls Try.prog 142 #[e.val] w (IPost w (evFault e)) := (Check_calls e w).mono fun _ _ h => ⟨h.1, h.2⟩
theorem rdo_nil2 {B : Nat} {w0 w : World} (S : St B w0 w []) : St B w0 w [.rdo 2 none 0 [], .rdo 4 none 0 []] :=
  (rdo_nil S).cons ⟨Rd.none_, fun a h => by cases h⟩ fun k hk => by cases hk

set_option maxRecDepth 100000 in
set_option maxHeartbeats 4000000 in
theorem Do_calls (ep nx gv kd pr id bd he hn : Int) (A1 A2 : Option Addr) (c1 c2 : Nat) (rs : List Msg) (ls : List Ls) (W : Wins) (w : World) (h1 : Rd w w.heap.size 2 A1 rs.length (rs.flatMap Msg.cells)) (h2 : Rd w w.heap.size 4 A2 ls.length (ls.flatMap Ls.cells)) (hb1 : rs.length * 16 ≤ reachBytes) (hb2 : ls.length * 32 ≤ reachBytes) :
    Calls Try.prog 66 #[.agg (qRow ep nx gv (.slice A1 rs.length c1) (.slice A2 ls.length c2) W), .agg #[.int .i64 kd, .int .i64 pr, .int .i64 id, .int .i64 bd, .int .i64 he, .int .i64 hn]] w (QdoPost w (doM ⟨ep, nx, gv, rs, ls, W⟩ ⟨kd, pr, id, bd, he, hn⟩)) := by
  have S := ((St.start w).addRd h2).addRd h1
  clear h1 h2
  refine calls_of_wC (N := 70) (vs := [.agg (qRow ep nx gv (.slice A1 rs.length c1) (.slice A2 ls.length c2) W), .agg #[.int .i64 kd, .int .i64 pr, .int .i64 id, .int .i64 bd, .int .i64 he, .int .i64 hn]]) Try.func66 rfl rfl rfl ?_
  refine wC_sub (l' := [(0, .agg (qRow ep nx gv (.slice A1 rs.length c1) (.slice A2 ls.length c2) W)), (1, .agg #[.int .i64 kd, .int .i64 pr, .int .i64 id, .int .i64 bd, .int .i64 he, .int .i64 hn])]) ⟨rfl, rfl, trivial⟩ ?_
  refine wC_seq ?_
  refine wC_region ?_
  refine wL_new (V := fun b => .pointer (some ⟨b, 0, none⟩)) (row := qRow ep nx gv (.slice A1 rs.length c1) (.slice A2 ls.length c2) W) (t := 29) S (wn rfl) rfl rfl (d_box rfl rfl rfl) ?_
  intro b1 w2 S3
  clear S
  refine wL_new (V := fun b => .pointer (some ⟨b, 0, none⟩)) (row := #[.int .i64 kd, .int .i64 pr, .int .i64 id, .int .i64 bd, .int .i64 he, .int .i64 hn]) (t := 37) S3 (wn rfl) rfl rfl (d_box rfl rfl rfl) ?_
  intro b4 w5 S6
  clear S3
  refine wL_new (V := fun b => .pointer (some ⟨b, 0, none⟩)) (row := qRow 0 0 0 (.slice none 0 0) (.slice none 0 0) zeroWs) (t := 29) S6 (wn rfl) rfl rfl (d_alloc rfl (Try.zeroValue29 _) rfl) ?_
  intro b7 w8 S9
  clear S6
  refine wL_new (V := fun b => .pointer (some ⟨b, 0, none⟩)) (row := #[.int .i64 0, .int .i64 0, .int .i64 0, .int .i64 0]) (t := 93) S9 (wn rfl) rfl rfl (d_alloc rfl (Try.zeroValue93 _) rfl) ?_
  intro b10 w11 S12
  clear S9
  refine wL_val (v := .bool false) (wn rfl) rfl rfl (y_assign rfl rfl) ?_
  refine wL_val (v := .int .i64 0) (wn rfl) rfl rfl (y_assign rfl rfl) ?_
  refine wL_nil ?_
  refine wQ_sub (l' := [(2, _), (3, _), (4, _), (5, _), (6, _), (7, _)]) ⟨rfl, rfl, rfl, rfl, rfl, rfl, trivial⟩ ?_
  refine wQ_then ?_
  refine wC_seq ?_
  refine wC_seq ?_
  refine wC_region ?_
  refine wL_val (v := .agg (qRow ep nx gv (.slice A1 rs.length c1) (.slice A2 ls.length c2) W)) (wn rfl) rfl rfl (y_load rfl rfl (r_load_row 3 S12 rfl Try.underlying29 rfl inf29 rfl)) ?_
  refine wL_call (vs := [.agg (qRow ep nx gv (.slice A1 rs.length c1) (.slice A2 ls.length c2) W)]) (wn rfl) rfl rfl (e_call (vs := [.agg (qRow ep nx gv (.slice A1 rs.length c1) (.slice A2 ls.length c2) W)]) rfl en30 ⟨rfl, trivial⟩) (QCheck_calls ep nx gv A1 A2 c1 c2 rs ls W _ (St.rd 4 S12 rfl) (St.rd 5 S12 rfl) hb1 hb2) ?_
  rintro _ w13 ⟨rfl, hb15⟩
  refine ⟨_, rfl, ?_⟩
  have S14 := S12.on hb15
  clear hb15 S12
  refine wL_val (v := .int .i64 (queueFault ep nx gv rs ls W)) (wn rfl) rfl rfl (y_assign rfl rfl) ?_
  refine wL_nil ?_
  refine wQ_sub (l' := [(2, _), (3, _), (4, _), (5, _), (6, _), (7, _), (8, _)]) ⟨rfl, rfl, rfl, rfl, rfl, rfl, rfl, trivial⟩ ?_
  refine wQ_then ?_
  refine wC_seq ?_
  refine wC_region ?_
  refine wL_val (v := .int .i64 (queueFault ep nx gv rs ls W)) (wn rfl) rfl rfl (y_move rfl rfl) ?_
  by_cases h0 : queueFault ep nx gv rs ls W = 0
  · obtain ⟨hR, hW, hRd, hLs, hNd⟩ := qf_zero h0
    unfold rngQ at hR
    refine wL_val (v := .bool false) (wn rfl) rfl rfl (y_binop rfl rfl rfl (r_neq_f h0)) ?_
    refine wL_nil ?_
    refine wQ_sub (l' := [(2, _), (3, _), (4, _), (5, _), (6, _), (7, _), (8, _), (17, _)]) ⟨rfl, rfl, rfl, rfl, rfl, rfl, rfl, rfl, trivial⟩ ?_
    refine wQ_then ?_
    refine wC_cond_f rfl ?_
    refine wC_skip ?_
    refine wQ_then ?_
    refine wC_seq ?_
    refine wC_seq ?_
    refine wC_region ?_
    refine wL_val (v := .agg #[.int .i64 kd, .int .i64 pr, .int .i64 id, .int .i64 bd, .int .i64 he, .int .i64 hn]) (wn rfl) rfl rfl (y_load rfl rfl (r_load_row 2 S14 rfl Try.underlying37 rfl inf37 rfl)) ?_
    refine wL_call (vs := [.agg #[.int .i64 kd, .int .i64 pr, .int .i64 id, .int .i64 bd, .int .i64 he, .int .i64 hn]]) (wn rfl) rfl rfl (e_call (vs := [.agg #[.int .i64 kd, .int .i64 pr, .int .i64 id, .int .i64 bd, .int .i64 he, .int .i64 hn]]) rfl en142 ⟨rfl, trivial⟩) (Check_below ⟨kd, pr, id, bd, he, hn⟩ _) ?_
    rintro _ w16 ⟨rfl, hb18⟩
    refine ⟨_, rfl, ?_⟩
    have S17 := S14.on hb18
    clear hb18 S14
    refine wL_val (v := .int .i64 (evFault ⟨kd, pr, id, bd, he, hn⟩)) (wn rfl) rfl rfl (y_assign rfl rfl) ?_
    refine wL_nil ?_
    refine wQ_sub (l' := [(2, _), (3, _), (4, _), (5, _), (6, _), (7, _), (9, _)]) ⟨rfl, rfl, rfl, rfl, rfl, rfl, rfl, trivial⟩ ?_
    refine wQ_then ?_
    refine wC_seq ?_
    refine wC_region ?_
    refine wL_val (v := .int .i64 (evFault ⟨kd, pr, id, bd, he, hn⟩)) (wn rfl) rfl rfl (y_move rfl rfl) ?_
    by_cases h1 : evFault ⟨kd, pr, id, bd, he, hn⟩ = 0
    · have hkd := ev_kind h1
      have hpr := ev_prod h1
      simp only at hkd hpr
      obtain ⟨k, hk0⟩ : ∃ k : Nat, pr = (k : Int) := ⟨pr.toNat, by omega⟩
      subst hk0
      have hk : k < 4 := by omega
      refine wL_val (v := .bool false) (wn rfl) rfl rfl (y_binop rfl rfl rfl (r_neq_f h1)) ?_
      refine wL_nil ?_
      refine wQ_sub (l' := [(2, _), (3, _), (4, _), (5, _), (6, _), (7, _), (9, _), (24, _)]) ⟨rfl, rfl, rfl, rfl, rfl, rfl, rfl, rfl, trivial⟩ ?_
      refine wQ_then ?_
      refine wC_cond_f rfl ?_
      refine wC_skip ?_
      refine wQ_then ?_
      refine wC_seq ?_
      refine wC_region ?_
      refine wL_val (v := .agg (qRow ep nx gv (.slice A1 rs.length c1) (.slice A2 ls.length c2) W)) (wn rfl) rfl rfl (y_load rfl rfl (r_load_row 3 S17 rfl Try.underlying29 rfl inf29 rfl)) ?_
      refine wL_val (v := .agg (qRow ep nx gv (.slice A1 rs.length c1) (.slice A2 ls.length c2) W)) (wn rfl) rfl rfl (y_build (vs := [(0, .agg (qRow ep nx gv (.slice A1 rs.length c1) (.slice A2 ls.length c2) W))]) rfl ⟨rfl, rfl, trivial⟩ (by kernel_rfl)) ?_
      refine wL_new (V := fun b => .pointer (some ⟨b, 0, none⟩)) (row := qRow ep nx gv (.slice A1 rs.length c1) (.slice A2 ls.length c2) W) (t := 190) S17 (wn rfl) rfl rfl (d_box rfl rfl rfl) ?_
      intro b19 w20 S21
      clear S17
      refine wL_val (v := .pointer (some ⟨b19, 0, none⟩)) (wn rfl) rfl rfl (y_assign rfl rfl) ?_
      refine wL_nil ?_
      refine wQ_sub (l' := [(2, _), (3, _), (4, _), (5, _), (6, _), (7, _), (10, _)]) ⟨rfl, rfl, rfl, rfl, rfl, rfl, rfl, trivial⟩ ?_
      refine wQ_then ?_
      refine wC_seq ?_
      have S22 := S21.drew
      clear S21
      refine wC_any_ (C := fun w' => St w.heap.size w w' [.blk b10 #[.int .i64 0, .int .i64 0, .int .i64 0, .int .i64 0] 93, .blk b7 (qRow 0 0 0 (.slice none 0 0) (.slice none 0 0) zeroWs) 29, .blk b4 #[.int .i64 kd, .int .i64 ((k : Nat) : Int), .int .i64 id, .int .i64 bd, .int .i64 he, .int .i64 hn] 37, .blk b1 (qRow ep nx gv (.slice A1 rs.length c1) (.slice A2 ls.length c2) W) 29, .rd 2 A1 rs.length ((rs).flatMap Msg.cells), .rd 4 A2 ls.length ((ls).flatMap Ls.cells)]) (n := 16) (listed := #[false, false, false, false, false, false, false, false, false, false, false, false, false, false, false, false]) mixed rfl rfl ?_
      refine wA_take (v := .pointer (some ⟨b19, 0, none⟩)) (i := 0) (n := 15) (listed' := #[true, false, false, false, false, false, false, false, false, false, false, false, false, false, false, false]) rfl (by kernel_rfl) (by kernel_rfl) (by kernel_rfl) (St.del 0 S22) rfl (wn rfl) rfl rfl (fun _ _ => (y_move rfl rfl)) ?_
      refine wA_take (v := .pointer (some ⟨b19, 0, none⟩)) (i := 1) (n := 14) (listed' := #[true, true, false, false, false, false, false, false, false, false, false, false, false, false, false, false]) rfl (by kernel_rfl) (by kernel_rfl) (by kernel_rfl) (St.del 0 S22) rfl (wn rfl) rfl rfl (fun _ _ => (y_move rfl rfl)) ?_
      refine wA_take (v := .pointer (some ⟨b1, 3, none⟩)) (i := 2) (n := 13) (listed' := #[true, true, true, false, false, false, false, false, false, false, false, false, false, false, false, false]) rfl (by kernel_rfl) (by kernel_rfl) (by kernel_rfl) (St.del 0 S22) rfl (wn rfl) rfl rfl (fun _ _ => (y_fieldAddr rfl rfl (fa29_3 _ _ _))) ?_
      refine wA_take (v := .slice A1 rs.length c1) (i := 3) (n := 12) (listed' := #[true, true, true, true, false, false, false, false, false, false, false, false, false, false, false, false]) rfl (by kernel_rfl) (by kernel_rfl) (by kernel_rfl) (St.del 0 S22) rfl (wn rfl) rfl rfl (fun _ Sx26 => (y_load rfl rfl (r_load Try.underlying22 rfl (St.cl 3 Sx26 rfl qRow_g3)))) ?_
      refine wA_take (v := .pointer (some ⟨b1, 4, none⟩)) (i := 5) (n := 11) (listed' := #[true, true, true, true, false, true, false, false, false, false, false, false, false, false, false, false]) rfl (by kernel_rfl) (by kernel_rfl) (by kernel_rfl) (St.del 0 S22) rfl (wn rfl) rfl rfl (fun _ _ => (y_fieldAddr rfl rfl (fa29_4 _ _ _))) ?_
      refine wA_take (v := .slice A2 ls.length c2) (i := 6) (n := 10) (listed' := #[true, true, true, true, false, true, true, false, false, false, false, false, false, false, false, false]) rfl (by kernel_rfl) (by kernel_rfl) (by kernel_rfl) (St.del 0 S22) rfl (wn rfl) rfl rfl (fun _ Sx28 => (y_load rfl rfl (r_load Try.underlying23 rfl (St.cl 3 Sx28 rfl qRow_g4)))) ?_
      refine wA_one (n := 9) (r := 4) (by kernel_rfl) ?_
      refine wN_call_ (i := 4) (listed' := #[true, true, true, true, true, true, true, false, false, false, false, false, false, false, false, false]) rfl rfl (vs := [.slice A1 rs.length c1]) (wn rfl) rfl rfl (e_call (vs := [.slice A1 rs.length c1]) rfl en143 ⟨rfl, trivial⟩) (CloneM_calls A1 rs.length c1 _ _ (St.rd 5 S22 rfl) (msgs_one rs) hb1) ?_
      rintro _ w33 ⟨A29, c30, rfl, hb31, ho32⟩
      refine ⟨_, rfl, ?_⟩
      have S34 := S22.onOwn hb31 ho32
      clear hb31 ho32 S22
      change St _ _ _ [.own 137 2 (.slice A29 rs.length c30) rs.length ((rs).flatMap Msg.cells), _, _, _, _, _, _, _] at S34
      refine ⟨(St.del 0 (St.del 1 S34)), ?_⟩
      refine wA_one (n := 8) (r := 7) (by kernel_rfl) ?_
      refine wN_call_ (i := 7) (listed' := #[true, true, true, true, true, true, true, true, false, false, false, false, false, false, false, false]) rfl rfl (vs := [.slice A2 ls.length c2]) (wn rfl) rfl rfl (e_call (vs := [.slice A2 ls.length c2]) rfl en144 ⟨rfl, trivial⟩) (CloneL_calls A2 ls.length c2 _ _ (St.rd 7 S34 rfl) (lss_one ls) hb2) ?_
      rintro _ w39 ⟨A35, c36, rfl, hb37, ho38⟩
      refine ⟨_, rfl, ?_⟩
      have S40 := S34.onOwn hb37 ho38
      clear hb37 ho38 S34
      change St _ _ _ [.own 141 4 (.slice A35 ls.length c36) ls.length ((ls).flatMap Ls.cells), _, _, _, _, _, _, _, _] at S40
      refine ⟨(St.del 0 (St.del 1 (St.del 2 S40))), ?_⟩
      refine wA_take (v := .pointer (some ⟨b19, 0, none⟩)) (i := 8) (n := 7) (listed' := #[true, true, true, true, true, true, true, true, true, false, false, false, false, false, false, false]) rfl (by kernel_rfl) (by kernel_rfl) (by kernel_rfl) (St.del 0 (St.del 1 (St.del 2 S40))) rfl (wn rfl) rfl rfl (fun _ _ => (y_nil rfl rfl trivial)) ?_
      refine wA_take (v := .pointer (some ⟨b19, 0, none⟩)) (i := 9) (n := 6) (listed' := #[true, true, true, true, true, true, true, true, true, true, false, false, false, false, false, false]) rfl (by kernel_rfl) (by kernel_rfl) (by kernel_rfl) (St.del 0 (St.del 1 (St.del 2 S40))) rfl (wn rfl) rfl rfl (fun _ _ => (y_fieldAddr rfl rfl (fa190_0 _ _ _))) ?_
      refine wA_take (v := .pointer (some ⟨b19, 3, none⟩)) (i := 10) (n := 5) (listed' := #[true, true, true, true, true, true, true, true, true, true, true, false, false, false, false, false]) rfl (by kernel_rfl) (by kernel_rfl) (by kernel_rfl) (St.del 0 (St.del 1 (St.del 2 S40))) rfl (wn rfl) rfl rfl (fun _ _ => (y_fieldAddr rfl rfl (fa29_3 _ _ _))) ?_
      refine wA_one (n := 4) (r := 11) (by kernel_rfl) ?_
      refine wN_st (i := 11) (listed' := #[true, true, true, true, true, true, true, true, true, true, true, true, false, false, false, false]) rfl rfl (cs := #[.slice A29 rs.length c30]) (row' := qRow ep nx gv (.slice A29 rs.length c30) (.slice A2 ls.length c2) W) (fs' := [_, _, .blk b19 (qRow ep nx gv (.slice A29 rs.length c30) (.slice A2 ls.length c2) W) 190, _, _, _, _, _, _]) 2 S40 (wn rfl) rfl rfl rfl rfl rfl rfl inf22 rfl (oneAll rfl) (Nat.le_of_ble_eq_true rfl) qRow_s3 rfl ?_
      intro w44 S45
      clear S40
      refine ⟨(St.del 0 (St.del 1 (St.del 2 S45))), ?_⟩
      refine wA_take (v := .pointer (some ⟨b19, 0, none⟩)) (i := 12) (n := 3) (listed' := #[true, true, true, true, true, true, true, true, true, true, true, true, true, false, false, false]) rfl (by kernel_rfl) (by kernel_rfl) (by kernel_rfl) (St.del 0 (St.del 1 (St.del 2 S45))) rfl (wn rfl) rfl rfl (fun _ _ => (y_nil rfl rfl trivial)) ?_
      refine wA_take (v := .pointer (some ⟨b19, 0, none⟩)) (i := 13) (n := 2) (listed' := #[true, true, true, true, true, true, true, true, true, true, true, true, true, true, false, false]) rfl (by kernel_rfl) (by kernel_rfl) (by kernel_rfl) (St.del 0 (St.del 1 (St.del 2 S45))) rfl (wn rfl) rfl rfl (fun _ _ => (y_fieldAddr rfl rfl (fa190_0 _ _ _))) ?_
      refine wA_take (v := .pointer (some ⟨b19, 4, none⟩)) (i := 14) (n := 1) (listed' := #[true, true, true, true, true, true, true, true, true, true, true, true, true, true, true, false]) rfl (by kernel_rfl) (by kernel_rfl) (by kernel_rfl) (St.del 0 (St.del 1 (St.del 2 S45))) rfl (wn rfl) rfl rfl (fun _ _ => (y_fieldAddr rfl rfl (fa29_4 _ _ _))) ?_
      refine wA_one (n := 0) (r := 15) (by kernel_rfl) ?_
      refine wN_st (i := 15) (listed' := #[true, true, true, true, true, true, true, true, true, true, true, true, true, true, true, true]) rfl rfl (cs := #[.slice A35 ls.length c36]) (row' := qRow ep nx gv (.slice A29 rs.length c30) (.slice A35 ls.length c36) W) (fs' := [_, _, .blk b19 (qRow ep nx gv (.slice A29 rs.length c30) (.slice A35 ls.length c36) W) 190, _, _, _, _, _, _]) 2 S45 (wn rfl) rfl rfl rfl rfl rfl rfl inf23 rfl (oneAll rfl) (Nat.le_of_ble_eq_true rfl) qRow_s4 rfl ?_
      intro w49 S50
      clear S45
      refine ⟨(St.del 0 (St.del 1 (St.del 2 S50))), ?_⟩
      refine wA_done (by kernel_rfl) ?_
      refine wQ_sub (l' := [(3, _), (4, _), (5, _), (6, _), (7, _), (10, _)]) ⟨rfl, rfl, rfl, rfl, rfl, rfl, trivial⟩ ?_
      refine wQ_then ?_
      refine wC_seq ?_
      refine wC_region ?_
      refine wL_makeF (k := 3) S50 (wn rfl) rfl rfl rfl ?_
      intro b51 w52 S53
      clear S50
      refine wL_val (v := .pointer (some ⟨b19, 0, none⟩)) (wn rfl) rfl rfl (y_move rfl rfl) ?_
      refine wL_val (v := .func (.func 145) #[.pointer (some ⟨b19, 0, none⟩)] #[]) (wn rfl) rfl rfl (y_makeFunc (vs := [.pointer (some ⟨b19, 0, none⟩)]) (us := []) rfl ⟨rfl, trivial⟩ trivial) ?_
      refine wL_insF (e := 193) 0 S53 (wn rfl) rfl rfl rfl rfl rfl rfl Try.underlying3 Try.underlying194 (by decide) (by decide) ?_
      intro w54 S55
      clear S53
      change St _ _ _ [.loc b51 (FMap Try.prog 3 (fun y => if y = 1 then some (.func (.func 145) #[.pointer (some ⟨b19, 0, none⟩)] #[]) else (fun _ => none) y) 1), .own 141 4 (.slice A35 ls.length c36) ls.length ((ls).flatMap Ls.cells), .own 137 2 (.slice A29 rs.length c30) rs.length ((rs).flatMap Msg.cells), .blk b19 (qRow ep nx gv (.slice A29 rs.length c30) (.slice A35 ls.length c36) W) 190, .blk b10 #[.int .i64 0, .int .i64 0, .int .i64 0, .int .i64 0] 93, .blk b7 (qRow 0 0 0 (.slice none 0 0) (.slice none 0 0) zeroWs) 29, .blk b4 #[.int .i64 kd, .int .i64 ((k : Nat) : Int), .int .i64 id, .int .i64 bd, .int .i64 he, .int .i64 hn] 37, .blk b1 (qRow ep nx gv (.slice A1 rs.length c1) (.slice A2 ls.length c2) W) 29, .rd 2 A1 rs.length ((rs).flatMap Msg.cells), .rd 4 A2 ls.length ((ls).flatMap Ls.cells)] at S55
      refine wL_val (v := .pointer (some ⟨b19, 0, none⟩)) (wn rfl) rfl rfl (y_move rfl rfl) ?_
      refine wL_val (v := .func (.func 146) #[.pointer (some ⟨b19, 0, none⟩)] #[]) (wn rfl) rfl rfl (y_makeFunc (vs := [.pointer (some ⟨b19, 0, none⟩)]) (us := []) rfl ⟨rfl, trivial⟩ trivial) ?_
      refine wL_insF (e := 193) 0 S55 (wn rfl) rfl rfl rfl rfl rfl rfl Try.underlying3 Try.underlying194 (by decide) (by decide) ?_
      intro w56 S57
      clear S55
      change St _ _ _ [.loc b51 (FMap Try.prog 3 (fun y => if y = 2 then some (.func (.func 146) #[.pointer (some ⟨b19, 0, none⟩)] #[]) else (fun y => if y = 1 then some (.func (.func 145) #[.pointer (some ⟨b19, 0, none⟩)] #[]) else (fun _ => none) y) y) 2), .own 141 4 (.slice A35 ls.length c36) ls.length ((ls).flatMap Ls.cells), .own 137 2 (.slice A29 rs.length c30) rs.length ((rs).flatMap Msg.cells), .blk b19 (qRow ep nx gv (.slice A29 rs.length c30) (.slice A35 ls.length c36) W) 190, .blk b10 #[.int .i64 0, .int .i64 0, .int .i64 0, .int .i64 0] 93, .blk b7 (qRow 0 0 0 (.slice none 0 0) (.slice none 0 0) zeroWs) 29, .blk b4 #[.int .i64 kd, .int .i64 ((k : Nat) : Int), .int .i64 id, .int .i64 bd, .int .i64 he, .int .i64 hn] 37, .blk b1 (qRow ep nx gv (.slice A1 rs.length c1) (.slice A2 ls.length c2) W) 29, .rd 2 A1 rs.length ((rs).flatMap Msg.cells), .rd 4 A2 ls.length ((ls).flatMap Ls.cells)] at S57
      refine wL_val (v := .pointer (some ⟨b19, 0, none⟩)) (wn rfl) rfl rfl (y_move rfl rfl) ?_
      refine wL_val (v := .func (.func 147) #[.pointer (some ⟨b19, 0, none⟩)] #[]) (wn rfl) rfl rfl (y_makeFunc (vs := [.pointer (some ⟨b19, 0, none⟩)]) (us := []) rfl ⟨rfl, trivial⟩ trivial) ?_
      refine wL_insF (e := 193) 0 S57 (wn rfl) rfl rfl rfl rfl rfl rfl Try.underlying3 Try.underlying194 (by decide) (by decide) ?_
      intro w58 S59
      clear S57
      change St _ _ _ [.loc b51 (FMap Try.prog 3 (fun y => if y = 3 then some (.func (.func 147) #[.pointer (some ⟨b19, 0, none⟩)] #[]) else (fun y => if y = 2 then some (.func (.func 146) #[.pointer (some ⟨b19, 0, none⟩)] #[]) else (fun y => if y = 1 then some (.func (.func 145) #[.pointer (some ⟨b19, 0, none⟩)] #[]) else (fun _ => none) y) y) y) 3), .own 141 4 (.slice A35 ls.length c36) ls.length ((ls).flatMap Ls.cells), .own 137 2 (.slice A29 rs.length c30) rs.length ((rs).flatMap Msg.cells), .blk b19 (qRow ep nx gv (.slice A29 rs.length c30) (.slice A35 ls.length c36) W) 190, .blk b10 #[.int .i64 0, .int .i64 0, .int .i64 0, .int .i64 0] 93, .blk b7 (qRow 0 0 0 (.slice none 0 0) (.slice none 0 0) zeroWs) 29, .blk b4 #[.int .i64 kd, .int .i64 ((k : Nat) : Int), .int .i64 id, .int .i64 bd, .int .i64 he, .int .i64 hn] 37, .blk b1 (qRow ep nx gv (.slice A1 rs.length c1) (.slice A2 ls.length c2) W) 29, .rd 2 A1 rs.length ((rs).flatMap Msg.cells), .rd 4 A2 ls.length ((ls).flatMap Ls.cells)] at S59
      refine wL_val (v := .pointer (some ⟨b19, 0, none⟩)) (wn rfl) rfl rfl (y_move rfl rfl) ?_
      refine wL_val (v := .func (.func 148) #[.pointer (some ⟨b19, 0, none⟩)] #[]) (wn rfl) rfl rfl (y_makeFunc (vs := [.pointer (some ⟨b19, 0, none⟩)]) (us := []) rfl ⟨rfl, trivial⟩ trivial) ?_
      refine wL_insF (e := 193) 0 S59 (wn rfl) rfl rfl rfl rfl rfl rfl Try.underlying3 Try.underlying194 (by decide) (by decide) ?_
      intro w60 S61
      clear S59
      change St _ _ _ [.loc b51 (FMap Try.prog 3 (fun y => if y = 4 then some (.func (.func 148) #[.pointer (some ⟨b19, 0, none⟩)] #[]) else (fun y => if y = 3 then some (.func (.func 147) #[.pointer (some ⟨b19, 0, none⟩)] #[]) else (fun y => if y = 2 then some (.func (.func 146) #[.pointer (some ⟨b19, 0, none⟩)] #[]) else (fun y => if y = 1 then some (.func (.func 145) #[.pointer (some ⟨b19, 0, none⟩)] #[]) else (fun _ => none) y) y) y) y) 4), .own 141 4 (.slice A35 ls.length c36) ls.length ((ls).flatMap Ls.cells), .own 137 2 (.slice A29 rs.length c30) rs.length ((rs).flatMap Msg.cells), .blk b19 (qRow ep nx gv (.slice A29 rs.length c30) (.slice A35 ls.length c36) W) 190, .blk b10 #[.int .i64 0, .int .i64 0, .int .i64 0, .int .i64 0] 93, .blk b7 (qRow 0 0 0 (.slice none 0 0) (.slice none 0 0) zeroWs) 29, .blk b4 #[.int .i64 kd, .int .i64 ((k : Nat) : Int), .int .i64 id, .int .i64 bd, .int .i64 he, .int .i64 hn] 37, .blk b1 (qRow ep nx gv (.slice A1 rs.length c1) (.slice A2 ls.length c2) W) 29, .rd 2 A1 rs.length ((rs).flatMap Msg.cells), .rd 4 A2 ls.length ((ls).flatMap Ls.cells)] at S61
      refine wL_val (v := .map (some b51)) (wn rfl) rfl rfl (y_move rfl rfl) ?_
      refine wL_val (v := .pointer (some ⟨b4, 0, none⟩)) (wn rfl) rfl rfl (y_fieldAddr rfl rfl (fa37_0 _ _ _)) ?_
      refine wL_val (v := .int .i64 kd) (wn rfl) rfl rfl (y_load rfl rfl (r_load Try.underlying3 rfl (St.cl 6 S61 rfl rfl))) ?_
      rcases (by omega : kd = 1 ∨ kd = 2 ∨ kd = 3 ∨ kd = 4) with rfl | rfl | rfl | rfl
      · refine wL_val (v := .func (.func 145) #[.pointer (some ⟨b19, 0, none⟩)] #[]) (wn rfl) rfl rfl (y_lookF 0 S61 rfl rfl rfl rfl Try.underlying3 Try.underlying194 (Try.zeroValue193 _) (by decide) rfl) ?_
        refine wL_val (v := .func (.func 145) #[.pointer (some ⟨b19, 0, none⟩)] #[]) (wn rfl) rfl rfl (y_assign rfl rfl) ?_
        refine wL_nil ?_
        refine wQ_sub (l' := [(3, _), (4, _), (5, _), (6, _), (7, _), (10, _), (11, _)]) ⟨rfl, rfl, rfl, rfl, rfl, rfl, rfl, trivial⟩ ?_
        refine wQ_then ?_
        refine wC_seq ?_
        refine wC_region ?_
        refine wL_val (v := .func (.func 145) #[.pointer (some ⟨b19, 0, none⟩)] #[]) (wn rfl) rfl rfl (y_move rfl rfl) ?_
        refine wL_val (v := .agg #[.int .i64 1, .int .i64 ((k : Nat) : Int), .int .i64 id, .int .i64 bd, .int .i64 he, .int .i64 hn]) (wn rfl) rfl rfl (y_load rfl rfl (r_load_row 6 S61 rfl Try.underlying37 rfl inf37 rfl)) ?_
        have S62 : St w.heap.size w w60 [.blk b19 (qRow ep nx gv (.slice A29 rs.length c30) (.slice A35 ls.length c36) W) 190, .own 137 2 (.slice A29 rs.length c30) rs.length ((rs).flatMap Msg.cells), .own 141 4 (.slice A35 ls.length c36) ls.length ((ls).flatMap Ls.cells), .loc b51 (FMap Try.prog 3 (fun y => if y = 4 then some (.func (.func 148) #[.pointer (some ⟨b19, 0, none⟩)] #[]) else (fun y => if y = 3 then some (.func (.func 147) #[.pointer (some ⟨b19, 0, none⟩)] #[]) else (fun y => if y = 2 then some (.func (.func 146) #[.pointer (some ⟨b19, 0, none⟩)] #[]) else (fun y => if y = 1 then some (.func (.func 145) #[.pointer (some ⟨b19, 0, none⟩)] #[]) else (fun _ => none) y) y) y) y) 4), .blk b10 #[.int .i64 0, .int .i64 0, .int .i64 0, .int .i64 0] 93, .blk b7 (qRow 0 0 0 (.slice none 0 0) (.slice none 0 0) zeroWs) 29, .blk b4 #[.int .i64 1, .int .i64 ((k : Nat) : Int), .int .i64 id, .int .i64 bd, .int .i64 he, .int .i64 hn] 37, .blk b1 (qRow ep nx gv (.slice A1 rs.length c1) (.slice A2 ls.length c2) W) 29, .rd 2 A1 rs.length ((rs).flatMap Msg.cells), .rd 4 A2 ls.length ((ls).flatMap Ls.cells)] := S61.re [3, 2, 1, 0, 4, 5, 6, 7, 8, 9] (by decide)
        clear S61
        have HC := publish_calls (kd := 1) (k := k) (id := id) (bd := bd) (he := he) (hn := hn) S62 hk (by omega) (by omega) (by omega) (by omega)
        rw [← show stepM ⟨ep, nx, gv, rs, ls, W⟩ ⟨1, ((k : Nat) : Int), id, bd, he, hn⟩ = pubM ⟨ep, nx, gv, rs, ls, W⟩ k id bd from by simp [stepM]] at HC
        obtain ⟨R, hRM⟩ : ∃ R, stepM ⟨ep, nx, gv, rs, ls, W⟩ ⟨1, ((k : Nat) : Int), id, bd, he, hn⟩ = R := ⟨_, rfl⟩
        rw [hRM] at HC
        refine wL_call (vs := [.pointer (some ⟨b19, 0, none⟩), .agg #[.int .i64 1, .int .i64 ((k : Nat) : Int), .int .i64 id, .int .i64 bd, .int .i64 he, .int .i64 hn]]) (wn rfl) rfl rfl (e_callv (first := [.pointer (some ⟨b19, 0, none⟩)]) (cap := []) (vs := [.agg #[.int .i64 1, .int .i64 ((k : Nat) : Int), .int .i64 id, .int .i64 bd, .int .i64 he, .int .i64 hn]]) rfl rfl en145 ⟨rfl, trivial⟩ rfl) (HC) ?_
        rintro _ w67 ⟨rfl, A63, c64, A65, c66, S68⟩
        refine ⟨_, rfl, ?_⟩
        clear HC S62
        change St _ _ _ [.blk b19 (qRow R.1.ep R.1.nx R.1.gv (.slice A63 R.1.ready.length c64) (.slice A65 R.1.leases.length c66) R.1.ws) 190, .rdo 2 A63 R.1.ready.length ((R.1.ready).flatMap Msg.cells), .rdo 4 A65 R.1.leases.length ((R.1.leases).flatMap Ls.cells), .loc b51 (FMap Try.prog 3 (fun y => if y = 4 then some (.func (.func 148) #[.pointer (some ⟨b19, 0, none⟩)] #[]) else (fun y => if y = 3 then some (.func (.func 147) #[.pointer (some ⟨b19, 0, none⟩)] #[]) else (fun y => if y = 2 then some (.func (.func 146) #[.pointer (some ⟨b19, 0, none⟩)] #[]) else (fun y => if y = 1 then some (.func (.func 145) #[.pointer (some ⟨b19, 0, none⟩)] #[]) else (fun _ => none) y) y) y) y) 4), .blk b10 #[.int .i64 0, .int .i64 0, .int .i64 0, .int .i64 0] 93, .blk b7 (qRow 0 0 0 (.slice none 0 0) (.slice none 0 0) zeroWs) 29, .blk b4 #[.int .i64 1, .int .i64 ((k : Nat) : Int), .int .i64 id, .int .i64 bd, .int .i64 he, .int .i64 hn] 37, .blk b1 (qRow ep nx gv (.slice A1 rs.length c1) (.slice A2 ls.length c2) W) 29, .rd 2 A1 rs.length ((rs).flatMap Msg.cells), .rd 4 A2 ls.length ((ls).flatMap Ls.cells)] at S68
        refine wL_val (v := .tuple #[.agg #[.int .i64 R.2.1.code, .int .i64 R.2.1.hep, .int .i64 R.2.1.hno, .int .i64 R.2.1.body], .bool R.2.2]) (wn rfl) rfl rfl (y_move rfl rfl) ?_
        refine wL_val (v := .agg #[.int .i64 R.2.1.code, .int .i64 R.2.1.hep, .int .i64 R.2.1.hno, .int .i64 R.2.1.body]) (wn rfl) rfl rfl (y_extract rfl rfl rfl) ?_
        refine wL_val (v := .bool R.2.2) (wn rfl) rfl rfl (y_extract rfl rfl rfl) ?_
        refine wL_new (V := fun b => .pointer (some ⟨b, 0, none⟩)) (row := #[.int .i64 0, .int .i64 0, .int .i64 0, .int .i64 0]) (t := 93) S68 (wn rfl) rfl rfl (d_alloc rfl (Try.zeroValue93 _) rfl) ?_
        intro b69 w70 S71
        clear S68
        refine wL_st (cs := #[.int .i64 R.2.1.code, .int .i64 R.2.1.hep, .int .i64 R.2.1.hno, .int .i64 R.2.1.body]) (row' := #[.int .i64 R.2.1.code, .int .i64 R.2.1.hep, .int .i64 R.2.1.hno, .int .i64 R.2.1.body]) (fs' := [.blk b69 #[.int .i64 R.2.1.code, .int .i64 R.2.1.hep, .int .i64 R.2.1.hno, .int .i64 R.2.1.body] 93, _, _, _, _, _, _, _, _, _, _]) 0 S71 (wn rfl) rfl rfl rfl rfl rfl rfl inf93 rfl (oneAll rfl) (Nat.le_of_ble_eq_true rfl) (setAll_all rfl) rfl ?_
        intro w72 S73
        clear S71
        refine wL_val (v := .bool R.2.2) (wn rfl) rfl rfl (y_assign rfl rfl) ?_
        refine wL_nil ?_
        refine wQ_sub (l' := [(4, _), (5, _), (6, _), (7, _), (10, _), (12, _), (13, _)]) ⟨rfl, rfl, rfl, rfl, rfl, rfl, rfl, trivial⟩ ?_
        refine wQ_then ?_
        refine wC_seq ?_
        have S74 := S73.drew
        clear S73
        refine wC_any_ (C := fun w' => St w.heap.size w w' [.blk b69 #[.int .i64 R.2.1.code, .int .i64 R.2.1.hep, .int .i64 R.2.1.hno, .int .i64 R.2.1.body] 93, .blk b19 (qRow R.1.ep R.1.nx R.1.gv (.slice A63 R.1.ready.length c64) (.slice A65 R.1.leases.length c66) R.1.ws) 190, .rdo 2 A63 R.1.ready.length ((R.1.ready).flatMap Msg.cells), .rdo 4 A65 R.1.leases.length ((R.1.leases).flatMap Ls.cells), .loc b51 (FMap Try.prog 3 (fun y => if y = 4 then some (.func (.func 148) #[.pointer (some ⟨b19, 0, none⟩)] #[]) else (fun y => if y = 3 then some (.func (.func 147) #[.pointer (some ⟨b19, 0, none⟩)] #[]) else (fun y => if y = 2 then some (.func (.func 146) #[.pointer (some ⟨b19, 0, none⟩)] #[]) else (fun y => if y = 1 then some (.func (.func 145) #[.pointer (some ⟨b19, 0, none⟩)] #[]) else (fun _ => none) y) y) y) y) 4), .blk b4 #[.int .i64 1, .int .i64 ((k : Nat) : Int), .int .i64 id, .int .i64 bd, .int .i64 he, .int .i64 hn] 37, .blk b1 (qRow ep nx gv (.slice A1 rs.length c1) (.slice A2 ls.length c2) W) 29, .rd 2 A1 rs.length ((rs).flatMap Msg.cells), .rd 4 A2 ls.length ((ls).flatMap Ls.cells)]) (n := 10) (listed := #[false, false, false, false, false, false, false, false, false, false]) mixed rfl rfl ?_
        refine wA_take (v := .pointer (some ⟨b19, 0, none⟩)) (i := 0) (n := 9) (listed' := #[true, false, false, false, false, false, false, false, false, false]) rfl (by kernel_rfl) (by kernel_rfl) (by kernel_rfl) (St.del 5 (St.del 6 S74)) rfl (wn rfl) rfl rfl (fun _ _ => (y_move rfl rfl)) ?_
        refine wA_take (v := .pointer (some ⟨b19, 0, none⟩)) (i := 1) (n := 8) (listed' := #[true, true, false, false, false, false, false, false, false, false]) rfl (by kernel_rfl) (by kernel_rfl) (by kernel_rfl) (St.del 5 (St.del 6 S74)) rfl (wn rfl) rfl rfl (fun _ _ => (y_nil rfl rfl trivial)) ?_
        refine wA_take (v := .pointer (some ⟨b19, 0, none⟩)) (i := 2) (n := 7) (listed' := #[true, true, true, false, false, false, false, false, false, false]) rfl (by kernel_rfl) (by kernel_rfl) (by kernel_rfl) (St.del 5 (St.del 6 S74)) rfl (wn rfl) rfl rfl (fun _ _ => (y_fieldAddr rfl rfl (fa190_0 _ _ _))) ?_
        refine wA_take (v := .agg (qRow R.1.ep R.1.nx R.1.gv (.slice A63 R.1.ready.length c64) (.slice A65 R.1.leases.length c66) R.1.ws)) (i := 3) (n := 6) (listed' := #[true, true, true, true, false, false, false, false, false, false]) rfl (by kernel_rfl) (by kernel_rfl) (by kernel_rfl) (St.del 5 (St.del 6 S74)) rfl (wn rfl) rfl rfl (fun _ Sx78 => (y_load rfl rfl (r_load_row 1 Sx78 rfl Try.underlying29 rfl inf29 rfl))) ?_
        refine wA_take (v := .agg #[.int .i64 R.2.1.code, .int .i64 R.2.1.hep, .int .i64 R.2.1.hno, .int .i64 R.2.1.body]) (i := 4) (n := 5) (listed' := #[true, true, true, true, true, false, false, false, false, false]) rfl (by kernel_rfl) (by kernel_rfl) (by kernel_rfl) (St.del 5 (St.del 6 S74)) rfl (wn rfl) rfl rfl (fun _ Sx79 => (y_load rfl rfl (r_load_row 0 Sx79 rfl Try.underlying93 rfl inf93 rfl))) ?_
        refine wA_take (v := .bool R.2.2) (i := 5) (n := 4) (listed' := #[true, true, true, true, true, true, false, false, false, false]) rfl (by kernel_rfl) (by kernel_rfl) (by kernel_rfl) (St.del 5 (St.del 6 S74)) rfl (wn rfl) rfl rfl (fun _ _ => (y_move rfl rfl)) ?_
        refine wA_one (n := 3) (r := 6) (by kernel_rfl) ?_
        refine wN_st (i := 6) (listed' := #[true, true, true, true, true, true, true, false, false, false]) rfl rfl (cs := qRow R.1.ep R.1.nx R.1.gv (.slice A63 R.1.ready.length c64) (.slice A65 R.1.leases.length c66) R.1.ws) (row' := qRow R.1.ep R.1.nx R.1.gv (.slice A63 R.1.ready.length c64) (.slice A65 R.1.leases.length c66) R.1.ws) (fs' := [_, _, _, _, _, _, .blk b7 (qRow R.1.ep R.1.nx R.1.gv (.slice A63 R.1.ready.length c64) (.slice A65 R.1.leases.length c66) R.1.ws) 29, _, _, _, _]) 6 S74 (wn rfl) rfl rfl rfl rfl rfl rfl inf29 rfl (qRow_one rfl rfl) (Nat.le_of_ble_eq_true rfl) (setAll_all rfl) rfl ?_
        intro w81 S82
        clear S74
        refine ⟨(St.del 5 (St.del 6 S82)), ?_⟩
        refine wA_one (n := 2) (r := 7) (by kernel_rfl) ?_
        refine wN_st (i := 7) (listed' := #[true, true, true, true, true, true, true, true, false, false]) rfl rfl (cs := #[.int .i64 R.2.1.code, .int .i64 R.2.1.hep, .int .i64 R.2.1.hno, .int .i64 R.2.1.body]) (row' := #[.int .i64 R.2.1.code, .int .i64 R.2.1.hep, .int .i64 R.2.1.hno, .int .i64 R.2.1.body]) (fs' := [_, _, _, _, _, .blk b10 #[.int .i64 R.2.1.code, .int .i64 R.2.1.hep, .int .i64 R.2.1.hno, .int .i64 R.2.1.body] 93, _, _, _, _, _]) 5 S82 (wn rfl) rfl rfl rfl rfl rfl rfl inf93 rfl (oneAll rfl) (Nat.le_of_ble_eq_true rfl) (setAll_all rfl) rfl ?_
        intro w83 S84
        clear S82
        refine ⟨(St.del 5 (St.del 6 S84)), ?_⟩
        refine wA_take (v := .bool R.2.2) (i := 8) (n := 1) (listed' := #[true, true, true, true, true, true, true, true, true, false]) rfl (by kernel_rfl) (by kernel_rfl) (by kernel_rfl) (St.del 5 (St.del 6 S84)) rfl (wn rfl) rfl rfl (fun _ _ => (y_assign rfl rfl)) ?_
        refine wA_take (v := .int .i64 0) (i := 9) (n := 0) (listed' := #[true, true, true, true, true, true, true, true, true, true]) rfl (by kernel_rfl) (by kernel_rfl) (by kernel_rfl) (St.del 5 (St.del 6 S84)) rfl (wn rfl) rfl rfl (fun _ _ => (y_assign rfl rfl)) ?_
        refine wA_done (by kernel_rfl) ?_
        refine wQ_sub (l' := [(4, _), (5, _), (6, _), (7, _)]) ⟨rfl, rfl, rfl, rfl, trivial⟩ ?_
        refine wQ_then ?_
        refine wC_ret ?_
        refine wQ_post (rs := [.cell 4 29, .cell 5 93, .tmp 6, .tmp 7]) (vs := [.agg (qRow R.1.ep R.1.nx R.1.gv (.slice A63 R.1.ready.length c64) (.slice A65 R.1.leases.length c66) R.1.ws), .agg #[.int .i64 R.2.1.code, .int .i64 R.2.1.hep, .int .i64 R.2.1.hno, .int .i64 R.2.1.body], .bool R.2.2, .int .i64 0]) rfl ⟨⟨_, rfl, res_row 6 S84 rfl Try.underlying29 rfl inf29⟩, ⟨_, rfl, res_row 5 S84 rfl Try.underlying93 rfl inf93⟩, rfl, rfl, trivial⟩ ?_
        have S87 : St w.heap.size w w83 [_, _] := (St.del 0 (St.del 1 (St.del 4 (St.del 5 (St.del 6 (St.del 7 (St.del 8 (St.del 9 (St.del 10 S84)))))))))
        clear S84
        rw [do_ok (Q := ⟨ep, nx, gv, rs, ls, W⟩) h0 h1, hRM]
        exact ⟨A63, c64, A65, c66, rfl, S87⟩
      · refine wL_val (v := .func (.func 146) #[.pointer (some ⟨b19, 0, none⟩)] #[]) (wn rfl) rfl rfl (y_lookF 0 S61 rfl rfl rfl rfl Try.underlying3 Try.underlying194 (Try.zeroValue193 _) (by decide) rfl) ?_
        refine wL_val (v := .func (.func 146) #[.pointer (some ⟨b19, 0, none⟩)] #[]) (wn rfl) rfl rfl (y_assign rfl rfl) ?_
        refine wL_nil ?_
        refine wQ_sub (l' := [(3, _), (4, _), (5, _), (6, _), (7, _), (10, _), (11, _)]) ⟨rfl, rfl, rfl, rfl, rfl, rfl, rfl, trivial⟩ ?_
        refine wQ_then ?_
        refine wC_seq ?_
        refine wC_region ?_
        refine wL_val (v := .func (.func 146) #[.pointer (some ⟨b19, 0, none⟩)] #[]) (wn rfl) rfl rfl (y_move rfl rfl) ?_
        refine wL_val (v := .agg #[.int .i64 2, .int .i64 ((k : Nat) : Int), .int .i64 id, .int .i64 bd, .int .i64 he, .int .i64 hn]) (wn rfl) rfl rfl (y_load rfl rfl (r_load_row 6 S61 rfl Try.underlying37 rfl inf37 rfl)) ?_
        have S88 : St w.heap.size w w60 [.blk b19 (qRow ep nx gv (.slice A29 rs.length c30) (.slice A35 ls.length c36) W) 190, .own 137 2 (.slice A29 rs.length c30) rs.length ((rs).flatMap Msg.cells), .own 141 4 (.slice A35 ls.length c36) ls.length ((ls).flatMap Ls.cells), .loc b51 (FMap Try.prog 3 (fun y => if y = 4 then some (.func (.func 148) #[.pointer (some ⟨b19, 0, none⟩)] #[]) else (fun y => if y = 3 then some (.func (.func 147) #[.pointer (some ⟨b19, 0, none⟩)] #[]) else (fun y => if y = 2 then some (.func (.func 146) #[.pointer (some ⟨b19, 0, none⟩)] #[]) else (fun y => if y = 1 then some (.func (.func 145) #[.pointer (some ⟨b19, 0, none⟩)] #[]) else (fun _ => none) y) y) y) y) 4), .blk b10 #[.int .i64 0, .int .i64 0, .int .i64 0, .int .i64 0] 93, .blk b7 (qRow 0 0 0 (.slice none 0 0) (.slice none 0 0) zeroWs) 29, .blk b4 #[.int .i64 2, .int .i64 ((k : Nat) : Int), .int .i64 id, .int .i64 bd, .int .i64 he, .int .i64 hn] 37, .blk b1 (qRow ep nx gv (.slice A1 rs.length c1) (.slice A2 ls.length c2) W) 29, .rd 2 A1 rs.length ((rs).flatMap Msg.cells), .rd 4 A2 ls.length ((ls).flatMap Ls.cells)] := S61.re [3, 2, 1, 0, 4, 5, 6, 7, 8, 9] (by decide)
        clear S61
        have HC := receive_calls (kd := 2) (k := k) (id := id) (bd := bd) (he := he) (hn := hn) S88 hk (by omega) (by omega) (by omega) (by omega)
        rw [← show stepM ⟨ep, nx, gv, rs, ls, W⟩ ⟨2, ((k : Nat) : Int), id, bd, he, hn⟩ = recM ⟨ep, nx, gv, rs, ls, W⟩ from by simp [stepM]] at HC
        obtain ⟨R, hRM⟩ : ∃ R, stepM ⟨ep, nx, gv, rs, ls, W⟩ ⟨2, ((k : Nat) : Int), id, bd, he, hn⟩ = R := ⟨_, rfl⟩
        rw [hRM] at HC
        refine wL_call (vs := [.pointer (some ⟨b19, 0, none⟩), .agg #[.int .i64 2, .int .i64 ((k : Nat) : Int), .int .i64 id, .int .i64 bd, .int .i64 he, .int .i64 hn]]) (wn rfl) rfl rfl (e_callv (first := [.pointer (some ⟨b19, 0, none⟩)]) (cap := []) (vs := [.agg #[.int .i64 2, .int .i64 ((k : Nat) : Int), .int .i64 id, .int .i64 bd, .int .i64 he, .int .i64 hn]]) rfl rfl en146 ⟨rfl, trivial⟩ rfl) (HC) ?_
        rintro _ w93 ⟨rfl, A89, c90, A91, c92, S94⟩
        refine ⟨_, rfl, ?_⟩
        clear HC S88
        change St _ _ _ [.blk b19 (qRow R.1.ep R.1.nx R.1.gv (.slice A89 R.1.ready.length c90) (.slice A91 R.1.leases.length c92) R.1.ws) 190, .rdo 2 A89 R.1.ready.length ((R.1.ready).flatMap Msg.cells), .rdo 4 A91 R.1.leases.length ((R.1.leases).flatMap Ls.cells), .loc b51 (FMap Try.prog 3 (fun y => if y = 4 then some (.func (.func 148) #[.pointer (some ⟨b19, 0, none⟩)] #[]) else (fun y => if y = 3 then some (.func (.func 147) #[.pointer (some ⟨b19, 0, none⟩)] #[]) else (fun y => if y = 2 then some (.func (.func 146) #[.pointer (some ⟨b19, 0, none⟩)] #[]) else (fun y => if y = 1 then some (.func (.func 145) #[.pointer (some ⟨b19, 0, none⟩)] #[]) else (fun _ => none) y) y) y) y) 4), .blk b10 #[.int .i64 0, .int .i64 0, .int .i64 0, .int .i64 0] 93, .blk b7 (qRow 0 0 0 (.slice none 0 0) (.slice none 0 0) zeroWs) 29, .blk b4 #[.int .i64 2, .int .i64 ((k : Nat) : Int), .int .i64 id, .int .i64 bd, .int .i64 he, .int .i64 hn] 37, .blk b1 (qRow ep nx gv (.slice A1 rs.length c1) (.slice A2 ls.length c2) W) 29, .rd 2 A1 rs.length ((rs).flatMap Msg.cells), .rd 4 A2 ls.length ((ls).flatMap Ls.cells)] at S94
        refine wL_val (v := .tuple #[.agg #[.int .i64 R.2.1.code, .int .i64 R.2.1.hep, .int .i64 R.2.1.hno, .int .i64 R.2.1.body], .bool R.2.2]) (wn rfl) rfl rfl (y_move rfl rfl) ?_
        refine wL_val (v := .agg #[.int .i64 R.2.1.code, .int .i64 R.2.1.hep, .int .i64 R.2.1.hno, .int .i64 R.2.1.body]) (wn rfl) rfl rfl (y_extract rfl rfl rfl) ?_
        refine wL_val (v := .bool R.2.2) (wn rfl) rfl rfl (y_extract rfl rfl rfl) ?_
        refine wL_new (V := fun b => .pointer (some ⟨b, 0, none⟩)) (row := #[.int .i64 0, .int .i64 0, .int .i64 0, .int .i64 0]) (t := 93) S94 (wn rfl) rfl rfl (d_alloc rfl (Try.zeroValue93 _) rfl) ?_
        intro b95 w96 S97
        clear S94
        refine wL_st (cs := #[.int .i64 R.2.1.code, .int .i64 R.2.1.hep, .int .i64 R.2.1.hno, .int .i64 R.2.1.body]) (row' := #[.int .i64 R.2.1.code, .int .i64 R.2.1.hep, .int .i64 R.2.1.hno, .int .i64 R.2.1.body]) (fs' := [.blk b95 #[.int .i64 R.2.1.code, .int .i64 R.2.1.hep, .int .i64 R.2.1.hno, .int .i64 R.2.1.body] 93, _, _, _, _, _, _, _, _, _, _]) 0 S97 (wn rfl) rfl rfl rfl rfl rfl rfl inf93 rfl (oneAll rfl) (Nat.le_of_ble_eq_true rfl) (setAll_all rfl) rfl ?_
        intro w98 S99
        clear S97
        refine wL_val (v := .bool R.2.2) (wn rfl) rfl rfl (y_assign rfl rfl) ?_
        refine wL_nil ?_
        refine wQ_sub (l' := [(4, _), (5, _), (6, _), (7, _), (10, _), (12, _), (13, _)]) ⟨rfl, rfl, rfl, rfl, rfl, rfl, rfl, trivial⟩ ?_
        refine wQ_then ?_
        refine wC_seq ?_
        have S100 := S99.drew
        clear S99
        refine wC_any_ (C := fun w' => St w.heap.size w w' [.blk b95 #[.int .i64 R.2.1.code, .int .i64 R.2.1.hep, .int .i64 R.2.1.hno, .int .i64 R.2.1.body] 93, .blk b19 (qRow R.1.ep R.1.nx R.1.gv (.slice A89 R.1.ready.length c90) (.slice A91 R.1.leases.length c92) R.1.ws) 190, .rdo 2 A89 R.1.ready.length ((R.1.ready).flatMap Msg.cells), .rdo 4 A91 R.1.leases.length ((R.1.leases).flatMap Ls.cells), .loc b51 (FMap Try.prog 3 (fun y => if y = 4 then some (.func (.func 148) #[.pointer (some ⟨b19, 0, none⟩)] #[]) else (fun y => if y = 3 then some (.func (.func 147) #[.pointer (some ⟨b19, 0, none⟩)] #[]) else (fun y => if y = 2 then some (.func (.func 146) #[.pointer (some ⟨b19, 0, none⟩)] #[]) else (fun y => if y = 1 then some (.func (.func 145) #[.pointer (some ⟨b19, 0, none⟩)] #[]) else (fun _ => none) y) y) y) y) 4), .blk b4 #[.int .i64 2, .int .i64 ((k : Nat) : Int), .int .i64 id, .int .i64 bd, .int .i64 he, .int .i64 hn] 37, .blk b1 (qRow ep nx gv (.slice A1 rs.length c1) (.slice A2 ls.length c2) W) 29, .rd 2 A1 rs.length ((rs).flatMap Msg.cells), .rd 4 A2 ls.length ((ls).flatMap Ls.cells)]) (n := 10) (listed := #[false, false, false, false, false, false, false, false, false, false]) mixed rfl rfl ?_
        refine wA_take (v := .pointer (some ⟨b19, 0, none⟩)) (i := 0) (n := 9) (listed' := #[true, false, false, false, false, false, false, false, false, false]) rfl (by kernel_rfl) (by kernel_rfl) (by kernel_rfl) (St.del 5 (St.del 6 S100)) rfl (wn rfl) rfl rfl (fun _ _ => (y_move rfl rfl)) ?_
        refine wA_take (v := .pointer (some ⟨b19, 0, none⟩)) (i := 1) (n := 8) (listed' := #[true, true, false, false, false, false, false, false, false, false]) rfl (by kernel_rfl) (by kernel_rfl) (by kernel_rfl) (St.del 5 (St.del 6 S100)) rfl (wn rfl) rfl rfl (fun _ _ => (y_nil rfl rfl trivial)) ?_
        refine wA_take (v := .pointer (some ⟨b19, 0, none⟩)) (i := 2) (n := 7) (listed' := #[true, true, true, false, false, false, false, false, false, false]) rfl (by kernel_rfl) (by kernel_rfl) (by kernel_rfl) (St.del 5 (St.del 6 S100)) rfl (wn rfl) rfl rfl (fun _ _ => (y_fieldAddr rfl rfl (fa190_0 _ _ _))) ?_
        refine wA_take (v := .agg (qRow R.1.ep R.1.nx R.1.gv (.slice A89 R.1.ready.length c90) (.slice A91 R.1.leases.length c92) R.1.ws)) (i := 3) (n := 6) (listed' := #[true, true, true, true, false, false, false, false, false, false]) rfl (by kernel_rfl) (by kernel_rfl) (by kernel_rfl) (St.del 5 (St.del 6 S100)) rfl (wn rfl) rfl rfl (fun _ Sx104 => (y_load rfl rfl (r_load_row 1 Sx104 rfl Try.underlying29 rfl inf29 rfl))) ?_
        refine wA_take (v := .agg #[.int .i64 R.2.1.code, .int .i64 R.2.1.hep, .int .i64 R.2.1.hno, .int .i64 R.2.1.body]) (i := 4) (n := 5) (listed' := #[true, true, true, true, true, false, false, false, false, false]) rfl (by kernel_rfl) (by kernel_rfl) (by kernel_rfl) (St.del 5 (St.del 6 S100)) rfl (wn rfl) rfl rfl (fun _ Sx105 => (y_load rfl rfl (r_load_row 0 Sx105 rfl Try.underlying93 rfl inf93 rfl))) ?_
        refine wA_take (v := .bool R.2.2) (i := 5) (n := 4) (listed' := #[true, true, true, true, true, true, false, false, false, false]) rfl (by kernel_rfl) (by kernel_rfl) (by kernel_rfl) (St.del 5 (St.del 6 S100)) rfl (wn rfl) rfl rfl (fun _ _ => (y_move rfl rfl)) ?_
        refine wA_one (n := 3) (r := 6) (by kernel_rfl) ?_
        refine wN_st (i := 6) (listed' := #[true, true, true, true, true, true, true, false, false, false]) rfl rfl (cs := qRow R.1.ep R.1.nx R.1.gv (.slice A89 R.1.ready.length c90) (.slice A91 R.1.leases.length c92) R.1.ws) (row' := qRow R.1.ep R.1.nx R.1.gv (.slice A89 R.1.ready.length c90) (.slice A91 R.1.leases.length c92) R.1.ws) (fs' := [_, _, _, _, _, _, .blk b7 (qRow R.1.ep R.1.nx R.1.gv (.slice A89 R.1.ready.length c90) (.slice A91 R.1.leases.length c92) R.1.ws) 29, _, _, _, _]) 6 S100 (wn rfl) rfl rfl rfl rfl rfl rfl inf29 rfl (qRow_one rfl rfl) (Nat.le_of_ble_eq_true rfl) (setAll_all rfl) rfl ?_
        intro w107 S108
        clear S100
        refine ⟨(St.del 5 (St.del 6 S108)), ?_⟩
        refine wA_one (n := 2) (r := 7) (by kernel_rfl) ?_
        refine wN_st (i := 7) (listed' := #[true, true, true, true, true, true, true, true, false, false]) rfl rfl (cs := #[.int .i64 R.2.1.code, .int .i64 R.2.1.hep, .int .i64 R.2.1.hno, .int .i64 R.2.1.body]) (row' := #[.int .i64 R.2.1.code, .int .i64 R.2.1.hep, .int .i64 R.2.1.hno, .int .i64 R.2.1.body]) (fs' := [_, _, _, _, _, .blk b10 #[.int .i64 R.2.1.code, .int .i64 R.2.1.hep, .int .i64 R.2.1.hno, .int .i64 R.2.1.body] 93, _, _, _, _, _]) 5 S108 (wn rfl) rfl rfl rfl rfl rfl rfl inf93 rfl (oneAll rfl) (Nat.le_of_ble_eq_true rfl) (setAll_all rfl) rfl ?_
        intro w109 S110
        clear S108
        refine ⟨(St.del 5 (St.del 6 S110)), ?_⟩
        refine wA_take (v := .bool R.2.2) (i := 8) (n := 1) (listed' := #[true, true, true, true, true, true, true, true, true, false]) rfl (by kernel_rfl) (by kernel_rfl) (by kernel_rfl) (St.del 5 (St.del 6 S110)) rfl (wn rfl) rfl rfl (fun _ _ => (y_assign rfl rfl)) ?_
        refine wA_take (v := .int .i64 0) (i := 9) (n := 0) (listed' := #[true, true, true, true, true, true, true, true, true, true]) rfl (by kernel_rfl) (by kernel_rfl) (by kernel_rfl) (St.del 5 (St.del 6 S110)) rfl (wn rfl) rfl rfl (fun _ _ => (y_assign rfl rfl)) ?_
        refine wA_done (by kernel_rfl) ?_
        refine wQ_sub (l' := [(4, _), (5, _), (6, _), (7, _)]) ⟨rfl, rfl, rfl, rfl, trivial⟩ ?_
        refine wQ_then ?_
        refine wC_ret ?_
        refine wQ_post (rs := [.cell 4 29, .cell 5 93, .tmp 6, .tmp 7]) (vs := [.agg (qRow R.1.ep R.1.nx R.1.gv (.slice A89 R.1.ready.length c90) (.slice A91 R.1.leases.length c92) R.1.ws), .agg #[.int .i64 R.2.1.code, .int .i64 R.2.1.hep, .int .i64 R.2.1.hno, .int .i64 R.2.1.body], .bool R.2.2, .int .i64 0]) rfl ⟨⟨_, rfl, res_row 6 S110 rfl Try.underlying29 rfl inf29⟩, ⟨_, rfl, res_row 5 S110 rfl Try.underlying93 rfl inf93⟩, rfl, rfl, trivial⟩ ?_
        have S113 : St w.heap.size w w109 [_, _] := (St.del 0 (St.del 1 (St.del 4 (St.del 5 (St.del 6 (St.del 7 (St.del 8 (St.del 9 (St.del 10 S110)))))))))
        clear S110
        rw [do_ok (Q := ⟨ep, nx, gv, rs, ls, W⟩) h0 h1, hRM]
        exact ⟨A89, c90, A91, c92, rfl, S113⟩
      · refine wL_val (v := .func (.func 147) #[.pointer (some ⟨b19, 0, none⟩)] #[]) (wn rfl) rfl rfl (y_lookF 0 S61 rfl rfl rfl rfl Try.underlying3 Try.underlying194 (Try.zeroValue193 _) (by decide) rfl) ?_
        refine wL_val (v := .func (.func 147) #[.pointer (some ⟨b19, 0, none⟩)] #[]) (wn rfl) rfl rfl (y_assign rfl rfl) ?_
        refine wL_nil ?_
        refine wQ_sub (l' := [(3, _), (4, _), (5, _), (6, _), (7, _), (10, _), (11, _)]) ⟨rfl, rfl, rfl, rfl, rfl, rfl, rfl, trivial⟩ ?_
        refine wQ_then ?_
        refine wC_seq ?_
        refine wC_region ?_
        refine wL_val (v := .func (.func 147) #[.pointer (some ⟨b19, 0, none⟩)] #[]) (wn rfl) rfl rfl (y_move rfl rfl) ?_
        refine wL_val (v := .agg #[.int .i64 3, .int .i64 ((k : Nat) : Int), .int .i64 id, .int .i64 bd, .int .i64 he, .int .i64 hn]) (wn rfl) rfl rfl (y_load rfl rfl (r_load_row 6 S61 rfl Try.underlying37 rfl inf37 rfl)) ?_
        have S114 : St w.heap.size w w60 [.blk b19 (qRow ep nx gv (.slice A29 rs.length c30) (.slice A35 ls.length c36) W) 190, .own 137 2 (.slice A29 rs.length c30) rs.length ((rs).flatMap Msg.cells), .own 141 4 (.slice A35 ls.length c36) ls.length ((ls).flatMap Ls.cells), .loc b51 (FMap Try.prog 3 (fun y => if y = 4 then some (.func (.func 148) #[.pointer (some ⟨b19, 0, none⟩)] #[]) else (fun y => if y = 3 then some (.func (.func 147) #[.pointer (some ⟨b19, 0, none⟩)] #[]) else (fun y => if y = 2 then some (.func (.func 146) #[.pointer (some ⟨b19, 0, none⟩)] #[]) else (fun y => if y = 1 then some (.func (.func 145) #[.pointer (some ⟨b19, 0, none⟩)] #[]) else (fun _ => none) y) y) y) y) 4), .blk b10 #[.int .i64 0, .int .i64 0, .int .i64 0, .int .i64 0] 93, .blk b7 (qRow 0 0 0 (.slice none 0 0) (.slice none 0 0) zeroWs) 29, .blk b4 #[.int .i64 3, .int .i64 ((k : Nat) : Int), .int .i64 id, .int .i64 bd, .int .i64 he, .int .i64 hn] 37, .blk b1 (qRow ep nx gv (.slice A1 rs.length c1) (.slice A2 ls.length c2) W) 29, .rd 2 A1 rs.length ((rs).flatMap Msg.cells), .rd 4 A2 ls.length ((ls).flatMap Ls.cells)] := S61.re [3, 2, 1, 0, 4, 5, 6, 7, 8, 9] (by decide)
        clear S61
        have HC := ack_calls (kd := 3) (k := k) (id := id) (bd := bd) (he := he) (hn := hn) S114 hk (by omega) (by omega) (by omega) (by omega) (ls_hep hLs) (ls_inj hLs)
        rw [← show stepM ⟨ep, nx, gv, rs, ls, W⟩ ⟨3, ((k : Nat) : Int), id, bd, he, hn⟩ = ackM ⟨ep, nx, gv, rs, ls, W⟩ he hn from by simp [stepM]] at HC
        obtain ⟨R, hRM⟩ : ∃ R, stepM ⟨ep, nx, gv, rs, ls, W⟩ ⟨3, ((k : Nat) : Int), id, bd, he, hn⟩ = R := ⟨_, rfl⟩
        rw [hRM] at HC
        refine wL_call (vs := [.pointer (some ⟨b19, 0, none⟩), .agg #[.int .i64 3, .int .i64 ((k : Nat) : Int), .int .i64 id, .int .i64 bd, .int .i64 he, .int .i64 hn]]) (wn rfl) rfl rfl (e_callv (first := [.pointer (some ⟨b19, 0, none⟩)]) (cap := []) (vs := [.agg #[.int .i64 3, .int .i64 ((k : Nat) : Int), .int .i64 id, .int .i64 bd, .int .i64 he, .int .i64 hn]]) rfl rfl en147 ⟨rfl, trivial⟩ rfl) (HC) ?_
        rintro _ w119 ⟨rfl, A115, c116, A117, c118, S120⟩
        refine ⟨_, rfl, ?_⟩
        clear HC S114
        change St _ _ _ [.blk b19 (qRow R.1.ep R.1.nx R.1.gv (.slice A115 R.1.ready.length c116) (.slice A117 R.1.leases.length c118) R.1.ws) 190, .rdo 2 A115 R.1.ready.length ((R.1.ready).flatMap Msg.cells), .rdo 4 A117 R.1.leases.length ((R.1.leases).flatMap Ls.cells), .loc b51 (FMap Try.prog 3 (fun y => if y = 4 then some (.func (.func 148) #[.pointer (some ⟨b19, 0, none⟩)] #[]) else (fun y => if y = 3 then some (.func (.func 147) #[.pointer (some ⟨b19, 0, none⟩)] #[]) else (fun y => if y = 2 then some (.func (.func 146) #[.pointer (some ⟨b19, 0, none⟩)] #[]) else (fun y => if y = 1 then some (.func (.func 145) #[.pointer (some ⟨b19, 0, none⟩)] #[]) else (fun _ => none) y) y) y) y) 4), .blk b10 #[.int .i64 0, .int .i64 0, .int .i64 0, .int .i64 0] 93, .blk b7 (qRow 0 0 0 (.slice none 0 0) (.slice none 0 0) zeroWs) 29, .blk b4 #[.int .i64 3, .int .i64 ((k : Nat) : Int), .int .i64 id, .int .i64 bd, .int .i64 he, .int .i64 hn] 37, .blk b1 (qRow ep nx gv (.slice A1 rs.length c1) (.slice A2 ls.length c2) W) 29, .rd 2 A1 rs.length ((rs).flatMap Msg.cells), .rd 4 A2 ls.length ((ls).flatMap Ls.cells)] at S120
        refine wL_val (v := .tuple #[.agg #[.int .i64 R.2.1.code, .int .i64 R.2.1.hep, .int .i64 R.2.1.hno, .int .i64 R.2.1.body], .bool R.2.2]) (wn rfl) rfl rfl (y_move rfl rfl) ?_
        refine wL_val (v := .agg #[.int .i64 R.2.1.code, .int .i64 R.2.1.hep, .int .i64 R.2.1.hno, .int .i64 R.2.1.body]) (wn rfl) rfl rfl (y_extract rfl rfl rfl) ?_
        refine wL_val (v := .bool R.2.2) (wn rfl) rfl rfl (y_extract rfl rfl rfl) ?_
        refine wL_new (V := fun b => .pointer (some ⟨b, 0, none⟩)) (row := #[.int .i64 0, .int .i64 0, .int .i64 0, .int .i64 0]) (t := 93) S120 (wn rfl) rfl rfl (d_alloc rfl (Try.zeroValue93 _) rfl) ?_
        intro b121 w122 S123
        clear S120
        refine wL_st (cs := #[.int .i64 R.2.1.code, .int .i64 R.2.1.hep, .int .i64 R.2.1.hno, .int .i64 R.2.1.body]) (row' := #[.int .i64 R.2.1.code, .int .i64 R.2.1.hep, .int .i64 R.2.1.hno, .int .i64 R.2.1.body]) (fs' := [.blk b121 #[.int .i64 R.2.1.code, .int .i64 R.2.1.hep, .int .i64 R.2.1.hno, .int .i64 R.2.1.body] 93, _, _, _, _, _, _, _, _, _, _]) 0 S123 (wn rfl) rfl rfl rfl rfl rfl rfl inf93 rfl (oneAll rfl) (Nat.le_of_ble_eq_true rfl) (setAll_all rfl) rfl ?_
        intro w124 S125
        clear S123
        refine wL_val (v := .bool R.2.2) (wn rfl) rfl rfl (y_assign rfl rfl) ?_
        refine wL_nil ?_
        refine wQ_sub (l' := [(4, _), (5, _), (6, _), (7, _), (10, _), (12, _), (13, _)]) ⟨rfl, rfl, rfl, rfl, rfl, rfl, rfl, trivial⟩ ?_
        refine wQ_then ?_
        refine wC_seq ?_
        have S126 := S125.drew
        clear S125
        refine wC_any_ (C := fun w' => St w.heap.size w w' [.blk b121 #[.int .i64 R.2.1.code, .int .i64 R.2.1.hep, .int .i64 R.2.1.hno, .int .i64 R.2.1.body] 93, .blk b19 (qRow R.1.ep R.1.nx R.1.gv (.slice A115 R.1.ready.length c116) (.slice A117 R.1.leases.length c118) R.1.ws) 190, .rdo 2 A115 R.1.ready.length ((R.1.ready).flatMap Msg.cells), .rdo 4 A117 R.1.leases.length ((R.1.leases).flatMap Ls.cells), .loc b51 (FMap Try.prog 3 (fun y => if y = 4 then some (.func (.func 148) #[.pointer (some ⟨b19, 0, none⟩)] #[]) else (fun y => if y = 3 then some (.func (.func 147) #[.pointer (some ⟨b19, 0, none⟩)] #[]) else (fun y => if y = 2 then some (.func (.func 146) #[.pointer (some ⟨b19, 0, none⟩)] #[]) else (fun y => if y = 1 then some (.func (.func 145) #[.pointer (some ⟨b19, 0, none⟩)] #[]) else (fun _ => none) y) y) y) y) 4), .blk b4 #[.int .i64 3, .int .i64 ((k : Nat) : Int), .int .i64 id, .int .i64 bd, .int .i64 he, .int .i64 hn] 37, .blk b1 (qRow ep nx gv (.slice A1 rs.length c1) (.slice A2 ls.length c2) W) 29, .rd 2 A1 rs.length ((rs).flatMap Msg.cells), .rd 4 A2 ls.length ((ls).flatMap Ls.cells)]) (n := 10) (listed := #[false, false, false, false, false, false, false, false, false, false]) mixed rfl rfl ?_
        refine wA_take (v := .pointer (some ⟨b19, 0, none⟩)) (i := 0) (n := 9) (listed' := #[true, false, false, false, false, false, false, false, false, false]) rfl (by kernel_rfl) (by kernel_rfl) (by kernel_rfl) (St.del 5 (St.del 6 S126)) rfl (wn rfl) rfl rfl (fun _ _ => (y_move rfl rfl)) ?_
        refine wA_take (v := .pointer (some ⟨b19, 0, none⟩)) (i := 1) (n := 8) (listed' := #[true, true, false, false, false, false, false, false, false, false]) rfl (by kernel_rfl) (by kernel_rfl) (by kernel_rfl) (St.del 5 (St.del 6 S126)) rfl (wn rfl) rfl rfl (fun _ _ => (y_nil rfl rfl trivial)) ?_
        refine wA_take (v := .pointer (some ⟨b19, 0, none⟩)) (i := 2) (n := 7) (listed' := #[true, true, true, false, false, false, false, false, false, false]) rfl (by kernel_rfl) (by kernel_rfl) (by kernel_rfl) (St.del 5 (St.del 6 S126)) rfl (wn rfl) rfl rfl (fun _ _ => (y_fieldAddr rfl rfl (fa190_0 _ _ _))) ?_
        refine wA_take (v := .agg (qRow R.1.ep R.1.nx R.1.gv (.slice A115 R.1.ready.length c116) (.slice A117 R.1.leases.length c118) R.1.ws)) (i := 3) (n := 6) (listed' := #[true, true, true, true, false, false, false, false, false, false]) rfl (by kernel_rfl) (by kernel_rfl) (by kernel_rfl) (St.del 5 (St.del 6 S126)) rfl (wn rfl) rfl rfl (fun _ Sx130 => (y_load rfl rfl (r_load_row 1 Sx130 rfl Try.underlying29 rfl inf29 rfl))) ?_
        refine wA_take (v := .agg #[.int .i64 R.2.1.code, .int .i64 R.2.1.hep, .int .i64 R.2.1.hno, .int .i64 R.2.1.body]) (i := 4) (n := 5) (listed' := #[true, true, true, true, true, false, false, false, false, false]) rfl (by kernel_rfl) (by kernel_rfl) (by kernel_rfl) (St.del 5 (St.del 6 S126)) rfl (wn rfl) rfl rfl (fun _ Sx131 => (y_load rfl rfl (r_load_row 0 Sx131 rfl Try.underlying93 rfl inf93 rfl))) ?_
        refine wA_take (v := .bool R.2.2) (i := 5) (n := 4) (listed' := #[true, true, true, true, true, true, false, false, false, false]) rfl (by kernel_rfl) (by kernel_rfl) (by kernel_rfl) (St.del 5 (St.del 6 S126)) rfl (wn rfl) rfl rfl (fun _ _ => (y_move rfl rfl)) ?_
        refine wA_one (n := 3) (r := 6) (by kernel_rfl) ?_
        refine wN_st (i := 6) (listed' := #[true, true, true, true, true, true, true, false, false, false]) rfl rfl (cs := qRow R.1.ep R.1.nx R.1.gv (.slice A115 R.1.ready.length c116) (.slice A117 R.1.leases.length c118) R.1.ws) (row' := qRow R.1.ep R.1.nx R.1.gv (.slice A115 R.1.ready.length c116) (.slice A117 R.1.leases.length c118) R.1.ws) (fs' := [_, _, _, _, _, _, .blk b7 (qRow R.1.ep R.1.nx R.1.gv (.slice A115 R.1.ready.length c116) (.slice A117 R.1.leases.length c118) R.1.ws) 29, _, _, _, _]) 6 S126 (wn rfl) rfl rfl rfl rfl rfl rfl inf29 rfl (qRow_one rfl rfl) (Nat.le_of_ble_eq_true rfl) (setAll_all rfl) rfl ?_
        intro w133 S134
        clear S126
        refine ⟨(St.del 5 (St.del 6 S134)), ?_⟩
        refine wA_one (n := 2) (r := 7) (by kernel_rfl) ?_
        refine wN_st (i := 7) (listed' := #[true, true, true, true, true, true, true, true, false, false]) rfl rfl (cs := #[.int .i64 R.2.1.code, .int .i64 R.2.1.hep, .int .i64 R.2.1.hno, .int .i64 R.2.1.body]) (row' := #[.int .i64 R.2.1.code, .int .i64 R.2.1.hep, .int .i64 R.2.1.hno, .int .i64 R.2.1.body]) (fs' := [_, _, _, _, _, .blk b10 #[.int .i64 R.2.1.code, .int .i64 R.2.1.hep, .int .i64 R.2.1.hno, .int .i64 R.2.1.body] 93, _, _, _, _, _]) 5 S134 (wn rfl) rfl rfl rfl rfl rfl rfl inf93 rfl (oneAll rfl) (Nat.le_of_ble_eq_true rfl) (setAll_all rfl) rfl ?_
        intro w135 S136
        clear S134
        refine ⟨(St.del 5 (St.del 6 S136)), ?_⟩
        refine wA_take (v := .bool R.2.2) (i := 8) (n := 1) (listed' := #[true, true, true, true, true, true, true, true, true, false]) rfl (by kernel_rfl) (by kernel_rfl) (by kernel_rfl) (St.del 5 (St.del 6 S136)) rfl (wn rfl) rfl rfl (fun _ _ => (y_assign rfl rfl)) ?_
        refine wA_take (v := .int .i64 0) (i := 9) (n := 0) (listed' := #[true, true, true, true, true, true, true, true, true, true]) rfl (by kernel_rfl) (by kernel_rfl) (by kernel_rfl) (St.del 5 (St.del 6 S136)) rfl (wn rfl) rfl rfl (fun _ _ => (y_assign rfl rfl)) ?_
        refine wA_done (by kernel_rfl) ?_
        refine wQ_sub (l' := [(4, _), (5, _), (6, _), (7, _)]) ⟨rfl, rfl, rfl, rfl, trivial⟩ ?_
        refine wQ_then ?_
        refine wC_ret ?_
        refine wQ_post (rs := [.cell 4 29, .cell 5 93, .tmp 6, .tmp 7]) (vs := [.agg (qRow R.1.ep R.1.nx R.1.gv (.slice A115 R.1.ready.length c116) (.slice A117 R.1.leases.length c118) R.1.ws), .agg #[.int .i64 R.2.1.code, .int .i64 R.2.1.hep, .int .i64 R.2.1.hno, .int .i64 R.2.1.body], .bool R.2.2, .int .i64 0]) rfl ⟨⟨_, rfl, res_row 6 S136 rfl Try.underlying29 rfl inf29⟩, ⟨_, rfl, res_row 5 S136 rfl Try.underlying93 rfl inf93⟩, rfl, rfl, trivial⟩ ?_
        have S139 : St w.heap.size w w135 [_, _] := (St.del 0 (St.del 1 (St.del 4 (St.del 5 (St.del 6 (St.del 7 (St.del 8 (St.del 9 (St.del 10 S136)))))))))
        clear S136
        rw [do_ok (Q := ⟨ep, nx, gv, rs, ls, W⟩) h0 h1, hRM]
        exact ⟨A115, c116, A117, c118, rfl, S139⟩
      · refine wL_val (v := .func (.func 148) #[.pointer (some ⟨b19, 0, none⟩)] #[]) (wn rfl) rfl rfl (y_lookF 0 S61 rfl rfl rfl rfl Try.underlying3 Try.underlying194 (Try.zeroValue193 _) (by decide) rfl) ?_
        refine wL_val (v := .func (.func 148) #[.pointer (some ⟨b19, 0, none⟩)] #[]) (wn rfl) rfl rfl (y_assign rfl rfl) ?_
        refine wL_nil ?_
        refine wQ_sub (l' := [(3, _), (4, _), (5, _), (6, _), (7, _), (10, _), (11, _)]) ⟨rfl, rfl, rfl, rfl, rfl, rfl, rfl, trivial⟩ ?_
        refine wQ_then ?_
        refine wC_seq ?_
        refine wC_region ?_
        refine wL_val (v := .func (.func 148) #[.pointer (some ⟨b19, 0, none⟩)] #[]) (wn rfl) rfl rfl (y_move rfl rfl) ?_
        refine wL_val (v := .agg #[.int .i64 4, .int .i64 ((k : Nat) : Int), .int .i64 id, .int .i64 bd, .int .i64 he, .int .i64 hn]) (wn rfl) rfl rfl (y_load rfl rfl (r_load_row 6 S61 rfl Try.underlying37 rfl inf37 rfl)) ?_
        have S140 : St w.heap.size w w60 [.blk b19 (qRow ep nx gv (.slice A29 rs.length c30) (.slice A35 ls.length c36) W) 190, .own 137 2 (.slice A29 rs.length c30) rs.length ((rs).flatMap Msg.cells), .own 141 4 (.slice A35 ls.length c36) ls.length ((ls).flatMap Ls.cells), .loc b51 (FMap Try.prog 3 (fun y => if y = 4 then some (.func (.func 148) #[.pointer (some ⟨b19, 0, none⟩)] #[]) else (fun y => if y = 3 then some (.func (.func 147) #[.pointer (some ⟨b19, 0, none⟩)] #[]) else (fun y => if y = 2 then some (.func (.func 146) #[.pointer (some ⟨b19, 0, none⟩)] #[]) else (fun y => if y = 1 then some (.func (.func 145) #[.pointer (some ⟨b19, 0, none⟩)] #[]) else (fun _ => none) y) y) y) y) 4), .blk b10 #[.int .i64 0, .int .i64 0, .int .i64 0, .int .i64 0] 93, .blk b7 (qRow 0 0 0 (.slice none 0 0) (.slice none 0 0) zeroWs) 29, .blk b4 #[.int .i64 4, .int .i64 ((k : Nat) : Int), .int .i64 id, .int .i64 bd, .int .i64 he, .int .i64 hn] 37, .blk b1 (qRow ep nx gv (.slice A1 rs.length c1) (.slice A2 ls.length c2) W) 29, .rd 2 A1 rs.length ((rs).flatMap Msg.cells), .rd 4 A2 ls.length ((ls).flatMap Ls.cells)] := S61.re [3, 2, 1, 0, 4, 5, 6, 7, 8, 9] (by decide)
        clear S61
        have HC := end_calls (kd := 4) (k := k) (id := id) (bd := bd) (he := he) (hn := hn) S140 hk (by omega) (by omega) (by omega) (by omega) (rdy_asc hRd) hNd
        rw [← show stepM ⟨ep, nx, gv, rs, ls, W⟩ ⟨4, ((k : Nat) : Int), id, bd, he, hn⟩ = endM ⟨ep, nx, gv, rs, ls, W⟩ from by simp [stepM]] at HC
        obtain ⟨R, hRM⟩ : ∃ R, stepM ⟨ep, nx, gv, rs, ls, W⟩ ⟨4, ((k : Nat) : Int), id, bd, he, hn⟩ = R := ⟨_, rfl⟩
        rw [hRM] at HC
        refine wL_call (vs := [.pointer (some ⟨b19, 0, none⟩), .agg #[.int .i64 4, .int .i64 ((k : Nat) : Int), .int .i64 id, .int .i64 bd, .int .i64 he, .int .i64 hn]]) (wn rfl) rfl rfl (e_callv (first := [.pointer (some ⟨b19, 0, none⟩)]) (cap := []) (vs := [.agg #[.int .i64 4, .int .i64 ((k : Nat) : Int), .int .i64 id, .int .i64 bd, .int .i64 he, .int .i64 hn]]) rfl rfl en148 ⟨rfl, trivial⟩ rfl) (HC) ?_
        rintro _ w145 ⟨rfl, A141, c142, A143, c144, S146⟩
        refine ⟨_, rfl, ?_⟩
        clear HC S140
        change St _ _ _ [.blk b19 (qRow R.1.ep R.1.nx R.1.gv (.slice A141 R.1.ready.length c142) (.slice A143 R.1.leases.length c144) R.1.ws) 190, .rdo 2 A141 R.1.ready.length ((R.1.ready).flatMap Msg.cells), .rdo 4 A143 R.1.leases.length ((R.1.leases).flatMap Ls.cells), .loc b51 (FMap Try.prog 3 (fun y => if y = 4 then some (.func (.func 148) #[.pointer (some ⟨b19, 0, none⟩)] #[]) else (fun y => if y = 3 then some (.func (.func 147) #[.pointer (some ⟨b19, 0, none⟩)] #[]) else (fun y => if y = 2 then some (.func (.func 146) #[.pointer (some ⟨b19, 0, none⟩)] #[]) else (fun y => if y = 1 then some (.func (.func 145) #[.pointer (some ⟨b19, 0, none⟩)] #[]) else (fun _ => none) y) y) y) y) 4), .blk b10 #[.int .i64 0, .int .i64 0, .int .i64 0, .int .i64 0] 93, .blk b7 (qRow 0 0 0 (.slice none 0 0) (.slice none 0 0) zeroWs) 29, .blk b4 #[.int .i64 4, .int .i64 ((k : Nat) : Int), .int .i64 id, .int .i64 bd, .int .i64 he, .int .i64 hn] 37, .blk b1 (qRow ep nx gv (.slice A1 rs.length c1) (.slice A2 ls.length c2) W) 29, .rd 2 A1 rs.length ((rs).flatMap Msg.cells), .rd 4 A2 ls.length ((ls).flatMap Ls.cells)] at S146
        refine wL_val (v := .tuple #[.agg #[.int .i64 R.2.1.code, .int .i64 R.2.1.hep, .int .i64 R.2.1.hno, .int .i64 R.2.1.body], .bool R.2.2]) (wn rfl) rfl rfl (y_move rfl rfl) ?_
        refine wL_val (v := .agg #[.int .i64 R.2.1.code, .int .i64 R.2.1.hep, .int .i64 R.2.1.hno, .int .i64 R.2.1.body]) (wn rfl) rfl rfl (y_extract rfl rfl rfl) ?_
        refine wL_val (v := .bool R.2.2) (wn rfl) rfl rfl (y_extract rfl rfl rfl) ?_
        refine wL_new (V := fun b => .pointer (some ⟨b, 0, none⟩)) (row := #[.int .i64 0, .int .i64 0, .int .i64 0, .int .i64 0]) (t := 93) S146 (wn rfl) rfl rfl (d_alloc rfl (Try.zeroValue93 _) rfl) ?_
        intro b147 w148 S149
        clear S146
        refine wL_st (cs := #[.int .i64 R.2.1.code, .int .i64 R.2.1.hep, .int .i64 R.2.1.hno, .int .i64 R.2.1.body]) (row' := #[.int .i64 R.2.1.code, .int .i64 R.2.1.hep, .int .i64 R.2.1.hno, .int .i64 R.2.1.body]) (fs' := [.blk b147 #[.int .i64 R.2.1.code, .int .i64 R.2.1.hep, .int .i64 R.2.1.hno, .int .i64 R.2.1.body] 93, _, _, _, _, _, _, _, _, _, _]) 0 S149 (wn rfl) rfl rfl rfl rfl rfl rfl inf93 rfl (oneAll rfl) (Nat.le_of_ble_eq_true rfl) (setAll_all rfl) rfl ?_
        intro w150 S151
        clear S149
        refine wL_val (v := .bool R.2.2) (wn rfl) rfl rfl (y_assign rfl rfl) ?_
        refine wL_nil ?_
        refine wQ_sub (l' := [(4, _), (5, _), (6, _), (7, _), (10, _), (12, _), (13, _)]) ⟨rfl, rfl, rfl, rfl, rfl, rfl, rfl, trivial⟩ ?_
        refine wQ_then ?_
        refine wC_seq ?_
        have S152 := S151.drew
        clear S151
        refine wC_any_ (C := fun w' => St w.heap.size w w' [.blk b147 #[.int .i64 R.2.1.code, .int .i64 R.2.1.hep, .int .i64 R.2.1.hno, .int .i64 R.2.1.body] 93, .blk b19 (qRow R.1.ep R.1.nx R.1.gv (.slice A141 R.1.ready.length c142) (.slice A143 R.1.leases.length c144) R.1.ws) 190, .rdo 2 A141 R.1.ready.length ((R.1.ready).flatMap Msg.cells), .rdo 4 A143 R.1.leases.length ((R.1.leases).flatMap Ls.cells), .loc b51 (FMap Try.prog 3 (fun y => if y = 4 then some (.func (.func 148) #[.pointer (some ⟨b19, 0, none⟩)] #[]) else (fun y => if y = 3 then some (.func (.func 147) #[.pointer (some ⟨b19, 0, none⟩)] #[]) else (fun y => if y = 2 then some (.func (.func 146) #[.pointer (some ⟨b19, 0, none⟩)] #[]) else (fun y => if y = 1 then some (.func (.func 145) #[.pointer (some ⟨b19, 0, none⟩)] #[]) else (fun _ => none) y) y) y) y) 4), .blk b4 #[.int .i64 4, .int .i64 ((k : Nat) : Int), .int .i64 id, .int .i64 bd, .int .i64 he, .int .i64 hn] 37, .blk b1 (qRow ep nx gv (.slice A1 rs.length c1) (.slice A2 ls.length c2) W) 29, .rd 2 A1 rs.length ((rs).flatMap Msg.cells), .rd 4 A2 ls.length ((ls).flatMap Ls.cells)]) (n := 10) (listed := #[false, false, false, false, false, false, false, false, false, false]) mixed rfl rfl ?_
        refine wA_take (v := .pointer (some ⟨b19, 0, none⟩)) (i := 0) (n := 9) (listed' := #[true, false, false, false, false, false, false, false, false, false]) rfl (by kernel_rfl) (by kernel_rfl) (by kernel_rfl) (St.del 5 (St.del 6 S152)) rfl (wn rfl) rfl rfl (fun _ _ => (y_move rfl rfl)) ?_
        refine wA_take (v := .pointer (some ⟨b19, 0, none⟩)) (i := 1) (n := 8) (listed' := #[true, true, false, false, false, false, false, false, false, false]) rfl (by kernel_rfl) (by kernel_rfl) (by kernel_rfl) (St.del 5 (St.del 6 S152)) rfl (wn rfl) rfl rfl (fun _ _ => (y_nil rfl rfl trivial)) ?_
        refine wA_take (v := .pointer (some ⟨b19, 0, none⟩)) (i := 2) (n := 7) (listed' := #[true, true, true, false, false, false, false, false, false, false]) rfl (by kernel_rfl) (by kernel_rfl) (by kernel_rfl) (St.del 5 (St.del 6 S152)) rfl (wn rfl) rfl rfl (fun _ _ => (y_fieldAddr rfl rfl (fa190_0 _ _ _))) ?_
        refine wA_take (v := .agg (qRow R.1.ep R.1.nx R.1.gv (.slice A141 R.1.ready.length c142) (.slice A143 R.1.leases.length c144) R.1.ws)) (i := 3) (n := 6) (listed' := #[true, true, true, true, false, false, false, false, false, false]) rfl (by kernel_rfl) (by kernel_rfl) (by kernel_rfl) (St.del 5 (St.del 6 S152)) rfl (wn rfl) rfl rfl (fun _ Sx156 => (y_load rfl rfl (r_load_row 1 Sx156 rfl Try.underlying29 rfl inf29 rfl))) ?_
        refine wA_take (v := .agg #[.int .i64 R.2.1.code, .int .i64 R.2.1.hep, .int .i64 R.2.1.hno, .int .i64 R.2.1.body]) (i := 4) (n := 5) (listed' := #[true, true, true, true, true, false, false, false, false, false]) rfl (by kernel_rfl) (by kernel_rfl) (by kernel_rfl) (St.del 5 (St.del 6 S152)) rfl (wn rfl) rfl rfl (fun _ Sx157 => (y_load rfl rfl (r_load_row 0 Sx157 rfl Try.underlying93 rfl inf93 rfl))) ?_
        refine wA_take (v := .bool R.2.2) (i := 5) (n := 4) (listed' := #[true, true, true, true, true, true, false, false, false, false]) rfl (by kernel_rfl) (by kernel_rfl) (by kernel_rfl) (St.del 5 (St.del 6 S152)) rfl (wn rfl) rfl rfl (fun _ _ => (y_move rfl rfl)) ?_
        refine wA_one (n := 3) (r := 6) (by kernel_rfl) ?_
        refine wN_st (i := 6) (listed' := #[true, true, true, true, true, true, true, false, false, false]) rfl rfl (cs := qRow R.1.ep R.1.nx R.1.gv (.slice A141 R.1.ready.length c142) (.slice A143 R.1.leases.length c144) R.1.ws) (row' := qRow R.1.ep R.1.nx R.1.gv (.slice A141 R.1.ready.length c142) (.slice A143 R.1.leases.length c144) R.1.ws) (fs' := [_, _, _, _, _, _, .blk b7 (qRow R.1.ep R.1.nx R.1.gv (.slice A141 R.1.ready.length c142) (.slice A143 R.1.leases.length c144) R.1.ws) 29, _, _, _, _]) 6 S152 (wn rfl) rfl rfl rfl rfl rfl rfl inf29 rfl (qRow_one rfl rfl) (Nat.le_of_ble_eq_true rfl) (setAll_all rfl) rfl ?_
        intro w159 S160
        clear S152
        refine ⟨(St.del 5 (St.del 6 S160)), ?_⟩
        refine wA_one (n := 2) (r := 7) (by kernel_rfl) ?_
        refine wN_st (i := 7) (listed' := #[true, true, true, true, true, true, true, true, false, false]) rfl rfl (cs := #[.int .i64 R.2.1.code, .int .i64 R.2.1.hep, .int .i64 R.2.1.hno, .int .i64 R.2.1.body]) (row' := #[.int .i64 R.2.1.code, .int .i64 R.2.1.hep, .int .i64 R.2.1.hno, .int .i64 R.2.1.body]) (fs' := [_, _, _, _, _, .blk b10 #[.int .i64 R.2.1.code, .int .i64 R.2.1.hep, .int .i64 R.2.1.hno, .int .i64 R.2.1.body] 93, _, _, _, _, _]) 5 S160 (wn rfl) rfl rfl rfl rfl rfl rfl inf93 rfl (oneAll rfl) (Nat.le_of_ble_eq_true rfl) (setAll_all rfl) rfl ?_
        intro w161 S162
        clear S160
        refine ⟨(St.del 5 (St.del 6 S162)), ?_⟩
        refine wA_take (v := .bool R.2.2) (i := 8) (n := 1) (listed' := #[true, true, true, true, true, true, true, true, true, false]) rfl (by kernel_rfl) (by kernel_rfl) (by kernel_rfl) (St.del 5 (St.del 6 S162)) rfl (wn rfl) rfl rfl (fun _ _ => (y_assign rfl rfl)) ?_
        refine wA_take (v := .int .i64 0) (i := 9) (n := 0) (listed' := #[true, true, true, true, true, true, true, true, true, true]) rfl (by kernel_rfl) (by kernel_rfl) (by kernel_rfl) (St.del 5 (St.del 6 S162)) rfl (wn rfl) rfl rfl (fun _ _ => (y_assign rfl rfl)) ?_
        refine wA_done (by kernel_rfl) ?_
        refine wQ_sub (l' := [(4, _), (5, _), (6, _), (7, _)]) ⟨rfl, rfl, rfl, rfl, trivial⟩ ?_
        refine wQ_then ?_
        refine wC_ret ?_
        refine wQ_post (rs := [.cell 4 29, .cell 5 93, .tmp 6, .tmp 7]) (vs := [.agg (qRow R.1.ep R.1.nx R.1.gv (.slice A141 R.1.ready.length c142) (.slice A143 R.1.leases.length c144) R.1.ws), .agg #[.int .i64 R.2.1.code, .int .i64 R.2.1.hep, .int .i64 R.2.1.hno, .int .i64 R.2.1.body], .bool R.2.2, .int .i64 0]) rfl ⟨⟨_, rfl, res_row 6 S162 rfl Try.underlying29 rfl inf29⟩, ⟨_, rfl, res_row 5 S162 rfl Try.underlying93 rfl inf93⟩, rfl, rfl, trivial⟩ ?_
        have S165 : St w.heap.size w w161 [_, _] := (St.del 0 (St.del 1 (St.del 4 (St.del 5 (St.del 6 (St.del 7 (St.del 8 (St.del 9 (St.del 10 S162)))))))))
        clear S162
        rw [do_ok (Q := ⟨ep, nx, gv, rs, ls, W⟩) h0 h1, hRM]
        exact ⟨A141, c142, A143, c144, rfl, S165⟩
    · refine wL_val (v := .bool true) (wn rfl) rfl rfl (y_binop rfl rfl rfl (r_neq_t h1)) ?_
      refine wL_nil ?_
      refine wQ_sub (l' := [(2, _), (3, _), (4, _), (5, _), (6, _), (7, _), (9, _), (24, _)]) ⟨rfl, rfl, rfl, rfl, rfl, rfl, rfl, rfl, trivial⟩ ?_
      refine wQ_then ?_
      refine wC_cond_t rfl ?_
      refine wC_seq ?_
      refine wC_region ?_
      refine wL_val (v := .agg (qRow 0 0 0 (.slice none 0 0) (.slice none 0 0) zeroWs)) (wn rfl) rfl rfl (y_build (vs := []) rfl trivial (by kernel_rfl)) ?_
      refine wL_val (v := .agg #[.int .i64 0, .int .i64 0, .int .i64 0, .int .i64 0]) (wn rfl) rfl rfl (y_build (vs := []) rfl trivial (by kernel_rfl)) ?_
      refine wL_val (v := .int .i64 (evFault ⟨kd, pr, id, bd, he, hn⟩)) (wn rfl) rfl rfl (y_move rfl rfl) ?_
      refine wL_st (cs := qRow 0 0 0 (.slice none 0 0) (.slice none 0 0) zeroWs) (row' := qRow 0 0 0 (.slice none 0 0) (.slice none 0 0) zeroWs) (fs' := [_, .blk b7 (qRow 0 0 0 (.slice none 0 0) (.slice none 0 0) zeroWs) 29, _, _, _, _]) 1 S17 (wn rfl) rfl rfl rfl rfl rfl rfl inf29 rfl (qRow_one rfl rfl) (Nat.le_of_ble_eq_true rfl) (setAll_all rfl) rfl ?_
      intro w166 S167
      clear S17
      refine wL_st (cs := #[.int .i64 0, .int .i64 0, .int .i64 0, .int .i64 0]) (row' := #[.int .i64 0, .int .i64 0, .int .i64 0, .int .i64 0]) (fs' := [.blk b10 #[.int .i64 0, .int .i64 0, .int .i64 0, .int .i64 0] 93, _, _, _, _, _]) 0 S167 (wn rfl) rfl rfl rfl rfl rfl rfl inf93 rfl (oneAll rfl) (Nat.le_of_ble_eq_true rfl) (setAll_all rfl) rfl ?_
      intro w168 S169
      clear S167
      refine wL_val (v := .bool false) (wn rfl) rfl rfl (y_assign rfl rfl) ?_
      refine wL_val (v := .int .i64 (evFault ⟨kd, pr, id, bd, he, hn⟩)) (wn rfl) rfl rfl (y_assign rfl rfl) ?_
      refine wL_nil ?_
      refine wQ_sub (l' := [(4, _), (5, _), (6, _), (7, _)]) ⟨rfl, rfl, rfl, rfl, trivial⟩ ?_
      refine wQ_then ?_
      refine wC_ret ?_
      refine wQ_then_ret ?_
      refine wQ_post (rs := [.cell 4 29, .cell 5 93, .tmp 6, .tmp 7]) (vs := [.agg (qRow 0 0 0 (.slice none 0 0) (.slice none 0 0) zeroWs), .agg #[.int .i64 0, .int .i64 0, .int .i64 0, .int .i64 0], .bool false, .int .i64 (evFault ⟨kd, pr, id, bd, he, hn⟩)]) rfl ⟨⟨_, rfl, res_row 1 S169 rfl Try.underlying29 rfl inf29⟩, ⟨_, rfl, res_row 0 S169 rfl Try.underlying93 rfl inf93⟩, rfl, rfl, trivial⟩ ?_
      have S170 : St w.heap.size w w168 [] := (St.del 0 (St.del 1 (St.del 2 (St.del 3 (St.del 4 (St.del 5 S169))))))
      clear S169
      rw [do_ef (Q := ⟨ep, nx, gv, rs, ls, W⟩) h0 h1]
      exact ⟨none, 0, none, 0, rfl, rdo_nil2 S170⟩
  · refine wL_val (v := .bool true) (wn rfl) rfl rfl (y_binop rfl rfl rfl (r_neq_t h0)) ?_
    refine wL_nil ?_
    refine wQ_sub (l' := [(2, _), (3, _), (4, _), (5, _), (6, _), (7, _), (8, _), (17, _)]) ⟨rfl, rfl, rfl, rfl, rfl, rfl, rfl, rfl, trivial⟩ ?_
    refine wQ_then ?_
    refine wC_cond_t rfl ?_
    refine wC_seq ?_
    refine wC_region ?_
    refine wL_val (v := .agg (qRow 0 0 0 (.slice none 0 0) (.slice none 0 0) zeroWs)) (wn rfl) rfl rfl (y_build (vs := []) rfl trivial (by kernel_rfl)) ?_
    refine wL_val (v := .agg #[.int .i64 0, .int .i64 0, .int .i64 0, .int .i64 0]) (wn rfl) rfl rfl (y_build (vs := []) rfl trivial (by kernel_rfl)) ?_
    refine wL_val (v := .int .i64 (queueFault ep nx gv rs ls W)) (wn rfl) rfl rfl (y_move rfl rfl) ?_
    refine wL_st (cs := qRow 0 0 0 (.slice none 0 0) (.slice none 0 0) zeroWs) (row' := qRow 0 0 0 (.slice none 0 0) (.slice none 0 0) zeroWs) (fs' := [_, .blk b7 (qRow 0 0 0 (.slice none 0 0) (.slice none 0 0) zeroWs) 29, _, _, _, _]) 1 S14 (wn rfl) rfl rfl rfl rfl rfl rfl inf29 rfl (qRow_one rfl rfl) (Nat.le_of_ble_eq_true rfl) (setAll_all rfl) rfl ?_
    intro w171 S172
    clear S14
    refine wL_st (cs := #[.int .i64 0, .int .i64 0, .int .i64 0, .int .i64 0]) (row' := #[.int .i64 0, .int .i64 0, .int .i64 0, .int .i64 0]) (fs' := [.blk b10 #[.int .i64 0, .int .i64 0, .int .i64 0, .int .i64 0] 93, _, _, _, _, _]) 0 S172 (wn rfl) rfl rfl rfl rfl rfl rfl inf93 rfl (oneAll rfl) (Nat.le_of_ble_eq_true rfl) (setAll_all rfl) rfl ?_
    intro w173 S174
    clear S172
    refine wL_val (v := .bool false) (wn rfl) rfl rfl (y_assign rfl rfl) ?_
    refine wL_val (v := .int .i64 (queueFault ep nx gv rs ls W)) (wn rfl) rfl rfl (y_assign rfl rfl) ?_
    refine wL_nil ?_
    refine wQ_sub (l' := [(4, _), (5, _), (6, _), (7, _)]) ⟨rfl, rfl, rfl, rfl, trivial⟩ ?_
    refine wQ_then ?_
    refine wC_ret ?_
    refine wQ_then_ret ?_
    refine wQ_post (rs := [.cell 4 29, .cell 5 93, .tmp 6, .tmp 7]) (vs := [.agg (qRow 0 0 0 (.slice none 0 0) (.slice none 0 0) zeroWs), .agg #[.int .i64 0, .int .i64 0, .int .i64 0, .int .i64 0], .bool false, .int .i64 (queueFault ep nx gv rs ls W)]) rfl ⟨⟨_, rfl, res_row 1 S174 rfl Try.underlying29 rfl inf29⟩, ⟨_, rfl, res_row 0 S174 rfl Try.underlying93 rfl inf93⟩, rfl, rfl, trivial⟩ ?_
    have S175 : St w.heap.size w w173 [] := (St.del 0 (St.del 1 (St.del 2 (St.del 3 (St.del 4 (St.del 5 S174))))))
    clear S174
    rw [do_qf (Q := ⟨ep, nx, gv, rs, ls, W⟩) h0]
    exact ⟨none, 0, none, 0, rfl, rdo_nil2 S175⟩
end Go.Proofs.Ytkjlafpafmihaaa

namespace Go.Proofs.Ytkjlafpafmihaaa
open Go.ChangeShapes Go.WideShapes Go.RowKit

set_option maxRecDepth 100000 in
set_option maxHeartbeats 8000000 in
theorem QueueFault_calls (ep nx gv : Int) (A1 A2 : Option Addr) (c1 c2 : Nat) (rs : List Msg) (ls : List Ls) (W : Wins) (w : World) (h1 : Rd w w.heap.size 2 A1 rs.length (rs.flatMap Msg.cells)) (h2 : Rd w w.heap.size 4 A2 ls.length (ls.flatMap Ls.cells)) (hb1 : rs.length * 16 ≤ reachBytes) (hb2 : ls.length * 32 ≤ reachBytes) :
    Calls Try.prog 32 #[.agg (qRow ep nx gv (.slice A1 rs.length c1) (.slice A2 ls.length c2) W)] w (IPost w (queueFault ep nx gv rs ls W)) := by
  unfold reachBytes at hb1 hb2
  have S := ((St.start w).addRd h2).addRd h1
  refine calls_of_wC (N := 182) (vs := [.agg (qRow ep nx gv (.slice A1 rs.length c1) (.slice A2 ls.length c2) W)]) Try.func32 rfl rfl rfl ?_
  refine wC_sub (l' := [(0, .agg (qRow ep nx gv (.slice A1 rs.length c1) (.slice A2 ls.length c2) W))]) ⟨rfl, trivial⟩ ?_
  refine wC_seq ?_
  refine wC_region ?_
  refine wL_new (V := fun b => .pointer (some ⟨b, 0, none⟩)) (row := qRow ep nx gv (.slice A1 rs.length c1) (.slice A2 ls.length c2) W) (t := 29) S (wn rfl) rfl rfl (d_box rfl rfl rfl) ?_
  intro b1 w2 S3
  clear S
  refine wL_val (v := .int .i64 0) (wn rfl) rfl rfl (y_assign rfl rfl) ?_
  refine wL_nil ?_
  refine wQ_sub (l' := [(1, _), (2, _)]) ⟨rfl, rfl, trivial⟩ ?_
  refine wQ_then ?_
  refine wC_seq ?_
  refine wC_seq ?_
  refine wC_region ?_
  refine wL_val (v := .pointer (some ⟨b1, 0, none⟩)) (wn rfl) rfl rfl (y_fieldAddr rfl rfl (fa29_0 _ _ _)) ?_
  refine wL_val (v := .int .i64 ep) (wn rfl) rfl rfl (y_load rfl rfl (r_load Try.underlying3 rfl (St.cl 0 S3 rfl qRow_g0))) ?_
  by_cases h4 : 0 ≤ ep ∧ ep ≤ 1048576
  · refine wL_call (vs := [.int .i64 ep, .int .i64 0, .int .i64 1048576]) (wn rfl) rfl rfl (e_call (vs := [.int .i64 ep, .int .i64 0, .int .i64 1048576]) rfl en107 ⟨rfl, rfl, rfl, trivial⟩) (In_t h4 _) ?_
    rintro _ w5 ⟨rfl, rfl⟩
    refine ⟨_, rfl, ?_⟩
    refine wL_val (v := .bool false) (wn rfl) rfl rfl (y_unop rfl rfl r_not) ?_
    refine wL_val (v := .bool false) (wn rfl) rfl rfl (y_move rfl rfl) ?_
    refine wL_val (v := .pointer (some ⟨b1, 1, none⟩)) (wg rfl rfl rfl rfl) rfl rfl (y_fieldAddr rfl rfl (fa29_1 _ _ _)) ?_
    refine wL_val (v := .int .i64 nx) (wg rfl rfl rfl rfl) rfl rfl (y_load rfl rfl (r_load Try.underlying3 rfl (St.cl 0 S3 rfl qRow_g1))) ?_
    by_cases h6 : 0 ≤ nx ∧ nx ≤ 1073741824
    · refine wL_call (vs := [.int .i64 nx, .int .i64 0, .int .i64 1073741824]) (wg rfl rfl rfl rfl) rfl rfl (e_call (vs := [.int .i64 nx, .int .i64 0, .int .i64 1073741824]) rfl en107 ⟨rfl, rfl, rfl, trivial⟩) (In_t h6 _) ?_
      rintro _ w7 ⟨rfl, rfl⟩
      refine ⟨_, rfl, ?_⟩
      refine wL_val (v := .bool false) (wg rfl rfl rfl rfl) rfl rfl (y_unop rfl rfl r_not) ?_
      refine wL_val (v := .bool false) (wn rfl) rfl rfl (y_pick_f rfl rfl rfl) ?_
      refine wL_val (v := .bool false) (wn rfl) rfl rfl (y_move rfl rfl) ?_
      refine wL_val (v := .pointer (some ⟨b1, 2, none⟩)) (wg rfl rfl rfl rfl) rfl rfl (y_fieldAddr rfl rfl (fa29_2 _ _ _)) ?_
      refine wL_val (v := .int .i64 gv) (wg rfl rfl rfl rfl) rfl rfl (y_load rfl rfl (r_load Try.underlying3 rfl (St.cl 0 S3 rfl qRow_g2))) ?_
      by_cases h8 : 0 ≤ gv ∧ gv ≤ 1073741824
      · refine wL_call (vs := [.int .i64 gv, .int .i64 0, .int .i64 1073741824]) (wg rfl rfl rfl rfl) rfl rfl (e_call (vs := [.int .i64 gv, .int .i64 0, .int .i64 1073741824]) rfl en107 ⟨rfl, rfl, rfl, trivial⟩) (In_t h8 _) ?_
        rintro _ w9 ⟨rfl, rfl⟩
        refine ⟨_, rfl, ?_⟩
        refine wL_val (v := .bool false) (wg rfl rfl rfl rfl) rfl rfl (y_unop rfl rfl r_not) ?_
        refine wL_val (v := .bool false) (wn rfl) rfl rfl (y_pick_f rfl rfl rfl) ?_
        refine wL_val (v := .bool false) (wn rfl) rfl rfl (y_move rfl rfl) ?_
        refine wL_val (v := .pointer (some ⟨b1, 3, none⟩)) (wg rfl rfl rfl rfl) rfl rfl (y_fieldAddr rfl rfl (fa29_3 _ _ _)) ?_
        refine wL_val (v := .slice A1 rs.length c1) (wg rfl rfl rfl rfl) rfl rfl (y_load rfl rfl (r_load Try.underlying22 rfl (St.cl 0 S3 rfl qRow_g3))) ?_
        refine wL_val (v := .int .i64 ((rs.length : Nat) : Int)) (wg rfl rfl rfl rfl) rfl rfl (y_builtin (vs := [.slice A1 rs.length c1]) rfl ⟨rfl, trivial⟩ fun _ => r_len rfl Try.underlying22) ?_
        refine wL_val (v := .pointer (some ⟨b1, 4, none⟩)) (wg rfl rfl rfl rfl) rfl rfl (y_fieldAddr rfl rfl (fa29_4 _ _ _)) ?_
        refine wL_val (v := .slice A2 ls.length c2) (wg rfl rfl rfl rfl) rfl rfl (y_load rfl rfl (r_load Try.underlying23 rfl (St.cl 0 S3 rfl qRow_g4))) ?_
        refine wL_val (v := .int .i64 ((ls.length : Nat) : Int)) (wg rfl rfl rfl rfl) rfl rfl (y_builtin (vs := [.slice A2 ls.length c2]) rfl ⟨rfl, trivial⟩ fun _ => r_len rfl Try.underlying23) ?_
        refine wL_val (v := .int .i64 ((rs.length + ls.length : Nat) : Int)) (wg rfl rfl rfl rfl) rfl rfl (y_binop rfl rfl rfl (r_add (by omega) (by omega))) ?_
        by_cases h10 : 500 < ((rs.length + ls.length : Nat) : Int)
        · refine wL_val (v := .bool true) (wg rfl rfl rfl rfl) rfl rfl (y_binop rfl rfl rfl (r_gtr_t h10)) ?_
          refine wL_val (v := .bool true) (wn rfl) rfl rfl (y_pick_f rfl rfl rfl) ?_
          refine wL_nil ?_
          refine wQ_sub (l' := [(1, _), (2, _), (36, _)]) ⟨rfl, rfl, rfl, trivial⟩ ?_
          refine wQ_then ?_
          refine wC_cond_t rfl ?_
          refine wC_seq ?_
          refine wC_region ?_
          refine wL_val (v := .int .i64 6) (wn rfl) rfl rfl (y_assign rfl rfl) ?_
          refine wL_nil ?_
          refine wQ_sub (l' := [(1, _), (2, _)]) ⟨rfl, rfl, trivial⟩ ?_
          refine wQ_then ?_
          refine wC_ret ?_
          refine wQ_then_ret ?_
          refine wQ_post (rs := [.tmp 2]) (vs := [.int .i64 6]) rfl ⟨rfl, trivial⟩ ?_
          exact ⟨ret_int_ (qf_rng (by omega)).symm, S3.low⟩
        · refine wL_val (v := .bool false) (wg rfl rfl rfl rfl) rfl rfl (y_binop rfl rfl rfl (r_gtr_f h10)) ?_
          refine wL_val (v := .bool false) (wn rfl) rfl rfl (y_pick_f rfl rfl rfl) ?_
          refine wL_nil ?_
          refine wQ_sub (l' := [(1, _), (2, _), (36, _)]) ⟨rfl, rfl, rfl, trivial⟩ ?_
          refine wQ_then ?_
          refine wC_cond_f rfl ?_
          refine wC_skip ?_
          refine wQ_then ?_
          refine wC_seq ?_
          refine wC_seq ?_
          refine wC_region ?_
          refine wL_val (v := .int .i64 0) (wn rfl) rfl rfl (y_assign rfl rfl) ?_
          refine wL_nil ?_
          refine wQ_sub (l' := [(1, _), (2, _), (3, _)]) ⟨rfl, rfl, rfl, trivial⟩ ?_
          refine wQ_then ?_
          refine wC_block ?_
          refine wC_loop (X := Nat) (fun xv => [(1, .pointer (some ⟨b1, 0, none⟩)), (2, .int .i64 0), (3, .int .i64 ((xv : Nat) : Int))]) (fun xv wr => (xv ≤ 4) ∧ (∀ j, j < xv → winFault (W.at j) = 0) ∧ St w.heap.size w wr [.blk b1 (qRow ep nx gv (.slice A1 rs.length c1) (.slice A2 ls.length c2) W) 29, .rd 2 A1 rs.length ((rs).flatMap Msg.cells), .rd 4 A2 ls.length ((ls).flatMap Ls.cells)]) (fun xv => 4 - xv) (0) ?_ ?_ ?_
          · exact ⟨Nat.zero_le _, fun j hj => absurd hj (Nat.not_lt_zero _), S3⟩
          · exact ⟨rfl, rfl, rfl, trivial⟩
          · rintro k w11 ⟨hi13, hi14, S12⟩
            try dsimp only at hi13 hi14 S12
            clear S3
            refine wC_sub (l' := [(1, .pointer (some ⟨b1, 0, none⟩)), (2, .int .i64 0), (3, .int .i64 ((k : Nat) : Int))]) ⟨rfl, rfl, rfl, trivial⟩ ?_
            refine wC_seq ?_
            refine wC_seq ?_
            refine wC_region ?_
            refine wL_val (v := .int .i64 ((k : Nat) : Int)) (wn rfl) rfl rfl (y_move rfl rfl) ?_
            by_cases h15 : ((k : Nat) : Int) < 4
            · refine wL_val (v := .bool true) (wn rfl) rfl rfl (y_binop rfl rfl rfl (r_lss_t h15)) ?_
              refine wL_nil ?_
              refine wQ_sub (l' := [(1, _), (2, _), (3, _), (38, _)]) ⟨rfl, rfl, rfl, rfl, trivial⟩ ?_
              refine wQ_then ?_
              refine wC_cond_t rfl ?_
              refine wC_skip ?_
              refine wQ_then ?_
              refine wC_seq ?_
              refine wC_block ?_
              refine wC_seq ?_
              refine wC_region ?_
              refine wL_val (v := .int .i64 ((k : Nat) : Int)) (wn rfl) rfl rfl (y_move rfl rfl) ?_
              refine wL_val (v := .pointer (some ⟨b1, 5, none⟩)) (wn rfl) rfl rfl (y_fieldAddr rfl rfl (fa29_5 _ _ _)) ?_
              refine wL_val (v := .pointer (some ⟨b1, 5 + k * 9, none⟩)) (wn rfl) rfl rfl (y_indexAddr rfl rfl rfl (r_indexArr k Try.underlying27 inf26 rfl (by omega))) ?_
              refine wL_val (v := .agg (((W.at k).cells).toArray)) (wn rfl) rfl rfl (y_load rfl rfl (r_load_agg (cs := (W.at k).cells) Try.underlying26 rfl inf26 rfl (St.rg 0 S12 rfl (qRow_wk (by omega))))) ?_
              refine wL_call (vs := [.agg (((W.at k).cells).toArray)]) (wn rfl) rfl rfl (e_call (vs := [.agg (((W.at k).cells).toArray)]) rfl en108 ⟨rfl, trivial⟩) (WindowFault_calls (W.at k) _) ?_
              rintro _ w16 ⟨rfl, hb18⟩
              refine ⟨_, rfl, ?_⟩
              have S17 := S12.on hb18
              clear hb18 S12
              by_cases h19 : winFault (W.at k) = 0
              · refine wL_val (v := .bool false) (wn rfl) rfl rfl (y_binop rfl rfl rfl (r_neq_f h19)) ?_
                refine wL_nil ?_
                refine wQ_sub (l' := [(1, _), (2, _), (3, _), (46, _)]) ⟨rfl, rfl, rfl, rfl, trivial⟩ ?_
                refine wQ_then ?_
                refine wC_cond_f rfl ?_
                refine wC_skip ?_
                refine wQ_blk_n ?_
                refine wQ_then ?_
                refine wC_region ?_
                refine wL_val (v := .int .i64 ((k : Nat) : Int)) (wn rfl) rfl rfl (y_move rfl rfl) ?_
                refine wL_val (v := .int .i64 ((k + 1 : Nat) : Int)) (wn rfl) rfl rfl (y_binop rfl rfl rfl (r_add (by omega) (by omega))) ?_
                refine wL_val (v := .int .i64 ((k + 1 : Nat) : Int)) (wn rfl) rfl rfl (y_assign rfl rfl) ?_
                refine wL_nil ?_
                refine wQ_sub (l' := [(1, _), (2, _), (3, _)]) ⟨rfl, rfl, rfl, trivial⟩ ?_
                refine wQ_round (k + 1) ?_ ⟨rfl, rfl, rfl, trivial⟩ (by first | omega | (dsimp only; omega))
                exact ⟨(by omega), (fun j hj => (Nat.lt_succ_iff_lt_or_eq.1 hj).elim (fun h => hi14 j h) (fun h => by rw [h]; exact h19)), S17⟩
              · refine wL_val (v := .bool true) (wn rfl) rfl rfl (y_binop rfl rfl rfl (r_neq_t h19)) ?_
                refine wL_nil ?_
                refine wQ_sub (l' := [(1, _), (2, _), (3, _), (46, _)]) ⟨rfl, rfl, rfl, rfl, trivial⟩ ?_
                refine wQ_then ?_
                refine wC_cond_t rfl ?_
                refine wC_seq ?_
                refine wC_region ?_
                refine wL_val (v := .int .i64 6) (wn rfl) rfl rfl (y_assign rfl rfl) ?_
                refine wL_nil ?_
                refine wQ_sub (l' := [(1, _), (2, _)]) ⟨rfl, rfl, trivial⟩ ?_
                refine wQ_then ?_
                refine wC_ret ?_
                refine wQ_blk_ret ?_
                refine wQ_then_ret ?_
                refine wQ_then_ret ?_
                refine wQ_blk_ret ?_
                refine wQ_then_ret ?_
                refine wQ_post (rs := [.tmp 2]) (vs := [.int .i64 6]) rfl ⟨rfl, trivial⟩ ?_
                exact ⟨ret_int_ (qf_win (j := k) (by omega) h19).symm, S17.low⟩
            · refine wL_val (v := .bool false) (wn rfl) rfl rfl (y_binop rfl rfl rfl (r_lss_f h15)) ?_
              refine wL_nil ?_
              refine wQ_sub (l' := [(1, _), (2, _), (3, _), (38, _)]) ⟨rfl, rfl, rfl, rfl, trivial⟩ ?_
              refine wQ_then ?_
              refine wC_cond_f rfl ?_
              refine wC_exit ?_
              refine wQ_then_exit ?_
              refine wQ_then_exit ?_
              refine wQ_blk_same ?_
              refine wQ_then ?_
              refine wC_seq ?_
              refine wC_region ?_
              have hW20 : winsOk W := fun j hj => hi14 j (by omega)
              have S21 := S12.nil 3 1
              refine wL_val (v := .slice none 0 0) (wn rfl) rfl rfl (y_assign rfl rfl) ?_
              refine wL_nil ?_
              refine wQ_sub (l' := [(1, _), (2, _), (4, _)]) ⟨rfl, rfl, rfl, trivial⟩ ?_
              refine wQ_then ?_
              refine wC_seq ?_
              refine wC_seq ?_
              refine wC_region ?_
              refine wL_val (v := .int .i64 0) (wn rfl) rfl rfl (y_assign rfl rfl) ?_
              refine wL_nil ?_
              refine wQ_then ?_
              refine wC_block ?_
              refine wC_loop (X := Nat × (Option Addr) × Nat) (fun xv => [(1, .pointer (some ⟨b1, 0, none⟩)), (2, .int .i64 0), (4, .slice xv.2.1 xv.1 xv.2.2), (5, .int .i64 ((xv.1 : Nat) : Int))]) (fun xv wr => (xv.1 ≤ rs.length) ∧ (rdyFrom nx (-1) rs = rdyFrom nx (prevNo rs xv.1) (rs.drop xv.1)) ∧ St w.heap.size w wr [.own 3 1 (.slice xv.2.1 xv.1 xv.2.2) xv.1 (((rs.take xv.1).map (·.no)).flatMap oneI), .blk b1 (qRow ep nx gv (.slice A1 rs.length c1) (.slice A2 ls.length c2) W) 29, .rd 2 A1 rs.length ((rs).flatMap Msg.cells), .rd 4 A2 ls.length ((ls).flatMap Ls.cells)]) (fun xv => rs.length - xv.1) (0, none, 0) ?_ ?_ ?_
              · exact ⟨Nat.zero_le _, rfl, S21⟩
              · exact ⟨rfl, rfl, rfl, rfl, trivial⟩
              · rintro ⟨k, A4, c4⟩ w22 ⟨hi24, hi25, S23⟩
                try dsimp only at hi24 hi25 S23
                clear S21
                refine wC_sub (l' := [(1, .pointer (some ⟨b1, 0, none⟩)), (2, .int .i64 0), (4, .slice A4 k c4), (5, .int .i64 ((k : Nat) : Int))]) ⟨rfl, rfl, rfl, rfl, trivial⟩ ?_
                refine wC_seq ?_
                refine wC_seq ?_
                refine wC_region ?_
                refine wL_val (v := .int .i64 ((k : Nat) : Int)) (wn rfl) rfl rfl (y_move rfl rfl) ?_
                refine wL_val (v := .pointer (some ⟨b1, 3, none⟩)) (wn rfl) rfl rfl (y_fieldAddr rfl rfl (fa29_3 _ _ _)) ?_
                refine wL_val (v := .slice A1 rs.length c1) (wn rfl) rfl rfl (y_load rfl rfl (r_load Try.underlying22 rfl (St.cl 1 S23 rfl qRow_g3))) ?_
                refine wL_val (v := .int .i64 ((rs.length : Nat) : Int)) (wn rfl) rfl rfl (y_builtin (vs := [.slice A1 rs.length c1]) rfl ⟨rfl, trivial⟩ fun _ => r_len rfl Try.underlying22) ?_
                by_cases h26 : ((k : Nat) : Int) < ((rs.length : Nat) : Int)
                · refine wL_val (v := .bool true) (wn rfl) rfl rfl (y_binop rfl rfl rfl (r_lss_t h26)) ?_
                  refine wL_nil ?_
                  refine wQ_sub (l' := [(1, _), (2, _), (4, _), (5, _), (51, _)]) ⟨rfl, rfl, rfl, rfl, rfl, trivial⟩ ?_
                  refine wQ_then ?_
                  refine wC_cond_t rfl ?_
                  refine wC_skip ?_
                  refine wQ_then ?_
                  refine wC_seq ?_
                  refine wC_block ?_
                  refine wC_seq ?_
                  refine wC_region ?_
                  refine wL_val (v := .pointer (some ⟨b1, 3, none⟩)) (wn rfl) rfl rfl (y_fieldAddr rfl rfl (fa29_3 _ _ _)) ?_
                  refine wL_val (v := .slice A1 rs.length c1) (wn rfl) rfl rfl (y_load rfl rfl (r_load Try.underlying22 rfl (St.cl 1 S23 rfl qRow_g3))) ?_
                  refine wL_val (v := .int .i64 ((k : Nat) : Int)) (wn rfl) rfl rfl (y_move rfl rfl) ?_
                  obtain ⟨b27, o28, rfl⟩ := Rd.addr (St.rd 2 S23 rfl) (by omega)
                  obtain ⟨x29, hx30⟩ : ∃ x, (rs)[k]? = some x := ⟨_, List.getElem?_eq_getElem (by have := (St.rd 2 S23 rfl).1; rw [fm_len (sz := 2) (fun _ => rfl)] at this; omega)⟩
                  refine wL_val (v := .pointer (some ⟨b27, o28 + k * 2, none⟩)) (wn rfl) rfl rfl (y_indexAddr rfl rfl rfl (r_indexAddr k Try.underlying22 inf137 (by omega) (by omega))) ?_
                  refine wL_val (v := .agg #[.int .i64 x29.no, .int .i64 x29.body]) (wn rfl) rfl rfl (y_load rfl rfl (r_load_agg (cs := Msg.cells x29) Try.underlying137 rfl inf137 rfl (Rd.rg2 (St.rd 2 S23 rfl) (fun _ _ h => fm_get (enc := Msg.cells) (sz := 2) (fun _ => rfl) hx30 h)))) ?_
                  refine wL_new (V := fun b => .pointer (some ⟨b, 0, none⟩)) (row := #[.int .i64 0, .int .i64 0]) (t := 137) S23 (wn rfl) rfl rfl (d_alloc rfl (Try.zeroValue137 _) rfl) ?_
                  intro b31 w32 S33
                  clear S23
                  refine wL_st (cs := #[.int .i64 x29.no, .int .i64 x29.body]) (row' := #[.int .i64 x29.no, .int .i64 x29.body]) (fs' := [.blk b31 #[.int .i64 x29.no, .int .i64 x29.body] 137, _, _, _, _]) 0 S33 (wn rfl) rfl rfl rfl rfl rfl rfl inf137 rfl (oneAll rfl) (Nat.le_of_ble_eq_true rfl) (setAll_all rfl) rfl ?_
                  intro w34 S35
                  clear S33
                  refine wL_nil ?_
                  refine wQ_sub (l' := [(1, _), (2, _), (4, _), (5, _), (6, _)]) ⟨rfl, rfl, rfl, rfl, rfl, trivial⟩ ?_
                  refine wQ_then ?_
                  refine wC_seq ?_
                  refine wC_seq ?_
                  refine wC_quiet S35 mixed (by kernel_rfl) ?_
                  refine wU_val (v := .pointer (some ⟨b31, 0, none⟩)) (wn rfl) rfl rfl (fun _ _ => (y_fieldAddr rfl rfl (fa137_0 _ _ _))) ?_
                  refine wU_val (v := .int .i64 x29.no) (wn rfl) rfl rfl (fun _ Sx37 => (y_load rfl rfl (r_load Try.underlying3 rfl (St.cl 0 Sx37 rfl rfl)))) ?_
                  refine wU_val (v := .pointer (some ⟨b1, 1, none⟩)) (wn rfl) rfl rfl (fun _ _ => (y_fieldAddr rfl rfl (fa29_1 _ _ _))) ?_
                  refine wU_val (v := .int .i64 nx) (wn rfl) rfl rfl (fun _ Sx39 => (y_load rfl rfl (r_load Try.underlying3 rfl (St.cl 2 Sx39 rfl qRow_g1)))) ?_
                  refine wU_val (v := .int .i64 (nx - 1)) (wn rfl) rfl rfl (fun _ _ => (y_binop rfl rfl rfl (r_sub (by omega) (by omega)))) ?_
                  by_cases h41 : 0 ≤ x29.no ∧ x29.no ≤ nx - 1
                  · refine wU_call (v := .bool true) (vs := [.int .i64 x29.no, .int .i64 0, .int .i64 (nx - 1)]) (wn rfl) rfl rfl (fun _ => (e_call (vs := [.int .i64 x29.no, .int .i64 0, .int .i64 (nx - 1)]) rfl en107 ⟨rfl, rfl, rfl, trivial⟩)) (fun _ Sx42 => (In_t h41 _).mono fun _ _ h => ⟨h.1, h.2 ▸ Sx42⟩) ?_
                    refine wU_val (v := .bool false) (wn rfl) rfl rfl (fun _ _ => (y_unop rfl rfl r_not)) ?_
                    refine wU_val (v := .bool false) (wn rfl) rfl rfl (fun _ _ => (y_move rfl rfl)) ?_
                    refine wU_val (v := .pointer (some ⟨b31, 1, none⟩)) (wg rfl rfl rfl rfl) rfl rfl (fun _ _ => (y_fieldAddr rfl rfl (fa137_1 _ _ _))) ?_
                    refine wU_val (v := .int .i64 x29.body) (wg rfl rfl rfl rfl) rfl rfl (fun _ Sx46 => (y_load rfl rfl (r_load Try.underlying3 rfl (St.cl 0 Sx46 rfl rfl)))) ?_
                    by_cases h47 : 0 ≤ x29.body ∧ x29.body ≤ 1000000
                    · refine wU_call (v := .bool true) (vs := [.int .i64 x29.body, .int .i64 0, .int .i64 1000000]) (wg rfl rfl rfl rfl) rfl rfl (fun _ => (e_call (vs := [.int .i64 x29.body, .int .i64 0, .int .i64 1000000]) rfl en107 ⟨rfl, rfl, rfl, trivial⟩)) (fun _ Sx48 => (In_t h47 _).mono fun _ _ h => ⟨h.1, h.2 ▸ Sx48⟩) ?_
                      refine wU_val (v := .bool false) (wg rfl rfl rfl rfl) rfl rfl (fun _ _ => (y_unop rfl rfl r_not)) ?_
                      refine wU_val (v := .bool false) (wn rfl) rfl rfl (fun _ _ => (y_pick_f rfl rfl rfl)) ?_
                      refine wU_val (v := .bool false) (wn rfl) rfl rfl (fun _ _ => (y_move rfl rfl)) ?_
                      refine wU_val (v := .int .i64 ((k : Nat) : Int)) (wg rfl rfl rfl rfl) rfl rfl (fun _ _ => (y_move rfl rfl)) ?_
                      by_cases h53 : (0 : Int) < ((k : Nat) : Int)
                      · refine wU_val (v := .bool true) (wg rfl rfl rfl rfl) rfl rfl (fun _ _ => (y_binop rfl rfl rfl (r_gtr_t h53))) ?_
                        refine wU_val (v := .bool true) (wg rfl rfl rfl rfl) rfl rfl (fun _ _ => (y_move rfl rfl)) ?_
                        refine wU_val (v := .pointer (some ⟨b31, 0, none⟩)) (wg rfl rfl rfl rfl) rfl rfl (fun _ _ => (y_fieldAddr rfl rfl (fa137_0 _ _ _))) ?_
                        refine wU_val (v := .int .i64 x29.no) (wg rfl rfl rfl rfl) rfl rfl (fun _ Sx57 => (y_load rfl rfl (r_load Try.underlying3 rfl (St.cl 0 Sx57 rfl rfl)))) ?_
                        refine wU_val (v := .pointer (some ⟨b1, 3, none⟩)) (wg rfl rfl rfl rfl) rfl rfl (fun _ _ => (y_fieldAddr rfl rfl (fa29_3 _ _ _))) ?_
                        refine wU_val (v := .slice (some ⟨b27, o28, none⟩) rs.length c1) (wg rfl rfl rfl rfl) rfl rfl (fun _ Sx59 => (y_load rfl rfl (r_load Try.underlying22 rfl (St.cl 2 Sx59 rfl qRow_g3)))) ?_
                        refine wU_val (v := .int .i64 ((k : Nat) : Int)) (wg rfl rfl rfl rfl) rfl rfl (fun _ _ => (y_move rfl rfl)) ?_
                        refine wU_val (v := .int .i64 ((k - 1 : Nat) : Int)) (wg rfl rfl rfl rfl) rfl rfl (fun _ _ => (y_binop rfl rfl rfl (r_sub (by omega) (by omega)))) ?_
                        obtain ⟨x62, hx63⟩ : ∃ x, (rs)[k - 1]? = some x := ⟨_, List.getElem?_eq_getElem (by have := (St.rd 3 S35 rfl).1; rw [fm_len (sz := 2) (fun _ => rfl)] at this; omega)⟩
                        refine wU_val (v := .pointer (some ⟨b27, o28 + (k - 1) * 2, none⟩)) (wg rfl rfl rfl rfl) rfl rfl (fun _ _ => (y_indexAddr rfl rfl rfl (r_indexAddr (k - 1) Try.underlying22 inf137 (by omega) (by omega)))) ?_
                        refine wU_val (v := .pointer (some ⟨b27, o28 + (k - 1) * 2, none⟩)) (wg rfl rfl rfl rfl) rfl rfl (fun _ _ => (y_fieldAddr rfl rfl (fa137_0 _ _ _))) ?_
                        refine wU_val (v := .int .i64 x62.no) (wg rfl rfl rfl rfl) rfl rfl (fun _ Sx66 => (y_load rfl rfl (r_load Try.underlying3 rfl (Rd.cl2 (i := 0) (St.rd 3 Sx66 rfl) (fm_get (enc := Msg.cells) (sz := 2) (fun _ => rfl) hx63 rfl))))) ?_
                        by_cases h67 : x62.no < x29.no
                        · refine wU_val (v := .bool false) (wg rfl rfl rfl rfl) rfl rfl (fun _ _ => (y_binop rfl rfl rfl (r_leq_f (by omega)))) ?_
                          refine wU_val (v := .bool false) (wg rfl rfl rfl rfl) rfl rfl (fun _ _ => (y_pick_t rfl rfl rfl)) ?_
                          refine wU_val (v := .bool false) (wn rfl) rfl rfl (fun _ _ => (y_pick_f rfl rfl rfl)) ?_
                          refine wU_nil fun w71 S72 => ?_
                          clear S35
                          refine wQ_sub (l' := [(1, _), (2, _), (4, _), (5, _), (6, _), (67, _), (68, _), (69, _), (70, _), (73, _), (74, _), (75, _), (76, _), (77, _), (78, _), (79, _), (80, _), (81, _), (82, _), (83, _), (84, _), (85, _), (86, _), (87, _)]) ⟨rfl, rfl, rfl, rfl, rfl, rfl, rfl, rfl, rfl, rfl, rfl, rfl, rfl, rfl, rfl, rfl, rfl, rfl, rfl, rfl, rfl, rfl, rfl, rfl, trivial⟩ ?_
                          refine wQ_then ?_
                          refine wC_cond_f rfl ?_
                          refine wC_skip ?_
                          refine wQ_then ?_
                          refine wC_region ?_
                          refine wL_val (v := .slice A4 k c4) (wn rfl) rfl rfl (y_move rfl rfl) ?_
                          refine wL_val (v := .pointer (some ⟨b31, 0, none⟩)) (wn rfl) rfl rfl (y_fieldAddr rfl rfl (fa137_0 _ _ _)) ?_
                          refine wL_val (v := .int .i64 x29.no) (wn rfl) rfl rfl (y_load rfl rfl (r_load Try.underlying3 rfl (St.cl 0 S72 rfl rfl))) ?_
                          refine wL_new (V := fun b => .slice (some ⟨b, 0, none⟩) 1 1) (row := #[.int .i64 x29.no]) (t := 3) S72 (wn rfl) rfl rfl (d_buildSlice (vs := [(0, .int .i64 x29.no)]) rfl ⟨rfl, rfl, trivial⟩ (by kernel_rfl)) ?_
                          intro b73 w74 S75
                          clear S72
                          refine wL_append (news := [.int .i64 x29.no]) (xs' := ((rs.take (k + 1)).map (·.no)).flatMap oneI) 2 S75 (wn rfl) rfl rfl rfl rfl rfl rfl (St.bld (xs := [.int .i64 x29.no]) 0 S75 rfl rfl rfl) Try.underlying143 infz3 rfl (by decide) (oneAll rfl) (by simp only [maxLen]; omega) (by omega) (fm_snoc (enc := oneI) (take_map (f := fun m : Msg => m.no) hx30) rfl) ?_
                          intro A76 c77 w78 hc80 hm81 S79
                          clear S75
                          change St _ _ _ [_, _, .own 3 1 (.slice A76 (k + 1) c77) (k + 1) (((rs.take (k + 1)).map (·.no)).flatMap oneI), _, _, _] at S79
                          refine wL_val (v := .slice A76 (k + 1) c77) (wn rfl) rfl rfl (y_assign rfl rfl) ?_
                          refine wL_nil ?_
                          refine wQ_sub (l' := [(1, _), (2, _), (4, _), (5, _), (67, _), (68, _), (69, _), (70, _), (73, _), (74, _), (75, _), (76, _), (77, _), (78, _), (79, _), (80, _), (81, _), (82, _), (83, _), (84, _), (85, _), (86, _)]) ⟨rfl, rfl, rfl, rfl, rfl, rfl, rfl, rfl, rfl, rfl, rfl, rfl, rfl, rfl, rfl, rfl, rfl, rfl, rfl, rfl, rfl, rfl, trivial⟩ ?_
                          refine wQ_blk_n ?_
                          refine wQ_then ?_
                          refine wC_region ?_
                          refine wL_val (v := .int .i64 ((k : Nat) : Int)) (wn rfl) rfl rfl (y_move rfl rfl) ?_
                          refine wL_val (v := .int .i64 ((k + 1 : Nat) : Int)) (wn rfl) rfl rfl (y_binop rfl rfl rfl (r_add (by omega) (by omega))) ?_
                          refine wL_val (v := .int .i64 ((k + 1 : Nat) : Int)) (wn rfl) rfl rfl (y_assign rfl rfl) ?_
                          refine wL_nil ?_
                          refine wQ_sub (l' := [(1, _), (2, _), (4, _), (5, _), (67, _), (68, _), (69, _), (70, _), (73, _), (74, _), (75, _), (76, _), (77, _), (78, _), (79, _), (80, _), (81, _), (82, _), (83, _), (84, _), (85, _), (86, _)]) ⟨rfl, rfl, rfl, rfl, rfl, rfl, rfl, rfl, rfl, rfl, rfl, rfl, rfl, rfl, rfl, rfl, rfl, rfl, rfl, rfl, rfl, rfl, trivial⟩ ?_
                          have S82 : St w.heap.size w w78 [_, _, _, _] := (St.del 0 (St.del 1 S79))
                          clear S79
                          refine wQ_round (k + 1, A76, c77) ?_ ⟨rfl, rfl, rfl, rfl, trivial⟩ (by first | omega | (dsimp only; omega))
                          exact ⟨(by dsimp only; omega), (by dsimp only; rw [prevNo_succ hx30]; exact rdy_yes hi25 hx30 (msgOk_yes ⟨by omega, by omega, by omega, by omega⟩) (by rw [prevNo_pos h53 hx63]; exact h67)), S82⟩
                        · refine wU_val (v := .bool true) (wg rfl rfl rfl rfl) rfl rfl (fun _ _ => (y_binop rfl rfl rfl (r_leq_t (by omega)))) ?_
                          refine wU_val (v := .bool true) (wg rfl rfl rfl rfl) rfl rfl (fun _ _ => (y_pick_t rfl rfl rfl)) ?_
                          refine wU_val (v := .bool true) (wn rfl) rfl rfl (fun _ _ => (y_pick_f rfl rfl rfl)) ?_
                          refine wU_nil fun w86 S87 => ?_
                          clear S35
                          refine wQ_sub (l' := [(1, _), (2, _), (4, _), (5, _), (6, _), (67, _), (68, _), (69, _), (70, _), (73, _), (74, _), (75, _), (76, _), (77, _), (78, _), (79, _), (80, _), (81, _), (82, _), (83, _), (84, _), (85, _), (86, _), (87, _)]) ⟨rfl, rfl, rfl, rfl, rfl, rfl, rfl, rfl, rfl, rfl, rfl, rfl, rfl, rfl, rfl, rfl, rfl, rfl, rfl, rfl, rfl, rfl, rfl, rfl, trivial⟩ ?_
                          refine wQ_then ?_
                          refine wC_cond_t rfl ?_
                          refine wC_seq ?_
                          refine wC_region ?_
                          refine wL_val (v := .int .i64 6) (wn rfl) rfl rfl (y_assign rfl rfl) ?_
                          refine wL_nil ?_
                          refine wQ_sub (l' := [(1, _), (2, _)]) ⟨rfl, rfl, trivial⟩ ?_
                          refine wQ_then ?_
                          refine wC_ret ?_
                          refine wQ_then_ret ?_
                          refine wQ_blk_ret ?_
                          refine wQ_then_ret ?_
                          refine wQ_then_ret ?_
                          refine wQ_blk_ret ?_
                          refine wQ_then_ret ?_
                          refine wQ_post (rs := [.tmp 2]) (vs := [.int .i64 6]) rfl ⟨rfl, trivial⟩ ?_
                          exact ⟨ret_int_ (qf_bad fun h => absurd h.2.1 (rdy_no hi25 hx30 fun h2 => by rw [prevNo_pos h53 hx63] at h2; omega)).symm, S87.low⟩
                      · refine wU_val (v := .bool false) (wg rfl rfl rfl rfl) rfl rfl (fun _ _ => (y_binop rfl rfl rfl (r_gtr_f h53))) ?_
                        refine wU_val (v := .bool false) (wg rfl rfl rfl rfl) rfl rfl (fun _ _ => (y_move rfl rfl)) ?_
                        refine wU_skip (wg rfl rfl rfl rfl) rfl rfl ?_
                        refine wU_skip (wg rfl rfl rfl rfl) rfl rfl ?_
                        refine wU_skip (wg rfl rfl rfl rfl) rfl rfl ?_
                        refine wU_skip (wg rfl rfl rfl rfl) rfl rfl ?_
                        refine wU_skip (wg rfl rfl rfl rfl) rfl rfl ?_
                        refine wU_skip (wg rfl rfl rfl rfl) rfl rfl ?_
                        refine wU_skip (wg rfl rfl rfl rfl) rfl rfl ?_
                        refine wU_skip (wg rfl rfl rfl rfl) rfl rfl ?_
                        refine wU_skip (wg rfl rfl rfl rfl) rfl rfl ?_
                        refine wU_skip (wg rfl rfl rfl rfl) rfl rfl ?_
                        refine wU_val (v := .bool false) (wg rfl rfl rfl rfl) rfl rfl (fun _ _ => (y_pick_f rfl rfl rfl)) ?_
                        refine wU_val (v := .bool false) (wn rfl) rfl rfl (fun _ _ => (y_pick_f rfl rfl rfl)) ?_
                        refine wU_nil fun w92 S93 => ?_
                        clear S35
                        refine wQ_sub (l' := [(1, _), (2, _), (4, _), (5, _), (6, _), (67, _), (68, _), (69, _), (70, _), (73, _), (74, _), (75, _), (76, _), (77, _), (78, _), (79, _), (80, _), (81, _), (82, _), (83, _), (84, _), (85, _), (86, _), (87, _)]) ⟨rfl, rfl, rfl, rfl, rfl, rfl, rfl, rfl, rfl, rfl, rfl, rfl, rfl, rfl, rfl, rfl, rfl, rfl, rfl, rfl, rfl, rfl, rfl, rfl, trivial⟩ ?_
                        refine wQ_then ?_
                        refine wC_cond_f rfl ?_
                        refine wC_skip ?_
                        refine wQ_then ?_
                        refine wC_region ?_
                        refine wL_val (v := .slice A4 k c4) (wn rfl) rfl rfl (y_move rfl rfl) ?_
                        refine wL_val (v := .pointer (some ⟨b31, 0, none⟩)) (wn rfl) rfl rfl (y_fieldAddr rfl rfl (fa137_0 _ _ _)) ?_
                        refine wL_val (v := .int .i64 x29.no) (wn rfl) rfl rfl (y_load rfl rfl (r_load Try.underlying3 rfl (St.cl 0 S93 rfl rfl))) ?_
                        refine wL_new (V := fun b => .slice (some ⟨b, 0, none⟩) 1 1) (row := #[.int .i64 x29.no]) (t := 3) S93 (wn rfl) rfl rfl (d_buildSlice (vs := [(0, .int .i64 x29.no)]) rfl ⟨rfl, rfl, trivial⟩ (by kernel_rfl)) ?_
                        intro b94 w95 S96
                        clear S93
                        refine wL_append (news := [.int .i64 x29.no]) (xs' := ((rs.take (k + 1)).map (·.no)).flatMap oneI) 2 S96 (wn rfl) rfl rfl rfl rfl rfl rfl (St.bld (xs := [.int .i64 x29.no]) 0 S96 rfl rfl rfl) Try.underlying143 infz3 rfl (by decide) (oneAll rfl) (by simp only [maxLen]; omega) (by omega) (fm_snoc (enc := oneI) (take_map (f := fun m : Msg => m.no) hx30) rfl) ?_
                        intro A97 c98 w99 hc101 hm102 S100
                        clear S96
                        change St _ _ _ [_, _, .own 3 1 (.slice A97 (k + 1) c98) (k + 1) (((rs.take (k + 1)).map (·.no)).flatMap oneI), _, _, _] at S100
                        refine wL_val (v := .slice A97 (k + 1) c98) (wn rfl) rfl rfl (y_assign rfl rfl) ?_
                        refine wL_nil ?_
                        refine wQ_sub (l' := [(1, _), (2, _), (4, _), (5, _), (67, _), (68, _), (69, _), (70, _), (73, _), (74, _), (75, _), (76, _), (77, _), (78, _), (79, _), (80, _), (81, _), (82, _), (83, _), (84, _), (85, _), (86, _)]) ⟨rfl, rfl, rfl, rfl, rfl, rfl, rfl, rfl, rfl, rfl, rfl, rfl, rfl, rfl, rfl, rfl, rfl, rfl, rfl, rfl, rfl, rfl, trivial⟩ ?_
                        refine wQ_blk_n ?_
                        refine wQ_then ?_
                        refine wC_region ?_
                        refine wL_val (v := .int .i64 ((k : Nat) : Int)) (wn rfl) rfl rfl (y_move rfl rfl) ?_
                        refine wL_val (v := .int .i64 ((k + 1 : Nat) : Int)) (wn rfl) rfl rfl (y_binop rfl rfl rfl (r_add (by omega) (by omega))) ?_
                        refine wL_val (v := .int .i64 ((k + 1 : Nat) : Int)) (wn rfl) rfl rfl (y_assign rfl rfl) ?_
                        refine wL_nil ?_
                        refine wQ_sub (l' := [(1, _), (2, _), (4, _), (5, _), (67, _), (68, _), (69, _), (70, _), (73, _), (74, _), (75, _), (76, _), (77, _), (78, _), (79, _), (80, _), (81, _), (82, _), (83, _), (84, _), (85, _), (86, _)]) ⟨rfl, rfl, rfl, rfl, rfl, rfl, rfl, rfl, rfl, rfl, rfl, rfl, rfl, rfl, rfl, rfl, rfl, rfl, rfl, rfl, rfl, rfl, trivial⟩ ?_
                        have S103 : St w.heap.size w w99 [_, _, _, _] := (St.del 0 (St.del 1 S100))
                        clear S100
                        refine wQ_round (k + 1, A97, c98) ?_ ⟨rfl, rfl, rfl, rfl, trivial⟩ (by first | omega | (dsimp only; omega))
                        exact ⟨(by dsimp only; omega), (by dsimp only; rw [prevNo_succ hx30]; exact rdy_yes hi25 hx30 (msgOk_yes ⟨by omega, by omega, by omega, by omega⟩) (by rw [prevNo_zero h53]; omega)), S103⟩
                    · refine wU_call (v := .bool false) (vs := [.int .i64 x29.body, .int .i64 0, .int .i64 1000000]) (wg rfl rfl rfl rfl) rfl rfl (fun _ => (e_call (vs := [.int .i64 x29.body, .int .i64 0, .int .i64 1000000]) rfl en107 ⟨rfl, rfl, rfl, trivial⟩)) (fun _ Sx104 => (In_f h47 _).mono fun _ _ h => ⟨h.1, h.2 ▸ Sx104⟩) ?_
                      refine wU_val (v := .bool true) (wg rfl rfl rfl rfl) rfl rfl (fun _ _ => (y_unop rfl rfl r_not)) ?_
                      refine wU_val (v := .bool true) (wn rfl) rfl rfl (fun _ _ => (y_pick_f rfl rfl rfl)) ?_
                      refine wU_val (v := .bool true) (wn rfl) rfl rfl (fun _ _ => (y_move rfl rfl)) ?_
                      refine wU_skip (wg rfl rfl rfl rfl) rfl rfl ?_
                      refine wU_skip (wg rfl rfl rfl rfl) rfl rfl ?_
                      refine wU_skip (wg rfl rfl rfl rfl) rfl rfl ?_
                      refine wU_skip (wg rfl rfl rfl rfl) rfl rfl ?_
                      refine wU_skip (wg rfl rfl rfl rfl) rfl rfl ?_
                      refine wU_skip (wg rfl rfl rfl rfl) rfl rfl ?_
                      refine wU_skip (wg rfl rfl rfl rfl) rfl rfl ?_
                      refine wU_skip (wg rfl rfl rfl rfl) rfl rfl ?_
                      refine wU_skip (wg rfl rfl rfl rfl) rfl rfl ?_
                      refine wU_skip (wg rfl rfl rfl rfl) rfl rfl ?_
                      refine wU_skip (wg rfl rfl rfl rfl) rfl rfl ?_
                      refine wU_skip (wg rfl rfl rfl rfl) rfl rfl ?_
                      refine wU_skip (wg rfl rfl rfl rfl) rfl rfl ?_
                      refine wU_skip (wg rfl rfl rfl rfl) rfl rfl ?_
                      refine wU_val (v := .bool true) (wn rfl) rfl rfl (fun _ _ => (y_pick_t rfl rfl rfl)) ?_
                      refine wU_nil fun w109 S110 => ?_
                      clear S35
                      refine wQ_sub (l' := [(1, _), (2, _), (4, _), (5, _), (6, _), (67, _), (68, _), (69, _), (70, _), (73, _), (74, _), (75, _), (76, _), (77, _), (78, _), (79, _), (80, _), (81, _), (82, _), (83, _), (84, _), (85, _), (86, _), (87, _)]) ⟨rfl, rfl, rfl, rfl, rfl, rfl, rfl, rfl, rfl, rfl, rfl, rfl, rfl, rfl, rfl, rfl, rfl, rfl, rfl, rfl, rfl, rfl, rfl, rfl, trivial⟩ ?_
                      refine wQ_then ?_
                      refine wC_cond_t rfl ?_
                      refine wC_seq ?_
                      refine wC_region ?_
                      refine wL_val (v := .int .i64 6) (wn rfl) rfl rfl (y_assign rfl rfl) ?_
                      refine wL_nil ?_
                      refine wQ_sub (l' := [(1, _), (2, _)]) ⟨rfl, rfl, trivial⟩ ?_
                      refine wQ_then ?_
                      refine wC_ret ?_
                      refine wQ_then_ret ?_
                      refine wQ_blk_ret ?_
                      refine wQ_then_ret ?_
                      refine wQ_then_ret ?_
                      refine wQ_blk_ret ?_
                      refine wQ_then_ret ?_
                      refine wQ_post (rs := [.tmp 2]) (vs := [.int .i64 6]) rfl ⟨rfl, trivial⟩ ?_
                      exact ⟨ret_int_ (qf_bad fun h => absurd h.2.1 (rdy_no hi25 hx30 fun h2 => h47 (by have := msgOk_of h2.1; omega))).symm, S110.low⟩
                  · refine wU_call (v := .bool false) (vs := [.int .i64 x29.no, .int .i64 0, .int .i64 (nx - 1)]) (wn rfl) rfl rfl (fun _ => (e_call (vs := [.int .i64 x29.no, .int .i64 0, .int .i64 (nx - 1)]) rfl en107 ⟨rfl, rfl, rfl, trivial⟩)) (fun _ Sx111 => (In_f h41 _).mono fun _ _ h => ⟨h.1, h.2 ▸ Sx111⟩) ?_
                    refine wU_val (v := .bool true) (wn rfl) rfl rfl (fun _ _ => (y_unop rfl rfl r_not)) ?_
                    refine wU_val (v := .bool true) (wn rfl) rfl rfl (fun _ _ => (y_move rfl rfl)) ?_
                    refine wU_skip (wg rfl rfl rfl rfl) rfl rfl ?_
                    refine wU_skip (wg rfl rfl rfl rfl) rfl rfl ?_
                    refine wU_skip (wg rfl rfl rfl rfl) rfl rfl ?_
                    refine wU_skip (wg rfl rfl rfl rfl) rfl rfl ?_
                    refine wU_val (v := .bool true) (wn rfl) rfl rfl (fun _ _ => (y_pick_t rfl rfl rfl)) ?_
                    refine wU_val (v := .bool true) (wn rfl) rfl rfl (fun _ _ => (y_move rfl rfl)) ?_
                    refine wU_skip (wg rfl rfl rfl rfl) rfl rfl ?_
                    refine wU_skip (wg rfl rfl rfl rfl) rfl rfl ?_
                    refine wU_skip (wg rfl rfl rfl rfl) rfl rfl ?_
                    refine wU_skip (wg rfl rfl rfl rfl) rfl rfl ?_
                    refine wU_skip (wg rfl rfl rfl rfl) rfl rfl ?_
                    refine wU_skip (wg rfl rfl rfl rfl) rfl rfl ?_
                    refine wU_skip (wg rfl rfl rfl rfl) rfl rfl ?_
                    refine wU_skip (wg rfl rfl rfl rfl) rfl rfl ?_
                    refine wU_skip (wg rfl rfl rfl rfl) rfl rfl ?_
                    refine wU_skip (wg rfl rfl rfl rfl) rfl rfl ?_
                    refine wU_skip (wg rfl rfl rfl rfl) rfl rfl ?_
                    refine wU_skip (wg rfl rfl rfl rfl) rfl rfl ?_
                    refine wU_skip (wg rfl rfl rfl rfl) rfl rfl ?_
                    refine wU_skip (wg rfl rfl rfl rfl) rfl rfl ?_
                    refine wU_val (v := .bool true) (wn rfl) rfl rfl (fun _ _ => (y_pick_t rfl rfl rfl)) ?_
                    refine wU_nil fun w117 S118 => ?_
                    clear S35
                    refine wQ_sub (l' := [(1, _), (2, _), (4, _), (5, _), (6, _), (67, _), (68, _), (69, _), (70, _), (73, _), (74, _), (75, _), (76, _), (77, _), (78, _), (79, _), (80, _), (81, _), (82, _), (83, _), (84, _), (85, _), (86, _), (87, _)]) ⟨rfl, rfl, rfl, rfl, rfl, rfl, rfl, rfl, rfl, rfl, rfl, rfl, rfl, rfl, rfl, rfl, rfl, rfl, rfl, rfl, rfl, rfl, rfl, rfl, trivial⟩ ?_
                    refine wQ_then ?_
                    refine wC_cond_t rfl ?_
                    refine wC_seq ?_
                    refine wC_region ?_
                    refine wL_val (v := .int .i64 6) (wn rfl) rfl rfl (y_assign rfl rfl) ?_
                    refine wL_nil ?_
                    refine wQ_sub (l' := [(1, _), (2, _)]) ⟨rfl, rfl, trivial⟩ ?_
                    refine wQ_then ?_
                    refine wC_ret ?_
                    refine wQ_then_ret ?_
                    refine wQ_blk_ret ?_
                    refine wQ_then_ret ?_
                    refine wQ_then_ret ?_
                    refine wQ_blk_ret ?_
                    refine wQ_then_ret ?_
                    refine wQ_post (rs := [.tmp 2]) (vs := [.int .i64 6]) rfl ⟨rfl, trivial⟩ ?_
                    exact ⟨ret_int_ (qf_bad fun h => absurd h.2.1 (rdy_no hi25 hx30 fun h2 => h41 (by have := msgOk_of h2.1; omega))).symm, S118.low⟩
                · refine wL_val (v := .bool false) (wn rfl) rfl rfl (y_binop rfl rfl rfl (r_lss_f h26)) ?_
                  refine wL_nil ?_
                  refine wQ_sub (l' := [(1, _), (2, _), (4, _), (5, _), (51, _)]) ⟨rfl, rfl, rfl, rfl, rfl, trivial⟩ ?_
                  refine wQ_then ?_
                  refine wC_cond_f rfl ?_
                  refine wC_exit ?_
                  refine wQ_then_exit ?_
                  refine wQ_then_exit ?_
                  refine wQ_blk_same ?_
                  refine wQ_then ?_
                  refine wC_seq ?_
                  refine wC_seq ?_
                  refine wC_region ?_
                  refine wL_val (v := .int .i64 0) (wn rfl) rfl rfl (y_assign rfl rfl) ?_
                  refine wL_nil ?_
                  refine wQ_sub (l' := [(1, _), (2, _), (4, _), (7, _)]) ⟨rfl, rfl, rfl, rfl, trivial⟩ ?_
                  refine wQ_then ?_
                  refine wC_block ?_
                  obtain rfl : k = rs.length := by omega
                  have hR119 : rdyFrom nx (-1) rs = true := by rw [hi25, List.drop_length]; rfl
                  have S120 := S23
                  rw [List.take_length, ← List.append_nil (rs.map (·.no))] at S120
                  change St _ _ _ [.own 3 1 (.slice A4 rs.length c4) rs.length ((rs.map (·.no) ++ (ls.take 0).map (·.msg.no)).flatMap oneI), .blk b1 (qRow ep nx gv (.slice A1 rs.length c1) (.slice A2 ls.length c2) W) 29, .rd 2 A1 rs.length ((rs).flatMap Msg.cells), .rd 4 A2 ls.length ((ls).flatMap Ls.cells)] at S120
                  refine wC_loop (X := Nat × (Option Addr) × Nat) (fun xv => [(1, .pointer (some ⟨b1, 0, none⟩)), (2, .int .i64 0), (4, .slice xv.2.1 (rs.length + xv.1) xv.2.2), (7, .int .i64 ((xv.1 : Nat) : Int))]) (fun xv wr => (xv.1 ≤ ls.length) ∧ (lsFrom ep nx gv (-1) ls = lsFrom ep nx gv (prevH ls xv.1) (ls.drop xv.1)) ∧ (-1 ≤ prevH ls xv.1) ∧ St w.heap.size w wr [.own 3 1 (.slice xv.2.1 (rs.length + xv.1) xv.2.2) (rs.length + xv.1) ((rs.map (·.no) ++ (ls.take xv.1).map (·.msg.no)).flatMap oneI), .blk b1 (qRow ep nx gv (.slice A1 rs.length c1) (.slice A2 ls.length c2) W) 29, .rd 2 A1 rs.length ((rs).flatMap Msg.cells), .rd 4 A2 ls.length ((ls).flatMap Ls.cells)]) (fun xv => ls.length - xv.1) (0, A4, c4) ?_ ?_ ?_
                  · exact ⟨Nat.zero_le _, rfl, (by simp [prevH]), S120⟩
                  · exact ⟨rfl, rfl, rfl, rfl, trivial⟩
                  · rintro ⟨k, A5, c5⟩ w121 ⟨hi123, hi124, hi125, S122⟩
                    try dsimp only at hi123 hi124 hi125 S122
                    clear S120
                    refine wC_sub (l' := [(1, .pointer (some ⟨b1, 0, none⟩)), (2, .int .i64 0), (4, .slice A5 (rs.length + k) c5), (7, .int .i64 ((k : Nat) : Int))]) ⟨rfl, rfl, rfl, rfl, trivial⟩ ?_
                    refine wC_seq ?_
                    refine wC_seq ?_
                    refine wC_region ?_
                    refine wL_val (v := .int .i64 ((k : Nat) : Int)) (wn rfl) rfl rfl (y_move rfl rfl) ?_
                    refine wL_val (v := .pointer (some ⟨b1, 4, none⟩)) (wn rfl) rfl rfl (y_fieldAddr rfl rfl (fa29_4 _ _ _)) ?_
                    refine wL_val (v := .slice A2 ls.length c2) (wn rfl) rfl rfl (y_load rfl rfl (r_load Try.underlying23 rfl (St.cl 1 S122 rfl qRow_g4))) ?_
                    refine wL_val (v := .int .i64 ((ls.length : Nat) : Int)) (wn rfl) rfl rfl (y_builtin (vs := [.slice A2 ls.length c2]) rfl ⟨rfl, trivial⟩ fun _ => r_len rfl Try.underlying23) ?_
                    by_cases h126 : ((k : Nat) : Int) < ((ls.length : Nat) : Int)
                    · refine wL_val (v := .bool true) (wn rfl) rfl rfl (y_binop rfl rfl rfl (r_lss_t h126)) ?_
                      refine wL_nil ?_
                      refine wQ_sub (l' := [(1, _), (2, _), (4, _), (7, _), (97, _)]) ⟨rfl, rfl, rfl, rfl, rfl, trivial⟩ ?_
                      refine wQ_then ?_
                      refine wC_cond_t rfl ?_
                      refine wC_skip ?_
                      refine wQ_then ?_
                      refine wC_seq ?_
                      refine wC_block ?_
                      refine wC_seq ?_
                      refine wC_region ?_
                      refine wL_val (v := .pointer (some ⟨b1, 4, none⟩)) (wn rfl) rfl rfl (y_fieldAddr rfl rfl (fa29_4 _ _ _)) ?_
                      refine wL_val (v := .slice A2 ls.length c2) (wn rfl) rfl rfl (y_load rfl rfl (r_load Try.underlying23 rfl (St.cl 1 S122 rfl qRow_g4))) ?_
                      refine wL_val (v := .int .i64 ((k : Nat) : Int)) (wn rfl) rfl rfl (y_move rfl rfl) ?_
                      obtain ⟨b127, o128, rfl⟩ := Rd.addr (St.rd 3 S122 rfl) (by omega)
                      obtain ⟨x129, hx130⟩ : ∃ x, (ls)[k]? = some x := ⟨_, List.getElem?_eq_getElem (by have := (St.rd 3 S122 rfl).1; rw [fm_len (sz := 4) (fun _ => rfl)] at this; omega)⟩
                      refine wL_val (v := .pointer (some ⟨b127, o128 + k * 4, none⟩)) (wn rfl) rfl rfl (y_indexAddr rfl rfl rfl (r_indexAddr k Try.underlying23 inf141 (by omega) (by omega))) ?_
                      refine wL_val (v := .agg #[.int .i64 x129.hep, .int .i64 x129.hno, .int .i64 x129.msg.no, .int .i64 x129.msg.body]) (wn rfl) rfl rfl (y_load rfl rfl (r_load_agg (cs := Ls.cells x129) Try.underlying141 rfl inf141 rfl (Rd.rg2 (St.rd 3 S122 rfl) (fun _ _ h => fm_get (enc := Ls.cells) (sz := 4) (fun _ => rfl) hx130 h)))) ?_
                      refine wL_new (V := fun b => .pointer (some ⟨b, 0, none⟩)) (row := #[.int .i64 0, .int .i64 0, .int .i64 0, .int .i64 0]) (t := 141) S122 (wn rfl) rfl rfl (d_alloc rfl (Try.zeroValue141 _) rfl) ?_
                      intro b131 w132 S133
                      clear S122
                      refine wL_st (cs := #[.int .i64 x129.hep, .int .i64 x129.hno, .int .i64 x129.msg.no, .int .i64 x129.msg.body]) (row' := #[.int .i64 x129.hep, .int .i64 x129.hno, .int .i64 x129.msg.no, .int .i64 x129.msg.body]) (fs' := [.blk b131 #[.int .i64 x129.hep, .int .i64 x129.hno, .int .i64 x129.msg.no, .int .i64 x129.msg.body] 141, _, _, _, _]) 0 S133 (wn rfl) rfl rfl rfl rfl rfl rfl inf141 rfl (oneAll rfl) (Nat.le_of_ble_eq_true rfl) (setAll_all rfl) rfl ?_
                      intro w134 S135
                      clear S133
                      refine wL_nil ?_
                      refine wQ_sub (l' := [(1, _), (2, _), (4, _), (7, _), (8, _)]) ⟨rfl, rfl, rfl, rfl, rfl, trivial⟩ ?_
                      refine wQ_then ?_
                      refine wC_seq ?_
                      refine wC_seq ?_
                      refine wC_quiet S135 mixed (by kernel_rfl) ?_
                      refine wU_val (v := .pointer (some ⟨b131, 2, none⟩)) (wn rfl) rfl rfl (fun _ _ => (y_fieldAddr rfl rfl (fa141_1 _ _ _))) ?_
                      refine wU_val (v := .pointer (some ⟨b131, 2, none⟩)) (wn rfl) rfl rfl (fun _ _ => (y_fieldAddr rfl rfl (fa137_0 _ _ _))) ?_
                      refine wU_val (v := .int .i64 x129.msg.no) (wn rfl) rfl rfl (fun _ Sx138 => (y_load rfl rfl (r_load Try.underlying3 rfl (St.cl 0 Sx138 rfl rfl)))) ?_
                      refine wU_val (v := .pointer (some ⟨b1, 1, none⟩)) (wn rfl) rfl rfl (fun _ _ => (y_fieldAddr rfl rfl (fa29_1 _ _ _))) ?_
                      refine wU_val (v := .int .i64 nx) (wn rfl) rfl rfl (fun _ Sx140 => (y_load rfl rfl (r_load Try.underlying3 rfl (St.cl 2 Sx140 rfl qRow_g1)))) ?_
                      refine wU_val (v := .int .i64 (nx - 1)) (wn rfl) rfl rfl (fun _ _ => (y_binop rfl rfl rfl (r_sub (by omega) (by omega)))) ?_
                      by_cases h142 : 0 ≤ x129.msg.no ∧ x129.msg.no ≤ nx - 1
                      · refine wU_call (v := .bool true) (vs := [.int .i64 x129.msg.no, .int .i64 0, .int .i64 (nx - 1)]) (wn rfl) rfl rfl (fun _ => (e_call (vs := [.int .i64 x129.msg.no, .int .i64 0, .int .i64 (nx - 1)]) rfl en107 ⟨rfl, rfl, rfl, trivial⟩)) (fun _ Sx143 => (In_t h142 _).mono fun _ _ h => ⟨h.1, h.2 ▸ Sx143⟩) ?_
                        refine wU_val (v := .bool false) (wn rfl) rfl rfl (fun _ _ => (y_unop rfl rfl r_not)) ?_
                        refine wU_val (v := .bool false) (wn rfl) rfl rfl (fun _ _ => (y_move rfl rfl)) ?_
                        refine wU_val (v := .pointer (some ⟨b131, 2, none⟩)) (wg rfl rfl rfl rfl) rfl rfl (fun _ _ => (y_fieldAddr rfl rfl (fa141_1 _ _ _))) ?_
                        refine wU_val (v := .pointer (some ⟨b131, 3, none⟩)) (wg rfl rfl rfl rfl) rfl rfl (fun _ _ => (y_fieldAddr rfl rfl (fa137_1 _ _ _))) ?_
                        refine wU_val (v := .int .i64 x129.msg.body) (wg rfl rfl rfl rfl) rfl rfl (fun _ Sx148 => (y_load rfl rfl (r_load Try.underlying3 rfl (St.cl 0 Sx148 rfl rfl)))) ?_
                        by_cases h149 : 0 ≤ x129.msg.body ∧ x129.msg.body ≤ 1000000
                        · refine wU_call (v := .bool true) (vs := [.int .i64 x129.msg.body, .int .i64 0, .int .i64 1000000]) (wg rfl rfl rfl rfl) rfl rfl (fun _ => (e_call (vs := [.int .i64 x129.msg.body, .int .i64 0, .int .i64 1000000]) rfl en107 ⟨rfl, rfl, rfl, trivial⟩)) (fun _ Sx150 => (In_t h149 _).mono fun _ _ h => ⟨h.1, h.2 ▸ Sx150⟩) ?_
                          refine wU_val (v := .bool false) (wg rfl rfl rfl rfl) rfl rfl (fun _ _ => (y_unop rfl rfl r_not)) ?_
                          refine wU_val (v := .bool false) (wn rfl) rfl rfl (fun _ _ => (y_pick_f rfl rfl rfl)) ?_
                          refine wU_val (v := .bool false) (wn rfl) rfl rfl (fun _ _ => (y_move rfl rfl)) ?_
                          refine wU_val (v := .pointer (some ⟨b131, 0, none⟩)) (wg rfl rfl rfl rfl) rfl rfl (fun _ _ => (y_fieldAddr rfl rfl (fa141_0 _ _ _))) ?_
                          refine wU_val (v := .pointer (some ⟨b131, 0, none⟩)) (wg rfl rfl rfl rfl) rfl rfl (fun _ _ => (y_fieldAddr rfl rfl (fa35_0 _ _ _))) ?_
                          refine wU_val (v := .int .i64 x129.hep) (wg rfl rfl rfl rfl) rfl rfl (fun _ Sx156 => (y_load rfl rfl (r_load Try.underlying3 rfl (St.cl 0 Sx156 rfl rfl)))) ?_
                          refine wU_val (v := .pointer (some ⟨b1, 0, none⟩)) (wg rfl rfl rfl rfl) rfl rfl (fun _ _ => (y_fieldAddr rfl rfl (fa29_0 _ _ _))) ?_
                          refine wU_val (v := .int .i64 ep) (wg rfl rfl rfl rfl) rfl rfl (fun _ Sx158 => (y_load rfl rfl (r_load Try.underlying3 rfl (St.cl 2 Sx158 rfl qRow_g0)))) ?_
                          by_cases h159 : x129.hep = ep
                          · refine wU_val (v := .bool false) (wg rfl rfl rfl rfl) rfl rfl (fun _ _ => (y_binop rfl rfl rfl (r_neq_f h159))) ?_
                            refine wU_val (v := .bool false) (wn rfl) rfl rfl (fun _ _ => (y_pick_f rfl rfl rfl)) ?_
                            refine wU_val (v := .bool false) (wn rfl) rfl rfl (fun _ _ => (y_move rfl rfl)) ?_
                            refine wU_val (v := .pointer (some ⟨b131, 0, none⟩)) (wg rfl rfl rfl rfl) rfl rfl (fun _ _ => (y_fieldAddr rfl rfl (fa141_0 _ _ _))) ?_
                            refine wU_val (v := .pointer (some ⟨b131, 1, none⟩)) (wg rfl rfl rfl rfl) rfl rfl (fun _ _ => (y_fieldAddr rfl rfl (fa35_1 _ _ _))) ?_
                            refine wU_val (v := .int .i64 x129.hno) (wg rfl rfl rfl rfl) rfl rfl (fun _ Sx165 => (y_load rfl rfl (r_load Try.underlying3 rfl (St.cl 0 Sx165 rfl rfl)))) ?_
                            refine wU_val (v := .pointer (some ⟨b1, 2, none⟩)) (wg rfl rfl rfl rfl) rfl rfl (fun _ _ => (y_fieldAddr rfl rfl (fa29_2 _ _ _))) ?_
                            refine wU_val (v := .int .i64 gv) (wg rfl rfl rfl rfl) rfl rfl (fun _ Sx167 => (y_load rfl rfl (r_load Try.underlying3 rfl (St.cl 2 Sx167 rfl qRow_g2)))) ?_
                            refine wU_val (v := .int .i64 (gv - 1)) (wg rfl rfl rfl rfl) rfl rfl (fun _ _ => (y_binop rfl rfl rfl (r_sub (by omega) (by omega)))) ?_
                            by_cases h169 : 0 ≤ x129.hno ∧ x129.hno ≤ gv - 1
                            · refine wU_call (v := .bool true) (vs := [.int .i64 x129.hno, .int .i64 0, .int .i64 (gv - 1)]) (wg rfl rfl rfl rfl) rfl rfl (fun _ => (e_call (vs := [.int .i64 x129.hno, .int .i64 0, .int .i64 (gv - 1)]) rfl en107 ⟨rfl, rfl, rfl, trivial⟩)) (fun _ Sx170 => (In_t h169 _).mono fun _ _ h => ⟨h.1, h.2 ▸ Sx170⟩) ?_
                              refine wU_val (v := .bool false) (wg rfl rfl rfl rfl) rfl rfl (fun _ _ => (y_unop rfl rfl r_not)) ?_
                              refine wU_val (v := .bool false) (wn rfl) rfl rfl (fun _ _ => (y_pick_f rfl rfl rfl)) ?_
                              refine wU_val (v := .bool false) (wn rfl) rfl rfl (fun _ _ => (y_move rfl rfl)) ?_
                              refine wU_val (v := .int .i64 ((k : Nat) : Int)) (wg rfl rfl rfl rfl) rfl rfl (fun _ _ => (y_move rfl rfl)) ?_
                              by_cases h175 : (0 : Int) < ((k : Nat) : Int)
                              · refine wU_val (v := .bool true) (wg rfl rfl rfl rfl) rfl rfl (fun _ _ => (y_binop rfl rfl rfl (r_gtr_t h175))) ?_
                                refine wU_val (v := .bool true) (wg rfl rfl rfl rfl) rfl rfl (fun _ _ => (y_move rfl rfl)) ?_
                                refine wU_val (v := .pointer (some ⟨b131, 0, none⟩)) (wg rfl rfl rfl rfl) rfl rfl (fun _ _ => (y_fieldAddr rfl rfl (fa141_0 _ _ _))) ?_
                                refine wU_val (v := .pointer (some ⟨b131, 1, none⟩)) (wg rfl rfl rfl rfl) rfl rfl (fun _ _ => (y_fieldAddr rfl rfl (fa35_1 _ _ _))) ?_
                                refine wU_val (v := .int .i64 x129.hno) (wg rfl rfl rfl rfl) rfl rfl (fun _ Sx180 => (y_load rfl rfl (r_load Try.underlying3 rfl (St.cl 0 Sx180 rfl rfl)))) ?_
                                refine wU_val (v := .pointer (some ⟨b1, 4, none⟩)) (wg rfl rfl rfl rfl) rfl rfl (fun _ _ => (y_fieldAddr rfl rfl (fa29_4 _ _ _))) ?_
                                refine wU_val (v := .slice (some ⟨b127, o128, none⟩) ls.length c2) (wg rfl rfl rfl rfl) rfl rfl (fun _ Sx182 => (y_load rfl rfl (r_load Try.underlying23 rfl (St.cl 2 Sx182 rfl qRow_g4)))) ?_
                                refine wU_val (v := .int .i64 ((k : Nat) : Int)) (wg rfl rfl rfl rfl) rfl rfl (fun _ _ => (y_move rfl rfl)) ?_
                                refine wU_val (v := .int .i64 ((k - 1 : Nat) : Int)) (wg rfl rfl rfl rfl) rfl rfl (fun _ _ => (y_binop rfl rfl rfl (r_sub (by omega) (by omega)))) ?_
                                obtain ⟨x185, hx186⟩ : ∃ x, (ls)[k - 1]? = some x := ⟨_, List.getElem?_eq_getElem (by have := (St.rd 4 S135 rfl).1; rw [fm_len (sz := 4) (fun _ => rfl)] at this; omega)⟩
                                refine wU_val (v := .pointer (some ⟨b127, o128 + (k - 1) * 4, none⟩)) (wg rfl rfl rfl rfl) rfl rfl (fun _ _ => (y_indexAddr rfl rfl rfl (r_indexAddr (k - 1) Try.underlying23 inf141 (by omega) (by omega)))) ?_
                                refine wU_val (v := .pointer (some ⟨b127, o128 + (k - 1) * 4, none⟩)) (wg rfl rfl rfl rfl) rfl rfl (fun _ _ => (y_fieldAddr rfl rfl (fa141_0 _ _ _))) ?_
                                refine wU_val (v := .pointer (some ⟨b127, o128 + (k - 1) * 4 + 1, none⟩)) (wg rfl rfl rfl rfl) rfl rfl (fun _ _ => (y_fieldAddr rfl rfl (fa35_1 _ _ _))) ?_
                                refine wU_val (v := .int .i64 x185.hno) (wg rfl rfl rfl rfl) rfl rfl (fun _ Sx190 => (y_load rfl rfl (r_load Try.underlying3 rfl (Rd.cl2 (i := 1) (St.rd 4 Sx190 rfl) (fm_get (enc := Ls.cells) (sz := 4) (fun _ => rfl) hx186 rfl))))) ?_
                                by_cases h191 : x185.hno < x129.hno
                                · refine wU_val (v := .bool false) (wg rfl rfl rfl rfl) rfl rfl (fun _ _ => (y_binop rfl rfl rfl (r_leq_f (by omega)))) ?_
                                  refine wU_val (v := .bool false) (wg rfl rfl rfl rfl) rfl rfl (fun _ _ => (y_pick_t rfl rfl rfl)) ?_
                                  refine wU_val (v := .bool false) (wn rfl) rfl rfl (fun _ _ => (y_pick_f rfl rfl rfl)) ?_
                                  refine wU_nil fun w195 S196 => ?_
                                  clear S135
                                  refine wQ_sub (l' := [(1, _), (2, _), (4, _), (7, _), (8, _), (114, _), (115, _), (116, _), (117, _), (118, _), (121, _), (122, _), (123, _), (124, _), (125, _), (126, _), (129, _), (130, _), (131, _), (132, _), (133, _), (134, _), (135, _), (136, _), (139, _), (140, _), (141, _), (142, _), (143, _), (144, _), (145, _), (146, _), (147, _), (148, _), (149, _), (150, _), (151, _), (152, _), (153, _), (154, _), (155, _)]) ⟨rfl, rfl, rfl, rfl, rfl, rfl, rfl, rfl, rfl, rfl, rfl, rfl, rfl, rfl, rfl, rfl, rfl, rfl, rfl, rfl, rfl, rfl, rfl, rfl, rfl, rfl, rfl, rfl, rfl, rfl, rfl, rfl, rfl, rfl, rfl, rfl, rfl, rfl, rfl, rfl, rfl, trivial⟩ ?_
                                  refine wQ_then ?_
                                  refine wC_cond_f rfl ?_
                                  refine wC_skip ?_
                                  refine wQ_then ?_
                                  refine wC_region ?_
                                  refine wL_val (v := .slice A5 (rs.length + k) c5) (wn rfl) rfl rfl (y_move rfl rfl) ?_
                                  refine wL_val (v := .pointer (some ⟨b131, 2, none⟩)) (wn rfl) rfl rfl (y_fieldAddr rfl rfl (fa141_1 _ _ _)) ?_
                                  refine wL_val (v := .pointer (some ⟨b131, 2, none⟩)) (wn rfl) rfl rfl (y_fieldAddr rfl rfl (fa137_0 _ _ _)) ?_
                                  refine wL_val (v := .int .i64 x129.msg.no) (wn rfl) rfl rfl (y_load rfl rfl (r_load Try.underlying3 rfl (St.cl 0 S196 rfl rfl))) ?_
                                  refine wL_new (V := fun b => .slice (some ⟨b, 0, none⟩) 1 1) (row := #[.int .i64 x129.msg.no]) (t := 3) S196 (wn rfl) rfl rfl (d_buildSlice (vs := [(0, .int .i64 x129.msg.no)]) rfl ⟨rfl, rfl, trivial⟩ (by kernel_rfl)) ?_
                                  intro b197 w198 S199
                                  clear S196
                                  refine wL_append (news := [.int .i64 x129.msg.no]) (xs' := (rs.map (·.no) ++ (ls.take (k + 1)).map (·.msg.no)).flatMap oneI) 2 S199 (wn rfl) rfl rfl rfl rfl rfl rfl (St.bld (xs := [.int .i64 x129.msg.no]) 0 S199 rfl rfl rfl) Try.underlying143 infz3 rfl (by decide) (oneAll rfl) (by simp only [maxLen]; omega) (by omega) (fm_snoc (enc := oneI) (by rw [List.append_assoc, take_map (f := fun m : Ls => m.msg.no) hx130]) rfl) ?_
                                  intro A200 c201 w202 hc204 hm205 S203
                                  clear S199
                                  change St _ _ _ [_, _, .own 3 1 (.slice A200 ((rs.length + k) + 1) c201) ((rs.length + k) + 1) ((rs.map (·.no) ++ (ls.take (k + 1)).map (·.msg.no)).flatMap oneI), _, _, _] at S203
                                  refine wL_val (v := .slice A200 ((rs.length + k) + 1) c201) (wn rfl) rfl rfl (y_assign rfl rfl) ?_
                                  refine wL_nil ?_
                                  refine wQ_sub (l' := [(1, _), (2, _), (4, _), (7, _), (114, _), (115, _), (116, _), (117, _), (118, _), (121, _), (122, _), (123, _), (124, _), (125, _), (126, _), (129, _), (130, _), (131, _), (132, _), (133, _), (134, _), (135, _), (136, _), (139, _), (140, _), (141, _), (142, _), (143, _), (144, _), (145, _), (146, _), (147, _), (148, _), (149, _), (150, _), (151, _), (152, _), (153, _), (154, _)]) ⟨rfl, rfl, rfl, rfl, rfl, rfl, rfl, rfl, rfl, rfl, rfl, rfl, rfl, rfl, rfl, rfl, rfl, rfl, rfl, rfl, rfl, rfl, rfl, rfl, rfl, rfl, rfl, rfl, rfl, rfl, rfl, rfl, rfl, rfl, rfl, rfl, rfl, rfl, rfl, trivial⟩ ?_
                                  refine wQ_blk_n ?_
                                  refine wQ_then ?_
                                  refine wC_region ?_
                                  refine wL_val (v := .int .i64 ((k : Nat) : Int)) (wn rfl) rfl rfl (y_move rfl rfl) ?_
                                  refine wL_val (v := .int .i64 ((k + 1 : Nat) : Int)) (wn rfl) rfl rfl (y_binop rfl rfl rfl (r_add (by omega) (by omega))) ?_
                                  refine wL_val (v := .int .i64 ((k + 1 : Nat) : Int)) (wn rfl) rfl rfl (y_assign rfl rfl) ?_
                                  refine wL_nil ?_
                                  refine wQ_sub (l' := [(1, _), (2, _), (4, _), (7, _), (114, _), (115, _), (116, _), (117, _), (118, _), (121, _), (122, _), (123, _), (124, _), (125, _), (126, _), (129, _), (130, _), (131, _), (132, _), (133, _), (134, _), (135, _), (136, _), (139, _), (140, _), (141, _), (142, _), (143, _), (144, _), (145, _), (146, _), (147, _), (148, _), (149, _), (150, _), (151, _), (152, _), (153, _), (154, _)]) ⟨rfl, rfl, rfl, rfl, rfl, rfl, rfl, rfl, rfl, rfl, rfl, rfl, rfl, rfl, rfl, rfl, rfl, rfl, rfl, rfl, rfl, rfl, rfl, rfl, rfl, rfl, rfl, rfl, rfl, rfl, rfl, rfl, rfl, rfl, rfl, rfl, rfl, rfl, rfl, trivial⟩ ?_
                                  have S206 : St w.heap.size w w202 [_, _, _, _] := (St.del 0 (St.del 1 S203))
                                  clear S203
                                  refine wQ_round (k + 1, A200, c201) ?_ ⟨rfl, rfl, rfl, rfl, trivial⟩ (by first | omega | (dsimp only; omega))
                                  exact ⟨(by dsimp only; omega), (by dsimp only; rw [prevH_succ hx130]; exact ls_yes hi124 hx130 (msgOk_yes ⟨by omega, by omega, by omega, by omega⟩) ⟨by omega, (by rw [prevH_pos h175 hx186]; exact h191), by omega⟩), (by dsimp only; rw [prevH_succ hx130]; omega), S206⟩
                                · refine wU_val (v := .bool true) (wg rfl rfl rfl rfl) rfl rfl (fun _ _ => (y_binop rfl rfl rfl (r_leq_t (by omega)))) ?_
                                  refine wU_val (v := .bool true) (wg rfl rfl rfl rfl) rfl rfl (fun _ _ => (y_pick_t rfl rfl rfl)) ?_
                                  refine wU_val (v := .bool true) (wn rfl) rfl rfl (fun _ _ => (y_pick_f rfl rfl rfl)) ?_
                                  refine wU_nil fun w210 S211 => ?_
                                  clear S135
                                  refine wQ_sub (l' := [(1, _), (2, _), (4, _), (7, _), (8, _), (114, _), (115, _), (116, _), (117, _), (118, _), (121, _), (122, _), (123, _), (124, _), (125, _), (126, _), (129, _), (130, _), (131, _), (132, _), (133, _), (134, _), (135, _), (136, _), (139, _), (140, _), (141, _), (142, _), (143, _), (144, _), (145, _), (146, _), (147, _), (148, _), (149, _), (150, _), (151, _), (152, _), (153, _), (154, _), (155, _)]) ⟨rfl, rfl, rfl, rfl, rfl, rfl, rfl, rfl, rfl, rfl, rfl, rfl, rfl, rfl, rfl, rfl, rfl, rfl, rfl, rfl, rfl, rfl, rfl, rfl, rfl, rfl, rfl, rfl, rfl, rfl, rfl, rfl, rfl, rfl, rfl, rfl, rfl, rfl, rfl, rfl, rfl, trivial⟩ ?_
                                  refine wQ_then ?_
                                  refine wC_cond_t rfl ?_
                                  refine wC_seq ?_
                                  refine wC_region ?_
                                  refine wL_val (v := .int .i64 6) (wn rfl) rfl rfl (y_assign rfl rfl) ?_
                                  refine wL_nil ?_
                                  refine wQ_sub (l' := [(1, _), (2, _)]) ⟨rfl, rfl, trivial⟩ ?_
                                  refine wQ_then ?_
                                  refine wC_ret ?_
                                  refine wQ_then_ret ?_
                                  refine wQ_blk_ret ?_
                                  refine wQ_then_ret ?_
                                  refine wQ_then_ret ?_
                                  refine wQ_blk_ret ?_
                                  refine wQ_then_ret ?_
                                  refine wQ_post (rs := [.tmp 2]) (vs := [.int .i64 6]) rfl ⟨rfl, trivial⟩ ?_
                                  exact ⟨ret_int_ (qf_bad fun h => absurd h.2.2.1 (ls_no hi124 hx130 fun h2 => by rw [prevH_pos h175 hx186] at h2; omega)).symm, S211.low⟩
                              · refine wU_val (v := .bool false) (wg rfl rfl rfl rfl) rfl rfl (fun _ _ => (y_binop rfl rfl rfl (r_gtr_f h175))) ?_
                                refine wU_val (v := .bool false) (wg rfl rfl rfl rfl) rfl rfl (fun _ _ => (y_move rfl rfl)) ?_
                                refine wU_skip (wg rfl rfl rfl rfl) rfl rfl ?_
                                refine wU_skip (wg rfl rfl rfl rfl) rfl rfl ?_
                                refine wU_skip (wg rfl rfl rfl rfl) rfl rfl ?_
                                refine wU_skip (wg rfl rfl rfl rfl) rfl rfl ?_
                                refine wU_skip (wg rfl rfl rfl rfl) rfl rfl ?_
                                refine wU_skip (wg rfl rfl rfl rfl) rfl rfl ?_
                                refine wU_skip (wg rfl rfl rfl rfl) rfl rfl ?_
                                refine wU_skip (wg rfl rfl rfl rfl) rfl rfl ?_
                                refine wU_skip (wg rfl rfl rfl rfl) rfl rfl ?_
                                refine wU_skip (wg rfl rfl rfl rfl) rfl rfl ?_
                                refine wU_skip (wg rfl rfl rfl rfl) rfl rfl ?_
                                refine wU_skip (wg rfl rfl rfl rfl) rfl rfl ?_
                                refine wU_val (v := .bool false) (wg rfl rfl rfl rfl) rfl rfl (fun _ _ => (y_pick_f rfl rfl rfl)) ?_
                                refine wU_val (v := .bool false) (wn rfl) rfl rfl (fun _ _ => (y_pick_f rfl rfl rfl)) ?_
                                refine wU_nil fun w216 S217 => ?_
                                clear S135
                                refine wQ_sub (l' := [(1, _), (2, _), (4, _), (7, _), (8, _), (114, _), (115, _), (116, _), (117, _), (118, _), (121, _), (122, _), (123, _), (124, _), (125, _), (126, _), (129, _), (130, _), (131, _), (132, _), (133, _), (134, _), (135, _), (136, _), (139, _), (140, _), (141, _), (142, _), (143, _), (144, _), (145, _), (146, _), (147, _), (148, _), (149, _), (150, _), (151, _), (152, _), (153, _), (154, _), (155, _)]) ⟨rfl, rfl, rfl, rfl, rfl, rfl, rfl, rfl, rfl, rfl, rfl, rfl, rfl, rfl, rfl, rfl, rfl, rfl, rfl, rfl, rfl, rfl, rfl, rfl, rfl, rfl, rfl, rfl, rfl, rfl, rfl, rfl, rfl, rfl, rfl, rfl, rfl, rfl, rfl, rfl, rfl, trivial⟩ ?_
                                refine wQ_then ?_
                                refine wC_cond_f rfl ?_
                                refine wC_skip ?_
                                refine wQ_then ?_
                                refine wC_region ?_
                                refine wL_val (v := .slice A5 (rs.length + k) c5) (wn rfl) rfl rfl (y_move rfl rfl) ?_
                                refine wL_val (v := .pointer (some ⟨b131, 2, none⟩)) (wn rfl) rfl rfl (y_fieldAddr rfl rfl (fa141_1 _ _ _)) ?_
                                refine wL_val (v := .pointer (some ⟨b131, 2, none⟩)) (wn rfl) rfl rfl (y_fieldAddr rfl rfl (fa137_0 _ _ _)) ?_
                                refine wL_val (v := .int .i64 x129.msg.no) (wn rfl) rfl rfl (y_load rfl rfl (r_load Try.underlying3 rfl (St.cl 0 S217 rfl rfl))) ?_
                                refine wL_new (V := fun b => .slice (some ⟨b, 0, none⟩) 1 1) (row := #[.int .i64 x129.msg.no]) (t := 3) S217 (wn rfl) rfl rfl (d_buildSlice (vs := [(0, .int .i64 x129.msg.no)]) rfl ⟨rfl, rfl, trivial⟩ (by kernel_rfl)) ?_
                                intro b218 w219 S220
                                clear S217
                                refine wL_append (news := [.int .i64 x129.msg.no]) (xs' := (rs.map (·.no) ++ (ls.take (k + 1)).map (·.msg.no)).flatMap oneI) 2 S220 (wn rfl) rfl rfl rfl rfl rfl rfl (St.bld (xs := [.int .i64 x129.msg.no]) 0 S220 rfl rfl rfl) Try.underlying143 infz3 rfl (by decide) (oneAll rfl) (by simp only [maxLen]; omega) (by omega) (fm_snoc (enc := oneI) (by rw [List.append_assoc, take_map (f := fun m : Ls => m.msg.no) hx130]) rfl) ?_
                                intro A221 c222 w223 hc225 hm226 S224
                                clear S220
                                change St _ _ _ [_, _, .own 3 1 (.slice A221 ((rs.length + k) + 1) c222) ((rs.length + k) + 1) ((rs.map (·.no) ++ (ls.take (k + 1)).map (·.msg.no)).flatMap oneI), _, _, _] at S224
                                refine wL_val (v := .slice A221 ((rs.length + k) + 1) c222) (wn rfl) rfl rfl (y_assign rfl rfl) ?_
                                refine wL_nil ?_
                                refine wQ_sub (l' := [(1, _), (2, _), (4, _), (7, _), (114, _), (115, _), (116, _), (117, _), (118, _), (121, _), (122, _), (123, _), (124, _), (125, _), (126, _), (129, _), (130, _), (131, _), (132, _), (133, _), (134, _), (135, _), (136, _), (139, _), (140, _), (141, _), (142, _), (143, _), (144, _), (145, _), (146, _), (147, _), (148, _), (149, _), (150, _), (151, _), (152, _), (153, _), (154, _)]) ⟨rfl, rfl, rfl, rfl, rfl, rfl, rfl, rfl, rfl, rfl, rfl, rfl, rfl, rfl, rfl, rfl, rfl, rfl, rfl, rfl, rfl, rfl, rfl, rfl, rfl, rfl, rfl, rfl, rfl, rfl, rfl, rfl, rfl, rfl, rfl, rfl, rfl, rfl, rfl, trivial⟩ ?_
                                refine wQ_blk_n ?_
                                refine wQ_then ?_
                                refine wC_region ?_
                                refine wL_val (v := .int .i64 ((k : Nat) : Int)) (wn rfl) rfl rfl (y_move rfl rfl) ?_
                                refine wL_val (v := .int .i64 ((k + 1 : Nat) : Int)) (wn rfl) rfl rfl (y_binop rfl rfl rfl (r_add (by omega) (by omega))) ?_
                                refine wL_val (v := .int .i64 ((k + 1 : Nat) : Int)) (wn rfl) rfl rfl (y_assign rfl rfl) ?_
                                refine wL_nil ?_
                                refine wQ_sub (l' := [(1, _), (2, _), (4, _), (7, _), (114, _), (115, _), (116, _), (117, _), (118, _), (121, _), (122, _), (123, _), (124, _), (125, _), (126, _), (129, _), (130, _), (131, _), (132, _), (133, _), (134, _), (135, _), (136, _), (139, _), (140, _), (141, _), (142, _), (143, _), (144, _), (145, _), (146, _), (147, _), (148, _), (149, _), (150, _), (151, _), (152, _), (153, _), (154, _)]) ⟨rfl, rfl, rfl, rfl, rfl, rfl, rfl, rfl, rfl, rfl, rfl, rfl, rfl, rfl, rfl, rfl, rfl, rfl, rfl, rfl, rfl, rfl, rfl, rfl, rfl, rfl, rfl, rfl, rfl, rfl, rfl, rfl, rfl, rfl, rfl, rfl, rfl, rfl, rfl, trivial⟩ ?_
                                have S227 : St w.heap.size w w223 [_, _, _, _] := (St.del 0 (St.del 1 S224))
                                clear S224
                                refine wQ_round (k + 1, A221, c222) ?_ ⟨rfl, rfl, rfl, rfl, trivial⟩ (by first | omega | (dsimp only; omega))
                                exact ⟨(by dsimp only; omega), (by dsimp only; rw [prevH_succ hx130]; exact ls_yes hi124 hx130 (msgOk_yes ⟨by omega, by omega, by omega, by omega⟩) ⟨by omega, (by rw [prevH_zero h175]; omega), by omega⟩), (by dsimp only; rw [prevH_succ hx130]; omega), S227⟩
                            · refine wU_call (v := .bool false) (vs := [.int .i64 x129.hno, .int .i64 0, .int .i64 (gv - 1)]) (wg rfl rfl rfl rfl) rfl rfl (fun _ => (e_call (vs := [.int .i64 x129.hno, .int .i64 0, .int .i64 (gv - 1)]) rfl en107 ⟨rfl, rfl, rfl, trivial⟩)) (fun _ Sx228 => (In_f h169 _).mono fun _ _ h => ⟨h.1, h.2 ▸ Sx228⟩) ?_
                              refine wU_val (v := .bool true) (wg rfl rfl rfl rfl) rfl rfl (fun _ _ => (y_unop rfl rfl r_not)) ?_
                              refine wU_val (v := .bool true) (wn rfl) rfl rfl (fun _ _ => (y_pick_f rfl rfl rfl)) ?_
                              refine wU_val (v := .bool true) (wn rfl) rfl rfl (fun _ _ => (y_move rfl rfl)) ?_
                              refine wU_skip (wg rfl rfl rfl rfl) rfl rfl ?_
                              refine wU_skip (wg rfl rfl rfl rfl) rfl rfl ?_
                              refine wU_skip (wg rfl rfl rfl rfl) rfl rfl ?_
                              refine wU_skip (wg rfl rfl rfl rfl) rfl rfl ?_
                              refine wU_skip (wg rfl rfl rfl rfl) rfl rfl ?_
                              refine wU_skip (wg rfl rfl rfl rfl) rfl rfl ?_
                              refine wU_skip (wg rfl rfl rfl rfl) rfl rfl ?_
                              refine wU_skip (wg rfl rfl rfl rfl) rfl rfl ?_
                              refine wU_skip (wg rfl rfl rfl rfl) rfl rfl ?_
                              refine wU_skip (wg rfl rfl rfl rfl) rfl rfl ?_
                              refine wU_skip (wg rfl rfl rfl rfl) rfl rfl ?_
                              refine wU_skip (wg rfl rfl rfl rfl) rfl rfl ?_
                              refine wU_skip (wg rfl rfl rfl rfl) rfl rfl ?_
                              refine wU_skip (wg rfl rfl rfl rfl) rfl rfl ?_
                              refine wU_skip (wg rfl rfl rfl rfl) rfl rfl ?_
                              refine wU_skip (wg rfl rfl rfl rfl) rfl rfl ?_
                              refine wU_val (v := .bool true) (wn rfl) rfl rfl (fun _ _ => (y_pick_t rfl rfl rfl)) ?_
                              refine wU_nil fun w233 S234 => ?_
                              clear S135
                              refine wQ_sub (l' := [(1, _), (2, _), (4, _), (7, _), (8, _), (114, _), (115, _), (116, _), (117, _), (118, _), (121, _), (122, _), (123, _), (124, _), (125, _), (126, _), (129, _), (130, _), (131, _), (132, _), (133, _), (134, _), (135, _), (136, _), (139, _), (140, _), (141, _), (142, _), (143, _), (144, _), (145, _), (146, _), (147, _), (148, _), (149, _), (150, _), (151, _), (152, _), (153, _), (154, _), (155, _)]) ⟨rfl, rfl, rfl, rfl, rfl, rfl, rfl, rfl, rfl, rfl, rfl, rfl, rfl, rfl, rfl, rfl, rfl, rfl, rfl, rfl, rfl, rfl, rfl, rfl, rfl, rfl, rfl, rfl, rfl, rfl, rfl, rfl, rfl, rfl, rfl, rfl, rfl, rfl, rfl, rfl, rfl, trivial⟩ ?_
                              refine wQ_then ?_
                              refine wC_cond_t rfl ?_
                              refine wC_seq ?_
                              refine wC_region ?_
                              refine wL_val (v := .int .i64 6) (wn rfl) rfl rfl (y_assign rfl rfl) ?_
                              refine wL_nil ?_
                              refine wQ_sub (l' := [(1, _), (2, _)]) ⟨rfl, rfl, trivial⟩ ?_
                              refine wQ_then ?_
                              refine wC_ret ?_
                              refine wQ_then_ret ?_
                              refine wQ_blk_ret ?_
                              refine wQ_then_ret ?_
                              refine wQ_then_ret ?_
                              refine wQ_blk_ret ?_
                              refine wQ_then_ret ?_
                              refine wQ_post (rs := [.tmp 2]) (vs := [.int .i64 6]) rfl ⟨rfl, trivial⟩ ?_
                              exact ⟨ret_int_ (qf_bad fun h => absurd h.2.2.1 (ls_no hi124 hx130 fun h2 => by have := hi125; omega)).symm, S234.low⟩
                          · refine wU_val (v := .bool true) (wg rfl rfl rfl rfl) rfl rfl (fun _ _ => (y_binop rfl rfl rfl (r_neq_t h159))) ?_
                            refine wU_val (v := .bool true) (wn rfl) rfl rfl (fun _ _ => (y_pick_f rfl rfl rfl)) ?_
                            refine wU_val (v := .bool true) (wn rfl) rfl rfl (fun _ _ => (y_move rfl rfl)) ?_
                            refine wU_skip (wg rfl rfl rfl rfl) rfl rfl ?_
                            refine wU_skip (wg rfl rfl rfl rfl) rfl rfl ?_
                            refine wU_skip (wg rfl rfl rfl rfl) rfl rfl ?_
                            refine wU_skip (wg rfl rfl rfl rfl) rfl rfl ?_
                            refine wU_skip (wg rfl rfl rfl rfl) rfl rfl ?_
                            refine wU_skip (wg rfl rfl rfl rfl) rfl rfl ?_
                            refine wU_skip (wg rfl rfl rfl rfl) rfl rfl ?_
                            refine wU_skip (wg rfl rfl rfl rfl) rfl rfl ?_
                            refine wU_val (v := .bool true) (wn rfl) rfl rfl (fun _ _ => (y_pick_t rfl rfl rfl)) ?_
                            refine wU_val (v := .bool true) (wn rfl) rfl rfl (fun _ _ => (y_move rfl rfl)) ?_
                            refine wU_skip (wg rfl rfl rfl rfl) rfl rfl ?_
                            refine wU_skip (wg rfl rfl rfl rfl) rfl rfl ?_
                            refine wU_skip (wg rfl rfl rfl rfl) rfl rfl ?_
                            refine wU_skip (wg rfl rfl rfl rfl) rfl rfl ?_
                            refine wU_skip (wg rfl rfl rfl rfl) rfl rfl ?_
                            refine wU_skip (wg rfl rfl rfl rfl) rfl rfl ?_
                            refine wU_skip (wg rfl rfl rfl rfl) rfl rfl ?_
                            refine wU_skip (wg rfl rfl rfl rfl) rfl rfl ?_
                            refine wU_skip (wg rfl rfl rfl rfl) rfl rfl ?_
                            refine wU_skip (wg rfl rfl rfl rfl) rfl rfl ?_
                            refine wU_skip (wg rfl rfl rfl rfl) rfl rfl ?_
                            refine wU_skip (wg rfl rfl rfl rfl) rfl rfl ?_
                            refine wU_skip (wg rfl rfl rfl rfl) rfl rfl ?_
                            refine wU_skip (wg rfl rfl rfl rfl) rfl rfl ?_
                            refine wU_skip (wg rfl rfl rfl rfl) rfl rfl ?_
                            refine wU_skip (wg rfl rfl rfl rfl) rfl rfl ?_
                            refine wU_val (v := .bool true) (wn rfl) rfl rfl (fun _ _ => (y_pick_t rfl rfl rfl)) ?_
                            refine wU_nil fun w241 S242 => ?_
                            clear S135
                            refine wQ_sub (l' := [(1, _), (2, _), (4, _), (7, _), (8, _), (114, _), (115, _), (116, _), (117, _), (118, _), (121, _), (122, _), (123, _), (124, _), (125, _), (126, _), (129, _), (130, _), (131, _), (132, _), (133, _), (134, _), (135, _), (136, _), (139, _), (140, _), (141, _), (142, _), (143, _), (144, _), (145, _), (146, _), (147, _), (148, _), (149, _), (150, _), (151, _), (152, _), (153, _), (154, _), (155, _)]) ⟨rfl, rfl, rfl, rfl, rfl, rfl, rfl, rfl, rfl, rfl, rfl, rfl, rfl, rfl, rfl, rfl, rfl, rfl, rfl, rfl, rfl, rfl, rfl, rfl, rfl, rfl, rfl, rfl, rfl, rfl, rfl, rfl, rfl, rfl, rfl, rfl, rfl, rfl, rfl, rfl, rfl, trivial⟩ ?_
                            refine wQ_then ?_
                            refine wC_cond_t rfl ?_
                            refine wC_seq ?_
                            refine wC_region ?_
                            refine wL_val (v := .int .i64 6) (wn rfl) rfl rfl (y_assign rfl rfl) ?_
                            refine wL_nil ?_
                            refine wQ_sub (l' := [(1, _), (2, _)]) ⟨rfl, rfl, trivial⟩ ?_
                            refine wQ_then ?_
                            refine wC_ret ?_
                            refine wQ_then_ret ?_
                            refine wQ_blk_ret ?_
                            refine wQ_then_ret ?_
                            refine wQ_then_ret ?_
                            refine wQ_blk_ret ?_
                            refine wQ_then_ret ?_
                            refine wQ_post (rs := [.tmp 2]) (vs := [.int .i64 6]) rfl ⟨rfl, trivial⟩ ?_
                            exact ⟨ret_int_ (qf_bad fun h => absurd h.2.2.1 (ls_no hi124 hx130 fun h2 => h159 h2.2.1)).symm, S242.low⟩
                        · refine wU_call (v := .bool false) (vs := [.int .i64 x129.msg.body, .int .i64 0, .int .i64 1000000]) (wg rfl rfl rfl rfl) rfl rfl (fun _ => (e_call (vs := [.int .i64 x129.msg.body, .int .i64 0, .int .i64 1000000]) rfl en107 ⟨rfl, rfl, rfl, trivial⟩)) (fun _ Sx243 => (In_f h149 _).mono fun _ _ h => ⟨h.1, h.2 ▸ Sx243⟩) ?_
                          refine wU_val (v := .bool true) (wg rfl rfl rfl rfl) rfl rfl (fun _ _ => (y_unop rfl rfl r_not)) ?_
                          refine wU_val (v := .bool true) (wn rfl) rfl rfl (fun _ _ => (y_pick_f rfl rfl rfl)) ?_
                          refine wU_val (v := .bool true) (wn rfl) rfl rfl (fun _ _ => (y_move rfl rfl)) ?_
                          refine wU_skip (wg rfl rfl rfl rfl) rfl rfl ?_
                          refine wU_skip (wg rfl rfl rfl rfl) rfl rfl ?_
                          refine wU_skip (wg rfl rfl rfl rfl) rfl rfl ?_
                          refine wU_skip (wg rfl rfl rfl rfl) rfl rfl ?_
                          refine wU_skip (wg rfl rfl rfl rfl) rfl rfl ?_
                          refine wU_skip (wg rfl rfl rfl rfl) rfl rfl ?_
                          refine wU_val (v := .bool true) (wn rfl) rfl rfl (fun _ _ => (y_pick_t rfl rfl rfl)) ?_
                          refine wU_val (v := .bool true) (wn rfl) rfl rfl (fun _ _ => (y_move rfl rfl)) ?_
                          refine wU_skip (wg rfl rfl rfl rfl) rfl rfl ?_
                          refine wU_skip (wg rfl rfl rfl rfl) rfl rfl ?_
                          refine wU_skip (wg rfl rfl rfl rfl) rfl rfl ?_
                          refine wU_skip (wg rfl rfl rfl rfl) rfl rfl ?_
                          refine wU_skip (wg rfl rfl rfl rfl) rfl rfl ?_
                          refine wU_skip (wg rfl rfl rfl rfl) rfl rfl ?_
                          refine wU_skip (wg rfl rfl rfl rfl) rfl rfl ?_
                          refine wU_skip (wg rfl rfl rfl rfl) rfl rfl ?_
                          refine wU_val (v := .bool true) (wn rfl) rfl rfl (fun _ _ => (y_pick_t rfl rfl rfl)) ?_
                          refine wU_val (v := .bool true) (wn rfl) rfl rfl (fun _ _ => (y_move rfl rfl)) ?_
                          refine wU_skip (wg rfl rfl rfl rfl) rfl rfl ?_
                          refine wU_skip (wg rfl rfl rfl rfl) rfl rfl ?_
                          refine wU_skip (wg rfl rfl rfl rfl) rfl rfl ?_
                          refine wU_skip (wg rfl rfl rfl rfl) rfl rfl ?_
                          refine wU_skip (wg rfl rfl rfl rfl) rfl rfl ?_
                          refine wU_skip (wg rfl rfl rfl rfl) rfl rfl ?_
                          refine wU_skip (wg rfl rfl rfl rfl) rfl rfl ?_
                          refine wU_skip (wg rfl rfl rfl rfl) rfl rfl ?_
                          refine wU_skip (wg rfl rfl rfl rfl) rfl rfl ?_
                          refine wU_skip (wg rfl rfl rfl rfl) rfl rfl ?_
                          refine wU_skip (wg rfl rfl rfl rfl) rfl rfl ?_
                          refine wU_skip (wg rfl rfl rfl rfl) rfl rfl ?_
                          refine wU_skip (wg rfl rfl rfl rfl) rfl rfl ?_
                          refine wU_skip (wg rfl rfl rfl rfl) rfl rfl ?_
                          refine wU_skip (wg rfl rfl rfl rfl) rfl rfl ?_
                          refine wU_skip (wg rfl rfl rfl rfl) rfl rfl ?_
                          refine wU_val (v := .bool true) (wn rfl) rfl rfl (fun _ _ => (y_pick_t rfl rfl rfl)) ?_
                          refine wU_nil fun w252 S253 => ?_
                          clear S135
                          refine wQ_sub (l' := [(1, _), (2, _), (4, _), (7, _), (8, _), (114, _), (115, _), (116, _), (117, _), (118, _), (121, _), (122, _), (123, _), (124, _), (125, _), (126, _), (129, _), (130, _), (131, _), (132, _), (133, _), (134, _), (135, _), (136, _), (139, _), (140, _), (141, _), (142, _), (143, _), (144, _), (145, _), (146, _), (147, _), (148, _), (149, _), (150, _), (151, _), (152, _), (153, _), (154, _), (155, _)]) ⟨rfl, rfl, rfl, rfl, rfl, rfl, rfl, rfl, rfl, rfl, rfl, rfl, rfl, rfl, rfl, rfl, rfl, rfl, rfl, rfl, rfl, rfl, rfl, rfl, rfl, rfl, rfl, rfl, rfl, rfl, rfl, rfl, rfl, rfl, rfl, rfl, rfl, rfl, rfl, rfl, rfl, trivial⟩ ?_
                          refine wQ_then ?_
                          refine wC_cond_t rfl ?_
                          refine wC_seq ?_
                          refine wC_region ?_
                          refine wL_val (v := .int .i64 6) (wn rfl) rfl rfl (y_assign rfl rfl) ?_
                          refine wL_nil ?_
                          refine wQ_sub (l' := [(1, _), (2, _)]) ⟨rfl, rfl, trivial⟩ ?_
                          refine wQ_then ?_
                          refine wC_ret ?_
                          refine wQ_then_ret ?_
                          refine wQ_blk_ret ?_
                          refine wQ_then_ret ?_
                          refine wQ_then_ret ?_
                          refine wQ_blk_ret ?_
                          refine wQ_then_ret ?_
                          refine wQ_post (rs := [.tmp 2]) (vs := [.int .i64 6]) rfl ⟨rfl, trivial⟩ ?_
                          exact ⟨ret_int_ (qf_bad fun h => absurd h.2.2.1 (ls_no hi124 hx130 fun h2 => h149 (by have := msgOk_of h2.1; omega))).symm, S253.low⟩
                      · refine wU_call (v := .bool false) (vs := [.int .i64 x129.msg.no, .int .i64 0, .int .i64 (nx - 1)]) (wn rfl) rfl rfl (fun _ => (e_call (vs := [.int .i64 x129.msg.no, .int .i64 0, .int .i64 (nx - 1)]) rfl en107 ⟨rfl, rfl, rfl, trivial⟩)) (fun _ Sx254 => (In_f h142 _).mono fun _ _ h => ⟨h.1, h.2 ▸ Sx254⟩) ?_
                        refine wU_val (v := .bool true) (wn rfl) rfl rfl (fun _ _ => (y_unop rfl rfl r_not)) ?_
                        refine wU_val (v := .bool true) (wn rfl) rfl rfl (fun _ _ => (y_move rfl rfl)) ?_
                        refine wU_skip (wg rfl rfl rfl rfl) rfl rfl ?_
                        refine wU_skip (wg rfl rfl rfl rfl) rfl rfl ?_
                        refine wU_skip (wg rfl rfl rfl rfl) rfl rfl ?_
                        refine wU_skip (wg rfl rfl rfl rfl) rfl rfl ?_
                        refine wU_skip (wg rfl rfl rfl rfl) rfl rfl ?_
                        refine wU_val (v := .bool true) (wn rfl) rfl rfl (fun _ _ => (y_pick_t rfl rfl rfl)) ?_
                        refine wU_val (v := .bool true) (wn rfl) rfl rfl (fun _ _ => (y_move rfl rfl)) ?_
                        refine wU_skip (wg rfl rfl rfl rfl) rfl rfl ?_
                        refine wU_skip (wg rfl rfl rfl rfl) rfl rfl ?_
                        refine wU_skip (wg rfl rfl rfl rfl) rfl rfl ?_
                        refine wU_skip (wg rfl rfl rfl rfl) rfl rfl ?_
                        refine wU_skip (wg rfl rfl rfl rfl) rfl rfl ?_
                        refine wU_skip (wg rfl rfl rfl rfl) rfl rfl ?_
                        refine wU_val (v := .bool true) (wn rfl) rfl rfl (fun _ _ => (y_pick_t rfl rfl rfl)) ?_
                        refine wU_val (v := .bool true) (wn rfl) rfl rfl (fun _ _ => (y_move rfl rfl)) ?_
                        refine wU_skip (wg rfl rfl rfl rfl) rfl rfl ?_
                        refine wU_skip (wg rfl rfl rfl rfl) rfl rfl ?_
                        refine wU_skip (wg rfl rfl rfl rfl) rfl rfl ?_
                        refine wU_skip (wg rfl rfl rfl rfl) rfl rfl ?_
                        refine wU_skip (wg rfl rfl rfl rfl) rfl rfl ?_
                        refine wU_skip (wg rfl rfl rfl rfl) rfl rfl ?_
                        refine wU_skip (wg rfl rfl rfl rfl) rfl rfl ?_
                        refine wU_skip (wg rfl rfl rfl rfl) rfl rfl ?_
                        refine wU_val (v := .bool true) (wn rfl) rfl rfl (fun _ _ => (y_pick_t rfl rfl rfl)) ?_
                        refine wU_val (v := .bool true) (wn rfl) rfl rfl (fun _ _ => (y_move rfl rfl)) ?_
                        refine wU_skip (wg rfl rfl rfl rfl) rfl rfl ?_
                        refine wU_skip (wg rfl rfl rfl rfl) rfl rfl ?_
                        refine wU_skip (wg rfl rfl rfl rfl) rfl rfl ?_
                        refine wU_skip (wg rfl rfl rfl rfl) rfl rfl ?_
                        refine wU_skip (wg rfl rfl rfl rfl) rfl rfl ?_
                        refine wU_skip (wg rfl rfl rfl rfl) rfl rfl ?_
                        refine wU_skip (wg rfl rfl rfl rfl) rfl rfl ?_
                        refine wU_skip (wg rfl rfl rfl rfl) rfl rfl ?_
                        refine wU_skip (wg rfl rfl rfl rfl) rfl rfl ?_
                        refine wU_skip (wg rfl rfl rfl rfl) rfl rfl ?_
                        refine wU_skip (wg rfl rfl rfl rfl) rfl rfl ?_
                        refine wU_skip (wg rfl rfl rfl rfl) rfl rfl ?_
                        refine wU_skip (wg rfl rfl rfl rfl) rfl rfl ?_
                        refine wU_skip (wg rfl rfl rfl rfl) rfl rfl ?_
                        refine wU_skip (wg rfl rfl rfl rfl) rfl rfl ?_
                        refine wU_skip (wg rfl rfl rfl rfl) rfl rfl ?_
                        refine wU_val (v := .bool true) (wn rfl) rfl rfl (fun _ _ => (y_pick_t rfl rfl rfl)) ?_
                        refine wU_nil fun w264 S265 => ?_
                        clear S135
                        refine wQ_sub (l' := [(1, _), (2, _), (4, _), (7, _), (8, _), (114, _), (115, _), (116, _), (117, _), (118, _), (121, _), (122, _), (123, _), (124, _), (125, _), (126, _), (129, _), (130, _), (131, _), (132, _), (133, _), (134, _), (135, _), (136, _), (139, _), (140, _), (141, _), (142, _), (143, _), (144, _), (145, _), (146, _), (147, _), (148, _), (149, _), (150, _), (151, _), (152, _), (153, _), (154, _), (155, _)]) ⟨rfl, rfl, rfl, rfl, rfl, rfl, rfl, rfl, rfl, rfl, rfl, rfl, rfl, rfl, rfl, rfl, rfl, rfl, rfl, rfl, rfl, rfl, rfl, rfl, rfl, rfl, rfl, rfl, rfl, rfl, rfl, rfl, rfl, rfl, rfl, rfl, rfl, rfl, rfl, rfl, rfl, trivial⟩ ?_
                        refine wQ_then ?_
                        refine wC_cond_t rfl ?_
                        refine wC_seq ?_
                        refine wC_region ?_
                        refine wL_val (v := .int .i64 6) (wn rfl) rfl rfl (y_assign rfl rfl) ?_
                        refine wL_nil ?_
                        refine wQ_sub (l' := [(1, _), (2, _)]) ⟨rfl, rfl, trivial⟩ ?_
                        refine wQ_then ?_
                        refine wC_ret ?_
                        refine wQ_then_ret ?_
                        refine wQ_blk_ret ?_
                        refine wQ_then_ret ?_
                        refine wQ_then_ret ?_
                        refine wQ_blk_ret ?_
                        refine wQ_then_ret ?_
                        refine wQ_post (rs := [.tmp 2]) (vs := [.int .i64 6]) rfl ⟨rfl, trivial⟩ ?_
                        exact ⟨ret_int_ (qf_bad fun h => absurd h.2.2.1 (ls_no hi124 hx130 fun h2 => h142 (by have := msgOk_of h2.1; omega))).symm, S265.low⟩
                    · refine wL_val (v := .bool false) (wn rfl) rfl rfl (y_binop rfl rfl rfl (r_lss_f h126)) ?_
                      refine wL_nil ?_
                      refine wQ_sub (l' := [(1, _), (2, _), (4, _), (7, _), (97, _)]) ⟨rfl, rfl, rfl, rfl, rfl, trivial⟩ ?_
                      refine wQ_then ?_
                      refine wC_cond_f rfl ?_
                      refine wC_exit ?_
                      refine wQ_then_exit ?_
                      refine wQ_then_exit ?_
                      refine wQ_blk_same ?_
                      refine wQ_then ?_
                      refine wC_seq ?_
                      refine wC_seq ?_
                      refine wC_region ?_
                      refine wL_val (v := .int .i64 0) (wn rfl) rfl rfl (y_assign rfl rfl) ?_
                      refine wL_nil ?_
                      refine wQ_sub (l' := [(1, _), (2, _), (4, _), (9, _)]) ⟨rfl, rfl, rfl, rfl, trivial⟩ ?_
                      refine wQ_then ?_
                      refine wC_block ?_
                      obtain rfl : k = ls.length := by omega
                      have hL266 : lsFrom ep nx gv (-1) ls = true := by rw [hi124, List.drop_length]; rfl
                      have S267 := S122
                      rw [List.take_length] at S267
                      change St _ _ _ [.own 3 1 (.slice A5 (rs.length + ls.length) c5) (rs.length + ls.length) ((nosOf rs ls).flatMap oneI), .blk b1 (qRow ep nx gv (.slice A1 rs.length c1) (.slice A2 ls.length c2) W) 29, .rd 2 A1 rs.length ((rs).flatMap Msg.cells), .rd 4 A2 ls.length ((ls).flatMap Ls.cells)] at S267
                      have hnl : (nosOf rs ls).length = rs.length + ls.length := by simp [nosOf]
                      refine wC_loop (X := Nat) (fun xv => [(1, .pointer (some ⟨b1, 0, none⟩)), (2, .int .i64 0), (4, .slice A5 (rs.length + ls.length) c5), (9, .int .i64 ((xv : Nat) : Int))]) (fun xv wr => (xv ≤ rs.length + ls.length) ∧ (∀ (a b : Nat) (x y : Int), b < a → a < xv → (nosOf rs ls)[a]? = some x → (nosOf rs ls)[b]? = some y → x ≠ y) ∧ St w.heap.size w wr [.own 3 1 (.slice A5 (rs.length + ls.length) c5) (rs.length + ls.length) ((nosOf rs ls).flatMap oneI), .blk b1 (qRow ep nx gv (.slice A1 rs.length c1) (.slice A2 ls.length c2) W) 29, .rd 2 A1 rs.length ((rs).flatMap Msg.cells), .rd 4 A2 ls.length ((ls).flatMap Ls.cells)]) (fun xv => rs.length + ls.length - xv) (0) ?_ ?_ ?_
                      · exact ⟨Nat.zero_le _, fun a b x y _ h => absurd h (Nat.not_lt_zero _), S267⟩
                      · exact ⟨rfl, rfl, rfl, rfl, trivial⟩
                      · rintro i w268 ⟨hi270, hi271, S269⟩
                        try dsimp only at hi270 hi271 S269
                        clear S267
                        refine wC_sub (l' := [(1, .pointer (some ⟨b1, 0, none⟩)), (2, .int .i64 0), (4, .slice A5 (rs.length + ls.length) c5), (9, .int .i64 ((i : Nat) : Int))]) ⟨rfl, rfl, rfl, rfl, trivial⟩ ?_
                        refine wC_seq ?_
                        refine wC_seq ?_
                        refine wC_region ?_
                        refine wL_val (v := .int .i64 ((i : Nat) : Int)) (wn rfl) rfl rfl (y_move rfl rfl) ?_
                        refine wL_val (v := .slice A5 (rs.length + ls.length) c5) (wn rfl) rfl rfl (y_move rfl rfl) ?_
                        refine wL_val (v := .int .i64 ((rs.length + ls.length : Nat) : Int)) (wn rfl) rfl rfl (y_builtin (vs := [.slice A5 (rs.length + ls.length) c5]) rfl ⟨rfl, trivial⟩ fun _ => r_len rfl Try.underlying143) ?_
                        by_cases h272 : ((i : Nat) : Int) < ((rs.length + ls.length : Nat) : Int)
                        · refine wL_val (v := .bool true) (wn rfl) rfl rfl (y_binop rfl rfl rfl (r_lss_t h272)) ?_
                          refine wL_nil ?_
                          refine wQ_sub (l' := [(1, _), (2, _), (4, _), (9, _), (165, _)]) ⟨rfl, rfl, rfl, rfl, rfl, trivial⟩ ?_
                          refine wQ_then ?_
                          refine wC_cond_t rfl ?_
                          refine wC_skip ?_
                          refine wQ_then ?_
                          refine wC_seq ?_
                          refine wC_block ?_
                          refine wC_seq ?_
                          refine wC_region ?_
                          refine wL_val (v := .int .i64 0) (wn rfl) rfl rfl (y_assign rfl rfl) ?_
                          refine wL_nil ?_
                          refine wQ_sub (l' := [(1, _), (2, _), (4, _), (9, _), (10, _)]) ⟨rfl, rfl, rfl, rfl, rfl, trivial⟩ ?_
                          refine wQ_then ?_
                          refine wC_block ?_
                          refine wC_loop (X := Nat) (fun xv => [(1, .pointer (some ⟨b1, 0, none⟩)), (2, .int .i64 0), (4, .slice A5 (rs.length + ls.length) c5), (9, .int .i64 ((i : Nat) : Int)), (10, .int .i64 ((xv : Nat) : Int))]) (fun xv wr => (xv ≤ i) ∧ (∀ (b : Nat) (x y : Int), b < xv → (nosOf rs ls)[i]? = some x → (nosOf rs ls)[b]? = some y → x ≠ y) ∧ St w.heap.size w wr [.own 3 1 (.slice A5 (rs.length + ls.length) c5) (rs.length + ls.length) ((nosOf rs ls).flatMap oneI), .blk b1 (qRow ep nx gv (.slice A1 rs.length c1) (.slice A2 ls.length c2) W) 29, .rd 2 A1 rs.length ((rs).flatMap Msg.cells), .rd 4 A2 ls.length ((ls).flatMap Ls.cells)]) (fun xv => i - xv) (0) ?_ ?_ ?_
                          · exact ⟨Nat.zero_le _, fun b x y h => absurd h (Nat.not_lt_zero _), S269⟩
                          · exact ⟨rfl, rfl, rfl, rfl, rfl, trivial⟩
                          · rintro k w273 ⟨hi275, hi276, S274⟩
                            try dsimp only at hi275 hi276 S274
                            clear S269
                            refine wC_sub (l' := [(1, .pointer (some ⟨b1, 0, none⟩)), (2, .int .i64 0), (4, .slice A5 (rs.length + ls.length) c5), (9, .int .i64 ((i : Nat) : Int)), (10, .int .i64 ((k : Nat) : Int))]) ⟨rfl, rfl, rfl, rfl, rfl, trivial⟩ ?_
                            refine wC_seq ?_
                            refine wC_seq ?_
                            refine wC_region ?_
                            refine wL_val (v := .int .i64 ((k : Nat) : Int)) (wn rfl) rfl rfl (y_move rfl rfl) ?_
                            refine wL_val (v := .int .i64 ((i : Nat) : Int)) (wn rfl) rfl rfl (y_move rfl rfl) ?_
                            by_cases h277 : ((k : Nat) : Int) < ((i : Nat) : Int)
                            · refine wL_val (v := .bool true) (wn rfl) rfl rfl (y_binop rfl rfl rfl (r_lss_t h277)) ?_
                              refine wL_nil ?_
                              refine wQ_sub (l' := [(1, _), (2, _), (4, _), (9, _), (10, _), (170, _)]) ⟨rfl, rfl, rfl, rfl, rfl, rfl, trivial⟩ ?_
                              refine wQ_then ?_
                              refine wC_cond_t rfl ?_
                              refine wC_skip ?_
                              refine wQ_then ?_
                              refine wC_seq ?_
                              refine wC_block ?_
                              refine wC_seq ?_
                              refine wC_quiet S274 mixed (by kernel_rfl) ?_
                              refine wU_val (v := .slice A5 (rs.length + ls.length) c5) (wn rfl) rfl rfl (fun _ _ => (y_move rfl rfl)) ?_
                              refine wU_val (v := .int .i64 ((i : Nat) : Int)) (wn rfl) rfl rfl (fun _ _ => (y_move rfl rfl)) ?_
                              obtain ⟨b280, o281, rfl⟩ := Rd.addr (St.ord 0 S274 rfl) (by omega)
                              obtain ⟨x282, hx283⟩ : ∃ x, (nosOf rs ls)[i]? = some x := ⟨_, List.getElem?_eq_getElem (by have := (St.ord 0 S274 rfl).1; rw [fm_len (sz := 1) (fun _ => rfl)] at this; omega)⟩
                              refine wU_val (v := .pointer (some ⟨b280, o281 + i * 1, none⟩)) (wn rfl) rfl rfl (fun _ _ => (y_indexAddr rfl rfl rfl (r_indexAddr i Try.underlying143 inf3 (by omega) (by omega)))) ?_
                              refine wU_val (v := .int .i64 x282) (wn rfl) rfl rfl (fun _ Sx285 => (y_load rfl rfl (r_load Try.underlying3 rfl (Rd.cl2 (i := 0) (St.ord 0 Sx285 rfl) (fm_get (enc := oneI) (sz := 1) (fun _ => rfl) hx283 rfl))))) ?_
                              refine wU_val (v := .slice (some ⟨b280, o281, none⟩) (rs.length + ls.length) c5) (wn rfl) rfl rfl (fun _ _ => (y_move rfl rfl)) ?_
                              refine wU_val (v := .int .i64 ((k : Nat) : Int)) (wn rfl) rfl rfl (fun _ _ => (y_move rfl rfl)) ?_
                              obtain ⟨x288, hx289⟩ : ∃ x, (nosOf rs ls)[k]? = some x := ⟨_, List.getElem?_eq_getElem (by have := (St.ord 0 S274 rfl).1; rw [fm_len (sz := 1) (fun _ => rfl)] at this; omega)⟩
                              refine wU_val (v := .pointer (some ⟨b280, o281 + k * 1, none⟩)) (wn rfl) rfl rfl (fun _ _ => (y_indexAddr rfl rfl rfl (r_indexAddr k Try.underlying143 inf3 (by omega) (by omega)))) ?_
                              refine wU_val (v := .int .i64 x288) (wn rfl) rfl rfl (fun _ Sx291 => (y_load rfl rfl (r_load Try.underlying3 rfl (Rd.cl2 (i := 0) (St.ord 0 Sx291 rfl) (fm_get (enc := oneI) (sz := 1) (fun _ => rfl) hx289 rfl))))) ?_
                              by_cases h292 : x282 = x288
                              · refine wU_val (v := .bool true) (wn rfl) rfl rfl (fun _ _ => (y_binop rfl rfl rfl (r_eql_t h292))) ?_
                                refine wU_nil fun w294 S295 => ?_
                                clear S274
                                refine wQ_sub (l' := [(1, _), (2, _), (4, _), (9, _), (10, _), (181, _)]) ⟨rfl, rfl, rfl, rfl, rfl, rfl, trivial⟩ ?_
                                refine wQ_then ?_
                                refine wC_cond_t rfl ?_
                                refine wC_seq ?_
                                refine wC_region ?_
                                refine wL_val (v := .int .i64 6) (wn rfl) rfl rfl (y_assign rfl rfl) ?_
                                refine wL_nil ?_
                                refine wQ_sub (l' := [(1, _), (2, _)]) ⟨rfl, rfl, trivial⟩ ?_
                                refine wQ_then ?_
                                refine wC_ret ?_
                                refine wQ_blk_ret ?_
                                refine wQ_then_ret ?_
                                refine wQ_then_ret ?_
                                refine wQ_blk_ret ?_
                                refine wQ_blk_ret ?_
                                refine wQ_then_ret ?_
                                refine wQ_then_ret ?_
                                refine wQ_blk_ret ?_
                                refine wQ_then_ret ?_
                                refine wQ_post (rs := [.tmp 2]) (vs := [.int .i64 6]) rfl ⟨rfl, trivial⟩ ?_
                                exact ⟨ret_int_ (qf_bad fun h => not_nodup (by omega) hx283 hx289 h292 h.2.2.2).symm, S295.low⟩
                              · refine wU_val (v := .bool false) (wn rfl) rfl rfl (fun _ _ => (y_binop rfl rfl rfl (r_eql_f h292))) ?_
                                refine wU_nil fun w297 S298 => ?_
                                clear S274
                                refine wQ_sub (l' := [(1, _), (2, _), (4, _), (9, _), (10, _), (181, _)]) ⟨rfl, rfl, rfl, rfl, rfl, rfl, trivial⟩ ?_
                                refine wQ_then ?_
                                refine wC_cond_f rfl ?_
                                refine wC_skip ?_
                                refine wQ_blk_n ?_
                                refine wQ_then ?_
                                refine wC_region ?_
                                refine wL_val (v := .int .i64 ((k : Nat) : Int)) (wn rfl) rfl rfl (y_move rfl rfl) ?_
                                refine wL_val (v := .int .i64 ((k + 1 : Nat) : Int)) (wn rfl) rfl rfl (y_binop rfl rfl rfl (r_add (by omega) (by omega))) ?_
                                refine wL_val (v := .int .i64 ((k + 1 : Nat) : Int)) (wn rfl) rfl rfl (y_assign rfl rfl) ?_
                                refine wL_nil ?_
                                refine wQ_sub (l' := [(1, _), (2, _), (4, _), (9, _), (10, _)]) ⟨rfl, rfl, rfl, rfl, rfl, trivial⟩ ?_
                                refine wQ_round (k + 1) ?_ ⟨rfl, rfl, rfl, rfl, rfl, trivial⟩ (by first | omega | (dsimp only; omega))
                                exact ⟨(by omega), (fun b x y hb hx hy => (Nat.lt_succ_iff_lt_or_eq.1 hb).elim (fun h => hi276 b x y h hx hy) (fun h => by subst h; rw [hx283] at hx; rw [hx289] at hy; cases hx; cases hy; exact h292)), S298⟩
                            · refine wL_val (v := .bool false) (wn rfl) rfl rfl (y_binop rfl rfl rfl (r_lss_f h277)) ?_
                              refine wL_nil ?_
                              refine wQ_sub (l' := [(1, _), (2, _), (4, _), (9, _), (10, _), (170, _)]) ⟨rfl, rfl, rfl, rfl, rfl, rfl, trivial⟩ ?_
                              refine wQ_then ?_
                              refine wC_cond_f rfl ?_
                              refine wC_exit ?_
                              refine wQ_then_exit ?_
                              refine wQ_then_exit ?_
                              refine wQ_blk_same ?_
                              refine wQ_blk_n ?_
                              refine wQ_then ?_
                              refine wC_region ?_
                              refine wL_val (v := .int .i64 ((i : Nat) : Int)) (wn rfl) rfl rfl (y_move rfl rfl) ?_
                              refine wL_val (v := .int .i64 ((i + 1 : Nat) : Int)) (wn rfl) rfl rfl (y_binop rfl rfl rfl (r_add (by omega) (by omega))) ?_
                              refine wL_val (v := .int .i64 ((i + 1 : Nat) : Int)) (wn rfl) rfl rfl (y_assign rfl rfl) ?_
                              refine wL_nil ?_
                              refine wQ_sub (l' := [(1, _), (2, _), (4, _), (9, _)]) ⟨rfl, rfl, rfl, rfl, trivial⟩ ?_
                              refine wQ_round (i + 1) ?_ ⟨rfl, rfl, rfl, rfl, trivial⟩ (by first | omega | (dsimp only; omega))
                              exact ⟨(by omega), (fun a b x y hba hai hx hy => (Nat.lt_succ_iff_lt_or_eq.1 hai).elim (fun h => hi271 a b x y hba h hx hy) (fun h => by subst h; exact hi276 b x y (by omega) hx hy)), S274⟩
                        · refine wL_val (v := .bool false) (wn rfl) rfl rfl (y_binop rfl rfl rfl (r_lss_f h272)) ?_
                          refine wL_nil ?_
                          refine wQ_sub (l' := [(1, _), (2, _), (4, _), (9, _), (165, _)]) ⟨rfl, rfl, rfl, rfl, rfl, trivial⟩ ?_
                          refine wQ_then ?_
                          refine wC_cond_f rfl ?_
                          refine wC_exit ?_
                          refine wQ_then_exit ?_
                          refine wQ_then_exit ?_
                          refine wQ_blk_same ?_
                          refine wQ_then ?_
                          refine wC_seq ?_
                          refine wC_region ?_
                          refine wL_val (v := .int .i64 0) (wn rfl) rfl rfl (y_assign rfl rfl) ?_
                          refine wL_nil ?_
                          refine wQ_sub (l' := [(1, _), (2, _)]) ⟨rfl, rfl, trivial⟩ ?_
                          refine wQ_then ?_
                          refine wC_ret ?_
                          refine wQ_post (rs := [.tmp 2]) (vs := [.int .i64 0]) rfl ⟨rfl, trivial⟩ ?_
                          exact ⟨ret_int_ (qf_ok (by unfold rngQ; omega) hW20 hR119 hL266 (nodup_of fun a b x y hba hx hy => hi271 a b x y hba (by have := (List.getElem?_eq_some_iff.1 hx).1; omega) hx hy)).symm, S269.low⟩
      · refine wL_call (vs := [.int .i64 gv, .int .i64 0, .int .i64 1073741824]) (wg rfl rfl rfl rfl) rfl rfl (e_call (vs := [.int .i64 gv, .int .i64 0, .int .i64 1073741824]) rfl en107 ⟨rfl, rfl, rfl, trivial⟩) (In_f h8 _) ?_
        rintro _ w299 ⟨rfl, rfl⟩
        refine ⟨_, rfl, ?_⟩
        refine wL_val (v := .bool true) (wg rfl rfl rfl rfl) rfl rfl (y_unop rfl rfl r_not) ?_
        refine wL_val (v := .bool true) (wn rfl) rfl rfl (y_pick_f rfl rfl rfl) ?_
        refine wL_val (v := .bool true) (wn rfl) rfl rfl (y_move rfl rfl) ?_
        refine wL_skip (wg rfl rfl rfl rfl) rfl rfl ?_
        refine wL_skip (wg rfl rfl rfl rfl) rfl rfl ?_
        refine wL_skip (wg rfl rfl rfl rfl) rfl rfl ?_
        refine wL_skip (wg rfl rfl rfl rfl) rfl rfl ?_
        refine wL_skip (wg rfl rfl rfl rfl) rfl rfl ?_
        refine wL_skip (wg rfl rfl rfl rfl) rfl rfl ?_
        refine wL_skip (wg rfl rfl rfl rfl) rfl rfl ?_
        refine wL_skip (wg rfl rfl rfl rfl) rfl rfl ?_
        refine wL_val (v := .bool true) (wn rfl) rfl rfl (y_pick_t rfl rfl rfl) ?_
        refine wL_nil ?_
        refine wQ_sub (l' := [(1, _), (2, _), (36, _)]) ⟨rfl, rfl, rfl, trivial⟩ ?_
        refine wQ_then ?_
        refine wC_cond_t rfl ?_
        refine wC_seq ?_
        refine wC_region ?_
        refine wL_val (v := .int .i64 6) (wn rfl) rfl rfl (y_assign rfl rfl) ?_
        refine wL_nil ?_
        refine wQ_sub (l' := [(1, _), (2, _)]) ⟨rfl, rfl, trivial⟩ ?_
        refine wQ_then ?_
        refine wC_ret ?_
        refine wQ_then_ret ?_
        refine wQ_post (rs := [.tmp 2]) (vs := [.int .i64 6]) rfl ⟨rfl, trivial⟩ ?_
        exact ⟨ret_int_ (qf_rng (by omega)).symm, S3.low⟩
    · refine wL_call (vs := [.int .i64 nx, .int .i64 0, .int .i64 1073741824]) (wg rfl rfl rfl rfl) rfl rfl (e_call (vs := [.int .i64 nx, .int .i64 0, .int .i64 1073741824]) rfl en107 ⟨rfl, rfl, rfl, trivial⟩) (In_f h6 _) ?_
      rintro _ w300 ⟨rfl, rfl⟩
      refine ⟨_, rfl, ?_⟩
      refine wL_val (v := .bool true) (wg rfl rfl rfl rfl) rfl rfl (y_unop rfl rfl r_not) ?_
      refine wL_val (v := .bool true) (wn rfl) rfl rfl (y_pick_f rfl rfl rfl) ?_
      refine wL_val (v := .bool true) (wn rfl) rfl rfl (y_move rfl rfl) ?_
      refine wL_skip (wg rfl rfl rfl rfl) rfl rfl ?_
      refine wL_skip (wg rfl rfl rfl rfl) rfl rfl ?_
      refine wL_skip (wg rfl rfl rfl rfl) rfl rfl ?_
      refine wL_skip (wg rfl rfl rfl rfl) rfl rfl ?_
      refine wL_val (v := .bool true) (wn rfl) rfl rfl (y_pick_t rfl rfl rfl) ?_
      refine wL_val (v := .bool true) (wn rfl) rfl rfl (y_move rfl rfl) ?_
      refine wL_skip (wg rfl rfl rfl rfl) rfl rfl ?_
      refine wL_skip (wg rfl rfl rfl rfl) rfl rfl ?_
      refine wL_skip (wg rfl rfl rfl rfl) rfl rfl ?_
      refine wL_skip (wg rfl rfl rfl rfl) rfl rfl ?_
      refine wL_skip (wg rfl rfl rfl rfl) rfl rfl ?_
      refine wL_skip (wg rfl rfl rfl rfl) rfl rfl ?_
      refine wL_skip (wg rfl rfl rfl rfl) rfl rfl ?_
      refine wL_skip (wg rfl rfl rfl rfl) rfl rfl ?_
      refine wL_val (v := .bool true) (wn rfl) rfl rfl (y_pick_t rfl rfl rfl) ?_
      refine wL_nil ?_
      refine wQ_sub (l' := [(1, _), (2, _), (36, _)]) ⟨rfl, rfl, rfl, trivial⟩ ?_
      refine wQ_then ?_
      refine wC_cond_t rfl ?_
      refine wC_seq ?_
      refine wC_region ?_
      refine wL_val (v := .int .i64 6) (wn rfl) rfl rfl (y_assign rfl rfl) ?_
      refine wL_nil ?_
      refine wQ_sub (l' := [(1, _), (2, _)]) ⟨rfl, rfl, trivial⟩ ?_
      refine wQ_then ?_
      refine wC_ret ?_
      refine wQ_then_ret ?_
      refine wQ_post (rs := [.tmp 2]) (vs := [.int .i64 6]) rfl ⟨rfl, trivial⟩ ?_
      exact ⟨ret_int_ (qf_rng (by omega)).symm, S3.low⟩
  · refine wL_call (vs := [.int .i64 ep, .int .i64 0, .int .i64 1048576]) (wn rfl) rfl rfl (e_call (vs := [.int .i64 ep, .int .i64 0, .int .i64 1048576]) rfl en107 ⟨rfl, rfl, rfl, trivial⟩) (In_f h4 _) ?_
    rintro _ w301 ⟨rfl, rfl⟩
    refine ⟨_, rfl, ?_⟩
    refine wL_val (v := .bool true) (wn rfl) rfl rfl (y_unop rfl rfl r_not) ?_
    refine wL_val (v := .bool true) (wn rfl) rfl rfl (y_move rfl rfl) ?_
    refine wL_skip (wg rfl rfl rfl rfl) rfl rfl ?_
    refine wL_skip (wg rfl rfl rfl rfl) rfl rfl ?_
    refine wL_skip (wg rfl rfl rfl rfl) rfl rfl ?_
    refine wL_skip (wg rfl rfl rfl rfl) rfl rfl ?_
    refine wL_val (v := .bool true) (wn rfl) rfl rfl (y_pick_t rfl rfl rfl) ?_
    refine wL_val (v := .bool true) (wn rfl) rfl rfl (y_move rfl rfl) ?_
    refine wL_skip (wg rfl rfl rfl rfl) rfl rfl ?_
    refine wL_skip (wg rfl rfl rfl rfl) rfl rfl ?_
    refine wL_skip (wg rfl rfl rfl rfl) rfl rfl ?_
    refine wL_skip (wg rfl rfl rfl rfl) rfl rfl ?_
    refine wL_val (v := .bool true) (wn rfl) rfl rfl (y_pick_t rfl rfl rfl) ?_
    refine wL_val (v := .bool true) (wn rfl) rfl rfl (y_move rfl rfl) ?_
    refine wL_skip (wg rfl rfl rfl rfl) rfl rfl ?_
    refine wL_skip (wg rfl rfl rfl rfl) rfl rfl ?_
    refine wL_skip (wg rfl rfl rfl rfl) rfl rfl ?_
    refine wL_skip (wg rfl rfl rfl rfl) rfl rfl ?_
    refine wL_skip (wg rfl rfl rfl rfl) rfl rfl ?_
    refine wL_skip (wg rfl rfl rfl rfl) rfl rfl ?_
    refine wL_skip (wg rfl rfl rfl rfl) rfl rfl ?_
    refine wL_skip (wg rfl rfl rfl rfl) rfl rfl ?_
    refine wL_val (v := .bool true) (wn rfl) rfl rfl (y_pick_t rfl rfl rfl) ?_
    refine wL_nil ?_
    refine wQ_sub (l' := [(1, _), (2, _), (36, _)]) ⟨rfl, rfl, rfl, trivial⟩ ?_
    refine wQ_then ?_
    refine wC_cond_t rfl ?_
    refine wC_seq ?_
    refine wC_region ?_
    refine wL_val (v := .int .i64 6) (wn rfl) rfl rfl (y_assign rfl rfl) ?_
    refine wL_nil ?_
    refine wQ_sub (l' := [(1, _), (2, _)]) ⟨rfl, rfl, trivial⟩ ?_
    refine wQ_then ?_
    refine wC_ret ?_
    refine wQ_then_ret ?_
    refine wQ_post (rs := [.tmp 2]) (vs := [.int .i64 6]) rfl ⟨rfl, trivial⟩ ?_
    exact ⟨ret_int_ (qf_rng (by omega)).symm, S3.low⟩
end Go.Proofs.Ytkjlafpafmihaaa

namespace Go.Proofs.Ytkjlafpafmihaaa
open Go.ChangeShapes Go.WideShapes Go.RowKit

/-- A queue in memory of its own. -/
def QNew (w : World) (ep nx gv : Int) (rs : List Msg) (ls : List Ls) (W : Wins) (e : Ending) (w' : World) : Prop := ∃ A1 c1 A2 c2, e = .returned (.agg (qRow ep nx gv (.slice A1 rs.length c1) (.slice A2 ls.length c2) W)) ∧
  St w.heap.size w w' [.own 141 4 (.slice A2 ls.length c2) ls.length (ls.flatMap Ls.cells), .own 137 2 (.slice A1 rs.length c1) rs.length (rs.flatMap Msg.cells)]

set_option maxRecDepth 100000 in
set_option maxHeartbeats 4000000 in
theorem QueueCopy_calls (ep nx gv : Int) (A1 A2 : Option Addr) (c1 c2 : Nat) (rs : List Msg) (ls : List Ls) (W : Wins) (w : World) (h1 : Rd w w.heap.size 2 A1 rs.length (rs.flatMap Msg.cells)) (h2 : Rd w w.heap.size 4 A2 ls.length (ls.flatMap Ls.cells)) (hb1 : rs.length * 16 ≤ reachBytes) (hb2 : ls.length * 32 ≤ reachBytes) :
    Calls Try.prog 106 #[.agg (qRow ep nx gv (.slice A1 rs.length c1) (.slice A2 ls.length c2) W)] w (QNew w ep nx gv rs ls W) := by
  unfold reachBytes at hb1 hb2
  have S := ((St.start w).addRd h2).addRd h1
  refine calls_of_wC (N := 44) (vs := [.agg (qRow ep nx gv (.slice A1 rs.length c1) (.slice A2 ls.length c2) W)]) Try.func106 rfl rfl rfl ?_
  refine wC_sub (l' := [(0, .agg (qRow ep nx gv (.slice A1 rs.length c1) (.slice A2 ls.length c2) W))]) ⟨rfl, trivial⟩ ?_
  refine wC_seq ?_
  refine wC_region ?_
  refine wL_new (V := fun b => .pointer (some ⟨b, 0, none⟩)) (row := qRow ep nx gv (.slice A1 rs.length c1) (.slice A2 ls.length c2) W) (t := 29) S (wn rfl) rfl rfl (d_box rfl rfl rfl) ?_
  intro b1 w2 S3
  clear S
  refine wL_new (V := fun b => .pointer (some ⟨b, 0, none⟩)) (row := qRow 0 0 0 (.slice none 0 0) (.slice none 0 0) zeroWs) (t := 29) S3 (wn rfl) rfl rfl (d_alloc rfl (Try.zeroValue29 _) rfl) ?_
  intro b4 w5 S6
  clear S3
  refine wL_nil ?_
  refine wQ_sub (l' := [(1, _), (2, _)]) ⟨rfl, rfl, trivial⟩ ?_
  refine wQ_then ?_
  refine wC_seq ?_
  refine wC_region ?_
  refine wL_val (v := .agg (qRow ep nx gv (.slice A1 rs.length c1) (.slice A2 ls.length c2) W)) (wn rfl) rfl rfl (y_load rfl rfl (r_load_row 1 S6 rfl Try.underlying29 rfl inf29 rfl)) ?_
  refine wL_new (V := fun b => .pointer (some ⟨b, 0, none⟩)) (row := qRow 0 0 0 (.slice none 0 0) (.slice none 0 0) zeroWs) (t := 29) S6 (wn rfl) rfl rfl (d_alloc rfl (Try.zeroValue29 _) rfl) ?_
  intro b7 w8 S9
  clear S6
  refine wL_st (cs := qRow ep nx gv (.slice A1 rs.length c1) (.slice A2 ls.length c2) W) (row' := qRow ep nx gv (.slice A1 rs.length c1) (.slice A2 ls.length c2) W) (fs' := [.blk b7 (qRow ep nx gv (.slice A1 rs.length c1) (.slice A2 ls.length c2) W) 29, _, _, _, _]) 0 S9 (wn rfl) rfl rfl rfl rfl rfl rfl inf29 rfl (qRow_one rfl rfl) (Nat.le_of_ble_eq_true rfl) (setAll_all rfl) rfl ?_
  intro w10 S11
  clear S9
  refine wL_nil ?_
  refine wQ_sub (l' := [(1, _), (2, _), (3, _)]) ⟨rfl, rfl, rfl, trivial⟩ ?_
  refine wQ_then ?_
  refine wC_seq ?_
  refine wC_region ?_
  refine wL_val (v := .pointer (some ⟨b7, 3, none⟩)) (wn rfl) rfl rfl (y_fieldAddr rfl rfl (fa29_3 _ _ _)) ?_
  refine wL_st (cs := #[.slice none 0 0]) (row' := qRow ep nx gv (.slice none 0 0) (.slice A2 ls.length c2) W) (fs' := [.blk b7 (qRow ep nx gv (.slice none 0 0) (.slice A2 ls.length c2) W) 29, _, _, _, _]) 0 S11 (wn rfl) rfl rfl rfl rfl rfl rfl inf22 rfl (oneAll rfl) (Nat.le_of_ble_eq_true rfl) qRow_s3 rfl ?_
  intro w12 S13
  clear S11
  refine wL_nil ?_
  refine wQ_sub (l' := [(1, _), (2, _), (3, _)]) ⟨rfl, rfl, rfl, trivial⟩ ?_
  refine wQ_then ?_
  refine wC_seq ?_
  refine wC_region ?_
  refine wL_val (v := .pointer (some ⟨b7, 4, none⟩)) (wn rfl) rfl rfl (y_fieldAddr rfl rfl (fa29_4 _ _ _)) ?_
  refine wL_st (cs := #[.slice none 0 0]) (row' := qRow ep nx gv (.slice none 0 0) (.slice none 0 0) W) (fs' := [.blk b7 (qRow ep nx gv (.slice none 0 0) (.slice none 0 0) W) 29, _, _, _, _]) 0 S13 (wn rfl) rfl rfl rfl rfl rfl rfl inf23 rfl (oneAll rfl) (Nat.le_of_ble_eq_true rfl) qRow_s4 rfl ?_
  intro w14 S15
  clear S13
  refine wL_nil ?_
  refine wQ_sub (l' := [(1, _), (2, _), (3, _)]) ⟨rfl, rfl, rfl, trivial⟩ ?_
  refine wQ_then ?_
  refine wC_seq ?_
  refine wC_seq ?_
  refine wC_region ?_
  refine wL_val (v := .int .i64 0) (wn rfl) rfl rfl (y_assign rfl rfl) ?_
  refine wL_nil ?_
  refine wQ_then ?_
  refine wC_block ?_
  have S17 := S15.nil 137 2
  clear S15
  change St _ _ _ [.own 137 2 (.slice none 0 0) 0 ((rs.take 0).flatMap Msg.cells), .blk b7 (qRow ep nx gv (.slice none 0 0) (.slice none 0 0) W) 29, .blk b4 (qRow 0 0 0 (.slice none 0 0) (.slice none 0 0) zeroWs) 29, .blk b1 (qRow ep nx gv (.slice A1 rs.length c1) (.slice A2 ls.length c2) W) 29, .rd 2 A1 rs.length ((rs).flatMap Msg.cells), .rd 4 A2 ls.length ((ls).flatMap Ls.cells)] at S17
  refine wC_loop (X := Nat × (Option Addr) × Nat) (fun xv => [(1, .pointer (some ⟨b1, 0, none⟩)), (2, .pointer (some ⟨b4, 0, none⟩)), (3, .pointer (some ⟨b7, 0, none⟩)), (4, .int .i64 ((xv.1 : Nat) : Int))]) (fun xv wr => (xv.1 ≤ rs.length) ∧ St w.heap.size w wr [.own 137 2 (.slice xv.2.1 xv.1 xv.2.2) xv.1 ((rs.take xv.1).flatMap Msg.cells), .blk b7 (qRow ep nx gv (.slice xv.2.1 xv.1 xv.2.2) (.slice none 0 0) W) 29, .blk b4 (qRow 0 0 0 (.slice none 0 0) (.slice none 0 0) zeroWs) 29, .blk b1 (qRow ep nx gv (.slice A1 rs.length c1) (.slice A2 ls.length c2) W) 29, .rd 2 A1 rs.length ((rs).flatMap Msg.cells), .rd 4 A2 ls.length ((ls).flatMap Ls.cells)]) (fun xv => rs.length - xv.1) (0, none, 0) ?_ ?_ ?_
  · exact ⟨Nat.zero_le _, S17⟩
  · exact ⟨rfl, rfl, rfl, rfl, trivial⟩
  · rintro ⟨k, A9, c9⟩ w19 ⟨hi21, S20⟩
    try dsimp only at hi21 S20
    clear S17
    refine wC_sub (l' := [(1, .pointer (some ⟨b1, 0, none⟩)), (2, .pointer (some ⟨b4, 0, none⟩)), (3, .pointer (some ⟨b7, 0, none⟩)), (4, .int .i64 ((k : Nat) : Int))]) ⟨rfl, rfl, rfl, rfl, trivial⟩ ?_
    refine wC_seq ?_
    refine wC_seq ?_
    refine wC_region ?_
    refine wL_val (v := .int .i64 ((k : Nat) : Int)) (wn rfl) rfl rfl (y_move rfl rfl) ?_
    refine wL_val (v := .pointer (some ⟨b1, 3, none⟩)) (wn rfl) rfl rfl (y_fieldAddr rfl rfl (fa29_3 _ _ _)) ?_
    refine wL_val (v := .slice A1 rs.length c1) (wn rfl) rfl rfl (y_load rfl rfl (r_load Try.underlying22 rfl (St.cl 3 S20 rfl qRow_g3))) ?_
    refine wL_val (v := .int .i64 ((rs.length : Nat) : Int)) (wn rfl) rfl rfl (y_builtin (vs := [.slice A1 rs.length c1]) rfl ⟨rfl, trivial⟩ fun _ => r_len rfl Try.underlying22) ?_
    by_cases h22 : ((k : Nat) : Int) < ((rs.length : Nat) : Int)
    · refine wL_val (v := .bool true) (wn rfl) rfl rfl (y_binop rfl rfl rfl (r_lss_t h22)) ?_
      refine wL_nil ?_
      refine wQ_sub (l' := [(1, _), (2, _), (3, _), (4, _), (13, _)]) ⟨rfl, rfl, rfl, rfl, rfl, trivial⟩ ?_
      refine wQ_then ?_
      refine wC_cond_t rfl ?_
      refine wC_skip ?_
      refine wQ_then ?_
      refine wC_seq ?_
      refine wC_block ?_
      have S23 := S20.drew
      clear S20
      refine wC_head (C := fun w' => St w.heap.size w w' [.blk b7 (qRow ep nx gv (.slice A9 k c9) (.slice none 0 0) W) 29, .blk b4 (qRow 0 0 0 (.slice none 0 0) (.slice none 0 0) zeroWs) 29, .blk b1 (qRow ep nx gv (.slice A1 rs.length c1) (.slice A2 ls.length c2) W) 29, .rd 2 A1 rs.length ((rs).flatMap Msg.cells), .rd 4 A2 ls.length ((ls).flatMap Ls.cells)]) (m := 11) (listed := #[false, false, false, false, false, false, false, false, false, false, false]) 9 mixed rfl rfl ?_
      refine wG_take (v := .pointer (some ⟨b7, 3, none⟩)) (i := 0) (m := 10) (listed' := #[true, false, false, false, false, false, false, false, false, false, false]) rfl (by kernel_rfl) (by kernel_rfl) (by kernel_rfl) rfl (by kernel_rfl) rfl (St.del 0 S23) rfl (wn rfl) rfl rfl (fun _ _ => (y_fieldAddr rfl rfl (fa29_3 _ _ _))) ?_
      refine wG_take (v := .slice A9 k c9) (i := 1) (m := 9) (listed' := #[true, true, false, false, false, false, false, false, false, false, false]) rfl (by kernel_rfl) (by kernel_rfl) (by kernel_rfl) rfl (by kernel_rfl) rfl (St.del 0 S23) rfl (wn rfl) rfl rfl (fun _ Sx25 => (y_load rfl rfl (r_load Try.underlying22 rfl (St.cl 0 Sx25 rfl qRow_g3)))) ?_
      refine wG_take (v := .pointer (some ⟨b1, 3, none⟩)) (i := 2) (m := 8) (listed' := #[true, true, true, false, false, false, false, false, false, false, false]) rfl (by kernel_rfl) (by kernel_rfl) (by kernel_rfl) rfl (by kernel_rfl) rfl (St.del 0 S23) rfl (wn rfl) rfl rfl (fun _ _ => (y_fieldAddr rfl rfl (fa29_3 _ _ _))) ?_
      refine wG_take (v := .slice A1 rs.length c1) (i := 3) (m := 7) (listed' := #[true, true, true, true, false, false, false, false, false, false, false]) rfl (by kernel_rfl) (by kernel_rfl) (by kernel_rfl) rfl (by kernel_rfl) rfl (St.del 0 S23) rfl (wn rfl) rfl rfl (fun _ Sx27 => (y_load rfl rfl (r_load Try.underlying22 rfl (St.cl 2 Sx27 rfl qRow_g3)))) ?_
      refine wG_take (v := .int .i64 ((k : Nat) : Int)) (i := 4) (m := 6) (listed' := #[true, true, true, true, true, false, false, false, false, false, false]) rfl (by kernel_rfl) (by kernel_rfl) (by kernel_rfl) rfl (by kernel_rfl) rfl (St.del 0 S23) rfl (wn rfl) rfl rfl (fun _ _ => (y_move rfl rfl)) ?_
      obtain ⟨b29, o30, rfl⟩ := Rd.addr (St.rd 4 S23 rfl) (by omega)
      obtain ⟨x31, hx32⟩ : ∃ x, (rs)[k]? = some x := ⟨_, List.getElem?_eq_getElem (by have := (St.rd 4 S23 rfl).1; rw [fm_len (sz := 2) (fun _ => rfl)] at this; omega)⟩
      refine wG_take (v := .pointer (some ⟨b29, o30 + k * 2, none⟩)) (i := 5) (m := 5) (listed' := #[true, true, true, true, true, true, false, false, false, false, false]) rfl (by kernel_rfl) (by kernel_rfl) (by kernel_rfl) rfl (by kernel_rfl) rfl (St.del 0 S23) rfl (wn rfl) rfl rfl (fun _ _ => (y_indexAddr rfl rfl rfl (r_indexAddr k Try.underlying22 inf137 (by omega) (by omega)))) ?_
      refine wG_take (v := .agg #[.int .i64 x31.no, .int .i64 x31.body]) (i := 6) (m := 4) (listed' := #[true, true, true, true, true, true, true, false, false, false, false]) rfl (by kernel_rfl) (by kernel_rfl) (by kernel_rfl) rfl (by kernel_rfl) rfl (St.del 0 S23) rfl (wn rfl) rfl rfl (fun _ Sx34 => (y_load rfl rfl (r_load_agg (cs := Msg.cells x31) Try.underlying137 rfl inf137 rfl (Rd.rg2 (St.rd 3 Sx34 rfl) (fun _ _ h => fm_get (enc := Msg.cells) (sz := 2) (fun _ => rfl) hx32 h))))) ?_
      refine wG_one (m := 3) (r := 7) (by kernel_rfl) ?_
      refine wH_new (i := 7) (listed' := #[true, true, true, true, true, true, true, true, false, false, false]) rfl rfl (V := fun b => .slice (some ⟨b, 0, none⟩) 1 1) (row := #[.int .i64 x31.no, .int .i64 x31.body]) (t := 137) S23 (wn rfl) rfl rfl (d_buildSlice (vs := [(0, .agg #[.int .i64 x31.no, .int .i64 x31.body])]) rfl ⟨rfl, rfl, trivial⟩ (by kernel_rfl)) ?_
      intro b35 w36 S37
      clear S23
      refine ⟨(St.del 0 (St.del 1 S37)), ?_⟩
      refine wG_one (m := 2) (r := 8) (by kernel_rfl) ?_
      refine wH_append (i := 8) (listed' := #[true, true, true, true, true, true, true, true, true, false, false]) rfl rfl (news := [.int .i64 x31.no, .int .i64 x31.body]) (xs' := (rs.take (k + 1)).flatMap Msg.cells) 1 S37 (wn rfl) rfl rfl rfl rfl rfl rfl (St.bld (xs := [.int .i64 x31.no, .int .i64 x31.body]) 0 S37 rfl rfl rfl) Try.underlying22 infz137 rfl (by decide) (oneAll rfl) (by simp only [maxLen]; omega) (by omega) (fm_snoc (enc := Msg.cells) (take_snoc_ hx32) rfl) ?_
      intro A38 c39 w40 hc42 hm43 S41
      clear S37
      change St _ _ _ [_, .own 137 2 (.slice A38 (k + 1) c39) (k + 1) ((rs.take (k + 1)).flatMap Msg.cells), _, _, _, _, _] at S41
      refine ⟨(St.del 0 (St.del 1 S41)), ?_⟩
      refine wG_tail (by kernel_rfl) rfl rfl rfl ?_
      refine wL_val (v := .pointer (some ⟨b7, 3, none⟩)) (wn rfl) rfl rfl (y_fieldAddr rfl rfl (fa29_3 _ _ _)) ?_
      refine wL_st (cs := #[.slice A38 (k + 1) c39]) (row' := qRow ep nx gv (.slice A38 (k + 1) c39) (.slice none 0 0) W) (fs' := [_, _, .blk b7 (qRow ep nx gv (.slice A38 (k + 1) c39) (.slice none 0 0) W) 29, _, _, _, _]) 2 S41 (wn rfl) rfl rfl rfl rfl rfl rfl inf22 rfl (oneAll rfl) (Nat.le_of_ble_eq_true rfl) qRow_s3 rfl ?_
      intro w44 S45
      clear S41
      refine wL_nil (wQ_np ?_)
      refine wQ_sub (l' := [(1, _), (2, _), (3, _), (4, _)]) ⟨rfl, rfl, rfl, rfl, trivial⟩ ?_
      refine wQ_blk_n ?_
      refine wQ_then ?_
      refine wC_region ?_
      refine wL_val (v := .int .i64 ((k : Nat) : Int)) (wn rfl) rfl rfl (y_move rfl rfl) ?_
      refine wL_val (v := .int .i64 ((k + 1 : Nat) : Int)) (wn rfl) rfl rfl (y_binop rfl rfl rfl (r_add (by omega) (by omega))) ?_
      refine wL_val (v := .int .i64 ((k + 1 : Nat) : Int)) (wn rfl) rfl rfl (y_assign rfl rfl) ?_
      refine wL_nil ?_
      refine wQ_sub (l' := [(1, _), (2, _), (3, _), (4, _)]) ⟨rfl, rfl, rfl, rfl, trivial⟩ ?_
      have S46 : St w.heap.size w w44 [_, _, _, _, _, _] := (St.del 0 S45)
      clear S45
      refine wQ_round (k + 1, A38, c39) ?_ ⟨rfl, rfl, rfl, rfl, trivial⟩ (by first | omega | (dsimp only; omega))
      exact ⟨(by dsimp only; omega), S46⟩
    · refine wL_val (v := .bool false) (wn rfl) rfl rfl (y_binop rfl rfl rfl (r_lss_f h22)) ?_
      refine wL_nil ?_
      refine wQ_sub (l' := [(1, _), (2, _), (3, _), (4, _), (13, _)]) ⟨rfl, rfl, rfl, rfl, rfl, trivial⟩ ?_
      refine wQ_then ?_
      refine wC_cond_f rfl ?_
      refine wC_exit ?_
      refine wQ_then_exit ?_
      refine wQ_then_exit ?_
      refine wQ_blk_same ?_
      refine wQ_then ?_
      refine wC_seq ?_
      refine wC_seq ?_
      refine wC_region ?_
      refine wL_val (v := .int .i64 0) (wn rfl) rfl rfl (y_assign rfl rfl) ?_
      refine wL_nil ?_
      refine wQ_sub (l' := [(1, _), (2, _), (3, _), (5, _)]) ⟨rfl, rfl, rfl, rfl, trivial⟩ ?_
      refine wQ_then ?_
      refine wC_block ?_
      obtain rfl : k = rs.length := by omega
      have S47 := S20
      clear S20
      rw [List.take_length] at S47
      change St _ _ _ [.own 137 2 (.slice A9 rs.length c9) rs.length ((rs).flatMap Msg.cells), .blk b7 (qRow ep nx gv (.slice A9 rs.length c9) (.slice none 0 0) W) 29, .blk b4 (qRow 0 0 0 (.slice none 0 0) (.slice none 0 0) zeroWs) 29, .blk b1 (qRow ep nx gv (.slice A1 rs.length c1) (.slice A2 ls.length c2) W) 29, .rd 2 A1 rs.length ((rs).flatMap Msg.cells), .rd 4 A2 ls.length ((ls).flatMap Ls.cells)] at S47
      have S48 := S47.nil 141 4
      clear S47
      change St _ _ _ [.own 141 4 (.slice none 0 0) 0 ((ls.take 0).flatMap Ls.cells), .own 137 2 (.slice A9 rs.length c9) rs.length ((rs).flatMap Msg.cells), .blk b7 (qRow ep nx gv (.slice A9 rs.length c9) (.slice none 0 0) W) 29, .blk b4 (qRow 0 0 0 (.slice none 0 0) (.slice none 0 0) zeroWs) 29, .blk b1 (qRow ep nx gv (.slice A1 rs.length c1) (.slice A2 ls.length c2) W) 29, .rd 2 A1 rs.length ((rs).flatMap Msg.cells), .rd 4 A2 ls.length ((ls).flatMap Ls.cells)] at S48
      refine wC_loop (X := Nat × (Option Addr) × Nat) (fun xv => [(1, .pointer (some ⟨b1, 0, none⟩)), (2, .pointer (some ⟨b4, 0, none⟩)), (3, .pointer (some ⟨b7, 0, none⟩)), (5, .int .i64 ((xv.1 : Nat) : Int))]) (fun xv wr => (xv.1 ≤ ls.length) ∧ St w.heap.size w wr [.own 141 4 (.slice xv.2.1 xv.1 xv.2.2) xv.1 ((ls.take xv.1).flatMap Ls.cells), .own 137 2 (.slice A9 rs.length c9) rs.length ((rs).flatMap Msg.cells), .blk b7 (qRow ep nx gv (.slice A9 rs.length c9) (.slice xv.2.1 xv.1 xv.2.2) W) 29, .blk b4 (qRow 0 0 0 (.slice none 0 0) (.slice none 0 0) zeroWs) 29, .blk b1 (qRow ep nx gv (.slice A1 rs.length c1) (.slice A2 ls.length c2) W) 29, .rd 2 A1 rs.length ((rs).flatMap Msg.cells), .rd 4 A2 ls.length ((ls).flatMap Ls.cells)]) (fun xv => ls.length - xv.1) (0, none, 0) ?_ ?_ ?_
      · exact ⟨Nat.zero_le _, S48⟩
      · exact ⟨rfl, rfl, rfl, rfl, trivial⟩
      · rintro ⟨k, Ab, cb⟩ w50 ⟨hi52, S51⟩
        try dsimp only at hi52 S51
        clear S48
        refine wC_sub (l' := [(1, .pointer (some ⟨b1, 0, none⟩)), (2, .pointer (some ⟨b4, 0, none⟩)), (3, .pointer (some ⟨b7, 0, none⟩)), (5, .int .i64 ((k : Nat) : Int))]) ⟨rfl, rfl, rfl, rfl, trivial⟩ ?_
        refine wC_seq ?_
        refine wC_seq ?_
        refine wC_region ?_
        refine wL_val (v := .int .i64 ((k : Nat) : Int)) (wn rfl) rfl rfl (y_move rfl rfl) ?_
        refine wL_val (v := .pointer (some ⟨b1, 4, none⟩)) (wn rfl) rfl rfl (y_fieldAddr rfl rfl (fa29_4 _ _ _)) ?_
        refine wL_val (v := .slice A2 ls.length c2) (wn rfl) rfl rfl (y_load rfl rfl (r_load Try.underlying23 rfl (St.cl 4 S51 rfl qRow_g4))) ?_
        refine wL_val (v := .int .i64 ((ls.length : Nat) : Int)) (wn rfl) rfl rfl (y_builtin (vs := [.slice A2 ls.length c2]) rfl ⟨rfl, trivial⟩ fun _ => r_len rfl Try.underlying23) ?_
        by_cases h53 : ((k : Nat) : Int) < ((ls.length : Nat) : Int)
        · refine wL_val (v := .bool true) (wn rfl) rfl rfl (y_binop rfl rfl rfl (r_lss_t h53)) ?_
          refine wL_nil ?_
          refine wQ_sub (l' := [(1, _), (2, _), (3, _), (5, _), (30, _)]) ⟨rfl, rfl, rfl, rfl, rfl, trivial⟩ ?_
          refine wQ_then ?_
          refine wC_cond_t rfl ?_
          refine wC_skip ?_
          refine wQ_then ?_
          refine wC_seq ?_
          refine wC_block ?_
          have S54 := S51.drew
          clear S51
          refine wC_head (C := fun w' => St w.heap.size w w' [.own 137 2 (.slice A9 rs.length c9) rs.length ((rs).flatMap Msg.cells), .blk b7 (qRow ep nx gv (.slice A9 rs.length c9) (.slice Ab k cb) W) 29, .blk b4 (qRow 0 0 0 (.slice none 0 0) (.slice none 0 0) zeroWs) 29, .blk b1 (qRow ep nx gv (.slice A1 rs.length c1) (.slice A2 ls.length c2) W) 29, .rd 2 A1 rs.length ((rs).flatMap Msg.cells), .rd 4 A2 ls.length ((ls).flatMap Ls.cells)]) (m := 11) (listed := #[false, false, false, false, false, false, false, false, false, false, false]) 9 mixed rfl rfl ?_
          refine wG_take (v := .pointer (some ⟨b7, 4, none⟩)) (i := 0) (m := 10) (listed' := #[true, false, false, false, false, false, false, false, false, false, false]) rfl (by kernel_rfl) (by kernel_rfl) (by kernel_rfl) rfl (by kernel_rfl) rfl (St.del 0 S54) rfl (wn rfl) rfl rfl (fun _ _ => (y_fieldAddr rfl rfl (fa29_4 _ _ _))) ?_
          refine wG_take (v := .slice Ab k cb) (i := 1) (m := 9) (listed' := #[true, true, false, false, false, false, false, false, false, false, false]) rfl (by kernel_rfl) (by kernel_rfl) (by kernel_rfl) rfl (by kernel_rfl) rfl (St.del 0 S54) rfl (wn rfl) rfl rfl (fun _ Sx56 => (y_load rfl rfl (r_load Try.underlying23 rfl (St.cl 1 Sx56 rfl qRow_g4)))) ?_
          refine wG_take (v := .pointer (some ⟨b1, 4, none⟩)) (i := 2) (m := 8) (listed' := #[true, true, true, false, false, false, false, false, false, false, false]) rfl (by kernel_rfl) (by kernel_rfl) (by kernel_rfl) rfl (by kernel_rfl) rfl (St.del 0 S54) rfl (wn rfl) rfl rfl (fun _ _ => (y_fieldAddr rfl rfl (fa29_4 _ _ _))) ?_
          refine wG_take (v := .slice A2 ls.length c2) (i := 3) (m := 7) (listed' := #[true, true, true, true, false, false, false, false, false, false, false]) rfl (by kernel_rfl) (by kernel_rfl) (by kernel_rfl) rfl (by kernel_rfl) rfl (St.del 0 S54) rfl (wn rfl) rfl rfl (fun _ Sx58 => (y_load rfl rfl (r_load Try.underlying23 rfl (St.cl 3 Sx58 rfl qRow_g4)))) ?_
          refine wG_take (v := .int .i64 ((k : Nat) : Int)) (i := 4) (m := 6) (listed' := #[true, true, true, true, true, false, false, false, false, false, false]) rfl (by kernel_rfl) (by kernel_rfl) (by kernel_rfl) rfl (by kernel_rfl) rfl (St.del 0 S54) rfl (wn rfl) rfl rfl (fun _ _ => (y_move rfl rfl)) ?_
          obtain ⟨b60, o61, rfl⟩ := Rd.addr (St.rd 6 S54 rfl) (by omega)
          obtain ⟨x62, hx63⟩ : ∃ x, (ls)[k]? = some x := ⟨_, List.getElem?_eq_getElem (by have := (St.rd 6 S54 rfl).1; rw [fm_len (sz := 4) (fun _ => rfl)] at this; omega)⟩
          refine wG_take (v := .pointer (some ⟨b60, o61 + k * 4, none⟩)) (i := 5) (m := 5) (listed' := #[true, true, true, true, true, true, false, false, false, false, false]) rfl (by kernel_rfl) (by kernel_rfl) (by kernel_rfl) rfl (by kernel_rfl) rfl (St.del 0 S54) rfl (wn rfl) rfl rfl (fun _ _ => (y_indexAddr rfl rfl rfl (r_indexAddr k Try.underlying23 inf141 (by omega) (by omega)))) ?_
          refine wG_take (v := .agg #[.int .i64 x62.hep, .int .i64 x62.hno, .int .i64 x62.msg.no, .int .i64 x62.msg.body]) (i := 6) (m := 4) (listed' := #[true, true, true, true, true, true, true, false, false, false, false]) rfl (by kernel_rfl) (by kernel_rfl) (by kernel_rfl) rfl (by kernel_rfl) rfl (St.del 0 S54) rfl (wn rfl) rfl rfl (fun _ Sx65 => (y_load rfl rfl (r_load_agg (cs := Ls.cells x62) Try.underlying141 rfl inf141 rfl (Rd.rg2 (St.rd 5 Sx65 rfl) (fun _ _ h => fm_get (enc := Ls.cells) (sz := 4) (fun _ => rfl) hx63 h))))) ?_
          refine wG_one (m := 3) (r := 7) (by kernel_rfl) ?_
          refine wH_new (i := 7) (listed' := #[true, true, true, true, true, true, true, true, false, false, false]) rfl rfl (V := fun b => .slice (some ⟨b, 0, none⟩) 1 1) (row := #[.int .i64 x62.hep, .int .i64 x62.hno, .int .i64 x62.msg.no, .int .i64 x62.msg.body]) (t := 141) S54 (wn rfl) rfl rfl (d_buildSlice (vs := [(0, .agg #[.int .i64 x62.hep, .int .i64 x62.hno, .int .i64 x62.msg.no, .int .i64 x62.msg.body])]) rfl ⟨rfl, rfl, trivial⟩ (by kernel_rfl)) ?_
          intro b66 w67 S68
          clear S54
          refine ⟨(St.del 0 (St.del 1 S68)), ?_⟩
          refine wG_one (m := 2) (r := 8) (by kernel_rfl) ?_
          refine wH_append (i := 8) (listed' := #[true, true, true, true, true, true, true, true, true, false, false]) rfl rfl (news := [.int .i64 x62.hep, .int .i64 x62.hno, .int .i64 x62.msg.no, .int .i64 x62.msg.body]) (xs' := (ls.take (k + 1)).flatMap Ls.cells) 1 S68 (wn rfl) rfl rfl rfl rfl rfl rfl (St.bld (xs := [.int .i64 x62.hep, .int .i64 x62.hno, .int .i64 x62.msg.no, .int .i64 x62.msg.body]) 0 S68 rfl rfl rfl) Try.underlying23 infz141 rfl (by decide) (oneAll rfl) (by simp only [maxLen]; omega) (by omega) (fm_snoc (enc := Ls.cells) (take_snoc_ hx63) rfl) ?_
          intro A69 c70 w71 hc73 hm74 S72
          clear S68
          change St _ _ _ [_, .own 141 4 (.slice A69 (k + 1) c70) (k + 1) ((ls.take (k + 1)).flatMap Ls.cells), _, _, _, _, _, _] at S72
          refine ⟨(St.del 0 (St.del 1 S72)), ?_⟩
          refine wG_tail (by kernel_rfl) rfl rfl rfl ?_
          refine wL_val (v := .pointer (some ⟨b7, 4, none⟩)) (wn rfl) rfl rfl (y_fieldAddr rfl rfl (fa29_4 _ _ _)) ?_
          refine wL_st (cs := #[.slice A69 (k + 1) c70]) (row' := qRow ep nx gv (.slice A9 rs.length c9) (.slice A69 (k + 1) c70) W) (fs' := [_, _, _, .blk b7 (qRow ep nx gv (.slice A9 rs.length c9) (.slice A69 (k + 1) c70) W) 29, _, _, _, _]) 3 S72 (wn rfl) rfl rfl rfl rfl rfl rfl inf23 rfl (oneAll rfl) (Nat.le_of_ble_eq_true rfl) qRow_s4 rfl ?_
          intro w75 S76
          clear S72
          refine wL_nil (wQ_np ?_)
          refine wQ_sub (l' := [(1, _), (2, _), (3, _), (5, _)]) ⟨rfl, rfl, rfl, rfl, trivial⟩ ?_
          refine wQ_blk_n ?_
          refine wQ_then ?_
          refine wC_region ?_
          refine wL_val (v := .int .i64 ((k : Nat) : Int)) (wn rfl) rfl rfl (y_move rfl rfl) ?_
          refine wL_val (v := .int .i64 ((k + 1 : Nat) : Int)) (wn rfl) rfl rfl (y_binop rfl rfl rfl (r_add (by omega) (by omega))) ?_
          refine wL_val (v := .int .i64 ((k + 1 : Nat) : Int)) (wn rfl) rfl rfl (y_assign rfl rfl) ?_
          refine wL_nil ?_
          refine wQ_sub (l' := [(1, _), (2, _), (3, _), (5, _)]) ⟨rfl, rfl, rfl, rfl, trivial⟩ ?_
          have S77 : St w.heap.size w w75 [_, _, _, _, _, _, _] := (St.del 0 S76)
          clear S76
          refine wQ_round (k + 1, A69, c70) ?_ ⟨rfl, rfl, rfl, rfl, trivial⟩ (by first | omega | (dsimp only; omega))
          exact ⟨(by dsimp only; omega), S77⟩
        · refine wL_val (v := .bool false) (wn rfl) rfl rfl (y_binop rfl rfl rfl (r_lss_f h53)) ?_
          refine wL_nil ?_
          refine wQ_sub (l' := [(1, _), (2, _), (3, _), (5, _), (30, _)]) ⟨rfl, rfl, rfl, rfl, rfl, trivial⟩ ?_
          refine wQ_then ?_
          refine wC_cond_f rfl ?_
          refine wC_exit ?_
          refine wQ_then_exit ?_
          refine wQ_then_exit ?_
          refine wQ_blk_same ?_
          refine wQ_then ?_
          refine wC_seq ?_
          refine wC_region ?_
          obtain rfl : k = ls.length := by omega
          have S78 := S51
          clear S51
          rw [List.take_length] at S78
          change St _ _ _ [.own 141 4 (.slice Ab ls.length cb) ls.length ((ls).flatMap Ls.cells), .own 137 2 (.slice A9 rs.length c9) rs.length ((rs).flatMap Msg.cells), .blk b7 (qRow ep nx gv (.slice A9 rs.length c9) (.slice Ab ls.length cb) W) 29, .blk b4 (qRow 0 0 0 (.slice none 0 0) (.slice none 0 0) zeroWs) 29, .blk b1 (qRow ep nx gv (.slice A1 rs.length c1) (.slice A2 ls.length c2) W) 29, .rd 2 A1 rs.length ((rs).flatMap Msg.cells), .rd 4 A2 ls.length ((ls).flatMap Ls.cells)] at S78
          refine wL_val (v := .agg (qRow ep nx gv (.slice A9 rs.length c9) (.slice Ab ls.length cb) W)) (wn rfl) rfl rfl (y_load rfl rfl (r_load_row 2 S78 rfl Try.underlying29 rfl inf29 rfl)) ?_
          refine wL_st (cs := qRow ep nx gv (.slice A9 rs.length c9) (.slice Ab ls.length cb) W) (row' := qRow ep nx gv (.slice A9 rs.length c9) (.slice Ab ls.length cb) W) (fs' := [_, _, _, .blk b4 (qRow ep nx gv (.slice A9 rs.length c9) (.slice Ab ls.length cb) W) 29, _, _, _]) 3 S78 (wn rfl) rfl rfl rfl rfl rfl rfl inf29 rfl (qRow_one rfl rfl) (Nat.le_of_ble_eq_true rfl) (setAll_all rfl) rfl ?_
          intro w79 S80
          clear S78
          refine wL_nil ?_
          refine wQ_sub (l' := [(2, _)]) ⟨rfl, trivial⟩ ?_
          refine wQ_then ?_
          refine wC_ret ?_
          refine wQ_post (rs := [.cell 2 29]) (vs := [.agg (qRow ep nx gv (.slice A9 rs.length c9) (.slice Ab ls.length cb) W)]) rfl ⟨⟨_, rfl, res_row 3 S80 rfl Try.underlying29 rfl inf29⟩, trivial⟩ ?_
          have S81 : St w.heap.size w w79 [_, _] := (St.del 2 (St.del 3 (St.del 4 (St.del 5 (St.del 6 S80)))))
          clear S80
          exact ⟨_, _, _, _, rfl, S81⟩
end Go.Proofs.Ytkjlafpafmihaaa

namespace Go.Proofs.Ytkjlafpafmihaaa
open Go.ChangeShapes Go.WideShapes Go.RowKit
section
variable {m x : Msg} {l out : List Msg} {k : Nat}
theorem put_mid (hx : l[k]? = some x) (h : m.no < x.no) (hi : putMsg m l = out ++ putMsg m (l.drop k)) : putMsg m l = (out ++ [m] ++ [x]) ++ l.drop (k + 1) := by
  obtain ⟨hk, e⟩ := List.getElem?_eq_some_iff.1 hx
  rw [hi, List.drop_eq_getElem_cons hk, e, putMsg, if_pos h]
  simp
theorem put_past (hx : l[k]? = some x) (h : ¬ m.no < x.no) (hi : putMsg m l = out ++ putMsg m (l.drop k)) : putMsg m l = (out ++ [x]) ++ putMsg m (l.drop (k + 1)) := by
  obtain ⟨hk, e⟩ := List.getElem?_eq_some_iff.1 hx
  rw [hi, List.drop_eq_getElem_cons hk, e, putMsg, if_neg h]
  simp
theorem put_rest (hx : l[k]? = some x) (hi : putMsg m l = out ++ l.drop k) : putMsg m l = (out ++ [x]) ++ l.drop (k + 1) := by
  obtain ⟨hk, e⟩ := List.getElem?_eq_some_iff.1 hx
  rw [hi, List.drop_eq_getElem_cons hk, e]
  simp
theorem put_end (hk : l.length ≤ k) (hi : putMsg m l = out ++ putMsg m (l.drop k)) : putMsg m l = out ++ [m] := by
  rw [hi, List.drop_eq_nil_of_le hk]; rfl
theorem put_done (hk : l.length ≤ k) (hi : putMsg m l = out ++ l.drop k) : putMsg m l = out := by
  rw [hi, List.drop_eq_nil_of_le hk, List.append_nil]
/-- What is still to be laid behind out. -/
def putRest (m : Msg) (l : List Msg) : Bool → List Msg
  | true => l
  | false => putMsg m l
theorem fold_len (ls : List Ls) (rs : List Msg) : (ls.foldl (fun l x => putMsg x.msg l) rs).length = rs.length + ls.length := by
  have := (fold_perm ls rs).length_eq
  simpa using this
theorem fold_step {ls : List Ls} {rs : List Msg} {x : Ls} {k : Nat} (hx : ls[k]? = some x) : putMsg x.msg ((ls.take k).foldl (fun l x => putMsg x.msg l) rs) = (ls.take (k + 1)).foldl (fun l x => putMsg x.msg l) rs := by
  rw [List.take_add_one, hx, List.foldl_append]
  rfl
theorem filt_step {α : Type} {l : List α} {f : α → Bool} {x : α} {k : Nat} (hx : l[k]? = some x) (h : f x = true) : (l.take k).filter f ++ [x] = (l.take (k + 1)).filter f := by
  rw [List.take_add_one, hx, List.filter_append]
  simp [h]
theorem filt_skip {α : Type} {l : List α} {f : α → Bool} {x : α} {k : Nat} (hx : l[k]? = some x) (h : f x = false) : (l.take k).filter f = (l.take (k + 1)).filter f := by
  rw [List.take_add_one, hx, List.filter_append]
  simp [h]
end
end Go.Proofs.Ytkjlafpafmihaaa

namespace Go.Proofs.Ytkjlafpafmihaaa
open Go.ChangeShapes Go.WideShapes Go.RowKit

set_option maxRecDepth 100000 in
set_option maxHeartbeats 4000000 in
theorem EventFault_publish_bad (p i b he hn : Int) (w : World) (hb : (inR p 0 3 && inR i 0 1073741824 && inR b 0 1000000) = false) :
    Calls Try.prog 149 #[Ev.val ⟨1, p, i, b, he, hn⟩] w (IntPost w 2) := by
  unfold Ev.val
  have h14 : inR 1 1 4 = true := by decide
  cases r1 : inR p 0 3 <;> cases r2 : inR i 0 1073741824 <;> cases r3 : inR b 0 1000000 <;> simp [r1, r2, r3] at hb
  all_goals
    go_enter Try.func149, Try.ntmps149
    go_wp2_with (go_at_call 107; refine (In_calls _ _ _ _).mono ?_; rintro e w' ⟨rfl, rfl⟩)
    go_ret
    exact ⟨rfl, by go_grown⟩
set_option maxRecDepth 100000 in
set_option maxHeartbeats 4000000 in
theorem EventFault_publish (p i b he hn : Int) (w : World) (hb : (inR p 0 3 && inR i 0 1073741824 && inR b 0 1000000) = true) :
    Calls Try.prog 149 #[Ev.val ⟨1, p, i, b, he, hn⟩] w (IntPost w (if he = 0 ∧ hn = 0 then 0 else 3)) := by
  unfold Ev.val
  have h14 : inR 1 1 4 = true := by decide
  simp only [Bool.and_eq_true] at hb
  obtain ⟨⟨r1, r2⟩, r3⟩ := hb
  by_cases z1 : he = 0
  · subst z1
    by_cases z2 : hn = 0
    · subst z2
      rw [if_pos ⟨rfl, rfl⟩]
      go_enter Try.func149, Try.ntmps149
      go_wp2_with (go_at_call 107; refine (In_calls _ _ _ _).mono ?_; rintro e w' ⟨rfl, rfl⟩)
      go_ret
      exact ⟨rfl, by go_grown⟩
    · rw [if_neg (fun h => z2 h.2)]
      have y2 : (hn != 0) = true := by rw [bne_iff_ne]; exact z2
      clear z2
      go_enter Try.func149, Try.ntmps149
      go_wp2_with (go_at_call 107; refine (In_calls _ _ _ _).mono ?_; rintro e w' ⟨rfl, rfl⟩)
      go_ret
      exact ⟨rfl, by go_grown⟩
  · rw [if_neg (fun h => z1 h.1)]
    have y1 : (he != 0) = true := by rw [bne_iff_ne]; exact z1
    clear z1
    go_enter Try.func149, Try.ntmps149
    go_wp2_with (go_at_call 107; refine (In_calls _ _ _ _).mono ?_; rintro e w' ⟨rfl, rfl⟩)
    go_ret
    exact ⟨rfl, by go_grown⟩
set_option maxRecDepth 100000 in
set_option maxHeartbeats 4000000 in
theorem EventFault_ack_bad (p i b he hn : Int) (w : World) (hb : (inR he 0 1048576 && inR hn 0 1073741824) = false) :
    Calls Try.prog 149 #[Ev.val ⟨3, p, i, b, he, hn⟩] w (IntPost w 2) := by
  unfold Ev.val
  have h14 : inR 3 1 4 = true := by decide
  cases r1 : inR he 0 1048576 <;> cases r2 : inR hn 0 1073741824 <;> simp [r1, r2] at hb
  all_goals
    go_enter Try.func149, Try.ntmps149
    go_wp2_with (go_at_call 107; refine (In_calls _ _ _ _).mono ?_; rintro e w' ⟨rfl, rfl⟩)
    go_ret
    exact ⟨rfl, by go_grown⟩
set_option maxRecDepth 100000 in
set_option maxHeartbeats 4000000 in
theorem EventFault_ack (p i b he hn : Int) (w : World) (hb : (inR he 0 1048576 && inR hn 0 1073741824) = true) :
    Calls Try.prog 149 #[Ev.val ⟨3, p, i, b, he, hn⟩] w (IntPost w (if p = 0 ∧ i = 0 ∧ b = 0 then 0 else 3)) := by
  unfold Ev.val
  have h14 : inR 3 1 4 = true := by decide
  simp only [Bool.and_eq_true] at hb
  obtain ⟨r1, r2⟩ := hb
  by_cases z1 : p = 0
  · subst z1
    by_cases z2 : i = 0
    · subst z2
      by_cases z3 : b = 0
      · subst z3
        rw [if_pos ⟨rfl, rfl, rfl⟩]
        go_enter Try.func149, Try.ntmps149
        go_wp2_with (go_at_call 107; refine (In_calls _ _ _ _).mono ?_; rintro e w' ⟨rfl, rfl⟩)
        go_ret
        exact ⟨rfl, by go_grown⟩
      · rw [if_neg (fun h => z3 h.2.2)]
        have y3 : (b != 0) = true := by rw [bne_iff_ne]; exact z3
        clear z3
        go_enter Try.func149, Try.ntmps149
        go_wp2_with (go_at_call 107; refine (In_calls _ _ _ _).mono ?_; rintro e w' ⟨rfl, rfl⟩)
        go_ret
        exact ⟨rfl, by go_grown⟩
    · rw [if_neg (fun h => z2 h.2.1)]
      have y2 : (i != 0) = true := by rw [bne_iff_ne]; exact z2
      clear z2
      go_enter Try.func149, Try.ntmps149
      go_wp2_with (go_at_call 107; refine (In_calls _ _ _ _).mono ?_; rintro e w' ⟨rfl, rfl⟩)
      go_ret
      exact ⟨rfl, by go_grown⟩
  · rw [if_neg (fun h => z1 h.1)]
    have y1 : (p != 0) = true := by rw [bne_iff_ne]; exact z1
    clear z1
    go_enter Try.func149, Try.ntmps149
    go_wp2_with (go_at_call 107; refine (In_calls _ _ _ _).mono ?_; rintro e w' ⟨rfl, rfl⟩)
    go_ret
    exact ⟨rfl, by go_grown⟩
set_option maxRecDepth 100000 in
set_option maxHeartbeats 4000000 in
theorem EventFault_bare2 (p i b he hn : Int) (w : World) :
    Calls Try.prog 149 #[Ev.val ⟨2, p, i, b, he, hn⟩] w (IntPost w (if p = 0 ∧ i = 0 ∧ b = 0 ∧ he = 0 ∧ hn = 0 then 0 else 3)) := by
  unfold Ev.val
  have h14 : inR 2 1 4 = true := by decide
  by_cases z1 : p = 0
  · subst z1
    by_cases z2 : i = 0
    · subst z2
      by_cases z3 : b = 0
      · subst z3
        by_cases z4 : he = 0
        · subst z4
          by_cases z5 : hn = 0
          · subst z5
            rw [if_pos ⟨rfl, rfl, rfl, rfl, rfl⟩]
            go_enter Try.func149, Try.ntmps149
            go_wp2_with (go_at_call 107; refine (In_calls _ _ _ _).mono ?_; rintro e w' ⟨rfl, rfl⟩)
            go_ret
            exact ⟨rfl, by go_grown⟩
          · rw [if_neg (fun h => z5 h.2.2.2.2)]
            have y5 : (hn != 0) = true := by rw [bne_iff_ne]; exact z5
            clear z5
            go_enter Try.func149, Try.ntmps149
            go_wp2_with (go_at_call 107; refine (In_calls _ _ _ _).mono ?_; rintro e w' ⟨rfl, rfl⟩)
            go_ret
            exact ⟨rfl, by go_grown⟩
        · rw [if_neg (fun h => z4 h.2.2.2.1)]
          have y4 : (he != 0) = true := by rw [bne_iff_ne]; exact z4
          clear z4
          go_enter Try.func149, Try.ntmps149
          go_wp2_with (go_at_call 107; refine (In_calls _ _ _ _).mono ?_; rintro e w' ⟨rfl, rfl⟩)
          go_ret
          exact ⟨rfl, by go_grown⟩
      · rw [if_neg (fun h => z3 h.2.2.1)]
        have y3 : (b != 0) = true := by rw [bne_iff_ne]; exact z3
        clear z3
        go_enter Try.func149, Try.ntmps149
        go_wp2_with (go_at_call 107; refine (In_calls _ _ _ _).mono ?_; rintro e w' ⟨rfl, rfl⟩)
        go_ret
        exact ⟨rfl, by go_grown⟩
    · rw [if_neg (fun h => z2 h.2.1)]
      have y2 : (i != 0) = true := by rw [bne_iff_ne]; exact z2
      clear z2
      go_enter Try.func149, Try.ntmps149
      go_wp2_with (go_at_call 107; refine (In_calls _ _ _ _).mono ?_; rintro e w' ⟨rfl, rfl⟩)
      go_ret
      exact ⟨rfl, by go_grown⟩
  · rw [if_neg (fun h => z1 h.1)]
    have y1 : (p != 0) = true := by rw [bne_iff_ne]; exact z1
    clear z1
    go_enter Try.func149, Try.ntmps149
    go_wp2_with (go_at_call 107; refine (In_calls _ _ _ _).mono ?_; rintro e w' ⟨rfl, rfl⟩)
    go_ret
    exact ⟨rfl, by go_grown⟩
set_option maxRecDepth 100000 in
set_option maxHeartbeats 4000000 in
theorem EventFault_bare4 (p i b he hn : Int) (w : World) :
    Calls Try.prog 149 #[Ev.val ⟨4, p, i, b, he, hn⟩] w (IntPost w (if p = 0 ∧ i = 0 ∧ b = 0 ∧ he = 0 ∧ hn = 0 then 0 else 3)) := by
  unfold Ev.val
  have h14 : inR 4 1 4 = true := by decide
  by_cases z1 : p = 0
  · subst z1
    by_cases z2 : i = 0
    · subst z2
      by_cases z3 : b = 0
      · subst z3
        by_cases z4 : he = 0
        · subst z4
          by_cases z5 : hn = 0
          · subst z5
            rw [if_pos ⟨rfl, rfl, rfl, rfl, rfl⟩]
            go_enter Try.func149, Try.ntmps149
            go_wp2_with (go_at_call 107; refine (In_calls _ _ _ _).mono ?_; rintro e w' ⟨rfl, rfl⟩)
            go_ret
            exact ⟨rfl, by go_grown⟩
          · rw [if_neg (fun h => z5 h.2.2.2.2)]
            have y5 : (hn != 0) = true := by rw [bne_iff_ne]; exact z5
            clear z5
            go_enter Try.func149, Try.ntmps149
            go_wp2_with (go_at_call 107; refine (In_calls _ _ _ _).mono ?_; rintro e w' ⟨rfl, rfl⟩)
            go_ret
            exact ⟨rfl, by go_grown⟩
        · rw [if_neg (fun h => z4 h.2.2.2.1)]
          have y4 : (he != 0) = true := by rw [bne_iff_ne]; exact z4
          clear z4
          go_enter Try.func149, Try.ntmps149
          go_wp2_with (go_at_call 107; refine (In_calls _ _ _ _).mono ?_; rintro e w' ⟨rfl, rfl⟩)
          go_ret
          exact ⟨rfl, by go_grown⟩
      · rw [if_neg (fun h => z3 h.2.2.1)]
        have y3 : (b != 0) = true := by rw [bne_iff_ne]; exact z3
        clear z3
        go_enter Try.func149, Try.ntmps149
        go_wp2_with (go_at_call 107; refine (In_calls _ _ _ _).mono ?_; rintro e w' ⟨rfl, rfl⟩)
        go_ret
        exact ⟨rfl, by go_grown⟩
    · rw [if_neg (fun h => z2 h.2.1)]
      have y2 : (i != 0) = true := by rw [bne_iff_ne]; exact z2
      clear z2
      go_enter Try.func149, Try.ntmps149
      go_wp2_with (go_at_call 107; refine (In_calls _ _ _ _).mono ?_; rintro e w' ⟨rfl, rfl⟩)
      go_ret
      exact ⟨rfl, by go_grown⟩
  · rw [if_neg (fun h => z1 h.1)]
    have y1 : (p != 0) = true := by rw [bne_iff_ne]; exact z1
    clear z1
    go_enter Try.func149, Try.ntmps149
    go_wp2_with (go_at_call 107; refine (In_calls _ _ _ _).mono ?_; rintro e w' ⟨rfl, rfl⟩)
    go_ret
    exact ⟨rfl, by go_grown⟩
set_option maxRecDepth 100000 in
set_option maxHeartbeats 4000000 in
theorem EventFault_none (k p i b he hn : Int) (w : World) (h14 : inR k 1 4 = false) :
    Calls Try.prog 149 #[Ev.val ⟨k, p, i, b, he, hn⟩] w (IntPost w 3) := by
  unfold Ev.val
  go_enter Try.func149, Try.ntmps149
  go_wp2_with (go_at_call 107; refine (In_calls _ _ _ _).mono ?_; rintro e w' ⟨rfl, rfl⟩)
  go_ret
  exact ⟨rfl, by go_grown⟩
theorem EventFault_calls (e : Ev) (w : World) : Calls Try.prog 149 #[e.val] w (IntPost w (evFault e)) := by
  obtain ⟨k, p, i, b, he, hn⟩ := e
  by_cases k1 : k = 1
  · subst k1
    cases hb : (inR p 0 3 && inR i 0 1073741824 && inR b 0 1000000)
    · have hf : evFault ⟨1, p, i, b, he, hn⟩ = 2 := by simp only [evFault, hb]; simp
      rw [hf]
      exact EventFault_publish_bad p i b he hn w hb
    · have hf : evFault ⟨1, p, i, b, he, hn⟩ = if he = 0 ∧ hn = 0 then 0 else 3 := by
        simp only [evFault, hb]
        by_cases z : he = 0 ∧ hn = 0 <;> simp [z]
      rw [hf]
      exact EventFault_publish p i b he hn w hb
  · by_cases k3 : k = 3
    · subst k3
      cases hb : (inR he 0 1048576 && inR hn 0 1073741824)
      · have hf : evFault ⟨3, p, i, b, he, hn⟩ = 2 := by simp only [evFault, hb]; simp
        rw [hf]
        exact EventFault_ack_bad p i b he hn w hb
      · have hf : evFault ⟨3, p, i, b, he, hn⟩ = if p = 0 ∧ i = 0 ∧ b = 0 then 0 else 3 := by
          simp only [evFault, hb]
          by_cases z : p = 0 ∧ i = 0 ∧ b = 0 <;> simp [z]
        rw [hf]
        exact EventFault_ack p i b he hn w hb
    · by_cases k24 : k = 2 ∨ k = 4
      · have hf : evFault ⟨k, p, i, b, he, hn⟩ = if p = 0 ∧ i = 0 ∧ b = 0 ∧ he = 0 ∧ hn = 0 then 0 else 3 := by
          have hk : 1 ≤ k ∧ k ≤ 4 := by omega
          simp only [evFault, hk, and_self, not_true_eq_false, if_false, k1, k3, false_and, ne_eq, not_false_eq_true, true_and]
          by_cases z : p = 0 ∧ i = 0 ∧ b = 0 <;> by_cases y : he = 0 ∧ hn = 0 <;> simp [z, y] <;> omega
        rw [hf]
        rcases k24 with rfl | rfl
        · exact EventFault_bare2 p i b he hn w
        · exact EventFault_bare4 p i b he hn w
      · have hf : evFault ⟨k, p, i, b, he, hn⟩ = 3 := by
          have hk : ¬ (1 ≤ k ∧ k ≤ 4) := by omega
          simp only [evFault, hk, not_false_eq_true, if_true]
        rw [hf]
        exact EventFault_none k p i b he hn w (inR_false.2 (by omega))
end Go.Proofs.Ytkjlafpafmihaaa

