/- Contract: queue.Check. (The steps are printed by a program of mine: wip/px.) -/
import Derived.Test.YtkjlafpafmihaaaQMsg
import Derived.Test.YtkjlafpafmihaaaISet
namespace Go.Proofs.Ytkjlafpafmihaaa
open Go.ChangeShapes Go.WideShapes Go.RowKit

set_option maxRecDepth 100000 in
set_option maxHeartbeats 4000000 in
theorem QCheck_calls (ep nx gv : Int) (A1 A2 : Option Addr) (c1 c2 : Nat) (rs : List Msg) (ls : List Ls) (W : Wins) (w : World) (h1 : Rd w w.heap.size 2 A1 rs.length (rs.flatMap Msg.cells)) (h2 : Rd w w.heap.size 4 A2 ls.length (ls.flatMap Ls.cells)) (hb1 : rs.length * 16 ≤ reachBytes) (hb2 : ls.length * 32 ≤ reachBytes) :
    Calls Try.prog 30 #[.agg (qRow ep nx gv (.slice A1 rs.length c1) (.slice A2 ls.length c2) W)] w (IPost w (queueFault ep nx gv rs ls W)) := by
  unfold reachBytes at hb1 hb2
  have S := ((St.start w).addRd h2).addRd h1
  refine calls_of_wC (N := 140) (vs := [.agg (qRow ep nx gv (.slice A1 rs.length c1) (.slice A2 ls.length c2) W)]) Try.func30 rfl rfl rfl ?_
  refine wC_sub (l' := [(0, .agg (qRow ep nx gv (.slice A1 rs.length c1) (.slice A2 ls.length c2) W))]) ⟨rfl, trivial⟩ ?_
  refine wC_seq ?_
  refine wC_region ?_
  refine wL_new (V := fun b => .pointer (some ⟨b, 0, none⟩)) (row := qRow ep nx gv (.slice A1 rs.length c1) (.slice A2 ls.length c2) W) S (wn rfl) rfl rfl (d_box rfl rfl rfl) ?_
  intro b1 w2 S3
  refine wL_val (v := .int .i64 0) (wn rfl) rfl rfl (y_assign rfl rfl) ?_
  refine wL_nil ?_
  refine wQ_then ?_
  refine wC_seq ?_
  refine wC_seq ?_
  refine wC_region ?_
  refine wL_val (v := .pointer (some ⟨b1, 0, none⟩)) (wn rfl) rfl rfl (y_fieldAddr rfl rfl (fa29_0 _ _ _)) ?_
  refine wL_val (v := .int .i64 ep) (wn rfl) rfl rfl (y_load rfl rfl (r_load Try.underlying3 rfl (St.cl 0 S3 rfl qRow_g0))) ?_
  by_cases h4 : ep < 0
  · refine wL_val (v := .bool true) (wn rfl) rfl rfl (y_binop rfl rfl rfl (r_lss_t h4)) ?_
    refine wL_val (v := .bool true) (wn rfl) rfl rfl (y_move rfl rfl) ?_
    refine wL_skip (wg rfl rfl rfl rfl) rfl rfl ?_
    refine wL_skip (wg rfl rfl rfl rfl) rfl rfl ?_
    refine wL_skip (wg rfl rfl rfl rfl) rfl rfl ?_
    refine wL_val (v := .bool true) (wn rfl) rfl rfl (y_pick_t rfl rfl rfl) ?_
    refine wL_val (v := .bool true) (wn rfl) rfl rfl (y_move rfl rfl) ?_
    refine wL_skip (wg rfl rfl rfl rfl) rfl rfl ?_
    refine wL_skip (wg rfl rfl rfl rfl) rfl rfl ?_
    refine wL_skip (wg rfl rfl rfl rfl) rfl rfl ?_
    refine wL_val (v := .bool true) (wn rfl) rfl rfl (y_pick_t rfl rfl rfl) ?_
    refine wL_val (v := .bool true) (wn rfl) rfl rfl (y_move rfl rfl) ?_
    refine wL_skip (wg rfl rfl rfl rfl) rfl rfl ?_
    refine wL_skip (wg rfl rfl rfl rfl) rfl rfl ?_
    refine wL_skip (wg rfl rfl rfl rfl) rfl rfl ?_
    refine wL_val (v := .bool true) (wn rfl) rfl rfl (y_pick_t rfl rfl rfl) ?_
    refine wL_val (v := .bool true) (wn rfl) rfl rfl (y_move rfl rfl) ?_
    refine wL_skip (wg rfl rfl rfl rfl) rfl rfl ?_
    refine wL_skip (wg rfl rfl rfl rfl) rfl rfl ?_
    refine wL_skip (wg rfl rfl rfl rfl) rfl rfl ?_
    refine wL_val (v := .bool true) (wn rfl) rfl rfl (y_pick_t rfl rfl rfl) ?_
    refine wL_val (v := .bool true) (wn rfl) rfl rfl (y_move rfl rfl) ?_
    refine wL_skip (wg rfl rfl rfl rfl) rfl rfl ?_
    refine wL_skip (wg rfl rfl rfl rfl) rfl rfl ?_
    refine wL_skip (wg rfl rfl rfl rfl) rfl rfl ?_
    refine wL_val (v := .bool true) (wn rfl) rfl rfl (y_pick_t rfl rfl rfl) ?_
    refine wL_val (v := .bool true) (wn rfl) rfl rfl (y_move rfl rfl) ?_
    refine wL_skip (wg rfl rfl rfl rfl) rfl rfl ?_
    refine wL_skip (wg rfl rfl rfl rfl) rfl rfl ?_
    refine wL_skip (wg rfl rfl rfl rfl) rfl rfl ?_
    refine wL_skip (wg rfl rfl rfl rfl) rfl rfl ?_
    refine wL_skip (wg rfl rfl rfl rfl) rfl rfl ?_
    refine wL_skip (wg rfl rfl rfl rfl) rfl rfl ?_
    refine wL_skip (wg rfl rfl rfl rfl) rfl rfl ?_
    refine wL_skip (wg rfl rfl rfl rfl) rfl rfl ?_
    refine wL_val (v := .bool true) (wn rfl) rfl rfl (y_pick_t rfl rfl rfl) ?_
    refine wL_nil ?_
    refine wQ_sub (l' := [(0, .agg (qRow ep nx gv (.slice A1 rs.length c1) (.slice A2 ls.length c2) W)), (1, .pointer (some ⟨b1, 0, none⟩)), (2, .int .i64 0), (49, .bool true)]) ⟨rfl, rfl, rfl, rfl, trivial⟩ ?_
    refine wQ_then ?_
    refine wC_cond_t rfl ?_
    refine wC_seq ?_
    refine wC_region ?_
    refine wL_val (v := .int .i64 6) (wn rfl) rfl rfl (y_assign rfl rfl) ?_
    refine wL_nil ?_
    refine wQ_then ?_
    refine wC_ret ?_
    refine wQ_then_ret ?_
    refine wQ_post (rs := [.tmp 2]) (vs := [.int .i64 6]) rfl ⟨rfl, trivial⟩ ?_
    exact ⟨ret_int_ (qf_rng (by omega)).symm, S3.low⟩
  · refine wL_val (v := .bool false) (wn rfl) rfl rfl (y_binop rfl rfl rfl (r_lss_f h4)) ?_
    refine wL_val (v := .bool false) (wn rfl) rfl rfl (y_move rfl rfl) ?_
    refine wL_val (v := .pointer (some ⟨b1, 0, none⟩)) (wg rfl rfl rfl rfl) rfl rfl (y_fieldAddr rfl rfl (fa29_0 _ _ _)) ?_
    refine wL_val (v := .int .i64 ep) (wg rfl rfl rfl rfl) rfl rfl (y_load rfl rfl (r_load Try.underlying3 rfl (St.cl 0 S3 rfl qRow_g0))) ?_
    by_cases h5 : 1048576 < ep
    · refine wL_val (v := .bool true) (wg rfl rfl rfl rfl) rfl rfl (y_binop rfl rfl rfl (r_gtr_t h5)) ?_
      refine wL_val (v := .bool true) (wn rfl) rfl rfl (y_pick_f rfl rfl rfl) ?_
      refine wL_val (v := .bool true) (wn rfl) rfl rfl (y_move rfl rfl) ?_
      refine wL_skip (wg rfl rfl rfl rfl) rfl rfl ?_
      refine wL_skip (wg rfl rfl rfl rfl) rfl rfl ?_
      refine wL_skip (wg rfl rfl rfl rfl) rfl rfl ?_
      refine wL_val (v := .bool true) (wn rfl) rfl rfl (y_pick_t rfl rfl rfl) ?_
      refine wL_val (v := .bool true) (wn rfl) rfl rfl (y_move rfl rfl) ?_
      refine wL_skip (wg rfl rfl rfl rfl) rfl rfl ?_
      refine wL_skip (wg rfl rfl rfl rfl) rfl rfl ?_
      refine wL_skip (wg rfl rfl rfl rfl) rfl rfl ?_
      refine wL_val (v := .bool true) (wn rfl) rfl rfl (y_pick_t rfl rfl rfl) ?_
      refine wL_val (v := .bool true) (wn rfl) rfl rfl (y_move rfl rfl) ?_
      refine wL_skip (wg rfl rfl rfl rfl) rfl rfl ?_
      refine wL_skip (wg rfl rfl rfl rfl) rfl rfl ?_
      refine wL_skip (wg rfl rfl rfl rfl) rfl rfl ?_
      refine wL_val (v := .bool true) (wn rfl) rfl rfl (y_pick_t rfl rfl rfl) ?_
      refine wL_val (v := .bool true) (wn rfl) rfl rfl (y_move rfl rfl) ?_
      refine wL_skip (wg rfl rfl rfl rfl) rfl rfl ?_
      refine wL_skip (wg rfl rfl rfl rfl) rfl rfl ?_
      refine wL_skip (wg rfl rfl rfl rfl) rfl rfl ?_
      refine wL_val (v := .bool true) (wn rfl) rfl rfl (y_pick_t rfl rfl rfl) ?_
      refine wL_val (v := .bool true) (wn rfl) rfl rfl (y_move rfl rfl) ?_
      refine wL_skip (wg rfl rfl rfl rfl) rfl rfl ?_
      refine wL_skip (wg rfl rfl rfl rfl) rfl rfl ?_
      refine wL_skip (wg rfl rfl rfl rfl) rfl rfl ?_
      refine wL_skip (wg rfl rfl rfl rfl) rfl rfl ?_
      refine wL_skip (wg rfl rfl rfl rfl) rfl rfl ?_
      refine wL_skip (wg rfl rfl rfl rfl) rfl rfl ?_
      refine wL_skip (wg rfl rfl rfl rfl) rfl rfl ?_
      refine wL_skip (wg rfl rfl rfl rfl) rfl rfl ?_
      refine wL_val (v := .bool true) (wn rfl) rfl rfl (y_pick_t rfl rfl rfl) ?_
      refine wL_nil ?_
      refine wQ_sub (l' := [(0, .agg (qRow ep nx gv (.slice A1 rs.length c1) (.slice A2 ls.length c2) W)), (1, .pointer (some ⟨b1, 0, none⟩)), (2, .int .i64 0), (49, .bool true)]) ⟨rfl, rfl, rfl, rfl, trivial⟩ ?_
      refine wQ_then ?_
      refine wC_cond_t rfl ?_
      refine wC_seq ?_
      refine wC_region ?_
      refine wL_val (v := .int .i64 6) (wn rfl) rfl rfl (y_assign rfl rfl) ?_
      refine wL_nil ?_
      refine wQ_then ?_
      refine wC_ret ?_
      refine wQ_then_ret ?_
      refine wQ_post (rs := [.tmp 2]) (vs := [.int .i64 6]) rfl ⟨rfl, trivial⟩ ?_
      exact ⟨ret_int_ (qf_rng (by omega)).symm, S3.low⟩
    · refine wL_val (v := .bool false) (wg rfl rfl rfl rfl) rfl rfl (y_binop rfl rfl rfl (r_gtr_f h5)) ?_
      refine wL_val (v := .bool false) (wn rfl) rfl rfl (y_pick_f rfl rfl rfl) ?_
      refine wL_val (v := .bool false) (wn rfl) rfl rfl (y_move rfl rfl) ?_
      refine wL_val (v := .pointer (some ⟨b1, 1, none⟩)) (wg rfl rfl rfl rfl) rfl rfl (y_fieldAddr rfl rfl (fa29_1 _ _ _)) ?_
      refine wL_val (v := .int .i64 nx) (wg rfl rfl rfl rfl) rfl rfl (y_load rfl rfl (r_load Try.underlying3 rfl (St.cl 0 S3 rfl qRow_g1))) ?_
      by_cases h6 : nx < 0
      · refine wL_val (v := .bool true) (wg rfl rfl rfl rfl) rfl rfl (y_binop rfl rfl rfl (r_lss_t h6)) ?_
        refine wL_val (v := .bool true) (wn rfl) rfl rfl (y_pick_f rfl rfl rfl) ?_
        refine wL_val (v := .bool true) (wn rfl) rfl rfl (y_move rfl rfl) ?_
        refine wL_skip (wg rfl rfl rfl rfl) rfl rfl ?_
        refine wL_skip (wg rfl rfl rfl rfl) rfl rfl ?_
        refine wL_skip (wg rfl rfl rfl rfl) rfl rfl ?_
        refine wL_val (v := .bool true) (wn rfl) rfl rfl (y_pick_t rfl rfl rfl) ?_
        refine wL_val (v := .bool true) (wn rfl) rfl rfl (y_move rfl rfl) ?_
        refine wL_skip (wg rfl rfl rfl rfl) rfl rfl ?_
        refine wL_skip (wg rfl rfl rfl rfl) rfl rfl ?_
        refine wL_skip (wg rfl rfl rfl rfl) rfl rfl ?_
        refine wL_val (v := .bool true) (wn rfl) rfl rfl (y_pick_t rfl rfl rfl) ?_
        refine wL_val (v := .bool true) (wn rfl) rfl rfl (y_move rfl rfl) ?_
        refine wL_skip (wg rfl rfl rfl rfl) rfl rfl ?_
        refine wL_skip (wg rfl rfl rfl rfl) rfl rfl ?_
        refine wL_skip (wg rfl rfl rfl rfl) rfl rfl ?_
        refine wL_val (v := .bool true) (wn rfl) rfl rfl (y_pick_t rfl rfl rfl) ?_
        refine wL_val (v := .bool true) (wn rfl) rfl rfl (y_move rfl rfl) ?_
        refine wL_skip (wg rfl rfl rfl rfl) rfl rfl ?_
        refine wL_skip (wg rfl rfl rfl rfl) rfl rfl ?_
        refine wL_skip (wg rfl rfl rfl rfl) rfl rfl ?_
        refine wL_skip (wg rfl rfl rfl rfl) rfl rfl ?_
        refine wL_skip (wg rfl rfl rfl rfl) rfl rfl ?_
        refine wL_skip (wg rfl rfl rfl rfl) rfl rfl ?_
        refine wL_skip (wg rfl rfl rfl rfl) rfl rfl ?_
        refine wL_skip (wg rfl rfl rfl rfl) rfl rfl ?_
        refine wL_val (v := .bool true) (wn rfl) rfl rfl (y_pick_t rfl rfl rfl) ?_
        refine wL_nil ?_
        refine wQ_sub (l' := [(0, .agg (qRow ep nx gv (.slice A1 rs.length c1) (.slice A2 ls.length c2) W)), (1, .pointer (some ⟨b1, 0, none⟩)), (2, .int .i64 0), (49, .bool true)]) ⟨rfl, rfl, rfl, rfl, trivial⟩ ?_
        refine wQ_then ?_
        refine wC_cond_t rfl ?_
        refine wC_seq ?_
        refine wC_region ?_
        refine wL_val (v := .int .i64 6) (wn rfl) rfl rfl (y_assign rfl rfl) ?_
        refine wL_nil ?_
        refine wQ_then ?_
        refine wC_ret ?_
        refine wQ_then_ret ?_
        refine wQ_post (rs := [.tmp 2]) (vs := [.int .i64 6]) rfl ⟨rfl, trivial⟩ ?_
        exact ⟨ret_int_ (qf_rng (by omega)).symm, S3.low⟩
      · refine wL_val (v := .bool false) (wg rfl rfl rfl rfl) rfl rfl (y_binop rfl rfl rfl (r_lss_f h6)) ?_
        refine wL_val (v := .bool false) (wn rfl) rfl rfl (y_pick_f rfl rfl rfl) ?_
        refine wL_val (v := .bool false) (wn rfl) rfl rfl (y_move rfl rfl) ?_
        refine wL_val (v := .pointer (some ⟨b1, 1, none⟩)) (wg rfl rfl rfl rfl) rfl rfl (y_fieldAddr rfl rfl (fa29_1 _ _ _)) ?_
        refine wL_val (v := .int .i64 nx) (wg rfl rfl rfl rfl) rfl rfl (y_load rfl rfl (r_load Try.underlying3 rfl (St.cl 0 S3 rfl qRow_g1))) ?_
        by_cases h7 : 1073741824 < nx
        · refine wL_val (v := .bool true) (wg rfl rfl rfl rfl) rfl rfl (y_binop rfl rfl rfl (r_gtr_t h7)) ?_
          refine wL_val (v := .bool true) (wn rfl) rfl rfl (y_pick_f rfl rfl rfl) ?_
          refine wL_val (v := .bool true) (wn rfl) rfl rfl (y_move rfl rfl) ?_
          refine wL_skip (wg rfl rfl rfl rfl) rfl rfl ?_
          refine wL_skip (wg rfl rfl rfl rfl) rfl rfl ?_
          refine wL_skip (wg rfl rfl rfl rfl) rfl rfl ?_
          refine wL_val (v := .bool true) (wn rfl) rfl rfl (y_pick_t rfl rfl rfl) ?_
          refine wL_val (v := .bool true) (wn rfl) rfl rfl (y_move rfl rfl) ?_
          refine wL_skip (wg rfl rfl rfl rfl) rfl rfl ?_
          refine wL_skip (wg rfl rfl rfl rfl) rfl rfl ?_
          refine wL_skip (wg rfl rfl rfl rfl) rfl rfl ?_
          refine wL_val (v := .bool true) (wn rfl) rfl rfl (y_pick_t rfl rfl rfl) ?_
          refine wL_val (v := .bool true) (wn rfl) rfl rfl (y_move rfl rfl) ?_
          refine wL_skip (wg rfl rfl rfl rfl) rfl rfl ?_
          refine wL_skip (wg rfl rfl rfl rfl) rfl rfl ?_
          refine wL_skip (wg rfl rfl rfl rfl) rfl rfl ?_
          refine wL_skip (wg rfl rfl rfl rfl) rfl rfl ?_
          refine wL_skip (wg rfl rfl rfl rfl) rfl rfl ?_
          refine wL_skip (wg rfl rfl rfl rfl) rfl rfl ?_
          refine wL_skip (wg rfl rfl rfl rfl) rfl rfl ?_
          refine wL_skip (wg rfl rfl rfl rfl) rfl rfl ?_
          refine wL_val (v := .bool true) (wn rfl) rfl rfl (y_pick_t rfl rfl rfl) ?_
          refine wL_nil ?_
          refine wQ_sub (l' := [(0, .agg (qRow ep nx gv (.slice A1 rs.length c1) (.slice A2 ls.length c2) W)), (1, .pointer (some ⟨b1, 0, none⟩)), (2, .int .i64 0), (49, .bool true)]) ⟨rfl, rfl, rfl, rfl, trivial⟩ ?_
          refine wQ_then ?_
          refine wC_cond_t rfl ?_
          refine wC_seq ?_
          refine wC_region ?_
          refine wL_val (v := .int .i64 6) (wn rfl) rfl rfl (y_assign rfl rfl) ?_
          refine wL_nil ?_
          refine wQ_then ?_
          refine wC_ret ?_
          refine wQ_then_ret ?_
          refine wQ_post (rs := [.tmp 2]) (vs := [.int .i64 6]) rfl ⟨rfl, trivial⟩ ?_
          exact ⟨ret_int_ (qf_rng (by omega)).symm, S3.low⟩
        · refine wL_val (v := .bool false) (wg rfl rfl rfl rfl) rfl rfl (y_binop rfl rfl rfl (r_gtr_f h7)) ?_
          refine wL_val (v := .bool false) (wn rfl) rfl rfl (y_pick_f rfl rfl rfl) ?_
          refine wL_val (v := .bool false) (wn rfl) rfl rfl (y_move rfl rfl) ?_
          refine wL_val (v := .pointer (some ⟨b1, 2, none⟩)) (wg rfl rfl rfl rfl) rfl rfl (y_fieldAddr rfl rfl (fa29_2 _ _ _)) ?_
          refine wL_val (v := .int .i64 gv) (wg rfl rfl rfl rfl) rfl rfl (y_load rfl rfl (r_load Try.underlying3 rfl (St.cl 0 S3 rfl qRow_g2))) ?_
          by_cases h8 : gv < 0
          · refine wL_val (v := .bool true) (wg rfl rfl rfl rfl) rfl rfl (y_binop rfl rfl rfl (r_lss_t h8)) ?_
            refine wL_val (v := .bool true) (wn rfl) rfl rfl (y_pick_f rfl rfl rfl) ?_
            refine wL_val (v := .bool true) (wn rfl) rfl rfl (y_move rfl rfl) ?_
            refine wL_skip (wg rfl rfl rfl rfl) rfl rfl ?_
            refine wL_skip (wg rfl rfl rfl rfl) rfl rfl ?_
            refine wL_skip (wg rfl rfl rfl rfl) rfl rfl ?_
            refine wL_val (v := .bool true) (wn rfl) rfl rfl (y_pick_t rfl rfl rfl) ?_
            refine wL_val (v := .bool true) (wn rfl) rfl rfl (y_move rfl rfl) ?_
            refine wL_skip (wg rfl rfl rfl rfl) rfl rfl ?_
            refine wL_skip (wg rfl rfl rfl rfl) rfl rfl ?_
            refine wL_skip (wg rfl rfl rfl rfl) rfl rfl ?_
            refine wL_skip (wg rfl rfl rfl rfl) rfl rfl ?_
            refine wL_skip (wg rfl rfl rfl rfl) rfl rfl ?_
            refine wL_skip (wg rfl rfl rfl rfl) rfl rfl ?_
            refine wL_skip (wg rfl rfl rfl rfl) rfl rfl ?_
            refine wL_skip (wg rfl rfl rfl rfl) rfl rfl ?_
            refine wL_val (v := .bool true) (wn rfl) rfl rfl (y_pick_t rfl rfl rfl) ?_
            refine wL_nil ?_
            refine wQ_sub (l' := [(0, .agg (qRow ep nx gv (.slice A1 rs.length c1) (.slice A2 ls.length c2) W)), (1, .pointer (some ⟨b1, 0, none⟩)), (2, .int .i64 0), (49, .bool true)]) ⟨rfl, rfl, rfl, rfl, trivial⟩ ?_
            refine wQ_then ?_
            refine wC_cond_t rfl ?_
            refine wC_seq ?_
            refine wC_region ?_
            refine wL_val (v := .int .i64 6) (wn rfl) rfl rfl (y_assign rfl rfl) ?_
            refine wL_nil ?_
            refine wQ_then ?_
            refine wC_ret ?_
            refine wQ_then_ret ?_
            refine wQ_post (rs := [.tmp 2]) (vs := [.int .i64 6]) rfl ⟨rfl, trivial⟩ ?_
            exact ⟨ret_int_ (qf_rng (by omega)).symm, S3.low⟩
          · refine wL_val (v := .bool false) (wg rfl rfl rfl rfl) rfl rfl (y_binop rfl rfl rfl (r_lss_f h8)) ?_
            refine wL_val (v := .bool false) (wn rfl) rfl rfl (y_pick_f rfl rfl rfl) ?_
            refine wL_val (v := .bool false) (wn rfl) rfl rfl (y_move rfl rfl) ?_
            refine wL_val (v := .pointer (some ⟨b1, 2, none⟩)) (wg rfl rfl rfl rfl) rfl rfl (y_fieldAddr rfl rfl (fa29_2 _ _ _)) ?_
            refine wL_val (v := .int .i64 gv) (wg rfl rfl rfl rfl) rfl rfl (y_load rfl rfl (r_load Try.underlying3 rfl (St.cl 0 S3 rfl qRow_g2))) ?_
            by_cases h9 : 1073741824 < gv
            · refine wL_val (v := .bool true) (wg rfl rfl rfl rfl) rfl rfl (y_binop rfl rfl rfl (r_gtr_t h9)) ?_
              refine wL_val (v := .bool true) (wn rfl) rfl rfl (y_pick_f rfl rfl rfl) ?_
              refine wL_val (v := .bool true) (wn rfl) rfl rfl (y_move rfl rfl) ?_
              refine wL_skip (wg rfl rfl rfl rfl) rfl rfl ?_
              refine wL_skip (wg rfl rfl rfl rfl) rfl rfl ?_
              refine wL_skip (wg rfl rfl rfl rfl) rfl rfl ?_
              refine wL_skip (wg rfl rfl rfl rfl) rfl rfl ?_
              refine wL_skip (wg rfl rfl rfl rfl) rfl rfl ?_
              refine wL_skip (wg rfl rfl rfl rfl) rfl rfl ?_
              refine wL_skip (wg rfl rfl rfl rfl) rfl rfl ?_
              refine wL_skip (wg rfl rfl rfl rfl) rfl rfl ?_
              refine wL_val (v := .bool true) (wn rfl) rfl rfl (y_pick_t rfl rfl rfl) ?_
              refine wL_nil ?_
              refine wQ_sub (l' := [(0, .agg (qRow ep nx gv (.slice A1 rs.length c1) (.slice A2 ls.length c2) W)), (1, .pointer (some ⟨b1, 0, none⟩)), (2, .int .i64 0), (49, .bool true)]) ⟨rfl, rfl, rfl, rfl, trivial⟩ ?_
              refine wQ_then ?_
              refine wC_cond_t rfl ?_
              refine wC_seq ?_
              refine wC_region ?_
              refine wL_val (v := .int .i64 6) (wn rfl) rfl rfl (y_assign rfl rfl) ?_
              refine wL_nil ?_
              refine wQ_then ?_
              refine wC_ret ?_
              refine wQ_then_ret ?_
              refine wQ_post (rs := [.tmp 2]) (vs := [.int .i64 6]) rfl ⟨rfl, trivial⟩ ?_
              exact ⟨ret_int_ (qf_rng (by omega)).symm, S3.low⟩
            · refine wL_val (v := .bool false) (wg rfl rfl rfl rfl) rfl rfl (y_binop rfl rfl rfl (r_gtr_f h9)) ?_
              refine wL_val (v := .bool false) (wn rfl) rfl rfl (y_pick_f rfl rfl rfl) ?_
              refine wL_val (v := .bool false) (wn rfl) rfl rfl (y_move rfl rfl) ?_
              refine wL_val (v := .pointer (some ⟨b1, 3, none⟩)) (wg rfl rfl rfl rfl) rfl rfl (y_fieldAddr rfl rfl (fa29_3 _ _ _)) ?_
              refine wL_val (v := .slice A1 rs.length c1) (wg rfl rfl rfl rfl) rfl rfl (y_load rfl rfl (r_load Try.underlying22 rfl (St.cl 0 S3 rfl qRow_g3))) ?_
              refine wL_val (v := .int .i64 ((rs.length : Nat) : Int)) (wg rfl rfl rfl rfl) rfl rfl (y_builtin (vs := [.slice A1 rs.length c1]) rfl ⟨rfl, trivial⟩ fun _ => r_len rfl Try.underlying22) ?_
              refine wL_val (v := .pointer (some ⟨b1, 4, none⟩)) (wg rfl rfl rfl rfl) rfl rfl (y_fieldAddr rfl rfl (fa29_4 _ _ _)) ?_
              refine wL_val (v := .slice A2 ls.length c2) (wg rfl rfl rfl rfl) rfl rfl (y_load rfl rfl (r_load Try.underlying23 rfl (St.cl 0 S3 rfl qRow_g4))) ?_
              refine wL_val (v := .int .i64 ((ls.length : Nat) : Int)) (wg rfl rfl rfl rfl) rfl rfl (y_builtin (vs := [.slice A2 ls.length c2]) rfl ⟨rfl, trivial⟩ fun _ => r_len rfl Try.underlying23) ?_
              refine wL_val (v := .int .i64 ((rs.length + ls.length : Nat) : Int)) (wg rfl rfl rfl rfl) rfl rfl (y_binop rfl rfl rfl (r_add (by omega) (by omega))) ?_
              by_cases h10 : 500 < ((rs.length + ls.length : Nat) : Int)
              · refine wL_val (v := .bool true) (wg rfl rfl rfl rfl) rfl rfl (y_binop rfl rfl rfl (r_gtr_t h10)) ?_
                refine wL_val (v := .bool true) (wn rfl) rfl rfl (y_pick_f rfl rfl rfl) ?_
                refine wL_nil ?_
                refine wQ_sub (l' := [(0, .agg (qRow ep nx gv (.slice A1 rs.length c1) (.slice A2 ls.length c2) W)), (1, .pointer (some ⟨b1, 0, none⟩)), (2, .int .i64 0), (49, .bool true)]) ⟨rfl, rfl, rfl, rfl, trivial⟩ ?_
                refine wQ_then ?_
                refine wC_cond_t rfl ?_
                refine wC_seq ?_
                refine wC_region ?_
                refine wL_val (v := .int .i64 6) (wn rfl) rfl rfl (y_assign rfl rfl) ?_
                refine wL_nil ?_
                refine wQ_then ?_
                refine wC_ret ?_
                refine wQ_then_ret ?_
                refine wQ_post (rs := [.tmp 2]) (vs := [.int .i64 6]) rfl ⟨rfl, trivial⟩ ?_
                exact ⟨ret_int_ (qf_rng (by omega)).symm, S3.low⟩
              · refine wL_val (v := .bool false) (wg rfl rfl rfl rfl) rfl rfl (y_binop rfl rfl rfl (r_gtr_f h10)) ?_
                refine wL_val (v := .bool false) (wn rfl) rfl rfl (y_pick_f rfl rfl rfl) ?_
                refine wL_nil ?_
                refine wQ_sub (l' := [(0, .agg (qRow ep nx gv (.slice A1 rs.length c1) (.slice A2 ls.length c2) W)), (1, .pointer (some ⟨b1, 0, none⟩)), (2, .int .i64 0), (49, .bool false)]) ⟨rfl, rfl, rfl, rfl, trivial⟩ ?_
                refine wQ_then ?_
                refine wC_cond_f rfl ?_
                refine wC_skip ?_
                refine wQ_then ?_
                refine wC_seq ?_
                refine wC_seq ?_
                refine wC_region ?_
                refine wL_val (v := .pointer (some ⟨b1, 5, none⟩)) (wn rfl) rfl rfl (y_fieldAddr rfl rfl (fa29_5 _ _ _)) ?_
                refine wL_val (v := .agg ((W.cells).toArray)) (wn rfl) rfl rfl (y_load rfl rfl (r_load_agg (cs := (W.cells)) Try.underlying27 rfl inf27 rfl (St.rg 0 S3 rfl (qRow_ws)))) ?_
                refine wL_val (v := .int .i64 0) (wn rfl) rfl rfl (y_move rfl rfl) ?_
                refine wL_nil ?_
                refine wQ_sub (l' := [(0, .agg (qRow ep nx gv (.slice A1 rs.length c1) (.slice A2 ls.length c2) W)), (1, .pointer (some ⟨b1, 0, none⟩)), (2, .int .i64 0), (49, .bool false), (51, .agg ((W.cells).toArray)), (52, .int .i64 0)]) ⟨rfl, rfl, rfl, rfl, rfl, rfl, trivial⟩ ?_
                refine wQ_then ?_
                refine wC_block ?_
                refine wC_loop (X := Nat) (fun x => [(1, .pointer (some ⟨b1, 0, none⟩)), (2, .int .i64 0), (51, .agg ((W.cells).toArray)), (52, .int .i64 ((x : Nat) : Int))]) (fun x wr => (x ≤ 4) ∧ (∀ j, j < x → winFault (W.at j) = 0) ∧ St w.heap.size w wr [.blk b1 (qRow ep nx gv (.slice A1 rs.length c1) (.slice A2 ls.length c2) W) 29, .rd 2 A1 rs.length ((rs).flatMap Msg.cells), .rd 4 A2 ls.length ((ls).flatMap Ls.cells)]) (fun x => 4 - x) (0) ?_ ?_ ?_
                · exact ⟨Nat.zero_le _, fun j hj => absurd hj (Nat.not_lt_zero _), S3⟩
                · exact ⟨rfl, rfl, rfl, rfl, trivial⟩
                · rintro k w11 ⟨hi13, hi14, S12⟩
                  try dsimp only at hi13 hi14 S12
                  refine wC_sub (l' := [(1, .pointer (some ⟨b1, 0, none⟩)), (2, .int .i64 0), (51, .agg ((W.cells).toArray)), (52, .int .i64 ((k : Nat) : Int))]) ⟨rfl, rfl, rfl, rfl, trivial⟩ ?_
                  refine wC_seq ?_
                  refine wC_region ?_
                  by_cases h15 : ((k : Nat) : Int) < 4
                  · refine wL_val (v := .bool true) (wn rfl) rfl rfl (y_binop rfl rfl rfl (r_lss_t h15)) ?_
                    refine wL_nil ?_
                    refine wQ_then ?_
                    refine wC_seq ?_
                    refine wC_cond_t rfl ?_
                    refine wC_skip ?_
                    refine wQ_then ?_
                    refine wC_seq ?_
                    refine wC_block ?_
                    refine wC_seq ?_
                    refine wC_region ?_
                    refine wL_val (v := .agg (((W.at k).cells).toArray)) (wn rfl) rfl rfl (y_index rfl rfl rfl (wins_index W k (by omega) _)) ?_
                    refine wL_new (V := fun b => .pointer (some ⟨b, 0, none⟩)) (row := #[.int .i64 0, .bool false, .bool false, .bool false, .bool false, .bool false, .bool false, .bool false, .bool false]) S12 (wn rfl) rfl rfl (d_alloc rfl (Try.zeroValue26 _) rfl) ?_
                    intro b16 w17 S18
                    refine wL_st (cs := ((W.at k).cells).toArray) (row' := ((W.at k).cells).toArray) (fs' := [.blk b16 (((W.at k).cells).toArray) 26, .blk b1 (qRow ep nx gv (.slice A1 rs.length c1) (.slice A2 ls.length c2) W) 29, .rd 2 A1 rs.length ((rs).flatMap Msg.cells), .rd 4 A2 ls.length ((ls).flatMap Ls.cells) ]) 0 S18 (wn rfl) rfl rfl rfl rfl rfl rfl inf26 rfl (win_one _) (Nat.le_of_ble_eq_true rfl) (setAll_alls rfl) rfl ?_
                    intro w19 S20
                    refine wL_nil ?_
                    refine wQ_sub (l' := [(1, .pointer (some ⟨b1, 0, none⟩)), (2, .int .i64 0), (51, .agg ((W.cells).toArray)), (52, .int .i64 ((k : Nat) : Int)), (53, .bool true), (4, .pointer (some ⟨b16, 0, none⟩))]) ⟨rfl, rfl, rfl, rfl, rfl, rfl, trivial⟩ ?_
                    refine wQ_then ?_
                    refine wC_seq ?_
                    refine wC_region ?_
                    refine wL_val (v := .agg (((W.at k).cells).toArray)) (wn rfl) rfl rfl (y_load rfl rfl (r_load_row 0 S20 rfl Try.underlying26 rfl inf26 rfl)) ?_
                    refine wL_call (vs := [.agg (((W.at k).cells).toArray)]) (wn rfl) rfl rfl (e_call (vs := [.agg (((W.at k).cells).toArray)]) rfl en104 ⟨rfl, trivial⟩) (WCheck_calls (W.at k) _) ?_
                    rintro _ w21 ⟨rfl, hb23⟩
                    refine ⟨_, rfl, ?_⟩
                    have S22 := S20.on hb23
                    clear hb23
                    refine wL_val (v := .int .i64 (winFault (W.at k))) (wn rfl) rfl rfl (y_assign rfl rfl) ?_
                    refine wL_nil ?_
                    refine wQ_sub (l' := [(1, .pointer (some ⟨b1, 0, none⟩)), (2, .int .i64 0), (51, .agg ((W.cells).toArray)), (52, .int .i64 ((k : Nat) : Int)), (53, .bool true), (4, .pointer (some ⟨b16, 0, none⟩)), (5, .int .i64 (winFault (W.at k)))]) ⟨rfl, rfl, rfl, rfl, rfl, rfl, rfl, trivial⟩ ?_
                    refine wQ_then ?_
                    refine wC_seq ?_
                    refine wC_region ?_
                    refine wL_val (v := .int .i64 (winFault (W.at k))) (wn rfl) rfl rfl (y_move rfl rfl) ?_
                    by_cases h24 : winFault (W.at k) = 0
                    · refine wL_val (v := .bool false) (wn rfl) rfl rfl (y_binop rfl rfl rfl (r_neq_f h24)) ?_
                      refine wL_nil ?_
                      refine wQ_sub (l' := [(1, .pointer (some ⟨b1, 0, none⟩)), (2, .int .i64 0), (51, .agg ((W.cells).toArray)), (52, .int .i64 ((k : Nat) : Int)), (53, .bool true), (4, .pointer (some ⟨b16, 0, none⟩)), (5, .int .i64 (winFault (W.at k))), (58, .bool false)]) ⟨rfl, rfl, rfl, rfl, rfl, rfl, rfl, rfl, trivial⟩ ?_
                      refine wQ_then ?_
                      refine wC_cond_f rfl ?_
                      refine wC_skip ?_
                      refine wQ_blk_n ?_
                      refine wQ_then ?_
                      refine wC_region ?_
                      refine wL_val (v := .int .i64 ((k + 1 : Nat) : Int)) (wn rfl) rfl rfl (y_binop rfl rfl rfl (r_add (by omega) (by omega))) ?_
                      refine wL_val (v := .int .i64 ((k + 1 : Nat) : Int)) (wn rfl) rfl rfl (y_move rfl rfl) ?_
                      refine wL_nil ?_
                      refine wQ_sub (l' := [(1, .pointer (some ⟨b1, 0, none⟩)), (2, .int .i64 0), (51, .agg ((W.cells).toArray)), (52, .int .i64 ((k + 1 : Nat) : Int)), (53, .bool true), (4, .pointer (some ⟨b16, 0, none⟩)), (5, .int .i64 (winFault (W.at k))), (58, .bool false)]) ⟨rfl, rfl, rfl, rfl, rfl, rfl, rfl, rfl, trivial⟩ ?_
                      have S25 : St w.heap.size w w21 [.blk b1 (qRow ep nx gv (.slice A1 rs.length c1) (.slice A2 ls.length c2) W) 29, .rd 2 A1 rs.length ((rs).flatMap Msg.cells), .rd 4 A2 ls.length ((ls).flatMap Ls.cells)] := (St.del 0 S22)
                      refine wQ_round (k + 1) ?_ ⟨rfl, rfl, rfl, rfl, trivial⟩ (by first | omega | (dsimp only; omega))
                      exact ⟨(by omega), (fun j hj => (Nat.lt_succ_iff_lt_or_eq.1 hj).elim (fun h => hi14 j h) (fun h => by rw [h]; exact h24)), S25⟩
                    · refine wL_val (v := .bool true) (wn rfl) rfl rfl (y_binop rfl rfl rfl (r_neq_t h24)) ?_
                      refine wL_nil ?_
                      refine wQ_sub (l' := [(1, .pointer (some ⟨b1, 0, none⟩)), (2, .int .i64 0), (51, .agg ((W.cells).toArray)), (52, .int .i64 ((k : Nat) : Int)), (53, .bool true), (4, .pointer (some ⟨b16, 0, none⟩)), (5, .int .i64 (winFault (W.at k))), (58, .bool true)]) ⟨rfl, rfl, rfl, rfl, rfl, rfl, rfl, rfl, trivial⟩ ?_
                      refine wQ_then ?_
                      refine wC_cond_t rfl ?_
                      refine wC_seq ?_
                      refine wC_region ?_
                      refine wL_val (v := .int .i64 (winFault (W.at k))) (wn rfl) rfl rfl (y_move rfl rfl) ?_
                      refine wL_val (v := .int .i64 (winFault (W.at k))) (wn rfl) rfl rfl (y_assign rfl rfl) ?_
                      refine wL_nil ?_
                      refine wQ_sub (l' := [(1, .pointer (some ⟨b1, 0, none⟩)), (2, .int .i64 (winFault (W.at k))), (51, .agg ((W.cells).toArray)), (52, .int .i64 ((k : Nat) : Int)), (53, .bool true), (4, .pointer (some ⟨b16, 0, none⟩)), (5, .int .i64 (winFault (W.at k))), (58, .bool true)]) ⟨rfl, rfl, rfl, rfl, rfl, rfl, rfl, rfl, trivial⟩ ?_
                      refine wQ_then ?_
                      refine wC_ret ?_
                      refine wQ_blk_ret ?_
                      refine wQ_then_ret ?_
                      refine wQ_then_ret ?_
                      refine wQ_blk_ret ?_
                      refine wQ_then_ret ?_
                      refine wQ_post (rs := [.tmp 2]) (vs := [.int .i64 (winFault (W.at k))]) rfl ⟨rfl, trivial⟩ ?_
                      refine ⟨ret_int_ ?_, S22.low⟩
                      rw [qf_win (j := k) (by omega) h24]; exact (winF_or _).resolve_left h24
                  · refine wL_val (v := .bool false) (wn rfl) rfl rfl (y_binop rfl rfl rfl (r_lss_f h15)) ?_
                    refine wL_nil ?_
                    refine wQ_then ?_
                    refine wC_seq ?_
                    refine wC_cond_f rfl ?_
                    refine wC_exit ?_
                    refine wQ_then_exit ?_
                    refine wQ_then_exit ?_
                    refine wQ_blk_same ?_
                    refine wQ_then ?_
                    refine wC_seq ?_
                    refine wC_region ?_
                    refine wL_makeSet (k := 3) S12 (wn rfl) rfl rfl rfl ?_
                    intro b26 w27 S28
                    have hW29 : winsOk W := fun j hj => hi14 j (by omega)
                    refine wL_val (v := .map (some b26)) (wn rfl) rfl rfl (y_assign rfl rfl) ?_
                    refine wL_nil ?_
                    refine wQ_sub (l' := [(1, .pointer (some ⟨b1, 0, none⟩)), (2, .int .i64 0), (51, .agg ((W.cells).toArray)), (52, .int .i64 ((k : Nat) : Int)), (53, .bool false), (6, .map (some b26))]) ⟨rfl, rfl, rfl, rfl, rfl, rfl, trivial⟩ ?_
                    refine wQ_then ?_
                    refine wC_seq ?_
                    refine wC_region ?_
                    refine wL_val (v := .int .i64 (-1)) (wn rfl) rfl rfl (y_assign rfl rfl) ?_
                    refine wL_nil ?_
                    refine wQ_then ?_
                    refine wC_seq ?_
                    refine wC_seq ?_
                    refine wC_region ?_
                    refine wL_val (v := .pointer (some ⟨b1, 3, none⟩)) (wn rfl) rfl rfl (y_fieldAddr rfl rfl (fa29_3 _ _ _)) ?_
                    refine wL_val (v := .slice A1 rs.length c1) (wn rfl) rfl rfl (y_load rfl rfl (r_load Try.underlying22 rfl (St.cl 1 S28 rfl qRow_g3))) ?_
                    refine wL_val (v := .int .i64 ((rs.length : Nat) : Int)) (wn rfl) rfl rfl (y_builtin (vs := [.slice A1 rs.length c1]) rfl ⟨rfl, trivial⟩ fun _ => r_len rfl Try.underlying22) ?_
                    refine wL_val (v := .int .i64 0) (wn rfl) rfl rfl (y_move rfl rfl) ?_
                    refine wL_nil ?_
                    refine wQ_sub (l' := [(1, .pointer (some ⟨b1, 0, none⟩)), (2, .int .i64 0), (51, .agg ((W.cells).toArray)), (52, .int .i64 ((k : Nat) : Int)), (53, .bool false), (6, .map (some b26)), (7, .int .i64 (-1)), (63, .slice A1 rs.length c1), (64, .int .i64 ((rs.length : Nat) : Int)), (65, .int .i64 0)]) ⟨rfl, rfl, rfl, rfl, rfl, rfl, rfl, rfl, rfl, rfl, trivial⟩ ?_
                    refine wQ_then ?_
                    refine wC_block ?_
                    refine wC_loop (X := Nat × Int) (fun x => [(1, .pointer (some ⟨b1, 0, none⟩)), (2, .int .i64 0), (6, .map (some b26)), (7, .int .i64 x.2), (63, .slice A1 rs.length c1), (64, .int .i64 ((rs.length : Nat) : Int)), (65, .int .i64 ((x.1 : Nat) : Int))]) (fun x wr => (x.1 ≤ rs.length) ∧ (rdyFrom nx (-1) rs = rdyFrom nx x.2 (rs.drop x.1)) ∧ St w.heap.size w wr [.loc b26 (ISet Try.prog 3 ((rs.take x.1).map (·.no))), .blk b1 (qRow ep nx gv (.slice A1 rs.length c1) (.slice A2 ls.length c2) W) 29, .rd 2 A1 rs.length ((rs).flatMap Msg.cells), .rd 4 A2 ls.length ((ls).flatMap Ls.cells)]) (fun x => rs.length - x.1) (0, -1) ?_ ?_ ?_
                    · exact ⟨Nat.zero_le _, rfl, S28⟩
                    · exact ⟨rfl, rfl, rfl, rfl, rfl, rfl, rfl, trivial⟩
                    · rintro ⟨k, p⟩ w30 ⟨hi32, hi33, S31⟩
                      try dsimp only at hi32 hi33 S31
                      refine wC_sub (l' := [(1, .pointer (some ⟨b1, 0, none⟩)), (2, .int .i64 0), (6, .map (some b26)), (7, .int .i64 p), (63, .slice A1 rs.length c1), (64, .int .i64 ((rs.length : Nat) : Int)), (65, .int .i64 ((k : Nat) : Int))]) ⟨rfl, rfl, rfl, rfl, rfl, rfl, rfl, trivial⟩ ?_
                      refine wC_seq ?_
                      refine wC_region ?_
                      by_cases h34 : ((k : Nat) : Int) < ((rs.length : Nat) : Int)
                      · refine wL_val (v := .bool true) (wn rfl) rfl rfl (y_binop rfl rfl rfl (r_lss_t h34)) ?_
                        refine wL_nil ?_
                        refine wQ_then ?_
                        refine wC_seq ?_
                        refine wC_cond_t rfl ?_
                        refine wC_skip ?_
                        refine wQ_then ?_
                        refine wC_seq ?_
                        refine wC_block ?_
                        refine wC_seq ?_
                        refine wC_region ?_
                        obtain ⟨b35, o36, rfl⟩ := Rd.addr (St.rd 2 S31 rfl) (by omega)
                        obtain ⟨x37, hx38⟩ : ∃ x, (rs)[k]? = some x := ⟨_, List.getElem?_eq_getElem (by have := (St.rd 2 S31 rfl).1; rw [fm_len (sz := 2) (fun _ => rfl)] at this; omega)⟩
                        refine wL_val (v := .pointer (some ⟨b35, o36 + k * 2, none⟩)) (wn rfl) rfl rfl (y_indexAddr rfl rfl rfl (r_indexAddr k Try.underlying22 inf137 (by omega) (by omega))) ?_
                        refine wL_val (v := .agg #[.int .i64 x37.no, .int .i64 x37.body]) (wn rfl) rfl rfl (y_load rfl rfl (r_load_agg (cs := Msg.cells x37) Try.underlying137 rfl inf137 rfl (Rd.rg2 (St.rd 2 S31 rfl) (fun _ _ h => fm_get (enc := Msg.cells) (sz := 2) (fun _ => rfl) hx38 h)))) ?_
                        refine wL_new (V := fun b => .pointer (some ⟨b, 0, none⟩)) (row := #[.int .i64 0, .int .i64 0]) S31 (wn rfl) rfl rfl (d_alloc rfl (Try.zeroValue137 _) rfl) ?_
                        intro b39 w40 S41
                        refine wL_st (cs := #[.int .i64 x37.no, .int .i64 x37.body]) (row' := #[.int .i64 x37.no, .int .i64 x37.body]) (fs' := [.blk b39 #[.int .i64 x37.no, .int .i64 x37.body] 137, .loc b26 (ISet Try.prog 3 ((rs.take k).map (·.no))), .blk b1 (qRow ep nx gv (.slice (some ⟨b35, o36, none⟩) rs.length c1) (.slice A2 ls.length c2) W) 29, .rd 2 (some ⟨b35, o36, none⟩) rs.length ((rs).flatMap Msg.cells), .rd 4 A2 ls.length ((ls).flatMap Ls.cells) ]) 0 S41 (wn rfl) rfl rfl rfl rfl rfl rfl inf137 rfl (oneAll rfl) (Nat.le_of_ble_eq_true rfl) rfl rfl ?_
                        intro w42 S43
                        refine wL_nil ?_
                        refine wQ_sub (l' := [(1, .pointer (some ⟨b1, 0, none⟩)), (2, .int .i64 0), (6, .map (some b26)), (7, .int .i64 p), (63, .slice (some ⟨b35, o36, none⟩) rs.length c1), (64, .int .i64 ((rs.length : Nat) : Int)), (65, .int .i64 ((k : Nat) : Int)), (66, .bool true), (9, .pointer (some ⟨b39, 0, none⟩))]) ⟨rfl, rfl, rfl, rfl, rfl, rfl, rfl, rfl, rfl, trivial⟩ ?_
                        refine wQ_then ?_
                        refine wC_seq ?_
                        refine wC_seq ?_
                        refine wC_region ?_
                        refine wL_val (v := .agg (qRow ep nx gv (.slice (some ⟨b35, o36, none⟩) rs.length c1) (.slice A2 ls.length c2) W)) (wn rfl) rfl rfl (y_load rfl rfl (r_load_row 2 S43 rfl Try.underlying29 rfl inf29 rfl)) ?_
                        refine wL_val (v := .agg #[.int .i64 x37.no, .int .i64 x37.body]) (wn rfl) rfl rfl (y_load rfl rfl (r_load_row 0 S43 rfl Try.underlying137 rfl inf137 rfl)) ?_
                        refine wL_call (vs := [.agg (qRow ep nx gv (.slice (some ⟨b35, o36, none⟩) rs.length c1) (.slice A2 ls.length c2) W), .agg #[.int .i64 x37.no, .int .i64 x37.body]]) (wn rfl) rfl rfl (e_call (vs := [.agg (qRow ep nx gv (.slice (some ⟨b35, o36, none⟩) rs.length c1) (.slice A2 ls.length c2) W), .agg #[.int .i64 x37.no, .int .i64 x37.body]]) rfl en105 ⟨rfl, rfl, trivial⟩) (message_calls ep nx gv _ _ W x37 _) ?_
                        rintro _ w44 ⟨rfl, hb46⟩
                        refine ⟨_, rfl, ?_⟩
                        have S45 := S43.on hb46
                        clear hb46
                        cases hb47 : (msgOk nx x37)
                        · refine wL_val (v := .bool true) (wn rfl) rfl rfl (y_unop rfl rfl r_not) ?_
                          refine wL_val (v := .bool true) (wn rfl) rfl rfl (y_move rfl rfl) ?_
                          refine wL_skip (wg rfl rfl rfl rfl) rfl rfl ?_
                          refine wL_skip (wg rfl rfl rfl rfl) rfl rfl ?_
                          refine wL_skip (wg rfl rfl rfl rfl) rfl rfl ?_
                          refine wL_skip (wg rfl rfl rfl rfl) rfl rfl ?_
                          refine wL_val (v := .bool true) (wn rfl) rfl rfl (y_pick_t rfl rfl rfl) ?_
                          refine wL_nil ?_
                          refine wQ_sub (l' := [(1, .pointer (some ⟨b1, 0, none⟩)), (2, .int .i64 0), (6, .map (some b26)), (7, .int .i64 p), (63, .slice (some ⟨b35, o36, none⟩) rs.length c1), (64, .int .i64 ((rs.length : Nat) : Int)), (65, .int .i64 ((k : Nat) : Int)), (66, .bool true), (9, .pointer (some ⟨b39, 0, none⟩)), (78, .bool true)]) ⟨rfl, rfl, rfl, rfl, rfl, rfl, rfl, rfl, rfl, rfl, trivial⟩ ?_
                          refine wQ_then ?_
                          refine wC_cond_t rfl ?_
                          refine wC_seq ?_
                          refine wC_region ?_
                          refine wL_val (v := .int .i64 6) (wn rfl) rfl rfl (y_assign rfl rfl) ?_
                          refine wL_nil ?_
                          refine wQ_then ?_
                          refine wC_ret ?_
                          refine wQ_then_ret ?_
                          refine wQ_blk_ret ?_
                          refine wQ_then_ret ?_
                          refine wQ_then_ret ?_
                          refine wQ_blk_ret ?_
                          refine wQ_then_ret ?_
                          refine wQ_post (rs := [.tmp 2]) (vs := [.int .i64 6]) rfl ⟨rfl, trivial⟩ ?_
                          exact ⟨ret_int_ (qf_bad fun h => by rw [hi33, rdy_step hx38, hb47] at h; exact absurd h.2.1 (by simp)).symm, S45.low⟩
                        · have hmo48 := msgOk_of hb47
                          refine wL_val (v := .bool false) (wn rfl) rfl rfl (y_unop rfl rfl r_not) ?_
                          refine wL_val (v := .bool false) (wn rfl) rfl rfl (y_move rfl rfl) ?_
                          refine wL_val (v := .pointer (some ⟨b39, 0, none⟩)) (wg rfl rfl rfl rfl) rfl rfl (y_fieldAddr rfl rfl (fa137_0 _ _ _)) ?_
                          refine wL_val (v := .int .i64 x37.no) (wg rfl rfl rfl rfl) rfl rfl (y_load rfl rfl (r_load Try.underlying3 rfl (St.cl 0 S45 rfl rfl))) ?_
                          refine wL_val (v := .int .i64 p) (wg rfl rfl rfl rfl) rfl rfl (y_move rfl rfl) ?_
                          by_cases h49 : p < x37.no
                          · refine wL_val (v := .bool false) (wg rfl rfl rfl rfl) rfl rfl (y_binop rfl rfl rfl (r_leq_f (by omega))) ?_
                            refine wL_val (v := .bool false) (wn rfl) rfl rfl (y_pick_f rfl rfl rfl) ?_
                            refine wL_nil ?_
                            refine wQ_sub (l' := [(1, .pointer (some ⟨b1, 0, none⟩)), (2, .int .i64 0), (6, .map (some b26)), (7, .int .i64 p), (63, .slice (some ⟨b35, o36, none⟩) rs.length c1), (64, .int .i64 ((rs.length : Nat) : Int)), (65, .int .i64 ((k : Nat) : Int)), (66, .bool true), (9, .pointer (some ⟨b39, 0, none⟩)), (78, .bool false)]) ⟨rfl, rfl, rfl, rfl, rfl, rfl, rfl, rfl, rfl, rfl, trivial⟩ ?_
                            refine wQ_then ?_
                            refine wC_cond_f rfl ?_
                            refine wC_skip ?_
                            refine wQ_then ?_
                            refine wC_seq ?_
                            refine wC_region ?_
                            refine wL_val (v := .pointer (some ⟨b39, 0, none⟩)) (wn rfl) rfl rfl (y_fieldAddr rfl rfl (fa137_0 _ _ _)) ?_
                            refine wL_val (v := .int .i64 x37.no) (wn rfl) rfl rfl (y_load rfl rfl (r_load Try.underlying3 rfl (St.cl 0 S45 rfl rfl))) ?_
                            refine wL_val (v := .int .i64 x37.no) (wn rfl) rfl rfl (y_assign rfl rfl) ?_
                            refine wL_nil ?_
                            refine wQ_sub (l' := [(1, .pointer (some ⟨b1, 0, none⟩)), (2, .int .i64 0), (6, .map (some b26)), (7, .int .i64 x37.no), (63, .slice (some ⟨b35, o36, none⟩) rs.length c1), (64, .int .i64 ((rs.length : Nat) : Int)), (65, .int .i64 ((k : Nat) : Int)), (66, .bool true), (9, .pointer (some ⟨b39, 0, none⟩)), (78, .bool false)]) ⟨rfl, rfl, rfl, rfl, rfl, rfl, rfl, rfl, rfl, rfl, trivial⟩ ?_
                            refine wQ_then ?_
                            refine wC_region ?_
                            refine wL_val (v := .map (some b26)) (wn rfl) rfl rfl (y_move rfl rfl) ?_
                            refine wL_val (v := .pointer (some ⟨b39, 0, none⟩)) (wn rfl) rfl rfl (y_fieldAddr rfl rfl (fa137_0 _ _ _)) ?_
                            refine wL_val (v := .int .i64 x37.no) (wn rfl) rfl rfl (y_load rfl rfl (r_load Try.underlying3 rfl (St.cl 0 S45 rfl rfl))) ?_
                            refine wL_val (v := .agg #[]) (wn rfl) rfl rfl (y_build (vs := []) rfl trivial (by kernel_rfl)) ?_
                            refine wL_putSet (z := x37.no) 1 S45 (wn rfl) rfl rfl rfl rfl rfl rfl Try.underlying3 Try.underlying135 (by omega) (by simp [maxLen]; omega) ?_
                            intro w50 S51
                            rw [take_map (f := fun m : Msg => m.no) hx38] at S51
                            change St _ _ _ [.blk b39 #[.int .i64 x37.no, .int .i64 x37.body] 137, .loc b26 (ISet Try.prog 3 ((rs.take (k + 1)).map (·.no))), .blk b1 (qRow ep nx gv (.slice (some ⟨b35, o36, none⟩) rs.length c1) (.slice A2 ls.length c2) W) 29, .rd 2 (some ⟨b35, o36, none⟩) rs.length ((rs).flatMap Msg.cells), .rd 4 A2 ls.length ((ls).flatMap Ls.cells)] at S51
                            refine wL_nil ?_
                            refine wQ_sub (l' := [(1, .pointer (some ⟨b1, 0, none⟩)), (2, .int .i64 0), (6, .map (some b26)), (7, .int .i64 x37.no), (63, .slice (some ⟨b35, o36, none⟩) rs.length c1), (64, .int .i64 ((rs.length : Nat) : Int)), (65, .int .i64 ((k : Nat) : Int)), (66, .bool true), (9, .pointer (some ⟨b39, 0, none⟩)), (78, .bool false)]) ⟨rfl, rfl, rfl, rfl, rfl, rfl, rfl, rfl, rfl, rfl, trivial⟩ ?_
                            refine wQ_blk_n ?_
                            refine wQ_then ?_
                            refine wC_region ?_
                            refine wL_val (v := .int .i64 ((k + 1 : Nat) : Int)) (wn rfl) rfl rfl (y_binop rfl rfl rfl (r_add (by omega) (by omega))) ?_
                            refine wL_val (v := .int .i64 ((k + 1 : Nat) : Int)) (wn rfl) rfl rfl (y_move rfl rfl) ?_
                            refine wL_nil ?_
                            refine wQ_sub (l' := [(1, .pointer (some ⟨b1, 0, none⟩)), (2, .int .i64 0), (6, .map (some b26)), (7, .int .i64 x37.no), (63, .slice (some ⟨b35, o36, none⟩) rs.length c1), (64, .int .i64 ((rs.length : Nat) : Int)), (65, .int .i64 ((k + 1 : Nat) : Int)), (66, .bool true), (9, .pointer (some ⟨b39, 0, none⟩)), (78, .bool false)]) ⟨rfl, rfl, rfl, rfl, rfl, rfl, rfl, rfl, rfl, rfl, trivial⟩ ?_
                            have S53 : St w.heap.size w w50 [.loc b26 (ISet Try.prog 3 ((rs.take (k + 1)).map (·.no))), .blk b1 (qRow ep nx gv (.slice (some ⟨b35, o36, none⟩) rs.length c1) (.slice A2 ls.length c2) W) 29, .rd 2 (some ⟨b35, o36, none⟩) rs.length ((rs).flatMap Msg.cells), .rd 4 A2 ls.length ((ls).flatMap Ls.cells)] := (St.del 0 S51)
                            refine wQ_round (k + 1, x37.no) ?_ ⟨rfl, rfl, rfl, rfl, rfl, rfl, rfl, trivial⟩ (by first | omega | (dsimp only; omega))
                            exact ⟨(by dsimp only; omega), (by dsimp only; rw [hi33, rdy_step hx38, hb47, decide_eq_true h49]; rfl), S53⟩
                          · refine wL_val (v := .bool true) (wg rfl rfl rfl rfl) rfl rfl (y_binop rfl rfl rfl (r_leq_t (by omega))) ?_
                            refine wL_val (v := .bool true) (wn rfl) rfl rfl (y_pick_f rfl rfl rfl) ?_
                            refine wL_nil ?_
                            refine wQ_sub (l' := [(1, .pointer (some ⟨b1, 0, none⟩)), (2, .int .i64 0), (6, .map (some b26)), (7, .int .i64 p), (63, .slice (some ⟨b35, o36, none⟩) rs.length c1), (64, .int .i64 ((rs.length : Nat) : Int)), (65, .int .i64 ((k : Nat) : Int)), (66, .bool true), (9, .pointer (some ⟨b39, 0, none⟩)), (78, .bool true)]) ⟨rfl, rfl, rfl, rfl, rfl, rfl, rfl, rfl, rfl, rfl, trivial⟩ ?_
                            refine wQ_then ?_
                            refine wC_cond_t rfl ?_
                            refine wC_seq ?_
                            refine wC_region ?_
                            refine wL_val (v := .int .i64 6) (wn rfl) rfl rfl (y_assign rfl rfl) ?_
                            refine wL_nil ?_
                            refine wQ_then ?_
                            refine wC_ret ?_
                            refine wQ_then_ret ?_
                            refine wQ_blk_ret ?_
                            refine wQ_then_ret ?_
                            refine wQ_then_ret ?_
                            refine wQ_blk_ret ?_
                            refine wQ_then_ret ?_
                            refine wQ_post (rs := [.tmp 2]) (vs := [.int .i64 6]) rfl ⟨rfl, trivial⟩ ?_
                            exact ⟨ret_int_ (qf_bad fun h => by rw [hi33, rdy_step hx38, decide_eq_false h49] at h; exact absurd h.2.1 (by simp)).symm, S45.low⟩
                      · refine wL_val (v := .bool false) (wn rfl) rfl rfl (y_binop rfl rfl rfl (r_lss_f h34)) ?_
                        refine wL_nil ?_
                        refine wQ_then ?_
                        refine wC_seq ?_
                        refine wC_cond_f rfl ?_
                        refine wC_exit ?_
                        refine wQ_then_exit ?_
                        refine wQ_then_exit ?_
                        refine wQ_blk_same ?_
                        refine wQ_then ?_
                        refine wC_seq ?_
                        refine wC_region ?_
                        refine wL_val (v := .int .i64 (-1)) (wn rfl) rfl rfl (y_assign rfl rfl) ?_
                        refine wL_nil ?_
                        refine wQ_then ?_
                        refine wC_seq ?_
                        refine wC_seq ?_
                        refine wC_region ?_
                        refine wL_val (v := .pointer (some ⟨b1, 4, none⟩)) (wn rfl) rfl rfl (y_fieldAddr rfl rfl (fa29_4 _ _ _)) ?_
                        refine wL_val (v := .slice A2 ls.length c2) (wn rfl) rfl rfl (y_load rfl rfl (r_load Try.underlying23 rfl (St.cl 1 S31 rfl qRow_g4))) ?_
                        refine wL_val (v := .int .i64 ((ls.length : Nat) : Int)) (wn rfl) rfl rfl (y_builtin (vs := [.slice A2 ls.length c2]) rfl ⟨rfl, trivial⟩ fun _ => r_len rfl Try.underlying23) ?_
                        refine wL_val (v := .int .i64 0) (wn rfl) rfl rfl (y_move rfl rfl) ?_
                        refine wL_nil ?_
                        refine wQ_sub (l' := [(1, .pointer (some ⟨b1, 0, none⟩)), (2, .int .i64 0), (6, .map (some b26)), (7, .int .i64 (-1)), (63, .slice A1 rs.length c1), (64, .int .i64 ((rs.length : Nat) : Int)), (65, .int .i64 ((k : Nat) : Int)), (66, .bool false), (87, .slice A2 ls.length c2), (88, .int .i64 ((ls.length : Nat) : Int)), (89, .int .i64 0)]) ⟨rfl, rfl, rfl, rfl, rfl, rfl, rfl, rfl, rfl, rfl, rfl, trivial⟩ ?_
                        refine wQ_then ?_
                        refine wC_block ?_
                        have hR54 : rdyFrom nx (-1) rs = true := by rw [hi33, List.drop_of_length_le (by omega)]; rfl
                        have S55 := S31
                        rw [List.take_of_length_le (show rs.length ≤ k by omega)] at S55
                        rw [← List.append_nil (rs.map (·.no))] at S55
                        change St _ _ _ [.loc b26 (ISet Try.prog 3 (rs.map (·.no) ++ (ls.take 0).map (·.msg.no))), .blk b1 (qRow ep nx gv (.slice A1 rs.length c1) (.slice A2 ls.length c2) W) 29, .rd 2 A1 rs.length ((rs).flatMap Msg.cells), .rd 4 A2 ls.length ((ls).flatMap Ls.cells)] at S55
                        refine wC_loop (X := Nat × Int) (fun x => [(1, .pointer (some ⟨b1, 0, none⟩)), (2, .int .i64 0), (6, .map (some b26)), (7, .int .i64 x.2), (87, .slice A2 ls.length c2), (88, .int .i64 ((ls.length : Nat) : Int)), (89, .int .i64 ((x.1 : Nat) : Int))]) (fun x wr => (x.1 ≤ ls.length) ∧ (lsFrom ep nx gv (-1) ls = lsFrom ep nx gv x.2 (ls.drop x.1)) ∧ St w.heap.size w wr [.loc b26 (ISet Try.prog 3 (rs.map (·.no) ++ (ls.take x.1).map (·.msg.no))), .blk b1 (qRow ep nx gv (.slice A1 rs.length c1) (.slice A2 ls.length c2) W) 29, .rd 2 A1 rs.length ((rs).flatMap Msg.cells), .rd 4 A2 ls.length ((ls).flatMap Ls.cells)]) (fun x => ls.length - x.1) (0, -1) ?_ ?_ ?_
                        · exact ⟨Nat.zero_le _, rfl, S55⟩
                        · exact ⟨rfl, rfl, rfl, rfl, rfl, rfl, rfl, trivial⟩
                        · rintro ⟨k, p⟩ w56 ⟨hi58, hi59, S57⟩
                          try dsimp only at hi58 hi59 S57
                          refine wC_sub (l' := [(1, .pointer (some ⟨b1, 0, none⟩)), (2, .int .i64 0), (6, .map (some b26)), (7, .int .i64 p), (87, .slice A2 ls.length c2), (88, .int .i64 ((ls.length : Nat) : Int)), (89, .int .i64 ((k : Nat) : Int))]) ⟨rfl, rfl, rfl, rfl, rfl, rfl, rfl, trivial⟩ ?_
                          refine wC_seq ?_
                          refine wC_region ?_
                          by_cases h60 : ((k : Nat) : Int) < ((ls.length : Nat) : Int)
                          · refine wL_val (v := .bool true) (wn rfl) rfl rfl (y_binop rfl rfl rfl (r_lss_t h60)) ?_
                            refine wL_nil ?_
                            refine wQ_then ?_
                            refine wC_seq ?_
                            refine wC_cond_t rfl ?_
                            refine wC_skip ?_
                            refine wQ_then ?_
                            refine wC_seq ?_
                            refine wC_block ?_
                            refine wC_seq ?_
                            refine wC_region ?_
                            obtain ⟨b61, o62, rfl⟩ := Rd.addr (St.rd 3 S57 rfl) (by omega)
                            obtain ⟨x63, hx64⟩ : ∃ x, (ls)[k]? = some x := ⟨_, List.getElem?_eq_getElem (by have := (St.rd 3 S57 rfl).1; rw [fm_len (sz := 4) (fun _ => rfl)] at this; omega)⟩
                            refine wL_val (v := .pointer (some ⟨b61, o62 + k * 4, none⟩)) (wn rfl) rfl rfl (y_indexAddr rfl rfl rfl (r_indexAddr k Try.underlying23 inf141 (by omega) (by omega))) ?_
                            refine wL_val (v := .agg #[.int .i64 x63.hep, .int .i64 x63.hno, .int .i64 x63.msg.no, .int .i64 x63.msg.body]) (wn rfl) rfl rfl (y_load rfl rfl (r_load_agg (cs := Ls.cells x63) Try.underlying141 rfl inf141 rfl (Rd.rg2 (St.rd 3 S57 rfl) (fun _ _ h => fm_get (enc := Ls.cells) (sz := 4) (fun _ => rfl) hx64 h)))) ?_
                            refine wL_new (V := fun b => .pointer (some ⟨b, 0, none⟩)) (row := #[.int .i64 0, .int .i64 0, .int .i64 0, .int .i64 0]) S57 (wn rfl) rfl rfl (d_alloc rfl (Try.zeroValue141 _) rfl) ?_
                            intro b65 w66 S67
                            refine wL_st (cs := #[.int .i64 x63.hep, .int .i64 x63.hno, .int .i64 x63.msg.no, .int .i64 x63.msg.body]) (row' := #[.int .i64 x63.hep, .int .i64 x63.hno, .int .i64 x63.msg.no, .int .i64 x63.msg.body]) (fs' := [.blk b65 #[.int .i64 x63.hep, .int .i64 x63.hno, .int .i64 x63.msg.no, .int .i64 x63.msg.body] 141, .loc b26 (ISet Try.prog 3 (rs.map (·.no) ++ (ls.take k).map (·.msg.no))), .blk b1 (qRow ep nx gv (.slice A1 rs.length c1) (.slice (some ⟨b61, o62, none⟩) ls.length c2) W) 29, .rd 2 A1 rs.length ((rs).flatMap Msg.cells), .rd 4 (some ⟨b61, o62, none⟩) ls.length ((ls).flatMap Ls.cells) ]) 0 S67 (wn rfl) rfl rfl rfl rfl rfl rfl inf141 rfl (oneAll rfl) (Nat.le_of_ble_eq_true rfl) rfl rfl ?_
                            intro w68 S69
                            refine wL_nil ?_
                            refine wQ_sub (l' := [(1, .pointer (some ⟨b1, 0, none⟩)), (2, .int .i64 0), (6, .map (some b26)), (7, .int .i64 p), (87, .slice (some ⟨b61, o62, none⟩) ls.length c2), (88, .int .i64 ((ls.length : Nat) : Int)), (89, .int .i64 ((k : Nat) : Int)), (90, .bool true), (11, .pointer (some ⟨b65, 0, none⟩))]) ⟨rfl, rfl, rfl, rfl, rfl, rfl, rfl, rfl, rfl, trivial⟩ ?_
                            refine wQ_then ?_
                            refine wC_seq ?_
                            refine wC_seq ?_
                            refine wC_region ?_
                            refine wL_val (v := .agg (qRow ep nx gv (.slice A1 rs.length c1) (.slice (some ⟨b61, o62, none⟩) ls.length c2) W)) (wn rfl) rfl rfl (y_load rfl rfl (r_load_row 2 S69 rfl Try.underlying29 rfl inf29 rfl)) ?_
                            refine wL_val (v := .pointer (some ⟨b65, 2, none⟩)) (wn rfl) rfl rfl (y_fieldAddr rfl rfl (fa141_1 _ _ _)) ?_
                            refine wL_val (v := .agg #[.int .i64 x63.msg.no, .int .i64 x63.msg.body]) (wn rfl) rfl rfl (y_load rfl rfl (r_load_agg (cs := [.int .i64 x63.msg.no, .int .i64 x63.msg.body]) Try.underlying137 rfl inf137 rfl (St.rg 0 S69 rfl (sub_row (x := 2) (m := 2) rfl)))) ?_
                            refine wL_call (vs := [.agg (qRow ep nx gv (.slice A1 rs.length c1) (.slice (some ⟨b61, o62, none⟩) ls.length c2) W), .agg #[.int .i64 x63.msg.no, .int .i64 x63.msg.body]]) (wn rfl) rfl rfl (e_call (vs := [.agg (qRow ep nx gv (.slice A1 rs.length c1) (.slice (some ⟨b61, o62, none⟩) ls.length c2) W), .agg #[.int .i64 x63.msg.no, .int .i64 x63.msg.body]]) rfl en105 ⟨rfl, rfl, trivial⟩) (message_calls ep nx gv _ _ W x63.msg _) ?_
                            rintro _ w70 ⟨rfl, hb72⟩
                            refine ⟨_, rfl, ?_⟩
                            have S71 := S69.on hb72
                            clear hb72
                            cases hb73 : (msgOk nx x63.msg)
                            · refine wL_val (v := .bool true) (wn rfl) rfl rfl (y_unop rfl rfl r_not) ?_
                              refine wL_val (v := .bool true) (wn rfl) rfl rfl (y_move rfl rfl) ?_
                              refine wL_skip (wg rfl rfl rfl rfl) rfl rfl ?_
                              refine wL_skip (wg rfl rfl rfl rfl) rfl rfl ?_
                              refine wL_skip (wg rfl rfl rfl rfl) rfl rfl ?_
                              refine wL_skip (wg rfl rfl rfl rfl) rfl rfl ?_
                              refine wL_skip (wg rfl rfl rfl rfl) rfl rfl ?_
                              refine wL_skip (wg rfl rfl rfl rfl) rfl rfl ?_
                              refine wL_val (v := .bool true) (wn rfl) rfl rfl (y_pick_t rfl rfl rfl) ?_
                              refine wL_val (v := .bool true) (wn rfl) rfl rfl (y_move rfl rfl) ?_
                              refine wL_skip (wg rfl rfl rfl rfl) rfl rfl ?_
                              refine wL_skip (wg rfl rfl rfl rfl) rfl rfl ?_
                              refine wL_skip (wg rfl rfl rfl rfl) rfl rfl ?_
                              refine wL_skip (wg rfl rfl rfl rfl) rfl rfl ?_
                              refine wL_skip (wg rfl rfl rfl rfl) rfl rfl ?_
                              refine wL_val (v := .bool true) (wn rfl) rfl rfl (y_pick_t rfl rfl rfl) ?_
                              refine wL_val (v := .bool true) (wn rfl) rfl rfl (y_move rfl rfl) ?_
                              refine wL_skip (wg rfl rfl rfl rfl) rfl rfl ?_
                              refine wL_skip (wg rfl rfl rfl rfl) rfl rfl ?_
                              refine wL_skip (wg rfl rfl rfl rfl) rfl rfl ?_
                              refine wL_skip (wg rfl rfl rfl rfl) rfl rfl ?_
                              refine wL_skip (wg rfl rfl rfl rfl) rfl rfl ?_
                              refine wL_skip (wg rfl rfl rfl rfl) rfl rfl ?_
                              refine wL_val (v := .bool true) (wn rfl) rfl rfl (y_pick_t rfl rfl rfl) ?_
                              refine wL_nil ?_
                              refine wQ_sub (l' := [(1, .pointer (some ⟨b1, 0, none⟩)), (2, .int .i64 0), (6, .map (some b26)), (7, .int .i64 p), (87, .slice (some ⟨b61, o62, none⟩) ls.length c2), (88, .int .i64 ((ls.length : Nat) : Int)), (89, .int .i64 ((k : Nat) : Int)), (90, .bool true), (11, .pointer (some ⟨b65, 0, none⟩)), (120, .bool true)]) ⟨rfl, rfl, rfl, rfl, rfl, rfl, rfl, rfl, rfl, rfl, trivial⟩ ?_
                              refine wQ_then ?_
                              refine wC_cond_t rfl ?_
                              refine wC_seq ?_
                              refine wC_region ?_
                              refine wL_val (v := .int .i64 6) (wn rfl) rfl rfl (y_assign rfl rfl) ?_
                              refine wL_nil ?_
                              refine wQ_then ?_
                              refine wC_ret ?_
                              refine wQ_then_ret ?_
                              refine wQ_blk_ret ?_
                              refine wQ_then_ret ?_
                              refine wQ_then_ret ?_
                              refine wQ_blk_ret ?_
                              refine wQ_then_ret ?_
                              refine wQ_post (rs := [.tmp 2]) (vs := [.int .i64 6]) rfl ⟨rfl, trivial⟩ ?_
                              exact ⟨ret_int_ (qf_bad fun h => by rw [hi59, ls_step hx64, lsOk, hb73] at h; exact absurd h.2.2.1 (by simp)).symm, S71.low⟩
                            · have hmo74 := msgOk_of hb73
                              refine wL_val (v := .bool false) (wn rfl) rfl rfl (y_unop rfl rfl r_not) ?_
                              refine wL_val (v := .bool false) (wn rfl) rfl rfl (y_move rfl rfl) ?_
                              refine wL_val (v := .pointer (some ⟨b65, 0, none⟩)) (wg rfl rfl rfl rfl) rfl rfl (y_fieldAddr rfl rfl (fa141_0 _ _ _)) ?_
                              refine wL_val (v := .pointer (some ⟨b65, 0, none⟩)) (wg rfl rfl rfl rfl) rfl rfl (y_fieldAddr rfl rfl (fa35_0 _ _ _)) ?_
                              refine wL_val (v := .int .i64 x63.hep) (wg rfl rfl rfl rfl) rfl rfl (y_load rfl rfl (r_load Try.underlying3 rfl (St.cl 0 S71 rfl rfl))) ?_
                              refine wL_val (v := .pointer (some ⟨b1, 0, none⟩)) (wg rfl rfl rfl rfl) rfl rfl (y_fieldAddr rfl rfl (fa29_0 _ _ _)) ?_
                              refine wL_val (v := .int .i64 ep) (wg rfl rfl rfl rfl) rfl rfl (y_load rfl rfl (r_load Try.underlying3 rfl (St.cl 2 S71 rfl qRow_g0))) ?_
                              by_cases h75 : x63.hep = ep
                              · refine wL_val (v := .bool false) (wg rfl rfl rfl rfl) rfl rfl (y_binop rfl rfl rfl (r_neq_f (by omega))) ?_
                                refine wL_val (v := .bool false) (wn rfl) rfl rfl (y_pick_f rfl rfl rfl) ?_
                                refine wL_val (v := .bool false) (wn rfl) rfl rfl (y_move rfl rfl) ?_
                                refine wL_val (v := .pointer (some ⟨b65, 0, none⟩)) (wg rfl rfl rfl rfl) rfl rfl (y_fieldAddr rfl rfl (fa141_0 _ _ _)) ?_
                                refine wL_val (v := .pointer (some ⟨b65, 1, none⟩)) (wg rfl rfl rfl rfl) rfl rfl (y_fieldAddr rfl rfl (fa35_1 _ _ _)) ?_
                                refine wL_val (v := .int .i64 x63.hno) (wg rfl rfl rfl rfl) rfl rfl (y_load rfl rfl (r_load Try.underlying3 rfl (St.cl 0 S71 rfl rfl))) ?_
                                refine wL_val (v := .int .i64 p) (wg rfl rfl rfl rfl) rfl rfl (y_move rfl rfl) ?_
                                by_cases h76 : p < x63.hno
                                · refine wL_val (v := .bool false) (wg rfl rfl rfl rfl) rfl rfl (y_binop rfl rfl rfl (r_leq_f (by omega))) ?_
                                  refine wL_val (v := .bool false) (wn rfl) rfl rfl (y_pick_f rfl rfl rfl) ?_
                                  refine wL_val (v := .bool false) (wn rfl) rfl rfl (y_move rfl rfl) ?_
                                  refine wL_val (v := .pointer (some ⟨b65, 0, none⟩)) (wg rfl rfl rfl rfl) rfl rfl (y_fieldAddr rfl rfl (fa141_0 _ _ _)) ?_
                                  refine wL_val (v := .pointer (some ⟨b65, 1, none⟩)) (wg rfl rfl rfl rfl) rfl rfl (y_fieldAddr rfl rfl (fa35_1 _ _ _)) ?_
                                  refine wL_val (v := .int .i64 x63.hno) (wg rfl rfl rfl rfl) rfl rfl (y_load rfl rfl (r_load Try.underlying3 rfl (St.cl 0 S71 rfl rfl))) ?_
                                  refine wL_val (v := .pointer (some ⟨b1, 2, none⟩)) (wg rfl rfl rfl rfl) rfl rfl (y_fieldAddr rfl rfl (fa29_2 _ _ _)) ?_
                                  refine wL_val (v := .int .i64 gv) (wg rfl rfl rfl rfl) rfl rfl (y_load rfl rfl (r_load Try.underlying3 rfl (St.cl 2 S71 rfl qRow_g2))) ?_
                                  by_cases h77 : x63.hno < gv
                                  · refine wL_val (v := .bool false) (wg rfl rfl rfl rfl) rfl rfl (y_binop rfl rfl rfl (r_geq_f (by omega))) ?_
                                    refine wL_val (v := .bool false) (wn rfl) rfl rfl (y_pick_f rfl rfl rfl) ?_
                                    refine wL_nil ?_
                                    refine wQ_sub (l' := [(1, .pointer (some ⟨b1, 0, none⟩)), (2, .int .i64 0), (6, .map (some b26)), (7, .int .i64 p), (87, .slice (some ⟨b61, o62, none⟩) ls.length c2), (88, .int .i64 ((ls.length : Nat) : Int)), (89, .int .i64 ((k : Nat) : Int)), (90, .bool true), (11, .pointer (some ⟨b65, 0, none⟩)), (120, .bool false)]) ⟨rfl, rfl, rfl, rfl, rfl, rfl, rfl, rfl, rfl, rfl, trivial⟩ ?_
                                    refine wQ_then ?_
                                    refine wC_cond_f rfl ?_
                                    refine wC_skip ?_
                                    refine wQ_then ?_
                                    refine wC_seq ?_
                                    refine wC_region ?_
                                    refine wL_val (v := .pointer (some ⟨b65, 0, none⟩)) (wn rfl) rfl rfl (y_fieldAddr rfl rfl (fa141_0 _ _ _)) ?_
                                    refine wL_val (v := .pointer (some ⟨b65, 1, none⟩)) (wn rfl) rfl rfl (y_fieldAddr rfl rfl (fa35_1 _ _ _)) ?_
                                    refine wL_val (v := .int .i64 x63.hno) (wn rfl) rfl rfl (y_load rfl rfl (r_load Try.underlying3 rfl (St.cl 0 S71 rfl rfl))) ?_
                                    refine wL_val (v := .int .i64 x63.hno) (wn rfl) rfl rfl (y_assign rfl rfl) ?_
                                    refine wL_nil ?_
                                    refine wQ_sub (l' := [(1, .pointer (some ⟨b1, 0, none⟩)), (2, .int .i64 0), (6, .map (some b26)), (7, .int .i64 x63.hno), (87, .slice (some ⟨b61, o62, none⟩) ls.length c2), (88, .int .i64 ((ls.length : Nat) : Int)), (89, .int .i64 ((k : Nat) : Int)), (90, .bool true), (11, .pointer (some ⟨b65, 0, none⟩)), (120, .bool false)]) ⟨rfl, rfl, rfl, rfl, rfl, rfl, rfl, rfl, rfl, rfl, trivial⟩ ?_
                                    refine wQ_then ?_
                                    refine wC_region ?_
                                    refine wL_val (v := .map (some b26)) (wn rfl) rfl rfl (y_move rfl rfl) ?_
                                    refine wL_val (v := .pointer (some ⟨b65, 2, none⟩)) (wn rfl) rfl rfl (y_fieldAddr rfl rfl (fa141_1 _ _ _)) ?_
                                    refine wL_val (v := .pointer (some ⟨b65, 2, none⟩)) (wn rfl) rfl rfl (y_fieldAddr rfl rfl (fa137_0 _ _ _)) ?_
                                    refine wL_val (v := .int .i64 x63.msg.no) (wn rfl) rfl rfl (y_load rfl rfl (r_load Try.underlying3 rfl (St.cl 0 S71 rfl rfl))) ?_
                                    refine wL_val (v := .agg #[]) (wn rfl) rfl rfl (y_build (vs := []) rfl trivial (by kernel_rfl)) ?_
                                    refine wL_putSet (z := x63.msg.no) 1 S71 (wn rfl) rfl rfl rfl rfl rfl rfl Try.underlying3 Try.underlying135 (by omega) (by simp [maxLen]; omega) ?_
                                    intro w78 S79
                                    rw [List.append_assoc, take_map (f := fun m : Ls => m.msg.no) hx64] at S79
                                    change St _ _ _ [.blk b65 #[.int .i64 x63.hep, .int .i64 x63.hno, .int .i64 x63.msg.no, .int .i64 x63.msg.body] 141, .loc b26 (ISet Try.prog 3 (rs.map (·.no) ++ (ls.take (k + 1)).map (·.msg.no))), .blk b1 (qRow ep nx gv (.slice A1 rs.length c1) (.slice (some ⟨b61, o62, none⟩) ls.length c2) W) 29, .rd 2 A1 rs.length ((rs).flatMap Msg.cells), .rd 4 (some ⟨b61, o62, none⟩) ls.length ((ls).flatMap Ls.cells)] at S79
                                    refine wL_nil ?_
                                    refine wQ_sub (l' := [(1, .pointer (some ⟨b1, 0, none⟩)), (2, .int .i64 0), (6, .map (some b26)), (7, .int .i64 x63.hno), (87, .slice (some ⟨b61, o62, none⟩) ls.length c2), (88, .int .i64 ((ls.length : Nat) : Int)), (89, .int .i64 ((k : Nat) : Int)), (90, .bool true), (11, .pointer (some ⟨b65, 0, none⟩)), (120, .bool false)]) ⟨rfl, rfl, rfl, rfl, rfl, rfl, rfl, rfl, rfl, rfl, trivial⟩ ?_
                                    refine wQ_blk_n ?_
                                    refine wQ_then ?_
                                    refine wC_region ?_
                                    refine wL_val (v := .int .i64 ((k + 1 : Nat) : Int)) (wn rfl) rfl rfl (y_binop rfl rfl rfl (r_add (by omega) (by omega))) ?_
                                    refine wL_val (v := .int .i64 ((k + 1 : Nat) : Int)) (wn rfl) rfl rfl (y_move rfl rfl) ?_
                                    refine wL_nil ?_
                                    refine wQ_sub (l' := [(1, .pointer (some ⟨b1, 0, none⟩)), (2, .int .i64 0), (6, .map (some b26)), (7, .int .i64 x63.hno), (87, .slice (some ⟨b61, o62, none⟩) ls.length c2), (88, .int .i64 ((ls.length : Nat) : Int)), (89, .int .i64 ((k + 1 : Nat) : Int)), (90, .bool true), (11, .pointer (some ⟨b65, 0, none⟩)), (120, .bool false)]) ⟨rfl, rfl, rfl, rfl, rfl, rfl, rfl, rfl, rfl, rfl, trivial⟩ ?_
                                    have S81 : St w.heap.size w w78 [.loc b26 (ISet Try.prog 3 (rs.map (·.no) ++ (ls.take (k + 1)).map (·.msg.no))), .blk b1 (qRow ep nx gv (.slice A1 rs.length c1) (.slice (some ⟨b61, o62, none⟩) ls.length c2) W) 29, .rd 2 A1 rs.length ((rs).flatMap Msg.cells), .rd 4 (some ⟨b61, o62, none⟩) ls.length ((ls).flatMap Ls.cells)] := (St.del 0 S79)
                                    refine wQ_round (k + 1, x63.hno) ?_ ⟨rfl, rfl, rfl, rfl, rfl, rfl, rfl, trivial⟩ (by first | omega | (dsimp only; omega))
                                    exact ⟨(by dsimp only; omega), (by dsimp only; rw [hi59, ls_step hx64, lsOk, hb73, decide_eq_true ⟨by omega, by omega, by omega⟩]; rfl), S81⟩
                                  · refine wL_val (v := .bool true) (wg rfl rfl rfl rfl) rfl rfl (y_binop rfl rfl rfl (r_geq_t (by omega))) ?_
                                    refine wL_val (v := .bool true) (wn rfl) rfl rfl (y_pick_f rfl rfl rfl) ?_
                                    refine wL_nil ?_
                                    refine wQ_sub (l' := [(1, .pointer (some ⟨b1, 0, none⟩)), (2, .int .i64 0), (6, .map (some b26)), (7, .int .i64 p), (87, .slice (some ⟨b61, o62, none⟩) ls.length c2), (88, .int .i64 ((ls.length : Nat) : Int)), (89, .int .i64 ((k : Nat) : Int)), (90, .bool true), (11, .pointer (some ⟨b65, 0, none⟩)), (120, .bool true)]) ⟨rfl, rfl, rfl, rfl, rfl, rfl, rfl, rfl, rfl, rfl, trivial⟩ ?_
                                    refine wQ_then ?_
                                    refine wC_cond_t rfl ?_
                                    refine wC_seq ?_
                                    refine wC_region ?_
                                    refine wL_val (v := .int .i64 6) (wn rfl) rfl rfl (y_assign rfl rfl) ?_
                                    refine wL_nil ?_
                                    refine wQ_then ?_
                                    refine wC_ret ?_
                                    refine wQ_then_ret ?_
                                    refine wQ_blk_ret ?_
                                    refine wQ_then_ret ?_
                                    refine wQ_then_ret ?_
                                    refine wQ_blk_ret ?_
                                    refine wQ_then_ret ?_
                                    refine wQ_post (rs := [.tmp 2]) (vs := [.int .i64 6]) rfl ⟨rfl, trivial⟩ ?_
                                    exact ⟨ret_int_ (qf_bad fun h => by rw [hi59, ls_step hx64, lsOk, decide_eq_false (fun h1 => h77 (h1.2.2)), Bool.and_false] at h; exact absurd h.2.2.1 (by simp)).symm, S71.low⟩
                                · refine wL_val (v := .bool true) (wg rfl rfl rfl rfl) rfl rfl (y_binop rfl rfl rfl (r_leq_t (by omega))) ?_
                                  refine wL_val (v := .bool true) (wn rfl) rfl rfl (y_pick_f rfl rfl rfl) ?_
                                  refine wL_val (v := .bool true) (wn rfl) rfl rfl (y_move rfl rfl) ?_
                                  refine wL_skip (wg rfl rfl rfl rfl) rfl rfl ?_
                                  refine wL_skip (wg rfl rfl rfl rfl) rfl rfl ?_
                                  refine wL_skip (wg rfl rfl rfl rfl) rfl rfl ?_
                                  refine wL_skip (wg rfl rfl rfl rfl) rfl rfl ?_
                                  refine wL_skip (wg rfl rfl rfl rfl) rfl rfl ?_
                                  refine wL_skip (wg rfl rfl rfl rfl) rfl rfl ?_
                                  refine wL_val (v := .bool true) (wn rfl) rfl rfl (y_pick_t rfl rfl rfl) ?_
                                  refine wL_nil ?_
                                  refine wQ_sub (l' := [(1, .pointer (some ⟨b1, 0, none⟩)), (2, .int .i64 0), (6, .map (some b26)), (7, .int .i64 p), (87, .slice (some ⟨b61, o62, none⟩) ls.length c2), (88, .int .i64 ((ls.length : Nat) : Int)), (89, .int .i64 ((k : Nat) : Int)), (90, .bool true), (11, .pointer (some ⟨b65, 0, none⟩)), (120, .bool true)]) ⟨rfl, rfl, rfl, rfl, rfl, rfl, rfl, rfl, rfl, rfl, trivial⟩ ?_
                                  refine wQ_then ?_
                                  refine wC_cond_t rfl ?_
                                  refine wC_seq ?_
                                  refine wC_region ?_
                                  refine wL_val (v := .int .i64 6) (wn rfl) rfl rfl (y_assign rfl rfl) ?_
                                  refine wL_nil ?_
                                  refine wQ_then ?_
                                  refine wC_ret ?_
                                  refine wQ_then_ret ?_
                                  refine wQ_blk_ret ?_
                                  refine wQ_then_ret ?_
                                  refine wQ_then_ret ?_
                                  refine wQ_blk_ret ?_
                                  refine wQ_then_ret ?_
                                  refine wQ_post (rs := [.tmp 2]) (vs := [.int .i64 6]) rfl ⟨rfl, trivial⟩ ?_
                                  exact ⟨ret_int_ (qf_bad fun h => by rw [hi59, ls_step hx64, lsOk, decide_eq_false (fun h1 => h76 (h1.2.1)), Bool.and_false] at h; exact absurd h.2.2.1 (by simp)).symm, S71.low⟩
                              · refine wL_val (v := .bool true) (wg rfl rfl rfl rfl) rfl rfl (y_binop rfl rfl rfl (r_neq_t (by omega))) ?_
                                refine wL_val (v := .bool true) (wn rfl) rfl rfl (y_pick_f rfl rfl rfl) ?_
                                refine wL_val (v := .bool true) (wn rfl) rfl rfl (y_move rfl rfl) ?_
                                refine wL_skip (wg rfl rfl rfl rfl) rfl rfl ?_
                                refine wL_skip (wg rfl rfl rfl rfl) rfl rfl ?_
                                refine wL_skip (wg rfl rfl rfl rfl) rfl rfl ?_
                                refine wL_skip (wg rfl rfl rfl rfl) rfl rfl ?_
                                refine wL_skip (wg rfl rfl rfl rfl) rfl rfl ?_
                                refine wL_val (v := .bool true) (wn rfl) rfl rfl (y_pick_t rfl rfl rfl) ?_
                                refine wL_val (v := .bool true) (wn rfl) rfl rfl (y_move rfl rfl) ?_
                                refine wL_skip (wg rfl rfl rfl rfl) rfl rfl ?_
                                refine wL_skip (wg rfl rfl rfl rfl) rfl rfl ?_
                                refine wL_skip (wg rfl rfl rfl rfl) rfl rfl ?_
                                refine wL_skip (wg rfl rfl rfl rfl) rfl rfl ?_
                                refine wL_skip (wg rfl rfl rfl rfl) rfl rfl ?_
                                refine wL_skip (wg rfl rfl rfl rfl) rfl rfl ?_
                                refine wL_val (v := .bool true) (wn rfl) rfl rfl (y_pick_t rfl rfl rfl) ?_
                                refine wL_nil ?_
                                refine wQ_sub (l' := [(1, .pointer (some ⟨b1, 0, none⟩)), (2, .int .i64 0), (6, .map (some b26)), (7, .int .i64 p), (87, .slice (some ⟨b61, o62, none⟩) ls.length c2), (88, .int .i64 ((ls.length : Nat) : Int)), (89, .int .i64 ((k : Nat) : Int)), (90, .bool true), (11, .pointer (some ⟨b65, 0, none⟩)), (120, .bool true)]) ⟨rfl, rfl, rfl, rfl, rfl, rfl, rfl, rfl, rfl, rfl, trivial⟩ ?_
                                refine wQ_then ?_
                                refine wC_cond_t rfl ?_
                                refine wC_seq ?_
                                refine wC_region ?_
                                refine wL_val (v := .int .i64 6) (wn rfl) rfl rfl (y_assign rfl rfl) ?_
                                refine wL_nil ?_
                                refine wQ_then ?_
                                refine wC_ret ?_
                                refine wQ_then_ret ?_
                                refine wQ_blk_ret ?_
                                refine wQ_then_ret ?_
                                refine wQ_then_ret ?_
                                refine wQ_blk_ret ?_
                                refine wQ_then_ret ?_
                                refine wQ_post (rs := [.tmp 2]) (vs := [.int .i64 6]) rfl ⟨rfl, trivial⟩ ?_
                                exact ⟨ret_int_ (qf_bad fun h => by rw [hi59, ls_step hx64, lsOk, decide_eq_false (fun h1 => h75 (h1.1)), Bool.and_false] at h; exact absurd h.2.2.1 (by simp)).symm, S71.low⟩
                          · refine wL_val (v := .bool false) (wn rfl) rfl rfl (y_binop rfl rfl rfl (r_lss_f h60)) ?_
                            refine wL_nil ?_
                            refine wQ_then ?_
                            refine wC_seq ?_
                            refine wC_cond_f rfl ?_
                            refine wC_exit ?_
                            refine wQ_then_exit ?_
                            refine wQ_then_exit ?_
                            refine wQ_blk_same ?_
                            refine wQ_then ?_
                            refine wC_seq ?_
                            refine wC_seq ?_
                            refine wC_region ?_
                            refine wL_val (v := .map (some b26)) (wn rfl) rfl rfl (y_move rfl rfl) ?_
                            have hL82 : lsFrom ep nx gv (-1) ls = true := by rw [hi59, List.drop_of_length_le (by omega)]; rfl
                            have S83 := S57
                            rw [List.take_of_length_le (show ls.length ≤ k by omega)] at S83
                            change St _ _ _ [.loc b26 (ISet Try.prog 3 (nosOf rs ls)), .blk b1 (qRow ep nx gv (.slice A1 rs.length c1) (.slice A2 ls.length c2) W) 29, .rd 2 A1 rs.length ((rs).flatMap Msg.cells), .rd 4 A2 ls.length ((ls).flatMap Ls.cells)] at S83
                            obtain ⟨m84, hm85, hm86, hm87⟩ := r_lenSet 0 S83 rfl Try.underlying135 3
                            have hnl : (nosOf rs ls).length = rs.length + ls.length := by simp [nosOf]
                            rw [hnl] at hm86 hm87
                            refine wL_val (v := .int .i64 ((m84 : Nat) : Int)) (wn rfl) rfl rfl (y_builtin (vs := [.map (some b26)]) rfl ⟨rfl, trivial⟩ hm85) ?_
                            refine wL_val (v := .pointer (some ⟨b1, 3, none⟩)) (wn rfl) rfl rfl (y_fieldAddr rfl rfl (fa29_3 _ _ _)) ?_
                            refine wL_val (v := .slice A1 rs.length c1) (wn rfl) rfl rfl (y_load rfl rfl (r_load Try.underlying22 rfl (St.cl 1 S83 rfl qRow_g3))) ?_
                            refine wL_val (v := .int .i64 ((rs.length : Nat) : Int)) (wn rfl) rfl rfl (y_builtin (vs := [.slice A1 rs.length c1]) rfl ⟨rfl, trivial⟩ fun _ => r_len rfl Try.underlying22) ?_
                            refine wL_val (v := .pointer (some ⟨b1, 4, none⟩)) (wn rfl) rfl rfl (y_fieldAddr rfl rfl (fa29_4 _ _ _)) ?_
                            refine wL_val (v := .slice A2 ls.length c2) (wn rfl) rfl rfl (y_load rfl rfl (r_load Try.underlying23 rfl (St.cl 1 S83 rfl qRow_g4))) ?_
                            refine wL_val (v := .int .i64 ((ls.length : Nat) : Int)) (wn rfl) rfl rfl (y_builtin (vs := [.slice A2 ls.length c2]) rfl ⟨rfl, trivial⟩ fun _ => r_len rfl Try.underlying23) ?_
                            refine wL_val (v := .int .i64 ((rs.length + ls.length : Nat) : Int)) (wn rfl) rfl rfl (y_binop rfl rfl rfl (r_add (by omega) (by omega))) ?_
                            by_cases h88 : ((m84 : Nat) : Int) < ((rs.length + ls.length : Nat) : Int)
                            · refine wL_val (v := .bool true) (wn rfl) rfl rfl (y_binop rfl rfl rfl (r_lss_t h88)) ?_
                              refine wL_nil ?_
                              refine wQ_sub (l' := [(1, .pointer (some ⟨b1, 0, none⟩)), (2, .int .i64 0), (6, .map (some b26)), (7, .int .i64 p), (87, .slice A2 ls.length c2), (88, .int .i64 ((ls.length : Nat) : Int)), (89, .int .i64 ((k : Nat) : Int)), (90, .bool false), (139, .bool true)]) ⟨rfl, rfl, rfl, rfl, rfl, rfl, rfl, rfl, rfl, trivial⟩ ?_
                              refine wQ_then ?_
                              refine wC_cond_t rfl ?_
                              refine wC_seq ?_
                              refine wC_region ?_
                              refine wL_val (v := .int .i64 6) (wn rfl) rfl rfl (y_assign rfl rfl) ?_
                              refine wL_nil ?_
                              refine wQ_then ?_
                              refine wC_ret ?_
                              refine wQ_then_ret ?_
                              refine wQ_post (rs := [.tmp 2]) (vs := [.int .i64 6]) rfl ⟨rfl, trivial⟩ ?_
                              exact ⟨ret_int_ (qf_bad fun h => hm87.1 (by omega) h.2.2.2).symm, S83.low⟩
                            · refine wL_val (v := .bool false) (wn rfl) rfl rfl (y_binop rfl rfl rfl (r_lss_f h88)) ?_
                              refine wL_nil ?_
                              refine wQ_sub (l' := [(1, .pointer (some ⟨b1, 0, none⟩)), (2, .int .i64 0), (6, .map (some b26)), (7, .int .i64 p), (87, .slice A2 ls.length c2), (88, .int .i64 ((ls.length : Nat) : Int)), (89, .int .i64 ((k : Nat) : Int)), (90, .bool false), (139, .bool false)]) ⟨rfl, rfl, rfl, rfl, rfl, rfl, rfl, rfl, rfl, trivial⟩ ?_
                              refine wQ_then ?_
                              refine wC_cond_f rfl ?_
                              refine wC_skip ?_
                              refine wQ_then ?_
                              refine wC_seq ?_
                              refine wC_region ?_
                              refine wL_val (v := .int .i64 0) (wn rfl) rfl rfl (y_assign rfl rfl) ?_
                              refine wL_nil ?_
                              refine wQ_then ?_
                              refine wC_ret ?_
                              refine wQ_post (rs := [.tmp 2]) (vs := [.int .i64 0]) rfl ⟨rfl, trivial⟩ ?_
                              exact ⟨ret_int_ (qf_ok (by unfold rngQ; omega) hW29 hR54 hL82 (Classical.not_not.1 fun h => h88 (by have := hm87.2 h; omega))).symm, S83.low⟩
end Go.Proofs.Ytkjlafpafmihaaa
