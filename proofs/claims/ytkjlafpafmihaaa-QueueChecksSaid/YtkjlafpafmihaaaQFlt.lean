/- Contract: ref.QueueFault. (The steps are printed by a program of mine: wip/px.) -/
import Derived.Test.YtkjlafpafmihaaaQ
import Derived.Test.YtkjlafpafmihaaaWinFault
namespace Go.Proofs.Ytkjlafpafmihaaa
open Go.ChangeShapes Go.WideShapes Go.RowKit

set_option maxRecDepth 100000 in
set_option maxHeartbeats 8000000 in
theorem QueueFault_calls (ep nx gv : Int) (A1 A2 : Option Addr) (c1 c2 : Nat) (rs : List Msg) (ls : List Ls) (W : Wins) (w : World) (h1 : Rd w w.heap.size 2 A1 rs.length (rs.flatMap Msg.cells)) (h2 : Rd w w.heap.size 4 A2 ls.length (ls.flatMap Ls.cells)) (hb1 : rs.length * 16 ≤ reachBytes) (hb2 : ls.length * 32 ≤ reachBytes) :
    Calls Try.prog 32 #[.agg (qRow ep nx gv (.slice A1 rs.length c1) (.slice A2 ls.length c2) W)] w (IPost w (queueFault ep nx gv rs ls W)) := by
  unfold reachBytes at hb1 hb2
  have S := ((St.start w).addRd h2).addRd h1
  refine calls_of_wC (N := 182) (vs := [.agg (qRow ep nx gv (.slice A1 rs.length c1) (.slice A2 ls.length c2) W)]) Try.func32 rfl rfl rfl ?_
  refine wC_sub (l' := [(0, .agg (qRow ep nx gv (.slice A1 rs.length c1) (.slice A2 ls.length c2) W))]) ⟨rfl, trivial⟩ ?_
  refine wC_seq ?_
  refine wC_region ?_
  refine wL_new (V := fun b => .pointer (some ⟨b, 0, none⟩)) (row := qRow ep nx gv (.slice A1 rs.length c1) (.slice A2 ls.length c2) W) (t := 29) S (wn rfl) rfl rfl (d_box rfl rfl rfl) ?_
  intro b1 w2 S3
  refine wL_val (v := .int .i64 0) (wn rfl) rfl rfl (y_assign rfl rfl) ?_
  refine wL_nil ?_
  refine wQ_then ?_
  refine wC_seq ?_
  refine wC_seq ?_
  refine wC_region ?_
  refine wL_val (v := .pointer (some ⟨b1, 0, none⟩)) (wn rfl) rfl rfl (y_fieldAddr rfl rfl (fa29_0 _ _ _)) ?_
  refine wL_val (v := .int .i64 ep) (wn rfl) rfl rfl (y_load rfl rfl (r_load Try.underlying3 rfl (St.cl 0 S3 rfl qRow_g0))) ?_
  by_cases h4 : 0 ≤ ep ∧ ep ≤ 1048576
  · refine wL_call (vs := [.int .i64 ep, .int .i64 0, .int .i64 1048576]) (wn rfl) rfl rfl (e_call (vs := [.int .i64 ep, .int .i64 0, .int .i64 1048576]) rfl en107 ⟨rfl, rfl, rfl, trivial⟩) (In_t h4 _) ?_
    rintro _ w5 ⟨rfl, rfl⟩
    refine ⟨_, rfl, ?_⟩
    refine wL_val (v := .bool false) (wn rfl) rfl rfl (y_unop rfl rfl r_not) ?_
    refine wL_val (v := .bool false) (wn rfl) rfl rfl (y_move rfl rfl) ?_
    refine wL_val (v := .pointer (some ⟨b1, 1, none⟩)) (wg rfl rfl rfl rfl) rfl rfl (y_fieldAddr rfl rfl (fa29_1 _ _ _)) ?_
    refine wL_val (v := .int .i64 nx) (wg rfl rfl rfl rfl) rfl rfl (y_load rfl rfl (r_load Try.underlying3 rfl (St.cl 0 S3 rfl qRow_g1))) ?_
    by_cases h6 : 0 ≤ nx ∧ nx ≤ 1073741824
    · refine wL_call (vs := [.int .i64 nx, .int .i64 0, .int .i64 1073741824]) (wg rfl rfl rfl rfl) rfl rfl (e_call (vs := [.int .i64 nx, .int .i64 0, .int .i64 1073741824]) rfl en107 ⟨rfl, rfl, rfl, trivial⟩) (In_t h6 _) ?_
      rintro _ w7 ⟨rfl, rfl⟩
      refine ⟨_, rfl, ?_⟩
      refine wL_val (v := .bool false) (wg rfl rfl rfl rfl) rfl rfl (y_unop rfl rfl r_not) ?_
      refine wL_val (v := .bool false) (wn rfl) rfl rfl (y_pick_f rfl rfl rfl) ?_
      refine wL_val (v := .bool false) (wn rfl) rfl rfl (y_move rfl rfl) ?_
      refine wL_val (v := .pointer (some ⟨b1, 2, none⟩)) (wg rfl rfl rfl rfl) rfl rfl (y_fieldAddr rfl rfl (fa29_2 _ _ _)) ?_
      refine wL_val (v := .int .i64 gv) (wg rfl rfl rfl rfl) rfl rfl (y_load rfl rfl (r_load Try.underlying3 rfl (St.cl 0 S3 rfl qRow_g2))) ?_
      by_cases h8 : 0 ≤ gv ∧ gv ≤ 1073741824
      · refine wL_call (vs := [.int .i64 gv, .int .i64 0, .int .i64 1073741824]) (wg rfl rfl rfl rfl) rfl rfl (e_call (vs := [.int .i64 gv, .int .i64 0, .int .i64 1073741824]) rfl en107 ⟨rfl, rfl, rfl, trivial⟩) (In_t h8 _) ?_
        rintro _ w9 ⟨rfl, rfl⟩
        refine ⟨_, rfl, ?_⟩
        refine wL_val (v := .bool false) (wg rfl rfl rfl rfl) rfl rfl (y_unop rfl rfl r_not) ?_
        refine wL_val (v := .bool false) (wn rfl) rfl rfl (y_pick_f rfl rfl rfl) ?_
        refine wL_val (v := .bool false) (wn rfl) rfl rfl (y_move rfl rfl) ?_
        refine wL_val (v := .pointer (some ⟨b1, 3, none⟩)) (wg rfl rfl rfl rfl) rfl rfl (y_fieldAddr rfl rfl (fa29_3 _ _ _)) ?_
        refine wL_val (v := .slice A1 rs.length c1) (wg rfl rfl rfl rfl) rfl rfl (y_load rfl rfl (r_load Try.underlying22 rfl (St.cl 0 S3 rfl qRow_g3))) ?_
        refine wL_val (v := .int .i64 ((rs.length : Nat) : Int)) (wg rfl rfl rfl rfl) rfl rfl (y_builtin (vs := [.slice A1 rs.length c1]) rfl ⟨rfl, trivial⟩ fun _ => r_len rfl Try.underlying22) ?_
        refine wL_val (v := .pointer (some ⟨b1, 4, none⟩)) (wg rfl rfl rfl rfl) rfl rfl (y_fieldAddr rfl rfl (fa29_4 _ _ _)) ?_
        refine wL_val (v := .slice A2 ls.length c2) (wg rfl rfl rfl rfl) rfl rfl (y_load rfl rfl (r_load Try.underlying23 rfl (St.cl 0 S3 rfl qRow_g4))) ?_
        refine wL_val (v := .int .i64 ((ls.length : Nat) : Int)) (wg rfl rfl rfl rfl) rfl rfl (y_builtin (vs := [.slice A2 ls.length c2]) rfl ⟨rfl, trivial⟩ fun _ => r_len rfl Try.underlying23) ?_
        refine wL_val (v := .int .i64 ((rs.length + ls.length : Nat) : Int)) (wg rfl rfl rfl rfl) rfl rfl (y_binop rfl rfl rfl (r_add (by omega) (by omega))) ?_
        by_cases h10 : 500 < ((rs.length + ls.length : Nat) : Int)
        · refine wL_val (v := .bool true) (wg rfl rfl rfl rfl) rfl rfl (y_binop rfl rfl rfl (r_gtr_t h10)) ?_
          refine wL_val (v := .bool true) (wn rfl) rfl rfl (y_pick_f rfl rfl rfl) ?_
          refine wL_nil ?_
          refine wQ_sub (l' := [(0, .agg (qRow ep nx gv (.slice A1 rs.length c1) (.slice A2 ls.length c2) W)), (1, .pointer (some ⟨b1, 0, none⟩)), (2, .int .i64 0), (36, .bool true)]) ⟨rfl, rfl, rfl, rfl, trivial⟩ ?_
          refine wQ_then ?_
          refine wC_cond_t rfl ?_
          refine wC_seq ?_
          refine wC_region ?_
          refine wL_val (v := .int .i64 6) (wn rfl) rfl rfl (y_assign rfl rfl) ?_
          refine wL_nil ?_
          refine wQ_then ?_
          refine wC_ret ?_
          refine wQ_then_ret ?_
          refine wQ_post (rs := [.tmp 2]) (vs := [.int .i64 6]) rfl ⟨rfl, trivial⟩ ?_
          exact ⟨ret_int_ (qf_rng (by omega)).symm, S3.low⟩
        · refine wL_val (v := .bool false) (wg rfl rfl rfl rfl) rfl rfl (y_binop rfl rfl rfl (r_gtr_f h10)) ?_
          refine wL_val (v := .bool false) (wn rfl) rfl rfl (y_pick_f rfl rfl rfl) ?_
          refine wL_nil ?_
          refine wQ_sub (l' := [(0, .agg (qRow ep nx gv (.slice A1 rs.length c1) (.slice A2 ls.length c2) W)), (1, .pointer (some ⟨b1, 0, none⟩)), (2, .int .i64 0), (36, .bool false)]) ⟨rfl, rfl, rfl, rfl, trivial⟩ ?_
          refine wQ_then ?_
          refine wC_cond_f rfl ?_
          refine wC_skip ?_
          refine wQ_then ?_
          refine wC_seq ?_
          refine wC_seq ?_
          refine wC_region ?_
          refine wL_val (v := .int .i64 0) (wn rfl) rfl rfl (y_assign rfl rfl) ?_
          refine wL_nil ?_
          refine wQ_then ?_
          refine wC_block ?_
          refine wC_loop (X := Nat) (fun xv => [(1, .pointer (some ⟨b1, 0, none⟩)), (2, .int .i64 0), (3, .int .i64 ((xv : Nat) : Int))]) (fun xv wr => (xv ≤ 4) ∧ (∀ j, j < xv → winFault (W.at j) = 0) ∧ St w.heap.size w wr [.blk b1 (qRow ep nx gv (.slice A1 rs.length c1) (.slice A2 ls.length c2) W) 29, .rd 2 A1 rs.length ((rs).flatMap Msg.cells), .rd 4 A2 ls.length ((ls).flatMap Ls.cells)]) (fun xv => 4 - xv) (0) ?_ ?_ ?_
          · exact ⟨Nat.zero_le _, fun j hj => absurd hj (Nat.not_lt_zero _), S3⟩
          · exact ⟨rfl, rfl, rfl, trivial⟩
          · rintro k w11 ⟨hi13, hi14, S12⟩
            try dsimp only at hi13 hi14 S12
            refine wC_sub (l' := [(1, .pointer (some ⟨b1, 0, none⟩)), (2, .int .i64 0), (3, .int .i64 ((k : Nat) : Int))]) ⟨rfl, rfl, rfl, trivial⟩ ?_
            refine wC_seq ?_
            refine wC_seq ?_
            refine wC_region ?_
            refine wL_val (v := .int .i64 ((k : Nat) : Int)) (wn rfl) rfl rfl (y_move rfl rfl) ?_
            by_cases h15 : ((k : Nat) : Int) < 4
            · refine wL_val (v := .bool true) (wn rfl) rfl rfl (y_binop rfl rfl rfl (r_lss_t h15)) ?_
              refine wL_nil ?_
              refine wQ_sub (l' := [(1, .pointer (some ⟨b1, 0, none⟩)), (2, .int .i64 0), (3, .int .i64 ((k : Nat) : Int)), (38, .bool true)]) ⟨rfl, rfl, rfl, rfl, trivial⟩ ?_
              refine wQ_then ?_
              refine wC_cond_t rfl ?_
              refine wC_skip ?_
              refine wQ_then ?_
              refine wC_seq ?_
              refine wC_block ?_
              refine wC_seq ?_
              refine wC_region ?_
              refine wL_val (v := .int .i64 ((k : Nat) : Int)) (wn rfl) rfl rfl (y_move rfl rfl) ?_
              refine wL_val (v := .pointer (some ⟨b1, 5, none⟩)) (wn rfl) rfl rfl (y_fieldAddr rfl rfl (fa29_5 _ _ _)) ?_
              refine wL_val (v := .pointer (some ⟨b1, 5 + k * 9, none⟩)) (wn rfl) rfl rfl (y_indexAddr rfl rfl rfl (r_indexArr k Try.underlying27 inf26 rfl (by omega))) ?_
              refine wL_val (v := .agg (((W.at k).cells).toArray)) (wn rfl) rfl rfl (y_load rfl rfl (r_load_agg (cs := (W.at k).cells) Try.underlying26 rfl inf26 rfl (St.rg 0 S12 rfl (qRow_wk (by omega))))) ?_
              refine wL_call (vs := [.agg (((W.at k).cells).toArray)]) (wn rfl) rfl rfl (e_call (vs := [.agg (((W.at k).cells).toArray)]) rfl en108 ⟨rfl, trivial⟩) (WindowFault_calls (W.at k) _) ?_
              rintro _ w16 ⟨rfl, hb18⟩
              refine ⟨_, rfl, ?_⟩
              have S17 := S12.on hb18
              clear hb18
              by_cases h19 : winFault (W.at k) = 0
              · refine wL_val (v := .bool false) (wn rfl) rfl rfl (y_binop rfl rfl rfl (r_neq_f h19)) ?_
                refine wL_nil ?_
                refine wQ_sub (l' := [(1, .pointer (some ⟨b1, 0, none⟩)), (2, .int .i64 0), (3, .int .i64 ((k : Nat) : Int)), (38, .bool true), (46, .bool false)]) ⟨rfl, rfl, rfl, rfl, rfl, trivial⟩ ?_
                refine wQ_then ?_
                refine wC_cond_f rfl ?_
                refine wC_skip ?_
                refine wQ_blk_n ?_
                refine wQ_then ?_
                refine wC_region ?_
                refine wL_val (v := .int .i64 ((k : Nat) : Int)) (wn rfl) rfl rfl (y_move rfl rfl) ?_
                refine wL_val (v := .int .i64 ((k + 1 : Nat) : Int)) (wn rfl) rfl rfl (y_binop rfl rfl rfl (r_add (by omega) (by omega))) ?_
                refine wL_val (v := .int .i64 ((k + 1 : Nat) : Int)) (wn rfl) rfl rfl (y_assign rfl rfl) ?_
                refine wL_nil ?_
                refine wQ_sub (l' := [(1, .pointer (some ⟨b1, 0, none⟩)), (2, .int .i64 0), (3, .int .i64 ((k + 1 : Nat) : Int)), (38, .bool true), (46, .bool false)]) ⟨rfl, rfl, rfl, rfl, rfl, trivial⟩ ?_
                refine wQ_round (k + 1) ?_ ⟨rfl, rfl, rfl, trivial⟩ (by first | omega | (dsimp only; omega))
                exact ⟨(by omega), (fun j hj => (Nat.lt_succ_iff_lt_or_eq.1 hj).elim (fun h => hi14 j h) (fun h => by rw [h]; exact h19)), S17⟩
              · refine wL_val (v := .bool true) (wn rfl) rfl rfl (y_binop rfl rfl rfl (r_neq_t h19)) ?_
                refine wL_nil ?_
                refine wQ_sub (l' := [(1, .pointer (some ⟨b1, 0, none⟩)), (2, .int .i64 0), (3, .int .i64 ((k : Nat) : Int)), (38, .bool true), (46, .bool true)]) ⟨rfl, rfl, rfl, rfl, rfl, trivial⟩ ?_
                refine wQ_then ?_
                refine wC_cond_t rfl ?_
                refine wC_seq ?_
                refine wC_region ?_
                refine wL_val (v := .int .i64 6) (wn rfl) rfl rfl (y_assign rfl rfl) ?_
                refine wL_nil ?_
                refine wQ_then ?_
                refine wC_ret ?_
                refine wQ_blk_ret ?_
                refine wQ_then_ret ?_
                refine wQ_then_ret ?_
                refine wQ_blk_ret ?_
                refine wQ_then_ret ?_
                refine wQ_post (rs := [.tmp 2]) (vs := [.int .i64 6]) rfl ⟨rfl, trivial⟩ ?_
                exact ⟨ret_int_ (qf_win (j := k) (by omega) h19).symm, S17.low⟩
            · refine wL_val (v := .bool false) (wn rfl) rfl rfl (y_binop rfl rfl rfl (r_lss_f h15)) ?_
              refine wL_nil ?_
              refine wQ_sub (l' := [(1, .pointer (some ⟨b1, 0, none⟩)), (2, .int .i64 0), (3, .int .i64 ((k : Nat) : Int)), (38, .bool false)]) ⟨rfl, rfl, rfl, rfl, trivial⟩ ?_
              refine wQ_then ?_
              refine wC_cond_f rfl ?_
              refine wC_exit ?_
              refine wQ_then_exit ?_
              refine wQ_then_exit ?_
              refine wQ_blk_same ?_
              refine wQ_then ?_
              refine wC_seq ?_
              refine wC_region ?_
              have hW20 : winsOk W := fun j hj => hi14 j (by omega)
              have S21 := S12.nil 3 1
              refine wL_val (v := .slice none 0 0) (wn rfl) rfl rfl (y_assign rfl rfl) ?_
              refine wL_nil ?_
              refine wQ_then ?_
              refine wC_seq ?_
              refine wC_seq ?_
              refine wC_region ?_
              refine wL_val (v := .int .i64 0) (wn rfl) rfl rfl (y_assign rfl rfl) ?_
              refine wL_nil ?_
              refine wQ_then ?_
              refine wC_block ?_
              refine wC_loop (X := Nat × (Option Addr) × Nat) (fun xv => [(1, .pointer (some ⟨b1, 0, none⟩)), (2, .int .i64 0), (4, .slice xv.2.1 xv.1 xv.2.2), (5, .int .i64 ((xv.1 : Nat) : Int))]) (fun xv wr => (xv.1 ≤ rs.length) ∧ (rdyFrom nx (-1) rs = rdyFrom nx (prevNo rs xv.1) (rs.drop xv.1)) ∧ St w.heap.size w wr [.own 3 1 (.slice xv.2.1 xv.1 xv.2.2) xv.1 (((rs.take xv.1).map (·.no)).flatMap oneI), .blk b1 (qRow ep nx gv (.slice A1 rs.length c1) (.slice A2 ls.length c2) W) 29, .rd 2 A1 rs.length ((rs).flatMap Msg.cells), .rd 4 A2 ls.length ((ls).flatMap Ls.cells)]) (fun xv => rs.length - xv.1) (0, none, 0) ?_ ?_ ?_
              · exact ⟨Nat.zero_le _, rfl, S21⟩
              · exact ⟨rfl, rfl, rfl, rfl, trivial⟩
              · rintro ⟨k, A4, c4⟩ w22 ⟨hi24, hi25, S23⟩
                try dsimp only at hi24 hi25 S23
                refine wC_sub (l' := [(1, .pointer (some ⟨b1, 0, none⟩)), (2, .int .i64 0), (4, .slice A4 k c4), (5, .int .i64 ((k : Nat) : Int))]) ⟨rfl, rfl, rfl, rfl, trivial⟩ ?_
                refine wC_seq ?_
                refine wC_seq ?_
                refine wC_region ?_
                refine wL_val (v := .int .i64 ((k : Nat) : Int)) (wn rfl) rfl rfl (y_move rfl rfl) ?_
                refine wL_val (v := .pointer (some ⟨b1, 3, none⟩)) (wn rfl) rfl rfl (y_fieldAddr rfl rfl (fa29_3 _ _ _)) ?_
                refine wL_val (v := .slice A1 rs.length c1) (wn rfl) rfl rfl (y_load rfl rfl (r_load Try.underlying22 rfl (St.cl 1 S23 rfl qRow_g3))) ?_
                refine wL_val (v := .int .i64 ((rs.length : Nat) : Int)) (wn rfl) rfl rfl (y_builtin (vs := [.slice A1 rs.length c1]) rfl ⟨rfl, trivial⟩ fun _ => r_len rfl Try.underlying22) ?_
                by_cases h26 : ((k : Nat) : Int) < ((rs.length : Nat) : Int)
                · refine wL_val (v := .bool true) (wn rfl) rfl rfl (y_binop rfl rfl rfl (r_lss_t h26)) ?_
                  refine wL_nil ?_
                  refine wQ_sub (l' := [(1, .pointer (some ⟨b1, 0, none⟩)), (2, .int .i64 0), (4, .slice A4 k c4), (5, .int .i64 ((k : Nat) : Int)), (51, .bool true)]) ⟨rfl, rfl, rfl, rfl, rfl, trivial⟩ ?_
                  refine wQ_then ?_
                  refine wC_cond_t rfl ?_
                  refine wC_skip ?_
                  refine wQ_then ?_
                  refine wC_seq ?_
                  refine wC_block ?_
                  refine wC_seq ?_
                  refine wC_region ?_
                  refine wL_val (v := .pointer (some ⟨b1, 3, none⟩)) (wn rfl) rfl rfl (y_fieldAddr rfl rfl (fa29_3 _ _ _)) ?_
                  refine wL_val (v := .slice A1 rs.length c1) (wn rfl) rfl rfl (y_load rfl rfl (r_load Try.underlying22 rfl (St.cl 1 S23 rfl qRow_g3))) ?_
                  refine wL_val (v := .int .i64 ((k : Nat) : Int)) (wn rfl) rfl rfl (y_move rfl rfl) ?_
                  obtain ⟨b27, o28, rfl⟩ := Rd.addr (St.rd 2 S23 rfl) (by omega)
                  obtain ⟨x29, hx30⟩ : ∃ x, (rs)[k]? = some x := ⟨_, List.getElem?_eq_getElem (by have := (St.rd 2 S23 rfl).1; rw [fm_len (sz := 2) (fun _ => rfl)] at this; omega)⟩
                  refine wL_val (v := .pointer (some ⟨b27, o28 + k * 2, none⟩)) (wn rfl) rfl rfl (y_indexAddr rfl rfl rfl (r_indexAddr k Try.underlying22 inf137 (by omega) (by omega))) ?_
                  refine wL_val (v := .agg #[.int .i64 x29.no, .int .i64 x29.body]) (wn rfl) rfl rfl (y_load rfl rfl (r_load_agg (cs := Msg.cells x29) Try.underlying137 rfl inf137 rfl (Rd.rg2 (St.rd 2 S23 rfl) (fun _ _ h => fm_get (enc := Msg.cells) (sz := 2) (fun _ => rfl) hx30 h)))) ?_
                  refine wL_new (V := fun b => .pointer (some ⟨b, 0, none⟩)) (row := #[.int .i64 0, .int .i64 0]) (t := 137) S23 (wn rfl) rfl rfl (d_alloc rfl (Try.zeroValue137 _) rfl) ?_
                  intro b31 w32 S33
                  refine wL_st (cs := #[.int .i64 x29.no, .int .i64 x29.body]) (row' := #[.int .i64 x29.no, .int .i64 x29.body]) (fs' := [.blk b31 #[.int .i64 x29.no, .int .i64 x29.body] 137, .own 3 1 (.slice A4 k c4) k (((rs.take k).map (·.no)).flatMap oneI), .blk b1 (qRow ep nx gv (.slice (some ⟨b27, o28, none⟩) rs.length c1) (.slice A2 ls.length c2) W) 29, .rd 2 (some ⟨b27, o28, none⟩) rs.length ((rs).flatMap Msg.cells), .rd 4 A2 ls.length ((ls).flatMap Ls.cells) ]) 0 S33 (wn rfl) rfl rfl rfl rfl rfl rfl inf137 rfl (oneAll rfl) (Nat.le_of_ble_eq_true rfl) rfl rfl ?_
                  intro w34 S35
                  refine wL_nil ?_
                  refine wQ_sub (l' := [(1, .pointer (some ⟨b1, 0, none⟩)), (2, .int .i64 0), (4, .slice A4 k c4), (5, .int .i64 ((k : Nat) : Int)), (51, .bool true), (6, .pointer (some ⟨b31, 0, none⟩))]) ⟨rfl, rfl, rfl, rfl, rfl, rfl, trivial⟩ ?_
                  refine wQ_then ?_
                  refine wC_seq ?_
                  refine wC_seq ?_
                  refine wC_quiet S35 mixed (by kernel_rfl) ?_
                  refine wU_val (v := .pointer (some ⟨b31, 0, none⟩)) (wn rfl) rfl rfl (fun _ _ => (y_fieldAddr rfl rfl (fa137_0 _ _ _))) ?_
                  refine wU_val (v := .int .i64 x29.no) (wn rfl) rfl rfl (fun _ Sx37 => (y_load rfl rfl (r_load Try.underlying3 rfl (St.cl 0 Sx37 rfl rfl)))) ?_
                  refine wU_val (v := .pointer (some ⟨b1, 1, none⟩)) (wn rfl) rfl rfl (fun _ _ => (y_fieldAddr rfl rfl (fa29_1 _ _ _))) ?_
                  refine wU_val (v := .int .i64 nx) (wn rfl) rfl rfl (fun _ Sx39 => (y_load rfl rfl (r_load Try.underlying3 rfl (St.cl 2 Sx39 rfl qRow_g1)))) ?_
                  refine wU_val (v := .int .i64 (nx - 1)) (wn rfl) rfl rfl (fun _ _ => (y_binop rfl rfl rfl (r_sub (by omega) (by omega)))) ?_
                  by_cases h41 : 0 ≤ x29.no ∧ x29.no ≤ nx - 1
                  · refine wU_call (v := .bool true) (vs := [.int .i64 x29.no, .int .i64 0, .int .i64 (nx - 1)]) (wn rfl) rfl rfl (fun _ => (e_call (vs := [.int .i64 x29.no, .int .i64 0, .int .i64 (nx - 1)]) rfl en107 ⟨rfl, rfl, rfl, trivial⟩)) (fun _ Sx42 => (In_t h41 _).mono fun _ _ h => ⟨h.1, h.2 ▸ Sx42⟩) ?_
                    refine wU_val (v := .bool false) (wn rfl) rfl rfl (fun _ _ => (y_unop rfl rfl r_not)) ?_
                    refine wU_val (v := .bool false) (wn rfl) rfl rfl (fun _ _ => (y_move rfl rfl)) ?_
                    refine wU_val (v := .pointer (some ⟨b31, 1, none⟩)) (wg rfl rfl rfl rfl) rfl rfl (fun _ _ => (y_fieldAddr rfl rfl (fa137_1 _ _ _))) ?_
                    refine wU_val (v := .int .i64 x29.body) (wg rfl rfl rfl rfl) rfl rfl (fun _ Sx46 => (y_load rfl rfl (r_load Try.underlying3 rfl (St.cl 0 Sx46 rfl rfl)))) ?_
                    by_cases h47 : 0 ≤ x29.body ∧ x29.body ≤ 1000000
                    · refine wU_call (v := .bool true) (vs := [.int .i64 x29.body, .int .i64 0, .int .i64 1000000]) (wg rfl rfl rfl rfl) rfl rfl (fun _ => (e_call (vs := [.int .i64 x29.body, .int .i64 0, .int .i64 1000000]) rfl en107 ⟨rfl, rfl, rfl, trivial⟩)) (fun _ Sx48 => (In_t h47 _).mono fun _ _ h => ⟨h.1, h.2 ▸ Sx48⟩) ?_
                      refine wU_val (v := .bool false) (wg rfl rfl rfl rfl) rfl rfl (fun _ _ => (y_unop rfl rfl r_not)) ?_
                      refine wU_val (v := .bool false) (wn rfl) rfl rfl (fun _ _ => (y_pick_f rfl rfl rfl)) ?_
                      refine wU_val (v := .bool false) (wn rfl) rfl rfl (fun _ _ => (y_move rfl rfl)) ?_
                      refine wU_val (v := .int .i64 ((k : Nat) : Int)) (wg rfl rfl rfl rfl) rfl rfl (fun _ _ => (y_move rfl rfl)) ?_
                      by_cases h53 : (0 : Int) < ((k : Nat) : Int)
                      · refine wU_val (v := .bool true) (wg rfl rfl rfl rfl) rfl rfl (fun _ _ => (y_binop rfl rfl rfl (r_gtr_t h53))) ?_
                        refine wU_val (v := .bool true) (wg rfl rfl rfl rfl) rfl rfl (fun _ _ => (y_move rfl rfl)) ?_
                        refine wU_val (v := .pointer (some ⟨b31, 0, none⟩)) (wg rfl rfl rfl rfl) rfl rfl (fun _ _ => (y_fieldAddr rfl rfl (fa137_0 _ _ _))) ?_
                        refine wU_val (v := .int .i64 x29.no) (wg rfl rfl rfl rfl) rfl rfl (fun _ Sx57 => (y_load rfl rfl (r_load Try.underlying3 rfl (St.cl 0 Sx57 rfl rfl)))) ?_
                        refine wU_val (v := .pointer (some ⟨b1, 3, none⟩)) (wg rfl rfl rfl rfl) rfl rfl (fun _ _ => (y_fieldAddr rfl rfl (fa29_3 _ _ _))) ?_
                        refine wU_val (v := .slice (some ⟨b27, o28, none⟩) rs.length c1) (wg rfl rfl rfl rfl) rfl rfl (fun _ Sx59 => (y_load rfl rfl (r_load Try.underlying22 rfl (St.cl 2 Sx59 rfl qRow_g3)))) ?_
                        refine wU_val (v := .int .i64 ((k : Nat) : Int)) (wg rfl rfl rfl rfl) rfl rfl (fun _ _ => (y_move rfl rfl)) ?_
                        refine wU_val (v := .int .i64 ((k - 1 : Nat) : Int)) (wg rfl rfl rfl rfl) rfl rfl (fun _ _ => (y_binop rfl rfl rfl (r_sub (by omega) (by omega)))) ?_
                        obtain ⟨x62, hx63⟩ : ∃ x, (rs)[k - 1]? = some x := ⟨_, List.getElem?_eq_getElem (by have := (St.rd 3 S35 rfl).1; rw [fm_len (sz := 2) (fun _ => rfl)] at this; omega)⟩
                        refine wU_val (v := .pointer (some ⟨b27, o28 + (k - 1) * 2, none⟩)) (wg rfl rfl rfl rfl) rfl rfl (fun _ _ => (y_indexAddr rfl rfl rfl (r_indexAddr (k - 1) Try.underlying22 inf137 (by omega) (by omega)))) ?_
                        refine wU_val (v := .pointer (some ⟨b27, o28 + (k - 1) * 2, none⟩)) (wg rfl rfl rfl rfl) rfl rfl (fun _ _ => (y_fieldAddr rfl rfl (fa137_0 _ _ _))) ?_
                        refine wU_val (v := .int .i64 x62.no) (wg rfl rfl rfl rfl) rfl rfl (fun _ Sx66 => (y_load rfl rfl (r_load Try.underlying3 rfl (Rd.cl2 (i := 0) (St.rd 3 Sx66 rfl) (fm_get (enc := Msg.cells) (sz := 2) (fun _ => rfl) hx63 rfl))))) ?_
                        by_cases h67 : x62.no < x29.no
                        · refine wU_val (v := .bool false) (wg rfl rfl rfl rfl) rfl rfl (fun _ _ => (y_binop rfl rfl rfl (r_leq_f (by omega)))) ?_
                          refine wU_val (v := .bool false) (wg rfl rfl rfl rfl) rfl rfl (fun _ _ => (y_pick_t rfl rfl rfl)) ?_
                          refine wU_val (v := .bool false) (wn rfl) rfl rfl (fun _ _ => (y_pick_f rfl rfl rfl)) ?_
                          refine wU_nil fun w71 S72 => ?_
                          refine wQ_sub (l' := [(1, .pointer (some ⟨b1, 0, none⟩)), (2, .int .i64 0), (4, .slice A4 k c4), (5, .int .i64 ((k : Nat) : Int)), (51, .bool true), (6, .pointer (some ⟨b31, 0, none⟩)), (87, .bool false)]) ⟨rfl, rfl, rfl, rfl, rfl, rfl, rfl, trivial⟩ ?_
                          refine wQ_then ?_
                          refine wC_cond_f rfl ?_
                          refine wC_skip ?_
                          refine wQ_then ?_
                          refine wC_region ?_
                          refine wL_val (v := .slice A4 k c4) (wn rfl) rfl rfl (y_move rfl rfl) ?_
                          refine wL_val (v := .pointer (some ⟨b31, 0, none⟩)) (wn rfl) rfl rfl (y_fieldAddr rfl rfl (fa137_0 _ _ _)) ?_
                          refine wL_val (v := .int .i64 x29.no) (wn rfl) rfl rfl (y_load rfl rfl (r_load Try.underlying3 rfl (St.cl 0 S72 rfl rfl))) ?_
                          refine wL_new (V := fun b => .slice (some ⟨b, 0, none⟩) 1 1) (row := #[.int .i64 x29.no]) (t := 3) S72 (wn rfl) rfl rfl (d_buildSlice (vs := [(0, .int .i64 x29.no)]) rfl ⟨rfl, rfl, trivial⟩ (by kernel_rfl)) ?_
                          intro b73 w74 S75
                          refine wL_append (news := [.int .i64 x29.no]) (xs' := ((rs.take (k + 1)).map (·.no)).flatMap oneI) 2 S75 (wn rfl) rfl rfl rfl rfl rfl rfl (St.bld (xs := [.int .i64 x29.no]) 0 S75 rfl rfl rfl) Try.underlying143 infz3 rfl (by decide) (oneAll rfl) (by simp only [maxLen]; omega) (by omega) (fm_snoc (enc := oneI) (take_map (f := fun m : Msg => m.no) hx30) rfl) ?_
                          intro A76 c77 w78 hc80 hm81 S79
                          change St _ _ _ [.blk b73 #[.int .i64 x29.no] 3, .blk b31 #[.int .i64 x29.no, .int .i64 x29.body] 137, .own 3 1 (.slice A76 (k + 1) c77) (k + 1) (((rs.take (k + 1)).map (·.no)).flatMap oneI), .blk b1 (qRow ep nx gv (.slice (some ⟨b27, o28, none⟩) rs.length c1) (.slice A2 ls.length c2) W) 29, .rd 2 (some ⟨b27, o28, none⟩) rs.length ((rs).flatMap Msg.cells), .rd 4 A2 ls.length ((ls).flatMap Ls.cells)] at S79
                          refine wL_val (v := .slice A76 (k + 1) c77) (wn rfl) rfl rfl (y_assign rfl rfl) ?_
                          refine wL_nil ?_
                          refine wQ_sub (l' := [(1, .pointer (some ⟨b1, 0, none⟩)), (2, .int .i64 0), (4, .slice A76 (k + 1) c77), (5, .int .i64 ((k : Nat) : Int)), (51, .bool true), (6, .pointer (some ⟨b31, 0, none⟩)), (87, .bool false)]) ⟨rfl, rfl, rfl, rfl, rfl, rfl, rfl, trivial⟩ ?_
                          refine wQ_blk_n ?_
                          refine wQ_then ?_
                          refine wC_region ?_
                          refine wL_val (v := .int .i64 ((k : Nat) : Int)) (wn rfl) rfl rfl (y_move rfl rfl) ?_
                          refine wL_val (v := .int .i64 ((k + 1 : Nat) : Int)) (wn rfl) rfl rfl (y_binop rfl rfl rfl (r_add (by omega) (by omega))) ?_
                          refine wL_val (v := .int .i64 ((k + 1 : Nat) : Int)) (wn rfl) rfl rfl (y_assign rfl rfl) ?_
                          refine wL_nil ?_
                          refine wQ_sub (l' := [(1, .pointer (some ⟨b1, 0, none⟩)), (2, .int .i64 0), (4, .slice A76 (k + 1) c77), (5, .int .i64 ((k + 1 : Nat) : Int)), (51, .bool true), (6, .pointer (some ⟨b31, 0, none⟩)), (87, .bool false)]) ⟨rfl, rfl, rfl, rfl, rfl, rfl, rfl, trivial⟩ ?_
                          have S82 : St w.heap.size w w78 [.own 3 1 (.slice A76 (k + 1) c77) (k + 1) (((rs.take (k + 1)).map (·.no)).flatMap oneI), .blk b1 (qRow ep nx gv (.slice (some ⟨b27, o28, none⟩) rs.length c1) (.slice A2 ls.length c2) W) 29, .rd 2 (some ⟨b27, o28, none⟩) rs.length ((rs).flatMap Msg.cells), .rd 4 A2 ls.length ((ls).flatMap Ls.cells)] := (St.del 0 (St.del 1 S79))
                          refine wQ_round (k + 1, A76, c77) ?_ ⟨rfl, rfl, rfl, rfl, trivial⟩ (by first | omega | (dsimp only; omega))
                          exact ⟨(by dsimp only; omega), (by dsimp only; rw [prevNo_succ hx30]; exact rdy_yes hi25 hx30 (msgOk_yes ⟨by omega, by omega, by omega, by omega⟩) (by rw [prevNo_pos h53 hx63]; exact h67)), S82⟩
                        · refine wU_val (v := .bool true) (wg rfl rfl rfl rfl) rfl rfl (fun _ _ => (y_binop rfl rfl rfl (r_leq_t (by omega)))) ?_
                          refine wU_val (v := .bool true) (wg rfl rfl rfl rfl) rfl rfl (fun _ _ => (y_pick_t rfl rfl rfl)) ?_
                          refine wU_val (v := .bool true) (wn rfl) rfl rfl (fun _ _ => (y_pick_f rfl rfl rfl)) ?_
                          refine wU_nil fun w86 S87 => ?_
                          refine wQ_sub (l' := [(1, .pointer (some ⟨b1, 0, none⟩)), (2, .int .i64 0), (4, .slice A4 k c4), (5, .int .i64 ((k : Nat) : Int)), (51, .bool true), (6, .pointer (some ⟨b31, 0, none⟩)), (87, .bool true)]) ⟨rfl, rfl, rfl, rfl, rfl, rfl, rfl, trivial⟩ ?_
                          refine wQ_then ?_
                          refine wC_cond_t rfl ?_
                          refine wC_seq ?_
                          refine wC_region ?_
                          refine wL_val (v := .int .i64 6) (wn rfl) rfl rfl (y_assign rfl rfl) ?_
                          refine wL_nil ?_
                          refine wQ_then ?_
                          refine wC_ret ?_
                          refine wQ_then_ret ?_
                          refine wQ_blk_ret ?_
                          refine wQ_then_ret ?_
                          refine wQ_then_ret ?_
                          refine wQ_blk_ret ?_
                          refine wQ_then_ret ?_
                          refine wQ_post (rs := [.tmp 2]) (vs := [.int .i64 6]) rfl ⟨rfl, trivial⟩ ?_
                          exact ⟨ret_int_ (qf_bad fun h => absurd h.2.1 (rdy_no hi25 hx30 fun h2 => by rw [prevNo_pos h53 hx63] at h2; omega)).symm, S87.low⟩
                      · refine wU_val (v := .bool false) (wg rfl rfl rfl rfl) rfl rfl (fun _ _ => (y_binop rfl rfl rfl (r_gtr_f h53))) ?_
                        refine wU_val (v := .bool false) (wg rfl rfl rfl rfl) rfl rfl (fun _ _ => (y_move rfl rfl)) ?_
                        refine wU_skip (wg rfl rfl rfl rfl) rfl rfl ?_
                        refine wU_skip (wg rfl rfl rfl rfl) rfl rfl ?_
                        refine wU_skip (wg rfl rfl rfl rfl) rfl rfl ?_
                        refine wU_skip (wg rfl rfl rfl rfl) rfl rfl ?_
                        refine wU_skip (wg rfl rfl rfl rfl) rfl rfl ?_
                        refine wU_skip (wg rfl rfl rfl rfl) rfl rfl ?_
                        refine wU_skip (wg rfl rfl rfl rfl) rfl rfl ?_
                        refine wU_skip (wg rfl rfl rfl rfl) rfl rfl ?_
                        refine wU_skip (wg rfl rfl rfl rfl) rfl rfl ?_
                        refine wU_skip (wg rfl rfl rfl rfl) rfl rfl ?_
                        refine wU_val (v := .bool false) (wg rfl rfl rfl rfl) rfl rfl (fun _ _ => (y_pick_f rfl rfl rfl)) ?_
                        refine wU_val (v := .bool false) (wn rfl) rfl rfl (fun _ _ => (y_pick_f rfl rfl rfl)) ?_
                        refine wU_nil fun w92 S93 => ?_
                        refine wQ_sub (l' := [(1, .pointer (some ⟨b1, 0, none⟩)), (2, .int .i64 0), (4, .slice A4 k c4), (5, .int .i64 ((k : Nat) : Int)), (51, .bool true), (6, .pointer (some ⟨b31, 0, none⟩)), (87, .bool false)]) ⟨rfl, rfl, rfl, rfl, rfl, rfl, rfl, trivial⟩ ?_
                        refine wQ_then ?_
                        refine wC_cond_f rfl ?_
                        refine wC_skip ?_
                        refine wQ_then ?_
                        refine wC_region ?_
                        refine wL_val (v := .slice A4 k c4) (wn rfl) rfl rfl (y_move rfl rfl) ?_
                        refine wL_val (v := .pointer (some ⟨b31, 0, none⟩)) (wn rfl) rfl rfl (y_fieldAddr rfl rfl (fa137_0 _ _ _)) ?_
                        refine wL_val (v := .int .i64 x29.no) (wn rfl) rfl rfl (y_load rfl rfl (r_load Try.underlying3 rfl (St.cl 0 S93 rfl rfl))) ?_
                        refine wL_new (V := fun b => .slice (some ⟨b, 0, none⟩) 1 1) (row := #[.int .i64 x29.no]) (t := 3) S93 (wn rfl) rfl rfl (d_buildSlice (vs := [(0, .int .i64 x29.no)]) rfl ⟨rfl, rfl, trivial⟩ (by kernel_rfl)) ?_
                        intro b94 w95 S96
                        refine wL_append (news := [.int .i64 x29.no]) (xs' := ((rs.take (k + 1)).map (·.no)).flatMap oneI) 2 S96 (wn rfl) rfl rfl rfl rfl rfl rfl (St.bld (xs := [.int .i64 x29.no]) 0 S96 rfl rfl rfl) Try.underlying143 infz3 rfl (by decide) (oneAll rfl) (by simp only [maxLen]; omega) (by omega) (fm_snoc (enc := oneI) (take_map (f := fun m : Msg => m.no) hx30) rfl) ?_
                        intro A97 c98 w99 hc101 hm102 S100
                        change St _ _ _ [.blk b94 #[.int .i64 x29.no] 3, .blk b31 #[.int .i64 x29.no, .int .i64 x29.body] 137, .own 3 1 (.slice A97 (k + 1) c98) (k + 1) (((rs.take (k + 1)).map (·.no)).flatMap oneI), .blk b1 (qRow ep nx gv (.slice (some ⟨b27, o28, none⟩) rs.length c1) (.slice A2 ls.length c2) W) 29, .rd 2 (some ⟨b27, o28, none⟩) rs.length ((rs).flatMap Msg.cells), .rd 4 A2 ls.length ((ls).flatMap Ls.cells)] at S100
                        refine wL_val (v := .slice A97 (k + 1) c98) (wn rfl) rfl rfl (y_assign rfl rfl) ?_
                        refine wL_nil ?_
                        refine wQ_sub (l' := [(1, .pointer (some ⟨b1, 0, none⟩)), (2, .int .i64 0), (4, .slice A97 (k + 1) c98), (5, .int .i64 ((k : Nat) : Int)), (51, .bool true), (6, .pointer (some ⟨b31, 0, none⟩)), (87, .bool false)]) ⟨rfl, rfl, rfl, rfl, rfl, rfl, rfl, trivial⟩ ?_
                        refine wQ_blk_n ?_
                        refine wQ_then ?_
                        refine wC_region ?_
                        refine wL_val (v := .int .i64 ((k : Nat) : Int)) (wn rfl) rfl rfl (y_move rfl rfl) ?_
                        refine wL_val (v := .int .i64 ((k + 1 : Nat) : Int)) (wn rfl) rfl rfl (y_binop rfl rfl rfl (r_add (by omega) (by omega))) ?_
                        refine wL_val (v := .int .i64 ((k + 1 : Nat) : Int)) (wn rfl) rfl rfl (y_assign rfl rfl) ?_
                        refine wL_nil ?_
                        refine wQ_sub (l' := [(1, .pointer (some ⟨b1, 0, none⟩)), (2, .int .i64 0), (4, .slice A97 (k + 1) c98), (5, .int .i64 ((k + 1 : Nat) : Int)), (51, .bool true), (6, .pointer (some ⟨b31, 0, none⟩)), (87, .bool false)]) ⟨rfl, rfl, rfl, rfl, rfl, rfl, rfl, trivial⟩ ?_
                        have S103 : St w.heap.size w w99 [.own 3 1 (.slice A97 (k + 1) c98) (k + 1) (((rs.take (k + 1)).map (·.no)).flatMap oneI), .blk b1 (qRow ep nx gv (.slice (some ⟨b27, o28, none⟩) rs.length c1) (.slice A2 ls.length c2) W) 29, .rd 2 (some ⟨b27, o28, none⟩) rs.length ((rs).flatMap Msg.cells), .rd 4 A2 ls.length ((ls).flatMap Ls.cells)] := (St.del 0 (St.del 1 S100))
                        refine wQ_round (k + 1, A97, c98) ?_ ⟨rfl, rfl, rfl, rfl, trivial⟩ (by first | omega | (dsimp only; omega))
                        exact ⟨(by dsimp only; omega), (by dsimp only; rw [prevNo_succ hx30]; exact rdy_yes hi25 hx30 (msgOk_yes ⟨by omega, by omega, by omega, by omega⟩) (by rw [prevNo_zero h53]; omega)), S103⟩
                    · refine wU_call (v := .bool false) (vs := [.int .i64 x29.body, .int .i64 0, .int .i64 1000000]) (wg rfl rfl rfl rfl) rfl rfl (fun _ => (e_call (vs := [.int .i64 x29.body, .int .i64 0, .int .i64 1000000]) rfl en107 ⟨rfl, rfl, rfl, trivial⟩)) (fun _ Sx104 => (In_f h47 _).mono fun _ _ h => ⟨h.1, h.2 ▸ Sx104⟩) ?_
                      refine wU_val (v := .bool true) (wg rfl rfl rfl rfl) rfl rfl (fun _ _ => (y_unop rfl rfl r_not)) ?_
                      refine wU_val (v := .bool true) (wn rfl) rfl rfl (fun _ _ => (y_pick_f rfl rfl rfl)) ?_
                      refine wU_val (v := .bool true) (wn rfl) rfl rfl (fun _ _ => (y_move rfl rfl)) ?_
                      refine wU_skip (wg rfl rfl rfl rfl) rfl rfl ?_
                      refine wU_skip (wg rfl rfl rfl rfl) rfl rfl ?_
                      refine wU_skip (wg rfl rfl rfl rfl) rfl rfl ?_
                      refine wU_skip (wg rfl rfl rfl rfl) rfl rfl ?_
                      refine wU_skip (wg rfl rfl rfl rfl) rfl rfl ?_
                      refine wU_skip (wg rfl rfl rfl rfl) rfl rfl ?_
                      refine wU_skip (wg rfl rfl rfl rfl) rfl rfl ?_
                      refine wU_skip (wg rfl rfl rfl rfl) rfl rfl ?_
                      refine wU_skip (wg rfl rfl rfl rfl) rfl rfl ?_
                      refine wU_skip (wg rfl rfl rfl rfl) rfl rfl ?_
                      refine wU_skip (wg rfl rfl rfl rfl) rfl rfl ?_
                      refine wU_skip (wg rfl rfl rfl rfl) rfl rfl ?_
                      refine wU_skip (wg rfl rfl rfl rfl) rfl rfl ?_
                      refine wU_skip (wg rfl rfl rfl rfl) rfl rfl ?_
                      refine wU_val (v := .bool true) (wn rfl) rfl rfl (fun _ _ => (y_pick_t rfl rfl rfl)) ?_
                      refine wU_nil fun w109 S110 => ?_
                      refine wQ_sub (l' := [(1, .pointer (some ⟨b1, 0, none⟩)), (2, .int .i64 0), (4, .slice A4 k c4), (5, .int .i64 ((k : Nat) : Int)), (51, .bool true), (6, .pointer (some ⟨b31, 0, none⟩)), (87, .bool true)]) ⟨rfl, rfl, rfl, rfl, rfl, rfl, rfl, trivial⟩ ?_
                      refine wQ_then ?_
                      refine wC_cond_t rfl ?_
                      refine wC_seq ?_
                      refine wC_region ?_
                      refine wL_val (v := .int .i64 6) (wn rfl) rfl rfl (y_assign rfl rfl) ?_
                      refine wL_nil ?_
                      refine wQ_then ?_
                      refine wC_ret ?_
                      refine wQ_then_ret ?_
                      refine wQ_blk_ret ?_
                      refine wQ_then_ret ?_
                      refine wQ_then_ret ?_
                      refine wQ_blk_ret ?_
                      refine wQ_then_ret ?_
                      refine wQ_post (rs := [.tmp 2]) (vs := [.int .i64 6]) rfl ⟨rfl, trivial⟩ ?_
                      exact ⟨ret_int_ (qf_bad fun h => absurd h.2.1 (rdy_no hi25 hx30 fun h2 => h47 (by have := msgOk_of h2.1; omega))).symm, S110.low⟩
                  · refine wU_call (v := .bool false) (vs := [.int .i64 x29.no, .int .i64 0, .int .i64 (nx - 1)]) (wn rfl) rfl rfl (fun _ => (e_call (vs := [.int .i64 x29.no, .int .i64 0, .int .i64 (nx - 1)]) rfl en107 ⟨rfl, rfl, rfl, trivial⟩)) (fun _ Sx111 => (In_f h41 _).mono fun _ _ h => ⟨h.1, h.2 ▸ Sx111⟩) ?_
                    refine wU_val (v := .bool true) (wn rfl) rfl rfl (fun _ _ => (y_unop rfl rfl r_not)) ?_
                    refine wU_val (v := .bool true) (wn rfl) rfl rfl (fun _ _ => (y_move rfl rfl)) ?_
                    refine wU_skip (wg rfl rfl rfl rfl) rfl rfl ?_
                    refine wU_skip (wg rfl rfl rfl rfl) rfl rfl ?_
                    refine wU_skip (wg rfl rfl rfl rfl) rfl rfl ?_
                    refine wU_skip (wg rfl rfl rfl rfl) rfl rfl ?_
                    refine wU_val (v := .bool true) (wn rfl) rfl rfl (fun _ _ => (y_pick_t rfl rfl rfl)) ?_
                    refine wU_val (v := .bool true) (wn rfl) rfl rfl (fun _ _ => (y_move rfl rfl)) ?_
                    refine wU_skip (wg rfl rfl rfl rfl) rfl rfl ?_
                    refine wU_skip (wg rfl rfl rfl rfl) rfl rfl ?_
                    refine wU_skip (wg rfl rfl rfl rfl) rfl rfl ?_
                    refine wU_skip (wg rfl rfl rfl rfl) rfl rfl ?_
                    refine wU_skip (wg rfl rfl rfl rfl) rfl rfl ?_
                    refine wU_skip (wg rfl rfl rfl rfl) rfl rfl ?_
                    refine wU_skip (wg rfl rfl rfl rfl) rfl rfl ?_
                    refine wU_skip (wg rfl rfl rfl rfl) rfl rfl ?_
                    refine wU_skip (wg rfl rfl rfl rfl) rfl rfl ?_
                    refine wU_skip (wg rfl rfl rfl rfl) rfl rfl ?_
                    refine wU_skip (wg rfl rfl rfl rfl) rfl rfl ?_
                    refine wU_skip (wg rfl rfl rfl rfl) rfl rfl ?_
                    refine wU_skip (wg rfl rfl rfl rfl) rfl rfl ?_
                    refine wU_skip (wg rfl rfl rfl rfl) rfl rfl ?_
                    refine wU_val (v := .bool true) (wn rfl) rfl rfl (fun _ _ => (y_pick_t rfl rfl rfl)) ?_
                    refine wU_nil fun w117 S118 => ?_
                    refine wQ_sub (l' := [(1, .pointer (some ⟨b1, 0, none⟩)), (2, .int .i64 0), (4, .slice A4 k c4), (5, .int .i64 ((k : Nat) : Int)), (51, .bool true), (6, .pointer (some ⟨b31, 0, none⟩)), (87, .bool true)]) ⟨rfl, rfl, rfl, rfl, rfl, rfl, rfl, trivial⟩ ?_
                    refine wQ_then ?_
                    refine wC_cond_t rfl ?_
                    refine wC_seq ?_
                    refine wC_region ?_
                    refine wL_val (v := .int .i64 6) (wn rfl) rfl rfl (y_assign rfl rfl) ?_
                    refine wL_nil ?_
                    refine wQ_then ?_
                    refine wC_ret ?_
                    refine wQ_then_ret ?_
                    refine wQ_blk_ret ?_
                    refine wQ_then_ret ?_
                    refine wQ_then_ret ?_
                    refine wQ_blk_ret ?_
                    refine wQ_then_ret ?_
                    refine wQ_post (rs := [.tmp 2]) (vs := [.int .i64 6]) rfl ⟨rfl, trivial⟩ ?_
                    exact ⟨ret_int_ (qf_bad fun h => absurd h.2.1 (rdy_no hi25 hx30 fun h2 => h41 (by have := msgOk_of h2.1; omega))).symm, S118.low⟩
                · refine wL_val (v := .bool false) (wn rfl) rfl rfl (y_binop rfl rfl rfl (r_lss_f h26)) ?_
                  refine wL_nil ?_
                  refine wQ_sub (l' := [(1, .pointer (some ⟨b1, 0, none⟩)), (2, .int .i64 0), (4, .slice A4 k c4), (5, .int .i64 ((k : Nat) : Int)), (51, .bool false)]) ⟨rfl, rfl, rfl, rfl, rfl, trivial⟩ ?_
                  refine wQ_then ?_
                  refine wC_cond_f rfl ?_
                  refine wC_exit ?_
                  refine wQ_then_exit ?_
                  refine wQ_then_exit ?_
                  refine wQ_blk_same ?_
                  refine wQ_then ?_
                  refine wC_seq ?_
                  refine wC_seq ?_
                  refine wC_region ?_
                  refine wL_val (v := .int .i64 0) (wn rfl) rfl rfl (y_assign rfl rfl) ?_
                  refine wL_nil ?_
                  refine wQ_then ?_
                  refine wC_block ?_
                  obtain rfl : k = rs.length := by omega
                  have hR119 : rdyFrom nx (-1) rs = true := by rw [hi25, List.drop_length]; rfl
                  have S120 := S23
                  rw [List.take_length, ← List.append_nil (rs.map (·.no))] at S120
                  change St _ _ _ [.own 3 1 (.slice A4 rs.length c4) rs.length ((rs.map (·.no) ++ (ls.take 0).map (·.msg.no)).flatMap oneI), .blk b1 (qRow ep nx gv (.slice A1 rs.length c1) (.slice A2 ls.length c2) W) 29, .rd 2 A1 rs.length ((rs).flatMap Msg.cells), .rd 4 A2 ls.length ((ls).flatMap Ls.cells)] at S120
                  refine wC_loop (X := Nat × (Option Addr) × Nat) (fun xv => [(1, .pointer (some ⟨b1, 0, none⟩)), (2, .int .i64 0), (4, .slice xv.2.1 (rs.length + xv.1) xv.2.2), (7, .int .i64 ((xv.1 : Nat) : Int))]) (fun xv wr => (xv.1 ≤ ls.length) ∧ (lsFrom ep nx gv (-1) ls = lsFrom ep nx gv (prevH ls xv.1) (ls.drop xv.1)) ∧ (-1 ≤ prevH ls xv.1) ∧ St w.heap.size w wr [.own 3 1 (.slice xv.2.1 (rs.length + xv.1) xv.2.2) (rs.length + xv.1) ((rs.map (·.no) ++ (ls.take xv.1).map (·.msg.no)).flatMap oneI), .blk b1 (qRow ep nx gv (.slice A1 rs.length c1) (.slice A2 ls.length c2) W) 29, .rd 2 A1 rs.length ((rs).flatMap Msg.cells), .rd 4 A2 ls.length ((ls).flatMap Ls.cells)]) (fun xv => ls.length - xv.1) (0, A4, c4) ?_ ?_ ?_
                  · exact ⟨Nat.zero_le _, rfl, (by simp [prevH]), S120⟩
                  · exact ⟨rfl, rfl, rfl, rfl, trivial⟩
                  · rintro ⟨k, A5, c5⟩ w121 ⟨hi123, hi124, hi125, S122⟩
                    try dsimp only at hi123 hi124 hi125 S122
                    refine wC_sub (l' := [(1, .pointer (some ⟨b1, 0, none⟩)), (2, .int .i64 0), (4, .slice A5 (rs.length + k) c5), (7, .int .i64 ((k : Nat) : Int))]) ⟨rfl, rfl, rfl, rfl, trivial⟩ ?_
                    refine wC_seq ?_
                    refine wC_seq ?_
                    refine wC_region ?_
                    refine wL_val (v := .int .i64 ((k : Nat) : Int)) (wn rfl) rfl rfl (y_move rfl rfl) ?_
                    refine wL_val (v := .pointer (some ⟨b1, 4, none⟩)) (wn rfl) rfl rfl (y_fieldAddr rfl rfl (fa29_4 _ _ _)) ?_
                    refine wL_val (v := .slice A2 ls.length c2) (wn rfl) rfl rfl (y_load rfl rfl (r_load Try.underlying23 rfl (St.cl 1 S122 rfl qRow_g4))) ?_
                    refine wL_val (v := .int .i64 ((ls.length : Nat) : Int)) (wn rfl) rfl rfl (y_builtin (vs := [.slice A2 ls.length c2]) rfl ⟨rfl, trivial⟩ fun _ => r_len rfl Try.underlying23) ?_
                    by_cases h126 : ((k : Nat) : Int) < ((ls.length : Nat) : Int)
                    · refine wL_val (v := .bool true) (wn rfl) rfl rfl (y_binop rfl rfl rfl (r_lss_t h126)) ?_
                      refine wL_nil ?_
                      refine wQ_sub (l' := [(1, .pointer (some ⟨b1, 0, none⟩)), (2, .int .i64 0), (4, .slice A5 (rs.length + k) c5), (7, .int .i64 ((k : Nat) : Int)), (97, .bool true)]) ⟨rfl, rfl, rfl, rfl, rfl, trivial⟩ ?_
                      refine wQ_then ?_
                      refine wC_cond_t rfl ?_
                      refine wC_skip ?_
                      refine wQ_then ?_
                      refine wC_seq ?_
                      refine wC_block ?_
                      refine wC_seq ?_
                      refine wC_region ?_
                      refine wL_val (v := .pointer (some ⟨b1, 4, none⟩)) (wn rfl) rfl rfl (y_fieldAddr rfl rfl (fa29_4 _ _ _)) ?_
                      refine wL_val (v := .slice A2 ls.length c2) (wn rfl) rfl rfl (y_load rfl rfl (r_load Try.underlying23 rfl (St.cl 1 S122 rfl qRow_g4))) ?_
                      refine wL_val (v := .int .i64 ((k : Nat) : Int)) (wn rfl) rfl rfl (y_move rfl rfl) ?_
                      obtain ⟨b127, o128, rfl⟩ := Rd.addr (St.rd 3 S122 rfl) (by omega)
                      obtain ⟨x129, hx130⟩ : ∃ x, (ls)[k]? = some x := ⟨_, List.getElem?_eq_getElem (by have := (St.rd 3 S122 rfl).1; rw [fm_len (sz := 4) (fun _ => rfl)] at this; omega)⟩
                      refine wL_val (v := .pointer (some ⟨b127, o128 + k * 4, none⟩)) (wn rfl) rfl rfl (y_indexAddr rfl rfl rfl (r_indexAddr k Try.underlying23 inf141 (by omega) (by omega))) ?_
                      refine wL_val (v := .agg #[.int .i64 x129.hep, .int .i64 x129.hno, .int .i64 x129.msg.no, .int .i64 x129.msg.body]) (wn rfl) rfl rfl (y_load rfl rfl (r_load_agg (cs := Ls.cells x129) Try.underlying141 rfl inf141 rfl (Rd.rg2 (St.rd 3 S122 rfl) (fun _ _ h => fm_get (enc := Ls.cells) (sz := 4) (fun _ => rfl) hx130 h)))) ?_
                      refine wL_new (V := fun b => .pointer (some ⟨b, 0, none⟩)) (row := #[.int .i64 0, .int .i64 0, .int .i64 0, .int .i64 0]) (t := 141) S122 (wn rfl) rfl rfl (d_alloc rfl (Try.zeroValue141 _) rfl) ?_
                      intro b131 w132 S133
                      refine wL_st (cs := #[.int .i64 x129.hep, .int .i64 x129.hno, .int .i64 x129.msg.no, .int .i64 x129.msg.body]) (row' := #[.int .i64 x129.hep, .int .i64 x129.hno, .int .i64 x129.msg.no, .int .i64 x129.msg.body]) (fs' := [.blk b131 #[.int .i64 x129.hep, .int .i64 x129.hno, .int .i64 x129.msg.no, .int .i64 x129.msg.body] 141, .own 3 1 (.slice A5 (rs.length + k) c5) (rs.length + k) ((rs.map (·.no) ++ (ls.take k).map (·.msg.no)).flatMap oneI), .blk b1 (qRow ep nx gv (.slice A1 rs.length c1) (.slice (some ⟨b127, o128, none⟩) ls.length c2) W) 29, .rd 2 A1 rs.length ((rs).flatMap Msg.cells), .rd 4 (some ⟨b127, o128, none⟩) ls.length ((ls).flatMap Ls.cells) ]) 0 S133 (wn rfl) rfl rfl rfl rfl rfl rfl inf141 rfl (oneAll rfl) (Nat.le_of_ble_eq_true rfl) rfl rfl ?_
                      intro w134 S135
                      refine wL_nil ?_
                      refine wQ_sub (l' := [(1, .pointer (some ⟨b1, 0, none⟩)), (2, .int .i64 0), (4, .slice A5 (rs.length + k) c5), (7, .int .i64 ((k : Nat) : Int)), (97, .bool true), (8, .pointer (some ⟨b131, 0, none⟩))]) ⟨rfl, rfl, rfl, rfl, rfl, rfl, trivial⟩ ?_
                      refine wQ_then ?_
                      refine wC_seq ?_
                      refine wC_seq ?_
                      refine wC_quiet S135 mixed (by kernel_rfl) ?_
                      refine wU_val (v := .pointer (some ⟨b131, 2, none⟩)) (wn rfl) rfl rfl (fun _ _ => (y_fieldAddr rfl rfl (fa141_1 _ _ _))) ?_
                      refine wU_val (v := .pointer (some ⟨b131, 2, none⟩)) (wn rfl) rfl rfl (fun _ _ => (y_fieldAddr rfl rfl (fa137_0 _ _ _))) ?_
                      refine wU_val (v := .int .i64 x129.msg.no) (wn rfl) rfl rfl (fun _ Sx138 => (y_load rfl rfl (r_load Try.underlying3 rfl (St.cl 0 Sx138 rfl rfl)))) ?_
                      refine wU_val (v := .pointer (some ⟨b1, 1, none⟩)) (wn rfl) rfl rfl (fun _ _ => (y_fieldAddr rfl rfl (fa29_1 _ _ _))) ?_
                      refine wU_val (v := .int .i64 nx) (wn rfl) rfl rfl (fun _ Sx140 => (y_load rfl rfl (r_load Try.underlying3 rfl (St.cl 2 Sx140 rfl qRow_g1)))) ?_
                      refine wU_val (v := .int .i64 (nx - 1)) (wn rfl) rfl rfl (fun _ _ => (y_binop rfl rfl rfl (r_sub (by omega) (by omega)))) ?_
                      by_cases h142 : 0 ≤ x129.msg.no ∧ x129.msg.no ≤ nx - 1
                      · refine wU_call (v := .bool true) (vs := [.int .i64 x129.msg.no, .int .i64 0, .int .i64 (nx - 1)]) (wn rfl) rfl rfl (fun _ => (e_call (vs := [.int .i64 x129.msg.no, .int .i64 0, .int .i64 (nx - 1)]) rfl en107 ⟨rfl, rfl, rfl, trivial⟩)) (fun _ Sx143 => (In_t h142 _).mono fun _ _ h => ⟨h.1, h.2 ▸ Sx143⟩) ?_
                        refine wU_val (v := .bool false) (wn rfl) rfl rfl (fun _ _ => (y_unop rfl rfl r_not)) ?_
                        refine wU_val (v := .bool false) (wn rfl) rfl rfl (fun _ _ => (y_move rfl rfl)) ?_
                        refine wU_val (v := .pointer (some ⟨b131, 2, none⟩)) (wg rfl rfl rfl rfl) rfl rfl (fun _ _ => (y_fieldAddr rfl rfl (fa141_1 _ _ _))) ?_
                        refine wU_val (v := .pointer (some ⟨b131, 3, none⟩)) (wg rfl rfl rfl rfl) rfl rfl (fun _ _ => (y_fieldAddr rfl rfl (fa137_1 _ _ _))) ?_
                        refine wU_val (v := .int .i64 x129.msg.body) (wg rfl rfl rfl rfl) rfl rfl (fun _ Sx148 => (y_load rfl rfl (r_load Try.underlying3 rfl (St.cl 0 Sx148 rfl rfl)))) ?_
                        by_cases h149 : 0 ≤ x129.msg.body ∧ x129.msg.body ≤ 1000000
                        · refine wU_call (v := .bool true) (vs := [.int .i64 x129.msg.body, .int .i64 0, .int .i64 1000000]) (wg rfl rfl rfl rfl) rfl rfl (fun _ => (e_call (vs := [.int .i64 x129.msg.body, .int .i64 0, .int .i64 1000000]) rfl en107 ⟨rfl, rfl, rfl, trivial⟩)) (fun _ Sx150 => (In_t h149 _).mono fun _ _ h => ⟨h.1, h.2 ▸ Sx150⟩) ?_
                          refine wU_val (v := .bool false) (wg rfl rfl rfl rfl) rfl rfl (fun _ _ => (y_unop rfl rfl r_not)) ?_
                          refine wU_val (v := .bool false) (wn rfl) rfl rfl (fun _ _ => (y_pick_f rfl rfl rfl)) ?_
                          refine wU_val (v := .bool false) (wn rfl) rfl rfl (fun _ _ => (y_move rfl rfl)) ?_
                          refine wU_val (v := .pointer (some ⟨b131, 0, none⟩)) (wg rfl rfl rfl rfl) rfl rfl (fun _ _ => (y_fieldAddr rfl rfl (fa141_0 _ _ _))) ?_
                          refine wU_val (v := .pointer (some ⟨b131, 0, none⟩)) (wg rfl rfl rfl rfl) rfl rfl (fun _ _ => (y_fieldAddr rfl rfl (fa35_0 _ _ _))) ?_
                          refine wU_val (v := .int .i64 x129.hep) (wg rfl rfl rfl rfl) rfl rfl (fun _ Sx156 => (y_load rfl rfl (r_load Try.underlying3 rfl (St.cl 0 Sx156 rfl rfl)))) ?_
                          refine wU_val (v := .pointer (some ⟨b1, 0, none⟩)) (wg rfl rfl rfl rfl) rfl rfl (fun _ _ => (y_fieldAddr rfl rfl (fa29_0 _ _ _))) ?_
                          refine wU_val (v := .int .i64 ep) (wg rfl rfl rfl rfl) rfl rfl (fun _ Sx158 => (y_load rfl rfl (r_load Try.underlying3 rfl (St.cl 2 Sx158 rfl qRow_g0)))) ?_
                          by_cases h159 : x129.hep = ep
                          · refine wU_val (v := .bool false) (wg rfl rfl rfl rfl) rfl rfl (fun _ _ => (y_binop rfl rfl rfl (r_neq_f h159))) ?_
                            refine wU_val (v := .bool false) (wn rfl) rfl rfl (fun _ _ => (y_pick_f rfl rfl rfl)) ?_
                            refine wU_val (v := .bool false) (wn rfl) rfl rfl (fun _ _ => (y_move rfl rfl)) ?_
                            refine wU_val (v := .pointer (some ⟨b131, 0, none⟩)) (wg rfl rfl rfl rfl) rfl rfl (fun _ _ => (y_fieldAddr rfl rfl (fa141_0 _ _ _))) ?_
                            refine wU_val (v := .pointer (some ⟨b131, 1, none⟩)) (wg rfl rfl rfl rfl) rfl rfl (fun _ _ => (y_fieldAddr rfl rfl (fa35_1 _ _ _))) ?_
                            refine wU_val (v := .int .i64 x129.hno) (wg rfl rfl rfl rfl) rfl rfl (fun _ Sx165 => (y_load rfl rfl (r_load Try.underlying3 rfl (St.cl 0 Sx165 rfl rfl)))) ?_
                            refine wU_val (v := .pointer (some ⟨b1, 2, none⟩)) (wg rfl rfl rfl rfl) rfl rfl (fun _ _ => (y_fieldAddr rfl rfl (fa29_2 _ _ _))) ?_
                            refine wU_val (v := .int .i64 gv) (wg rfl rfl rfl rfl) rfl rfl (fun _ Sx167 => (y_load rfl rfl (r_load Try.underlying3 rfl (St.cl 2 Sx167 rfl qRow_g2)))) ?_
                            refine wU_val (v := .int .i64 (gv - 1)) (wg rfl rfl rfl rfl) rfl rfl (fun _ _ => (y_binop rfl rfl rfl (r_sub (by omega) (by omega)))) ?_
                            by_cases h169 : 0 ≤ x129.hno ∧ x129.hno ≤ gv - 1
                            · refine wU_call (v := .bool true) (vs := [.int .i64 x129.hno, .int .i64 0, .int .i64 (gv - 1)]) (wg rfl rfl rfl rfl) rfl rfl (fun _ => (e_call (vs := [.int .i64 x129.hno, .int .i64 0, .int .i64 (gv - 1)]) rfl en107 ⟨rfl, rfl, rfl, trivial⟩)) (fun _ Sx170 => (In_t h169 _).mono fun _ _ h => ⟨h.1, h.2 ▸ Sx170⟩) ?_
                              refine wU_val (v := .bool false) (wg rfl rfl rfl rfl) rfl rfl (fun _ _ => (y_unop rfl rfl r_not)) ?_
                              refine wU_val (v := .bool false) (wn rfl) rfl rfl (fun _ _ => (y_pick_f rfl rfl rfl)) ?_
                              refine wU_val (v := .bool false) (wn rfl) rfl rfl (fun _ _ => (y_move rfl rfl)) ?_
                              refine wU_val (v := .int .i64 ((k : Nat) : Int)) (wg rfl rfl rfl rfl) rfl rfl (fun _ _ => (y_move rfl rfl)) ?_
                              by_cases h175 : (0 : Int) < ((k : Nat) : Int)
                              · refine wU_val (v := .bool true) (wg rfl rfl rfl rfl) rfl rfl (fun _ _ => (y_binop rfl rfl rfl (r_gtr_t h175))) ?_
                                refine wU_val (v := .bool true) (wg rfl rfl rfl rfl) rfl rfl (fun _ _ => (y_move rfl rfl)) ?_
                                refine wU_val (v := .pointer (some ⟨b131, 0, none⟩)) (wg rfl rfl rfl rfl) rfl rfl (fun _ _ => (y_fieldAddr rfl rfl (fa141_0 _ _ _))) ?_
                                refine wU_val (v := .pointer (some ⟨b131, 1, none⟩)) (wg rfl rfl rfl rfl) rfl rfl (fun _ _ => (y_fieldAddr rfl rfl (fa35_1 _ _ _))) ?_
                                refine wU_val (v := .int .i64 x129.hno) (wg rfl rfl rfl rfl) rfl rfl (fun _ Sx180 => (y_load rfl rfl (r_load Try.underlying3 rfl (St.cl 0 Sx180 rfl rfl)))) ?_
                                refine wU_val (v := .pointer (some ⟨b1, 4, none⟩)) (wg rfl rfl rfl rfl) rfl rfl (fun _ _ => (y_fieldAddr rfl rfl (fa29_4 _ _ _))) ?_
                                refine wU_val (v := .slice (some ⟨b127, o128, none⟩) ls.length c2) (wg rfl rfl rfl rfl) rfl rfl (fun _ Sx182 => (y_load rfl rfl (r_load Try.underlying23 rfl (St.cl 2 Sx182 rfl qRow_g4)))) ?_
                                refine wU_val (v := .int .i64 ((k : Nat) : Int)) (wg rfl rfl rfl rfl) rfl rfl (fun _ _ => (y_move rfl rfl)) ?_
                                refine wU_val (v := .int .i64 ((k - 1 : Nat) : Int)) (wg rfl rfl rfl rfl) rfl rfl (fun _ _ => (y_binop rfl rfl rfl (r_sub (by omega) (by omega)))) ?_
                                obtain ⟨x185, hx186⟩ : ∃ x, (ls)[k - 1]? = some x := ⟨_, List.getElem?_eq_getElem (by have := (St.rd 4 S135 rfl).1; rw [fm_len (sz := 4) (fun _ => rfl)] at this; omega)⟩
                                refine wU_val (v := .pointer (some ⟨b127, o128 + (k - 1) * 4, none⟩)) (wg rfl rfl rfl rfl) rfl rfl (fun _ _ => (y_indexAddr rfl rfl rfl (r_indexAddr (k - 1) Try.underlying23 inf141 (by omega) (by omega)))) ?_
                                refine wU_val (v := .pointer (some ⟨b127, o128 + (k - 1) * 4, none⟩)) (wg rfl rfl rfl rfl) rfl rfl (fun _ _ => (y_fieldAddr rfl rfl (fa141_0 _ _ _))) ?_
                                refine wU_val (v := .pointer (some ⟨b127, o128 + (k - 1) * 4 + 1, none⟩)) (wg rfl rfl rfl rfl) rfl rfl (fun _ _ => (y_fieldAddr rfl rfl (fa35_1 _ _ _))) ?_
                                refine wU_val (v := .int .i64 x185.hno) (wg rfl rfl rfl rfl) rfl rfl (fun _ Sx190 => (y_load rfl rfl (r_load Try.underlying3 rfl (Rd.cl2 (i := 1) (St.rd 4 Sx190 rfl) (fm_get (enc := Ls.cells) (sz := 4) (fun _ => rfl) hx186 rfl))))) ?_
                                by_cases h191 : x185.hno < x129.hno
                                · refine wU_val (v := .bool false) (wg rfl rfl rfl rfl) rfl rfl (fun _ _ => (y_binop rfl rfl rfl (r_leq_f (by omega)))) ?_
                                  refine wU_val (v := .bool false) (wg rfl rfl rfl rfl) rfl rfl (fun _ _ => (y_pick_t rfl rfl rfl)) ?_
                                  refine wU_val (v := .bool false) (wn rfl) rfl rfl (fun _ _ => (y_pick_f rfl rfl rfl)) ?_
                                  refine wU_nil fun w195 S196 => ?_
                                  refine wQ_sub (l' := [(1, .pointer (some ⟨b1, 0, none⟩)), (2, .int .i64 0), (4, .slice A5 (rs.length + k) c5), (7, .int .i64 ((k : Nat) : Int)), (97, .bool true), (8, .pointer (some ⟨b131, 0, none⟩)), (155, .bool false)]) ⟨rfl, rfl, rfl, rfl, rfl, rfl, rfl, trivial⟩ ?_
                                  refine wQ_then ?_
                                  refine wC_cond_f rfl ?_
                                  refine wC_skip ?_
                                  refine wQ_then ?_
                                  refine wC_region ?_
                                  refine wL_val (v := .slice A5 (rs.length + k) c5) (wn rfl) rfl rfl (y_move rfl rfl) ?_
                                  refine wL_val (v := .pointer (some ⟨b131, 2, none⟩)) (wn rfl) rfl rfl (y_fieldAddr rfl rfl (fa141_1 _ _ _)) ?_
                                  refine wL_val (v := .pointer (some ⟨b131, 2, none⟩)) (wn rfl) rfl rfl (y_fieldAddr rfl rfl (fa137_0 _ _ _)) ?_
                                  refine wL_val (v := .int .i64 x129.msg.no) (wn rfl) rfl rfl (y_load rfl rfl (r_load Try.underlying3 rfl (St.cl 0 S196 rfl rfl))) ?_
                                  refine wL_new (V := fun b => .slice (some ⟨b, 0, none⟩) 1 1) (row := #[.int .i64 x129.msg.no]) (t := 3) S196 (wn rfl) rfl rfl (d_buildSlice (vs := [(0, .int .i64 x129.msg.no)]) rfl ⟨rfl, rfl, trivial⟩ (by kernel_rfl)) ?_
                                  intro b197 w198 S199
                                  refine wL_append (news := [.int .i64 x129.msg.no]) (xs' := (rs.map (·.no) ++ (ls.take (k + 1)).map (·.msg.no)).flatMap oneI) 2 S199 (wn rfl) rfl rfl rfl rfl rfl rfl (St.bld (xs := [.int .i64 x129.msg.no]) 0 S199 rfl rfl rfl) Try.underlying143 infz3 rfl (by decide) (oneAll rfl) (by simp only [maxLen]; omega) (by omega) (fm_snoc (enc := oneI) (by rw [List.append_assoc, take_map (f := fun m : Ls => m.msg.no) hx130]) rfl) ?_
                                  intro A200 c201 w202 hc204 hm205 S203
                                  change St _ _ _ [.blk b197 #[.int .i64 x129.msg.no] 3, .blk b131 #[.int .i64 x129.hep, .int .i64 x129.hno, .int .i64 x129.msg.no, .int .i64 x129.msg.body] 141, .own 3 1 (.slice A200 ((rs.length + k) + 1) c201) ((rs.length + k) + 1) ((rs.map (·.no) ++ (ls.take (k + 1)).map (·.msg.no)).flatMap oneI), .blk b1 (qRow ep nx gv (.slice A1 rs.length c1) (.slice (some ⟨b127, o128, none⟩) ls.length c2) W) 29, .rd 2 A1 rs.length ((rs).flatMap Msg.cells), .rd 4 (some ⟨b127, o128, none⟩) ls.length ((ls).flatMap Ls.cells)] at S203
                                  refine wL_val (v := .slice A200 ((rs.length + k) + 1) c201) (wn rfl) rfl rfl (y_assign rfl rfl) ?_
                                  refine wL_nil ?_
                                  refine wQ_sub (l' := [(1, .pointer (some ⟨b1, 0, none⟩)), (2, .int .i64 0), (4, .slice A200 ((rs.length + k) + 1) c201), (7, .int .i64 ((k : Nat) : Int)), (97, .bool true), (8, .pointer (some ⟨b131, 0, none⟩)), (155, .bool false)]) ⟨rfl, rfl, rfl, rfl, rfl, rfl, rfl, trivial⟩ ?_
                                  refine wQ_blk_n ?_
                                  refine wQ_then ?_
                                  refine wC_region ?_
                                  refine wL_val (v := .int .i64 ((k : Nat) : Int)) (wn rfl) rfl rfl (y_move rfl rfl) ?_
                                  refine wL_val (v := .int .i64 ((k + 1 : Nat) : Int)) (wn rfl) rfl rfl (y_binop rfl rfl rfl (r_add (by omega) (by omega))) ?_
                                  refine wL_val (v := .int .i64 ((k + 1 : Nat) : Int)) (wn rfl) rfl rfl (y_assign rfl rfl) ?_
                                  refine wL_nil ?_
                                  refine wQ_sub (l' := [(1, .pointer (some ⟨b1, 0, none⟩)), (2, .int .i64 0), (4, .slice A200 ((rs.length + k) + 1) c201), (7, .int .i64 ((k + 1 : Nat) : Int)), (97, .bool true), (8, .pointer (some ⟨b131, 0, none⟩)), (155, .bool false)]) ⟨rfl, rfl, rfl, rfl, rfl, rfl, rfl, trivial⟩ ?_
                                  have S206 : St w.heap.size w w202 [.own 3 1 (.slice A200 ((rs.length + k) + 1) c201) ((rs.length + k) + 1) ((rs.map (·.no) ++ (ls.take (k + 1)).map (·.msg.no)).flatMap oneI), .blk b1 (qRow ep nx gv (.slice A1 rs.length c1) (.slice (some ⟨b127, o128, none⟩) ls.length c2) W) 29, .rd 2 A1 rs.length ((rs).flatMap Msg.cells), .rd 4 (some ⟨b127, o128, none⟩) ls.length ((ls).flatMap Ls.cells)] := (St.del 0 (St.del 1 S203))
                                  refine wQ_round (k + 1, A200, c201) ?_ ⟨rfl, rfl, rfl, rfl, trivial⟩ (by first | omega | (dsimp only; omega))
                                  exact ⟨(by dsimp only; omega), (by dsimp only; rw [prevH_succ hx130]; exact ls_yes hi124 hx130 (msgOk_yes ⟨by omega, by omega, by omega, by omega⟩) ⟨by omega, (by rw [prevH_pos h175 hx186]; exact h191), by omega⟩), (by dsimp only; rw [prevH_succ hx130]; omega), S206⟩
                                · refine wU_val (v := .bool true) (wg rfl rfl rfl rfl) rfl rfl (fun _ _ => (y_binop rfl rfl rfl (r_leq_t (by omega)))) ?_
                                  refine wU_val (v := .bool true) (wg rfl rfl rfl rfl) rfl rfl (fun _ _ => (y_pick_t rfl rfl rfl)) ?_
                                  refine wU_val (v := .bool true) (wn rfl) rfl rfl (fun _ _ => (y_pick_f rfl rfl rfl)) ?_
                                  refine wU_nil fun w210 S211 => ?_
                                  refine wQ_sub (l' := [(1, .pointer (some ⟨b1, 0, none⟩)), (2, .int .i64 0), (4, .slice A5 (rs.length + k) c5), (7, .int .i64 ((k : Nat) : Int)), (97, .bool true), (8, .pointer (some ⟨b131, 0, none⟩)), (155, .bool true)]) ⟨rfl, rfl, rfl, rfl, rfl, rfl, rfl, trivial⟩ ?_
                                  refine wQ_then ?_
                                  refine wC_cond_t rfl ?_
                                  refine wC_seq ?_
                                  refine wC_region ?_
                                  refine wL_val (v := .int .i64 6) (wn rfl) rfl rfl (y_assign rfl rfl) ?_
                                  refine wL_nil ?_
                                  refine wQ_then ?_
                                  refine wC_ret ?_
                                  refine wQ_then_ret ?_
                                  refine wQ_blk_ret ?_
                                  refine wQ_then_ret ?_
                                  refine wQ_then_ret ?_
                                  refine wQ_blk_ret ?_
                                  refine wQ_then_ret ?_
                                  refine wQ_post (rs := [.tmp 2]) (vs := [.int .i64 6]) rfl ⟨rfl, trivial⟩ ?_
                                  exact ⟨ret_int_ (qf_bad fun h => absurd h.2.2.1 (ls_no hi124 hx130 fun h2 => by rw [prevH_pos h175 hx186] at h2; omega)).symm, S211.low⟩
                              · refine wU_val (v := .bool false) (wg rfl rfl rfl rfl) rfl rfl (fun _ _ => (y_binop rfl rfl rfl (r_gtr_f h175))) ?_
                                refine wU_val (v := .bool false) (wg rfl rfl rfl rfl) rfl rfl (fun _ _ => (y_move rfl rfl)) ?_
                                refine wU_skip (wg rfl rfl rfl rfl) rfl rfl ?_
                                refine wU_skip (wg rfl rfl rfl rfl) rfl rfl ?_
                                refine wU_skip (wg rfl rfl rfl rfl) rfl rfl ?_
                                refine wU_skip (wg rfl rfl rfl rfl) rfl rfl ?_
                                refine wU_skip (wg rfl rfl rfl rfl) rfl rfl ?_
                                refine wU_skip (wg rfl rfl rfl rfl) rfl rfl ?_
                                refine wU_skip (wg rfl rfl rfl rfl) rfl rfl ?_
                                refine wU_skip (wg rfl rfl rfl rfl) rfl rfl ?_
                                refine wU_skip (wg rfl rfl rfl rfl) rfl rfl ?_
                                refine wU_skip (wg rfl rfl rfl rfl) rfl rfl ?_
                                refine wU_skip (wg rfl rfl rfl rfl) rfl rfl ?_
                                refine wU_skip (wg rfl rfl rfl rfl) rfl rfl ?_
                                refine wU_val (v := .bool false) (wg rfl rfl rfl rfl) rfl rfl (fun _ _ => (y_pick_f rfl rfl rfl)) ?_
                                refine wU_val (v := .bool false) (wn rfl) rfl rfl (fun _ _ => (y_pick_f rfl rfl rfl)) ?_
                                refine wU_nil fun w216 S217 => ?_
                                refine wQ_sub (l' := [(1, .pointer (some ⟨b1, 0, none⟩)), (2, .int .i64 0), (4, .slice A5 (rs.length + k) c5), (7, .int .i64 ((k : Nat) : Int)), (97, .bool true), (8, .pointer (some ⟨b131, 0, none⟩)), (155, .bool false)]) ⟨rfl, rfl, rfl, rfl, rfl, rfl, rfl, trivial⟩ ?_
                                refine wQ_then ?_
                                refine wC_cond_f rfl ?_
                                refine wC_skip ?_
                                refine wQ_then ?_
                                refine wC_region ?_
                                refine wL_val (v := .slice A5 (rs.length + k) c5) (wn rfl) rfl rfl (y_move rfl rfl) ?_
                                refine wL_val (v := .pointer (some ⟨b131, 2, none⟩)) (wn rfl) rfl rfl (y_fieldAddr rfl rfl (fa141_1 _ _ _)) ?_
                                refine wL_val (v := .pointer (some ⟨b131, 2, none⟩)) (wn rfl) rfl rfl (y_fieldAddr rfl rfl (fa137_0 _ _ _)) ?_
                                refine wL_val (v := .int .i64 x129.msg.no) (wn rfl) rfl rfl (y_load rfl rfl (r_load Try.underlying3 rfl (St.cl 0 S217 rfl rfl))) ?_
                                refine wL_new (V := fun b => .slice (some ⟨b, 0, none⟩) 1 1) (row := #[.int .i64 x129.msg.no]) (t := 3) S217 (wn rfl) rfl rfl (d_buildSlice (vs := [(0, .int .i64 x129.msg.no)]) rfl ⟨rfl, rfl, trivial⟩ (by kernel_rfl)) ?_
                                intro b218 w219 S220
                                refine wL_append (news := [.int .i64 x129.msg.no]) (xs' := (rs.map (·.no) ++ (ls.take (k + 1)).map (·.msg.no)).flatMap oneI) 2 S220 (wn rfl) rfl rfl rfl rfl rfl rfl (St.bld (xs := [.int .i64 x129.msg.no]) 0 S220 rfl rfl rfl) Try.underlying143 infz3 rfl (by decide) (oneAll rfl) (by simp only [maxLen]; omega) (by omega) (fm_snoc (enc := oneI) (by rw [List.append_assoc, take_map (f := fun m : Ls => m.msg.no) hx130]) rfl) ?_
                                intro A221 c222 w223 hc225 hm226 S224
                                change St _ _ _ [.blk b218 #[.int .i64 x129.msg.no] 3, .blk b131 #[.int .i64 x129.hep, .int .i64 x129.hno, .int .i64 x129.msg.no, .int .i64 x129.msg.body] 141, .own 3 1 (.slice A221 ((rs.length + k) + 1) c222) ((rs.length + k) + 1) ((rs.map (·.no) ++ (ls.take (k + 1)).map (·.msg.no)).flatMap oneI), .blk b1 (qRow ep nx gv (.slice A1 rs.length c1) (.slice (some ⟨b127, o128, none⟩) ls.length c2) W) 29, .rd 2 A1 rs.length ((rs).flatMap Msg.cells), .rd 4 (some ⟨b127, o128, none⟩) ls.length ((ls).flatMap Ls.cells)] at S224
                                refine wL_val (v := .slice A221 ((rs.length + k) + 1) c222) (wn rfl) rfl rfl (y_assign rfl rfl) ?_
                                refine wL_nil ?_
                                refine wQ_sub (l' := [(1, .pointer (some ⟨b1, 0, none⟩)), (2, .int .i64 0), (4, .slice A221 ((rs.length + k) + 1) c222), (7, .int .i64 ((k : Nat) : Int)), (97, .bool true), (8, .pointer (some ⟨b131, 0, none⟩)), (155, .bool false)]) ⟨rfl, rfl, rfl, rfl, rfl, rfl, rfl, trivial⟩ ?_
                                refine wQ_blk_n ?_
                                refine wQ_then ?_
                                refine wC_region ?_
                                refine wL_val (v := .int .i64 ((k : Nat) : Int)) (wn rfl) rfl rfl (y_move rfl rfl) ?_
                                refine wL_val (v := .int .i64 ((k + 1 : Nat) : Int)) (wn rfl) rfl rfl (y_binop rfl rfl rfl (r_add (by omega) (by omega))) ?_
                                refine wL_val (v := .int .i64 ((k + 1 : Nat) : Int)) (wn rfl) rfl rfl (y_assign rfl rfl) ?_
                                refine wL_nil ?_
                                refine wQ_sub (l' := [(1, .pointer (some ⟨b1, 0, none⟩)), (2, .int .i64 0), (4, .slice A221 ((rs.length + k) + 1) c222), (7, .int .i64 ((k + 1 : Nat) : Int)), (97, .bool true), (8, .pointer (some ⟨b131, 0, none⟩)), (155, .bool false)]) ⟨rfl, rfl, rfl, rfl, rfl, rfl, rfl, trivial⟩ ?_
                                have S227 : St w.heap.size w w223 [.own 3 1 (.slice A221 ((rs.length + k) + 1) c222) ((rs.length + k) + 1) ((rs.map (·.no) ++ (ls.take (k + 1)).map (·.msg.no)).flatMap oneI), .blk b1 (qRow ep nx gv (.slice A1 rs.length c1) (.slice (some ⟨b127, o128, none⟩) ls.length c2) W) 29, .rd 2 A1 rs.length ((rs).flatMap Msg.cells), .rd 4 (some ⟨b127, o128, none⟩) ls.length ((ls).flatMap Ls.cells)] := (St.del 0 (St.del 1 S224))
                                refine wQ_round (k + 1, A221, c222) ?_ ⟨rfl, rfl, rfl, rfl, trivial⟩ (by first | omega | (dsimp only; omega))
                                exact ⟨(by dsimp only; omega), (by dsimp only; rw [prevH_succ hx130]; exact ls_yes hi124 hx130 (msgOk_yes ⟨by omega, by omega, by omega, by omega⟩) ⟨by omega, (by rw [prevH_zero h175]; omega), by omega⟩), (by dsimp only; rw [prevH_succ hx130]; omega), S227⟩
                            · refine wU_call (v := .bool false) (vs := [.int .i64 x129.hno, .int .i64 0, .int .i64 (gv - 1)]) (wg rfl rfl rfl rfl) rfl rfl (fun _ => (e_call (vs := [.int .i64 x129.hno, .int .i64 0, .int .i64 (gv - 1)]) rfl en107 ⟨rfl, rfl, rfl, trivial⟩)) (fun _ Sx228 => (In_f h169 _).mono fun _ _ h => ⟨h.1, h.2 ▸ Sx228⟩) ?_
                              refine wU_val (v := .bool true) (wg rfl rfl rfl rfl) rfl rfl (fun _ _ => (y_unop rfl rfl r_not)) ?_
                              refine wU_val (v := .bool true) (wn rfl) rfl rfl (fun _ _ => (y_pick_f rfl rfl rfl)) ?_
                              refine wU_val (v := .bool true) (wn rfl) rfl rfl (fun _ _ => (y_move rfl rfl)) ?_
                              refine wU_skip (wg rfl rfl rfl rfl) rfl rfl ?_
                              refine wU_skip (wg rfl rfl rfl rfl) rfl rfl ?_
                              refine wU_skip (wg rfl rfl rfl rfl) rfl rfl ?_
                              refine wU_skip (wg rfl rfl rfl rfl) rfl rfl ?_
                              refine wU_skip (wg rfl rfl rfl rfl) rfl rfl ?_
                              refine wU_skip (wg rfl rfl rfl rfl) rfl rfl ?_
                              refine wU_skip (wg rfl rfl rfl rfl) rfl rfl ?_
                              refine wU_skip (wg rfl rfl rfl rfl) rfl rfl ?_
                              refine wU_skip (wg rfl rfl rfl rfl) rfl rfl ?_
                              refine wU_skip (wg rfl rfl rfl rfl) rfl rfl ?_
                              refine wU_skip (wg rfl rfl rfl rfl) rfl rfl ?_
                              refine wU_skip (wg rfl rfl rfl rfl) rfl rfl ?_
                              refine wU_skip (wg rfl rfl rfl rfl) rfl rfl ?_
                              refine wU_skip (wg rfl rfl rfl rfl) rfl rfl ?_
                              refine wU_skip (wg rfl rfl rfl rfl) rfl rfl ?_
                              refine wU_skip (wg rfl rfl rfl rfl) rfl rfl ?_
                              refine wU_val (v := .bool true) (wn rfl) rfl rfl (fun _ _ => (y_pick_t rfl rfl rfl)) ?_
                              refine wU_nil fun w233 S234 => ?_
                              refine wQ_sub (l' := [(1, .pointer (some ⟨b1, 0, none⟩)), (2, .int .i64 0), (4, .slice A5 (rs.length + k) c5), (7, .int .i64 ((k : Nat) : Int)), (97, .bool true), (8, .pointer (some ⟨b131, 0, none⟩)), (155, .bool true)]) ⟨rfl, rfl, rfl, rfl, rfl, rfl, rfl, trivial⟩ ?_
                              refine wQ_then ?_
                              refine wC_cond_t rfl ?_
                              refine wC_seq ?_
                              refine wC_region ?_
                              refine wL_val (v := .int .i64 6) (wn rfl) rfl rfl (y_assign rfl rfl) ?_
                              refine wL_nil ?_
                              refine wQ_then ?_
                              refine wC_ret ?_
                              refine wQ_then_ret ?_
                              refine wQ_blk_ret ?_
                              refine wQ_then_ret ?_
                              refine wQ_then_ret ?_
                              refine wQ_blk_ret ?_
                              refine wQ_then_ret ?_
                              refine wQ_post (rs := [.tmp 2]) (vs := [.int .i64 6]) rfl ⟨rfl, trivial⟩ ?_
                              exact ⟨ret_int_ (qf_bad fun h => absurd h.2.2.1 (ls_no hi124 hx130 fun h2 => by have := hi125; omega)).symm, S234.low⟩
                          · refine wU_val (v := .bool true) (wg rfl rfl rfl rfl) rfl rfl (fun _ _ => (y_binop rfl rfl rfl (r_neq_t h159))) ?_
                            refine wU_val (v := .bool true) (wn rfl) rfl rfl (fun _ _ => (y_pick_f rfl rfl rfl)) ?_
                            refine wU_val (v := .bool true) (wn rfl) rfl rfl (fun _ _ => (y_move rfl rfl)) ?_
                            refine wU_skip (wg rfl rfl rfl rfl) rfl rfl ?_
                            refine wU_skip (wg rfl rfl rfl rfl) rfl rfl ?_
                            refine wU_skip (wg rfl rfl rfl rfl) rfl rfl ?_
                            refine wU_skip (wg rfl rfl rfl rfl) rfl rfl ?_
                            refine wU_skip (wg rfl rfl rfl rfl) rfl rfl ?_
                            refine wU_skip (wg rfl rfl rfl rfl) rfl rfl ?_
                            refine wU_skip (wg rfl rfl rfl rfl) rfl rfl ?_
                            refine wU_skip (wg rfl rfl rfl rfl) rfl rfl ?_
                            refine wU_val (v := .bool true) (wn rfl) rfl rfl (fun _ _ => (y_pick_t rfl rfl rfl)) ?_
                            refine wU_val (v := .bool true) (wn rfl) rfl rfl (fun _ _ => (y_move rfl rfl)) ?_
                            refine wU_skip (wg rfl rfl rfl rfl) rfl rfl ?_
                            refine wU_skip (wg rfl rfl rfl rfl) rfl rfl ?_
                            refine wU_skip (wg rfl rfl rfl rfl) rfl rfl ?_
                            refine wU_skip (wg rfl rfl rfl rfl) rfl rfl ?_
                            refine wU_skip (wg rfl rfl rfl rfl) rfl rfl ?_
                            refine wU_skip (wg rfl rfl rfl rfl) rfl rfl ?_
                            refine wU_skip (wg rfl rfl rfl rfl) rfl rfl ?_
                            refine wU_skip (wg rfl rfl rfl rfl) rfl rfl ?_
                            refine wU_skip (wg rfl rfl rfl rfl) rfl rfl ?_
                            refine wU_skip (wg rfl rfl rfl rfl) rfl rfl ?_
                            refine wU_skip (wg rfl rfl rfl rfl) rfl rfl ?_
                            refine wU_skip (wg rfl rfl rfl rfl) rfl rfl ?_
                            refine wU_skip (wg rfl rfl rfl rfl) rfl rfl ?_
                            refine wU_skip (wg rfl rfl rfl rfl) rfl rfl ?_
                            refine wU_skip (wg rfl rfl rfl rfl) rfl rfl ?_
                            refine wU_skip (wg rfl rfl rfl rfl) rfl rfl ?_
                            refine wU_val (v := .bool true) (wn rfl) rfl rfl (fun _ _ => (y_pick_t rfl rfl rfl)) ?_
                            refine wU_nil fun w241 S242 => ?_
                            refine wQ_sub (l' := [(1, .pointer (some ⟨b1, 0, none⟩)), (2, .int .i64 0), (4, .slice A5 (rs.length + k) c5), (7, .int .i64 ((k : Nat) : Int)), (97, .bool true), (8, .pointer (some ⟨b131, 0, none⟩)), (155, .bool true)]) ⟨rfl, rfl, rfl, rfl, rfl, rfl, rfl, trivial⟩ ?_
                            refine wQ_then ?_
                            refine wC_cond_t rfl ?_
                            refine wC_seq ?_
                            refine wC_region ?_
                            refine wL_val (v := .int .i64 6) (wn rfl) rfl rfl (y_assign rfl rfl) ?_
                            refine wL_nil ?_
                            refine wQ_then ?_
                            refine wC_ret ?_
                            refine wQ_then_ret ?_
                            refine wQ_blk_ret ?_
                            refine wQ_then_ret ?_
                            refine wQ_then_ret ?_
                            refine wQ_blk_ret ?_
                            refine wQ_then_ret ?_
                            refine wQ_post (rs := [.tmp 2]) (vs := [.int .i64 6]) rfl ⟨rfl, trivial⟩ ?_
                            exact ⟨ret_int_ (qf_bad fun h => absurd h.2.2.1 (ls_no hi124 hx130 fun h2 => h159 h2.2.1)).symm, S242.low⟩
                        · refine wU_call (v := .bool false) (vs := [.int .i64 x129.msg.body, .int .i64 0, .int .i64 1000000]) (wg rfl rfl rfl rfl) rfl rfl (fun _ => (e_call (vs := [.int .i64 x129.msg.body, .int .i64 0, .int .i64 1000000]) rfl en107 ⟨rfl, rfl, rfl, trivial⟩)) (fun _ Sx243 => (In_f h149 _).mono fun _ _ h => ⟨h.1, h.2 ▸ Sx243⟩) ?_
                          refine wU_val (v := .bool true) (wg rfl rfl rfl rfl) rfl rfl (fun _ _ => (y_unop rfl rfl r_not)) ?_
                          refine wU_val (v := .bool true) (wn rfl) rfl rfl (fun _ _ => (y_pick_f rfl rfl rfl)) ?_
                          refine wU_val (v := .bool true) (wn rfl) rfl rfl (fun _ _ => (y_move rfl rfl)) ?_
                          refine wU_skip (wg rfl rfl rfl rfl) rfl rfl ?_
                          refine wU_skip (wg rfl rfl rfl rfl) rfl rfl ?_
                          refine wU_skip (wg rfl rfl rfl rfl) rfl rfl ?_
                          refine wU_skip (wg rfl rfl rfl rfl) rfl rfl ?_
                          refine wU_skip (wg rfl rfl rfl rfl) rfl rfl ?_
                          refine wU_skip (wg rfl rfl rfl rfl) rfl rfl ?_
                          refine wU_val (v := .bool true) (wn rfl) rfl rfl (fun _ _ => (y_pick_t rfl rfl rfl)) ?_
                          refine wU_val (v := .bool true) (wn rfl) rfl rfl (fun _ _ => (y_move rfl rfl)) ?_
                          refine wU_skip (wg rfl rfl rfl rfl) rfl rfl ?_
                          refine wU_skip (wg rfl rfl rfl rfl) rfl rfl ?_
                          refine wU_skip (wg rfl rfl rfl rfl) rfl rfl ?_
                          refine wU_skip (wg rfl rfl rfl rfl) rfl rfl ?_
                          refine wU_skip (wg rfl rfl rfl rfl) rfl rfl ?_
                          refine wU_skip (wg rfl rfl rfl rfl) rfl rfl ?_
                          refine wU_skip (wg rfl rfl rfl rfl) rfl rfl ?_
                          refine wU_skip (wg rfl rfl rfl rfl) rfl rfl ?_
                          refine wU_val (v := .bool true) (wn rfl) rfl rfl (fun _ _ => (y_pick_t rfl rfl rfl)) ?_
                          refine wU_val (v := .bool true) (wn rfl) rfl rfl (fun _ _ => (y_move rfl rfl)) ?_
                          refine wU_skip (wg rfl rfl rfl rfl) rfl rfl ?_
                          refine wU_skip (wg rfl rfl rfl rfl) rfl rfl ?_
                          refine wU_skip (wg rfl rfl rfl rfl) rfl rfl ?_
                          refine wU_skip (wg rfl rfl rfl rfl) rfl rfl ?_
                          refine wU_skip (wg rfl rfl rfl rfl) rfl rfl ?_
                          refine wU_skip (wg rfl rfl rfl rfl) rfl rfl ?_
                          refine wU_skip (wg rfl rfl rfl rfl) rfl rfl ?_
                          refine wU_skip (wg rfl rfl rfl rfl) rfl rfl ?_
                          refine wU_skip (wg rfl rfl rfl rfl) rfl rfl ?_
                          refine wU_skip (wg rfl rfl rfl rfl) rfl rfl ?_
                          refine wU_skip (wg rfl rfl rfl rfl) rfl rfl ?_
                          refine wU_skip (wg rfl rfl rfl rfl) rfl rfl ?_
                          refine wU_skip (wg rfl rfl rfl rfl) rfl rfl ?_
                          refine wU_skip (wg rfl rfl rfl rfl) rfl rfl ?_
                          refine wU_skip (wg rfl rfl rfl rfl) rfl rfl ?_
                          refine wU_skip (wg rfl rfl rfl rfl) rfl rfl ?_
                          refine wU_val (v := .bool true) (wn rfl) rfl rfl (fun _ _ => (y_pick_t rfl rfl rfl)) ?_
                          refine wU_nil fun w252 S253 => ?_
                          refine wQ_sub (l' := [(1, .pointer (some ⟨b1, 0, none⟩)), (2, .int .i64 0), (4, .slice A5 (rs.length + k) c5), (7, .int .i64 ((k : Nat) : Int)), (97, .bool true), (8, .pointer (some ⟨b131, 0, none⟩)), (155, .bool true)]) ⟨rfl, rfl, rfl, rfl, rfl, rfl, rfl, trivial⟩ ?_
                          refine wQ_then ?_
                          refine wC_cond_t rfl ?_
                          refine wC_seq ?_
                          refine wC_region ?_
                          refine wL_val (v := .int .i64 6) (wn rfl) rfl rfl (y_assign rfl rfl) ?_
                          refine wL_nil ?_
                          refine wQ_then ?_
                          refine wC_ret ?_
                          refine wQ_then_ret ?_
                          refine wQ_blk_ret ?_
                          refine wQ_then_ret ?_
                          refine wQ_then_ret ?_
                          refine wQ_blk_ret ?_
                          refine wQ_then_ret ?_
                          refine wQ_post (rs := [.tmp 2]) (vs := [.int .i64 6]) rfl ⟨rfl, trivial⟩ ?_
                          exact ⟨ret_int_ (qf_bad fun h => absurd h.2.2.1 (ls_no hi124 hx130 fun h2 => h149 (by have := msgOk_of h2.1; omega))).symm, S253.low⟩
                      · refine wU_call (v := .bool false) (vs := [.int .i64 x129.msg.no, .int .i64 0, .int .i64 (nx - 1)]) (wn rfl) rfl rfl (fun _ => (e_call (vs := [.int .i64 x129.msg.no, .int .i64 0, .int .i64 (nx - 1)]) rfl en107 ⟨rfl, rfl, rfl, trivial⟩)) (fun _ Sx254 => (In_f h142 _).mono fun _ _ h => ⟨h.1, h.2 ▸ Sx254⟩) ?_
                        refine wU_val (v := .bool true) (wn rfl) rfl rfl (fun _ _ => (y_unop rfl rfl r_not)) ?_
                        refine wU_val (v := .bool true) (wn rfl) rfl rfl (fun _ _ => (y_move rfl rfl)) ?_
                        refine wU_skip (wg rfl rfl rfl rfl) rfl rfl ?_
                        refine wU_skip (wg rfl rfl rfl rfl) rfl rfl ?_
                        refine wU_skip (wg rfl rfl rfl rfl) rfl rfl ?_
                        refine wU_skip (wg rfl rfl rfl rfl) rfl rfl ?_
                        refine wU_skip (wg rfl rfl rfl rfl) rfl rfl ?_
                        refine wU_val (v := .bool true) (wn rfl) rfl rfl (fun _ _ => (y_pick_t rfl rfl rfl)) ?_
                        refine wU_val (v := .bool true) (wn rfl) rfl rfl (fun _ _ => (y_move rfl rfl)) ?_
                        refine wU_skip (wg rfl rfl rfl rfl) rfl rfl ?_
                        refine wU_skip (wg rfl rfl rfl rfl) rfl rfl ?_
                        refine wU_skip (wg rfl rfl rfl rfl) rfl rfl ?_
                        refine wU_skip (wg rfl rfl rfl rfl) rfl rfl ?_
                        refine wU_skip (wg rfl rfl rfl rfl) rfl rfl ?_
                        refine wU_skip (wg rfl rfl rfl rfl) rfl rfl ?_
                        refine wU_val (v := .bool true) (wn rfl) rfl rfl (fun _ _ => (y_pick_t rfl rfl rfl)) ?_
                        refine wU_val (v := .bool true) (wn rfl) rfl rfl (fun _ _ => (y_move rfl rfl)) ?_
                        refine wU_skip (wg rfl rfl rfl rfl) rfl rfl ?_
                        refine wU_skip (wg rfl rfl rfl rfl) rfl rfl ?_
                        refine wU_skip (wg rfl rfl rfl rfl) rfl rfl ?_
                        refine wU_skip (wg rfl rfl rfl rfl) rfl rfl ?_
                        refine wU_skip (wg rfl rfl rfl rfl) rfl rfl ?_
                        refine wU_skip (wg rfl rfl rfl rfl) rfl rfl ?_
                        refine wU_skip (wg rfl rfl rfl rfl) rfl rfl ?_
                        refine wU_skip (wg rfl rfl rfl rfl) rfl rfl ?_
                        refine wU_val (v := .bool true) (wn rfl) rfl rfl (fun _ _ => (y_pick_t rfl rfl rfl)) ?_
                        refine wU_val (v := .bool true) (wn rfl) rfl rfl (fun _ _ => (y_move rfl rfl)) ?_
                        refine wU_skip (wg rfl rfl rfl rfl) rfl rfl ?_
                        refine wU_skip (wg rfl rfl rfl rfl) rfl rfl ?_
                        refine wU_skip (wg rfl rfl rfl rfl) rfl rfl ?_
                        refine wU_skip (wg rfl rfl rfl rfl) rfl rfl ?_
                        refine wU_skip (wg rfl rfl rfl rfl) rfl rfl ?_
                        refine wU_skip (wg rfl rfl rfl rfl) rfl rfl ?_
                        refine wU_skip (wg rfl rfl rfl rfl) rfl rfl ?_
                        refine wU_skip (wg rfl rfl rfl rfl) rfl rfl ?_
                        refine wU_skip (wg rfl rfl rfl rfl) rfl rfl ?_
                        refine wU_skip (wg rfl rfl rfl rfl) rfl rfl ?_
                        refine wU_skip (wg rfl rfl rfl rfl) rfl rfl ?_
                        refine wU_skip (wg rfl rfl rfl rfl) rfl rfl ?_
                        refine wU_skip (wg rfl rfl rfl rfl) rfl rfl ?_
                        refine wU_skip (wg rfl rfl rfl rfl) rfl rfl ?_
                        refine wU_skip (wg rfl rfl rfl rfl) rfl rfl ?_
                        refine wU_skip (wg rfl rfl rfl rfl) rfl rfl ?_
                        refine wU_val (v := .bool true) (wn rfl) rfl rfl (fun _ _ => (y_pick_t rfl rfl rfl)) ?_
                        refine wU_nil fun w264 S265 => ?_
                        refine wQ_sub (l' := [(1, .pointer (some ⟨b1, 0, none⟩)), (2, .int .i64 0), (4, .slice A5 (rs.length + k) c5), (7, .int .i64 ((k : Nat) : Int)), (97, .bool true), (8, .pointer (some ⟨b131, 0, none⟩)), (155, .bool true)]) ⟨rfl, rfl, rfl, rfl, rfl, rfl, rfl, trivial⟩ ?_
                        refine wQ_then ?_
                        refine wC_cond_t rfl ?_
                        refine wC_seq ?_
                        refine wC_region ?_
                        refine wL_val (v := .int .i64 6) (wn rfl) rfl rfl (y_assign rfl rfl) ?_
                        refine wL_nil ?_
                        refine wQ_then ?_
                        refine wC_ret ?_
                        refine wQ_then_ret ?_
                        refine wQ_blk_ret ?_
                        refine wQ_then_ret ?_
                        refine wQ_then_ret ?_
                        refine wQ_blk_ret ?_
                        refine wQ_then_ret ?_
                        refine wQ_post (rs := [.tmp 2]) (vs := [.int .i64 6]) rfl ⟨rfl, trivial⟩ ?_
                        exact ⟨ret_int_ (qf_bad fun h => absurd h.2.2.1 (ls_no hi124 hx130 fun h2 => h142 (by have := msgOk_of h2.1; omega))).symm, S265.low⟩
                    · refine wL_val (v := .bool false) (wn rfl) rfl rfl (y_binop rfl rfl rfl (r_lss_f h126)) ?_
                      refine wL_nil ?_
                      refine wQ_sub (l' := [(1, .pointer (some ⟨b1, 0, none⟩)), (2, .int .i64 0), (4, .slice A5 (rs.length + k) c5), (7, .int .i64 ((k : Nat) : Int)), (97, .bool false)]) ⟨rfl, rfl, rfl, rfl, rfl, trivial⟩ ?_
                      refine wQ_then ?_
                      refine wC_cond_f rfl ?_
                      refine wC_exit ?_
                      refine wQ_then_exit ?_
                      refine wQ_then_exit ?_
                      refine wQ_blk_same ?_
                      refine wQ_then ?_
                      refine wC_seq ?_
                      refine wC_seq ?_
                      refine wC_region ?_
                      refine wL_val (v := .int .i64 0) (wn rfl) rfl rfl (y_assign rfl rfl) ?_
                      refine wL_nil ?_
                      refine wQ_then ?_
                      refine wC_block ?_
                      obtain rfl : k = ls.length := by omega
                      have hL266 : lsFrom ep nx gv (-1) ls = true := by rw [hi124, List.drop_length]; rfl
                      have S267 := S122
                      rw [List.take_length] at S267
                      change St _ _ _ [.own 3 1 (.slice A5 (rs.length + ls.length) c5) (rs.length + ls.length) ((nosOf rs ls).flatMap oneI), .blk b1 (qRow ep nx gv (.slice A1 rs.length c1) (.slice A2 ls.length c2) W) 29, .rd 2 A1 rs.length ((rs).flatMap Msg.cells), .rd 4 A2 ls.length ((ls).flatMap Ls.cells)] at S267
                      have hnl : (nosOf rs ls).length = rs.length + ls.length := by simp [nosOf]
                      refine wC_loop (X := Nat) (fun xv => [(1, .pointer (some ⟨b1, 0, none⟩)), (2, .int .i64 0), (4, .slice A5 (rs.length + ls.length) c5), (9, .int .i64 ((xv : Nat) : Int))]) (fun xv wr => (xv ≤ rs.length + ls.length) ∧ (∀ (a b : Nat) (x y : Int), b < a → a < xv → (nosOf rs ls)[a]? = some x → (nosOf rs ls)[b]? = some y → x ≠ y) ∧ St w.heap.size w wr [.own 3 1 (.slice A5 (rs.length + ls.length) c5) (rs.length + ls.length) ((nosOf rs ls).flatMap oneI), .blk b1 (qRow ep nx gv (.slice A1 rs.length c1) (.slice A2 ls.length c2) W) 29, .rd 2 A1 rs.length ((rs).flatMap Msg.cells), .rd 4 A2 ls.length ((ls).flatMap Ls.cells)]) (fun xv => rs.length + ls.length - xv) (0) ?_ ?_ ?_
                      · exact ⟨Nat.zero_le _, fun a b x y _ h => absurd h (Nat.not_lt_zero _), S267⟩
                      · exact ⟨rfl, rfl, rfl, rfl, trivial⟩
                      · rintro i w268 ⟨hi270, hi271, S269⟩
                        try dsimp only at hi270 hi271 S269
                        refine wC_sub (l' := [(1, .pointer (some ⟨b1, 0, none⟩)), (2, .int .i64 0), (4, .slice A5 (rs.length + ls.length) c5), (9, .int .i64 ((i : Nat) : Int))]) ⟨rfl, rfl, rfl, rfl, trivial⟩ ?_
                        refine wC_seq ?_
                        refine wC_seq ?_
                        refine wC_region ?_
                        refine wL_val (v := .int .i64 ((i : Nat) : Int)) (wn rfl) rfl rfl (y_move rfl rfl) ?_
                        refine wL_val (v := .slice A5 (rs.length + ls.length) c5) (wn rfl) rfl rfl (y_move rfl rfl) ?_
                        refine wL_val (v := .int .i64 ((rs.length + ls.length : Nat) : Int)) (wn rfl) rfl rfl (y_builtin (vs := [.slice A5 (rs.length + ls.length) c5]) rfl ⟨rfl, trivial⟩ fun _ => r_len rfl Try.underlying143) ?_
                        by_cases h272 : ((i : Nat) : Int) < ((rs.length + ls.length : Nat) : Int)
                        · refine wL_val (v := .bool true) (wn rfl) rfl rfl (y_binop rfl rfl rfl (r_lss_t h272)) ?_
                          refine wL_nil ?_
                          refine wQ_sub (l' := [(1, .pointer (some ⟨b1, 0, none⟩)), (2, .int .i64 0), (4, .slice A5 (rs.length + ls.length) c5), (9, .int .i64 ((i : Nat) : Int)), (165, .bool true)]) ⟨rfl, rfl, rfl, rfl, rfl, trivial⟩ ?_
                          refine wQ_then ?_
                          refine wC_cond_t rfl ?_
                          refine wC_skip ?_
                          refine wQ_then ?_
                          refine wC_seq ?_
                          refine wC_block ?_
                          refine wC_seq ?_
                          refine wC_region ?_
                          refine wL_val (v := .int .i64 0) (wn rfl) rfl rfl (y_assign rfl rfl) ?_
                          refine wL_nil ?_
                          refine wQ_then ?_
                          refine wC_block ?_
                          refine wC_loop (X := Nat) (fun xv => [(1, .pointer (some ⟨b1, 0, none⟩)), (2, .int .i64 0), (4, .slice A5 (rs.length + ls.length) c5), (9, .int .i64 ((i : Nat) : Int)), (10, .int .i64 ((xv : Nat) : Int))]) (fun xv wr => (xv ≤ i) ∧ (∀ (b : Nat) (x y : Int), b < xv → (nosOf rs ls)[i]? = some x → (nosOf rs ls)[b]? = some y → x ≠ y) ∧ St w.heap.size w wr [.own 3 1 (.slice A5 (rs.length + ls.length) c5) (rs.length + ls.length) ((nosOf rs ls).flatMap oneI), .blk b1 (qRow ep nx gv (.slice A1 rs.length c1) (.slice A2 ls.length c2) W) 29, .rd 2 A1 rs.length ((rs).flatMap Msg.cells), .rd 4 A2 ls.length ((ls).flatMap Ls.cells)]) (fun xv => i - xv) (0) ?_ ?_ ?_
                          · exact ⟨Nat.zero_le _, fun b x y h => absurd h (Nat.not_lt_zero _), S269⟩
                          · exact ⟨rfl, rfl, rfl, rfl, rfl, trivial⟩
                          · rintro k w273 ⟨hi275, hi276, S274⟩
                            try dsimp only at hi275 hi276 S274
                            refine wC_sub (l' := [(1, .pointer (some ⟨b1, 0, none⟩)), (2, .int .i64 0), (4, .slice A5 (rs.length + ls.length) c5), (9, .int .i64 ((i : Nat) : Int)), (10, .int .i64 ((k : Nat) : Int))]) ⟨rfl, rfl, rfl, rfl, rfl, trivial⟩ ?_
                            refine wC_seq ?_
                            refine wC_seq ?_
                            refine wC_region ?_
                            refine wL_val (v := .int .i64 ((k : Nat) : Int)) (wn rfl) rfl rfl (y_move rfl rfl) ?_
                            refine wL_val (v := .int .i64 ((i : Nat) : Int)) (wn rfl) rfl rfl (y_move rfl rfl) ?_
                            by_cases h277 : ((k : Nat) : Int) < ((i : Nat) : Int)
                            · refine wL_val (v := .bool true) (wn rfl) rfl rfl (y_binop rfl rfl rfl (r_lss_t h277)) ?_
                              refine wL_nil ?_
                              refine wQ_sub (l' := [(1, .pointer (some ⟨b1, 0, none⟩)), (2, .int .i64 0), (4, .slice A5 (rs.length + ls.length) c5), (9, .int .i64 ((i : Nat) : Int)), (10, .int .i64 ((k : Nat) : Int)), (170, .bool true)]) ⟨rfl, rfl, rfl, rfl, rfl, rfl, trivial⟩ ?_
                              refine wQ_then ?_
                              refine wC_cond_t rfl ?_
                              refine wC_skip ?_
                              refine wQ_then ?_
                              refine wC_seq ?_
                              refine wC_block ?_
                              refine wC_seq ?_
                              refine wC_quiet S274 mixed (by kernel_rfl) ?_
                              refine wU_val (v := .slice A5 (rs.length + ls.length) c5) (wn rfl) rfl rfl (fun _ _ => (y_move rfl rfl)) ?_
                              refine wU_val (v := .int .i64 ((i : Nat) : Int)) (wn rfl) rfl rfl (fun _ _ => (y_move rfl rfl)) ?_
                              obtain ⟨b280, o281, rfl⟩ := Rd.addr (St.ord 0 S274 rfl) (by omega)
                              obtain ⟨x282, hx283⟩ : ∃ x, (nosOf rs ls)[i]? = some x := ⟨_, List.getElem?_eq_getElem (by have := (St.ord 0 S274 rfl).1; rw [fm_len (sz := 1) (fun _ => rfl)] at this; omega)⟩
                              refine wU_val (v := .pointer (some ⟨b280, o281 + i * 1, none⟩)) (wn rfl) rfl rfl (fun _ _ => (y_indexAddr rfl rfl rfl (r_indexAddr i Try.underlying143 inf3 (by omega) (by omega)))) ?_
                              refine wU_val (v := .int .i64 x282) (wn rfl) rfl rfl (fun _ Sx285 => (y_load rfl rfl (r_load Try.underlying3 rfl (Rd.cl2 (i := 0) (St.ord 0 Sx285 rfl) (fm_get (enc := oneI) (sz := 1) (fun _ => rfl) hx283 rfl))))) ?_
                              refine wU_val (v := .slice (some ⟨b280, o281, none⟩) (rs.length + ls.length) c5) (wn rfl) rfl rfl (fun _ _ => (y_move rfl rfl)) ?_
                              refine wU_val (v := .int .i64 ((k : Nat) : Int)) (wn rfl) rfl rfl (fun _ _ => (y_move rfl rfl)) ?_
                              obtain ⟨x288, hx289⟩ : ∃ x, (nosOf rs ls)[k]? = some x := ⟨_, List.getElem?_eq_getElem (by have := (St.ord 0 S274 rfl).1; rw [fm_len (sz := 1) (fun _ => rfl)] at this; omega)⟩
                              refine wU_val (v := .pointer (some ⟨b280, o281 + k * 1, none⟩)) (wn rfl) rfl rfl (fun _ _ => (y_indexAddr rfl rfl rfl (r_indexAddr k Try.underlying143 inf3 (by omega) (by omega)))) ?_
                              refine wU_val (v := .int .i64 x288) (wn rfl) rfl rfl (fun _ Sx291 => (y_load rfl rfl (r_load Try.underlying3 rfl (Rd.cl2 (i := 0) (St.ord 0 Sx291 rfl) (fm_get (enc := oneI) (sz := 1) (fun _ => rfl) hx289 rfl))))) ?_
                              by_cases h292 : x282 = x288
                              · refine wU_val (v := .bool true) (wn rfl) rfl rfl (fun _ _ => (y_binop rfl rfl rfl (r_eql_t h292))) ?_
                                refine wU_nil fun w294 S295 => ?_
                                refine wQ_sub (l' := [(1, .pointer (some ⟨b1, 0, none⟩)), (2, .int .i64 0), (4, .slice (some ⟨b280, o281, none⟩) (rs.length + ls.length) c5), (9, .int .i64 ((i : Nat) : Int)), (10, .int .i64 ((k : Nat) : Int)), (170, .bool true), (181, .bool true)]) ⟨rfl, rfl, rfl, rfl, rfl, rfl, rfl, trivial⟩ ?_
                                refine wQ_then ?_
                                refine wC_cond_t rfl ?_
                                refine wC_seq ?_
                                refine wC_region ?_
                                refine wL_val (v := .int .i64 6) (wn rfl) rfl rfl (y_assign rfl rfl) ?_
                                refine wL_nil ?_
                                refine wQ_then ?_
                                refine wC_ret ?_
                                refine wQ_blk_ret ?_
                                refine wQ_then_ret ?_
                                refine wQ_then_ret ?_
                                refine wQ_blk_ret ?_
                                refine wQ_blk_ret ?_
                                refine wQ_then_ret ?_
                                refine wQ_then_ret ?_
                                refine wQ_blk_ret ?_
                                refine wQ_then_ret ?_
                                refine wQ_post (rs := [.tmp 2]) (vs := [.int .i64 6]) rfl ⟨rfl, trivial⟩ ?_
                                exact ⟨ret_int_ (qf_bad fun h => not_nodup (by omega) hx283 hx289 h292 h.2.2.2).symm, S295.low⟩
                              · refine wU_val (v := .bool false) (wn rfl) rfl rfl (fun _ _ => (y_binop rfl rfl rfl (r_eql_f h292))) ?_
                                refine wU_nil fun w297 S298 => ?_
                                refine wQ_sub (l' := [(1, .pointer (some ⟨b1, 0, none⟩)), (2, .int .i64 0), (4, .slice (some ⟨b280, o281, none⟩) (rs.length + ls.length) c5), (9, .int .i64 ((i : Nat) : Int)), (10, .int .i64 ((k : Nat) : Int)), (170, .bool true), (181, .bool false)]) ⟨rfl, rfl, rfl, rfl, rfl, rfl, rfl, trivial⟩ ?_
                                refine wQ_then ?_
                                refine wC_cond_f rfl ?_
                                refine wC_skip ?_
                                refine wQ_blk_n ?_
                                refine wQ_then ?_
                                refine wC_region ?_
                                refine wL_val (v := .int .i64 ((k : Nat) : Int)) (wn rfl) rfl rfl (y_move rfl rfl) ?_
                                refine wL_val (v := .int .i64 ((k + 1 : Nat) : Int)) (wn rfl) rfl rfl (y_binop rfl rfl rfl (r_add (by omega) (by omega))) ?_
                                refine wL_val (v := .int .i64 ((k + 1 : Nat) : Int)) (wn rfl) rfl rfl (y_assign rfl rfl) ?_
                                refine wL_nil ?_
                                refine wQ_sub (l' := [(1, .pointer (some ⟨b1, 0, none⟩)), (2, .int .i64 0), (4, .slice (some ⟨b280, o281, none⟩) (rs.length + ls.length) c5), (9, .int .i64 ((i : Nat) : Int)), (10, .int .i64 ((k + 1 : Nat) : Int)), (170, .bool true), (181, .bool false)]) ⟨rfl, rfl, rfl, rfl, rfl, rfl, rfl, trivial⟩ ?_
                                refine wQ_round (k + 1) ?_ ⟨rfl, rfl, rfl, rfl, rfl, trivial⟩ (by first | omega | (dsimp only; omega))
                                exact ⟨(by omega), (fun b x y hb hx hy => (Nat.lt_succ_iff_lt_or_eq.1 hb).elim (fun h => hi276 b x y h hx hy) (fun h => by subst h; rw [hx283] at hx; rw [hx289] at hy; cases hx; cases hy; exact h292)), S298⟩
                            · refine wL_val (v := .bool false) (wn rfl) rfl rfl (y_binop rfl rfl rfl (r_lss_f h277)) ?_
                              refine wL_nil ?_
                              refine wQ_sub (l' := [(1, .pointer (some ⟨b1, 0, none⟩)), (2, .int .i64 0), (4, .slice A5 (rs.length + ls.length) c5), (9, .int .i64 ((i : Nat) : Int)), (10, .int .i64 ((k : Nat) : Int)), (170, .bool false)]) ⟨rfl, rfl, rfl, rfl, rfl, rfl, trivial⟩ ?_
                              refine wQ_then ?_
                              refine wC_cond_f rfl ?_
                              refine wC_exit ?_
                              refine wQ_then_exit ?_
                              refine wQ_then_exit ?_
                              refine wQ_blk_same ?_
                              refine wQ_blk_n ?_
                              refine wQ_then ?_
                              refine wC_region ?_
                              refine wL_val (v := .int .i64 ((i : Nat) : Int)) (wn rfl) rfl rfl (y_move rfl rfl) ?_
                              refine wL_val (v := .int .i64 ((i + 1 : Nat) : Int)) (wn rfl) rfl rfl (y_binop rfl rfl rfl (r_add (by omega) (by omega))) ?_
                              refine wL_val (v := .int .i64 ((i + 1 : Nat) : Int)) (wn rfl) rfl rfl (y_assign rfl rfl) ?_
                              refine wL_nil ?_
                              refine wQ_sub (l' := [(1, .pointer (some ⟨b1, 0, none⟩)), (2, .int .i64 0), (4, .slice A5 (rs.length + ls.length) c5), (9, .int .i64 ((i + 1 : Nat) : Int)), (10, .int .i64 ((k : Nat) : Int)), (170, .bool false)]) ⟨rfl, rfl, rfl, rfl, rfl, rfl, trivial⟩ ?_
                              refine wQ_round (i + 1) ?_ ⟨rfl, rfl, rfl, rfl, trivial⟩ (by first | omega | (dsimp only; omega))
                              exact ⟨(by omega), (fun a b x y hba hai hx hy => (Nat.lt_succ_iff_lt_or_eq.1 hai).elim (fun h => hi271 a b x y hba h hx hy) (fun h => by subst h; exact hi276 b x y (by omega) hx hy)), S274⟩
                        · refine wL_val (v := .bool false) (wn rfl) rfl rfl (y_binop rfl rfl rfl (r_lss_f h272)) ?_
                          refine wL_nil ?_
                          refine wQ_sub (l' := [(1, .pointer (some ⟨b1, 0, none⟩)), (2, .int .i64 0), (4, .slice A5 (rs.length + ls.length) c5), (9, .int .i64 ((i : Nat) : Int)), (165, .bool false)]) ⟨rfl, rfl, rfl, rfl, rfl, trivial⟩ ?_
                          refine wQ_then ?_
                          refine wC_cond_f rfl ?_
                          refine wC_exit ?_
                          refine wQ_then_exit ?_
                          refine wQ_then_exit ?_
                          refine wQ_blk_same ?_
                          refine wQ_then ?_
                          refine wC_seq ?_
                          refine wC_region ?_
                          refine wL_val (v := .int .i64 0) (wn rfl) rfl rfl (y_assign rfl rfl) ?_
                          refine wL_nil ?_
                          refine wQ_then ?_
                          refine wC_ret ?_
                          refine wQ_post (rs := [.tmp 2]) (vs := [.int .i64 0]) rfl ⟨rfl, trivial⟩ ?_
                          exact ⟨ret_int_ (qf_ok (by unfold rngQ; omega) hW20 hR119 hL266 (nodup_of fun a b x y hba hx hy => hi271 a b x y hba (by have := (List.getElem?_eq_some_iff.1 hx).1; omega) hx hy)).symm, S269.low⟩
      · refine wL_call (vs := [.int .i64 gv, .int .i64 0, .int .i64 1073741824]) (wg rfl rfl rfl rfl) rfl rfl (e_call (vs := [.int .i64 gv, .int .i64 0, .int .i64 1073741824]) rfl en107 ⟨rfl, rfl, rfl, trivial⟩) (In_f h8 _) ?_
        rintro _ w299 ⟨rfl, rfl⟩
        refine ⟨_, rfl, ?_⟩
        refine wL_val (v := .bool true) (wg rfl rfl rfl rfl) rfl rfl (y_unop rfl rfl r_not) ?_
        refine wL_val (v := .bool true) (wn rfl) rfl rfl (y_pick_f rfl rfl rfl) ?_
        refine wL_val (v := .bool true) (wn rfl) rfl rfl (y_move rfl rfl) ?_
        refine wL_skip (wg rfl rfl rfl rfl) rfl rfl ?_
        refine wL_skip (wg rfl rfl rfl rfl) rfl rfl ?_
        refine wL_skip (wg rfl rfl rfl rfl) rfl rfl ?_
        refine wL_skip (wg rfl rfl rfl rfl) rfl rfl ?_
        refine wL_skip (wg rfl rfl rfl rfl) rfl rfl ?_
        refine wL_skip (wg rfl rfl rfl rfl) rfl rfl ?_
        refine wL_skip (wg rfl rfl rfl rfl) rfl rfl ?_
        refine wL_skip (wg rfl rfl rfl rfl) rfl rfl ?_
        refine wL_val (v := .bool true) (wn rfl) rfl rfl (y_pick_t rfl rfl rfl) ?_
        refine wL_nil ?_
        refine wQ_sub (l' := [(0, .agg (qRow ep nx gv (.slice A1 rs.length c1) (.slice A2 ls.length c2) W)), (1, .pointer (some ⟨b1, 0, none⟩)), (2, .int .i64 0), (36, .bool true)]) ⟨rfl, rfl, rfl, rfl, trivial⟩ ?_
        refine wQ_then ?_
        refine wC_cond_t rfl ?_
        refine wC_seq ?_
        refine wC_region ?_
        refine wL_val (v := .int .i64 6) (wn rfl) rfl rfl (y_assign rfl rfl) ?_
        refine wL_nil ?_
        refine wQ_then ?_
        refine wC_ret ?_
        refine wQ_then_ret ?_
        refine wQ_post (rs := [.tmp 2]) (vs := [.int .i64 6]) rfl ⟨rfl, trivial⟩ ?_
        exact ⟨ret_int_ (qf_rng (by omega)).symm, S3.low⟩
    · refine wL_call (vs := [.int .i64 nx, .int .i64 0, .int .i64 1073741824]) (wg rfl rfl rfl rfl) rfl rfl (e_call (vs := [.int .i64 nx, .int .i64 0, .int .i64 1073741824]) rfl en107 ⟨rfl, rfl, rfl, trivial⟩) (In_f h6 _) ?_
      rintro _ w300 ⟨rfl, rfl⟩
      refine ⟨_, rfl, ?_⟩
      refine wL_val (v := .bool true) (wg rfl rfl rfl rfl) rfl rfl (y_unop rfl rfl r_not) ?_
      refine wL_val (v := .bool true) (wn rfl) rfl rfl (y_pick_f rfl rfl rfl) ?_
      refine wL_val (v := .bool true) (wn rfl) rfl rfl (y_move rfl rfl) ?_
      refine wL_skip (wg rfl rfl rfl rfl) rfl rfl ?_
      refine wL_skip (wg rfl rfl rfl rfl) rfl rfl ?_
      refine wL_skip (wg rfl rfl rfl rfl) rfl rfl ?_
      refine wL_skip (wg rfl rfl rfl rfl) rfl rfl ?_
      refine wL_val (v := .bool true) (wn rfl) rfl rfl (y_pick_t rfl rfl rfl) ?_
      refine wL_val (v := .bool true) (wn rfl) rfl rfl (y_move rfl rfl) ?_
      refine wL_skip (wg rfl rfl rfl rfl) rfl rfl ?_
      refine wL_skip (wg rfl rfl rfl rfl) rfl rfl ?_
      refine wL_skip (wg rfl rfl rfl rfl) rfl rfl ?_
      refine wL_skip (wg rfl rfl rfl rfl) rfl rfl ?_
      refine wL_skip (wg rfl rfl rfl rfl) rfl rfl ?_
      refine wL_skip (wg rfl rfl rfl rfl) rfl rfl ?_
      refine wL_skip (wg rfl rfl rfl rfl) rfl rfl ?_
      refine wL_skip (wg rfl rfl rfl rfl) rfl rfl ?_
      refine wL_val (v := .bool true) (wn rfl) rfl rfl (y_pick_t rfl rfl rfl) ?_
      refine wL_nil ?_
      refine wQ_sub (l' := [(0, .agg (qRow ep nx gv (.slice A1 rs.length c1) (.slice A2 ls.length c2) W)), (1, .pointer (some ⟨b1, 0, none⟩)), (2, .int .i64 0), (36, .bool true)]) ⟨rfl, rfl, rfl, rfl, trivial⟩ ?_
      refine wQ_then ?_
      refine wC_cond_t rfl ?_
      refine wC_seq ?_
      refine wC_region ?_
      refine wL_val (v := .int .i64 6) (wn rfl) rfl rfl (y_assign rfl rfl) ?_
      refine wL_nil ?_
      refine wQ_then ?_
      refine wC_ret ?_
      refine wQ_then_ret ?_
      refine wQ_post (rs := [.tmp 2]) (vs := [.int .i64 6]) rfl ⟨rfl, trivial⟩ ?_
      exact ⟨ret_int_ (qf_rng (by omega)).symm, S3.low⟩
  · refine wL_call (vs := [.int .i64 ep, .int .i64 0, .int .i64 1048576]) (wn rfl) rfl rfl (e_call (vs := [.int .i64 ep, .int .i64 0, .int .i64 1048576]) rfl en107 ⟨rfl, rfl, rfl, trivial⟩) (In_f h4 _) ?_
    rintro _ w301 ⟨rfl, rfl⟩
    refine ⟨_, rfl, ?_⟩
    refine wL_val (v := .bool true) (wn rfl) rfl rfl (y_unop rfl rfl r_not) ?_
    refine wL_val (v := .bool true) (wn rfl) rfl rfl (y_move rfl rfl) ?_
    refine wL_skip (wg rfl rfl rfl rfl) rfl rfl ?_
    refine wL_skip (wg rfl rfl rfl rfl) rfl rfl ?_
    refine wL_skip (wg rfl rfl rfl rfl) rfl rfl ?_
    refine wL_skip (wg rfl rfl rfl rfl) rfl rfl ?_
    refine wL_val (v := .bool true) (wn rfl) rfl rfl (y_pick_t rfl rfl rfl) ?_
    refine wL_val (v := .bool true) (wn rfl) rfl rfl (y_move rfl rfl) ?_
    refine wL_skip (wg rfl rfl rfl rfl) rfl rfl ?_
    refine wL_skip (wg rfl rfl rfl rfl) rfl rfl ?_
    refine wL_skip (wg rfl rfl rfl rfl) rfl rfl ?_
    refine wL_skip (wg rfl rfl rfl rfl) rfl rfl ?_
    refine wL_val (v := .bool true) (wn rfl) rfl rfl (y_pick_t rfl rfl rfl) ?_
    refine wL_val (v := .bool true) (wn rfl) rfl rfl (y_move rfl rfl) ?_
    refine wL_skip (wg rfl rfl rfl rfl) rfl rfl ?_
    refine wL_skip (wg rfl rfl rfl rfl) rfl rfl ?_
    refine wL_skip (wg rfl rfl rfl rfl) rfl rfl ?_
    refine wL_skip (wg rfl rfl rfl rfl) rfl rfl ?_
    refine wL_skip (wg rfl rfl rfl rfl) rfl rfl ?_
    refine wL_skip (wg rfl rfl rfl rfl) rfl rfl ?_
    refine wL_skip (wg rfl rfl rfl rfl) rfl rfl ?_
    refine wL_skip (wg rfl rfl rfl rfl) rfl rfl ?_
    refine wL_val (v := .bool true) (wn rfl) rfl rfl (y_pick_t rfl rfl rfl) ?_
    refine wL_nil ?_
    refine wQ_sub (l' := [(0, .agg (qRow ep nx gv (.slice A1 rs.length c1) (.slice A2 ls.length c2) W)), (1, .pointer (some ⟨b1, 0, none⟩)), (2, .int .i64 0), (36, .bool true)]) ⟨rfl, rfl, rfl, rfl, trivial⟩ ?_
    refine wQ_then ?_
    refine wC_cond_t rfl ?_
    refine wC_seq ?_
    refine wC_region ?_
    refine wL_val (v := .int .i64 6) (wn rfl) rfl rfl (y_assign rfl rfl) ?_
    refine wL_nil ?_
    refine wQ_then ?_
    refine wC_ret ?_
    refine wQ_then_ret ?_
    refine wQ_post (rs := [.tmp 2]) (vs := [.int .i64 6]) rfl ⟨rfl, trivial⟩ ?_
    exact ⟨ret_int_ (qf_rng (by omega)).symm, S3.low⟩
end Go.Proofs.Ytkjlafpafmihaaa
