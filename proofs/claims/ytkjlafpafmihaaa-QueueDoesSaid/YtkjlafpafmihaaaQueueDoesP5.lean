/- Parts of the proof of QueueDoes: lemmas on memory, on single functions and on the plain models; no condition of their own. -/
import Derived.Test.YtkjlafpafmihaaaQueueDoesP0
import Derived.Test.YtkjlafpafmihaaaQueueDoesP1
import Derived.Test.YtkjlafpafmihaaaQueueDoesP3
import Derived.Test.YtkjlafpafmihaaaQueueDoesP4

namespace Go.Proofs.Ytkjlafpafmihaaa
open Go.ChangeShapes Go.WideShapes Go.RowKit

set_option maxRecDepth 100000 in
theorem msg_neq (x : Msg) (w : World) : (binOp .neq 137 (.agg (x.cells).toArray) (.agg (x.cells).toArray)).run Try.prog w = .ok (.bool false) w :=
  run_neq_self w (l := (.at_ (.int .i64) :: .at_ (.int .i64) :: [])) (by kernel_rfl) (by kernel_rfl) (fun xs => by unfold mkV; rw [Try.underlying137]) ⟨⟨_, rfl⟩, ⟨_, rfl⟩, trivial⟩
set_option maxRecDepth 100000 in
theorem ls_neq (x : Ls) (w : World) : (binOp .neq 141 (.agg (x.cells).toArray) (.agg (x.cells).toArray)).run Try.prog w = .ok (.bool false) w :=
  run_neq_self w (l := (.at_ (.int .i64) :: .at_ (.int .i64) :: .at_ (.int .i64) :: .at_ (.int .i64) :: [])) (by kernel_rfl) (by kernel_rfl) (fun xs => by unfold mkV; rw [Try.underlying141]) ⟨⟨_, rfl⟩, ⟨_, rfl⟩, ⟨_, rfl⟩, ⟨_, rfl⟩, trivial⟩
set_option maxRecDepth 100000 in
theorem wins_neq (x : Wins) (w : World) : (binOp .neq 27 (.agg (x.cells).toArray) (.agg (x.cells).toArray)).run Try.prog w = .ok (.bool false) w :=
  run_neq_self w (l := (.at_ (.int .i64) :: .at_ .bool :: .at_ .bool :: .at_ .bool :: .at_ .bool :: .at_ .bool :: .at_ .bool :: .at_ .bool :: .at_ .bool :: .at_ (.int .i64) :: .at_ .bool :: .at_ .bool :: .at_ .bool :: .at_ .bool :: .at_ .bool :: .at_ .bool :: .at_ .bool :: .at_ .bool :: .at_ (.int .i64) :: .at_ .bool :: .at_ .bool :: .at_ .bool :: .at_ .bool :: .at_ .bool :: .at_ .bool :: .at_ .bool :: .at_ .bool :: .at_ (.int .i64) :: .at_ .bool :: .at_ .bool :: .at_ .bool :: .at_ .bool :: .at_ .bool :: .at_ .bool :: .at_ .bool :: .at_ .bool :: [])) (by kernel_rfl) (by kernel_rfl) (fun xs => by unfold mkV; rw [Try.underlying27]) ⟨⟨_, rfl⟩, ⟨_, rfl⟩, ⟨_, rfl⟩, ⟨_, rfl⟩, ⟨_, rfl⟩, ⟨_, rfl⟩, ⟨_, rfl⟩, ⟨_, rfl⟩, ⟨_, rfl⟩, ⟨_, rfl⟩, ⟨_, rfl⟩, ⟨_, rfl⟩, ⟨_, rfl⟩, ⟨_, rfl⟩, ⟨_, rfl⟩, ⟨_, rfl⟩, ⟨_, rfl⟩, ⟨_, rfl⟩, ⟨_, rfl⟩, ⟨_, rfl⟩, ⟨_, rfl⟩, ⟨_, rfl⟩, ⟨_, rfl⟩, ⟨_, rfl⟩, ⟨_, rfl⟩, ⟨_, rfl⟩, ⟨_, rfl⟩, ⟨_, rfl⟩, ⟨_, rfl⟩, ⟨_, rfl⟩, ⟨_, rfl⟩, ⟨_, rfl⟩, ⟨_, rfl⟩, ⟨_, rfl⟩, ⟨_, rfl⟩, ⟨_, rfl⟩, trivial⟩
set_option maxRecDepth 100000 in
theorem ans_eql (x : Ans) (w : World) : (binOp .eql 93 (.agg (x.cells).toArray) (.agg (x.cells).toArray)).run Try.prog w = .ok (.bool true) w :=
  run_eql_self w (l := (.at_ (.int .i64) :: .at_ (.int .i64) :: .at_ (.int .i64) :: .at_ (.int .i64) :: [])) (by kernel_rfl) (by kernel_rfl) (fun xs => by unfold mkV; rw [Try.underlying93]) ⟨⟨_, rfl⟩, ⟨_, rfl⟩, ⟨_, rfl⟩, ⟨_, rfl⟩, trivial⟩

set_option maxRecDepth 100000 in
set_option maxHeartbeats 2000000 in
theorem sameQueue_calls (ep nx gv : Int) (A1 A2 A3 A4 : Option Addr) (c1 c2 c3 c4 : Nat) (rs : List Msg) (ls : List Ls) (W : Wins) (w : World) (h1 : Rd w w.heap.size 2 A1 rs.length (rs.flatMap Msg.cells)) (h2 : Rd w w.heap.size 4 A2 ls.length (ls.flatMap Ls.cells)) (h3 : Rd w w.heap.size 2 A3 rs.length (rs.flatMap Msg.cells)) (h4 : Rd w w.heap.size 4 A4 ls.length (ls.flatMap Ls.cells)) (hb1 : rs.length ≤ 1152921504606846976) (hb2 : ls.length ≤ 1152921504606846976) :
    Calls Try.prog 68 #[.agg (qRow ep nx gv (.slice A1 rs.length c1) (.slice A2 ls.length c2) W), .agg (qRow ep nx gv (.slice A3 rs.length c3) (.slice A4 ls.length c4) W)] w (BoolB w true) := by
  have S := ((((St.start w).addRd h1).addRd h2).addRd h3).addRd h4
  clear h1 h2 h3 h4
  refine calls_of_wC (N := 87) (vs := [.agg (qRow ep nx gv (.slice A1 rs.length c1) (.slice A2 ls.length c2) W), .agg (qRow ep nx gv (.slice A3 rs.length c3) (.slice A4 ls.length c4) W)]) Try.func68 rfl rfl rfl ?_
  refine wC_sub (l' := [(0, .agg (qRow ep nx gv (.slice A1 rs.length c1) (.slice A2 ls.length c2) W)), (1, .agg (qRow ep nx gv (.slice A3 rs.length c3) (.slice A4 ls.length c4) W))]) ⟨rfl, rfl, trivial⟩ ?_
  refine wC_seq ?_
  refine wC_region ?_
  refine wL_new (V := fun b => .pointer (some ⟨b, 0, none⟩)) (row := qRow ep nx gv (.slice A1 rs.length c1) (.slice A2 ls.length c2) W) (t := 29) S (wn rfl) rfl rfl (d_box rfl rfl rfl) ?_
  intro b1 w2 S3
  clear S
  refine wL_new (V := fun b => .pointer (some ⟨b, 0, none⟩)) (row := qRow ep nx gv (.slice A3 rs.length c3) (.slice A4 ls.length c4) W) (t := 29) S3 (wn rfl) rfl rfl (d_box rfl rfl rfl) ?_
  intro b4 w5 S6
  clear S3
  refine wL_val (v := .bool false) (wn rfl) rfl rfl (y_assign rfl rfl) ?_
  refine wL_nil ?_
  refine wQ_sub (l' := [(2, _), (3, _), (4, _)]) ⟨rfl, rfl, rfl, trivial⟩ ?_
  refine wQ_then ?_
  refine wC_seq ?_
  refine wC_seq ?_
  refine wC_region ?_
  refine wL_val (v := .pointer (some ⟨b1, 0, none⟩)) (wn rfl) rfl rfl (y_fieldAddr rfl rfl (fa29_0 _ _ _)) ?_
  refine wL_val (v := .int .i64 ep) (wn rfl) rfl rfl (y_load rfl rfl (r_load Try.underlying3 rfl (St.cl 1 S6 rfl qRow_g0))) ?_
  refine wL_val (v := .pointer (some ⟨b4, 0, none⟩)) (wn rfl) rfl rfl (y_fieldAddr rfl rfl (fa29_0 _ _ _)) ?_
  refine wL_val (v := .int .i64 ep) (wn rfl) rfl rfl (y_load rfl rfl (r_load Try.underlying3 rfl (St.cl 0 S6 rfl qRow_g0))) ?_
  refine wL_val (v := .bool false) (wn rfl) rfl rfl (y_binop rfl rfl rfl (r_neq_f rfl)) ?_
  refine wL_val (v := .bool false) (wn rfl) rfl rfl (y_move rfl rfl) ?_
  refine wL_val (v := .pointer (some ⟨b1, 1, none⟩)) (wg rfl rfl rfl rfl) rfl rfl (y_fieldAddr rfl rfl (fa29_1 _ _ _)) ?_
  refine wL_val (v := .int .i64 nx) (wg rfl rfl rfl rfl) rfl rfl (y_load rfl rfl (r_load Try.underlying3 rfl (St.cl 1 S6 rfl qRow_g1))) ?_
  refine wL_val (v := .pointer (some ⟨b4, 1, none⟩)) (wg rfl rfl rfl rfl) rfl rfl (y_fieldAddr rfl rfl (fa29_1 _ _ _)) ?_
  refine wL_val (v := .int .i64 nx) (wg rfl rfl rfl rfl) rfl rfl (y_load rfl rfl (r_load Try.underlying3 rfl (St.cl 0 S6 rfl qRow_g1))) ?_
  refine wL_val (v := .bool false) (wg rfl rfl rfl rfl) rfl rfl (y_binop rfl rfl rfl (r_neq_f rfl)) ?_
  refine wL_val (v := .bool false) (wn rfl) rfl rfl (y_pick_f rfl rfl rfl) ?_
  refine wL_val (v := .bool false) (wn rfl) rfl rfl (y_move rfl rfl) ?_
  refine wL_val (v := .pointer (some ⟨b1, 2, none⟩)) (wg rfl rfl rfl rfl) rfl rfl (y_fieldAddr rfl rfl (fa29_2 _ _ _)) ?_
  refine wL_val (v := .int .i64 gv) (wg rfl rfl rfl rfl) rfl rfl (y_load rfl rfl (r_load Try.underlying3 rfl (St.cl 1 S6 rfl qRow_g2))) ?_
  refine wL_val (v := .pointer (some ⟨b4, 2, none⟩)) (wg rfl rfl rfl rfl) rfl rfl (y_fieldAddr rfl rfl (fa29_2 _ _ _)) ?_
  refine wL_val (v := .int .i64 gv) (wg rfl rfl rfl rfl) rfl rfl (y_load rfl rfl (r_load Try.underlying3 rfl (St.cl 0 S6 rfl qRow_g2))) ?_
  refine wL_val (v := .bool false) (wg rfl rfl rfl rfl) rfl rfl (y_binop rfl rfl rfl (r_neq_f rfl)) ?_
  refine wL_val (v := .bool false) (wn rfl) rfl rfl (y_pick_f rfl rfl rfl) ?_
  refine wL_val (v := .bool false) (wn rfl) rfl rfl (y_move rfl rfl) ?_
  refine wL_val (v := .pointer (some ⟨b1, 5, none⟩)) (wg rfl rfl rfl rfl) rfl rfl (y_fieldAddr rfl rfl (fa29_5 _ _ _)) ?_
  refine wL_val (v := .agg ((W.cells).toArray)) (wg rfl rfl rfl rfl) rfl rfl (y_load rfl rfl (r_load_agg (cs := (W.cells)) Try.underlying27 rfl inf27 rfl (St.rg 1 S6 rfl (qRow_ws)))) ?_
  refine wL_val (v := .pointer (some ⟨b4, 5, none⟩)) (wg rfl rfl rfl rfl) rfl rfl (y_fieldAddr rfl rfl (fa29_5 _ _ _)) ?_
  refine wL_val (v := .agg ((W.cells).toArray)) (wg rfl rfl rfl rfl) rfl rfl (y_load rfl rfl (r_load_agg (cs := (W.cells)) Try.underlying27 rfl inf27 rfl (St.rg 0 S6 rfl (qRow_ws)))) ?_
  refine wL_val (v := .bool false) (wg rfl rfl rfl rfl) rfl rfl (y_binop rfl rfl rfl (r_eqg (by kernel_rfl) (wins_neq W  _))) ?_
  refine wL_val (v := .bool false) (wn rfl) rfl rfl (y_pick_f rfl rfl rfl) ?_
  refine wL_val (v := .bool false) (wn rfl) rfl rfl (y_move rfl rfl) ?_
  refine wL_val (v := .pointer (some ⟨b1, 3, none⟩)) (wg rfl rfl rfl rfl) rfl rfl (y_fieldAddr rfl rfl (fa29_3 _ _ _)) ?_
  refine wL_val (v := .slice A1 rs.length c1) (wg rfl rfl rfl rfl) rfl rfl (y_load rfl rfl (r_load Try.underlying22 rfl (St.cl 1 S6 rfl qRow_g3))) ?_
  refine wL_val (v := .int .i64 ((rs.length : Nat) : Int)) (wg rfl rfl rfl rfl) rfl rfl (y_builtin (vs := [.slice A1 rs.length c1]) rfl ⟨rfl, trivial⟩ fun _ => r_len rfl Try.underlying22) ?_
  refine wL_val (v := .pointer (some ⟨b4, 3, none⟩)) (wg rfl rfl rfl rfl) rfl rfl (y_fieldAddr rfl rfl (fa29_3 _ _ _)) ?_
  refine wL_val (v := .slice A3 rs.length c3) (wg rfl rfl rfl rfl) rfl rfl (y_load rfl rfl (r_load Try.underlying22 rfl (St.cl 0 S6 rfl qRow_g3))) ?_
  refine wL_val (v := .int .i64 ((rs.length : Nat) : Int)) (wg rfl rfl rfl rfl) rfl rfl (y_builtin (vs := [.slice A3 rs.length c3]) rfl ⟨rfl, trivial⟩ fun _ => r_len rfl Try.underlying22) ?_
  refine wL_val (v := .bool false) (wg rfl rfl rfl rfl) rfl rfl (y_binop rfl rfl rfl (r_neq_f rfl)) ?_
  refine wL_val (v := .bool false) (wn rfl) rfl rfl (y_pick_f rfl rfl rfl) ?_
  refine wL_val (v := .bool false) (wn rfl) rfl rfl (y_move rfl rfl) ?_
  refine wL_val (v := .pointer (some ⟨b1, 4, none⟩)) (wg rfl rfl rfl rfl) rfl rfl (y_fieldAddr rfl rfl (fa29_4 _ _ _)) ?_
  refine wL_val (v := .slice A2 ls.length c2) (wg rfl rfl rfl rfl) rfl rfl (y_load rfl rfl (r_load Try.underlying23 rfl (St.cl 1 S6 rfl qRow_g4))) ?_
  refine wL_val (v := .int .i64 ((ls.length : Nat) : Int)) (wg rfl rfl rfl rfl) rfl rfl (y_builtin (vs := [.slice A2 ls.length c2]) rfl ⟨rfl, trivial⟩ fun _ => r_len rfl Try.underlying23) ?_
  refine wL_val (v := .pointer (some ⟨b4, 4, none⟩)) (wg rfl rfl rfl rfl) rfl rfl (y_fieldAddr rfl rfl (fa29_4 _ _ _)) ?_
  refine wL_val (v := .slice A4 ls.length c4) (wg rfl rfl rfl rfl) rfl rfl (y_load rfl rfl (r_load Try.underlying23 rfl (St.cl 0 S6 rfl qRow_g4))) ?_
  refine wL_val (v := .int .i64 ((ls.length : Nat) : Int)) (wg rfl rfl rfl rfl) rfl rfl (y_builtin (vs := [.slice A4 ls.length c4]) rfl ⟨rfl, trivial⟩ fun _ => r_len rfl Try.underlying23) ?_
  refine wL_val (v := .bool false) (wg rfl rfl rfl rfl) rfl rfl (y_binop rfl rfl rfl (r_neq_f rfl)) ?_
  refine wL_val (v := .bool false) (wn rfl) rfl rfl (y_pick_f rfl rfl rfl) ?_
  refine wL_nil ?_
  refine wQ_sub (l' := [(2, _), (3, _), (4, _), (50, _)]) ⟨rfl, rfl, rfl, rfl, trivial⟩ ?_
  refine wQ_then ?_
  refine wC_cond_f rfl ?_
  refine wC_skip ?_
  refine wQ_then ?_
  refine wC_seq ?_
  refine wC_seq ?_
  refine wC_region ?_
  refine wL_val (v := .int .i64 0) (wn rfl) rfl rfl (y_assign rfl rfl) ?_
  refine wL_nil ?_
  refine wQ_sub (l' := [(2, _), (3, _), (4, _), (5, _)]) ⟨rfl, rfl, rfl, rfl, trivial⟩ ?_
  refine wQ_then ?_
  refine wC_block ?_
  refine wC_loop (X := Nat) (fun xv => [(2, .pointer (some ⟨b1, 0, none⟩)), (3, .pointer (some ⟨b4, 0, none⟩)), (4, .bool false), (5, .int .i64 ((xv : Nat) : Int))]) (fun xv wr => (xv ≤ rs.length) ∧ St w.heap.size w wr [.blk b4 (qRow ep nx gv (.slice A3 rs.length c3) (.slice A4 ls.length c4) W) 29, .blk b1 (qRow ep nx gv (.slice A1 rs.length c1) (.slice A2 ls.length c2) W) 29, .rd 4 A4 ls.length ((ls).flatMap Ls.cells), .rd 2 A3 rs.length ((rs).flatMap Msg.cells), .rd 4 A2 ls.length ((ls).flatMap Ls.cells), .rd 2 A1 rs.length ((rs).flatMap Msg.cells)]) (fun xv => rs.length - xv) (0) ?_ ?_ ?_
  · exact ⟨Nat.zero_le _, S6⟩
  · exact ⟨rfl, rfl, rfl, rfl, trivial⟩
  · rintro k w7 ⟨hi9, S8⟩
    try dsimp only at hi9 S8
    clear S6
    refine wC_sub (l' := [(2, .pointer (some ⟨b1, 0, none⟩)), (3, .pointer (some ⟨b4, 0, none⟩)), (4, .bool false), (5, .int .i64 ((k : Nat) : Int))]) ⟨rfl, rfl, rfl, rfl, trivial⟩ ?_
    refine wC_seq ?_
    refine wC_seq ?_
    refine wC_region ?_
    refine wL_val (v := .int .i64 ((k : Nat) : Int)) (wn rfl) rfl rfl (y_move rfl rfl) ?_
    refine wL_val (v := .pointer (some ⟨b1, 3, none⟩)) (wn rfl) rfl rfl (y_fieldAddr rfl rfl (fa29_3 _ _ _)) ?_
    refine wL_val (v := .slice A1 rs.length c1) (wn rfl) rfl rfl (y_load rfl rfl (r_load Try.underlying22 rfl (St.cl 1 S8 rfl qRow_g3))) ?_
    refine wL_val (v := .int .i64 ((rs.length : Nat) : Int)) (wn rfl) rfl rfl (y_builtin (vs := [.slice A1 rs.length c1]) rfl ⟨rfl, trivial⟩ fun _ => r_len rfl Try.underlying22) ?_
    by_cases h10 : ((k : Nat) : Int) < ((rs.length : Nat) : Int)
    · refine wL_val (v := .bool true) (wn rfl) rfl rfl (y_binop rfl rfl rfl (r_lss_t h10)) ?_
      refine wL_nil ?_
      refine wQ_sub (l' := [(2, _), (3, _), (4, _), (5, _), (55, _)]) ⟨rfl, rfl, rfl, rfl, rfl, trivial⟩ ?_
      refine wQ_then ?_
      refine wC_cond_t rfl ?_
      refine wC_skip ?_
      refine wQ_then ?_
      refine wC_seq ?_
      refine wC_block ?_
      refine wC_seq ?_
      refine wC_quiet S8 mixed (by kernel_rfl) ?_
      refine wU_val (v := .pointer (some ⟨b1, 3, none⟩)) (wn rfl) rfl rfl (fun _ _ => (y_fieldAddr rfl rfl (fa29_3 _ _ _))) ?_
      refine wU_val (v := .slice A1 rs.length c1) (wn rfl) rfl rfl (fun _ Sx12 => (y_load rfl rfl (r_load Try.underlying22 rfl (St.cl 1 Sx12 rfl qRow_g3)))) ?_
      refine wU_val (v := .int .i64 ((k : Nat) : Int)) (wn rfl) rfl rfl (fun _ _ => (y_move rfl rfl)) ?_
      obtain ⟨b14, o15, rfl⟩ := Rd.addr (St.rd 5 S8 rfl) (by omega)
      obtain ⟨x16, hx17⟩ : ∃ x, (rs)[k]? = some x := ⟨_, List.getElem?_eq_getElem (by have := (St.rd 5 S8 rfl).1; rw [fm_len (sz := 2) (fun _ => rfl)] at this; omega)⟩
      refine wU_val (v := .pointer (some ⟨b14, o15 + k * 2, none⟩)) (wn rfl) rfl rfl (fun _ _ => (y_indexAddr rfl rfl rfl (r_indexAddr k Try.underlying22 inf137 (by omega) (by omega)))) ?_
      refine wU_val (v := .agg #[.int .i64 x16.no, .int .i64 x16.body]) (wn rfl) rfl rfl (fun _ Sx19 => (y_load rfl rfl (r_load_agg (cs := Msg.cells x16) Try.underlying137 rfl inf137 rfl (Rd.rg2 (St.rd 5 Sx19 rfl) (fun _ _ h => fm_get (enc := Msg.cells) (sz := 2) (fun _ => rfl) hx17 h))))) ?_
      refine wU_val (v := .pointer (some ⟨b4, 3, none⟩)) (wn rfl) rfl rfl (fun _ _ => (y_fieldAddr rfl rfl (fa29_3 _ _ _))) ?_
      refine wU_val (v := .slice A3 rs.length c3) (wn rfl) rfl rfl (fun _ Sx21 => (y_load rfl rfl (r_load Try.underlying22 rfl (St.cl 0 Sx21 rfl qRow_g3)))) ?_
      refine wU_val (v := .int .i64 ((k : Nat) : Int)) (wn rfl) rfl rfl (fun _ _ => (y_move rfl rfl)) ?_
      obtain ⟨b23, o24, rfl⟩ := Rd.addr (St.rd 3 S8 rfl) (by omega)
      refine wU_val (v := .pointer (some ⟨b23, o24 + k * 2, none⟩)) (wn rfl) rfl rfl (fun _ _ => (y_indexAddr rfl rfl rfl (r_indexAddr k Try.underlying22 inf137 (by omega) (by omega)))) ?_
      refine wU_val (v := .agg #[.int .i64 x16.no, .int .i64 x16.body]) (wn rfl) rfl rfl (fun _ Sx26 => (y_load rfl rfl (r_load_agg (cs := Msg.cells x16) Try.underlying137 rfl inf137 rfl (Rd.rg2 (St.rd 3 Sx26 rfl) (fun _ _ h => fm_get (enc := Msg.cells) (sz := 2) (fun _ => rfl) hx17 h))))) ?_
      refine wU_val (v := .bool false) (wn rfl) rfl rfl (fun _ _ => (y_binop rfl rfl rfl (r_eqg (by kernel_rfl) (msg_neq x16  _)))) ?_
      refine wU_nil fun w28 S29 => ?_
      clear S8
      refine wQ_sub (l' := [(2, _), (3, _), (4, _), (5, _), (68, _)]) ⟨rfl, rfl, rfl, rfl, rfl, trivial⟩ ?_
      refine wQ_then ?_
      refine wC_cond_f rfl ?_
      refine wC_skip ?_
      refine wQ_blk_n ?_
      refine wQ_then ?_
      refine wC_region ?_
      refine wL_val (v := .int .i64 ((k : Nat) : Int)) (wn rfl) rfl rfl (y_move rfl rfl) ?_
      refine wL_val (v := .int .i64 ((k + 1 : Nat) : Int)) (wn rfl) rfl rfl (y_binop rfl rfl rfl (r_add (by omega) (by omega))) ?_
      refine wL_val (v := .int .i64 ((k + 1 : Nat) : Int)) (wn rfl) rfl rfl (y_assign rfl rfl) ?_
      refine wL_nil ?_
      refine wQ_sub (l' := [(2, _), (3, _), (4, _), (5, _)]) ⟨rfl, rfl, rfl, rfl, trivial⟩ ?_
      refine wQ_round (k + 1) ?_ ⟨rfl, rfl, rfl, rfl, trivial⟩ (by first | omega | (dsimp only; omega))
      exact ⟨(by omega), S29⟩
    · refine wL_val (v := .bool false) (wn rfl) rfl rfl (y_binop rfl rfl rfl (r_lss_f h10)) ?_
      refine wL_nil ?_
      refine wQ_sub (l' := [(2, _), (3, _), (4, _), (5, _), (55, _)]) ⟨rfl, rfl, rfl, rfl, rfl, trivial⟩ ?_
      refine wQ_then ?_
      refine wC_cond_f rfl ?_
      refine wC_exit ?_
      refine wQ_then_exit ?_
      refine wQ_then_exit ?_
      refine wQ_blk_same ?_
      refine wQ_then ?_
      refine wC_seq ?_
      refine wC_seq ?_
      refine wC_region ?_
      refine wL_val (v := .int .i64 0) (wn rfl) rfl rfl (y_assign rfl rfl) ?_
      refine wL_nil ?_
      refine wQ_sub (l' := [(2, _), (3, _), (4, _), (6, _)]) ⟨rfl, rfl, rfl, rfl, trivial⟩ ?_
      refine wQ_then ?_
      refine wC_block ?_
      refine wC_loop (X := Nat) (fun xv => [(2, .pointer (some ⟨b1, 0, none⟩)), (3, .pointer (some ⟨b4, 0, none⟩)), (4, .bool false), (6, .int .i64 ((xv : Nat) : Int))]) (fun xv wr => (xv ≤ ls.length) ∧ St w.heap.size w wr [.blk b4 (qRow ep nx gv (.slice A3 rs.length c3) (.slice A4 ls.length c4) W) 29, .blk b1 (qRow ep nx gv (.slice A1 rs.length c1) (.slice A2 ls.length c2) W) 29, .rd 4 A4 ls.length ((ls).flatMap Ls.cells), .rd 2 A3 rs.length ((rs).flatMap Msg.cells), .rd 4 A2 ls.length ((ls).flatMap Ls.cells), .rd 2 A1 rs.length ((rs).flatMap Msg.cells)]) (fun xv => ls.length - xv) (0) ?_ ?_ ?_
      · exact ⟨Nat.zero_le _, S8⟩
      · exact ⟨rfl, rfl, rfl, rfl, trivial⟩
      · rintro j w30 ⟨hi32, S31⟩
        try dsimp only at hi32 S31
        clear S8
        refine wC_sub (l' := [(2, .pointer (some ⟨b1, 0, none⟩)), (3, .pointer (some ⟨b4, 0, none⟩)), (4, .bool false), (6, .int .i64 ((j : Nat) : Int))]) ⟨rfl, rfl, rfl, rfl, trivial⟩ ?_
        refine wC_seq ?_
        refine wC_seq ?_
        refine wC_region ?_
        refine wL_val (v := .int .i64 ((j : Nat) : Int)) (wn rfl) rfl rfl (y_move rfl rfl) ?_
        refine wL_val (v := .pointer (some ⟨b1, 4, none⟩)) (wn rfl) rfl rfl (y_fieldAddr rfl rfl (fa29_4 _ _ _)) ?_
        refine wL_val (v := .slice A2 ls.length c2) (wn rfl) rfl rfl (y_load rfl rfl (r_load Try.underlying23 rfl (St.cl 1 S31 rfl qRow_g4))) ?_
        refine wL_val (v := .int .i64 ((ls.length : Nat) : Int)) (wn rfl) rfl rfl (y_builtin (vs := [.slice A2 ls.length c2]) rfl ⟨rfl, trivial⟩ fun _ => r_len rfl Try.underlying23) ?_
        by_cases h33 : ((j : Nat) : Int) < ((ls.length : Nat) : Int)
        · refine wL_val (v := .bool true) (wn rfl) rfl rfl (y_binop rfl rfl rfl (r_lss_t h33)) ?_
          refine wL_nil ?_
          refine wQ_sub (l' := [(2, _), (3, _), (4, _), (6, _), (73, _)]) ⟨rfl, rfl, rfl, rfl, rfl, trivial⟩ ?_
          refine wQ_then ?_
          refine wC_cond_t rfl ?_
          refine wC_skip ?_
          refine wQ_then ?_
          refine wC_seq ?_
          refine wC_block ?_
          refine wC_seq ?_
          refine wC_quiet S31 mixed (by kernel_rfl) ?_
          refine wU_val (v := .pointer (some ⟨b1, 4, none⟩)) (wn rfl) rfl rfl (fun _ _ => (y_fieldAddr rfl rfl (fa29_4 _ _ _))) ?_
          refine wU_val (v := .slice A2 ls.length c2) (wn rfl) rfl rfl (fun _ Sx35 => (y_load rfl rfl (r_load Try.underlying23 rfl (St.cl 1 Sx35 rfl qRow_g4)))) ?_
          refine wU_val (v := .int .i64 ((j : Nat) : Int)) (wn rfl) rfl rfl (fun _ _ => (y_move rfl rfl)) ?_
          obtain ⟨b37, o38, rfl⟩ := Rd.addr (St.rd 4 S31 rfl) (by omega)
          obtain ⟨x39, hx40⟩ : ∃ x, (ls)[j]? = some x := ⟨_, List.getElem?_eq_getElem (by have := (St.rd 4 S31 rfl).1; rw [fm_len (sz := 4) (fun _ => rfl)] at this; omega)⟩
          refine wU_val (v := .pointer (some ⟨b37, o38 + j * 4, none⟩)) (wn rfl) rfl rfl (fun _ _ => (y_indexAddr rfl rfl rfl (r_indexAddr j Try.underlying23 inf141 (by omega) (by omega)))) ?_
          refine wU_val (v := .agg #[.int .i64 x39.hep, .int .i64 x39.hno, .int .i64 x39.msg.no, .int .i64 x39.msg.body]) (wn rfl) rfl rfl (fun _ Sx42 => (y_load rfl rfl (r_load_agg (cs := Ls.cells x39) Try.underlying141 rfl inf141 rfl (Rd.rg2 (St.rd 4 Sx42 rfl) (fun _ _ h => fm_get (enc := Ls.cells) (sz := 4) (fun _ => rfl) hx40 h))))) ?_
          refine wU_val (v := .pointer (some ⟨b4, 4, none⟩)) (wn rfl) rfl rfl (fun _ _ => (y_fieldAddr rfl rfl (fa29_4 _ _ _))) ?_
          refine wU_val (v := .slice A4 ls.length c4) (wn rfl) rfl rfl (fun _ Sx44 => (y_load rfl rfl (r_load Try.underlying23 rfl (St.cl 0 Sx44 rfl qRow_g4)))) ?_
          refine wU_val (v := .int .i64 ((j : Nat) : Int)) (wn rfl) rfl rfl (fun _ _ => (y_move rfl rfl)) ?_
          obtain ⟨b46, o47, rfl⟩ := Rd.addr (St.rd 2 S31 rfl) (by omega)
          refine wU_val (v := .pointer (some ⟨b46, o47 + j * 4, none⟩)) (wn rfl) rfl rfl (fun _ _ => (y_indexAddr rfl rfl rfl (r_indexAddr j Try.underlying23 inf141 (by omega) (by omega)))) ?_
          refine wU_val (v := .agg #[.int .i64 x39.hep, .int .i64 x39.hno, .int .i64 x39.msg.no, .int .i64 x39.msg.body]) (wn rfl) rfl rfl (fun _ Sx49 => (y_load rfl rfl (r_load_agg (cs := Ls.cells x39) Try.underlying141 rfl inf141 rfl (Rd.rg2 (St.rd 2 Sx49 rfl) (fun _ _ h => fm_get (enc := Ls.cells) (sz := 4) (fun _ => rfl) hx40 h))))) ?_
          refine wU_val (v := .bool false) (wn rfl) rfl rfl (fun _ _ => (y_binop rfl rfl rfl (r_eqg (by kernel_rfl) (ls_neq x39  _)))) ?_
          refine wU_nil fun w51 S52 => ?_
          clear S31
          refine wQ_sub (l' := [(2, _), (3, _), (4, _), (6, _), (86, _)]) ⟨rfl, rfl, rfl, rfl, rfl, trivial⟩ ?_
          refine wQ_then ?_
          refine wC_cond_f rfl ?_
          refine wC_skip ?_
          refine wQ_blk_n ?_
          refine wQ_then ?_
          refine wC_region ?_
          refine wL_val (v := .int .i64 ((j : Nat) : Int)) (wn rfl) rfl rfl (y_move rfl rfl) ?_
          refine wL_val (v := .int .i64 ((j + 1 : Nat) : Int)) (wn rfl) rfl rfl (y_binop rfl rfl rfl (r_add (by omega) (by omega))) ?_
          refine wL_val (v := .int .i64 ((j + 1 : Nat) : Int)) (wn rfl) rfl rfl (y_assign rfl rfl) ?_
          refine wL_nil ?_
          refine wQ_sub (l' := [(2, _), (3, _), (4, _), (6, _)]) ⟨rfl, rfl, rfl, rfl, trivial⟩ ?_
          refine wQ_round (j + 1) ?_ ⟨rfl, rfl, rfl, rfl, trivial⟩ (by first | omega | (dsimp only; omega))
          exact ⟨(by omega), S52⟩
        · refine wL_val (v := .bool false) (wn rfl) rfl rfl (y_binop rfl rfl rfl (r_lss_f h33)) ?_
          refine wL_nil ?_
          refine wQ_sub (l' := [(2, _), (3, _), (4, _), (6, _), (73, _)]) ⟨rfl, rfl, rfl, rfl, rfl, trivial⟩ ?_
          refine wQ_then ?_
          refine wC_cond_f rfl ?_
          refine wC_exit ?_
          refine wQ_then_exit ?_
          refine wQ_then_exit ?_
          refine wQ_blk_same ?_
          refine wQ_then ?_
          refine wC_seq ?_
          refine wC_region ?_
          refine wL_val (v := .bool true) (wn rfl) rfl rfl (y_assign rfl rfl) ?_
          refine wL_nil ?_
          refine wQ_sub (l' := [(4, _)]) ⟨rfl, trivial⟩ ?_
          refine wQ_then ?_
          refine wC_ret ?_
          refine wQ_post (rs := [.tmp 4]) (vs := [.bool true]) rfl ⟨rfl, trivial⟩ ?_
          exact ⟨rfl, S31.low⟩
end Go.Proofs.Ytkjlafpafmihaaa

namespace Go.Proofs.Ytkjlafpafmihaaa
open Go.ChangeShapes Go.WideShapes Go.RowKit

set_option maxRecDepth 100000 in
set_option maxHeartbeats 1000000 in
theorem queues_calls (ep nx gv : Int) (A1 A2 : Option Addr) (c1 c2 : Nat) (rs : List Msg) (ls : List Ls) (W : Wins) (w : World) (h1 : Rd w w.heap.size 2 A1 rs.length (rs.flatMap Msg.cells)) (h2 : Rd w w.heap.size 4 A2 ls.length (ls.flatMap Ls.cells)) (hb1 : rs.length * 16 ≤ reachBytes) (hb2 : ls.length * 32 ≤ reachBytes) :
    Calls Try.prog 31 #[.agg (qRow ep nx gv (.slice A1 rs.length c1) (.slice A2 ls.length c2) W)] w (QNew w ep nx gv rs ls W) := by
  have S := ((St.start w).addRd h2).addRd h1
  refine calls_of_wC (N := 5) (vs := [.agg (qRow ep nx gv (.slice A1 rs.length c1) (.slice A2 ls.length c2) W)]) Try.func31 rfl rfl rfl ?_
  refine wC_sub (l' := [(0, .agg (qRow ep nx gv (.slice A1 rs.length c1) (.slice A2 ls.length c2) W))]) ⟨rfl, trivial⟩ ?_
  refine wC_seq ?_
  refine wC_region ?_
  refine wL_new (V := fun b => .pointer (some ⟨b, 0, none⟩)) (row := qRow ep nx gv (.slice A1 rs.length c1) (.slice A2 ls.length c2) W) (t := 29) S (wn rfl) rfl rfl (d_box rfl rfl rfl) ?_
  intro b1 w2 S3
  clear S
  refine wL_new (V := fun b => .pointer (some ⟨b, 0, none⟩)) (row := qRow 0 0 0 (.slice none 0 0) (.slice none 0 0) zeroWs) (t := 29) S3 (wn rfl) rfl rfl (d_alloc rfl (Try.zeroValue29 _) rfl) ?_
  intro b4 w5 S6
  clear S3
  refine wL_nil ?_
  refine wQ_sub (l' := [(1, _), (2, _)]) ⟨rfl, rfl, trivial⟩ ?_
  refine wQ_then ?_
  refine wC_seq ?_
  refine wC_region ?_
  refine wL_val (v := .agg (qRow ep nx gv (.slice A1 rs.length c1) (.slice A2 ls.length c2) W)) (wn rfl) rfl rfl (y_load rfl rfl (r_load_row 1 S6 rfl Try.underlying29 rfl inf29 rfl)) ?_
  refine wL_call (vs := [.agg (qRow ep nx gv (.slice A1 rs.length c1) (.slice A2 ls.length c2) W)]) (wn rfl) rfl rfl (e_call (vs := [.agg (qRow ep nx gv (.slice A1 rs.length c1) (.slice A2 ls.length c2) W)]) rfl en106 ⟨rfl, trivial⟩) (QueueCopy_calls ep nx gv A1 A2 c1 c2 rs ls W _ (St.rd 2 S6 rfl) (St.rd 3 S6 rfl) hb1 hb2) ?_
  rintro _ w11 ⟨A7, c8, A9, c10, rfl, T13⟩
  refine ⟨_, rfl, ?_⟩
  have S12 := S6.ext T13 rfl
  clear T13 S6
  change St _ _ _ [.own 141 4 (.slice A9 ls.length c10) ls.length ((ls).flatMap Ls.cells), .own 137 2 (.slice A7 rs.length c8) rs.length ((rs).flatMap Msg.cells), _, _, _, _] at S12
  refine wL_st (cs := qRow ep nx gv (.slice A7 rs.length c8) (.slice A9 ls.length c10) W) (row' := qRow ep nx gv (.slice A7 rs.length c8) (.slice A9 ls.length c10) W) (fs' := [_, _, .blk b4 (qRow ep nx gv (.slice A7 rs.length c8) (.slice A9 ls.length c10) W) 29, _, _, _]) 2 S12 (wn rfl) rfl rfl rfl rfl rfl rfl inf29 rfl (qRow_one rfl rfl) (Nat.le_of_ble_eq_true rfl) (setAll_all rfl) rfl ?_
  intro w14 S15
  clear S12
  refine wL_nil ?_
  refine wQ_sub (l' := [(2, _)]) ⟨rfl, trivial⟩ ?_
  refine wQ_then ?_
  refine wC_ret ?_
  refine wQ_post (rs := [.cell 2 29]) (vs := [.agg (qRow ep nx gv (.slice A7 rs.length c8) (.slice A9 ls.length c10) W)]) rfl ⟨⟨_, rfl, res_row 2 S15 rfl Try.underlying29 rfl inf29⟩, trivial⟩ ?_
  have S16 : St w.heap.size w w14 [_, _] := (St.del 2 (St.del 3 (St.del 4 (St.del 5 S15))))
  clear S15
  exact ⟨_, _, _, _, rfl, S16⟩

end Go.Proofs.Ytkjlafpafmihaaa

namespace Go.Proofs.Ytkjlafpafmihaaa
open Go.ChangeShapes Go.WideShapes Go.RowKit

section
variable {Q : Qd} {an : List Ans} {l : List Ev} {e : Ev} {k : Nat}
theorem step_len : (stepM Q e).1.ready.length + (stepM Q e).1.leases.length ≤ Q.ready.length + Q.leases.length + 1 := by
  unfold stepM
  split
  · unfold pubM; split; · dsimp only; omega
    split; · dsimp only; omega
    split; · dsimp only; omega
    simp only [List.length_append, List.length_cons, List.length_nil]; omega
  · split
    · obtain ⟨ep, nx, gv, rs, ls, W⟩ := Q
      cases rs with
      | nil => simp [recM]
      | cons m r => simp only [recM]; split <;> simp <;> omega
    · split
      · unfold ackM; split; · dsimp only; omega
        split; · dsimp only; omega
        have := List.length_filter_le (fun x : Ls => decide (x.hno ≠ e.hno)) Q.leases
        simp only
        omega
      · unfold endM; split; · dsimp only; omega
        have h := (fold_perm Q.leases Q.ready).length_eq
        rw [List.length_append, List.length_map] at h
        simp only [List.length_nil]
        omega
end
end Go.Proofs.Ytkjlafpafmihaaa

namespace Go.Proofs.Ytkjlafpafmihaaa
open Go.ChangeShapes Go.WideShapes Go.RowKit

theorem do_small (Q : Qd) (e : Ev) : (doM Q e).1.ready.length + (doM Q e).1.leases.length ≤ 501 := by
  by_cases h0 : Q.fault = 0
  · by_cases h1 : evFault e = 0
    · rw [do_ok h0 h1]
      have h2 := (qf_zero h0).1
      unfold rngQ at h2
      have := step_len (Q := Q) (e := e)
      simp only
      omega
    · rw [do_ef h0 h1]; simp [zeroQd]
  · rw [do_qf h0]; simp [zeroQd]

set_option maxRecDepth 100000 in
set_option maxHeartbeats 2000000 in
theorem queueDoes_calls (ep nx gv kd pr id bd he hn : Int) (A1 A2 : Option Addr) (c1 c2 : Nat) (rs : List Msg) (ls : List Ls) (W : Wins) (w : World) (h1 : Rd w w.heap.size 2 A1 rs.length (rs.flatMap Msg.cells)) (h2 : Rd w w.heap.size 4 A2 ls.length (ls.flatMap Ls.cells)) (hb1 : rs.length * 16 ≤ reachBytes) (hb2 : ls.length * 32 ≤ reachBytes) :
    Calls Try.prog 15 #[.agg (qRow ep nx gv (.slice A1 rs.length c1) (.slice A2 ls.length c2) W), .agg #[.int .i64 kd, .int .i64 pr, .int .i64 id, .int .i64 bd, .int .i64 he, .int .i64 hn]] w fun e w' => e = .returned (.bool true) ∧ Below w.heap.size w w' := by
  have S := ((St.start w).addRd h2).addRd h1
  clear h1 h2
  have HD1 := fun A1 A2 c1 c2 w h1 h2 => Do_calls ep nx gv kd pr id bd he hn A1 A2 c1 c2 rs ls W w h1 h2 hb1 hb2
  have HD2 := fun A1 A2 c1 c2 w h1 h2 => QueueDone_calls ep nx gv kd pr id bd he hn A1 A2 c1 c2 rs ls W w h1 h2 hb1 hb2
  have hsm := do_small ⟨ep, nx, gv, rs, ls, W⟩ ⟨kd, pr, id, bd, he, hn⟩
  generalize doM ⟨ep, nx, gv, rs, ls, W⟩ ⟨kd, pr, id, bd, he, hn⟩ = R at HD1 HD2 hsm
  unfold reachBytes at hb1 hb2
  refine calls_of_wC (N := 55) (vs := [.agg (qRow ep nx gv (.slice A1 rs.length c1) (.slice A2 ls.length c2) W), .agg #[.int .i64 kd, .int .i64 pr, .int .i64 id, .int .i64 bd, .int .i64 he, .int .i64 hn]]) Try.func15 rfl rfl rfl ?_
  refine wC_sub (l' := [(0, .agg (qRow ep nx gv (.slice A1 rs.length c1) (.slice A2 ls.length c2) W)), (1, .agg #[.int .i64 kd, .int .i64 pr, .int .i64 id, .int .i64 bd, .int .i64 he, .int .i64 hn])]) ⟨rfl, rfl, trivial⟩ ?_
  refine wC_seq ?_
  refine wC_region ?_
  refine wL_new (V := fun b => .pointer (some ⟨b, 0, none⟩)) (row := qRow ep nx gv (.slice A1 rs.length c1) (.slice A2 ls.length c2) W) (t := 29) S (wn rfl) rfl rfl (d_box rfl rfl rfl) ?_
  intro b1 w2 S3
  clear S
  refine wL_new (V := fun b => .pointer (some ⟨b, 0, none⟩)) (row := #[.int .i64 kd, .int .i64 pr, .int .i64 id, .int .i64 bd, .int .i64 he, .int .i64 hn]) (t := 37) S3 (wn rfl) rfl rfl (d_box rfl rfl rfl) ?_
  intro b4 w5 S6
  clear S3
  refine wL_val (v := .bool false) (wn rfl) rfl rfl (y_assign rfl rfl) ?_
  refine wL_nil ?_
  refine wQ_sub (l' := [(2, _), (3, _), (4, _)]) ⟨rfl, rfl, rfl, trivial⟩ ?_
  refine wQ_then ?_
  refine wC_seq ?_
  refine wC_region ?_
  refine wL_val (v := .agg (qRow ep nx gv (.slice A1 rs.length c1) (.slice A2 ls.length c2) W)) (wn rfl) rfl rfl (y_load rfl rfl (r_load_row 1 S6 rfl Try.underlying29 rfl inf29 rfl)) ?_
  refine wL_call (vs := [.agg (qRow ep nx gv (.slice A1 rs.length c1) (.slice A2 ls.length c2) W)]) (wn rfl) rfl rfl (e_call (vs := [.agg (qRow ep nx gv (.slice A1 rs.length c1) (.slice A2 ls.length c2) W)]) rfl en31 ⟨rfl, trivial⟩) (queues_calls ep nx gv A1 A2 c1 c2 rs ls W _ (St.rd 2 S6 rfl) (St.rd 3 S6 rfl) hb1 hb2) ?_
  rintro _ w11 ⟨A7, c8, A9, c10, rfl, T13⟩
  refine ⟨_, rfl, ?_⟩
  have S12 := S6.ext T13 rfl
  clear T13 S6
  change St _ _ _ [.own 141 4 (.slice A9 ls.length c10) ls.length ((ls).flatMap Ls.cells), .own 137 2 (.slice A7 rs.length c8) rs.length ((rs).flatMap Msg.cells), _, _, _, _] at S12
  refine wL_new (V := fun b => .pointer (some ⟨b, 0, none⟩)) (row := qRow 0 0 0 (.slice none 0 0) (.slice none 0 0) zeroWs) (t := 29) S12 (wn rfl) rfl rfl (d_alloc rfl (Try.zeroValue29 _) rfl) ?_
  intro b14 w15 S16
  clear S12
  refine wL_st (cs := qRow ep nx gv (.slice A7 rs.length c8) (.slice A9 ls.length c10) W) (row' := qRow ep nx gv (.slice A7 rs.length c8) (.slice A9 ls.length c10) W) (fs' := [.blk b14 (qRow ep nx gv (.slice A7 rs.length c8) (.slice A9 ls.length c10) W) 29, _, _, _, _, _, _]) 0 S16 (wn rfl) rfl rfl rfl rfl rfl rfl inf29 rfl (qRow_one rfl rfl) (Nat.le_of_ble_eq_true rfl) (setAll_all rfl) rfl ?_
  intro w17 S18
  clear S16
  refine wL_nil ?_
  refine wQ_sub (l' := [(2, _), (3, _), (4, _), (5, _)]) ⟨rfl, rfl, rfl, rfl, trivial⟩ ?_
  refine wQ_then ?_
  refine wC_seq ?_
  refine wC_region ?_
  refine wL_val (v := .agg (qRow ep nx gv (.slice A7 rs.length c8) (.slice A9 ls.length c10) W)) (wn rfl) rfl rfl (y_load rfl rfl (r_load_row 0 S18 rfl Try.underlying29 rfl inf29 rfl)) ?_
  refine wL_val (v := .agg #[.int .i64 kd, .int .i64 pr, .int .i64 id, .int .i64 bd, .int .i64 he, .int .i64 hn]) (wn rfl) rfl rfl (y_load rfl rfl (r_load_row 3 S18 rfl Try.underlying37 rfl inf37 rfl)) ?_
  refine wL_call (vs := [.agg (qRow ep nx gv (.slice A7 rs.length c8) (.slice A9 ls.length c10) W), .agg #[.int .i64 kd, .int .i64 pr, .int .i64 id, .int .i64 bd, .int .i64 he, .int .i64 hn]]) (wn rfl) rfl rfl (e_call (vs := [.agg (qRow ep nx gv (.slice A7 rs.length c8) (.slice A9 ls.length c10) W), .agg #[.int .i64 kd, .int .i64 pr, .int .i64 id, .int .i64 bd, .int .i64 he, .int .i64 hn]]) rfl en66 ⟨rfl, rfl, trivial⟩) (HD1 A7 A9 c8 c10 _ (St.ord 2 S18 rfl) (St.ord 1 S18 rfl)) ?_
  rintro _ w23 ⟨A19, c20, A21, c22, rfl, T25⟩
  refine ⟨_, rfl, ?_⟩
  have S24 := S18.ext T25 rfl
  clear T25 S18
  change St _ _ _ [.rdo 2 A19 R.1.ready.length ((R.1.ready).flatMap Msg.cells), .rdo 4 A21 R.1.leases.length ((R.1.leases).flatMap Ls.cells), _, _, _, _, _, _, _] at S24
  refine wL_val (v := .tuple #[.agg (qRow R.1.ep R.1.nx R.1.gv (.slice A19 R.1.ready.length c20) (.slice A21 R.1.leases.length c22) R.1.ws), .agg #[.int .i64 R.2.1.code, .int .i64 R.2.1.hep, .int .i64 R.2.1.hno, .int .i64 R.2.1.body], .bool R.2.2.1, .int .i64 R.2.2.2]) (wn rfl) rfl rfl (y_move rfl rfl) ?_
  refine wL_val (v := .agg (qRow R.1.ep R.1.nx R.1.gv (.slice A19 R.1.ready.length c20) (.slice A21 R.1.leases.length c22) R.1.ws)) (wn rfl) rfl rfl (y_extract rfl rfl rfl) ?_
  refine wL_val (v := .agg #[.int .i64 R.2.1.code, .int .i64 R.2.1.hep, .int .i64 R.2.1.hno, .int .i64 R.2.1.body]) (wn rfl) rfl rfl (y_extract rfl rfl rfl) ?_
  refine wL_val (v := .bool R.2.2.1) (wn rfl) rfl rfl (y_extract rfl rfl rfl) ?_
  refine wL_val (v := .int .i64 R.2.2.2) (wn rfl) rfl rfl (y_extract rfl rfl rfl) ?_
  refine wL_new (V := fun b => .pointer (some ⟨b, 0, none⟩)) (row := qRow 0 0 0 (.slice none 0 0) (.slice none 0 0) zeroWs) (t := 29) S24 (wn rfl) rfl rfl (d_alloc rfl (Try.zeroValue29 _) rfl) ?_
  intro b26 w27 S28
  clear S24
  refine wL_new (V := fun b => .pointer (some ⟨b, 0, none⟩)) (row := #[.int .i64 0, .int .i64 0, .int .i64 0, .int .i64 0]) (t := 93) S28 (wn rfl) rfl rfl (d_alloc rfl (Try.zeroValue93 _) rfl) ?_
  intro b29 w30 S31
  clear S28
  refine wL_st (cs := qRow R.1.ep R.1.nx R.1.gv (.slice A19 R.1.ready.length c20) (.slice A21 R.1.leases.length c22) R.1.ws) (row' := qRow R.1.ep R.1.nx R.1.gv (.slice A19 R.1.ready.length c20) (.slice A21 R.1.leases.length c22) R.1.ws) (fs' := [_, .blk b26 (qRow R.1.ep R.1.nx R.1.gv (.slice A19 R.1.ready.length c20) (.slice A21 R.1.leases.length c22) R.1.ws) 29, _, _, _, _, _, _, _, _, _]) 1 S31 (wn rfl) rfl rfl rfl rfl rfl rfl inf29 rfl (qRow_one rfl rfl) (Nat.le_of_ble_eq_true rfl) (setAll_all rfl) rfl ?_
  intro w32 S33
  clear S31
  refine wL_st (cs := #[.int .i64 R.2.1.code, .int .i64 R.2.1.hep, .int .i64 R.2.1.hno, .int .i64 R.2.1.body]) (row' := #[.int .i64 R.2.1.code, .int .i64 R.2.1.hep, .int .i64 R.2.1.hno, .int .i64 R.2.1.body]) (fs' := [.blk b29 #[.int .i64 R.2.1.code, .int .i64 R.2.1.hep, .int .i64 R.2.1.hno, .int .i64 R.2.1.body] 93, _, _, _, _, _, _, _, _, _, _]) 0 S33 (wn rfl) rfl rfl rfl rfl rfl rfl inf93 rfl (oneAll rfl) (Nat.le_of_ble_eq_true rfl) (setAll_all rfl) rfl ?_
  intro w34 S35
  clear S33
  refine wL_val (v := .bool R.2.2.1) (wn rfl) rfl rfl (y_assign rfl rfl) ?_
  refine wL_val (v := .int .i64 R.2.2.2) (wn rfl) rfl rfl (y_assign rfl rfl) ?_
  refine wL_nil ?_
  refine wQ_sub (l' := [(2, _), (3, _), (4, _), (5, _), (6, _), (7, _), (8, _), (9, _)]) ⟨rfl, rfl, rfl, rfl, rfl, rfl, rfl, rfl, trivial⟩ ?_
  refine wQ_then ?_
  refine wC_seq ?_
  refine wC_region ?_
  refine wL_val (v := .agg (qRow ep nx gv (.slice A1 rs.length c1) (.slice A2 ls.length c2) W)) (wn rfl) rfl rfl (y_load rfl rfl (r_load_row 8 S35 rfl Try.underlying29 rfl inf29 rfl)) ?_
  refine wL_val (v := .agg #[.int .i64 kd, .int .i64 pr, .int .i64 id, .int .i64 bd, .int .i64 he, .int .i64 hn]) (wn rfl) rfl rfl (y_load rfl rfl (r_load_row 7 S35 rfl Try.underlying37 rfl inf37 rfl)) ?_
  refine wL_call (vs := [.agg (qRow ep nx gv (.slice A1 rs.length c1) (.slice A2 ls.length c2) W), .agg #[.int .i64 kd, .int .i64 pr, .int .i64 id, .int .i64 bd, .int .i64 he, .int .i64 hn]]) (wn rfl) rfl rfl (e_call (vs := [.agg (qRow ep nx gv (.slice A1 rs.length c1) (.slice A2 ls.length c2) W), .agg #[.int .i64 kd, .int .i64 pr, .int .i64 id, .int .i64 bd, .int .i64 he, .int .i64 hn]]) rfl en67 ⟨rfl, rfl, trivial⟩) (HD2 A1 A2 c1 c2 _ (St.rd 9 S35 rfl) (St.rd 10 S35 rfl)) ?_
  rintro _ w40 ⟨A36, c37, A38, c39, rfl, T42⟩
  refine ⟨_, rfl, ?_⟩
  have S41 := S35.ext T42 rfl
  clear T42 S35
  change St _ _ _ [.rdo 2 A36 R.1.ready.length ((R.1.ready).flatMap Msg.cells), .rdo 4 A38 R.1.leases.length ((R.1.leases).flatMap Ls.cells), _, _, _, _, _, _, _, _, _, _, _] at S41
  refine wL_val (v := .tuple #[.agg (qRow R.1.ep R.1.nx R.1.gv (.slice A36 R.1.ready.length c37) (.slice A38 R.1.leases.length c39) R.1.ws), .agg #[.int .i64 R.2.1.code, .int .i64 R.2.1.hep, .int .i64 R.2.1.hno, .int .i64 R.2.1.body], .bool R.2.2.1, .int .i64 R.2.2.2]) (wn rfl) rfl rfl (y_move rfl rfl) ?_
  refine wL_val (v := .agg (qRow R.1.ep R.1.nx R.1.gv (.slice A36 R.1.ready.length c37) (.slice A38 R.1.leases.length c39) R.1.ws)) (wn rfl) rfl rfl (y_extract rfl rfl rfl) ?_
  refine wL_val (v := .agg #[.int .i64 R.2.1.code, .int .i64 R.2.1.hep, .int .i64 R.2.1.hno, .int .i64 R.2.1.body]) (wn rfl) rfl rfl (y_extract rfl rfl rfl) ?_
  refine wL_val (v := .bool R.2.2.1) (wn rfl) rfl rfl (y_extract rfl rfl rfl) ?_
  refine wL_val (v := .int .i64 R.2.2.2) (wn rfl) rfl rfl (y_extract rfl rfl rfl) ?_
  refine wL_new (V := fun b => .pointer (some ⟨b, 0, none⟩)) (row := qRow 0 0 0 (.slice none 0 0) (.slice none 0 0) zeroWs) (t := 29) S41 (wn rfl) rfl rfl (d_alloc rfl (Try.zeroValue29 _) rfl) ?_
  intro b43 w44 S45
  clear S41
  refine wL_new (V := fun b => .pointer (some ⟨b, 0, none⟩)) (row := #[.int .i64 0, .int .i64 0, .int .i64 0, .int .i64 0]) (t := 93) S45 (wn rfl) rfl rfl (d_alloc rfl (Try.zeroValue93 _) rfl) ?_
  intro b46 w47 S48
  clear S45
  refine wL_st (cs := qRow R.1.ep R.1.nx R.1.gv (.slice A36 R.1.ready.length c37) (.slice A38 R.1.leases.length c39) R.1.ws) (row' := qRow R.1.ep R.1.nx R.1.gv (.slice A36 R.1.ready.length c37) (.slice A38 R.1.leases.length c39) R.1.ws) (fs' := [_, .blk b43 (qRow R.1.ep R.1.nx R.1.gv (.slice A36 R.1.ready.length c37) (.slice A38 R.1.leases.length c39) R.1.ws) 29, _, _, _, _, _, _, _, _, _, _, _, _, _]) 1 S48 (wn rfl) rfl rfl rfl rfl rfl rfl inf29 rfl (qRow_one rfl rfl) (Nat.le_of_ble_eq_true rfl) (setAll_all rfl) rfl ?_
  intro w49 S50
  clear S48
  refine wL_st (cs := #[.int .i64 R.2.1.code, .int .i64 R.2.1.hep, .int .i64 R.2.1.hno, .int .i64 R.2.1.body]) (row' := #[.int .i64 R.2.1.code, .int .i64 R.2.1.hep, .int .i64 R.2.1.hno, .int .i64 R.2.1.body]) (fs' := [.blk b46 #[.int .i64 R.2.1.code, .int .i64 R.2.1.hep, .int .i64 R.2.1.hno, .int .i64 R.2.1.body] 93, _, _, _, _, _, _, _, _, _, _, _, _, _, _]) 0 S50 (wn rfl) rfl rfl rfl rfl rfl rfl inf93 rfl (oneAll rfl) (Nat.le_of_ble_eq_true rfl) (setAll_all rfl) rfl ?_
  intro w51 S52
  clear S50
  refine wL_val (v := .bool R.2.2.1) (wn rfl) rfl rfl (y_assign rfl rfl) ?_
  refine wL_val (v := .int .i64 R.2.2.2) (wn rfl) rfl rfl (y_assign rfl rfl) ?_
  refine wL_nil ?_
  refine wQ_sub (l' := [(2, _), (4, _), (5, _), (6, _), (7, _), (8, _), (9, _), (10, _), (11, _), (12, _), (13, _)]) ⟨rfl, rfl, rfl, rfl, rfl, rfl, rfl, rfl, rfl, rfl, rfl, trivial⟩ ?_
  refine wQ_then ?_
  refine wC_seq ?_
  refine wC_region ?_
  refine wL_val (v := .agg #[.int .i64 R.2.1.code, .int .i64 R.2.1.hep, .int .i64 R.2.1.hno, .int .i64 R.2.1.body]) (wn rfl) rfl rfl (y_load rfl rfl (r_load_row 4 S52 rfl Try.underlying93 rfl inf93 rfl)) ?_
  refine wL_val (v := .agg #[.int .i64 R.2.1.code, .int .i64 R.2.1.hep, .int .i64 R.2.1.hno, .int .i64 R.2.1.body]) (wn rfl) rfl rfl (y_load rfl rfl (r_load_row 0 S52 rfl Try.underlying93 rfl inf93 rfl)) ?_
  refine wL_val (v := .bool true) (wn rfl) rfl rfl (y_binop rfl rfl rfl (r_eqg (by kernel_rfl) (ans_eql R.2.1  _))) ?_
  refine wL_val (v := .bool true) (wn rfl) rfl rfl (y_move rfl rfl) ?_
  refine wL_val (v := .bool R.2.2.1) (wg rfl rfl rfl rfl) rfl rfl (y_move rfl rfl) ?_
  refine wL_val (v := .bool R.2.2.1) (wg rfl rfl rfl rfl) rfl rfl (y_move rfl rfl) ?_
  refine wL_val (v := .bool true) (wg rfl rfl rfl rfl) rfl rfl (y_binop rfl rfl rfl (r_beq_self Try.underlying4)) ?_
  refine wL_val (v := .bool true) (wn rfl) rfl rfl (y_pick_t rfl rfl rfl) ?_
  refine wL_val (v := .bool true) (wn rfl) rfl rfl (y_move rfl rfl) ?_
  refine wL_val (v := .int .i64 R.2.2.2) (wg rfl rfl rfl rfl) rfl rfl (y_move rfl rfl) ?_
  refine wL_val (v := .int .i64 R.2.2.2) (wg rfl rfl rfl rfl) rfl rfl (y_move rfl rfl) ?_
  refine wL_val (v := .bool true) (wg rfl rfl rfl rfl) rfl rfl (y_binop rfl rfl rfl (r_eql_t rfl)) ?_
  refine wL_val (v := .bool true) (wn rfl) rfl rfl (y_pick_t rfl rfl rfl) ?_
  refine wL_val (v := .bool true) (wn rfl) rfl rfl (y_move rfl rfl) ?_
  refine wL_val (v := .agg (qRow R.1.ep R.1.nx R.1.gv (.slice A19 R.1.ready.length c20) (.slice A21 R.1.leases.length c22) R.1.ws)) (wg rfl rfl rfl rfl) rfl rfl (y_load rfl rfl (r_load_row 5 S52 rfl Try.underlying29 rfl inf29 rfl)) ?_
  refine wL_val (v := .agg (qRow R.1.ep R.1.nx R.1.gv (.slice A36 R.1.ready.length c37) (.slice A38 R.1.leases.length c39) R.1.ws)) (wg rfl rfl rfl rfl) rfl rfl (y_load rfl rfl (r_load_row 1 S52 rfl Try.underlying29 rfl inf29 rfl)) ?_
  refine wL_call (vs := [.agg (qRow R.1.ep R.1.nx R.1.gv (.slice A19 R.1.ready.length c20) (.slice A21 R.1.leases.length c22) R.1.ws), .agg (qRow R.1.ep R.1.nx R.1.gv (.slice A36 R.1.ready.length c37) (.slice A38 R.1.leases.length c39) R.1.ws)]) (wg rfl rfl rfl rfl) rfl rfl (e_call (vs := [.agg (qRow R.1.ep R.1.nx R.1.gv (.slice A19 R.1.ready.length c20) (.slice A21 R.1.leases.length c22) R.1.ws), .agg (qRow R.1.ep R.1.nx R.1.gv (.slice A36 R.1.ready.length c37) (.slice A38 R.1.leases.length c39) R.1.ws)]) rfl en68 ⟨rfl, rfl, trivial⟩) (sameQueue_calls R.1.ep R.1.nx R.1.gv A19 A21 A36 A38 c20 c22 c37 c39 R.1.ready R.1.leases R.1.ws _ (St.rdo 6 S52 rfl) (St.rdo 7 S52 rfl) (St.rdo 2 S52 rfl) (St.rdo 3 S52 rfl) (by omega) (by omega)) ?_
  rintro _ w53 ⟨rfl, hb55⟩
  refine ⟨_, rfl, ?_⟩
  have S54 := S52.on hb55
  clear hb55 S52
  refine wL_val (v := .bool true) (wn rfl) rfl rfl (y_pick_t rfl rfl rfl) ?_
  refine wL_val (v := .bool true) (wn rfl) rfl rfl (y_move rfl rfl) ?_
  refine wL_val (v := .agg (qRow ep nx gv (.slice A7 rs.length c8) (.slice A9 ls.length c10) W)) (wg rfl rfl rfl rfl) rfl rfl (y_load rfl rfl (r_load_row 8 S54 rfl Try.underlying29 rfl inf29 rfl)) ?_
  refine wL_val (v := .agg (qRow ep nx gv (.slice A1 rs.length c1) (.slice A2 ls.length c2) W)) (wg rfl rfl rfl rfl) rfl rfl (y_load rfl rfl (r_load_row 12 S54 rfl Try.underlying29 rfl inf29 rfl)) ?_
  refine wL_call (vs := [.agg (qRow ep nx gv (.slice A7 rs.length c8) (.slice A9 ls.length c10) W), .agg (qRow ep nx gv (.slice A1 rs.length c1) (.slice A2 ls.length c2) W)]) (wg rfl rfl rfl rfl) rfl rfl (e_call (vs := [.agg (qRow ep nx gv (.slice A7 rs.length c8) (.slice A9 ls.length c10) W), .agg (qRow ep nx gv (.slice A1 rs.length c1) (.slice A2 ls.length c2) W)]) rfl en68 ⟨rfl, rfl, trivial⟩) (sameQueue_calls ep nx gv A7 A9 A1 A2 c8 c10 c1 c2 rs ls W _ (St.ord 10 S54 rfl) (St.ord 9 S54 rfl) (St.rd 13 S54 rfl) (St.rd 14 S54 rfl) (by omega) (by omega)) ?_
  rintro _ w56 ⟨rfl, hb58⟩
  refine ⟨_, rfl, ?_⟩
  have S57 := S54.on hb58
  clear hb58 S54
  refine wL_val (v := .bool true) (wn rfl) rfl rfl (y_pick_t rfl rfl rfl) ?_
  refine wL_val (v := .bool true) (wn rfl) rfl rfl (y_assign rfl rfl) ?_
  refine wL_nil ?_
  refine wQ_sub (l' := [(4, _)]) ⟨rfl, trivial⟩ ?_
  refine wQ_then ?_
  refine wC_ret ?_
  refine wQ_post (rs := [.tmp 4]) (vs := [.bool true]) rfl ⟨rfl, trivial⟩ ?_
  exact ⟨rfl, S57.low⟩

set_option maxRecDepth 100000 in
theorem queueDoes_walk (W : World) (args : Array Value) (h : All2 (ArgOk Try.prog W) args.toList Try.f15.params.toList) :
    Calls Try.prog 15 args W fun e W' => e = .returned (.bool true) ∧ Below W.heap.size W W' := by
  rw [Try.params15] at h
  obtain ⟨v, l1, hv, h1, h0⟩ := All2.cons_ h
  obtain ⟨v2, l2, hv2, h2, h3⟩ := All2.cons_ h0
  have h4 := All2.nil_ h3
  subst h4
  obtain rfl : args = #[v, v2] := by cases args; simp_all
  obtain ⟨ep, nx, gv, A1, c1, A2, c2, rs, ls, X, rfl, hr1, hr2, hb1, hb2⟩ := arg_queue h1
  obtain ⟨e, rfl⟩ := arg_event h2
  exact queueDoes_calls ep nx gv e.kind e.producer e.id e.body e.hepoch e.hno A1 A2 c1 c2 rs ls X W hr1 hr2 hb1 hb2
end Go.Proofs.Ytkjlafpafmihaaa

namespace Go.Proofs.Ytkjlafpafmihaaa
open Go.ChangeShapes Go.WideShapes Go.ChangeAt Go.RowKit

def blank1 : Char := Char.ofNat 32
theorem words_blank (b : List Char) : wordsSigns (blank1 :: b) = [] :: wordsSigns b := rfl
theorem words_cons : ∀ (a b : List Char), a.all (fun c => !(c == blank1)) = true → wordsSigns (a ++ blank1 :: b) = a :: wordsSigns b
  | [], b, _ => words_blank b
  | c :: a, b, h => by
    simp only [List.all_cons, Bool.and_eq_true, Bool.not_eq_true', beq_eq_false_iff_ne] at h
    have ih := words_cons a b h.2
    rw [List.cons_append, wordsSigns, ih]
    intro e
    exact h.1 e
theorem head_words {l : List Char} (h1 : l.take 8 = "harness".toList ++ [blank1]) (h2 : ((l.drop 8).take 64).all (fun c => !(c == blank1)) = true) (h3 : (l.drop 72).take 5 = [blank1] ++ ("cut".toList ++ [blank1])) :
    ∃ s rest, s = (l.drop 8).take 64 ∧ wordsSigns l = "harness".toList :: s :: "cut".toList :: rest := by
  refine ⟨_, wordsSigns (l.drop 77), rfl, ?_⟩
  generalize hs : (l.drop 8).take 64 = s at h2
  have e1 : l = "harness".toList ++ blank1 :: (s ++ blank1 :: ("cut".toList ++ blank1 :: l.drop 77)) := by
    have a1 : l.take 8 ++ l.drop 8 = l := List.take_append_drop 8 l
    have a2 : (l.drop 8).take 64 ++ (l.drop 8).drop 64 = l.drop 8 := List.take_append_drop 64 _
    have a3 : (l.drop 72).take 5 ++ (l.drop 72).drop 5 = l.drop 72 := List.take_append_drop 5 _
    rw [List.drop_drop] at a2 a3
    rw [h3] at a3
    rw [h1] at a1
    rw [hs] at a2
    calc l = _ := a1.symm
      _ = _ := by rw [← a2, show 8 + 64 = 72 from rfl, ← a3]; simp
  generalize l.drop 77 = r at e1
  rw [e1, words_cons _ _ (by decide), words_cons _ _ h2, words_cons _ _ (by decide)]
theorem strip_cut (rest : List (List Char)) : stripLifts liftWords ("cut".toList :: rest) = ([], "cut".toList :: rest) := by
  unfold liftWords
  repeat (rw [stripLifts, if_neg (by decide)])
  rw [stripLifts]
section
variable {P : Program} {s : List Char} {rest : List (List Char)} (hw : wordsSigns P.initOrder.toList = "harness".toList :: s :: "cut".toList :: rest) (hs : isSumSigns s = true)
include hw hs
theorem behind_cut : behindMainWord (wordsSigns P.initOrder.toList) = "cut".toList :: rest := by
  rw [hw, behindMainWord, if_pos (by rw [hs]; decide)]
theorem mayEnter_cut (h1 : P.laysLater = false) (h2 : P.bearsReflect = false) (h3 : P.doorRows = []) : P.mayEnter = true := by
  unfold Program.mayEnter
  rw [behind_cut hw hs]
  simp only
  rw [strip_cut]
  simp only [h1, h2]
  have h4 : P.doorFits [] = true := by
    unfold Program.doorFits
    rw [h3]
    decide
  rw [h4]
  simp
theorem headLifts_cut : P.headLifts = [] := by
  unfold Program.headLifts
  rw [behind_cut hw hs, strip_cut]
  rfl
theorem liftsFinal_cut : P.liftsFinal = false := by
  unfold Program.liftsFinal
  rw [headLifts_cut hw hs, behind_cut hw hs]
  simp only [List.head?_cons]
  rw [show (some "cut".toList == some "carried".toList) = false by decide]
  rfl
theorem make_cut : P.make = some .cut := by
  unfold Program.make
  rw [behind_cut hw hs]
  simp only
  rw [if_neg (by decide), if_pos (by rw [show ("cut".toList == "cut".toList) = true by decide]; rfl)]
end

/-- The closed facts ahead of the head's. -/
def headFacts (P : Program) (f : FuncId) (fn : Func) (s : ChangeSpec) (c : OpenClaim) : Bool :=
  c.wf (OpenSpec.ofChange s) && laidOutB P && mapsRowed P &&
  fn.params.all (P.readableRec ·) && namedTie P c.named s.vars &&
  (c.stops == []) && (P.stops == []) && (c.knobs == []) && (P.stopKnobs == []) &&
  (c.inPlace == P.inPlace f) && (c.unfollowed == P.unfollowed f) && (c.recurses == P.recurses f) && (c.named == P.varsNamed f) &&
  (c.maps == (fn.params.toList ++ s.plain.varTypes P).any (P.mapsRec ·)) && (c.ifaces == (fn.params.toList ++ s.plain.varTypes P).any (P.ifacesRec ·)) && (c.mapsOut == P.mapsAmong fn.resultTypes.toList) &&
  (c.loops == (fn.params.toList ++ s.plain.varTypes P).any (P.loopsFrom ·)) && (c.wideKeys == (fn.params.toList ++ s.plain.varTypes P ++ fn.resultTypes.toList).any (P.wideKeysFrom ·)) &&
  s.vars.all (P.varReadable ·) && fn.resultTypes.all (fun t => P.readableRec t && decide (t < P.types.size)) && (c.ifacesOut == fn.resultTypes.toList.any (P.ifacesRec ·)) && (c.loopsOut == fn.resultTypes.toList.any (P.loopsFrom ·)) && (c.plainKeys == P.plainKeys) && c.shortTexts.isNone && P.stopsHeard
theorem joined_of {P : Program} {f : FuncId} {fn : Func} {s : ChangeSpec} {c : OpenClaim} (h : headFacts P f fn s c = true) (h1 : P.mayEnter = true) (h2 : (c.lifted == P.liftsFinal) = true) (h3 : (P.make == some c.make) = true)
    (h4 : ((c.kinds == (if c.domain.isEmpty then [] else fn.params.toList.map fun t => match P.underlying t with | some (.int k) => some k | _ => none)) && (c.pinned == c.pinnedBy) &&
      (c.veiled == (fn.params.toList ++ s.plain.varTypes P ++ fn.resultTypes.toList).any (P.veiledRec ·)) && c.veiledFits P fn.params.toList (fn.params.toList ++ s.plain.varTypes P ++ fn.resultTypes.toList)) = true) : joinedFacts P f fn s c = true := by
  have e : joinedFacts P f fn s c = (headFacts P f fn s c && P.mayEnter && (c.lifted == P.liftsFinal) && (P.make == some c.make) && (c.kinds == (if c.domain.isEmpty then [] else fn.params.toList.map fun t => match P.underlying t with | some (.int k) => some k | _ => none)) && (c.pinned == c.pinnedBy) &&
      (c.veiled == (fn.params.toList ++ s.plain.varTypes P ++ fn.resultTypes.toList).any (P.veiledRec ·)) && c.veiledFits P fn.params.toList (fn.params.toList ++ s.plain.varTypes P ++ fn.resultTypes.toList)) := rfl
  rw [e, h, h1, h2, h3]
  simpa using h4

set_option maxRecDepth 100000 in
theorem ord_signs : ∃ l : List Char, Try.prog.initOrder.toList = l ∧ l.take 8 = "harness".toList ++ [blank1] ∧ ((l.drop 8).take 64).all (fun c => !(c == blank1)) = true ∧ (l.drop 72).take 5 = [blank1] ++ ("cut".toList ++ [blank1]) ∧ isSumSigns ((l.drop 8).take 64) = true := by
  rw [show Try.prog.initOrder = Try.tables.initOrder by kernel_rfl]
  unfold Try.tables
  simp only []
  exact ⟨_, String.toList_ofList, by kernel_rfl, by kernel_rfl, by kernel_rfl, by kernel_rfl⟩
theorem ord_words : ∃ s rest, wordsSigns Try.prog.initOrder.toList = "harness".toList :: s :: "cut".toList :: rest ∧ isSumSigns s = true := by
  obtain ⟨l, e, h1, h2, h3, h4⟩ := ord_signs
  obtain ⟨s, rest, es, hw⟩ := head_words h1 h2 h3
  subst es
  exact ⟨_, rest, by rw [e]; exact hw, h4⟩
theorem prog_later : Try.prog.laysLater = false := by kernel_rfl
theorem prog_reflect : Try.prog.bearsReflect = false := by kernel_rfl
theorem prog_doors : Try.prog.doorRows = [] := by kernel_rfl
theorem prog_enter : Try.prog.mayEnter = true := by
  obtain ⟨s, rest, hw, hs⟩ := ord_words
  exact mayEnter_cut hw hs prog_later prog_reflect prog_doors
theorem prog_lifts : (false == Try.prog.liftsFinal) = true := by
  obtain ⟨s, rest, hw, hs⟩ := ord_words
  rw [liftsFinal_cut hw hs]
  rfl
theorem prog_make : (Try.prog.make == some .cut) = true := by
  obtain ⟨s, rest, hw, hs⟩ := ord_words
  rw [make_cut hw hs]
  decide
end Go.Proofs.Ytkjlafpafmihaaa

