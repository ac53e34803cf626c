/- Parts of proofs: lemmas on memory, on single functions and on the plain models; no condition of their own. -/
import Derived.Test.YtkjlafpafmihaaaRows
import Derived.WalkKit
import Derived.ProofKit
import Derived.OpenShut
import Derived.SizedLaws
import Derived.WalkSpells
import Derived.WalkLawsBesides
import Derived.Handy
import Derived.Deep.QuietTactic
import Derived.BigQuiet
import Derived.Lib.Hide
import Derived.Maps.AppendAt
import Derived.Deep.AppendLies
import Derived.RegionTactic
import Derived.OwnWalk
import Derived.Laws.Tables
import Derived.Deep.MidRow
import Derived.StillTailTactics
import Derived.OrdersHeld
import Derived.Deep.RegionHeld3
import Derived.Laws.IdiomCopy
import Derived.ChangeKeysEq
import Derived.Laws.BitsAllLaws
import Derived.Deep.DeepCutAuto
import Derived.Deep.CutRange
import Derived.Test.YtkjlafpafmihaaaG0e35ec4e0bdc
import Derived.Test.YtkjlafpafmihaaaG2143c9b0b786
import Derived.Test.YtkjlafpafmihaaaG3cad135f796d
import Derived.Test.YtkjlafpafmihaaaG668153da7687
import Derived.Test.YtkjlafpafmihaaaGa89c1a6f9966
import Derived.Test.YtkjlafpafmihaaaGa956530333d6
import Derived.Test.YtkjlafpafmihaaaGad4fca606e19
import Derived.Test.YtkjlafpafmihaaaGb705d1f06a25
import Derived.Test.YtkjlafpafmihaaaGc78e27da6ed6
import Derived.Test.YtkjlafpafmihaaaGfbe38c0473d2
import Derived.Test.YtkjlafpafmihaaaGfed51b8f206e
set_option linter.unusedVariables false
set_option linter.unusedSimpArgs false

namespace Go.Proofs.Ytkjlafpafmihaaa
open Go.ChangeShapes Go.WideShapes Go.RowKit

set_option maxRecDepth 100000 in
theorem msg_neq (x : Msg) (w : World) : (binOp .neq 137 (.agg (x.cells).toArray) (.agg (x.cells).toArray)).run Try.prog w = .ok (.bool false) w :=
  run_neq_self w (l := (.at_ (.int .i64) :: .at_ (.int .i64) :: [])) (by kernel_rfl) (by kernel_rfl) (fun xs => by unfold mkV; rw [Try.underlying137]) ⟨⟨_, rfl⟩, ⟨_, rfl⟩, trivial⟩
set_option maxRecDepth 100000 in
theorem ls_neq (x : Ls) (w : World) : (binOp .neq 141 (.agg (x.cells).toArray) (.agg (x.cells).toArray)).run Try.prog w = .ok (.bool false) w :=
  run_neq_self w (l := (.at_ (.int .i64) :: .at_ (.int .i64) :: .at_ (.int .i64) :: .at_ (.int .i64) :: [])) (by kernel_rfl) (by kernel_rfl) (fun xs => by unfold mkV; rw [Try.underlying141]) ⟨⟨_, rfl⟩, ⟨_, rfl⟩, ⟨_, rfl⟩, ⟨_, rfl⟩, trivial⟩
set_option maxRecDepth 100000 in
theorem wins_neq (x : Wins) (w : World) : (binOp .neq 27 (.agg (x.cells).toArray) (.agg (x.cells).toArray)).run Try.prog w = .ok (.bool false) w :=
  run_neq_self w (l := (.at_ (.int .i64) :: .at_ .bool :: .at_ .bool :: .at_ .bool :: .at_ .bool :: .at_ .bool :: .at_ .bool :: .at_ .bool :: .at_ .bool :: .at_ (.int .i64) :: .at_ .bool :: .at_ .bool :: .at_ .bool :: .at_ .bool :: .at_ .bool :: .at_ .bool :: .at_ .bool :: .at_ .bool :: .at_ (.int .i64) :: .at_ .bool :: .at_ .bool :: .at_ .bool :: .at_ .bool :: .at_ .bool :: .at_ .bool :: .at_ .bool :: .at_ .bool :: .at_ (.int .i64) :: .at_ .bool :: .at_ .bool :: .at_ .bool :: .at_ .bool :: .at_ .bool :: .at_ .bool :: .at_ .bool :: .at_ .bool :: [])) (by kernel_rfl) (by kernel_rfl) (fun xs => by unfold mkV; rw [Try.underlying27]) ⟨⟨_, rfl⟩, ⟨_, rfl⟩, ⟨_, rfl⟩, ⟨_, rfl⟩, ⟨_, rfl⟩, ⟨_, rfl⟩, ⟨_, rfl⟩, ⟨_, rfl⟩, ⟨_, rfl⟩, ⟨_, rfl⟩, ⟨_, rfl⟩, ⟨_, rfl⟩, ⟨_, rfl⟩, ⟨_, rfl⟩, ⟨_, rfl⟩, ⟨_, rfl⟩, ⟨_, rfl⟩, ⟨_, rfl⟩, ⟨_, rfl⟩, ⟨_, rfl⟩, ⟨_, rfl⟩, ⟨_, rfl⟩, ⟨_, rfl⟩, ⟨_, rfl⟩, ⟨_, rfl⟩, ⟨_, rfl⟩, ⟨_, rfl⟩, ⟨_, rfl⟩, ⟨_, rfl⟩, ⟨_, rfl⟩, ⟨_, rfl⟩, ⟨_, rfl⟩, ⟨_, rfl⟩, ⟨_, rfl⟩, ⟨_, rfl⟩, ⟨_, rfl⟩, trivial⟩
set_option maxRecDepth 100000 in
set_option maxHeartbeats 2000000 in
theorem sameQueue_calls (ep nx gv : Int) (A1 A2 A3 A4 : Option Addr) (c1 c2 c3 c4 : Nat) (rs : List Msg) (ls : List Ls) (W : Wins) (w : World) (h1 : Rd w w.heap.size 2 A1 rs.length (rs.flatMap Msg.cells)) (h2 : Rd w w.heap.size 4 A2 ls.length (ls.flatMap Ls.cells)) (h3 : Rd w w.heap.size 2 A3 rs.length (rs.flatMap Msg.cells)) (h4 : Rd w w.heap.size 4 A4 ls.length (ls.flatMap Ls.cells)) (hb1 : rs.length ≤ 1152921504606846976) (hb2 : ls.length ≤ 1152921504606846976) :
    Calls Try.prog 68 #[.agg (qRow ep nx gv (.slice A1 rs.length c1) (.slice A2 ls.length c2) W), .agg (qRow ep nx gv (.slice A3 rs.length c3) (.slice A4 ls.length c4) W)] w (BoolB w true) := by
 have S := ((((St.start w).addRd h1).addRd h2).addRd h3).addRd h4; clear h1 h2 h3 h4
 refine calls_of_wC (N := 87) (vs := [.agg (qRow ep nx gv (.slice A1 rs.length c1) (.slice A2 ls.length c2) W), .agg (qRow ep nx gv (.slice A3 rs.length c3) (.slice A4 ls.length c4) W)]) Try.func68 rfl rfl rfl ?_
 refine wC_sub (l' := [(0, .agg (qRow ep nx gv (.slice A1 rs.length c1) (.slice A2 ls.length c2) W)), (1, .agg (qRow ep nx gv (.slice A3 rs.length c3) (.slice A4 ls.length c4) W))]) ⟨rfl, rfl, trivial⟩ (wC_seq (wC_region (wL_new (V := fun b => .pointer (some ⟨b, 0, none⟩)) (row := qRow ep nx gv (.slice A1 rs.length c1) (.slice A2 ls.length c2) W) (t := 29) S (wn rfl) rfl rfl (d_box rfl rfl rfl) ?_))); intro b1 w2 S3; clear S
 refine wL_new (V := fun b => .pointer (some ⟨b, 0, none⟩)) (row := qRow ep nx gv (.slice A3 rs.length c3) (.slice A4 ls.length c4) W) (t := 29) S3 (wn rfl) rfl rfl (d_box rfl rfl rfl) ?_; intro b4 w5 S6; clear S3
 refine wL_val (wn rfl) rfl rfl (y_assign rfl rfl) ?_
 refine wL_nil (wQ_sub (l' := [(2, _), (3, _), (4, _)]) ⟨rfl, rfl, rfl, trivial⟩ (wQ_then (wC_seq (wC_seq (wC_region (wL_val (v := .pointer (some ⟨b1, 0, none⟩)) (wn rfl) rfl rfl (y_fieldAddr rfl rfl (fa29_0 _ _ _)) ?_))))))
 refine wL_val (wn rfl) rfl rfl (y_load rfl rfl (r_load Try.underlying3 rfl (St.cl 1 S6 rfl qRow_g0))) ?_
 refine wL_val (v := .pointer (some ⟨b4, 0, none⟩)) (wn rfl) rfl rfl (y_fieldAddr rfl rfl (fa29_0 _ _ _)) ?_
 refine wL_val (wn rfl) rfl rfl (y_load rfl rfl (r_load Try.underlying3 rfl (St.cl 0 S6 rfl qRow_g0))) ?_
 refine wL_val (v := .bool false) (wn rfl) rfl rfl (y_binop rfl rfl rfl (r_neq_f rfl)) ?_
 refine wL_val (wn rfl) rfl rfl (y_move rfl rfl) ?_
 refine wL_val (v := .pointer (some ⟨b1, 1, none⟩)) (wg rfl rfl rfl rfl) rfl rfl (y_fieldAddr rfl rfl (fa29_1 _ _ _)) ?_
 refine wL_val (wg rfl rfl rfl rfl) rfl rfl (y_load rfl rfl (r_load Try.underlying3 rfl (St.cl 1 S6 rfl qRow_g1))) ?_
 refine wL_val (v := .pointer (some ⟨b4, 1, none⟩)) (wg rfl rfl rfl rfl) rfl rfl (y_fieldAddr rfl rfl (fa29_1 _ _ _)) ?_
 refine wL_val (wg rfl rfl rfl rfl) rfl rfl (y_load rfl rfl (r_load Try.underlying3 rfl (St.cl 0 S6 rfl qRow_g1))) ?_
 refine wL_val (v := .bool false) (wg rfl rfl rfl rfl) rfl rfl (y_binop rfl rfl rfl (r_neq_f rfl)) ?_
 refine wL_val (wn rfl) rfl rfl (y_pick_f rfl rfl rfl) ?_
 refine wL_val (wn rfl) rfl rfl (y_move rfl rfl) ?_
 refine wL_val (v := .pointer (some ⟨b1, 2, none⟩)) (wg rfl rfl rfl rfl) rfl rfl (y_fieldAddr rfl rfl (fa29_2 _ _ _)) ?_
 refine wL_val (wg rfl rfl rfl rfl) rfl rfl (y_load rfl rfl (r_load Try.underlying3 rfl (St.cl 1 S6 rfl qRow_g2))) ?_
 refine wL_val (v := .pointer (some ⟨b4, 2, none⟩)) (wg rfl rfl rfl rfl) rfl rfl (y_fieldAddr rfl rfl (fa29_2 _ _ _)) ?_
 refine wL_val (wg rfl rfl rfl rfl) rfl rfl (y_load rfl rfl (r_load Try.underlying3 rfl (St.cl 0 S6 rfl qRow_g2))) ?_
 refine wL_val (v := .bool false) (wg rfl rfl rfl rfl) rfl rfl (y_binop rfl rfl rfl (r_neq_f rfl)) ?_
 refine wL_val (wn rfl) rfl rfl (y_pick_f rfl rfl rfl) ?_
 refine wL_val (wn rfl) rfl rfl (y_move rfl rfl) ?_
 refine wL_val (v := .pointer (some ⟨b1, 5, none⟩)) (wg rfl rfl rfl rfl) rfl rfl (y_fieldAddr rfl rfl (fa29_5 _ _ _)) ?_
 refine wL_val (wg rfl rfl rfl rfl) rfl rfl (y_load rfl rfl (r_load_agg (cs := (W.cells)) Try.underlying27 rfl inf27 rfl (St.rg 1 S6 rfl (qRow_ws)))) ?_
 refine wL_val (v := .pointer (some ⟨b4, 5, none⟩)) (wg rfl rfl rfl rfl) rfl rfl (y_fieldAddr rfl rfl (fa29_5 _ _ _)) ?_
 refine wL_val (wg rfl rfl rfl rfl) rfl rfl (y_load rfl rfl (r_load_agg (cs := (W.cells)) Try.underlying27 rfl inf27 rfl (St.rg 0 S6 rfl (qRow_ws)))) ?_
 refine wL_val (v := .bool false) (wg rfl rfl rfl rfl) rfl rfl (y_binop rfl rfl rfl (r_eqg (by kernel_rfl) (wins_neq W  _))) ?_
 refine wL_val (wn rfl) rfl rfl (y_pick_f rfl rfl rfl) ?_
 refine wL_val (wn rfl) rfl rfl (y_move rfl rfl) ?_
 refine wL_val (v := .pointer (some ⟨b1, 3, none⟩)) (wg rfl rfl rfl rfl) rfl rfl (y_fieldAddr rfl rfl (fa29_3 _ _ _)) ?_
 refine wL_val (wg rfl rfl rfl rfl) rfl rfl (y_load rfl rfl (r_load Try.underlying22 rfl (St.cl 1 S6 rfl qRow_g3))) ?_
 refine wL_val (v := .int .i64 ((rs.length : Nat) : Int)) (wg rfl rfl rfl rfl) rfl rfl (y_builtin (vs := [.slice A1 rs.length c1]) rfl ⟨rfl, trivial⟩ fun _ => r_len rfl Try.underlying22) ?_
 refine wL_val (v := .pointer (some ⟨b4, 3, none⟩)) (wg rfl rfl rfl rfl) rfl rfl (y_fieldAddr rfl rfl (fa29_3 _ _ _)) ?_
 refine wL_val (wg rfl rfl rfl rfl) rfl rfl (y_load rfl rfl (r_load Try.underlying22 rfl (St.cl 0 S6 rfl qRow_g3))) ?_
 refine wL_val (v := .int .i64 ((rs.length : Nat) : Int)) (wg rfl rfl rfl rfl) rfl rfl (y_builtin (vs := [.slice A3 rs.length c3]) rfl ⟨rfl, trivial⟩ fun _ => r_len rfl Try.underlying22) ?_
 refine wL_val (v := .bool false) (wg rfl rfl rfl rfl) rfl rfl (y_binop rfl rfl rfl (r_neq_f rfl)) ?_
 refine wL_val (wn rfl) rfl rfl (y_pick_f rfl rfl rfl) ?_
 refine wL_val (wn rfl) rfl rfl (y_move rfl rfl) ?_
 refine wL_val (v := .pointer (some ⟨b1, 4, none⟩)) (wg rfl rfl rfl rfl) rfl rfl (y_fieldAddr rfl rfl (fa29_4 _ _ _)) ?_
 refine wL_val (wg rfl rfl rfl rfl) rfl rfl (y_load rfl rfl (r_load Try.underlying23 rfl (St.cl 1 S6 rfl qRow_g4))) ?_
 refine wL_val (v := .int .i64 ((ls.length : Nat) : Int)) (wg rfl rfl rfl rfl) rfl rfl (y_builtin (vs := [.slice A2 ls.length c2]) rfl ⟨rfl, trivial⟩ fun _ => r_len rfl Try.underlying23) ?_
 refine wL_val (v := .pointer (some ⟨b4, 4, none⟩)) (wg rfl rfl rfl rfl) rfl rfl (y_fieldAddr rfl rfl (fa29_4 _ _ _)) ?_
 refine wL_val (wg rfl rfl rfl rfl) rfl rfl (y_load rfl rfl (r_load Try.underlying23 rfl (St.cl 0 S6 rfl qRow_g4))) ?_
 refine wL_val (v := .int .i64 ((ls.length : Nat) : Int)) (wg rfl rfl rfl rfl) rfl rfl (y_builtin (vs := [.slice A4 ls.length c4]) rfl ⟨rfl, trivial⟩ fun _ => r_len rfl Try.underlying23) ?_
 refine wL_val (v := .bool false) (wg rfl rfl rfl rfl) rfl rfl (y_binop rfl rfl rfl (r_neq_f rfl)) ?_
 refine wL_val (wn rfl) rfl rfl (y_pick_f rfl rfl rfl) ?_
 refine wL_nil (wQ_sub (l' := [(2, _), (3, _), (4, _), (50, _)]) ⟨rfl, rfl, rfl, rfl, trivial⟩ (wQ_then (wC_cond_f rfl (wC_skip (wQ_then (wC_seq (wC_seq (wC_region (wL_val (wn rfl) rfl rfl (y_assign rfl rfl) ?_)))))))))
 refine wL_nil (wQ_sub (l' := [(2, _), (3, _), (4, _), (5, _)]) ⟨rfl, rfl, rfl, rfl, trivial⟩ (wQ_then (wC_block (wC_loop (X := Nat) (fun xv => [(2, .pointer (some ⟨b1, 0, none⟩)), (3, .pointer (some ⟨b4, 0, none⟩)), (4, .bool false), (5, .int .i64 ((xv : Nat) : Int))]) (fun xv wr => (xv ≤ rs.length) ∧ St w.heap.size w wr [.blk b4 (qRow ep nx gv (.slice A3 rs.length c3) (.slice A4 ls.length c4) W) 29, .blk b1 (qRow ep nx gv (.slice A1 rs.length c1) (.slice A2 ls.length c2) W) 29, .rd 4 A4 ls.length ((ls).flatMap Ls.cells), .rd 2 A3 rs.length ((rs).flatMap Msg.cells), .rd 4 A2 ls.length ((ls).flatMap Ls.cells), .rd 2 A1 rs.length ((rs).flatMap Msg.cells)]) (fun xv => rs.length - xv) (0) ?_ ?_ ?_))))
 ·exact ⟨Nat.zero_le _, S6⟩
 ·exact ⟨rfl, rfl, rfl, rfl, trivial⟩
 ·rintro k w7 ⟨hi9, S8⟩
  try dsimp only at hi9 S8; clear S6
  refine wC_sub (l' := [(2, .pointer (some ⟨b1, 0, none⟩)), (3, .pointer (some ⟨b4, 0, none⟩)), (4, .bool false), (5, .int .i64 ((k : Nat) : Int))]) ⟨rfl, rfl, rfl, rfl, trivial⟩ (wC_seq (wC_seq (wC_region (wL_val (wn rfl) rfl rfl (y_move rfl rfl) ?_))))
  refine wL_val (v := .pointer (some ⟨b1, 3, none⟩)) (wn rfl) rfl rfl (y_fieldAddr rfl rfl (fa29_3 _ _ _)) ?_
  refine wL_val (wn rfl) rfl rfl (y_load rfl rfl (r_load Try.underlying22 rfl (St.cl 1 S8 rfl qRow_g3))) ?_
  refine wL_val (v := .int .i64 ((rs.length : Nat) : Int)) (wn rfl) rfl rfl (y_builtin (vs := [.slice A1 rs.length c1]) rfl ⟨rfl, trivial⟩ fun _ => r_len rfl Try.underlying22) ?_
  by_cases h10 : ((k : Nat) : Int) < ((rs.length : Nat) : Int)
  ·refine wL_val (v := .bool true) (wn rfl) rfl rfl (y_binop rfl rfl rfl (r_lss_t h10)) ?_
   refine wL_nil (wQ_sub (l' := [(2, _), (3, _), (4, _), (5, _), (55, _)]) ⟨rfl, rfl, rfl, rfl, rfl, trivial⟩ (wQ_then (wC_cond_t rfl (wC_skip (wQ_then (wC_seq (wC_block (wC_seq (wC_quiet S8 mixed (by kernel_rfl) ?_)))))))))
   refine wU_val (v := .pointer (some ⟨b1, 3, none⟩)) (wn rfl) rfl rfl (fun _ _ => (y_fieldAddr rfl rfl (fa29_3 _ _ _))) ?_
   refine wU_val (v := .slice A1 rs.length c1) (wn rfl) rfl rfl (fun _ Sx12 => (y_load rfl rfl (r_load Try.underlying22 rfl (St.cl 1 Sx12 rfl qRow_g3)))) ?_
   refine wU_val (v := .int .i64 ((k : Nat) : Int)) (wn rfl) rfl rfl (fun _ _ => (y_move rfl rfl)) ?_
   obtain ⟨b14, o15, rfl⟩ := Rd.addr (St.rd 5 S8 rfl) (by omega)
   obtain ⟨x16, hx17⟩ : ∃ x, (rs)[k]? = some x := ⟨_, List.getElem?_eq_getElem (by have := (St.rd 5 S8 rfl).1; rw [fm_len (sz := 2) (fun _ => rfl)] at this; omega)⟩
   refine wU_val (v := .pointer (some ⟨b14, o15 + k * 2, none⟩)) (wn rfl) rfl rfl (fun _ _ => (y_indexAddr rfl rfl rfl (r_indexAddr k Try.underlying22 inf137 (by omega) (by omega)))) ?_
   refine wU_val (v := .agg #[.int .i64 x16.no, .int .i64 x16.body]) (wn rfl) rfl rfl (fun _ Sx19 => (y_load rfl rfl (r_load_agg (cs := Msg.cells x16) Try.underlying137 rfl inf137 rfl (Rd.rg2 (St.rd 5 Sx19 rfl) (fun _ _ h => fm_get (enc := Msg.cells) (sz := 2) (fun _ => rfl) hx17 h))))) ?_
   refine wU_val (v := .pointer (some ⟨b4, 3, none⟩)) (wn rfl) rfl rfl (fun _ _ => (y_fieldAddr rfl rfl (fa29_3 _ _ _))) ?_
   refine wU_val (v := .slice A3 rs.length c3) (wn rfl) rfl rfl (fun _ Sx21 => (y_load rfl rfl (r_load Try.underlying22 rfl (St.cl 0 Sx21 rfl qRow_g3)))) ?_
   refine wU_val (v := .int .i64 ((k : Nat) : Int)) (wn rfl) rfl rfl (fun _ _ => (y_move rfl rfl)) ?_
   obtain ⟨b23, o24, rfl⟩ := Rd.addr (St.rd 3 S8 rfl) (by omega)
   refine wU_val (v := .pointer (some ⟨b23, o24 + k * 2, none⟩)) (wn rfl) rfl rfl (fun _ _ => (y_indexAddr rfl rfl rfl (r_indexAddr k Try.underlying22 inf137 (by omega) (by omega)))) ?_
   refine wU_val (v := .agg #[.int .i64 x16.no, .int .i64 x16.body]) (wn rfl) rfl rfl (fun _ Sx26 => (y_load rfl rfl (r_load_agg (cs := Msg.cells x16) Try.underlying137 rfl inf137 rfl (Rd.rg2 (St.rd 3 Sx26 rfl) (fun _ _ h => fm_get (enc := Msg.cells) (sz := 2) (fun _ => rfl) hx17 h))))) ?_
   refine wU_val (v := .bool false) (wn rfl) rfl rfl (fun _ _ => (y_binop rfl rfl rfl (r_eqg (by kernel_rfl) (msg_neq x16  _)))) ?_
   refine wU_nil fun w28 S29 => ?_; clear S8
   refine wQ_sub (l' := [(2, _), (3, _), (4, _), (5, _), (68, _)]) ⟨rfl, rfl, rfl, rfl, rfl, trivial⟩ (wQ_then (wC_cond_f rfl (wC_skip (wQ_blk_n (wQ_then (wC_region (wL_val (wn rfl) rfl rfl (y_move rfl rfl) ?_)))))))
   refine wL_val (v := .int .i64 ((k + 1 : Nat) : Int)) (wn rfl) rfl rfl (y_binop rfl rfl rfl (r_add (by omega) (by omega))) ?_
   refine wL_val (wn rfl) rfl rfl (y_assign rfl rfl) ?_
   refine wL_nil (wQ_sub (l' := [(2, _), (3, _), (4, _), (5, _)]) ⟨rfl, rfl, rfl, rfl, trivial⟩ (wQ_round (k + 1) ?_ ⟨rfl, rfl, rfl, rfl, trivial⟩ (by first | omega | (dsimp only; omega))))
   exact ⟨(by omega), S29⟩
  ·refine wL_val (v := .bool false) (wn rfl) rfl rfl (y_binop rfl rfl rfl (r_lss_f h10)) ?_
   refine wL_nil (wQ_sub (l' := [(2, _), (3, _), (4, _), (5, _), (55, _)]) ⟨rfl, rfl, rfl, rfl, rfl, trivial⟩ (wQ_then (wC_cond_f rfl (wC_exit (wQ_then_exit (wQ_then_exit (wQ_blk_same (wQ_then (wC_seq (wC_seq (wC_region (wL_val (wn rfl) rfl rfl (y_assign rfl rfl) ?_))))))))))))
   refine wL_nil (wQ_sub (l' := [(2, _), (3, _), (4, _), (6, _)]) ⟨rfl, rfl, rfl, rfl, trivial⟩ (wQ_then (wC_block (wC_loop (X := Nat) (fun xv => [(2, .pointer (some ⟨b1, 0, none⟩)), (3, .pointer (some ⟨b4, 0, none⟩)), (4, .bool false), (6, .int .i64 ((xv : Nat) : Int))]) (fun xv wr => (xv ≤ ls.length) ∧ St w.heap.size w wr [.blk b4 (qRow ep nx gv (.slice A3 rs.length c3) (.slice A4 ls.length c4) W) 29, .blk b1 (qRow ep nx gv (.slice A1 rs.length c1) (.slice A2 ls.length c2) W) 29, .rd 4 A4 ls.length ((ls).flatMap Ls.cells), .rd 2 A3 rs.length ((rs).flatMap Msg.cells), .rd 4 A2 ls.length ((ls).flatMap Ls.cells), .rd 2 A1 rs.length ((rs).flatMap Msg.cells)]) (fun xv => ls.length - xv) (0) ?_ ?_ ?_))))
   ·exact ⟨Nat.zero_le _, S8⟩
   ·exact ⟨rfl, rfl, rfl, rfl, trivial⟩
   ·rintro j w30 ⟨hi32, S31⟩
    try dsimp only at hi32 S31; clear S8
    refine wC_sub (l' := [(2, .pointer (some ⟨b1, 0, none⟩)), (3, .pointer (some ⟨b4, 0, none⟩)), (4, .bool false), (6, .int .i64 ((j : Nat) : Int))]) ⟨rfl, rfl, rfl, rfl, trivial⟩ (wC_seq (wC_seq (wC_region (wL_val (wn rfl) rfl rfl (y_move rfl rfl) ?_))))
    refine wL_val (v := .pointer (some ⟨b1, 4, none⟩)) (wn rfl) rfl rfl (y_fieldAddr rfl rfl (fa29_4 _ _ _)) ?_
    refine wL_val (wn rfl) rfl rfl (y_load rfl rfl (r_load Try.underlying23 rfl (St.cl 1 S31 rfl qRow_g4))) ?_
    refine wL_val (v := .int .i64 ((ls.length : Nat) : Int)) (wn rfl) rfl rfl (y_builtin (vs := [.slice A2 ls.length c2]) rfl ⟨rfl, trivial⟩ fun _ => r_len rfl Try.underlying23) ?_
    by_cases h33 : ((j : Nat) : Int) < ((ls.length : Nat) : Int)
    ·refine wL_val (v := .bool true) (wn rfl) rfl rfl (y_binop rfl rfl rfl (r_lss_t h33)) ?_
     refine wL_nil (wQ_sub (l' := [(2, _), (3, _), (4, _), (6, _), (73, _)]) ⟨rfl, rfl, rfl, rfl, rfl, trivial⟩ (wQ_then (wC_cond_t rfl (wC_skip (wQ_then (wC_seq (wC_block (wC_seq (wC_quiet S31 mixed (by kernel_rfl) ?_)))))))))
     refine wU_val (v := .pointer (some ⟨b1, 4, none⟩)) (wn rfl) rfl rfl (fun _ _ => (y_fieldAddr rfl rfl (fa29_4 _ _ _))) ?_
     refine wU_val (v := .slice A2 ls.length c2) (wn rfl) rfl rfl (fun _ Sx35 => (y_load rfl rfl (r_load Try.underlying23 rfl (St.cl 1 Sx35 rfl qRow_g4)))) ?_
     refine wU_val (v := .int .i64 ((j : Nat) : Int)) (wn rfl) rfl rfl (fun _ _ => (y_move rfl rfl)) ?_
     obtain ⟨b37, o38, rfl⟩ := Rd.addr (St.rd 4 S31 rfl) (by omega)
     obtain ⟨x39, hx40⟩ : ∃ x, (ls)[j]? = some x := ⟨_, List.getElem?_eq_getElem (by have := (St.rd 4 S31 rfl).1; rw [fm_len (sz := 4) (fun _ => rfl)] at this; omega)⟩
     refine wU_val (v := .pointer (some ⟨b37, o38 + j * 4, none⟩)) (wn rfl) rfl rfl (fun _ _ => (y_indexAddr rfl rfl rfl (r_indexAddr j Try.underlying23 inf141 (by omega) (by omega)))) ?_
     refine wU_val (v := .agg #[.int .i64 x39.hep, .int .i64 x39.hno, .int .i64 x39.msg.no, .int .i64 x39.msg.body]) (wn rfl) rfl rfl (fun _ Sx42 => (y_load rfl rfl (r_load_agg (cs := Ls.cells x39) Try.underlying141 rfl inf141 rfl (Rd.rg2 (St.rd 4 Sx42 rfl) (fun _ _ h => fm_get (enc := Ls.cells) (sz := 4) (fun _ => rfl) hx40 h))))) ?_
     refine wU_val (v := .pointer (some ⟨b4, 4, none⟩)) (wn rfl) rfl rfl (fun _ _ => (y_fieldAddr rfl rfl (fa29_4 _ _ _))) ?_
     refine wU_val (v := .slice A4 ls.length c4) (wn rfl) rfl rfl (fun _ Sx44 => (y_load rfl rfl (r_load Try.underlying23 rfl (St.cl 0 Sx44 rfl qRow_g4)))) ?_
     refine wU_val (v := .int .i64 ((j : Nat) : Int)) (wn rfl) rfl rfl (fun _ _ => (y_move rfl rfl)) ?_
     obtain ⟨b46, o47, rfl⟩ := Rd.addr (St.rd 2 S31 rfl) (by omega)
     refine wU_val (v := .pointer (some ⟨b46, o47 + j * 4, none⟩)) (wn rfl) rfl rfl (fun _ _ => (y_indexAddr rfl rfl rfl (r_indexAddr j Try.underlying23 inf141 (by omega) (by omega)))) ?_
     refine wU_val (v := .agg #[.int .i64 x39.hep, .int .i64 x39.hno, .int .i64 x39.msg.no, .int .i64 x39.msg.body]) (wn rfl) rfl rfl (fun _ Sx49 => (y_load rfl rfl (r_load_agg (cs := Ls.cells x39) Try.underlying141 rfl inf141 rfl (Rd.rg2 (St.rd 2 Sx49 rfl) (fun _ _ h => fm_get (enc := Ls.cells) (sz := 4) (fun _ => rfl) hx40 h))))) ?_
     refine wU_val (v := .bool false) (wn rfl) rfl rfl (fun _ _ => (y_binop rfl rfl rfl (r_eqg (by kernel_rfl) (ls_neq x39  _)))) ?_
     refine wU_nil fun w51 S52 => ?_; clear S31
     refine wQ_sub (l' := [(2, _), (3, _), (4, _), (6, _), (86, _)]) ⟨rfl, rfl, rfl, rfl, rfl, trivial⟩ (wQ_then (wC_cond_f rfl (wC_skip (wQ_blk_n (wQ_then (wC_region (wL_val (wn rfl) rfl rfl (y_move rfl rfl) ?_)))))))
     refine wL_val (v := .int .i64 ((j + 1 : Nat) : Int)) (wn rfl) rfl rfl (y_binop rfl rfl rfl (r_add (by omega) (by omega))) ?_
     refine wL_val (wn rfl) rfl rfl (y_assign rfl rfl) ?_
     refine wL_nil (wQ_sub (l' := [(2, _), (3, _), (4, _), (6, _)]) ⟨rfl, rfl, rfl, rfl, trivial⟩ (wQ_round (j + 1) ?_ ⟨rfl, rfl, rfl, rfl, trivial⟩ (by first | omega | (dsimp only; omega))))
     exact ⟨(by omega), S52⟩
    ·refine wL_val (v := .bool false) (wn rfl) rfl rfl (y_binop rfl rfl rfl (r_lss_f h33)) ?_
     refine wL_nil (wQ_sub (l' := [(2, _), (3, _), (4, _), (6, _), (73, _)]) ⟨rfl, rfl, rfl, rfl, rfl, trivial⟩ (wQ_then (wC_cond_f rfl (wC_exit (wQ_then_exit (wQ_then_exit (wQ_blk_same (wQ_then (wC_seq (wC_region (wL_val (wn rfl) rfl rfl (y_assign rfl rfl) ?_)))))))))))
     refine wL_nil (wQ_sub (l' := [(4, _)]) ⟨rfl, trivial⟩ (wQ_then (wC_ret (wQ_post (rs := [.tmp 4]) (vs := [.bool true]) rfl ⟨rfl, trivial⟩ ?_))))
     exact ⟨rfl, S31.low⟩
end Go.Proofs.Ytkjlafpafmihaaa

