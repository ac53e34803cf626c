/- 'berthshiftlaw.QueueChecks' returns true at every queue. (The steps are printed by a program of mine: wip/px.) -/
import Derived.Test.YtkjlafpafmihaaaQChk
import Derived.Test.YtkjlafpafmihaaaQFlt
import Derived.Test.YtkjlafpafmihaaaQCpy
import Derived.Test.YtkjlafpafmihaaaQArg
namespace Go.Proofs.Ytkjlafpafmihaaa
open Go.ChangeShapes Go.WideShapes Go.RowKit

set_option maxRecDepth 100000 in
set_option maxHeartbeats 1000000 in
theorem queues_calls (ep nx gv : Int) (A1 A2 : Option Addr) (c1 c2 : Nat) (rs : List Msg) (ls : List Ls) (W : Wins) (w : World) (h1 : Rd w w.heap.size 2 A1 rs.length (rs.flatMap Msg.cells)) (h2 : Rd w w.heap.size 4 A2 ls.length (ls.flatMap Ls.cells)) (hb1 : rs.length * 16 ≤ reachBytes) (hb2 : ls.length * 32 ≤ reachBytes) :
    Calls Try.prog 31 #[.agg (qRow ep nx gv (.slice A1 rs.length c1) (.slice A2 ls.length c2) W)] w (QNew w ep nx gv rs ls W) := by
  have S := ((St.start w).addRd h2).addRd h1
  refine calls_of_wC (N := 5) (vs := [.agg (qRow ep nx gv (.slice A1 rs.length c1) (.slice A2 ls.length c2) W)]) Try.func31 rfl rfl rfl ?_
  refine wC_sub (l' := [(0, .agg (qRow ep nx gv (.slice A1 rs.length c1) (.slice A2 ls.length c2) W))]) ⟨rfl, trivial⟩ ?_
  refine wC_seq ?_
  refine wC_region ?_
  refine wL_new (V := fun b => .pointer (some ⟨b, 0, none⟩)) (row := qRow ep nx gv (.slice A1 rs.length c1) (.slice A2 ls.length c2) W) (t := 29) S (wn rfl) rfl rfl (d_box rfl rfl rfl) ?_
  intro b1 w2 S3
  clear S
  refine wL_new (V := fun b => .pointer (some ⟨b, 0, none⟩)) (row := qRow 0 0 0 (.slice none 0 0) (.slice none 0 0) zeroWs) (t := 29) S3 (wn rfl) rfl rfl (d_alloc rfl (Try.zeroValue29 _) rfl) ?_
  intro b4 w5 S6
  clear S3
  refine wL_nil ?_
  refine wQ_then ?_
  refine wC_seq ?_
  refine wC_region ?_
  refine wL_val (v := .agg (qRow ep nx gv (.slice A1 rs.length c1) (.slice A2 ls.length c2) W)) (wn rfl) rfl rfl (y_load rfl rfl (r_load_row 1 S6 rfl Try.underlying29 rfl inf29 rfl)) ?_
  refine wL_call (vs := [.agg (qRow ep nx gv (.slice A1 rs.length c1) (.slice A2 ls.length c2) W)]) (wn rfl) rfl rfl (e_call (vs := [.agg (qRow ep nx gv (.slice A1 rs.length c1) (.slice A2 ls.length c2) W)]) rfl en106 ⟨rfl, trivial⟩) (QueueCopy_calls ep nx gv A1 A2 c1 c2 rs ls W _ (St.rd 2 S6 rfl) (St.rd 3 S6 rfl) hb1 hb2) ?_
  rintro _ w11 ⟨A7, c8, A9, c10, rfl, T13⟩
  refine ⟨_, rfl, ?_⟩
  have S12 := S6.ext T13 rfl
  clear T13 S6
  change St _ _ _ [.own 141 4 (.slice A9 ls.length c10) ls.length ((ls).flatMap Ls.cells), .own 137 2 (.slice A7 rs.length c8) rs.length ((rs).flatMap Msg.cells), .blk b4 (qRow 0 0 0 (.slice none 0 0) (.slice none 0 0) zeroWs) 29, .blk b1 (qRow ep nx gv (.slice A1 rs.length c1) (.slice A2 ls.length c2) W) 29, .rd 2 A1 rs.length ((rs).flatMap Msg.cells), .rd 4 A2 ls.length ((ls).flatMap Ls.cells)] at S12
  refine wL_st (cs := qRow ep nx gv (.slice A7 rs.length c8) (.slice A9 ls.length c10) W) (row' := qRow ep nx gv (.slice A7 rs.length c8) (.slice A9 ls.length c10) W) (fs' := [.own 141 4 (.slice A9 ls.length c10) ls.length ((ls).flatMap Ls.cells), .own 137 2 (.slice A7 rs.length c8) rs.length ((rs).flatMap Msg.cells), .blk b4 (qRow ep nx gv (.slice A7 rs.length c8) (.slice A9 ls.length c10) W) 29, .blk b1 (qRow ep nx gv (.slice A1 rs.length c1) (.slice A2 ls.length c2) W) 29, .rd 2 A1 rs.length ((rs).flatMap Msg.cells), .rd 4 A2 ls.length ((ls).flatMap Ls.cells) ]) 2 S12 (wn rfl) rfl rfl rfl rfl rfl rfl inf29 rfl (qRow_one rfl rfl) (Nat.le_of_ble_eq_true rfl) (setAll_all rfl) rfl ?_
  intro w14 S15
  clear S12
  refine wL_nil ?_
  refine wQ_sub (l' := [(0, .agg (qRow ep nx gv (.slice A1 rs.length c1) (.slice A2 ls.length c2) W)), (1, .pointer (some ⟨b1, 0, none⟩)), (2, .pointer (some ⟨b4, 0, none⟩))]) ⟨rfl, rfl, rfl, trivial⟩ ?_
  refine wQ_then ?_
  refine wC_ret ?_
  refine wQ_post (rs := [.cell 2 29]) (vs := [.agg (qRow ep nx gv (.slice A7 rs.length c8) (.slice A9 ls.length c10) W)]) rfl ⟨⟨_, rfl, res_row 2 S15 rfl Try.underlying29 rfl inf29⟩, trivial⟩ ?_
  have S16 : St w.heap.size w w14 [.own 141 4 (.slice A9 ls.length c10) ls.length ((ls).flatMap Ls.cells), .own 137 2 (.slice A7 rs.length c8) rs.length ((rs).flatMap Msg.cells)] := (St.del 2 (St.del 3 (St.del 4 (St.del 5 S15))))
  clear S15
  exact ⟨_, _, _, _, rfl, S16⟩

set_option maxRecDepth 100000 in
set_option maxHeartbeats 1000000 in
theorem queueChecks_calls (ep nx gv : Int) (A1 A2 : Option Addr) (c1 c2 : Nat) (rs : List Msg) (ls : List Ls) (W : Wins) (w : World) (h1 : Rd w w.heap.size 2 A1 rs.length (rs.flatMap Msg.cells)) (h2 : Rd w w.heap.size 4 A2 ls.length (ls.flatMap Ls.cells)) (hb1 : rs.length * 16 ≤ reachBytes) (hb2 : ls.length * 32 ≤ reachBytes) :
    Calls Try.prog 3 #[.agg (qRow ep nx gv (.slice A1 rs.length c1) (.slice A2 ls.length c2) W)] w fun e w' => e = .returned (.bool true) ∧ Below w.heap.size w w' := by
  have S := ((St.start w).addRd h2).addRd h1
  refine calls_of_wC (N := 13) (vs := [.agg (qRow ep nx gv (.slice A1 rs.length c1) (.slice A2 ls.length c2) W)]) Try.func3 rfl rfl rfl ?_
  refine wC_sub (l' := [(0, .agg (qRow ep nx gv (.slice A1 rs.length c1) (.slice A2 ls.length c2) W))]) ⟨rfl, trivial⟩ ?_
  refine wC_seq ?_
  refine wC_region ?_
  refine wL_new (V := fun b => .pointer (some ⟨b, 0, none⟩)) (row := qRow ep nx gv (.slice A1 rs.length c1) (.slice A2 ls.length c2) W) (t := 29) S (wn rfl) rfl rfl (d_box rfl rfl rfl) ?_
  intro b1 w2 S3
  clear S
  refine wL_val (v := .bool false) (wn rfl) rfl rfl (y_assign rfl rfl) ?_
  refine wL_nil ?_
  refine wQ_then ?_
  refine wC_seq ?_
  refine wC_region ?_
  refine wL_val (v := .agg (qRow ep nx gv (.slice A1 rs.length c1) (.slice A2 ls.length c2) W)) (wn rfl) rfl rfl (y_load rfl rfl (r_load_row 0 S3 rfl Try.underlying29 rfl inf29 rfl)) ?_
  refine wL_call (vs := [.agg (qRow ep nx gv (.slice A1 rs.length c1) (.slice A2 ls.length c2) W)]) (wn rfl) rfl rfl (e_call (vs := [.agg (qRow ep nx gv (.slice A1 rs.length c1) (.slice A2 ls.length c2) W)]) rfl en31 ⟨rfl, trivial⟩) (queues_calls ep nx gv A1 A2 c1 c2 rs ls W _ (St.rd 1 S3 rfl) (St.rd 2 S3 rfl) hb1 hb2) ?_
  rintro _ w8 ⟨A4, c5, A6, c7, rfl, T10⟩
  refine ⟨_, rfl, ?_⟩
  have S9 := S3.ext T10 rfl
  clear T10 S3
  change St _ _ _ [.own 141 4 (.slice A6 ls.length c7) ls.length ((ls).flatMap Ls.cells), .own 137 2 (.slice A4 rs.length c5) rs.length ((rs).flatMap Msg.cells), .blk b1 (qRow ep nx gv (.slice A1 rs.length c1) (.slice A2 ls.length c2) W) 29, .rd 2 A1 rs.length ((rs).flatMap Msg.cells), .rd 4 A2 ls.length ((ls).flatMap Ls.cells)] at S9
  refine wL_call (vs := [.agg (qRow ep nx gv (.slice A4 rs.length c5) (.slice A6 ls.length c7) W)]) (wn rfl) rfl rfl (e_call (vs := [.agg (qRow ep nx gv (.slice A4 rs.length c5) (.slice A6 ls.length c7) W)]) rfl en30 ⟨rfl, trivial⟩) (QCheck_calls ep nx gv A4 A6 c5 c7 rs ls W _ (St.ord 1 S9 rfl) (St.ord 0 S9 rfl) hb1 hb2) ?_
  rintro _ w11 ⟨rfl, hb13⟩
  refine ⟨_, rfl, ?_⟩
  have S12 := S9.on hb13
  clear hb13 S9
  refine wL_val (v := .int .i64 (queueFault ep nx gv rs ls W)) (wn rfl) rfl rfl (y_assign rfl rfl) ?_
  refine wL_nil ?_
  refine wQ_sub (l' := [(0, .agg (qRow ep nx gv (.slice A1 rs.length c1) (.slice A2 ls.length c2) W)), (1, .pointer (some ⟨b1, 0, none⟩)), (2, .bool false), (3, .int .i64 (queueFault ep nx gv rs ls W))]) ⟨rfl, rfl, rfl, rfl, trivial⟩ ?_
  refine wQ_then ?_
  refine wC_seq ?_
  refine wC_region ?_
  refine wL_val (v := .agg (qRow ep nx gv (.slice A1 rs.length c1) (.slice A2 ls.length c2) W)) (wn rfl) rfl rfl (y_load rfl rfl (r_load_row 2 S12 rfl Try.underlying29 rfl inf29 rfl)) ?_
  refine wL_call (vs := [.agg (qRow ep nx gv (.slice A1 rs.length c1) (.slice A2 ls.length c2) W)]) (wn rfl) rfl rfl (e_call (vs := [.agg (qRow ep nx gv (.slice A1 rs.length c1) (.slice A2 ls.length c2) W)]) rfl en32 ⟨rfl, trivial⟩) (QueueFault_calls ep nx gv A1 A2 c1 c2 rs ls W _ (St.rd 3 S12 rfl) (St.rd 4 S12 rfl) hb1 hb2) ?_
  rintro _ w14 ⟨rfl, hb16⟩
  refine ⟨_, rfl, ?_⟩
  have S15 := S12.on hb16
  clear hb16 S12
  refine wL_val (v := .int .i64 (queueFault ep nx gv rs ls W)) (wn rfl) rfl rfl (y_assign rfl rfl) ?_
  refine wL_nil ?_
  refine wQ_sub (l' := [(0, .agg (qRow ep nx gv (.slice A1 rs.length c1) (.slice A2 ls.length c2) W)), (1, .pointer (some ⟨b1, 0, none⟩)), (2, .bool false), (3, .int .i64 (queueFault ep nx gv rs ls W)), (4, .int .i64 (queueFault ep nx gv rs ls W))]) ⟨rfl, rfl, rfl, rfl, rfl, trivial⟩ ?_
  refine wQ_then ?_
  refine wC_seq ?_
  refine wC_region ?_
  refine wL_val (v := .int .i64 (queueFault ep nx gv rs ls W)) (wn rfl) rfl rfl (y_move rfl rfl) ?_
  refine wL_val (v := .int .i64 (queueFault ep nx gv rs ls W)) (wn rfl) rfl rfl (y_move rfl rfl) ?_
  refine wL_val (v := .bool true) (wn rfl) rfl rfl (y_binop rfl rfl rfl (r_eql_t rfl)) ?_
  refine wL_val (v := .bool true) (wn rfl) rfl rfl (y_assign rfl rfl) ?_
  refine wL_nil ?_
  refine wQ_sub (l' := [(0, .agg (qRow ep nx gv (.slice A1 rs.length c1) (.slice A2 ls.length c2) W)), (1, .pointer (some ⟨b1, 0, none⟩)), (2, .bool true), (3, .int .i64 (queueFault ep nx gv rs ls W)), (4, .int .i64 (queueFault ep nx gv rs ls W))]) ⟨rfl, rfl, rfl, rfl, rfl, trivial⟩ ?_
  refine wQ_then ?_
  refine wC_ret ?_
  refine wQ_post (rs := [.tmp 2]) (vs := [.bool true]) rfl ⟨rfl, trivial⟩ ?_
  exact ⟨rfl, S15.low⟩

set_option maxRecDepth 100000 in
theorem queueChecks_walk (W : World) (args : Array Value) (h : All2 (ArgOk Try.prog W) args.toList Try.f3.params.toList) :
    Calls Try.prog 3 args W fun e W' => e = .returned (.bool true) ∧ Below W.heap.size W W' := by
  rw [Try.params3] at h
  obtain ⟨v, l1, hv, h1, h0⟩ := All2.cons_ h
  have h4 := All2.nil_ h0
  subst h4
  obtain rfl : args = #[v] := by cases args; simp_all
  obtain ⟨ep, nx, gv, A1, c1, A2, c2, rs, ls, X, rfl, hr1, hr2, hb1, hb2⟩ := arg_queue h1
  exact queueChecks_calls ep nx gv A1 A2 c1 c2 rs ls X W hr1 hr2 hb1 hb2
end Go.Proofs.Ytkjlafpafmihaaa
