/- Parts of the proof of QueueDoes: lemmas on memory, on single functions and on the plain models; no condition of their own. -/
import Derived.Lib.SliceRun
import Derived.Deep.RegionLaw
import Derived.Laws.IdiomCopy
import Derived.Test.YtkjlafpafmihaaaQueueDoesP0
import Derived.Test.YtkjlafpafmihaaaQueueDoesP1

namespace Go.Proofs.Ytkjlafpafmihaaa
open Go.ChangeShapes Go.WideShapes Go.RowKit

set_option maxRecDepth 100000 in
set_option maxHeartbeats 2000000 in
theorem publish_calls {B g k c1 c2 : Nat} {w0 w : World} {fs : List Fact} {A1 A2 : Option Addr} {rs : List Msg} {ls : List Ls} {W : Wins} {ep nx gv kd id bd he hn : Int} (S : St B w0 w (.blk g (qRow ep nx gv (.slice A1 rs.length c1) (.slice A2 ls.length c2) W) 190 :: .own 137 2 (.slice A1 rs.length c1) rs.length ((rs).flatMap Msg.cells) :: .own 141 4 (.slice A2 ls.length c2) ls.length ((ls).flatMap Ls.cells) :: fs)) (hk : k < 4) (hlen : rs.length + ls.length ≤ 500) (hnx : 0 ≤ nx ∧ nx ≤ 1073741824) (hgv : 0 ≤ gv ∧ gv ≤ 1073741824) (hep : 0 ≤ ep ∧ ep ≤ 1048576) :
    Calls Try.prog 145 #[.pointer (some ⟨g, 0, none⟩), .agg #[.int .i64 kd, .int .i64 ((k : Nat) : Int), .int .i64 id, .int .i64 bd, .int .i64 he, .int .i64 hn]] w (DeskPost B w0 g fs (pubM ⟨ep, nx, gv, rs, ls, W⟩ k id bd)) := by
  refine calls_of_wC (N := 94) (vs := [.pointer (some ⟨g, 0, none⟩), .agg #[.int .i64 kd, .int .i64 ((k : Nat) : Int), .int .i64 id, .int .i64 bd, .int .i64 he, .int .i64 hn]]) Try.func145 rfl rfl rfl ?_
  refine wC_sub (l' := [(0, .pointer (some ⟨g, 0, none⟩)), (1, .agg #[.int .i64 kd, .int .i64 ((k : Nat) : Int), .int .i64 id, .int .i64 bd, .int .i64 he, .int .i64 hn])]) ⟨rfl, rfl, trivial⟩ ?_
  refine wC_seq ?_
  refine wC_region ?_
  refine wL_new (V := fun b => .pointer (some ⟨b, 0, none⟩)) (row := #[.int .i64 kd, .int .i64 ((k : Nat) : Int), .int .i64 id, .int .i64 bd, .int .i64 he, .int .i64 hn]) (t := 37) S (wn rfl) rfl rfl (d_box rfl rfl rfl) ?_
  intro b1 w2 S3
  clear S
  refine wL_new (V := fun b => .pointer (some ⟨b, 0, none⟩)) (row := #[.int .i64 0, .int .i64 0, .int .i64 0, .int .i64 0]) (t := 93) S3 (wn rfl) rfl rfl (d_alloc rfl (Try.zeroValue93 _) rfl) ?_
  intro b4 w5 S6
  clear S3
  refine wL_val (v := .bool false) (wn rfl) rfl rfl (y_assign rfl rfl) ?_
  refine wL_nil ?_
  refine wQ_sub (l' := [(0, _), (3, _), (4, _), (5, _)]) ⟨rfl, rfl, rfl, rfl, trivial⟩ ?_
  refine wQ_then ?_
  refine wC_seq ?_
  have S7 := S6.drew
  clear S6
  refine wC_any_ (C := fun w' => St B w0 w' ((.blk b4 #[.int .i64 0, .int .i64 0, .int .i64 0, .int .i64 0] 93) :: (.blk b1 #[.int .i64 kd, .int .i64 ((k : Nat) : Int), .int .i64 id, .int .i64 bd, .int .i64 he, .int .i64 hn] 37) :: (.blk g (qRow ep nx gv (.slice A1 rs.length c1) (.slice A2 ls.length c2) W) 190) :: (.own 137 2 (.slice A1 rs.length c1) rs.length ((rs).flatMap Msg.cells)) :: (.own 141 4 (.slice A2 ls.length c2) ls.length ((ls).flatMap Ls.cells)) :: fs)) (n := 19) (listed := #[false, false, false, false, false, false, false, false, false, false, false, false, false, false, false, false, false, false, false]) mixed rfl rfl ?_
  refine wA_take (v := .pointer (some ⟨g, 0, none⟩)) (i := 0) (n := 18) (listed' := #[true, false, false, false, false, false, false, false, false, false, false, false, false, false, false, false, false, false, false]) rfl (by kernel_rfl) (by kernel_rfl) (by kernel_rfl) S7 rfl (wn rfl) rfl rfl (fun _ _ => (y_move rfl rfl)) ?_
  refine wA_take (v := .pointer (some ⟨b1, 1, none⟩)) (i := 1) (n := 17) (listed' := #[true, true, false, false, false, false, false, false, false, false, false, false, false, false, false, false, false, false, false]) rfl (by kernel_rfl) (by kernel_rfl) (by kernel_rfl) S7 rfl (wn rfl) rfl rfl (fun _ _ => (y_fieldAddr rfl rfl (fa37_1 _ _ _))) ?_
  refine wA_take (v := .int .i64 ((k : Nat) : Int)) (i := 2) (n := 16) (listed' := #[true, true, true, false, false, false, false, false, false, false, false, false, false, false, false, false, false, false, false]) rfl (by kernel_rfl) (by kernel_rfl) (by kernel_rfl) S7 rfl (wn rfl) rfl rfl (fun _ Sx10 => (y_load rfl rfl (r_load Try.underlying3 rfl (St.cl 1 Sx10 rfl rfl)))) ?_
  refine wA_take (v := .pointer (some ⟨g, 0, none⟩)) (i := 3) (n := 15) (listed' := #[true, true, true, true, false, false, false, false, false, false, false, false, false, false, false, false, false, false, false]) rfl (by kernel_rfl) (by kernel_rfl) (by kernel_rfl) S7 rfl (wn rfl) rfl rfl (fun _ _ => (y_nil rfl rfl trivial)) ?_
  refine wA_take (v := .pointer (some ⟨g, 0, none⟩)) (i := 4) (n := 14) (listed' := #[true, true, true, true, true, false, false, false, false, false, false, false, false, false, false, false, false, false, false]) rfl (by kernel_rfl) (by kernel_rfl) (by kernel_rfl) S7 rfl (wn rfl) rfl rfl (fun _ _ => (y_fieldAddr rfl rfl (fa190_0 _ _ _))) ?_
  refine wA_take (v := .pointer (some ⟨g, 5, none⟩)) (i := 5) (n := 13) (listed' := #[true, true, true, true, true, true, false, false, false, false, false, false, false, false, false, false, false, false, false]) rfl (by kernel_rfl) (by kernel_rfl) (by kernel_rfl) S7 rfl (wn rfl) rfl rfl (fun _ _ => (y_fieldAddr rfl rfl (fa29_5 _ _ _))) ?_
  refine wA_take (v := .pointer (some ⟨g, 5 + k * 9, none⟩)) (i := 6) (n := 12) (listed' := #[true, true, true, true, true, true, true, false, false, false, false, false, false, false, false, false, false, false, false]) rfl (by kernel_rfl) (by kernel_rfl) (by kernel_rfl) S7 rfl (wn rfl) rfl rfl (fun _ _ => (y_indexAddr rfl rfl rfl (r_indexArr k Try.underlying27 inf26 rfl hk))) ?_
  refine wA_take (v := .agg (((W.at k).cells).toArray)) (i := 7) (n := 11) (listed' := #[true, true, true, true, true, true, true, true, false, false, false, false, false, false, false, false, false, false, false]) rfl (by kernel_rfl) (by kernel_rfl) (by kernel_rfl) S7 rfl (wn rfl) rfl rfl (fun _ Sx15 => (y_load rfl rfl (r_load_agg (cs := (W.at k).cells) Try.underlying26 rfl inf26 rfl (St.rg 2 Sx15 rfl (qRow_wk hk))))) ?_
  refine wA_take (v := .pointer (some ⟨b1, 2, none⟩)) (i := 8) (n := 10) (listed' := #[true, true, true, true, true, true, true, true, true, false, false, false, false, false, false, false, false, false, false]) rfl (by kernel_rfl) (by kernel_rfl) (by kernel_rfl) S7 rfl (wn rfl) rfl rfl (fun _ _ => (y_fieldAddr rfl rfl (fa37_2 _ _ _))) ?_
  refine wA_take (v := .int .i64 id) (i := 9) (n := 9) (listed' := #[true, true, true, true, true, true, true, true, true, true, false, false, false, false, false, false, false, false, false]) rfl (by kernel_rfl) (by kernel_rfl) (by kernel_rfl) S7 rfl (wn rfl) rfl rfl (fun _ Sx17 => (y_load rfl rfl (r_load Try.underlying3 rfl (St.cl 1 Sx17 rfl rfl)))) ?_
  refine wA_two (n := 8) (r := 10) (s := 15) (by kernel_rfl) ?_ ?_
  · refine wN_call_ (i := 10) (listed' := #[true, true, true, true, true, true, true, true, true, true, true, false, false, false, false, false, false, false, false]) rfl rfl (vs := [.agg (((W.at k).cells).toArray), .int .i64 id]) (wn rfl) rfl rfl (e_call (vs := [.agg (((W.at k).cells).toArray), .int .i64 id]) rfl en174 ⟨rfl, rfl, trivial⟩) (WTake_calls (W.at k) id _) ?_
    rintro _ w18 ⟨rfl, hb20⟩
    refine ⟨_, rfl, ?_⟩
    have S19 := S7.on hb20
    clear hb20 S7
    refine ⟨S19, ?_⟩
    refine wA_take (v := .tuple #[.agg (((takeW (W.at k) id).1.cells).toArray), .bool ((takeW (W.at k) id).2.1), .int .i64 ((takeW (W.at k) id).2.2)]) (i := 11) (n := 7) (listed' := #[true, true, true, true, true, true, true, true, true, true, true, true, false, false, false, false, false, false, false]) rfl (by kernel_rfl) (by kernel_rfl) (by kernel_rfl) S19 rfl (wn rfl) rfl rfl (fun _ _ => (y_move rfl rfl)) ?_
    refine wA_take (v := .agg (((takeW (W.at k) id).1.cells).toArray)) (i := 12) (n := 6) (listed' := #[true, true, true, true, true, true, true, true, true, true, true, true, true, false, false, false, false, false, false]) rfl (by kernel_rfl) (by kernel_rfl) (by kernel_rfl) S19 rfl (wn rfl) rfl rfl (fun _ _ => (y_extract rfl rfl rfl)) ?_
    refine wA_take (v := .bool ((takeW (W.at k) id).2.1)) (i := 13) (n := 5) (listed' := #[true, true, true, true, true, true, true, true, true, true, true, true, true, true, false, false, false, false, false]) rfl (by kernel_rfl) (by kernel_rfl) (by kernel_rfl) S19 rfl (wn rfl) rfl rfl (fun _ _ => (y_extract rfl rfl rfl)) ?_
    refine wA_take (v := .int .i64 ((takeW (W.at k) id).2.2)) (i := 14) (n := 4) (listed' := #[true, true, true, true, true, true, true, true, true, true, true, true, true, true, true, false, false, false, false]) rfl (by kernel_rfl) (by kernel_rfl) (by kernel_rfl) S19 rfl (wn rfl) rfl rfl (fun _ _ => (y_extract rfl rfl rfl)) ?_
    refine wA_one (n := 3) (r := 15) (by kernel_rfl) ?_
    refine wN_new (i := 15) (listed' := #[true, true, true, true, true, true, true, true, true, true, true, true, true, true, true, true, false, false, false]) rfl rfl (V := fun b => .pointer (some ⟨b, 0, none⟩)) (row := #[.int .i64 0, .bool false, .bool false, .bool false, .bool false, .bool false, .bool false, .bool false, .bool false]) (t := 26) S19 (wn rfl) rfl rfl (d_alloc rfl (Try.zeroValue26 _) rfl) ?_
    intro b25 w26 S27
    clear S19
    refine ⟨(St.del 0 S27), ?_⟩
    refine wA_one (n := 2) (r := 16) (by kernel_rfl) ?_
    refine wN_st (i := 16) (listed' := #[true, true, true, true, true, true, true, true, true, true, true, true, true, true, true, true, true, false, false]) rfl rfl (cs := ((takeW (W.at k) id).1.cells).toArray) (row' := ((takeW (W.at k) id).1.cells).toArray) (fs' := ((.blk b25 (((takeW (W.at k) id).1.cells).toArray) 26) :: _ :: _ :: _ :: _ :: _ :: fs)) 0 S27 (wn rfl) rfl rfl rfl rfl rfl rfl inf26 rfl (win_one _) (Nat.le_of_ble_eq_true rfl) (setAll_all rfl) rfl ?_
    intro w28 S29
    clear S27
    refine ⟨(St.del 0 S29), ?_⟩
    refine wA_take (v := .bool ((takeW (W.at k) id).2.1)) (i := 17) (n := 1) (listed' := #[true, true, true, true, true, true, true, true, true, true, true, true, true, true, true, true, true, true, false]) rfl (by kernel_rfl) (by kernel_rfl) (by kernel_rfl) (St.del 0 S29) rfl (wn rfl) rfl rfl (fun _ _ => (y_assign rfl rfl)) ?_
    refine wA_take (v := .int .i64 ((takeW (W.at k) id).2.2)) (i := 18) (n := 0) (listed' := #[true, true, true, true, true, true, true, true, true, true, true, true, true, true, true, true, true, true, true]) rfl (by kernel_rfl) (by kernel_rfl) (by kernel_rfl) (St.del 0 S29) rfl (wn rfl) rfl rfl (fun _ _ => (y_assign rfl rfl)) ?_
    refine wA_done (by kernel_rfl) ?_
    refine wQ_sub (l' := [(0, _), (3, _), (4, _), (5, _), (6, _), (7, _), (8, _)]) ⟨rfl, rfl, rfl, rfl, rfl, rfl, rfl, trivial⟩ ?_
    refine wQ_then ?_
    refine wC_seq ?_
    refine wC_block ?_
    refine wC_seq ?_
    refine wC_region ?_
    refine wL_val (v := .int .i64 ((takeW (W.at k) id).2.2)) (wn rfl) rfl rfl (y_move rfl rfl) ?_
    by_cases h1 : (takeW (W.at k) id).2.2 = 0
    · refine wL_val (v := .bool false) (wn rfl) rfl rfl (y_binop rfl rfl rfl (r_neq_f h1)) ?_
      refine wL_val (v := .bool false) (wn rfl) rfl rfl (y_assign rfl rfl) ?_
      refine wL_nil ?_
      refine wQ_sub (l' := [(0, _), (3, _), (4, _), (5, _), (6, _), (7, _), (8, _), (24, _)]) ⟨rfl, rfl, rfl, rfl, rfl, rfl, rfl, rfl, trivial⟩ ?_
      refine wQ_then ?_
      refine wC_cond_f rfl ?_
      refine wC_seq ?_
      refine wC_region ?_
      refine wL_val (v := .bool ((takeW (W.at k) id).2.1)) (wn rfl) rfl rfl (y_move rfl rfl) ?_
      cases h2 : (takeW (W.at k) id).2.1
      · refine wL_val (v := .bool true) (wn rfl) rfl rfl (y_unop rfl rfl r_not) ?_
        refine wL_val (v := .bool true) (wn rfl) rfl rfl (y_assign rfl rfl) ?_
        refine wL_nil ?_
        refine wQ_sub (l' := [(0, _), (3, _), (4, _), (5, _), (6, _), (29, _)]) ⟨rfl, rfl, rfl, rfl, rfl, rfl, trivial⟩ ?_
        refine wQ_then ?_
        refine wC_cond_t rfl ?_
        refine wC_seq ?_
        refine wC_region ?_
        refine wL_val (v := .agg #[.int .i64 0, .int .i64 0, .int .i64 0, .int .i64 0]) (wn rfl) rfl rfl (y_build (vs := []) rfl trivial (by kernel_rfl)) ?_
        refine wL_st (cs := #[.int .i64 0, .int .i64 0, .int .i64 0, .int .i64 0]) (row' := #[.int .i64 0, .int .i64 0, .int .i64 0, .int .i64 0]) (fs' := (_ :: (.blk b4 #[.int .i64 0, .int .i64 0, .int .i64 0, .int .i64 0] 93) :: _ :: _ :: _ :: _ :: fs)) 1 S29 (wn rfl) rfl rfl rfl rfl rfl rfl inf93 rfl (oneAll rfl) (Nat.le_of_ble_eq_true rfl) (setAll_all rfl) rfl ?_
        intro w32 S33
        clear S29
        refine wL_val (v := .bool false) (wn rfl) rfl rfl (y_assign rfl rfl) ?_
        refine wL_nil ?_
        refine wQ_sub (l' := [(4, _), (5, _)]) ⟨rfl, rfl, trivial⟩ ?_
        refine wQ_then ?_
        refine wC_ret ?_
        refine wQ_blk_ret ?_
        refine wQ_then_ret ?_
        refine wQ_post (rs := [.cell 4 93, .tmp 5]) (vs := [.agg #[.int .i64 0, .int .i64 0, .int .i64 0, .int .i64 0], .bool false]) rfl ⟨⟨_, rfl, res_row 1 S33 rfl Try.underlying93 rfl inf93⟩, rfl, trivial⟩ ?_
        have S34 : St B w0 w32 (_ :: _ :: _ :: fs) := (St.del 0 (St.del 1 (St.del 2 S33)))
        clear S33
        have S35 := S34.sealAll 1 rfl
        clear S34
        change St _ _ _ (_ :: (.rdo 2 A1 rs.length ((rs).flatMap Msg.cells)) :: _ :: fs) at S35
        have S36 := S35.sealAll 2 rfl
        clear S35
        change St _ _ _ (_ :: _ :: (.rdo 4 A2 ls.length ((ls).flatMap Ls.cells)) :: fs) at S36
        rw [pub_old h1 h2]
        refine ⟨rfl, A1, c1, A2, c2, ?_⟩
        dsimp only
        exact S36
      · refine wL_val (v := .bool false) (wn rfl) rfl rfl (y_unop rfl rfl r_not) ?_
        refine wL_val (v := .bool false) (wn rfl) rfl rfl (y_assign rfl rfl) ?_
        refine wL_nil ?_
        refine wQ_sub (l' := [(0, _), (3, _), (4, _), (5, _), (6, _), (29, _)]) ⟨rfl, rfl, rfl, rfl, rfl, rfl, trivial⟩ ?_
        refine wQ_then ?_
        refine wC_cond_f rfl ?_
        refine wC_seq ?_
        refine wC_quiet S29 mixed (by kernel_rfl) ?_
        refine wU_val (v := .pointer (some ⟨g, 0, none⟩)) (wn rfl) rfl rfl (fun _ _ => (y_move rfl rfl)) ?_
        refine wU_val (v := .pointer (some ⟨g, 0, none⟩)) (wn rfl) rfl rfl (fun _ _ => (y_nil rfl rfl trivial)) ?_
        refine wU_val (v := .pointer (some ⟨g, 0, none⟩)) (wn rfl) rfl rfl (fun _ _ => (y_fieldAddr rfl rfl (fa190_0 _ _ _))) ?_
        refine wU_val (v := .pointer (some ⟨g, 3, none⟩)) (wn rfl) rfl rfl (fun _ _ => (y_fieldAddr rfl rfl (fa29_3 _ _ _))) ?_
        refine wU_val (v := .slice A1 rs.length c1) (wn rfl) rfl rfl (fun _ Sx41 => (y_load rfl rfl (r_load Try.underlying22 rfl (St.cl 3 Sx41 rfl qRow_g3)))) ?_
        refine wU_val (v := .int .i64 ((rs.length : Nat) : Int)) (wn rfl) rfl rfl (fun _ _ => (y_builtin (vs := [.slice A1 rs.length c1]) rfl ⟨rfl, trivial⟩ fun _ => r_len rfl Try.underlying22)) ?_
        refine wU_val (v := .pointer (some ⟨g, 0, none⟩)) (wn rfl) rfl rfl (fun _ _ => (y_move rfl rfl)) ?_
        refine wU_val (v := .pointer (some ⟨g, 0, none⟩)) (wn rfl) rfl rfl (fun _ _ => (y_nil rfl rfl trivial)) ?_
        refine wU_val (v := .pointer (some ⟨g, 0, none⟩)) (wn rfl) rfl rfl (fun _ _ => (y_fieldAddr rfl rfl (fa190_0 _ _ _))) ?_
        refine wU_val (v := .pointer (some ⟨g, 4, none⟩)) (wn rfl) rfl rfl (fun _ _ => (y_fieldAddr rfl rfl (fa29_4 _ _ _))) ?_
        refine wU_val (v := .slice A2 ls.length c2) (wn rfl) rfl rfl (fun _ Sx47 => (y_load rfl rfl (r_load Try.underlying23 rfl (St.cl 3 Sx47 rfl qRow_g4)))) ?_
        refine wU_val (v := .int .i64 ((ls.length : Nat) : Int)) (wn rfl) rfl rfl (fun _ _ => (y_builtin (vs := [.slice A2 ls.length c2]) rfl ⟨rfl, trivial⟩ fun _ => r_len rfl Try.underlying23)) ?_
        refine wU_val (v := .int .i64 ((rs.length + ls.length : Nat) : Int)) (wn rfl) rfl rfl (fun _ _ => (y_binop rfl rfl rfl (r_add (by omega) (by omega)))) ?_
        by_cases h3 : rs.length + ls.length = 500
        · refine wU_val (v := .bool true) (wn rfl) rfl rfl (fun _ _ => (y_binop rfl rfl rfl (r_eql_t (by omega)))) ?_
          refine wU_val (v := .bool true) (wn rfl) rfl rfl (fun _ _ => (y_move rfl rfl)) ?_
          refine wU_skip (wg rfl rfl rfl rfl) rfl rfl ?_
          refine wU_skip (wg rfl rfl rfl rfl) rfl rfl ?_
          refine wU_skip (wg rfl rfl rfl rfl) rfl rfl ?_
          refine wU_skip (wg rfl rfl rfl rfl) rfl rfl ?_
          refine wU_skip (wg rfl rfl rfl rfl) rfl rfl ?_
          refine wU_skip (wg rfl rfl rfl rfl) rfl rfl ?_
          refine wU_val (v := .bool true) (wn rfl) rfl rfl (fun _ _ => (y_pick_t rfl rfl rfl)) ?_
          refine wU_val (v := .bool true) (wn rfl) rfl rfl (fun _ _ => (y_assign rfl rfl)) ?_
          refine wU_nil fun w54 S55 => ?_
          clear S29
          refine wQ_sub (l' := [(0, _), (3, _), (4, _), (5, _), (6, _), (33, _)]) ⟨rfl, rfl, rfl, rfl, rfl, rfl, trivial⟩ ?_
          refine wQ_then ?_
          refine wC_cond_t rfl ?_
          refine wC_seq ?_
          refine wC_region ?_
          refine wL_val (v := .agg #[.int .i64 14, .int .i64 0, .int .i64 0, .int .i64 0]) (wn rfl) rfl rfl (y_build (vs := [(0, .int .i64 14)]) rfl ⟨rfl, rfl, trivial⟩ (by kernel_rfl)) ?_
          refine wL_st (cs := #[.int .i64 14, .int .i64 0, .int .i64 0, .int .i64 0]) (row' := #[.int .i64 14, .int .i64 0, .int .i64 0, .int .i64 0]) (fs' := (_ :: (.blk b4 #[.int .i64 14, .int .i64 0, .int .i64 0, .int .i64 0] 93) :: _ :: _ :: _ :: _ :: fs)) 1 S55 (wn rfl) rfl rfl rfl rfl rfl rfl inf93 rfl (oneAll rfl) (Nat.le_of_ble_eq_true rfl) (setAll_all rfl) rfl ?_
          intro w56 S57
          clear S55
          refine wL_val (v := .bool false) (wn rfl) rfl rfl (y_assign rfl rfl) ?_
          refine wL_nil ?_
          refine wQ_sub (l' := [(4, _), (5, _)]) ⟨rfl, rfl, trivial⟩ ?_
          refine wQ_then ?_
          refine wC_ret ?_
          refine wQ_blk_ret ?_
          refine wQ_then_ret ?_
          refine wQ_post (rs := [.cell 4 93, .tmp 5]) (vs := [.agg #[.int .i64 14, .int .i64 0, .int .i64 0, .int .i64 0], .bool false]) rfl ⟨⟨_, rfl, res_row 1 S57 rfl Try.underlying93 rfl inf93⟩, rfl, trivial⟩ ?_
          have S58 : St B w0 w56 (_ :: _ :: _ :: fs) := (St.del 0 (St.del 1 (St.del 2 S57)))
          clear S57
          have S59 := S58.sealAll 1 rfl
          clear S58
          change St _ _ _ (_ :: (.rdo 2 A1 rs.length ((rs).flatMap Msg.cells)) :: _ :: fs) at S59
          have S60 := S59.sealAll 2 rfl
          clear S59
          change St _ _ _ (_ :: _ :: (.rdo 4 A2 ls.length ((ls).flatMap Ls.cells)) :: fs) at S60
          rw [pub_full h1 h2 (.inl h3)]
          refine ⟨rfl, A1, c1, A2, c2, ?_⟩
          dsimp only
          exact S60
        · refine wU_val (v := .bool false) (wn rfl) rfl rfl (fun _ _ => (y_binop rfl rfl rfl (r_eql_f (by omega)))) ?_
          refine wU_val (v := .bool false) (wn rfl) rfl rfl (fun _ _ => (y_move rfl rfl)) ?_
          refine wU_val (v := .pointer (some ⟨g, 0, none⟩)) (wg rfl rfl rfl rfl) rfl rfl (fun _ _ => (y_move rfl rfl)) ?_
          refine wU_val (v := .pointer (some ⟨g, 0, none⟩)) (wg rfl rfl rfl rfl) rfl rfl (fun _ _ => (y_nil rfl rfl trivial)) ?_
          refine wU_val (v := .pointer (some ⟨g, 0, none⟩)) (wg rfl rfl rfl rfl) rfl rfl (fun _ _ => (y_fieldAddr rfl rfl (fa190_0 _ _ _))) ?_
          refine wU_val (v := .pointer (some ⟨g, 1, none⟩)) (wg rfl rfl rfl rfl) rfl rfl (fun _ _ => (y_fieldAddr rfl rfl (fa29_1 _ _ _))) ?_
          refine wU_val (v := .int .i64 nx) (wg rfl rfl rfl rfl) rfl rfl (fun _ Sx67 => (y_load rfl rfl (r_load Try.underlying3 rfl (St.cl 3 Sx67 rfl qRow_g1)))) ?_
          by_cases h4 : nx = 1073741824
          · refine wU_val (v := .bool true) (wg rfl rfl rfl rfl) rfl rfl (fun _ _ => (y_binop rfl rfl rfl (r_eql_t h4))) ?_
            refine wU_val (v := .bool true) (wn rfl) rfl rfl (fun _ _ => (y_pick_f rfl rfl rfl)) ?_
            refine wU_val (v := .bool true) (wn rfl) rfl rfl (fun _ _ => (y_assign rfl rfl)) ?_
            refine wU_nil fun w71 S72 => ?_
            clear S29
            refine wQ_sub (l' := [(0, _), (3, _), (4, _), (5, _), (6, _), (33, _)]) ⟨rfl, rfl, rfl, rfl, rfl, rfl, trivial⟩ ?_
            refine wQ_then ?_
            refine wC_cond_t rfl ?_
            refine wC_seq ?_
            refine wC_region ?_
            refine wL_val (v := .agg #[.int .i64 14, .int .i64 0, .int .i64 0, .int .i64 0]) (wn rfl) rfl rfl (y_build (vs := [(0, .int .i64 14)]) rfl ⟨rfl, rfl, trivial⟩ (by kernel_rfl)) ?_
            refine wL_st (cs := #[.int .i64 14, .int .i64 0, .int .i64 0, .int .i64 0]) (row' := #[.int .i64 14, .int .i64 0, .int .i64 0, .int .i64 0]) (fs' := (_ :: (.blk b4 #[.int .i64 14, .int .i64 0, .int .i64 0, .int .i64 0] 93) :: _ :: _ :: _ :: _ :: fs)) 1 S72 (wn rfl) rfl rfl rfl rfl rfl rfl inf93 rfl (oneAll rfl) (Nat.le_of_ble_eq_true rfl) (setAll_all rfl) rfl ?_
            intro w73 S74
            clear S72
            refine wL_val (v := .bool false) (wn rfl) rfl rfl (y_assign rfl rfl) ?_
            refine wL_nil ?_
            refine wQ_sub (l' := [(4, _), (5, _)]) ⟨rfl, rfl, trivial⟩ ?_
            refine wQ_then ?_
            refine wC_ret ?_
            refine wQ_blk_ret ?_
            refine wQ_then_ret ?_
            refine wQ_post (rs := [.cell 4 93, .tmp 5]) (vs := [.agg #[.int .i64 14, .int .i64 0, .int .i64 0, .int .i64 0], .bool false]) rfl ⟨⟨_, rfl, res_row 1 S74 rfl Try.underlying93 rfl inf93⟩, rfl, trivial⟩ ?_
            have S75 : St B w0 w73 (_ :: _ :: _ :: fs) := (St.del 0 (St.del 1 (St.del 2 S74)))
            clear S74
            have S76 := S75.sealAll 1 rfl
            clear S75
            change St _ _ _ (_ :: (.rdo 2 A1 rs.length ((rs).flatMap Msg.cells)) :: _ :: fs) at S76
            have S77 := S76.sealAll 2 rfl
            clear S76
            change St _ _ _ (_ :: _ :: (.rdo 4 A2 ls.length ((ls).flatMap Ls.cells)) :: fs) at S77
            rw [pub_full h1 h2 (.inr h4)]
            refine ⟨rfl, A1, c1, A2, c2, ?_⟩
            dsimp only
            exact S77
          · refine wU_val (v := .bool false) (wg rfl rfl rfl rfl) rfl rfl (fun _ _ => (y_binop rfl rfl rfl (r_eql_f h4))) ?_
            refine wU_val (v := .bool false) (wn rfl) rfl rfl (fun _ _ => (y_pick_f rfl rfl rfl)) ?_
            refine wU_val (v := .bool false) (wn rfl) rfl rfl (fun _ _ => (y_assign rfl rfl)) ?_
            refine wU_nil fun w81 S82 => ?_
            clear S29
            refine wQ_sub (l' := [(0, _), (3, _), (4, _), (5, _), (6, _), (33, _)]) ⟨rfl, rfl, rfl, rfl, rfl, rfl, trivial⟩ ?_
            refine wQ_then ?_
            refine wC_cond_f rfl ?_
            refine wC_skip ?_
            refine wQ_blk_n ?_
            refine wQ_then ?_
            refine wC_seq ?_
            have S83 := S82.drew
            clear S82
            refine wC_any_ (C := fun w' => St B w0 w' ((.blk b25 (((takeW (W.at k) id).1.cells).toArray) 26) :: (.blk b4 #[.int .i64 0, .int .i64 0, .int .i64 0, .int .i64 0] 93) :: (.blk b1 #[.int .i64 kd, .int .i64 ((k : Nat) : Int), .int .i64 id, .int .i64 bd, .int .i64 he, .int .i64 hn] 37) :: (.own 137 2 (.slice A1 rs.length c1) rs.length ((rs).flatMap Msg.cells)) :: (.own 141 4 (.slice A2 ls.length c2) ls.length ((ls).flatMap Ls.cells)) :: fs)) (n := 9) (listed := #[false, false, false, false, false, false, false, false, false]) mixed rfl rfl ?_
            refine wA_take (v := .pointer (some ⟨g, 0, none⟩)) (i := 0) (n := 8) (listed' := #[true, false, false, false, false, false, false, false, false]) rfl (by kernel_rfl) (by kernel_rfl) (by kernel_rfl) (St.del 3 S83) rfl (wn rfl) rfl rfl (fun _ _ => (y_move rfl rfl)) ?_
            refine wA_take (v := .pointer (some ⟨b1, 1, none⟩)) (i := 1) (n := 7) (listed' := #[true, true, false, false, false, false, false, false, false]) rfl (by kernel_rfl) (by kernel_rfl) (by kernel_rfl) (St.del 3 S83) rfl (wn rfl) rfl rfl (fun _ _ => (y_fieldAddr rfl rfl (fa37_1 _ _ _))) ?_
            refine wA_take (v := .int .i64 ((k : Nat) : Int)) (i := 2) (n := 6) (listed' := #[true, true, true, false, false, false, false, false, false]) rfl (by kernel_rfl) (by kernel_rfl) (by kernel_rfl) (St.del 3 S83) rfl (wn rfl) rfl rfl (fun _ Sx86 => (y_load rfl rfl (r_load Try.underlying3 rfl (St.cl 2 Sx86 rfl rfl)))) ?_
            refine wA_take (v := .agg (((takeW (W.at k) id).1.cells).toArray)) (i := 3) (n := 5) (listed' := #[true, true, true, true, false, false, false, false, false]) rfl (by kernel_rfl) (by kernel_rfl) (by kernel_rfl) (St.del 3 S83) rfl (wn rfl) rfl rfl (fun _ Sx87 => (y_load rfl rfl (r_load_row 0 Sx87 rfl Try.underlying26 rfl inf26 rfl))) ?_
            refine wA_take (v := .pointer (some ⟨g, 0, none⟩)) (i := 4) (n := 4) (listed' := #[true, true, true, true, true, false, false, false, false]) rfl (by kernel_rfl) (by kernel_rfl) (by kernel_rfl) (St.del 3 S83) rfl (wn rfl) rfl rfl (fun _ _ => (y_nil rfl rfl trivial)) ?_
            refine wA_take (v := .pointer (some ⟨g, 0, none⟩)) (i := 5) (n := 3) (listed' := #[true, true, true, true, true, true, false, false, false]) rfl (by kernel_rfl) (by kernel_rfl) (by kernel_rfl) (St.del 3 S83) rfl (wn rfl) rfl rfl (fun _ _ => (y_fieldAddr rfl rfl (fa190_0 _ _ _))) ?_
            refine wA_take (v := .pointer (some ⟨g, 5, none⟩)) (i := 6) (n := 2) (listed' := #[true, true, true, true, true, true, true, false, false]) rfl (by kernel_rfl) (by kernel_rfl) (by kernel_rfl) (St.del 3 S83) rfl (wn rfl) rfl rfl (fun _ _ => (y_fieldAddr rfl rfl (fa29_5 _ _ _))) ?_
            refine wA_take (v := .pointer (some ⟨g, 5 + k * 9, none⟩)) (i := 7) (n := 1) (listed' := #[true, true, true, true, true, true, true, true, false]) rfl (by kernel_rfl) (by kernel_rfl) (by kernel_rfl) (St.del 3 S83) rfl (wn rfl) rfl rfl (fun _ _ => (y_indexAddr rfl rfl rfl (r_indexArr k Try.underlying27 inf26 rfl hk))) ?_
            refine wA_one (n := 0) (r := 8) (by kernel_rfl) ?_
            refine wN_st (i := 8) (listed' := #[true, true, true, true, true, true, true, true, true]) rfl rfl (cs := ((takeW (W.at k) id).1.cells).toArray) (row' := qRow ep nx gv (.slice A1 rs.length c1) (.slice A2 ls.length c2) (W.put k (takeW (W.at k) id).1)) (fs' := (.blk b25 (((takeW (W.at k) id).1.cells).toArray) 26) :: (.blk b4 #[.int .i64 0, .int .i64 0, .int .i64 0, .int .i64 0] 93) :: (.blk b1 #[.int .i64 kd, .int .i64 ((k : Nat) : Int), .int .i64 id, .int .i64 bd, .int .i64 he, .int .i64 hn] 37) :: (.blk g (qRow ep nx gv (.slice A1 rs.length c1) (.slice A2 ls.length c2) (W.put k (takeW (W.at k) id).1)) 190) :: (.own 137 2 (.slice A1 rs.length c1) rs.length ((rs).flatMap Msg.cells)) :: (.own 141 4 (.slice A2 ls.length c2) ls.length ((ls).flatMap Ls.cells)) :: fs) 3 S83 (wn rfl) rfl rfl rfl rfl rfl rfl inf26 rfl (win_one _) (by rw [qRow_size]; omega) (qRow_pk hk) rfl ?_
            intro w92 S93
            clear S83
            refine ⟨(St.del 3 S93), ?_⟩
            refine wA_done (by kernel_rfl) ?_
            refine wQ_sub (l' := [(0, _), (3, _), (4, _), (5, _)]) ⟨rfl, rfl, rfl, rfl, trivial⟩ ?_
            refine wQ_then ?_
            refine wC_seq ?_
            have S94 := S93.drew
            clear S93
            refine wC_head (C := fun w' => St B w0 w' ((.blk b25 (((takeW (W.at k) id).1.cells).toArray) 26) :: (.blk b4 #[.int .i64 0, .int .i64 0, .int .i64 0, .int .i64 0] 93) :: (.blk b1 #[.int .i64 kd, .int .i64 ((k : Nat) : Int), .int .i64 id, .int .i64 bd, .int .i64 he, .int .i64 hn] 37) :: (.blk g (qRow ep nx gv (.slice A1 rs.length c1) (.slice A2 ls.length c2) (W.put k (takeW (W.at k) id).1)) 190) :: (.own 141 4 (.slice A2 ls.length c2) ls.length ((ls).flatMap Ls.cells)) :: fs)) (m := 20) (listed := #[false, false, false, false, false, false, false, false, false, false, false, false, false, false, false, false, false, false, false, false]) 16 mixed rfl rfl ?_
            refine wG_take (v := .pointer (some ⟨g, 0, none⟩)) (i := 0) (m := 19) (listed' := #[true, false, false, false, false, false, false, false, false, false, false, false, false, false, false, false, false, false, false, false]) rfl (by kernel_rfl) (by kernel_rfl) (by kernel_rfl) rfl (by kernel_rfl) rfl (St.del 4 S94) rfl (wn rfl) rfl rfl (fun _ _ => (y_move rfl rfl)) ?_
            refine wG_take (v := .pointer (some ⟨g, 0, none⟩)) (i := 1) (m := 18) (listed' := #[true, true, false, false, false, false, false, false, false, false, false, false, false, false, false, false, false, false, false, false]) rfl (by kernel_rfl) (by kernel_rfl) (by kernel_rfl) rfl (by kernel_rfl) rfl (St.del 4 S94) rfl (wn rfl) rfl rfl (fun _ _ => (y_move rfl rfl)) ?_
            refine wG_take (v := .pointer (some ⟨g, 0, none⟩)) (i := 2) (m := 17) (listed' := #[true, true, true, false, false, false, false, false, false, false, false, false, false, false, false, false, false, false, false, false]) rfl (by kernel_rfl) (by kernel_rfl) (by kernel_rfl) rfl (by kernel_rfl) rfl (St.del 4 S94) rfl (wn rfl) rfl rfl (fun _ _ => (y_nil rfl rfl trivial)) ?_
            refine wG_take (v := .pointer (some ⟨g, 0, none⟩)) (i := 3) (m := 16) (listed' := #[true, true, true, true, false, false, false, false, false, false, false, false, false, false, false, false, false, false, false, false]) rfl (by kernel_rfl) (by kernel_rfl) (by kernel_rfl) rfl (by kernel_rfl) rfl (St.del 4 S94) rfl (wn rfl) rfl rfl (fun _ _ => (y_fieldAddr rfl rfl (fa190_0 _ _ _))) ?_
            refine wG_take (v := .pointer (some ⟨g, 3, none⟩)) (i := 4) (m := 15) (listed' := #[true, true, true, true, true, false, false, false, false, false, false, false, false, false, false, false, false, false, false, false]) rfl (by kernel_rfl) (by kernel_rfl) (by kernel_rfl) rfl (by kernel_rfl) rfl (St.del 4 S94) rfl (wn rfl) rfl rfl (fun _ _ => (y_fieldAddr rfl rfl (fa29_3 _ _ _))) ?_
            refine wG_take (v := .slice A1 rs.length c1) (i := 5) (m := 14) (listed' := #[true, true, true, true, true, true, false, false, false, false, false, false, false, false, false, false, false, false, false, false]) rfl (by kernel_rfl) (by kernel_rfl) (by kernel_rfl) rfl (by kernel_rfl) rfl (St.del 4 S94) rfl (wn rfl) rfl rfl (fun _ Sx100 => (y_load rfl rfl (r_load Try.underlying22 rfl (St.cl 3 Sx100 rfl qRow_g3)))) ?_
            refine wG_take (v := .pointer (some ⟨g, 0, none⟩)) (i := 6) (m := 13) (listed' := #[true, true, true, true, true, true, true, false, false, false, false, false, false, false, false, false, false, false, false, false]) rfl (by kernel_rfl) (by kernel_rfl) (by kernel_rfl) rfl (by kernel_rfl) rfl (St.del 4 S94) rfl (wn rfl) rfl rfl (fun _ _ => (y_move rfl rfl)) ?_
            refine wG_take (v := .pointer (some ⟨g, 0, none⟩)) (i := 7) (m := 12) (listed' := #[true, true, true, true, true, true, true, true, false, false, false, false, false, false, false, false, false, false, false, false]) rfl (by kernel_rfl) (by kernel_rfl) (by kernel_rfl) rfl (by kernel_rfl) rfl (St.del 4 S94) rfl (wn rfl) rfl rfl (fun _ _ => (y_nil rfl rfl trivial)) ?_
            refine wG_take (v := .pointer (some ⟨g, 0, none⟩)) (i := 8) (m := 11) (listed' := #[true, true, true, true, true, true, true, true, true, false, false, false, false, false, false, false, false, false, false, false]) rfl (by kernel_rfl) (by kernel_rfl) (by kernel_rfl) rfl (by kernel_rfl) rfl (St.del 4 S94) rfl (wn rfl) rfl rfl (fun _ _ => (y_fieldAddr rfl rfl (fa190_0 _ _ _))) ?_
            refine wG_take (v := .pointer (some ⟨g, 1, none⟩)) (i := 9) (m := 10) (listed' := #[true, true, true, true, true, true, true, true, true, true, false, false, false, false, false, false, false, false, false, false]) rfl (by kernel_rfl) (by kernel_rfl) (by kernel_rfl) rfl (by kernel_rfl) rfl (St.del 4 S94) rfl (wn rfl) rfl rfl (fun _ _ => (y_fieldAddr rfl rfl (fa29_1 _ _ _))) ?_
            refine wG_take (v := .int .i64 nx) (i := 10) (m := 9) (listed' := #[true, true, true, true, true, true, true, true, true, true, true, false, false, false, false, false, false, false, false, false]) rfl (by kernel_rfl) (by kernel_rfl) (by kernel_rfl) rfl (by kernel_rfl) rfl (St.del 4 S94) rfl (wn rfl) rfl rfl (fun _ Sx105 => (y_load rfl rfl (r_load Try.underlying3 rfl (St.cl 3 Sx105 rfl qRow_g1)))) ?_
            refine wG_take (v := .pointer (some ⟨b1, 3, none⟩)) (i := 11) (m := 8) (listed' := #[true, true, true, true, true, true, true, true, true, true, true, true, false, false, false, false, false, false, false, false]) rfl (by kernel_rfl) (by kernel_rfl) (by kernel_rfl) rfl (by kernel_rfl) rfl (St.del 4 S94) rfl (wn rfl) rfl rfl (fun _ _ => (y_fieldAddr rfl rfl (fa37_3 _ _ _))) ?_
            refine wG_take (v := .int .i64 bd) (i := 12) (m := 7) (listed' := #[true, true, true, true, true, true, true, true, true, true, true, true, true, false, false, false, false, false, false, false]) rfl (by kernel_rfl) (by kernel_rfl) (by kernel_rfl) rfl (by kernel_rfl) rfl (St.del 4 S94) rfl (wn rfl) rfl rfl (fun _ Sx107 => (y_load rfl rfl (r_load Try.underlying3 rfl (St.cl 2 Sx107 rfl rfl)))) ?_
            refine wG_take (v := .agg #[.int .i64 nx, .int .i64 bd]) (i := 13) (m := 6) (listed' := #[true, true, true, true, true, true, true, true, true, true, true, true, true, true, false, false, false, false, false, false]) rfl (by kernel_rfl) (by kernel_rfl) (by kernel_rfl) rfl (by kernel_rfl) rfl (St.del 4 S94) rfl (wn rfl) rfl rfl (fun _ _ => (y_build (vs := [(0, .int .i64 nx), (1, .int .i64 bd)]) rfl ⟨rfl, rfl, rfl, rfl, trivial⟩ (by kernel_rfl))) ?_
            refine wG_one (m := 5) (r := 14) (by kernel_rfl) ?_
            refine wH_new (i := 14) (listed' := #[true, true, true, true, true, true, true, true, true, true, true, true, true, true, true, false, false, false, false, false]) rfl rfl (V := fun b => .slice (some ⟨b, 0, none⟩) 1 1) (row := #[.int .i64 nx, .int .i64 bd]) (t := 137) S94 (wn rfl) rfl rfl (d_buildSlice (vs := [(0, .agg #[.int .i64 nx, .int .i64 bd])]) rfl ⟨rfl, rfl, trivial⟩ (by kernel_rfl)) ?_
            intro b109 w110 S111
            clear S94
            refine ⟨(St.del 0 (St.del 5 S111)), ?_⟩
            refine wG_one (m := 4) (r := 15) (by kernel_rfl) ?_
            refine wH_append (i := 15) (listed' := #[true, true, true, true, true, true, true, true, true, true, true, true, true, true, true, true, false, false, false, false]) rfl rfl (news := [.int .i64 nx, .int .i64 bd]) (xs' := (rs ++ [(⟨nx, bd⟩ : Msg)]).flatMap Msg.cells) 5 S111 (wn rfl) rfl rfl rfl rfl rfl rfl (St.bld (xs := [.int .i64 nx, .int .i64 bd]) 0 S111 rfl rfl rfl) Try.underlying22 infz137 rfl (by decide) (oneAll rfl) (by simp only [maxLen]; omega) (by omega) (fm_snoc (enc := Msg.cells) rfl rfl) ?_
            intro A112 c113 w114 hc116 hm117 S115
            clear S111
            change St _ _ _ (_ :: _ :: _ :: _ :: _ :: (.own 137 2 (.slice A112 (rs.length + 1) c113) (rs.length + 1) ((rs ++ [(⟨nx, bd⟩ : Msg)]).flatMap Msg.cells)) :: _ :: fs) at S115
            refine ⟨(St.del 0 (St.del 5 S115)), ?_⟩
            refine wG_tail (by kernel_rfl) rfl rfl rfl ?_
            refine wL_val (v := .pointer (some ⟨g, 0, none⟩)) (wn rfl) rfl rfl (y_nil rfl rfl trivial) ?_
            refine wL_val (v := .pointer (some ⟨g, 0, none⟩)) (wn rfl) rfl rfl (y_fieldAddr rfl rfl (fa190_0 _ _ _)) ?_
            refine wL_val (v := .pointer (some ⟨g, 3, none⟩)) (wn rfl) rfl rfl (y_fieldAddr rfl rfl (fa29_3 _ _ _)) ?_
            refine wL_st (cs := #[.slice A112 (rs.length + 1) c113]) (row' := qRow ep nx gv (.slice A112 (rs.length + 1) c113) (.slice A2 ls.length c2) (W.put k (takeW (W.at k) id).1)) (fs' := (_ :: _ :: _ :: _ :: (.blk g (qRow ep nx gv (.slice A112 (rs.length + 1) c113) (.slice A2 ls.length c2) (W.put k (takeW (W.at k) id).1)) 190) :: _ :: _ :: fs)) 4 S115 (wn rfl) rfl rfl rfl rfl rfl rfl inf22 rfl (oneAll rfl) (Nat.le_of_ble_eq_true rfl) qRow_s3 rfl ?_
            intro w118 S119
            clear S115
            refine wL_nil (wQ_np ?_)
            refine wQ_sub (l' := [(0, _), (4, _), (5, _)]) ⟨rfl, rfl, rfl, trivial⟩ ?_
            refine wQ_then ?_
            refine wC_seq ?_
            refine wC_region ?_
            refine wL_val (v := .pointer (some ⟨g, 0, none⟩)) (wn rfl) rfl rfl (y_move rfl rfl) ?_
            refine wL_val (v := .pointer (some ⟨g, 0, none⟩)) (wn rfl) rfl rfl (y_nil rfl rfl trivial) ?_
            refine wL_val (v := .pointer (some ⟨g, 0, none⟩)) (wn rfl) rfl rfl (y_fieldAddr rfl rfl (fa190_0 _ _ _)) ?_
            refine wL_val (v := .pointer (some ⟨g, 1, none⟩)) (wn rfl) rfl rfl (y_fieldAddr rfl rfl (fa29_1 _ _ _)) ?_
            refine wL_val (v := .int .i64 nx) (wn rfl) rfl rfl (y_load rfl rfl (r_load Try.underlying3 rfl (St.cl 4 S119 rfl qRow_g1))) ?_
            refine wL_val (v := .int .i64 (nx + 1)) (wn rfl) rfl rfl (y_binop rfl rfl rfl (r_add (by omega) (by omega))) ?_
            refine wL_val (v := .pointer (some ⟨g, 0, none⟩)) (wn rfl) rfl rfl (y_nil rfl rfl trivial) ?_
            refine wL_val (v := .pointer (some ⟨g, 0, none⟩)) (wn rfl) rfl rfl (y_fieldAddr rfl rfl (fa190_0 _ _ _)) ?_
            refine wL_val (v := .pointer (some ⟨g, 1, none⟩)) (wn rfl) rfl rfl (y_fieldAddr rfl rfl (fa29_1 _ _ _)) ?_
            refine wL_st (cs := #[.int .i64 (nx + 1)]) (row' := qRow ep (nx + 1) gv (.slice A112 (rs.length + 1) c113) (.slice A2 ls.length c2) (W.put k (takeW (W.at k) id).1)) (fs' := (_ :: _ :: _ :: _ :: (.blk g (qRow ep (nx + 1) gv (.slice A112 (rs.length + 1) c113) (.slice A2 ls.length c2) (W.put k (takeW (W.at k) id).1)) 190) :: _ :: _ :: fs)) 4 S119 (wn rfl) rfl rfl rfl rfl rfl rfl inf3 rfl (oneAll rfl) (Nat.le_of_ble_eq_true rfl) qRow_s1 rfl ?_
            intro w120 S121
            clear S119
            refine wL_nil ?_
            refine wQ_sub (l' := [(4, _), (5, _)]) ⟨rfl, rfl, trivial⟩ ?_
            refine wQ_then ?_
            refine wC_seq ?_
            refine wC_region ?_
            refine wL_val (v := .agg #[.int .i64 0, .int .i64 0, .int .i64 0, .int .i64 0]) (wn rfl) rfl rfl (y_build (vs := []) rfl trivial (by kernel_rfl)) ?_
            refine wL_st (cs := #[.int .i64 0, .int .i64 0, .int .i64 0, .int .i64 0]) (row' := #[.int .i64 0, .int .i64 0, .int .i64 0, .int .i64 0]) (fs' := (_ :: _ :: (.blk b4 #[.int .i64 0, .int .i64 0, .int .i64 0, .int .i64 0] 93) :: _ :: _ :: _ :: _ :: fs)) 2 S121 (wn rfl) rfl rfl rfl rfl rfl rfl inf93 rfl (oneAll rfl) (Nat.le_of_ble_eq_true rfl) (setAll_all rfl) rfl ?_
            intro w122 S123
            clear S121
            refine wL_val (v := .bool true) (wn rfl) rfl rfl (y_assign rfl rfl) ?_
            refine wL_nil ?_
            refine wQ_sub (l' := [(4, _), (5, _)]) ⟨rfl, rfl, trivial⟩ ?_
            refine wQ_then ?_
            refine wC_ret ?_
            refine wQ_post (rs := [.cell 4 93, .tmp 5]) (vs := [.agg #[.int .i64 0, .int .i64 0, .int .i64 0, .int .i64 0], .bool true]) rfl ⟨⟨_, rfl, res_row 2 S123 rfl Try.underlying93 rfl inf93⟩, rfl, trivial⟩ ?_
            have S124 : St B w0 w122 (_ :: _ :: _ :: fs) := (St.del 0 (St.del 1 (St.del 2 (St.del 3 S123))))
            clear S123
            have S125 := S124.sealAll 1 rfl
            clear S124
            change St _ _ _ (_ :: (.rdo 2 A112 (rs.length + 1) ((rs ++ [(⟨nx, bd⟩ : Msg)]).flatMap Msg.cells)) :: _ :: fs) at S125
            have S126 := S125.sealAll 2 rfl
            clear S125
            change St _ _ _ (_ :: _ :: (.rdo 4 A2 ls.length ((ls).flatMap Ls.cells)) :: fs) at S126
            rw [pub_ok h1 h2 (fun h => h.elim h3 h4)]
            have hln := (by simp : (rs ++ [(⟨nx, bd⟩ : Msg)]).length = rs.length + 1)
            refine ⟨rfl, A112, c113, A2, c2, ?_⟩
            dsimp only
            rw [hln]
            exact S126
    · refine wL_val (v := .bool true) (wn rfl) rfl rfl (y_binop rfl rfl rfl (r_neq_t h1)) ?_
      refine wL_val (v := .bool true) (wn rfl) rfl rfl (y_assign rfl rfl) ?_
      refine wL_nil ?_
      refine wQ_sub (l' := [(0, _), (3, _), (4, _), (5, _), (6, _), (7, _), (8, _), (24, _)]) ⟨rfl, rfl, rfl, rfl, rfl, rfl, rfl, rfl, trivial⟩ ?_
      refine wQ_then ?_
      refine wC_cond_t rfl ?_
      refine wC_seq ?_
      refine wC_region ?_
      refine wL_val (v := .int .i64 ((takeW (W.at k) id).2.2)) (wn rfl) rfl rfl (y_move rfl rfl) ?_
      refine wL_val (v := .agg #[.int .i64 ((takeW (W.at k) id).2.2), .int .i64 0, .int .i64 0, .int .i64 0]) (wn rfl) rfl rfl (y_build (vs := [(0, .int .i64 ((takeW (W.at k) id).2.2))]) rfl ⟨rfl, rfl, trivial⟩ (by kernel_rfl)) ?_
      refine wL_st (cs := #[.int .i64 ((takeW (W.at k) id).2.2), .int .i64 0, .int .i64 0, .int .i64 0]) (row' := #[.int .i64 ((takeW (W.at k) id).2.2), .int .i64 0, .int .i64 0, .int .i64 0]) (fs' := (_ :: (.blk b4 #[.int .i64 ((takeW (W.at k) id).2.2), .int .i64 0, .int .i64 0, .int .i64 0] 93) :: _ :: _ :: _ :: _ :: fs)) 1 S29 (wn rfl) rfl rfl rfl rfl rfl rfl inf93 rfl (oneAll rfl) (Nat.le_of_ble_eq_true rfl) (setAll_all rfl) rfl ?_
      intro w127 S128
      clear S29
      refine wL_val (v := .bool false) (wn rfl) rfl rfl (y_assign rfl rfl) ?_
      refine wL_nil ?_
      refine wQ_sub (l' := [(4, _), (5, _)]) ⟨rfl, rfl, trivial⟩ ?_
      refine wQ_then ?_
      refine wC_ret ?_
      refine wQ_blk_ret ?_
      refine wQ_then_ret ?_
      refine wQ_post (rs := [.cell 4 93, .tmp 5]) (vs := [.agg #[.int .i64 ((takeW (W.at k) id).2.2), .int .i64 0, .int .i64 0, .int .i64 0], .bool false]) rfl ⟨⟨_, rfl, res_row 1 S128 rfl Try.underlying93 rfl inf93⟩, rfl, trivial⟩ ?_
      have S129 : St B w0 w127 (_ :: _ :: _ :: fs) := (St.del 0 (St.del 1 (St.del 2 S128)))
      clear S128
      have S130 := S129.sealAll 1 rfl
      clear S129
      change St _ _ _ (_ :: (.rdo 2 A1 rs.length ((rs).flatMap Msg.cells)) :: _ :: fs) at S130
      have S131 := S130.sealAll 2 rfl
      clear S130
      change St _ _ _ (_ :: _ :: (.rdo 4 A2 ls.length ((ls).flatMap Ls.cells)) :: fs) at S131
      rw [pub_err h1]
      refine ⟨rfl, A1, c1, A2, c2, ?_⟩
      dsimp only
      exact S131
  · refine wN_new (i := 15) (listed' := #[true, true, true, true, true, true, true, true, true, true, false, false, false, false, false, true, false, false, false]) rfl rfl (V := fun b => .pointer (some ⟨b, 0, none⟩)) (row := #[.int .i64 0, .bool false, .bool false, .bool false, .bool false, .bool false, .bool false, .bool false, .bool false]) (t := 26) S7 (wn rfl) rfl rfl (d_alloc rfl (Try.zeroValue26 _) rfl) ?_
    intro b132 w133 S134
    clear S7
    refine ⟨(St.del 0 S134), ?_⟩
    refine wA_one (n := 7) (r := 10) (by kernel_rfl) ?_
    refine wN_call_ (i := 10) (listed' := #[true, true, true, true, true, true, true, true, true, true, true, false, false, false, false, true, false, false, false]) rfl rfl (vs := [.agg (((W.at k).cells).toArray), .int .i64 id]) (wn rfl) rfl rfl (e_call (vs := [.agg (((W.at k).cells).toArray), .int .i64 id]) rfl en174 ⟨rfl, rfl, trivial⟩) (WTake_calls (W.at k) id _) ?_
    rintro _ w135 ⟨rfl, hb137⟩
    refine ⟨_, rfl, ?_⟩
    have S136 := S134.on hb137
    clear hb137 S134
    refine ⟨(St.del 0 S136), ?_⟩
    refine wA_take (v := .tuple #[.agg (((takeW (W.at k) id).1.cells).toArray), .bool ((takeW (W.at k) id).2.1), .int .i64 ((takeW (W.at k) id).2.2)]) (i := 11) (n := 6) (listed' := #[true, true, true, true, true, true, true, true, true, true, true, true, false, false, false, true, false, false, false]) rfl (by kernel_rfl) (by kernel_rfl) (by kernel_rfl) (St.del 0 S136) rfl (wn rfl) rfl rfl (fun _ _ => (y_move rfl rfl)) ?_
    refine wA_take (v := .agg (((takeW (W.at k) id).1.cells).toArray)) (i := 12) (n := 5) (listed' := #[true, true, true, true, true, true, true, true, true, true, true, true, true, false, false, true, false, false, false]) rfl (by kernel_rfl) (by kernel_rfl) (by kernel_rfl) (St.del 0 S136) rfl (wn rfl) rfl rfl (fun _ _ => (y_extract rfl rfl rfl)) ?_
    refine wA_take (v := .bool ((takeW (W.at k) id).2.1)) (i := 13) (n := 4) (listed' := #[true, true, true, true, true, true, true, true, true, true, true, true, true, true, false, true, false, false, false]) rfl (by kernel_rfl) (by kernel_rfl) (by kernel_rfl) (St.del 0 S136) rfl (wn rfl) rfl rfl (fun _ _ => (y_extract rfl rfl rfl)) ?_
    refine wA_take (v := .int .i64 ((takeW (W.at k) id).2.2)) (i := 14) (n := 3) (listed' := #[true, true, true, true, true, true, true, true, true, true, true, true, true, true, true, true, false, false, false]) rfl (by kernel_rfl) (by kernel_rfl) (by kernel_rfl) (St.del 0 S136) rfl (wn rfl) rfl rfl (fun _ _ => (y_extract rfl rfl rfl)) ?_
    refine wA_one (n := 2) (r := 16) (by kernel_rfl) ?_
    refine wN_st (i := 16) (listed' := #[true, true, true, true, true, true, true, true, true, true, true, true, true, true, true, true, true, false, false]) rfl rfl (cs := ((takeW (W.at k) id).1.cells).toArray) (row' := ((takeW (W.at k) id).1.cells).toArray) (fs' := ((.blk b132 (((takeW (W.at k) id).1.cells).toArray) 26) :: _ :: _ :: _ :: _ :: _ :: fs)) 0 S136 (wn rfl) rfl rfl rfl rfl rfl rfl inf26 rfl (win_one _) (Nat.le_of_ble_eq_true rfl) (setAll_all rfl) rfl ?_
    intro w142 S143
    clear S136
    refine ⟨(St.del 0 S143), ?_⟩
    refine wA_take (v := .bool ((takeW (W.at k) id).2.1)) (i := 17) (n := 1) (listed' := #[true, true, true, true, true, true, true, true, true, true, true, true, true, true, true, true, true, true, false]) rfl (by kernel_rfl) (by kernel_rfl) (by kernel_rfl) (St.del 0 S143) rfl (wn rfl) rfl rfl (fun _ _ => (y_assign rfl rfl)) ?_
    refine wA_take (v := .int .i64 ((takeW (W.at k) id).2.2)) (i := 18) (n := 0) (listed' := #[true, true, true, true, true, true, true, true, true, true, true, true, true, true, true, true, true, true, true]) rfl (by kernel_rfl) (by kernel_rfl) (by kernel_rfl) (St.del 0 S143) rfl (wn rfl) rfl rfl (fun _ _ => (y_assign rfl rfl)) ?_
    refine wA_done (by kernel_rfl) ?_
    refine wQ_sub (l' := [(0, _), (3, _), (4, _), (5, _), (6, _), (7, _), (8, _)]) ⟨rfl, rfl, rfl, rfl, rfl, rfl, rfl, trivial⟩ ?_
    refine wQ_then ?_
    refine wC_seq ?_
    refine wC_block ?_
    refine wC_seq ?_
    refine wC_region ?_
    refine wL_val (v := .int .i64 ((takeW (W.at k) id).2.2)) (wn rfl) rfl rfl (y_move rfl rfl) ?_
    by_cases h1 : (takeW (W.at k) id).2.2 = 0
    · refine wL_val (v := .bool false) (wn rfl) rfl rfl (y_binop rfl rfl rfl (r_neq_f h1)) ?_
      refine wL_val (v := .bool false) (wn rfl) rfl rfl (y_assign rfl rfl) ?_
      refine wL_nil ?_
      refine wQ_sub (l' := [(0, _), (3, _), (4, _), (5, _), (6, _), (7, _), (8, _), (24, _)]) ⟨rfl, rfl, rfl, rfl, rfl, rfl, rfl, rfl, trivial⟩ ?_
      refine wQ_then ?_
      refine wC_cond_f rfl ?_
      refine wC_seq ?_
      refine wC_region ?_
      refine wL_val (v := .bool ((takeW (W.at k) id).2.1)) (wn rfl) rfl rfl (y_move rfl rfl) ?_
      cases h2 : (takeW (W.at k) id).2.1
      · refine wL_val (v := .bool true) (wn rfl) rfl rfl (y_unop rfl rfl r_not) ?_
        refine wL_val (v := .bool true) (wn rfl) rfl rfl (y_assign rfl rfl) ?_
        refine wL_nil ?_
        refine wQ_sub (l' := [(0, _), (3, _), (4, _), (5, _), (6, _), (29, _)]) ⟨rfl, rfl, rfl, rfl, rfl, rfl, trivial⟩ ?_
        refine wQ_then ?_
        refine wC_cond_t rfl ?_
        refine wC_seq ?_
        refine wC_region ?_
        refine wL_val (v := .agg #[.int .i64 0, .int .i64 0, .int .i64 0, .int .i64 0]) (wn rfl) rfl rfl (y_build (vs := []) rfl trivial (by kernel_rfl)) ?_
        refine wL_st (cs := #[.int .i64 0, .int .i64 0, .int .i64 0, .int .i64 0]) (row' := #[.int .i64 0, .int .i64 0, .int .i64 0, .int .i64 0]) (fs' := (_ :: (.blk b4 #[.int .i64 0, .int .i64 0, .int .i64 0, .int .i64 0] 93) :: _ :: _ :: _ :: _ :: fs)) 1 S143 (wn rfl) rfl rfl rfl rfl rfl rfl inf93 rfl (oneAll rfl) (Nat.le_of_ble_eq_true rfl) (setAll_all rfl) rfl ?_
        intro w146 S147
        clear S143
        refine wL_val (v := .bool false) (wn rfl) rfl rfl (y_assign rfl rfl) ?_
        refine wL_nil ?_
        refine wQ_sub (l' := [(4, _), (5, _)]) ⟨rfl, rfl, trivial⟩ ?_
        refine wQ_then ?_
        refine wC_ret ?_
        refine wQ_blk_ret ?_
        refine wQ_then_ret ?_
        refine wQ_post (rs := [.cell 4 93, .tmp 5]) (vs := [.agg #[.int .i64 0, .int .i64 0, .int .i64 0, .int .i64 0], .bool false]) rfl ⟨⟨_, rfl, res_row 1 S147 rfl Try.underlying93 rfl inf93⟩, rfl, trivial⟩ ?_
        have S148 : St B w0 w146 (_ :: _ :: _ :: fs) := (St.del 0 (St.del 1 (St.del 2 S147)))
        clear S147
        have S149 := S148.sealAll 1 rfl
        clear S148
        change St _ _ _ (_ :: (.rdo 2 A1 rs.length ((rs).flatMap Msg.cells)) :: _ :: fs) at S149
        have S150 := S149.sealAll 2 rfl
        clear S149
        change St _ _ _ (_ :: _ :: (.rdo 4 A2 ls.length ((ls).flatMap Ls.cells)) :: fs) at S150
        rw [pub_old h1 h2]
        refine ⟨rfl, A1, c1, A2, c2, ?_⟩
        dsimp only
        exact S150
      · refine wL_val (v := .bool false) (wn rfl) rfl rfl (y_unop rfl rfl r_not) ?_
        refine wL_val (v := .bool false) (wn rfl) rfl rfl (y_assign rfl rfl) ?_
        refine wL_nil ?_
        refine wQ_sub (l' := [(0, _), (3, _), (4, _), (5, _), (6, _), (29, _)]) ⟨rfl, rfl, rfl, rfl, rfl, rfl, trivial⟩ ?_
        refine wQ_then ?_
        refine wC_cond_f rfl ?_
        refine wC_seq ?_
        refine wC_quiet S143 mixed (by kernel_rfl) ?_
        refine wU_val (v := .pointer (some ⟨g, 0, none⟩)) (wn rfl) rfl rfl (fun _ _ => (y_move rfl rfl)) ?_
        refine wU_val (v := .pointer (some ⟨g, 0, none⟩)) (wn rfl) rfl rfl (fun _ _ => (y_nil rfl rfl trivial)) ?_
        refine wU_val (v := .pointer (some ⟨g, 0, none⟩)) (wn rfl) rfl rfl (fun _ _ => (y_fieldAddr rfl rfl (fa190_0 _ _ _))) ?_
        refine wU_val (v := .pointer (some ⟨g, 3, none⟩)) (wn rfl) rfl rfl (fun _ _ => (y_fieldAddr rfl rfl (fa29_3 _ _ _))) ?_
        refine wU_val (v := .slice A1 rs.length c1) (wn rfl) rfl rfl (fun _ Sx155 => (y_load rfl rfl (r_load Try.underlying22 rfl (St.cl 3 Sx155 rfl qRow_g3)))) ?_
        refine wU_val (v := .int .i64 ((rs.length : Nat) : Int)) (wn rfl) rfl rfl (fun _ _ => (y_builtin (vs := [.slice A1 rs.length c1]) rfl ⟨rfl, trivial⟩ fun _ => r_len rfl Try.underlying22)) ?_
        refine wU_val (v := .pointer (some ⟨g, 0, none⟩)) (wn rfl) rfl rfl (fun _ _ => (y_move rfl rfl)) ?_
        refine wU_val (v := .pointer (some ⟨g, 0, none⟩)) (wn rfl) rfl rfl (fun _ _ => (y_nil rfl rfl trivial)) ?_
        refine wU_val (v := .pointer (some ⟨g, 0, none⟩)) (wn rfl) rfl rfl (fun _ _ => (y_fieldAddr rfl rfl (fa190_0 _ _ _))) ?_
        refine wU_val (v := .pointer (some ⟨g, 4, none⟩)) (wn rfl) rfl rfl (fun _ _ => (y_fieldAddr rfl rfl (fa29_4 _ _ _))) ?_
        refine wU_val (v := .slice A2 ls.length c2) (wn rfl) rfl rfl (fun _ Sx161 => (y_load rfl rfl (r_load Try.underlying23 rfl (St.cl 3 Sx161 rfl qRow_g4)))) ?_
        refine wU_val (v := .int .i64 ((ls.length : Nat) : Int)) (wn rfl) rfl rfl (fun _ _ => (y_builtin (vs := [.slice A2 ls.length c2]) rfl ⟨rfl, trivial⟩ fun _ => r_len rfl Try.underlying23)) ?_
        refine wU_val (v := .int .i64 ((rs.length + ls.length : Nat) : Int)) (wn rfl) rfl rfl (fun _ _ => (y_binop rfl rfl rfl (r_add (by omega) (by omega)))) ?_
        by_cases h3 : rs.length + ls.length = 500
        · refine wU_val (v := .bool true) (wn rfl) rfl rfl (fun _ _ => (y_binop rfl rfl rfl (r_eql_t (by omega)))) ?_
          refine wU_val (v := .bool true) (wn rfl) rfl rfl (fun _ _ => (y_move rfl rfl)) ?_
          refine wU_skip (wg rfl rfl rfl rfl) rfl rfl ?_
          refine wU_skip (wg rfl rfl rfl rfl) rfl rfl ?_
          refine wU_skip (wg rfl rfl rfl rfl) rfl rfl ?_
          refine wU_skip (wg rfl rfl rfl rfl) rfl rfl ?_
          refine wU_skip (wg rfl rfl rfl rfl) rfl rfl ?_
          refine wU_skip (wg rfl rfl rfl rfl) rfl rfl ?_
          refine wU_val (v := .bool true) (wn rfl) rfl rfl (fun _ _ => (y_pick_t rfl rfl rfl)) ?_
          refine wU_val (v := .bool true) (wn rfl) rfl rfl (fun _ _ => (y_assign rfl rfl)) ?_
          refine wU_nil fun w168 S169 => ?_
          clear S143
          refine wQ_sub (l' := [(0, _), (3, _), (4, _), (5, _), (6, _), (33, _)]) ⟨rfl, rfl, rfl, rfl, rfl, rfl, trivial⟩ ?_
          refine wQ_then ?_
          refine wC_cond_t rfl ?_
          refine wC_seq ?_
          refine wC_region ?_
          refine wL_val (v := .agg #[.int .i64 14, .int .i64 0, .int .i64 0, .int .i64 0]) (wn rfl) rfl rfl (y_build (vs := [(0, .int .i64 14)]) rfl ⟨rfl, rfl, trivial⟩ (by kernel_rfl)) ?_
          refine wL_st (cs := #[.int .i64 14, .int .i64 0, .int .i64 0, .int .i64 0]) (row' := #[.int .i64 14, .int .i64 0, .int .i64 0, .int .i64 0]) (fs' := (_ :: (.blk b4 #[.int .i64 14, .int .i64 0, .int .i64 0, .int .i64 0] 93) :: _ :: _ :: _ :: _ :: fs)) 1 S169 (wn rfl) rfl rfl rfl rfl rfl rfl inf93 rfl (oneAll rfl) (Nat.le_of_ble_eq_true rfl) (setAll_all rfl) rfl ?_
          intro w170 S171
          clear S169
          refine wL_val (v := .bool false) (wn rfl) rfl rfl (y_assign rfl rfl) ?_
          refine wL_nil ?_
          refine wQ_sub (l' := [(4, _), (5, _)]) ⟨rfl, rfl, trivial⟩ ?_
          refine wQ_then ?_
          refine wC_ret ?_
          refine wQ_blk_ret ?_
          refine wQ_then_ret ?_
          refine wQ_post (rs := [.cell 4 93, .tmp 5]) (vs := [.agg #[.int .i64 14, .int .i64 0, .int .i64 0, .int .i64 0], .bool false]) rfl ⟨⟨_, rfl, res_row 1 S171 rfl Try.underlying93 rfl inf93⟩, rfl, trivial⟩ ?_
          have S172 : St B w0 w170 (_ :: _ :: _ :: fs) := (St.del 0 (St.del 1 (St.del 2 S171)))
          clear S171
          have S173 := S172.sealAll 1 rfl
          clear S172
          change St _ _ _ (_ :: (.rdo 2 A1 rs.length ((rs).flatMap Msg.cells)) :: _ :: fs) at S173
          have S174 := S173.sealAll 2 rfl
          clear S173
          change St _ _ _ (_ :: _ :: (.rdo 4 A2 ls.length ((ls).flatMap Ls.cells)) :: fs) at S174
          rw [pub_full h1 h2 (.inl h3)]
          refine ⟨rfl, A1, c1, A2, c2, ?_⟩
          dsimp only
          exact S174
        · refine wU_val (v := .bool false) (wn rfl) rfl rfl (fun _ _ => (y_binop rfl rfl rfl (r_eql_f (by omega)))) ?_
          refine wU_val (v := .bool false) (wn rfl) rfl rfl (fun _ _ => (y_move rfl rfl)) ?_
          refine wU_val (v := .pointer (some ⟨g, 0, none⟩)) (wg rfl rfl rfl rfl) rfl rfl (fun _ _ => (y_move rfl rfl)) ?_
          refine wU_val (v := .pointer (some ⟨g, 0, none⟩)) (wg rfl rfl rfl rfl) rfl rfl (fun _ _ => (y_nil rfl rfl trivial)) ?_
          refine wU_val (v := .pointer (some ⟨g, 0, none⟩)) (wg rfl rfl rfl rfl) rfl rfl (fun _ _ => (y_fieldAddr rfl rfl (fa190_0 _ _ _))) ?_
          refine wU_val (v := .pointer (some ⟨g, 1, none⟩)) (wg rfl rfl rfl rfl) rfl rfl (fun _ _ => (y_fieldAddr rfl rfl (fa29_1 _ _ _))) ?_
          refine wU_val (v := .int .i64 nx) (wg rfl rfl rfl rfl) rfl rfl (fun _ Sx181 => (y_load rfl rfl (r_load Try.underlying3 rfl (St.cl 3 Sx181 rfl qRow_g1)))) ?_
          by_cases h4 : nx = 1073741824
          · refine wU_val (v := .bool true) (wg rfl rfl rfl rfl) rfl rfl (fun _ _ => (y_binop rfl rfl rfl (r_eql_t h4))) ?_
            refine wU_val (v := .bool true) (wn rfl) rfl rfl (fun _ _ => (y_pick_f rfl rfl rfl)) ?_
            refine wU_val (v := .bool true) (wn rfl) rfl rfl (fun _ _ => (y_assign rfl rfl)) ?_
            refine wU_nil fun w185 S186 => ?_
            clear S143
            refine wQ_sub (l' := [(0, _), (3, _), (4, _), (5, _), (6, _), (33, _)]) ⟨rfl, rfl, rfl, rfl, rfl, rfl, trivial⟩ ?_
            refine wQ_then ?_
            refine wC_cond_t rfl ?_
            refine wC_seq ?_
            refine wC_region ?_
            refine wL_val (v := .agg #[.int .i64 14, .int .i64 0, .int .i64 0, .int .i64 0]) (wn rfl) rfl rfl (y_build (vs := [(0, .int .i64 14)]) rfl ⟨rfl, rfl, trivial⟩ (by kernel_rfl)) ?_
            refine wL_st (cs := #[.int .i64 14, .int .i64 0, .int .i64 0, .int .i64 0]) (row' := #[.int .i64 14, .int .i64 0, .int .i64 0, .int .i64 0]) (fs' := (_ :: (.blk b4 #[.int .i64 14, .int .i64 0, .int .i64 0, .int .i64 0] 93) :: _ :: _ :: _ :: _ :: fs)) 1 S186 (wn rfl) rfl rfl rfl rfl rfl rfl inf93 rfl (oneAll rfl) (Nat.le_of_ble_eq_true rfl) (setAll_all rfl) rfl ?_
            intro w187 S188
            clear S186
            refine wL_val (v := .bool false) (wn rfl) rfl rfl (y_assign rfl rfl) ?_
            refine wL_nil ?_
            refine wQ_sub (l' := [(4, _), (5, _)]) ⟨rfl, rfl, trivial⟩ ?_
            refine wQ_then ?_
            refine wC_ret ?_
            refine wQ_blk_ret ?_
            refine wQ_then_ret ?_
            refine wQ_post (rs := [.cell 4 93, .tmp 5]) (vs := [.agg #[.int .i64 14, .int .i64 0, .int .i64 0, .int .i64 0], .bool false]) rfl ⟨⟨_, rfl, res_row 1 S188 rfl Try.underlying93 rfl inf93⟩, rfl, trivial⟩ ?_
            have S189 : St B w0 w187 (_ :: _ :: _ :: fs) := (St.del 0 (St.del 1 (St.del 2 S188)))
            clear S188
            have S190 := S189.sealAll 1 rfl
            clear S189
            change St _ _ _ (_ :: (.rdo 2 A1 rs.length ((rs).flatMap Msg.cells)) :: _ :: fs) at S190
            have S191 := S190.sealAll 2 rfl
            clear S190
            change St _ _ _ (_ :: _ :: (.rdo 4 A2 ls.length ((ls).flatMap Ls.cells)) :: fs) at S191
            rw [pub_full h1 h2 (.inr h4)]
            refine ⟨rfl, A1, c1, A2, c2, ?_⟩
            dsimp only
            exact S191
          · refine wU_val (v := .bool false) (wg rfl rfl rfl rfl) rfl rfl (fun _ _ => (y_binop rfl rfl rfl (r_eql_f h4))) ?_
            refine wU_val (v := .bool false) (wn rfl) rfl rfl (fun _ _ => (y_pick_f rfl rfl rfl)) ?_
            refine wU_val (v := .bool false) (wn rfl) rfl rfl (fun _ _ => (y_assign rfl rfl)) ?_
            refine wU_nil fun w195 S196 => ?_
            clear S143
            refine wQ_sub (l' := [(0, _), (3, _), (4, _), (5, _), (6, _), (33, _)]) ⟨rfl, rfl, rfl, rfl, rfl, rfl, trivial⟩ ?_
            refine wQ_then ?_
            refine wC_cond_f rfl ?_
            refine wC_skip ?_
            refine wQ_blk_n ?_
            refine wQ_then ?_
            refine wC_seq ?_
            have S197 := S196.drew
            clear S196
            refine wC_any_ (C := fun w' => St B w0 w' ((.blk b132 (((takeW (W.at k) id).1.cells).toArray) 26) :: (.blk b4 #[.int .i64 0, .int .i64 0, .int .i64 0, .int .i64 0] 93) :: (.blk b1 #[.int .i64 kd, .int .i64 ((k : Nat) : Int), .int .i64 id, .int .i64 bd, .int .i64 he, .int .i64 hn] 37) :: (.own 137 2 (.slice A1 rs.length c1) rs.length ((rs).flatMap Msg.cells)) :: (.own 141 4 (.slice A2 ls.length c2) ls.length ((ls).flatMap Ls.cells)) :: fs)) (n := 9) (listed := #[false, false, false, false, false, false, false, false, false]) mixed rfl rfl ?_
            refine wA_take (v := .pointer (some ⟨g, 0, none⟩)) (i := 0) (n := 8) (listed' := #[true, false, false, false, false, false, false, false, false]) rfl (by kernel_rfl) (by kernel_rfl) (by kernel_rfl) (St.del 3 S197) rfl (wn rfl) rfl rfl (fun _ _ => (y_move rfl rfl)) ?_
            refine wA_take (v := .pointer (some ⟨b1, 1, none⟩)) (i := 1) (n := 7) (listed' := #[true, true, false, false, false, false, false, false, false]) rfl (by kernel_rfl) (by kernel_rfl) (by kernel_rfl) (St.del 3 S197) rfl (wn rfl) rfl rfl (fun _ _ => (y_fieldAddr rfl rfl (fa37_1 _ _ _))) ?_
            refine wA_take (v := .int .i64 ((k : Nat) : Int)) (i := 2) (n := 6) (listed' := #[true, true, true, false, false, false, false, false, false]) rfl (by kernel_rfl) (by kernel_rfl) (by kernel_rfl) (St.del 3 S197) rfl (wn rfl) rfl rfl (fun _ Sx200 => (y_load rfl rfl (r_load Try.underlying3 rfl (St.cl 2 Sx200 rfl rfl)))) ?_
            refine wA_take (v := .agg (((takeW (W.at k) id).1.cells).toArray)) (i := 3) (n := 5) (listed' := #[true, true, true, true, false, false, false, false, false]) rfl (by kernel_rfl) (by kernel_rfl) (by kernel_rfl) (St.del 3 S197) rfl (wn rfl) rfl rfl (fun _ Sx201 => (y_load rfl rfl (r_load_row 0 Sx201 rfl Try.underlying26 rfl inf26 rfl))) ?_
            refine wA_take (v := .pointer (some ⟨g, 0, none⟩)) (i := 4) (n := 4) (listed' := #[true, true, true, true, true, false, false, false, false]) rfl (by kernel_rfl) (by kernel_rfl) (by kernel_rfl) (St.del 3 S197) rfl (wn rfl) rfl rfl (fun _ _ => (y_nil rfl rfl trivial)) ?_
            refine wA_take (v := .pointer (some ⟨g, 0, none⟩)) (i := 5) (n := 3) (listed' := #[true, true, true, true, true, true, false, false, false]) rfl (by kernel_rfl) (by kernel_rfl) (by kernel_rfl) (St.del 3 S197) rfl (wn rfl) rfl rfl (fun _ _ => (y_fieldAddr rfl rfl (fa190_0 _ _ _))) ?_
            refine wA_take (v := .pointer (some ⟨g, 5, none⟩)) (i := 6) (n := 2) (listed' := #[true, true, true, true, true, true, true, false, false]) rfl (by kernel_rfl) (by kernel_rfl) (by kernel_rfl) (St.del 3 S197) rfl (wn rfl) rfl rfl (fun _ _ => (y_fieldAddr rfl rfl (fa29_5 _ _ _))) ?_
            refine wA_take (v := .pointer (some ⟨g, 5 + k * 9, none⟩)) (i := 7) (n := 1) (listed' := #[true, true, true, true, true, true, true, true, false]) rfl (by kernel_rfl) (by kernel_rfl) (by kernel_rfl) (St.del 3 S197) rfl (wn rfl) rfl rfl (fun _ _ => (y_indexAddr rfl rfl rfl (r_indexArr k Try.underlying27 inf26 rfl hk))) ?_
            refine wA_one (n := 0) (r := 8) (by kernel_rfl) ?_
            refine wN_st (i := 8) (listed' := #[true, true, true, true, true, true, true, true, true]) rfl rfl (cs := ((takeW (W.at k) id).1.cells).toArray) (row' := qRow ep nx gv (.slice A1 rs.length c1) (.slice A2 ls.length c2) (W.put k (takeW (W.at k) id).1)) (fs' := (.blk b132 (((takeW (W.at k) id).1.cells).toArray) 26) :: (.blk b4 #[.int .i64 0, .int .i64 0, .int .i64 0, .int .i64 0] 93) :: (.blk b1 #[.int .i64 kd, .int .i64 ((k : Nat) : Int), .int .i64 id, .int .i64 bd, .int .i64 he, .int .i64 hn] 37) :: (.blk g (qRow ep nx gv (.slice A1 rs.length c1) (.slice A2 ls.length c2) (W.put k (takeW (W.at k) id).1)) 190) :: (.own 137 2 (.slice A1 rs.length c1) rs.length ((rs).flatMap Msg.cells)) :: (.own 141 4 (.slice A2 ls.length c2) ls.length ((ls).flatMap Ls.cells)) :: fs) 3 S197 (wn rfl) rfl rfl rfl rfl rfl rfl inf26 rfl (win_one _) (by rw [qRow_size]; omega) (qRow_pk hk) rfl ?_
            intro w206 S207
            clear S197
            refine ⟨(St.del 3 S207), ?_⟩
            refine wA_done (by kernel_rfl) ?_
            refine wQ_sub (l' := [(0, _), (3, _), (4, _), (5, _)]) ⟨rfl, rfl, rfl, rfl, trivial⟩ ?_
            refine wQ_then ?_
            refine wC_seq ?_
            have S208 := S207.drew
            clear S207
            refine wC_head (C := fun w' => St B w0 w' ((.blk b132 (((takeW (W.at k) id).1.cells).toArray) 26) :: (.blk b4 #[.int .i64 0, .int .i64 0, .int .i64 0, .int .i64 0] 93) :: (.blk b1 #[.int .i64 kd, .int .i64 ((k : Nat) : Int), .int .i64 id, .int .i64 bd, .int .i64 he, .int .i64 hn] 37) :: (.blk g (qRow ep nx gv (.slice A1 rs.length c1) (.slice A2 ls.length c2) (W.put k (takeW (W.at k) id).1)) 190) :: (.own 141 4 (.slice A2 ls.length c2) ls.length ((ls).flatMap Ls.cells)) :: fs)) (m := 20) (listed := #[false, false, false, false, false, false, false, false, false, false, false, false, false, false, false, false, false, false, false, false]) 16 mixed rfl rfl ?_
            refine wG_take (v := .pointer (some ⟨g, 0, none⟩)) (i := 0) (m := 19) (listed' := #[true, false, false, false, false, false, false, false, false, false, false, false, false, false, false, false, false, false, false, false]) rfl (by kernel_rfl) (by kernel_rfl) (by kernel_rfl) rfl (by kernel_rfl) rfl (St.del 4 S208) rfl (wn rfl) rfl rfl (fun _ _ => (y_move rfl rfl)) ?_
            refine wG_take (v := .pointer (some ⟨g, 0, none⟩)) (i := 1) (m := 18) (listed' := #[true, true, false, false, false, false, false, false, false, false, false, false, false, false, false, false, false, false, false, false]) rfl (by kernel_rfl) (by kernel_rfl) (by kernel_rfl) rfl (by kernel_rfl) rfl (St.del 4 S208) rfl (wn rfl) rfl rfl (fun _ _ => (y_move rfl rfl)) ?_
            refine wG_take (v := .pointer (some ⟨g, 0, none⟩)) (i := 2) (m := 17) (listed' := #[true, true, true, false, false, false, false, false, false, false, false, false, false, false, false, false, false, false, false, false]) rfl (by kernel_rfl) (by kernel_rfl) (by kernel_rfl) rfl (by kernel_rfl) rfl (St.del 4 S208) rfl (wn rfl) rfl rfl (fun _ _ => (y_nil rfl rfl trivial)) ?_
            refine wG_take (v := .pointer (some ⟨g, 0, none⟩)) (i := 3) (m := 16) (listed' := #[true, true, true, true, false, false, false, false, false, false, false, false, false, false, false, false, false, false, false, false]) rfl (by kernel_rfl) (by kernel_rfl) (by kernel_rfl) rfl (by kernel_rfl) rfl (St.del 4 S208) rfl (wn rfl) rfl rfl (fun _ _ => (y_fieldAddr rfl rfl (fa190_0 _ _ _))) ?_
            refine wG_take (v := .pointer (some ⟨g, 3, none⟩)) (i := 4) (m := 15) (listed' := #[true, true, true, true, true, false, false, false, false, false, false, false, false, false, false, false, false, false, false, false]) rfl (by kernel_rfl) (by kernel_rfl) (by kernel_rfl) rfl (by kernel_rfl) rfl (St.del 4 S208) rfl (wn rfl) rfl rfl (fun _ _ => (y_fieldAddr rfl rfl (fa29_3 _ _ _))) ?_
            refine wG_take (v := .slice A1 rs.length c1) (i := 5) (m := 14) (listed' := #[true, true, true, true, true, true, false, false, false, false, false, false, false, false, false, false, false, false, false, false]) rfl (by kernel_rfl) (by kernel_rfl) (by kernel_rfl) rfl (by kernel_rfl) rfl (St.del 4 S208) rfl (wn rfl) rfl rfl (fun _ Sx214 => (y_load rfl rfl (r_load Try.underlying22 rfl (St.cl 3 Sx214 rfl qRow_g3)))) ?_
            refine wG_take (v := .pointer (some ⟨g, 0, none⟩)) (i := 6) (m := 13) (listed' := #[true, true, true, true, true, true, true, false, false, false, false, false, false, false, false, false, false, false, false, false]) rfl (by kernel_rfl) (by kernel_rfl) (by kernel_rfl) rfl (by kernel_rfl) rfl (St.del 4 S208) rfl (wn rfl) rfl rfl (fun _ _ => (y_move rfl rfl)) ?_
            refine wG_take (v := .pointer (some ⟨g, 0, none⟩)) (i := 7) (m := 12) (listed' := #[true, true, true, true, true, true, true, true, false, false, false, false, false, false, false, false, false, false, false, false]) rfl (by kernel_rfl) (by kernel_rfl) (by kernel_rfl) rfl (by kernel_rfl) rfl (St.del 4 S208) rfl (wn rfl) rfl rfl (fun _ _ => (y_nil rfl rfl trivial)) ?_
            refine wG_take (v := .pointer (some ⟨g, 0, none⟩)) (i := 8) (m := 11) (listed' := #[true, true, true, true, true, true, true, true, true, false, false, false, false, false, false, false, false, false, false, false]) rfl (by kernel_rfl) (by kernel_rfl) (by kernel_rfl) rfl (by kernel_rfl) rfl (St.del 4 S208) rfl (wn rfl) rfl rfl (fun _ _ => (y_fieldAddr rfl rfl (fa190_0 _ _ _))) ?_
            refine wG_take (v := .pointer (some ⟨g, 1, none⟩)) (i := 9) (m := 10) (listed' := #[true, true, true, true, true, true, true, true, true, true, false, false, false, false, false, false, false, false, false, false]) rfl (by kernel_rfl) (by kernel_rfl) (by kernel_rfl) rfl (by kernel_rfl) rfl (St.del 4 S208) rfl (wn rfl) rfl rfl (fun _ _ => (y_fieldAddr rfl rfl (fa29_1 _ _ _))) ?_
            refine wG_take (v := .int .i64 nx) (i := 10) (m := 9) (listed' := #[true, true, true, true, true, true, true, true, true, true, true, false, false, false, false, false, false, false, false, false]) rfl (by kernel_rfl) (by kernel_rfl) (by kernel_rfl) rfl (by kernel_rfl) rfl (St.del 4 S208) rfl (wn rfl) rfl rfl (fun _ Sx219 => (y_load rfl rfl (r_load Try.underlying3 rfl (St.cl 3 Sx219 rfl qRow_g1)))) ?_
            refine wG_take (v := .pointer (some ⟨b1, 3, none⟩)) (i := 11) (m := 8) (listed' := #[true, true, true, true, true, true, true, true, true, true, true, true, false, false, false, false, false, false, false, false]) rfl (by kernel_rfl) (by kernel_rfl) (by kernel_rfl) rfl (by kernel_rfl) rfl (St.del 4 S208) rfl (wn rfl) rfl rfl (fun _ _ => (y_fieldAddr rfl rfl (fa37_3 _ _ _))) ?_
            refine wG_take (v := .int .i64 bd) (i := 12) (m := 7) (listed' := #[true, true, true, true, true, true, true, true, true, true, true, true, true, false, false, false, false, false, false, false]) rfl (by kernel_rfl) (by kernel_rfl) (by kernel_rfl) rfl (by kernel_rfl) rfl (St.del 4 S208) rfl (wn rfl) rfl rfl (fun _ Sx221 => (y_load rfl rfl (r_load Try.underlying3 rfl (St.cl 2 Sx221 rfl rfl)))) ?_
            refine wG_take (v := .agg #[.int .i64 nx, .int .i64 bd]) (i := 13) (m := 6) (listed' := #[true, true, true, true, true, true, true, true, true, true, true, true, true, true, false, false, false, false, false, false]) rfl (by kernel_rfl) (by kernel_rfl) (by kernel_rfl) rfl (by kernel_rfl) rfl (St.del 4 S208) rfl (wn rfl) rfl rfl (fun _ _ => (y_build (vs := [(0, .int .i64 nx), (1, .int .i64 bd)]) rfl ⟨rfl, rfl, rfl, rfl, trivial⟩ (by kernel_rfl))) ?_
            refine wG_one (m := 5) (r := 14) (by kernel_rfl) ?_
            refine wH_new (i := 14) (listed' := #[true, true, true, true, true, true, true, true, true, true, true, true, true, true, true, false, false, false, false, false]) rfl rfl (V := fun b => .slice (some ⟨b, 0, none⟩) 1 1) (row := #[.int .i64 nx, .int .i64 bd]) (t := 137) S208 (wn rfl) rfl rfl (d_buildSlice (vs := [(0, .agg #[.int .i64 nx, .int .i64 bd])]) rfl ⟨rfl, rfl, trivial⟩ (by kernel_rfl)) ?_
            intro b223 w224 S225
            clear S208
            refine ⟨(St.del 0 (St.del 5 S225)), ?_⟩
            refine wG_one (m := 4) (r := 15) (by kernel_rfl) ?_
            refine wH_append (i := 15) (listed' := #[true, true, true, true, true, true, true, true, true, true, true, true, true, true, true, true, false, false, false, false]) rfl rfl (news := [.int .i64 nx, .int .i64 bd]) (xs' := (rs ++ [(⟨nx, bd⟩ : Msg)]).flatMap Msg.cells) 5 S225 (wn rfl) rfl rfl rfl rfl rfl rfl (St.bld (xs := [.int .i64 nx, .int .i64 bd]) 0 S225 rfl rfl rfl) Try.underlying22 infz137 rfl (by decide) (oneAll rfl) (by simp only [maxLen]; omega) (by omega) (fm_snoc (enc := Msg.cells) rfl rfl) ?_
            intro A226 c227 w228 hc230 hm231 S229
            clear S225
            change St _ _ _ (_ :: _ :: _ :: _ :: _ :: (.own 137 2 (.slice A226 (rs.length + 1) c227) (rs.length + 1) ((rs ++ [(⟨nx, bd⟩ : Msg)]).flatMap Msg.cells)) :: _ :: fs) at S229
            refine ⟨(St.del 0 (St.del 5 S229)), ?_⟩
            refine wG_tail (by kernel_rfl) rfl rfl rfl ?_
            refine wL_val (v := .pointer (some ⟨g, 0, none⟩)) (wn rfl) rfl rfl (y_nil rfl rfl trivial) ?_
            refine wL_val (v := .pointer (some ⟨g, 0, none⟩)) (wn rfl) rfl rfl (y_fieldAddr rfl rfl (fa190_0 _ _ _)) ?_
            refine wL_val (v := .pointer (some ⟨g, 3, none⟩)) (wn rfl) rfl rfl (y_fieldAddr rfl rfl (fa29_3 _ _ _)) ?_
            refine wL_st (cs := #[.slice A226 (rs.length + 1) c227]) (row' := qRow ep nx gv (.slice A226 (rs.length + 1) c227) (.slice A2 ls.length c2) (W.put k (takeW (W.at k) id).1)) (fs' := (_ :: _ :: _ :: _ :: (.blk g (qRow ep nx gv (.slice A226 (rs.length + 1) c227) (.slice A2 ls.length c2) (W.put k (takeW (W.at k) id).1)) 190) :: _ :: _ :: fs)) 4 S229 (wn rfl) rfl rfl rfl rfl rfl rfl inf22 rfl (oneAll rfl) (Nat.le_of_ble_eq_true rfl) qRow_s3 rfl ?_
            intro w232 S233
            clear S229
            refine wL_nil (wQ_np ?_)
            refine wQ_sub (l' := [(0, _), (4, _), (5, _)]) ⟨rfl, rfl, rfl, trivial⟩ ?_
            refine wQ_then ?_
            refine wC_seq ?_
            refine wC_region ?_
            refine wL_val (v := .pointer (some ⟨g, 0, none⟩)) (wn rfl) rfl rfl (y_move rfl rfl) ?_
            refine wL_val (v := .pointer (some ⟨g, 0, none⟩)) (wn rfl) rfl rfl (y_nil rfl rfl trivial) ?_
            refine wL_val (v := .pointer (some ⟨g, 0, none⟩)) (wn rfl) rfl rfl (y_fieldAddr rfl rfl (fa190_0 _ _ _)) ?_
            refine wL_val (v := .pointer (some ⟨g, 1, none⟩)) (wn rfl) rfl rfl (y_fieldAddr rfl rfl (fa29_1 _ _ _)) ?_
            refine wL_val (v := .int .i64 nx) (wn rfl) rfl rfl (y_load rfl rfl (r_load Try.underlying3 rfl (St.cl 4 S233 rfl qRow_g1))) ?_
            refine wL_val (v := .int .i64 (nx + 1)) (wn rfl) rfl rfl (y_binop rfl rfl rfl (r_add (by omega) (by omega))) ?_
            refine wL_val (v := .pointer (some ⟨g, 0, none⟩)) (wn rfl) rfl rfl (y_nil rfl rfl trivial) ?_
            refine wL_val (v := .pointer (some ⟨g, 0, none⟩)) (wn rfl) rfl rfl (y_fieldAddr rfl rfl (fa190_0 _ _ _)) ?_
            refine wL_val (v := .pointer (some ⟨g, 1, none⟩)) (wn rfl) rfl rfl (y_fieldAddr rfl rfl (fa29_1 _ _ _)) ?_
            refine wL_st (cs := #[.int .i64 (nx + 1)]) (row' := qRow ep (nx + 1) gv (.slice A226 (rs.length + 1) c227) (.slice A2 ls.length c2) (W.put k (takeW (W.at k) id).1)) (fs' := (_ :: _ :: _ :: _ :: (.blk g (qRow ep (nx + 1) gv (.slice A226 (rs.length + 1) c227) (.slice A2 ls.length c2) (W.put k (takeW (W.at k) id).1)) 190) :: _ :: _ :: fs)) 4 S233 (wn rfl) rfl rfl rfl rfl rfl rfl inf3 rfl (oneAll rfl) (Nat.le_of_ble_eq_true rfl) qRow_s1 rfl ?_
            intro w234 S235
            clear S233
            refine wL_nil ?_
            refine wQ_sub (l' := [(4, _), (5, _)]) ⟨rfl, rfl, trivial⟩ ?_
            refine wQ_then ?_
            refine wC_seq ?_
            refine wC_region ?_
            refine wL_val (v := .agg #[.int .i64 0, .int .i64 0, .int .i64 0, .int .i64 0]) (wn rfl) rfl rfl (y_build (vs := []) rfl trivial (by kernel_rfl)) ?_
            refine wL_st (cs := #[.int .i64 0, .int .i64 0, .int .i64 0, .int .i64 0]) (row' := #[.int .i64 0, .int .i64 0, .int .i64 0, .int .i64 0]) (fs' := (_ :: _ :: (.blk b4 #[.int .i64 0, .int .i64 0, .int .i64 0, .int .i64 0] 93) :: _ :: _ :: _ :: _ :: fs)) 2 S235 (wn rfl) rfl rfl rfl rfl rfl rfl inf93 rfl (oneAll rfl) (Nat.le_of_ble_eq_true rfl) (setAll_all rfl) rfl ?_
            intro w236 S237
            clear S235
            refine wL_val (v := .bool true) (wn rfl) rfl rfl (y_assign rfl rfl) ?_
            refine wL_nil ?_
            refine wQ_sub (l' := [(4, _), (5, _)]) ⟨rfl, rfl, trivial⟩ ?_
            refine wQ_then ?_
            refine wC_ret ?_
            refine wQ_post (rs := [.cell 4 93, .tmp 5]) (vs := [.agg #[.int .i64 0, .int .i64 0, .int .i64 0, .int .i64 0], .bool true]) rfl ⟨⟨_, rfl, res_row 2 S237 rfl Try.underlying93 rfl inf93⟩, rfl, trivial⟩ ?_
            have S238 : St B w0 w236 (_ :: _ :: _ :: fs) := (St.del 0 (St.del 1 (St.del 2 (St.del 3 S237))))
            clear S237
            have S239 := S238.sealAll 1 rfl
            clear S238
            change St _ _ _ (_ :: (.rdo 2 A226 (rs.length + 1) ((rs ++ [(⟨nx, bd⟩ : Msg)]).flatMap Msg.cells)) :: _ :: fs) at S239
            have S240 := S239.sealAll 2 rfl
            clear S239
            change St _ _ _ (_ :: _ :: (.rdo 4 A2 ls.length ((ls).flatMap Ls.cells)) :: fs) at S240
            rw [pub_ok h1 h2 (fun h => h.elim h3 h4)]
            have hln := (by simp : (rs ++ [(⟨nx, bd⟩ : Msg)]).length = rs.length + 1)
            refine ⟨rfl, A226, c227, A2, c2, ?_⟩
            dsimp only
            rw [hln]
            exact S240
    · refine wL_val (v := .bool true) (wn rfl) rfl rfl (y_binop rfl rfl rfl (r_neq_t h1)) ?_
      refine wL_val (v := .bool true) (wn rfl) rfl rfl (y_assign rfl rfl) ?_
      refine wL_nil ?_
      refine wQ_sub (l' := [(0, _), (3, _), (4, _), (5, _), (6, _), (7, _), (8, _), (24, _)]) ⟨rfl, rfl, rfl, rfl, rfl, rfl, rfl, rfl, trivial⟩ ?_
      refine wQ_then ?_
      refine wC_cond_t rfl ?_
      refine wC_seq ?_
      refine wC_region ?_
      refine wL_val (v := .int .i64 ((takeW (W.at k) id).2.2)) (wn rfl) rfl rfl (y_move rfl rfl) ?_
      refine wL_val (v := .agg #[.int .i64 ((takeW (W.at k) id).2.2), .int .i64 0, .int .i64 0, .int .i64 0]) (wn rfl) rfl rfl (y_build (vs := [(0, .int .i64 ((takeW (W.at k) id).2.2))]) rfl ⟨rfl, rfl, trivial⟩ (by kernel_rfl)) ?_
      refine wL_st (cs := #[.int .i64 ((takeW (W.at k) id).2.2), .int .i64 0, .int .i64 0, .int .i64 0]) (row' := #[.int .i64 ((takeW (W.at k) id).2.2), .int .i64 0, .int .i64 0, .int .i64 0]) (fs' := (_ :: (.blk b4 #[.int .i64 ((takeW (W.at k) id).2.2), .int .i64 0, .int .i64 0, .int .i64 0] 93) :: _ :: _ :: _ :: _ :: fs)) 1 S143 (wn rfl) rfl rfl rfl rfl rfl rfl inf93 rfl (oneAll rfl) (Nat.le_of_ble_eq_true rfl) (setAll_all rfl) rfl ?_
      intro w241 S242
      clear S143
      refine wL_val (v := .bool false) (wn rfl) rfl rfl (y_assign rfl rfl) ?_
      refine wL_nil ?_
      refine wQ_sub (l' := [(4, _), (5, _)]) ⟨rfl, rfl, trivial⟩ ?_
      refine wQ_then ?_
      refine wC_ret ?_
      refine wQ_blk_ret ?_
      refine wQ_then_ret ?_
      refine wQ_post (rs := [.cell 4 93, .tmp 5]) (vs := [.agg #[.int .i64 ((takeW (W.at k) id).2.2), .int .i64 0, .int .i64 0, .int .i64 0], .bool false]) rfl ⟨⟨_, rfl, res_row 1 S242 rfl Try.underlying93 rfl inf93⟩, rfl, trivial⟩ ?_
      have S243 : St B w0 w241 (_ :: _ :: _ :: fs) := (St.del 0 (St.del 1 (St.del 2 S242)))
      clear S242
      have S244 := S243.sealAll 1 rfl
      clear S243
      change St _ _ _ (_ :: (.rdo 2 A1 rs.length ((rs).flatMap Msg.cells)) :: _ :: fs) at S244
      have S245 := S244.sealAll 2 rfl
      clear S244
      change St _ _ _ (_ :: _ :: (.rdo 4 A2 ls.length ((ls).flatMap Ls.cells)) :: fs) at S245
      rw [pub_err h1]
      refine ⟨rfl, A1, c1, A2, c2, ?_⟩
      dsimp only
      exact S245
end Go.Proofs.Ytkjlafpafmihaaa

namespace Go.Proofs.Ytkjlafpafmihaaa
open Go.ChangeShapes Go.WideShapes Go.RowKit

theorem own_caps {w : World} {base : Nat} {e : TypeId} {size : Nat} {A : Option Addr} {n c : Nat} {xs : List Value} (h : w.ownsRow base e size (.slice A n c) n xs) : n ≤ c ∧ c ≤ maxLen := by
  obtain ⟨A', c', e1, h1, h2⟩ := own_form h
  cases e1
  exact ⟨h1, h2⟩
theorem fm_drop {α : Type} {enc : α → List Value} {sz : Nat} (hsz : ∀ x, (enc x).length = sz) : ∀ (k : Nat) (l : List α), (l.flatMap enc).drop (k * sz) = (l.drop k).flatMap enc
  | 0, l => by simp
  | k + 1, [] => by simp
  | k + 1, x :: l => by rw [List.flatMap_cons, Nat.succ_mul, Nat.add_comm, ← List.drop_drop, List.drop_left' (hsz x), fm_drop hsz k l]; rfl
theorem rd_drop1 {w : World} {B : Nat} {A : Option Addr} {rs : List Msg} (h : Rd w B 2 A (rs.length - 1) (((rs.flatMap Msg.cells).drop (1 * 2)).take ((rs.length - 1) * 2))) : Rd w B 2 A (rs.length - 1) ((rs.drop 1).flatMap Msg.cells) := by
  rw [fm_drop (enc := Msg.cells) (sz := 2) (fun _ => rfl), List.take_of_length_le (by rw [fm_len (sz := 2) (fun _ => rfl), List.length_drop]; exact Nat.le_refl _)] at h
  exact h

set_option maxRecDepth 100000 in
set_option maxHeartbeats 2000000 in
theorem receive_calls {B g k c1 c2 : Nat} {w0 w : World} {fs : List Fact} {A1 A2 : Option Addr} {rs : List Msg} {ls : List Ls} {W : Wins} {ep nx gv kd id bd he hn : Int} (S : St B w0 w (.blk g (qRow ep nx gv (.slice A1 rs.length c1) (.slice A2 ls.length c2) W) 190 :: .own 137 2 (.slice A1 rs.length c1) rs.length ((rs).flatMap Msg.cells) :: .own 141 4 (.slice A2 ls.length c2) ls.length ((ls).flatMap Ls.cells) :: fs)) (hk : k < 4) (hlen : rs.length + ls.length ≤ 500) (hnx : 0 ≤ nx ∧ nx ≤ 1073741824) (hgv : 0 ≤ gv ∧ gv ≤ 1073741824) (hep : 0 ≤ ep ∧ ep ≤ 1048576) :
    Calls Try.prog 146 #[.pointer (some ⟨g, 0, none⟩), .agg #[.int .i64 kd, .int .i64 ((k : Nat) : Int), .int .i64 id, .int .i64 bd, .int .i64 he, .int .i64 hn]] w (DeskPost B w0 g fs (recM ⟨ep, nx, gv, rs, ls, W⟩)) := by
  refine calls_of_wC (N := 80) (vs := [.pointer (some ⟨g, 0, none⟩), .agg #[.int .i64 kd, .int .i64 ((k : Nat) : Int), .int .i64 id, .int .i64 bd, .int .i64 he, .int .i64 hn]]) Try.func146 rfl rfl rfl ?_
  refine wC_sub (l' := [(0, .pointer (some ⟨g, 0, none⟩)), (1, .agg #[.int .i64 kd, .int .i64 ((k : Nat) : Int), .int .i64 id, .int .i64 bd, .int .i64 he, .int .i64 hn])]) ⟨rfl, rfl, trivial⟩ ?_
  refine wC_seq ?_
  refine wC_region ?_
  refine wL_new (V := fun b => .pointer (some ⟨b, 0, none⟩)) (row := #[.int .i64 kd, .int .i64 ((k : Nat) : Int), .int .i64 id, .int .i64 bd, .int .i64 he, .int .i64 hn]) (t := 37) S (wn rfl) rfl rfl (d_box rfl rfl rfl) ?_
  intro b1 w2 S3
  clear S
  refine wL_new (V := fun b => .pointer (some ⟨b, 0, none⟩)) (row := #[.int .i64 0, .int .i64 0, .int .i64 0, .int .i64 0]) (t := 93) S3 (wn rfl) rfl rfl (d_alloc rfl (Try.zeroValue93 _) rfl) ?_
  intro b4 w5 S6
  clear S3
  refine wL_val (v := .bool false) (wn rfl) rfl rfl (y_assign rfl rfl) ?_
  refine wL_nil ?_
  refine wQ_sub (l' := [(0, _), (4, _), (5, _)]) ⟨rfl, rfl, rfl, trivial⟩ ?_
  refine wQ_then ?_
  refine wC_seq ?_
  refine wC_block ?_
  refine wC_seq ?_
  refine wC_region ?_
  refine wL_val (v := .pointer (some ⟨g, 0, none⟩)) (wn rfl) rfl rfl (y_move rfl rfl) ?_
  refine wL_val (v := .pointer (some ⟨g, 0, none⟩)) (wn rfl) rfl rfl (y_nil rfl rfl trivial) ?_
  refine wL_val (v := .pointer (some ⟨g, 0, none⟩)) (wn rfl) rfl rfl (y_fieldAddr rfl rfl (fa190_0 _ _ _)) ?_
  refine wL_val (v := .pointer (some ⟨g, 3, none⟩)) (wn rfl) rfl rfl (y_fieldAddr rfl rfl (fa29_3 _ _ _)) ?_
  refine wL_val (v := .slice A1 rs.length c1) (wn rfl) rfl rfl (y_load rfl rfl (r_load Try.underlying22 rfl (St.cl 2 S6 rfl qRow_g3))) ?_
  refine wL_val (v := .int .i64 ((rs.length : Nat) : Int)) (wn rfl) rfl rfl (y_builtin (vs := [.slice A1 rs.length c1]) rfl ⟨rfl, trivial⟩ fun _ => r_len rfl Try.underlying22) ?_
  by_cases h1 : rs.length = 0
  · refine wL_val (v := .bool true) (wn rfl) rfl rfl (y_binop rfl rfl rfl (r_eql_t (by omega))) ?_
    refine wL_val (v := .bool true) (wn rfl) rfl rfl (y_assign rfl rfl) ?_
    refine wL_nil ?_
    refine wQ_sub (l' := [(0, _), (4, _), (5, _), (7, _)]) ⟨rfl, rfl, rfl, rfl, trivial⟩ ?_
    refine wQ_then ?_
    refine wC_cond_t rfl ?_
    refine wC_seq ?_
    refine wC_region ?_
    refine wL_val (v := .agg #[.int .i64 10, .int .i64 0, .int .i64 0, .int .i64 0]) (wn rfl) rfl rfl (y_build (vs := [(0, .int .i64 10)]) rfl ⟨rfl, rfl, trivial⟩ (by kernel_rfl)) ?_
    refine wL_st (cs := #[.int .i64 10, .int .i64 0, .int .i64 0, .int .i64 0]) (row' := #[.int .i64 10, .int .i64 0, .int .i64 0, .int .i64 0]) (fs' := ((.blk b4 #[.int .i64 10, .int .i64 0, .int .i64 0, .int .i64 0] 93) :: _ :: _ :: _ :: _ :: fs)) 0 S6 (wn rfl) rfl rfl rfl rfl rfl rfl inf93 rfl (oneAll rfl) (Nat.le_of_ble_eq_true rfl) (setAll_all rfl) rfl ?_
    intro w7 S8
    clear S6
    refine wL_val (v := .bool false) (wn rfl) rfl rfl (y_assign rfl rfl) ?_
    refine wL_nil ?_
    refine wQ_sub (l' := [(4, _), (5, _)]) ⟨rfl, rfl, trivial⟩ ?_
    refine wQ_then ?_
    refine wC_ret ?_
    refine wQ_blk_ret ?_
    refine wQ_then_ret ?_
    refine wQ_post (rs := [.cell 4 93, .tmp 5]) (vs := [.agg #[.int .i64 10, .int .i64 0, .int .i64 0, .int .i64 0], .bool false]) rfl ⟨⟨_, rfl, res_row 0 S8 rfl Try.underlying93 rfl inf93⟩, rfl, trivial⟩ ?_
    have S9 : St B w0 w7 (_ :: _ :: _ :: fs) := (St.del 0 (St.del 1 S8))
    clear S8
    have S10 := S9.sealAll 1 rfl
    clear S9
    change St _ _ _ (_ :: (.rdo 2 A1 rs.length ((rs).flatMap Msg.cells)) :: _ :: fs) at S10
    have S11 := S10.sealAll 2 rfl
    clear S10
    change St _ _ _ (_ :: _ :: (.rdo 4 A2 ls.length ((ls).flatMap Ls.cells)) :: fs) at S11
    rw [rec_none h1]
    refine ⟨rfl, A1, c1, A2, c2, ?_⟩
    dsimp only
    exact S11
  · refine wL_val (v := .bool false) (wn rfl) rfl rfl (y_binop rfl rfl rfl (r_eql_f (by omega))) ?_
    refine wL_val (v := .bool false) (wn rfl) rfl rfl (y_assign rfl rfl) ?_
    refine wL_nil ?_
    refine wQ_sub (l' := [(0, _), (4, _), (5, _), (7, _)]) ⟨rfl, rfl, rfl, rfl, trivial⟩ ?_
    refine wQ_then ?_
    refine wC_cond_f rfl ?_
    refine wC_seq ?_
    refine wC_region ?_
    refine wL_val (v := .pointer (some ⟨g, 0, none⟩)) (wn rfl) rfl rfl (y_move rfl rfl) ?_
    refine wL_val (v := .pointer (some ⟨g, 0, none⟩)) (wn rfl) rfl rfl (y_nil rfl rfl trivial) ?_
    refine wL_val (v := .pointer (some ⟨g, 0, none⟩)) (wn rfl) rfl rfl (y_fieldAddr rfl rfl (fa190_0 _ _ _)) ?_
    refine wL_val (v := .pointer (some ⟨g, 2, none⟩)) (wn rfl) rfl rfl (y_fieldAddr rfl rfl (fa29_2 _ _ _)) ?_
    refine wL_val (v := .int .i64 gv) (wn rfl) rfl rfl (y_load rfl rfl (r_load Try.underlying3 rfl (St.cl 2 S6 rfl qRow_g2))) ?_
    by_cases h2 : gv = 1073741824
    · refine wL_val (v := .bool true) (wn rfl) rfl rfl (y_binop rfl rfl rfl (r_eql_t h2)) ?_
      refine wL_val (v := .bool true) (wn rfl) rfl rfl (y_assign rfl rfl) ?_
      refine wL_nil ?_
      refine wQ_sub (l' := [(0, _), (4, _), (5, _), (16, _)]) ⟨rfl, rfl, rfl, rfl, trivial⟩ ?_
      refine wQ_then ?_
      refine wC_cond_t rfl ?_
      refine wC_seq ?_
      refine wC_region ?_
      refine wL_val (v := .agg #[.int .i64 14, .int .i64 0, .int .i64 0, .int .i64 0]) (wn rfl) rfl rfl (y_build (vs := [(0, .int .i64 14)]) rfl ⟨rfl, rfl, trivial⟩ (by kernel_rfl)) ?_
      refine wL_st (cs := #[.int .i64 14, .int .i64 0, .int .i64 0, .int .i64 0]) (row' := #[.int .i64 14, .int .i64 0, .int .i64 0, .int .i64 0]) (fs' := ((.blk b4 #[.int .i64 14, .int .i64 0, .int .i64 0, .int .i64 0] 93) :: _ :: _ :: _ :: _ :: fs)) 0 S6 (wn rfl) rfl rfl rfl rfl rfl rfl inf93 rfl (oneAll rfl) (Nat.le_of_ble_eq_true rfl) (setAll_all rfl) rfl ?_
      intro w12 S13
      clear S6
      refine wL_val (v := .bool false) (wn rfl) rfl rfl (y_assign rfl rfl) ?_
      refine wL_nil ?_
      refine wQ_sub (l' := [(4, _), (5, _)]) ⟨rfl, rfl, trivial⟩ ?_
      refine wQ_then ?_
      refine wC_ret ?_
      refine wQ_blk_ret ?_
      refine wQ_then_ret ?_
      refine wQ_post (rs := [.cell 4 93, .tmp 5]) (vs := [.agg #[.int .i64 14, .int .i64 0, .int .i64 0, .int .i64 0], .bool false]) rfl ⟨⟨_, rfl, res_row 0 S13 rfl Try.underlying93 rfl inf93⟩, rfl, trivial⟩ ?_
      have S14 : St B w0 w12 (_ :: _ :: _ :: fs) := (St.del 0 (St.del 1 S13))
      clear S13
      have S15 := S14.sealAll 1 rfl
      clear S14
      change St _ _ _ (_ :: (.rdo 2 A1 rs.length ((rs).flatMap Msg.cells)) :: _ :: fs) at S15
      have S16 := S15.sealAll 2 rfl
      clear S15
      change St _ _ _ (_ :: _ :: (.rdo 4 A2 ls.length ((ls).flatMap Ls.cells)) :: fs) at S16
      rw [rec_full h1 h2]
      refine ⟨rfl, A1, c1, A2, c2, ?_⟩
      dsimp only
      exact S16
    · refine wL_val (v := .bool false) (wn rfl) rfl rfl (y_binop rfl rfl rfl (r_eql_f h2)) ?_
      refine wL_val (v := .bool false) (wn rfl) rfl rfl (y_assign rfl rfl) ?_
      refine wL_nil ?_
      refine wQ_sub (l' := [(0, _), (4, _), (5, _), (16, _)]) ⟨rfl, rfl, rfl, rfl, trivial⟩ ?_
      refine wQ_then ?_
      refine wC_cond_f rfl ?_
      refine wC_skip ?_
      refine wQ_blk_n ?_
      refine wQ_then ?_
      refine wC_seq ?_
      have S17 := S6.drew
      clear S6
      refine wC_head (C := fun w' => St B w0 w' ((.blk b4 #[.int .i64 0, .int .i64 0, .int .i64 0, .int .i64 0] 93) :: (.blk b1 #[.int .i64 kd, .int .i64 ((k : Nat) : Int), .int .i64 id, .int .i64 bd, .int .i64 he, .int .i64 hn] 37) :: (.blk g (qRow ep nx gv (.slice A1 rs.length c1) (.slice A2 ls.length c2) W) 190) :: (.own 137 2 (.slice A1 rs.length c1) rs.length ((rs).flatMap Msg.cells)) :: (.own 141 4 (.slice A2 ls.length c2) ls.length ((ls).flatMap Ls.cells)) :: fs)) (m := 21) (listed := #[false, false, false, false, false, false, false, false, false, false, false, false, false, false, false, false, false, false, false, false, false]) 20 mixed rfl rfl ?_
      refine wG_take (v := .pointer (some ⟨g, 0, none⟩)) (i := 0) (m := 20) (listed' := #[true, false, false, false, false, false, false, false, false, false, false, false, false, false, false, false, false, false, false, false, false]) rfl (by kernel_rfl) (by kernel_rfl) (by kernel_rfl) rfl (by kernel_rfl) rfl S17 rfl (wn rfl) rfl rfl (fun _ _ => (y_move rfl rfl)) ?_
      refine wG_take (v := .pointer (some ⟨g, 0, none⟩)) (i := 1) (m := 19) (listed' := #[true, true, false, false, false, false, false, false, false, false, false, false, false, false, false, false, false, false, false, false, false]) rfl (by kernel_rfl) (by kernel_rfl) (by kernel_rfl) rfl (by kernel_rfl) rfl S17 rfl (wn rfl) rfl rfl (fun _ _ => (y_nil rfl rfl trivial)) ?_
      refine wG_take (v := .pointer (some ⟨g, 0, none⟩)) (i := 2) (m := 18) (listed' := #[true, true, true, false, false, false, false, false, false, false, false, false, false, false, false, false, false, false, false, false, false]) rfl (by kernel_rfl) (by kernel_rfl) (by kernel_rfl) rfl (by kernel_rfl) rfl S17 rfl (wn rfl) rfl rfl (fun _ _ => (y_fieldAddr rfl rfl (fa190_0 _ _ _))) ?_
      refine wG_take (v := .pointer (some ⟨g, 0, none⟩)) (i := 3) (m := 17) (listed' := #[true, true, true, true, false, false, false, false, false, false, false, false, false, false, false, false, false, false, false, false, false]) rfl (by kernel_rfl) (by kernel_rfl) (by kernel_rfl) rfl (by kernel_rfl) rfl S17 rfl (wn rfl) rfl rfl (fun _ _ => (y_fieldAddr rfl rfl (fa29_0 _ _ _))) ?_
      refine wG_take (v := .int .i64 ep) (i := 4) (m := 16) (listed' := #[true, true, true, true, true, false, false, false, false, false, false, false, false, false, false, false, false, false, false, false, false]) rfl (by kernel_rfl) (by kernel_rfl) (by kernel_rfl) rfl (by kernel_rfl) rfl S17 rfl (wn rfl) rfl rfl (fun _ Sx22 => (y_load rfl rfl (r_load Try.underlying3 rfl (St.cl 2 Sx22 rfl qRow_g0)))) ?_
      refine wG_take (v := .pointer (some ⟨g, 0, none⟩)) (i := 5) (m := 15) (listed' := #[true, true, true, true, true, true, false, false, false, false, false, false, false, false, false, false, false, false, false, false, false]) rfl (by kernel_rfl) (by kernel_rfl) (by kernel_rfl) rfl (by kernel_rfl) rfl S17 rfl (wn rfl) rfl rfl (fun _ _ => (y_move rfl rfl)) ?_
      refine wG_take (v := .pointer (some ⟨g, 0, none⟩)) (i := 6) (m := 14) (listed' := #[true, true, true, true, true, true, true, false, false, false, false, false, false, false, false, false, false, false, false, false, false]) rfl (by kernel_rfl) (by kernel_rfl) (by kernel_rfl) rfl (by kernel_rfl) rfl S17 rfl (wn rfl) rfl rfl (fun _ _ => (y_nil rfl rfl trivial)) ?_
      refine wG_take (v := .pointer (some ⟨g, 0, none⟩)) (i := 7) (m := 13) (listed' := #[true, true, true, true, true, true, true, true, false, false, false, false, false, false, false, false, false, false, false, false, false]) rfl (by kernel_rfl) (by kernel_rfl) (by kernel_rfl) rfl (by kernel_rfl) rfl S17 rfl (wn rfl) rfl rfl (fun _ _ => (y_fieldAddr rfl rfl (fa190_0 _ _ _))) ?_
      refine wG_take (v := .pointer (some ⟨g, 2, none⟩)) (i := 8) (m := 12) (listed' := #[true, true, true, true, true, true, true, true, true, false, false, false, false, false, false, false, false, false, false, false, false]) rfl (by kernel_rfl) (by kernel_rfl) (by kernel_rfl) rfl (by kernel_rfl) rfl S17 rfl (wn rfl) rfl rfl (fun _ _ => (y_fieldAddr rfl rfl (fa29_2 _ _ _))) ?_
      refine wG_take (v := .int .i64 gv) (i := 9) (m := 11) (listed' := #[true, true, true, true, true, true, true, true, true, true, false, false, false, false, false, false, false, false, false, false, false]) rfl (by kernel_rfl) (by kernel_rfl) (by kernel_rfl) rfl (by kernel_rfl) rfl S17 rfl (wn rfl) rfl rfl (fun _ Sx27 => (y_load rfl rfl (r_load Try.underlying3 rfl (St.cl 2 Sx27 rfl qRow_g2)))) ?_
      refine wG_take (v := .agg #[.int .i64 ep, .int .i64 gv]) (i := 10) (m := 10) (listed' := #[true, true, true, true, true, true, true, true, true, true, true, false, false, false, false, false, false, false, false, false, false]) rfl (by kernel_rfl) (by kernel_rfl) (by kernel_rfl) rfl (by kernel_rfl) rfl S17 rfl (wn rfl) rfl rfl (fun _ _ => (y_build (vs := [(0, .int .i64 ep), (1, .int .i64 gv)]) rfl ⟨rfl, rfl, rfl, rfl, trivial⟩ (by kernel_rfl))) ?_
      refine wG_take (v := .pointer (some ⟨g, 0, none⟩)) (i := 11) (m := 9) (listed' := #[true, true, true, true, true, true, true, true, true, true, true, true, false, false, false, false, false, false, false, false, false]) rfl (by kernel_rfl) (by kernel_rfl) (by kernel_rfl) rfl (by kernel_rfl) rfl S17 rfl (wn rfl) rfl rfl (fun _ _ => (y_move rfl rfl)) ?_
      refine wG_take (v := .pointer (some ⟨g, 0, none⟩)) (i := 12) (m := 8) (listed' := #[true, true, true, true, true, true, true, true, true, true, true, true, true, false, false, false, false, false, false, false, false]) rfl (by kernel_rfl) (by kernel_rfl) (by kernel_rfl) rfl (by kernel_rfl) rfl S17 rfl (wn rfl) rfl rfl (fun _ _ => (y_nil rfl rfl trivial)) ?_
      refine wG_take (v := .pointer (some ⟨g, 0, none⟩)) (i := 13) (m := 7) (listed' := #[true, true, true, true, true, true, true, true, true, true, true, true, true, true, false, false, false, false, false, false, false]) rfl (by kernel_rfl) (by kernel_rfl) (by kernel_rfl) rfl (by kernel_rfl) rfl S17 rfl (wn rfl) rfl rfl (fun _ _ => (y_fieldAddr rfl rfl (fa190_0 _ _ _))) ?_
      refine wG_take (v := .pointer (some ⟨g, 3, none⟩)) (i := 14) (m := 6) (listed' := #[true, true, true, true, true, true, true, true, true, true, true, true, true, true, true, false, false, false, false, false, false]) rfl (by kernel_rfl) (by kernel_rfl) (by kernel_rfl) rfl (by kernel_rfl) rfl S17 rfl (wn rfl) rfl rfl (fun _ _ => (y_fieldAddr rfl rfl (fa29_3 _ _ _))) ?_
      refine wG_take (v := .slice A1 rs.length c1) (i := 15) (m := 5) (listed' := #[true, true, true, true, true, true, true, true, true, true, true, true, true, true, true, true, false, false, false, false, false]) rfl (by kernel_rfl) (by kernel_rfl) (by kernel_rfl) rfl (by kernel_rfl) rfl S17 rfl (wn rfl) rfl rfl (fun _ Sx33 => (y_load rfl rfl (r_load Try.underlying22 rfl (St.cl 2 Sx33 rfl qRow_g3)))) ?_
      obtain ⟨b34, o35, rfl⟩ := Rd.addr (St.ord 3 S17 rfl) (by omega)
      obtain ⟨x36, hx37⟩ : ∃ x, (rs)[0]? = some x := ⟨_, List.getElem?_eq_getElem (by have := (St.ord 3 S17 rfl).1; rw [fm_len (sz := 2) (fun _ => rfl)] at this; omega)⟩
      refine wG_take (v := .pointer (some ⟨b34, o35 + 0 * 2, none⟩)) (i := 16) (m := 4) (listed' := #[true, true, true, true, true, true, true, true, true, true, true, true, true, true, true, true, true, false, false, false, false]) rfl (by kernel_rfl) (by kernel_rfl) (by kernel_rfl) rfl (by kernel_rfl) rfl S17 rfl (wn rfl) rfl rfl (fun _ _ => (y_indexAddr rfl rfl rfl (r_indexAddr 0 Try.underlying22 inf137 (by omega) (by omega)))) ?_
      refine wG_take (v := .agg #[.int .i64 x36.no, .int .i64 x36.body]) (i := 17) (m := 3) (listed' := #[true, true, true, true, true, true, true, true, true, true, true, true, true, true, true, true, true, true, false, false, false]) rfl (by kernel_rfl) (by kernel_rfl) (by kernel_rfl) rfl (by kernel_rfl) rfl S17 rfl (wn rfl) rfl rfl (fun _ Sx39 => (y_load rfl rfl (r_load_agg (cs := Msg.cells x36) Try.underlying137 rfl inf137 rfl (Rd.rg2 (St.ord 3 Sx39 rfl) (fun _ _ h => fm_get (enc := Msg.cells) (sz := 2) (fun _ => rfl) hx37 h))))) ?_
      refine wG_take (v := .agg #[.int .i64 ep, .int .i64 gv, .int .i64 x36.no, .int .i64 x36.body]) (i := 18) (m := 2) (listed' := #[true, true, true, true, true, true, true, true, true, true, true, true, true, true, true, true, true, true, true, false, false]) rfl (by kernel_rfl) (by kernel_rfl) (by kernel_rfl) rfl (by kernel_rfl) rfl S17 rfl (wn rfl) rfl rfl (fun _ _ => (y_build (vs := [(0, .agg #[.int .i64 ep, .int .i64 gv]), (1, .agg #[.int .i64 x36.no, .int .i64 x36.body])]) rfl ⟨rfl, rfl, rfl, rfl, trivial⟩ (by kernel_rfl))) ?_
      refine wG_one (m := 1) (r := 19) (by kernel_rfl) ?_
      refine wH_new (i := 19) (listed' := #[true, true, true, true, true, true, true, true, true, true, true, true, true, true, true, true, true, true, true, true, false]) rfl rfl (V := fun b => .pointer (some ⟨b, 0, none⟩)) (row := #[.int .i64 0, .int .i64 0, .int .i64 0, .int .i64 0]) (t := 141) S17 (wn rfl) rfl rfl (d_alloc rfl (Try.zeroValue141 _) rfl) ?_
      intro b41 w42 S43
      clear S17
      refine ⟨(St.del 0 S43), ?_⟩
      refine wG_tail (by kernel_rfl) rfl rfl rfl ?_
      refine wL_st (cs := #[.int .i64 ep, .int .i64 gv, .int .i64 x36.no, .int .i64 x36.body]) (row' := #[.int .i64 ep, .int .i64 gv, .int .i64 x36.no, .int .i64 x36.body]) (fs' := ((.blk b41 #[.int .i64 ep, .int .i64 gv, .int .i64 x36.no, .int .i64 x36.body] 141) :: _ :: _ :: _ :: _ :: _ :: fs)) 0 S43 (wn rfl) rfl rfl rfl rfl rfl rfl inf141 rfl (oneAll rfl) (Nat.le_of_ble_eq_true rfl) (setAll_all rfl) rfl ?_
      intro w44 S45
      clear S43
      refine wL_nil (wQ_np ?_)
      refine wQ_sub (l' := [(0, _), (4, _), (5, _), (6, _)]) ⟨rfl, rfl, rfl, rfl, trivial⟩ ?_
      refine wQ_then ?_
      refine wC_seq ?_
      refine wC_region ?_
      refine wL_val (v := .pointer (some ⟨g, 0, none⟩)) (wn rfl) rfl rfl (y_move rfl rfl) ?_
      refine wL_val (v := .pointer (some ⟨g, 0, none⟩)) (wn rfl) rfl rfl (y_move rfl rfl) ?_
      refine wL_val (v := .pointer (some ⟨g, 0, none⟩)) (wn rfl) rfl rfl (y_nil rfl rfl trivial) ?_
      refine wL_val (v := .pointer (some ⟨g, 0, none⟩)) (wn rfl) rfl rfl (y_fieldAddr rfl rfl (fa190_0 _ _ _)) ?_
      refine wL_val (v := .pointer (some ⟨g, 3, none⟩)) (wn rfl) rfl rfl (y_fieldAddr rfl rfl (fa29_3 _ _ _)) ?_
      refine wL_val (v := .slice (some ⟨b34, o35, none⟩) rs.length c1) (wn rfl) rfl rfl (y_load rfl rfl (r_load Try.underlying22 rfl (St.cl 3 S45 rfl qRow_g3))) ?_
      have hcp := own_caps (S45.own 4 rfl)
      obtain ⟨A46, hr47, hR48, hA49⟩ := slice_exw (P := Try.prog) (t := 22) (s := 2) (A := (some ⟨b34, o35, none⟩)) (n := rs.length) (c := c1) (lo := some (.int .i64 1)) (hi := none) (mx := none) (l := 1) (k := rs.length) (q := c1) Try.underlying22 inf137 (sb_l 1 rfl (by omega)) (by omega) (Nat.le_refl _) (by omega)
      refine wL_val (v := .slice A46 (rs.length - 1) (c1 - 1)) (wn rfl) rfl rfl (y_slice rfl rfl (evo_s rfl) evo_n evo_n (hr47 _)) ?_
      have S50 := S45.seal 4 rfl (rd_drop1 (hR48 _ _ _ (St.ord 4 S45 rfl))) (fun a h => hA49 a h)
      clear S45
      change St _ _ _ (_ :: _ :: _ :: _ :: (.rdo 2 A46 (rs.length - 1) ((rs.drop 1).flatMap Msg.cells)) :: _ :: fs) at S50
      refine wL_val (v := .pointer (some ⟨g, 0, none⟩)) (wn rfl) rfl rfl (y_nil rfl rfl trivial) ?_
      refine wL_val (v := .pointer (some ⟨g, 0, none⟩)) (wn rfl) rfl rfl (y_fieldAddr rfl rfl (fa190_0 _ _ _)) ?_
      refine wL_val (v := .pointer (some ⟨g, 3, none⟩)) (wn rfl) rfl rfl (y_fieldAddr rfl rfl (fa29_3 _ _ _)) ?_
      refine wL_st (cs := #[.slice A46 (rs.length - 1) (c1 - 1)]) (row' := qRow ep nx gv (.slice A46 (rs.length - 1) (c1 - 1)) (.slice A2 ls.length c2) W) (fs' := (_ :: _ :: _ :: (.blk g (qRow ep nx gv (.slice A46 (rs.length - 1) (c1 - 1)) (.slice A2 ls.length c2) W) 190) :: _ :: _ :: fs)) 3 S50 (wn rfl) rfl rfl rfl rfl rfl rfl inf22 rfl (oneAll rfl) (Nat.le_of_ble_eq_true rfl) qRow_s3 rfl ?_
      intro w51 S52
      clear S50
      refine wL_nil ?_
      refine wQ_sub (l' := [(0, _), (4, _), (5, _), (6, _)]) ⟨rfl, rfl, rfl, rfl, trivial⟩ ?_
      refine wQ_then ?_
      refine wC_seq ?_
      have S53 := S52.drew
      clear S52
      refine wC_head (C := fun w' => St B w0 w' ((.blk b41 #[.int .i64 ep, .int .i64 gv, .int .i64 x36.no, .int .i64 x36.body] 141) :: (.blk b4 #[.int .i64 0, .int .i64 0, .int .i64 0, .int .i64 0] 93) :: (.blk b1 #[.int .i64 kd, .int .i64 ((k : Nat) : Int), .int .i64 id, .int .i64 bd, .int .i64 he, .int .i64 hn] 37) :: (.blk g (qRow ep nx gv (.slice A46 (rs.length - 1) (c1 - 1)) (.slice A2 ls.length c2) W) 190) :: (.rdo 2 A46 (rs.length - 1) ((rs.drop 1).flatMap Msg.cells)) :: fs)) (m := 13) (listed := #[false, false, false, false, false, false, false, false, false, false, false, false, false]) 9 mixed rfl rfl ?_
      refine wG_take (v := .pointer (some ⟨g, 0, none⟩)) (i := 0) (m := 12) (listed' := #[true, false, false, false, false, false, false, false, false, false, false, false, false]) rfl (by kernel_rfl) (by kernel_rfl) (by kernel_rfl) rfl (by kernel_rfl) rfl (St.del 5 S53) rfl (wn rfl) rfl rfl (fun _ _ => (y_move rfl rfl)) ?_
      refine wG_take (v := .pointer (some ⟨g, 0, none⟩)) (i := 1) (m := 11) (listed' := #[true, true, false, false, false, false, false, false, false, false, false, false, false]) rfl (by kernel_rfl) (by kernel_rfl) (by kernel_rfl) rfl (by kernel_rfl) rfl (St.del 5 S53) rfl (wn rfl) rfl rfl (fun _ _ => (y_move rfl rfl)) ?_
      refine wG_take (v := .pointer (some ⟨g, 0, none⟩)) (i := 2) (m := 10) (listed' := #[true, true, true, false, false, false, false, false, false, false, false, false, false]) rfl (by kernel_rfl) (by kernel_rfl) (by kernel_rfl) rfl (by kernel_rfl) rfl (St.del 5 S53) rfl (wn rfl) rfl rfl (fun _ _ => (y_nil rfl rfl trivial)) ?_
      refine wG_take (v := .pointer (some ⟨g, 0, none⟩)) (i := 3) (m := 9) (listed' := #[true, true, true, true, false, false, false, false, false, false, false, false, false]) rfl (by kernel_rfl) (by kernel_rfl) (by kernel_rfl) rfl (by kernel_rfl) rfl (St.del 5 S53) rfl (wn rfl) rfl rfl (fun _ _ => (y_fieldAddr rfl rfl (fa190_0 _ _ _))) ?_
      refine wG_take (v := .pointer (some ⟨g, 4, none⟩)) (i := 4) (m := 8) (listed' := #[true, true, true, true, true, false, false, false, false, false, false, false, false]) rfl (by kernel_rfl) (by kernel_rfl) (by kernel_rfl) rfl (by kernel_rfl) rfl (St.del 5 S53) rfl (wn rfl) rfl rfl (fun _ _ => (y_fieldAddr rfl rfl (fa29_4 _ _ _))) ?_
      refine wG_take (v := .slice A2 ls.length c2) (i := 5) (m := 7) (listed' := #[true, true, true, true, true, true, false, false, false, false, false, false, false]) rfl (by kernel_rfl) (by kernel_rfl) (by kernel_rfl) rfl (by kernel_rfl) rfl (St.del 5 S53) rfl (wn rfl) rfl rfl (fun _ Sx59 => (y_load rfl rfl (r_load Try.underlying23 rfl (St.cl 3 Sx59 rfl qRow_g4)))) ?_
      refine wG_take (v := .agg #[.int .i64 ep, .int .i64 gv, .int .i64 x36.no, .int .i64 x36.body]) (i := 6) (m := 6) (listed' := #[true, true, true, true, true, true, true, false, false, false, false, false, false]) rfl (by kernel_rfl) (by kernel_rfl) (by kernel_rfl) rfl (by kernel_rfl) rfl (St.del 5 S53) rfl (wn rfl) rfl rfl (fun _ Sx60 => (y_load rfl rfl (r_load_row 0 Sx60 rfl Try.underlying141 rfl inf141 rfl))) ?_
      refine wG_one (m := 5) (r := 7) (by kernel_rfl) ?_
      refine wH_new (i := 7) (listed' := #[true, true, true, true, true, true, true, true, false, false, false, false, false]) rfl rfl (V := fun b => .slice (some ⟨b, 0, none⟩) 1 1) (row := #[.int .i64 ep, .int .i64 gv, .int .i64 x36.no, .int .i64 x36.body]) (t := 141) S53 (wn rfl) rfl rfl (d_buildSlice (vs := [(0, .agg #[.int .i64 ep, .int .i64 gv, .int .i64 x36.no, .int .i64 x36.body])]) rfl ⟨rfl, rfl, trivial⟩ (by kernel_rfl)) ?_
      intro b61 w62 S63
      clear S53
      refine ⟨(St.del 0 (St.del 6 S63)), ?_⟩
      refine wG_one (m := 4) (r := 8) (by kernel_rfl) ?_
      refine wH_append (i := 8) (listed' := #[true, true, true, true, true, true, true, true, true, false, false, false, false]) rfl rfl (news := [.int .i64 ep, .int .i64 gv, .int .i64 x36.no, .int .i64 x36.body]) (xs' := (ls ++ [(⟨ep, gv, x36⟩ : Ls)]).flatMap Ls.cells) 6 S63 (wn rfl) rfl rfl rfl rfl rfl rfl (St.bld (xs := [.int .i64 ep, .int .i64 gv, .int .i64 x36.no, .int .i64 x36.body]) 0 S63 rfl rfl rfl) Try.underlying23 infz141 rfl (by decide) (oneAll rfl) (by simp only [maxLen]; omega) (by omega) (fm_snoc (enc := Ls.cells) rfl rfl) ?_
      intro A64 c65 w66 hc68 hm69 S67
      clear S63
      change St _ _ _ (_ :: _ :: _ :: _ :: _ :: _ :: (.own 141 4 (.slice A64 (ls.length + 1) c65) (ls.length + 1) ((ls ++ [(⟨ep, gv, x36⟩ : Ls)]).flatMap Ls.cells)) :: fs) at S67
      refine ⟨(St.del 0 (St.del 6 S67)), ?_⟩
      refine wG_tail (by kernel_rfl) rfl rfl rfl ?_
      refine wL_val (v := .pointer (some ⟨g, 0, none⟩)) (wn rfl) rfl rfl (y_nil rfl rfl trivial) ?_
      refine wL_val (v := .pointer (some ⟨g, 0, none⟩)) (wn rfl) rfl rfl (y_fieldAddr rfl rfl (fa190_0 _ _ _)) ?_
      refine wL_val (v := .pointer (some ⟨g, 4, none⟩)) (wn rfl) rfl rfl (y_fieldAddr rfl rfl (fa29_4 _ _ _)) ?_
      refine wL_st (cs := #[.slice A64 (ls.length + 1) c65]) (row' := qRow ep nx gv (.slice A46 (rs.length - 1) (c1 - 1)) (.slice A64 (ls.length + 1) c65) W) (fs' := (_ :: _ :: _ :: _ :: (.blk g (qRow ep nx gv (.slice A46 (rs.length - 1) (c1 - 1)) (.slice A64 (ls.length + 1) c65) W) 190) :: _ :: _ :: fs)) 4 S67 (wn rfl) rfl rfl rfl rfl rfl rfl inf23 rfl (oneAll rfl) (Nat.le_of_ble_eq_true rfl) qRow_s4 rfl ?_
      intro w70 S71
      clear S67
      refine wL_nil (wQ_np ?_)
      refine wQ_sub (l' := [(0, _), (4, _), (5, _), (6, _)]) ⟨rfl, rfl, rfl, rfl, trivial⟩ ?_
      refine wQ_then ?_
      refine wC_seq ?_
      refine wC_region ?_
      refine wL_val (v := .pointer (some ⟨g, 0, none⟩)) (wn rfl) rfl rfl (y_move rfl rfl) ?_
      refine wL_val (v := .pointer (some ⟨g, 0, none⟩)) (wn rfl) rfl rfl (y_nil rfl rfl trivial) ?_
      refine wL_val (v := .pointer (some ⟨g, 0, none⟩)) (wn rfl) rfl rfl (y_fieldAddr rfl rfl (fa190_0 _ _ _)) ?_
      refine wL_val (v := .pointer (some ⟨g, 2, none⟩)) (wn rfl) rfl rfl (y_fieldAddr rfl rfl (fa29_2 _ _ _)) ?_
      refine wL_val (v := .int .i64 gv) (wn rfl) rfl rfl (y_load rfl rfl (r_load Try.underlying3 rfl (St.cl 4 S71 rfl qRow_g2))) ?_
      refine wL_val (v := .int .i64 (gv + 1)) (wn rfl) rfl rfl (y_binop rfl rfl rfl (r_add (by omega) (by omega))) ?_
      refine wL_val (v := .pointer (some ⟨g, 0, none⟩)) (wn rfl) rfl rfl (y_nil rfl rfl trivial) ?_
      refine wL_val (v := .pointer (some ⟨g, 0, none⟩)) (wn rfl) rfl rfl (y_fieldAddr rfl rfl (fa190_0 _ _ _)) ?_
      refine wL_val (v := .pointer (some ⟨g, 2, none⟩)) (wn rfl) rfl rfl (y_fieldAddr rfl rfl (fa29_2 _ _ _)) ?_
      refine wL_st (cs := #[.int .i64 (gv + 1)]) (row' := qRow ep nx (gv + 1) (.slice A46 (rs.length - 1) (c1 - 1)) (.slice A64 (ls.length + 1) c65) W) (fs' := (_ :: _ :: _ :: _ :: (.blk g (qRow ep nx (gv + 1) (.slice A46 (rs.length - 1) (c1 - 1)) (.slice A64 (ls.length + 1) c65) W) 190) :: _ :: _ :: fs)) 4 S71 (wn rfl) rfl rfl rfl rfl rfl rfl inf3 rfl (oneAll rfl) (Nat.le_of_ble_eq_true rfl) qRow_s2 rfl ?_
      intro w72 S73
      clear S71
      refine wL_nil ?_
      refine wQ_sub (l' := [(4, _), (5, _), (6, _)]) ⟨rfl, rfl, rfl, trivial⟩ ?_
      refine wQ_then ?_
      refine wC_seq ?_
      refine wC_region ?_
      refine wL_val (v := .pointer (some ⟨b41, 0, none⟩)) (wn rfl) rfl rfl (y_fieldAddr rfl rfl (fa141_0 _ _ _)) ?_
      refine wL_val (v := .agg #[.int .i64 ep, .int .i64 gv]) (wn rfl) rfl rfl (y_load rfl rfl (r_load_agg (cs := [.int .i64 ep, .int .i64 gv]) Try.underlying35 rfl inf35 rfl (St.rg 1 S73 rfl (sub_row (x := 0) (m := 2) rfl)))) ?_
      refine wL_val (v := .pointer (some ⟨b41, 2, none⟩)) (wn rfl) rfl rfl (y_fieldAddr rfl rfl (fa141_1 _ _ _)) ?_
      refine wL_val (v := .pointer (some ⟨b41, 3, none⟩)) (wn rfl) rfl rfl (y_fieldAddr rfl rfl (fa137_1 _ _ _)) ?_
      refine wL_val (v := .int .i64 x36.body) (wn rfl) rfl rfl (y_load rfl rfl (r_load Try.underlying3 rfl (St.cl 1 S73 rfl rfl))) ?_
      refine wL_val (v := .agg #[.int .i64 0, .int .i64 ep, .int .i64 gv, .int .i64 x36.body]) (wn rfl) rfl rfl (y_build (vs := [(1, .agg #[.int .i64 ep, .int .i64 gv]), (2, .int .i64 x36.body)]) rfl ⟨rfl, rfl, rfl, rfl, trivial⟩ (by kernel_rfl)) ?_
      refine wL_st (cs := #[.int .i64 0, .int .i64 ep, .int .i64 gv, .int .i64 x36.body]) (row' := #[.int .i64 0, .int .i64 ep, .int .i64 gv, .int .i64 x36.body]) (fs' := (_ :: _ :: (.blk b4 #[.int .i64 0, .int .i64 ep, .int .i64 gv, .int .i64 x36.body] 93) :: _ :: _ :: _ :: _ :: fs)) 2 S73 (wn rfl) rfl rfl rfl rfl rfl rfl inf93 rfl (oneAll rfl) (Nat.le_of_ble_eq_true rfl) (setAll_all rfl) rfl ?_
      intro w74 S75
      clear S73
      refine wL_val (v := .bool true) (wn rfl) rfl rfl (y_assign rfl rfl) ?_
      refine wL_nil ?_
      refine wQ_sub (l' := [(4, _), (5, _)]) ⟨rfl, rfl, trivial⟩ ?_
      refine wQ_then ?_
      refine wC_ret ?_
      refine wQ_post (rs := [.cell 4 93, .tmp 5]) (vs := [.agg #[.int .i64 0, .int .i64 ep, .int .i64 gv, .int .i64 x36.body], .bool true]) rfl ⟨⟨_, rfl, res_row 2 S75 rfl Try.underlying93 rfl inf93⟩, rfl, trivial⟩ ?_
      have S76 : St B w0 w74 (_ :: _ :: _ :: fs) := (St.del 0 (St.del 1 (St.del 2 (St.del 3 S75))))
      clear S75
      have S77 := S76.sealAll 2 rfl
      clear S76
      change St _ _ _ (_ :: _ :: (.rdo 4 A64 (ls.length + 1) ((ls ++ [(⟨ep, gv, x36⟩ : Ls)]).flatMap Ls.cells)) :: fs) at S77
      have hl1 : (rs.drop 1).length = rs.length - 1 := by simp
      have hl2 : (ls ++ [(⟨ep, gv, x36⟩ : Ls)]).length = ls.length + 1 := by simp
      rw [rec_ok hx37 h2]
      refine ⟨rfl, A46, (c1 - 1), A64, c65, ?_⟩
      dsimp only
      rw [hl1, hl2]
      exact S77
end Go.Proofs.Ytkjlafpafmihaaa

namespace Go.Proofs.Ytkjlafpafmihaaa
open Go.ChangeShapes Go.WideShapes Go.RowKit

/-- 'clear(s)', s a slice of one element of several cells. -/
theorem run_clear_one {P : Program} (w : World) (t e ty : TypeId) (z : Value) (ht : P.underlying t = some (.slice e)) (hv : ∀ w, (zeroValue e).run P w = .ok z w) (hz : 0 < z.cells.size) (h1 : ∀ u ∈ z.cells.toList, u.oneCell' = true) (b o c : Nat)
    (hc : ∀ j, j < z.cells.size → (w.cell? ⟨b, o + j, none⟩).isSome = true) (hf : ∀ j, j < z.cells.size → w.frozen? ⟨b, o + j, none⟩ = false) :
    (Builtin.clear_ #[t] ty #[.slice (some ⟨b, o, none⟩) 1 c]).run P w = .ok (.tuple #[]) (w.setCells b o z.cells.toList) := by
  have hzc : (Builtin.zeroCells z.cells 1).toList = z.cells.toList := by
    simp [Builtin.zeroCells]
    apply List.ext_getElem
    · simp
    · intro i h1 h2
      simp at h1
      simp [Nat.mod_eq_of_lt h1, getElem!_pos z.cells i h1]
  have hst := run_storeCells_cells (P := P) b o z.cells.toList 0 w (by simpa using hc) (by simpa using hf) h1
  simp only [Nat.add_zero] at hst
  simp [Builtin.clear_, run_underlying ht, hv, hzc, hst]

set_option maxRecDepth 100000 in
set_option maxHeartbeats 4000000 in
theorem DelLs_calls (g n c i base : Nat) (xs : List Value) (w : World) (ho : w.ownsRow base 141 4 (.slice (some ⟨g, 0, none⟩) n c) n xs) (h1 : ∀ u ∈ xs, u.oneCell' = true) (hi : i < n) :
    Calls Try.prog 177 #[.slice (some ⟨g, 0, none⟩) n c, .int .i64 i, .int .i64 ((i : Int) + 1)] w fun e w' => e = .returned (.slice (some ⟨g, 0, none⟩) (n - 1) c) ∧ Upd w g w' ∧ w'.ownsRow base 141 4 (.slice (some ⟨g, 0, none⟩) (n - 1) c) (n - 1) (xs.take (i * 4) ++ xs.drop ((i + 1) * 4)) := by
  obtain ⟨hxl, hx2⟩ := ho
  rcases hx2 with ⟨hx2, _⟩ | ⟨g', cap, cur, hv, hg, hh, hnc, hcm, hsz, htk⟩
  · cases hx2
  have hv' : g = g' ∧ c = cap := by
    simp only [Value.slice.injEq, Option.some.injEq, Addr.mk.injEq] at hv
    exact ⟨hv.1.1, hv.2.2⟩
  obtain ⟨rfl, rfl⟩ := hv'
  clear hv
  unfold maxLen at hcm
  obtain ⟨j0, hj0, zj0, zj1, zj2⟩ := info_parts (show (Try.prog.info? 141).map (fun i => (i.zero, i.size, i.bytes)) = some (some (Value.agg #[.int .i64 0, .int .i64 0, .int .i64 0, .int .i64 0]), 4, 4 * 8) by kernel_rfl)
  have hzv : ∀ w, (zeroValue 141).run Try.prog w = .ok (.agg #[.int .i64 0, .int .i64 0, .int .i64 0, .int .i64 0]) w := Try.zeroValue141
  have B0 : Blk w g cur 141 := ⟨hh⟩
  -- the cells that move to the left
  obtain ⟨news, hnews⟩ : ∃ news, news = xs.drop ((i + 1) * 4) := ⟨_, rfl⟩
  have hlen : news.length = (n - (i + 1)) * 4 := by rw [hnews, List.length_drop, hxl, Nat.sub_mul]
  have hcx : ∀ (j : Nat) (u : Value), xs[j]? = some u → cur[j]? = some u := by
    intro j u hu
    have hj : j < n * 4 := by have := (List.getElem?_eq_some_iff.1 hu).1; omega
    rw [← htk, List.getElem?_take_of_lt hj] at hu
    simpa using hu
  obtain ⟨A, hA, hsrc⟩ : ∃ A : Addr, (if c = i + 1 then some (⟨g, 0, none⟩ : Addr) else some ⟨g, (i + 1) * 4, none⟩) = some A ∧ Hid (∀ (t : Nat) (u : Value), news[t]? = some u → w.drew.cell? (A.add t) = some u) := by
    by_cases h : c = i + 1
    · refine ⟨⟨g, 0, none⟩, by simp [h], fun t u hu => ?_⟩
      have h0 : news.length = 0 := by rw [hlen]; omega
      rw [List.length_eq_zero_iff.1 h0] at hu
      simp at hu
    · refine ⟨⟨g, (i + 1) * 4, none⟩, by simp [h], fun t u hu => ?_⟩
      rw [hnews, List.getElem?_drop] at hu
      rw [Go.WideShapes.add_plain]
      exact B0.drew.cell (hcx _ _ hu)
  have s1 : Hid (news.length = (n - (i + 1)) * 4) := hlen
  have s2 : Hid (∀ u ∈ news, u.oneCell' = true) := fun u hu => h1 u (List.mem_of_mem_drop (by rw [hnews] at hu; exact hu))
  have s3 : Hid (∀ t, t < news.length → (w.drew.cell? ⟨g, 0 + i * 4 + t, none⟩).isSome = true ∧ w.drew.frozen? ⟨g, 0 + i * 4 + t, none⟩ = false) := by
    intro t ht
    rw [hlen] at ht
    have hb : 0 + i * 4 + t < cur.size := by rw [hsz]; omega
    exact ⟨by rw [B0.drew.cell (Array.getElem?_eq_getElem hb)]; rfl, B0.drew.free _⟩
  have B1 := blk_setCells news (0 + i * 4) B0.drew
  have hs1 : (setAll cur (0 + i * 4) news).size = c * 4 := by rw [setAll_size, hsz]
  have hcl : Hid (∀ ty, (Builtin.clear_ #[23] ty #[.slice (some ⟨g, (i + (n - (i + 1))) * 4, none⟩) (n - (i + (n - (i + 1)))) (c - (i + (n - (i + 1))))]).run Try.prog (w.drew.setCells g (0 + i * 4) news) = .ok (.tuple #[]) ((w.drew.setCells g (0 + i * 4) news).setCells g ((i + (n - (i + 1))) * 4) (#[.int .i64 0, .int .i64 0, .int .i64 0, .int .i64 0] : Array Value).toList)) := by
    intro ty
    rw [show n - (i + (n - (i + 1))) = 1 by omega]
    refine run_clear_one _ _ 141 ty (.agg #[.int .i64 0, .int .i64 0, .int .i64 0, .int .i64 0]) Try.underlying23 hzv (by simp [Value.cells]) (by simp [Value.cells, Value.oneCell']) g _ _ (fun j hj => ?_) (fun j hj => B1.free _)
    have hj' : j < 4 := by simpa [Value.cells] using hj
    have hb : (i + (n - (i + 1))) * 4 + j < (setAll cur (0 + i * 4) news).size := by rw [hs1]; omega
    rw [B1.cell (Array.getElem?_eq_getElem hb)]
    rfl
  have U : Upd w g ((w.drew.setCells g (0 + i * 4) news).setCells g ((i + (n - (i + 1))) * 4) (#[.int .i64 0, .int .i64 0, .int .i64 0, .int .i64 0] : Array Value).toList) := (upd_drew0 w g).trans ((upd_setCells g _ _ _).trans (upd_setCells g _ _ _))
  have B2 := blk_setCells (#[.int .i64 0, .int .i64 0, .int .i64 0, .int .i64 0] : Array Value).toList ((i + (n - (i + 1))) * 4) B1
  have hl2 : (#[.int .i64 0, .int .i64 0, .int .i64 0, .int .i64 0] : Array Value).toList.length = 4 := rfl
  have hfin : (setAll (setAll cur (0 + i * 4) news) ((i + (n - (i + 1))) * 4) (#[.int .i64 0, .int .i64 0, .int .i64 0, .int .i64 0] : Array Value).toList).toList.take ((n - 1) * 4) = xs.take (i * 4) ++ news := by
    rw [setAll_list _ _ _ (by rw [hs1, hl2]; omega), setAll_list _ _ _ (by rw [hlen, hsz]; omega)]
    have e1 : (n - 1) * 4 = (i + (n - (i + 1))) * 4 := by congr 1; omega
    have a1 : (cur.toList.take (0 + i * 4)).length = i * 4 := by simp [hsz]; omega
    rw [e1, List.append_assoc, List.take_append_of_le_length (by simp [hlen, hsz]; omega), List.take_take, Nat.min_self]
    rw [List.take_append_of_le_length (by simp [hlen, hsz]; omega), List.take_of_length_le (by simp [hlen, hsz]; omega)]
    congr 1
    rw [← htk, List.take_take, Nat.zero_add, Nat.min_eq_left (by omega)]
  have HF : Hid (((w.drew.setCells g (0 + i * 4) news).setCells g ((i + (n - (i + 1))) * 4) (#[.int .i64 0, .int .i64 0, .int .i64 0, .int .i64 0] : Array Value).toList).ownsRow base 141 4 (.slice (some ⟨g, 0, none⟩) (n - 1) c) (n - 1) (xs.take (i * 4) ++ news)) := by
    refine ⟨by rw [List.length_append, List.length_take, hlen, hxl]; omega, .inr ⟨g, c, _, rfl, hg, B2.blk, by omega, hcm, by rw [setAll_size, hs1], hfin⟩⟩
  rw [← hnews]
  have HU := Lib.hid U
  clear hnews hlen hcx B0 B1 B2 hs1 hfin U hl2 hh hsz htk hxl h1 hg zj0 zj2 hzv
  have hic : i ≤ c := by omega
  have hjc : i + 1 ≤ c := by omega
  have t1 : ((i : Int) == (i : Int) + 1) = false := by rw [beq_eq_false_iff_ne]; omega
  have t2 : 0 ≤ (i : Int) + 1 := by omega
  have t3 : (i : Int) + 1 ≤ (n : Int) := by omega
  obtain ⟨W1, hW⟩ : ∃ W1, Hid (W1 = w.drew.setCells g (0 + i * 4) news) := ⟨_, Lib.hid rfl⟩
  rw [← hW.out] at hcl HF HU
  generalize hZ : (#[.int .i64 0, .int .i64 0, .int .i64 0, .int .i64 0] : Array Value).toList = zs at hcl HF HU
  clear hZ
  have hcl := hcl.out
  go_enter Try.func177, Try.ntmps177
  go_wp2_with fail
  go_region_law (refine step_append_room rfl (.tmp 22) (.tmp 25) 23 rfl 141 j0 4 Try.underlying23 hj0 zj1 g 0 i c (by simp [Act.eval, Act.put]) A (n - (i + 1)) (c - (i + 1)) news (by simp [Act.eval, Act.put]) s1.out hsrc.out s2.out (by omega) s3.out ?_; rw [← hW.out])
  go_wp2_with fail
  go_ret
  refine ⟨?_, HU.out, HF.out⟩
  simp
  omega
end Go.Proofs.Ytkjlafpafmihaaa

namespace Go.Proofs.Ytkjlafpafmihaaa
open Go.ChangeShapes Go.WideShapes Go.RowKit

theorem hnd_flat : flat Try.prog 30 35 = some [.at_ (.int .i64), .at_ (.int .i64)] := by kernel_rfl
theorem hnd_eqOk : eqOk Try.prog 30 35 = true := by kernel_rfl
theorem hnd_mkV (xs : List Value) : mkV Try.prog 35 xs = .agg xs.toArray := by
  unfold mkV
  rw [Try.underlying35]
theorem run_eql_hnd (a b c d : Int) (w : World) : (binOp .eql 35 (.agg #[.int .i64 a, .int .i64 b]) (.agg #[.int .i64 c, .int .i64 d])).run Try.prog w = .ok (.bool (a == c && b == d)) w := by
  have h := run_eql_cells (P := Try.prog) w hnd_flat hnd_eqOk hnd_mkV (xs := [.int .i64 a, .int .i64 b]) (ys := [.int .i64 c, .int .i64 d]) ⟨⟨_, rfl⟩, ⟨_, rfl⟩, trivial⟩ ⟨⟨_, rfl⟩, ⟨_, rfl⟩, trivial⟩
  rw [show cellsEq [.int .i64 a, .int .i64 b] [.int .i64 c, .int .i64 d] = (a == c && b == d) by simp [cellsEq, cellEq]] at h
  exact h
def hmat (he hn : Int) (x : Ls) : Bool := x.hep == he && x.hno == hn
def idxLs (he hn : Int) (ls : List Ls) : Int := match ls.findIdx? (hmat he hn) with
  | some k => (k : Int)
  | none => -1
theorem idxLs_none {he hn : Int} {ls : List Ls} (h : ∀ (j : Nat) (y : Ls), j < ls.length → ls[j]? = some y → hmat he hn y = false) : idxLs he hn ls = -1 := by
  unfold idxLs
  rw [List.findIdx?_eq_none_iff.2 (fun y hy => by obtain ⟨j, hj, e⟩ := List.getElem_of_mem hy; exact h j y hj (by rw [List.getElem?_eq_getElem hj, e]))]
theorem idxLs_at {he hn : Int} {ls : List Ls} {k : Nat} {x : Ls} (h : ∀ (j : Nat) (y : Ls), j < k → ls[j]? = some y → hmat he hn y = false) (hx : ls[k]? = some x) (hm : hmat he hn x = true) : idxLs he hn ls = k := by
  unfold idxLs
  obtain ⟨hk, e⟩ := List.getElem?_eq_some_iff.1 hx
  rw [List.findIdx?_eq_some_iff_getElem.2 ⟨hk, by rw [e]; exact hm, fun j hj => by rw [h j _ hj (List.getElem?_eq_getElem (by omega))]; simp⟩]
theorem filt_none {hn : Int} {ls : List Ls} (h : ∀ x ∈ ls, ¬ x.hno = hn) : (ls.filter fun x => decide (x.hno ≠ hn)) = ls := List.filter_eq_self.2 fun x hx => by simpa using h x hx
theorem filt_one {hn : Int} {ls : List Ls} {k : Nat} {x : Ls} (hx : ls[k]? = some x) (hm : x.hno = hn) (hu : ∀ (i j : Nat) (a b : Ls), ls[i]? = some a → ls[j]? = some b → a.hno = b.hno → i = j) : (ls.filter fun x => decide (x.hno ≠ hn)) = ls.eraseIdx k := by
  obtain ⟨hk, e⟩ := List.getElem?_eq_some_iff.1 hx
  have e1 : ls = ls.take k ++ x :: ls.drop (k + 1) := by rw [← e, ← List.drop_eq_getElem_cons hk, List.take_append_drop]
  rw [List.eraseIdx_eq_take_drop_succ]
  conv => lhs; rw [e1]
  rw [List.filter_append, List.filter_cons, if_neg (by simp [hm])]
  congr 1
  · refine filt_none fun y hy hyn => ?_
    obtain ⟨j, hj, e2⟩ := List.getElem_of_mem hy
    rw [List.length_take] at hj
    have := hu j k y x (by rw [List.getElem_take] at e2; rw [← e2]; exact List.getElem?_eq_getElem (by omega)) hx (by rw [hyn, hm])
    omega
  · refine filt_none fun y hy hyn => ?_
    obtain ⟨j, hj, e2⟩ := List.getElem_of_mem hy
    rw [List.length_drop] at hj
    have := hu (k + 1 + j) k y x (by rw [List.getElem_drop] at e2; rw [← e2]; exact List.getElem?_eq_getElem (by omega)) hx (by rw [hyn, hm])
    omega

set_option maxRecDepth 100000 in
set_option maxHeartbeats 1000000 in
theorem AckC_calls (x : Ls) (b : Nat) (he hn : Int) (w : World) (h : Rd w w.heap.size 2 (some ⟨b, 4, none⟩) 1 [.int .i64 he, .int .i64 hn]) :
    Calls Try.prog 176 #[.agg #[.int .i64 x.hep, .int .i64 x.hno, .int .i64 x.msg.no, .int .i64 x.msg.body], .pointer (some ⟨b, 0, none⟩)] w (BoolB w (x.hep == he && x.hno == hn)) := by
  have S := (St.start w).addRd h
  refine calls_of_wC (N := 9) (vs := [.agg #[.int .i64 x.hep, .int .i64 x.hno, .int .i64 x.msg.no, .int .i64 x.msg.body], .pointer (some ⟨b, 0, none⟩)]) Try.func176 rfl rfl rfl ?_
  refine wC_sub (l' := [(0, .agg #[.int .i64 x.hep, .int .i64 x.hno, .int .i64 x.msg.no, .int .i64 x.msg.body]), (1, .pointer (some ⟨b, 0, none⟩))]) ⟨rfl, rfl, trivial⟩ ?_
  refine wC_seq ?_
  refine wC_region ?_
  refine wL_new (V := fun b => .pointer (some ⟨b, 0, none⟩)) (row := #[.int .i64 x.hep, .int .i64 x.hno, .int .i64 x.msg.no, .int .i64 x.msg.body]) (t := 141) S (wn rfl) rfl rfl (d_box rfl rfl rfl) ?_
  intro b1 w2 S3
  clear S
  refine wL_val (v := .bool false) (wn rfl) rfl rfl (y_assign rfl rfl) ?_
  refine wL_nil ?_
  refine wQ_sub (l' := [(1, _), (2, _), (3, _)]) ⟨rfl, rfl, rfl, trivial⟩ ?_
  refine wQ_then ?_
  refine wC_seq ?_
  refine wC_region ?_
  refine wL_val (v := .pointer (some ⟨b1, 0, none⟩)) (wn rfl) rfl rfl (y_fieldAddr rfl rfl (fa141_0 _ _ _)) ?_
  refine wL_val (v := .agg #[.int .i64 x.hep, .int .i64 x.hno]) (wn rfl) rfl rfl (y_load rfl rfl (r_load_agg (cs := [.int .i64 x.hep, .int .i64 x.hno]) Try.underlying35 rfl inf35 rfl (St.rg 0 S3 rfl (sub_row (x := 0) (m := 2) rfl)))) ?_
  refine wL_val (v := .pointer (some ⟨b, 4, none⟩)) (wn rfl) rfl rfl (y_fieldAddr rfl rfl (fa37_4 _ _ _)) ?_
  refine wL_val (v := .agg #[.int .i64 he, .int .i64 hn]) (wn rfl) rfl rfl (y_load rfl rfl (r_load_agg (cs := [.int .i64 he, .int .i64 hn]) Try.underlying35 rfl inf35 rfl (Rd.rg2 (off := 4) (j := 0) (St.rd 1 S3 rfl) (fun i u h => by rw [Nat.zero_add]; exact h)))) ?_
  refine wL_val (v := .bool (x.hep == he && x.hno == hn)) (wn rfl) rfl rfl (y_binop rfl rfl rfl (r_eqg (by kernel_rfl) (run_eql_hnd x.hep x.hno he hn _))) ?_
  refine wL_val (v := .bool (x.hep == he && x.hno == hn)) (wn rfl) rfl rfl (y_assign rfl rfl) ?_
  refine wL_nil ?_
  refine wQ_sub (l' := [(3, _)]) ⟨rfl, trivial⟩ ?_
  refine wQ_then ?_
  refine wC_ret ?_
  refine wQ_post (rs := [.tmp 3]) (vs := [.bool (x.hep == he && x.hno == hn)]) rfl ⟨rfl, trivial⟩ ?_
  exact ⟨rfl, S3.low⟩

set_option maxRecDepth 100000 in
set_option maxHeartbeats 2000000 in
theorem IdxLs_calls (A : Option Addr) (c b : Nat) (he hn : Int) (ls : List Ls) (w : World) (h : Rd w w.heap.size 4 A ls.length (ls.flatMap Ls.cells)) (h2 : Rd w w.heap.size 2 (some ⟨b, 4, none⟩) 1 [.int .i64 he, .int .i64 hn]) (hl : ls.length ≤ 500) :
    Calls Try.prog 175 #[.slice A ls.length c, .func (.func 176) #[] #[.pointer (some ⟨b, 0, none⟩)]] w (IPost w (idxLs he hn ls)) := by
  have S := ((St.start w).addRd h).addRd h2
  refine calls_of_wC (N := 19) (vs := [.slice A ls.length c, .func (.func 176) #[] #[.pointer (some ⟨b, 0, none⟩)]]) Try.func175 rfl rfl rfl ?_
  refine wC_sub (l' := [(0, .slice A ls.length c), (1, .func (.func 176) #[] #[.pointer (some ⟨b, 0, none⟩)])]) ⟨rfl, rfl, trivial⟩ ?_
  refine wC_seq ?_
  refine wC_region ?_
  refine wL_val (v := .int .i64 0) (wn rfl) rfl rfl (y_assign rfl rfl) ?_
  refine wL_nil ?_
  refine wQ_then ?_
  refine wC_seq ?_
  refine wC_seq ?_
  refine wC_region ?_
  refine wL_val (v := .slice A ls.length c) (wn rfl) rfl rfl (y_move rfl rfl) ?_
  refine wL_val (v := .int .i64 ((ls.length : Nat) : Int)) (wn rfl) rfl rfl (y_builtin (vs := [.slice A ls.length c]) rfl ⟨rfl, trivial⟩ fun _ => r_len rfl Try.underlying23) ?_
  refine wL_val (v := .int .i64 0) (wn rfl) rfl rfl (y_move rfl rfl) ?_
  refine wL_nil ?_
  refine wQ_sub (l' := [(0, _), (1, _), (4, _), (7, _), (8, _)]) ⟨rfl, rfl, rfl, rfl, rfl, trivial⟩ ?_
  refine wQ_then ?_
  refine wC_block ?_
  refine wC_loop (X := Nat) (fun xv => [(0, .slice A ls.length c), (1, .func (.func 176) #[] #[.pointer (some ⟨b, 0, none⟩)]), (4, .int .i64 0), (7, .int .i64 ((ls.length : Nat) : Int)), (8, .int .i64 ((xv : Nat) : Int))]) (fun xv wr => (xv ≤ ls.length) ∧ (∀ (j : Nat) (y : Ls), j < xv → ls[j]? = some y → hmat he hn y = false) ∧ St w.heap.size w wr [.rd 2 (some ⟨b, 4, none⟩) 1 [.int .i64 he, .int .i64 hn], .rd 4 A ls.length ((ls).flatMap Ls.cells)]) (fun xv => ls.length - xv) (0) ?_ ?_ ?_
  · exact ⟨Nat.zero_le _, fun j y hj => absurd hj (Nat.not_lt_zero _), S⟩
  · exact ⟨rfl, rfl, rfl, rfl, rfl, trivial⟩
  · rintro k w1 ⟨hi3, hi4, S2⟩
    try dsimp only at hi3 hi4 S2
    clear S
    refine wC_sub (l' := [(0, .slice A ls.length c), (1, .func (.func 176) #[] #[.pointer (some ⟨b, 0, none⟩)]), (4, .int .i64 0), (7, .int .i64 ((ls.length : Nat) : Int)), (8, .int .i64 ((k : Nat) : Int))]) ⟨rfl, rfl, rfl, rfl, rfl, trivial⟩ ?_
    refine wC_seq ?_
    refine wC_region ?_
    by_cases h5 : ((k : Nat) : Int) < ((ls.length : Nat) : Int)
    · refine wL_val (v := .bool true) (wn rfl) rfl rfl (y_binop rfl rfl rfl (r_lss_t h5)) ?_
      refine wL_nil ?_
      refine wQ_then ?_
      refine wC_seq ?_
      refine wC_cond_t rfl ?_
      refine wC_skip ?_
      refine wQ_then ?_
      refine wC_seq ?_
      refine wC_block ?_
      refine wC_seq ?_
      refine wC_region ?_
      refine wL_val (v := .int .i64 ((k : Nat) : Int)) (wn rfl) rfl rfl (y_move rfl rfl) ?_
      refine wL_val (v := .int .i64 ((k : Nat) : Int)) (wn rfl) rfl rfl (y_assign rfl rfl) ?_
      refine wL_nil ?_
      refine wQ_sub (l' := [(0, _), (1, _), (4, _), (7, _), (8, _), (5, _)]) ⟨rfl, rfl, rfl, rfl, rfl, rfl, trivial⟩ ?_
      refine wQ_then ?_
      refine wC_seq ?_
      refine wC_region ?_
      refine wL_val (v := .func (.func 176) #[] #[.pointer (some ⟨b, 0, none⟩)]) (wn rfl) rfl rfl (y_move rfl rfl) ?_
      refine wL_val (v := .slice A ls.length c) (wn rfl) rfl rfl (y_move rfl rfl) ?_
      refine wL_val (v := .int .i64 ((k : Nat) : Int)) (wn rfl) rfl rfl (y_move rfl rfl) ?_
      obtain ⟨b6, o7, rfl⟩ := Rd.addr (St.rd 1 S2 rfl) (by omega)
      obtain ⟨x8, hx9⟩ : ∃ x, (ls)[k]? = some x := ⟨_, List.getElem?_eq_getElem (by have := (St.rd 1 S2 rfl).1; rw [fm_len (sz := 4) (fun _ => rfl)] at this; omega)⟩
      refine wL_val (v := .pointer (some ⟨b6, o7 + k * 4, none⟩)) (wn rfl) rfl rfl (y_indexAddr rfl rfl rfl (r_indexAddr k Try.underlying23 inf141 (by omega) (by omega))) ?_
      refine wL_val (v := .agg #[.int .i64 x8.hep, .int .i64 x8.hno, .int .i64 x8.msg.no, .int .i64 x8.msg.body]) (wn rfl) rfl rfl (y_load rfl rfl (r_load_agg (cs := Ls.cells x8) Try.underlying141 rfl inf141 rfl (Rd.rg2 (St.rd 1 S2 rfl) (fun _ _ h => fm_get (enc := Ls.cells) (sz := 4) (fun _ => rfl) hx9 h)))) ?_
      have HC := fun w h => AckC_calls x8 b he hn w h
      cases hmt : hmat he hn x8
      · rw [show (x8.hep == he && x8.hno == hn) = false from hmt] at HC
        refine wL_call (vs := [.agg #[.int .i64 x8.hep, .int .i64 x8.hno, .int .i64 x8.msg.no, .int .i64 x8.msg.body], .pointer (some ⟨b, 0, none⟩)]) (wn rfl) rfl rfl (e_callv (first := []) (cap := [.pointer (some ⟨b, 0, none⟩)]) (vs := [.agg #[.int .i64 x8.hep, .int .i64 x8.hno, .int .i64 x8.msg.no, .int .i64 x8.msg.body]]) rfl rfl en176 ⟨rfl, trivial⟩ rfl) (HC _ (St.rd 0 S2 rfl)) ?_
        rintro _ w10 ⟨rfl, hb12⟩
        refine ⟨_, rfl, ?_⟩
        have S11 := S2.on hb12
        clear HC hb12 S2
        refine wL_nil ?_
        refine wQ_sub (l' := [(0, _), (1, _), (4, _), (7, _), (8, _), (5, _), (16, _)]) ⟨rfl, rfl, rfl, rfl, rfl, rfl, rfl, trivial⟩ ?_
        refine wQ_then ?_
        refine wC_cond_f rfl ?_
        refine wC_skip ?_
        refine wQ_blk_n ?_
        refine wQ_then ?_
        refine wC_region ?_
        refine wL_val (v := .int .i64 ((k + 1 : Nat) : Int)) (wn rfl) rfl rfl (y_binop rfl rfl rfl (r_add (by omega) (by omega))) ?_
        refine wL_val (v := .int .i64 ((k + 1 : Nat) : Int)) (wn rfl) rfl rfl (y_move rfl rfl) ?_
        refine wL_nil ?_
        refine wQ_sub (l' := [(0, _), (1, _), (4, _), (7, _), (8, _)]) ⟨rfl, rfl, rfl, rfl, rfl, trivial⟩ ?_
        refine wQ_round (k + 1) ?_ ⟨rfl, rfl, rfl, rfl, rfl, trivial⟩ (by first | omega | (dsimp only; omega))
        exact ⟨(by omega), (fun j y hj hy => (Nat.lt_succ_iff_lt_or_eq.1 hj).elim (fun h => hi4 j y h hy) (fun h => by rw [h, hx9] at hy; cases hy; exact hmt)), S11⟩
      · rw [show (x8.hep == he && x8.hno == hn) = true from hmt] at HC
        refine wL_call (vs := [.agg #[.int .i64 x8.hep, .int .i64 x8.hno, .int .i64 x8.msg.no, .int .i64 x8.msg.body], .pointer (some ⟨b, 0, none⟩)]) (wn rfl) rfl rfl (e_callv (first := []) (cap := [.pointer (some ⟨b, 0, none⟩)]) (vs := [.agg #[.int .i64 x8.hep, .int .i64 x8.hno, .int .i64 x8.msg.no, .int .i64 x8.msg.body]]) rfl rfl en176 ⟨rfl, trivial⟩ rfl) (HC _ (St.rd 0 S2 rfl)) ?_
        rintro _ w13 ⟨rfl, hb15⟩
        refine ⟨_, rfl, ?_⟩
        have S14 := S2.on hb15
        clear HC hb15 S2
        refine wL_nil ?_
        refine wQ_sub (l' := [(0, _), (1, _), (4, _), (7, _), (8, _), (5, _), (16, _)]) ⟨rfl, rfl, rfl, rfl, rfl, rfl, rfl, trivial⟩ ?_
        refine wQ_then ?_
        refine wC_cond_t rfl ?_
        refine wC_seq ?_
        refine wC_region ?_
        refine wL_val (v := .int .i64 ((k : Nat) : Int)) (wn rfl) rfl rfl (y_move rfl rfl) ?_
        refine wL_val (v := .int .i64 ((k : Nat) : Int)) (wn rfl) rfl rfl (y_assign rfl rfl) ?_
        refine wL_nil ?_
        refine wQ_sub (l' := [(4, _)]) ⟨rfl, trivial⟩ ?_
        refine wQ_then ?_
        refine wC_ret ?_
        refine wQ_blk_ret ?_
        refine wQ_then_ret ?_
        refine wQ_then_ret ?_
        refine wQ_blk_ret ?_
        refine wQ_then_ret ?_
        refine wQ_post (rs := [.tmp 4]) (vs := [.int .i64 ((k : Nat) : Int)]) rfl ⟨rfl, trivial⟩ ?_
        exact ⟨ret_int_ (idxLs_at hi4 hx9 hmt).symm, S14.low⟩
    · refine wL_val (v := .bool false) (wn rfl) rfl rfl (y_binop rfl rfl rfl (r_lss_f h5)) ?_
      refine wL_nil ?_
      refine wQ_then ?_
      refine wC_seq ?_
      refine wC_cond_f rfl ?_
      refine wC_exit ?_
      refine wQ_then_exit ?_
      refine wQ_then_exit ?_
      refine wQ_blk_same ?_
      refine wQ_then ?_
      refine wC_seq ?_
      refine wC_region ?_
      refine wL_val (v := .int .i64 (-1)) (wn rfl) rfl rfl (y_assign rfl rfl) ?_
      refine wL_nil ?_
      refine wQ_sub (l' := [(4, _)]) ⟨rfl, trivial⟩ ?_
      refine wQ_then ?_
      refine wC_ret ?_
      refine wQ_post (rs := [.tmp 4]) (vs := [.int .i64 (-1)]) rfl ⟨rfl, trivial⟩ ?_
      exact ⟨ret_int_ (idxLs_none (fun j y hj hy => hi4 j y (by omega) hy)).symm, S2.low⟩

theorem none_of {he hn : Int} {ls : List Ls} (h : ¬ ∃ (k : Nat) (x : Ls), ls[k]? = some x ∧ hmat he hn x = true ∧ ∀ (j : Nat) (y : Ls), j < k → ls[j]? = some y → hmat he hn y = false) : ∀ y ∈ ls, hmat he hn y = false := by
  intro y hy
  rcases hf : ls.findIdx? (hmat he hn) with _ | k
  · exact List.findIdx?_eq_none_iff.1 hf y hy
  · obtain ⟨hk, h1, h2⟩ := List.findIdx?_eq_some_iff_getElem.1 hf
    refine absurd ⟨k, ls[k], List.getElem?_eq_getElem hk, h1, fun j z hj hz => ?_⟩ h
    have := h2 j hj
    obtain ⟨hj', e⟩ := List.getElem?_eq_some_iff.1 hz
    rw [e] at this
    simpa using this
theorem hmat_hn {he hn : Int} {x : Ls} (h : hmat he hn x = true) : x.hno = hn := by simp [hmat] at h; exact h.2
theorem hmat_no {he hn ep : Int} {x : Ls} (h : x.hep = ep) (h1 : he = ep) (h2 : x.hno = hn) : hmat he hn x = true := by simp [hmat, h, h1, h2]

set_option maxRecDepth 100000 in
set_option maxHeartbeats 2000000 in
theorem ack_calls {B g k c1 c2 : Nat} {w0 w : World} {fs : List Fact} {A1 A2 : Option Addr} {rs : List Msg} {ls : List Ls} {W : Wins} {ep nx gv kd id bd he hn : Int} (S : St B w0 w (.blk g (qRow ep nx gv (.slice A1 rs.length c1) (.slice A2 ls.length c2) W) 190 :: .own 137 2 (.slice A1 rs.length c1) rs.length ((rs).flatMap Msg.cells) :: .own 141 4 (.slice A2 ls.length c2) ls.length ((ls).flatMap Ls.cells) :: fs)) (hk : k < 4) (hlen : rs.length + ls.length ≤ 500) (hnx : 0 ≤ nx ∧ nx ≤ 1073741824) (hgv : 0 ≤ gv ∧ gv ≤ 1073741824) (hep : 0 ≤ ep ∧ ep ≤ 1048576) (hE : ∀ x ∈ ls, x.hep = ep) (hU : ∀ (i j : Nat) (a b : Ls), ls[i]? = some a → ls[j]? = some b → a.hno = b.hno → i = j) :
    Calls Try.prog 147 #[.pointer (some ⟨g, 0, none⟩), .agg #[.int .i64 kd, .int .i64 ((k : Nat) : Int), .int .i64 id, .int .i64 bd, .int .i64 he, .int .i64 hn]] w (DeskPost B w0 g fs (ackM ⟨ep, nx, gv, rs, ls, W⟩ he hn)) := by
  refine calls_of_wC (N := 41) (vs := [.pointer (some ⟨g, 0, none⟩), .agg #[.int .i64 kd, .int .i64 ((k : Nat) : Int), .int .i64 id, .int .i64 bd, .int .i64 he, .int .i64 hn]]) Try.func147 rfl rfl rfl ?_
  refine wC_sub (l' := [(0, .pointer (some ⟨g, 0, none⟩)), (1, .agg #[.int .i64 kd, .int .i64 ((k : Nat) : Int), .int .i64 id, .int .i64 bd, .int .i64 he, .int .i64 hn])]) ⟨rfl, rfl, trivial⟩ ?_
  refine wC_seq ?_
  refine wC_region ?_
  refine wL_new (V := fun b => .pointer (some ⟨b, 0, none⟩)) (row := #[.int .i64 kd, .int .i64 ((k : Nat) : Int), .int .i64 id, .int .i64 bd, .int .i64 he, .int .i64 hn]) (t := 37) S (wn rfl) rfl rfl (d_box rfl rfl rfl) ?_
  intro b1 w2 S3
  clear S
  refine wL_new (V := fun b => .pointer (some ⟨b, 0, none⟩)) (row := #[.int .i64 0, .int .i64 0, .int .i64 0, .int .i64 0]) (t := 93) S3 (wn rfl) rfl rfl (d_alloc rfl (Try.zeroValue93 _) rfl) ?_
  intro b4 w5 S6
  clear S3
  refine wL_val (v := .bool false) (wn rfl) rfl rfl (y_assign rfl rfl) ?_
  refine wL_nil ?_
  refine wQ_sub (l' := [(0, _), (3, _), (4, _), (5, _)]) ⟨rfl, rfl, rfl, rfl, trivial⟩ ?_
  refine wQ_then ?_
  refine wC_seq ?_
  refine wC_seq ?_
  refine wC_quiet S6 mixed (by kernel_rfl) ?_
  refine wU_val (v := .pointer (some ⟨b1, 4, none⟩)) (wn rfl) rfl rfl (fun _ _ => (y_fieldAddr rfl rfl (fa37_4 _ _ _))) ?_
  refine wU_val (v := .pointer (some ⟨b1, 4, none⟩)) (wn rfl) rfl rfl (fun _ _ => (y_fieldAddr rfl rfl (fa35_0 _ _ _))) ?_
  refine wU_val (v := .int .i64 he) (wn rfl) rfl rfl (fun _ Sx9 => (y_load rfl rfl (r_load Try.underlying3 rfl (St.cl 1 Sx9 rfl rfl)))) ?_
  refine wU_val (v := .pointer (some ⟨g, 0, none⟩)) (wn rfl) rfl rfl (fun _ _ => (y_move rfl rfl)) ?_
  refine wU_val (v := .pointer (some ⟨g, 0, none⟩)) (wn rfl) rfl rfl (fun _ _ => (y_nil rfl rfl trivial)) ?_
  refine wU_val (v := .pointer (some ⟨g, 0, none⟩)) (wn rfl) rfl rfl (fun _ _ => (y_fieldAddr rfl rfl (fa190_0 _ _ _))) ?_
  refine wU_val (v := .pointer (some ⟨g, 0, none⟩)) (wn rfl) rfl rfl (fun _ _ => (y_fieldAddr rfl rfl (fa29_0 _ _ _))) ?_
  refine wU_val (v := .int .i64 ep) (wn rfl) rfl rfl (fun _ Sx14 => (y_load rfl rfl (r_load Try.underlying3 rfl (St.cl 2 Sx14 rfl qRow_g0)))) ?_
  by_cases h1 : he = ep
  · refine wU_val (v := .bool false) (wn rfl) rfl rfl (fun _ _ => (y_binop rfl rfl rfl (r_neq_f h1))) ?_
    refine wU_nil fun w16 S17 => ?_
    clear S6
    refine wQ_sub (l' := [(0, _), (3, _), (4, _), (5, _), (15, _)]) ⟨rfl, rfl, rfl, rfl, rfl, trivial⟩ ?_
    refine wQ_then ?_
    refine wC_cond_f rfl ?_
    refine wC_skip ?_
    refine wQ_then ?_
    refine wC_seq ?_
    refine wC_region ?_
    refine wL_val (v := .pointer (some ⟨g, 0, none⟩)) (wn rfl) rfl rfl (y_move rfl rfl) ?_
    refine wL_val (v := .pointer (some ⟨g, 0, none⟩)) (wn rfl) rfl rfl (y_nil rfl rfl trivial) ?_
    refine wL_val (v := .pointer (some ⟨g, 0, none⟩)) (wn rfl) rfl rfl (y_fieldAddr rfl rfl (fa190_0 _ _ _)) ?_
    refine wL_val (v := .pointer (some ⟨g, 4, none⟩)) (wn rfl) rfl rfl (y_fieldAddr rfl rfl (fa29_4 _ _ _)) ?_
    refine wL_val (v := .slice A2 ls.length c2) (wn rfl) rfl rfl (y_load rfl rfl (r_load Try.underlying23 rfl (St.cl 2 S17 rfl qRow_g4))) ?_
    refine wL_val (v := .func (.func 176) #[] #[.pointer (some ⟨b1, 0, none⟩)]) (wn rfl) rfl rfl (y_makeFunc (vs := []) (us := [.pointer (some ⟨b1, 0, none⟩)]) rfl trivial ⟨rfl, trivial⟩) ?_
    have HI := fun A c w h h2 => IdxLs_calls A c b1 he hn ls w h h2 (by omega)
    rcases Classical.em (∃ (k : Nat) (x : Ls), ls[k]? = some x ∧ hmat he hn x = true ∧ ∀ (j : Nat) (y : Ls), j < k → ls[j]? = some y → hmat he hn y = false) with ⟨kk, x, hx, hm, hbf⟩ | hno
    · rw [idxLs_at hbf hx hm] at HI
      have hkk := (List.getElem?_eq_some_iff.1 hx).1
      refine wL_call (vs := [.slice A2 ls.length c2, .func (.func 176) #[] #[.pointer (some ⟨b1, 0, none⟩)]]) (wn rfl) rfl rfl (e_call (vs := [.slice A2 ls.length c2, .func (.func 176) #[] #[.pointer (some ⟨b1, 0, none⟩)]]) rfl en175 ⟨rfl, rfl, trivial⟩) (HI _ _ _ (St.ord 4 S17 rfl) (blk_rd 1 S17 rfl rfl (fun j u h => by rcases j with _ | _ | _ <;> first | exact h | (simp at h)))) ?_
      rintro _ w18 ⟨rfl, hb20⟩
      refine ⟨_, rfl, ?_⟩
      have S19 := S17.on hb20
      clear hb20 S17
      refine wL_val (v := .int .i64 ((kk : Nat) : Int)) (wn rfl) rfl rfl (y_assign rfl rfl) ?_
      refine wL_nil ?_
      refine wQ_sub (l' := [(0, _), (3, _), (4, _), (5, _), (6, _)]) ⟨rfl, rfl, rfl, rfl, rfl, trivial⟩ ?_
      refine wQ_then ?_
      refine wC_seq ?_
      refine wC_seq ?_
      refine wC_region ?_
      refine wL_val (v := .int .i64 ((kk : Nat) : Int)) (wn rfl) rfl rfl (y_move rfl rfl) ?_
      refine wL_val (v := .bool false) (wn rfl) rfl rfl (y_binop rfl rfl rfl (r_lss_f (by omega))) ?_
      refine wL_nil ?_
      refine wQ_sub (l' := [(0, _), (3, _), (4, _), (5, _), (6, _), (25, _)]) ⟨rfl, rfl, rfl, rfl, rfl, rfl, trivial⟩ ?_
      refine wQ_then ?_
      refine wC_cond_f rfl ?_
      refine wC_skip ?_
      refine wQ_then ?_
      refine wC_seq ?_
      refine wC_region ?_
      refine wL_val (v := .pointer (some ⟨g, 0, none⟩)) (wn rfl) rfl rfl (y_move rfl rfl) ?_
      refine wL_val (v := .pointer (some ⟨g, 0, none⟩)) (wn rfl) rfl rfl (y_move rfl rfl) ?_
      refine wL_val (v := .pointer (some ⟨g, 0, none⟩)) (wn rfl) rfl rfl (y_nil rfl rfl trivial) ?_
      refine wL_val (v := .pointer (some ⟨g, 0, none⟩)) (wn rfl) rfl rfl (y_fieldAddr rfl rfl (fa190_0 _ _ _)) ?_
      refine wL_val (v := .pointer (some ⟨g, 4, none⟩)) (wn rfl) rfl rfl (y_fieldAddr rfl rfl (fa29_4 _ _ _)) ?_
      refine wL_val (v := .slice A2 ls.length c2) (wn rfl) rfl rfl (y_load rfl rfl (r_load Try.underlying23 rfl (St.cl 2 S19 rfl qRow_g4))) ?_
      refine wL_val (v := .int .i64 ((kk : Nat) : Int)) (wn rfl) rfl rfl (y_move rfl rfl) ?_
      refine wL_val (v := .int .i64 ((kk : Nat) : Int)) (wn rfl) rfl rfl (y_move rfl rfl) ?_
      refine wL_val (v := .int .i64 ((kk + 1 : Nat) : Int)) (wn rfl) rfl rfl (y_binop rfl rfl rfl (r_add (by omega) (by omega))) ?_
      obtain ⟨g2, rfl⟩ := own_some (S19.own 4 rfl) (by omega)
      refine wL_call (vs := [.slice (some ⟨g2, 0, none⟩) ls.length c2, .int .i64 ((kk : Nat) : Int), .int .i64 ((kk + 1 : Nat) : Int)]) (wn rfl) rfl rfl (e_call (vs := [.slice (some ⟨g2, 0, none⟩) ls.length c2, .int .i64 ((kk : Nat) : Int), .int .i64 ((kk + 1 : Nat) : Int)]) rfl en177 ⟨rfl, rfl, rfl, trivial⟩) (DelLs_calls g2 ls.length c2 kk _ (ls.flatMap Ls.cells) _ (S19.own 4 rfl) (lss_one _) hkk) ?_
      rintro _ w21 ⟨rfl, hu23, ho24⟩
      refine ⟨_, rfl, ?_⟩
      rw [fm_erase (enc := Ls.cells) (sz := 4) (fun _ => rfl)] at ho24
      have S22 := S19.reown 4 rfl hu23 ho24
      clear hu23 ho24 S19
      change St _ _ _ ((.blk b4 #[.int .i64 0, .int .i64 0, .int .i64 0, .int .i64 0] 93) :: (.blk b1 #[.int .i64 kd, .int .i64 ((k : Nat) : Int), .int .i64 id, .int .i64 bd, .int .i64 he, .int .i64 hn] 37) :: (.blk g (qRow ep nx gv (.slice A1 rs.length c1) (.slice (some ⟨g2, 0, none⟩) ls.length c2) W) 190) :: (.own 137 2 (.slice A1 rs.length c1) rs.length ((rs).flatMap Msg.cells)) :: (.own 141 4 (.slice (some ⟨g2, 0, none⟩) (ls.length - 1) c2) (ls.length - 1) ((ls.eraseIdx kk).flatMap Ls.cells)) :: fs) at S22
      refine wL_val (v := .pointer (some ⟨g, 0, none⟩)) (wn rfl) rfl rfl (y_nil rfl rfl trivial) ?_
      refine wL_val (v := .pointer (some ⟨g, 0, none⟩)) (wn rfl) rfl rfl (y_fieldAddr rfl rfl (fa190_0 _ _ _)) ?_
      refine wL_val (v := .pointer (some ⟨g, 4, none⟩)) (wn rfl) rfl rfl (y_fieldAddr rfl rfl (fa29_4 _ _ _)) ?_
      refine wL_st (cs := #[.slice (some ⟨g2, 0, none⟩) (ls.length - 1) c2]) (row' := qRow ep nx gv (.slice A1 rs.length c1) (.slice (some ⟨g2, 0, none⟩) (ls.length - 1) c2) W) (fs' := (_ :: _ :: (.blk g (qRow ep nx gv (.slice A1 rs.length c1) (.slice (some ⟨g2, 0, none⟩) (ls.length - 1) c2) W) 190) :: _ :: _ :: fs)) 2 S22 (wn rfl) rfl rfl rfl rfl rfl rfl inf23 rfl (oneAll rfl) (Nat.le_of_ble_eq_true rfl) qRow_s4 rfl ?_
      intro w25 S26
      clear S22
      refine wL_nil ?_
      refine wQ_sub (l' := [(3, _), (4, _), (5, _)]) ⟨rfl, rfl, rfl, trivial⟩ ?_
      refine wQ_then ?_
      refine wC_seq ?_
      refine wC_region ?_
      refine wL_val (v := .agg #[.int .i64 0, .int .i64 0, .int .i64 0, .int .i64 0]) (wn rfl) rfl rfl (y_build (vs := []) rfl trivial (by kernel_rfl)) ?_
      refine wL_st (cs := #[.int .i64 0, .int .i64 0, .int .i64 0, .int .i64 0]) (row' := #[.int .i64 0, .int .i64 0, .int .i64 0, .int .i64 0]) (fs' := ((.blk b4 #[.int .i64 0, .int .i64 0, .int .i64 0, .int .i64 0] 93) :: _ :: _ :: _ :: _ :: fs)) 0 S26 (wn rfl) rfl rfl rfl rfl rfl rfl inf93 rfl (oneAll rfl) (Nat.le_of_ble_eq_true rfl) (setAll_all rfl) rfl ?_
      intro w27 S28
      clear S26
      refine wL_val (v := .bool true) (wn rfl) rfl rfl (y_assign rfl rfl) ?_
      refine wL_nil ?_
      refine wQ_sub (l' := [(3, _), (4, _), (5, _)]) ⟨rfl, rfl, rfl, trivial⟩ ?_
      refine wQ_then ?_
      refine wC_ret ?_
      refine wQ_post (rs := [.cell 4 93, .tmp 5]) (vs := [.agg #[.int .i64 0, .int .i64 0, .int .i64 0, .int .i64 0], .bool true]) rfl ⟨⟨_, rfl, res_row 0 S28 rfl Try.underlying93 rfl inf93⟩, rfl, trivial⟩ ?_
      have S29 : St B w0 w27 (_ :: _ :: _ :: fs) := (St.del 0 (St.del 1 S28))
      clear S28
      have S30 := S29.sealAll 1 rfl
      clear S29
      change St _ _ _ (_ :: (.rdo 2 A1 rs.length ((rs).flatMap Msg.cells)) :: _ :: fs) at S30
      have S31 := S30.sealAll 2 rfl
      clear S30
      change St _ _ _ (_ :: _ :: (.rdo 4 (some ⟨g2, 0, none⟩) (ls.length - 1) ((ls.eraseIdx kk).flatMap Ls.cells)) :: fs) at S31
      have hel : (ls.eraseIdx kk).length = ls.length - 1 := List.length_eraseIdx_of_lt hkk
      have hfo := filt_one hx (hmat_hn hm) hU
      rw [ack_ok h1 (by rw [hfo, hel]; omega), hfo]
      refine ⟨rfl, A1, c1, (some ⟨g2, 0, none⟩), c2, ?_⟩
      dsimp only
      rw [hel]
      exact S31
    · have hall := none_of hno
      rw [idxLs_none (fun j y _ hy => hall y (List.mem_of_getElem? hy))] at HI
      refine wL_call (vs := [.slice A2 ls.length c2, .func (.func 176) #[] #[.pointer (some ⟨b1, 0, none⟩)]]) (wn rfl) rfl rfl (e_call (vs := [.slice A2 ls.length c2, .func (.func 176) #[] #[.pointer (some ⟨b1, 0, none⟩)]]) rfl en175 ⟨rfl, rfl, trivial⟩) (HI _ _ _ (St.ord 4 S17 rfl) (blk_rd 1 S17 rfl rfl (fun j u h => by rcases j with _ | _ | _ <;> first | exact h | (simp at h)))) ?_
      rintro _ w32 ⟨rfl, hb34⟩
      refine ⟨_, rfl, ?_⟩
      have S33 := S17.on hb34
      clear hb34 S17
      refine wL_val (v := .int .i64 (-1)) (wn rfl) rfl rfl (y_assign rfl rfl) ?_
      refine wL_nil ?_
      refine wQ_sub (l' := [(0, _), (3, _), (4, _), (5, _), (6, _)]) ⟨rfl, rfl, rfl, rfl, rfl, trivial⟩ ?_
      refine wQ_then ?_
      refine wC_seq ?_
      refine wC_seq ?_
      refine wC_region ?_
      refine wL_val (v := .int .i64 (-1)) (wn rfl) rfl rfl (y_move rfl rfl) ?_
      refine wL_val (v := .bool true) (wn rfl) rfl rfl (y_binop rfl rfl rfl (r_lss_t (by decide))) ?_
      refine wL_nil ?_
      refine wQ_sub (l' := [(0, _), (3, _), (4, _), (5, _), (6, _), (25, _)]) ⟨rfl, rfl, rfl, rfl, rfl, rfl, trivial⟩ ?_
      refine wQ_then ?_
      refine wC_cond_t rfl ?_
      refine wC_seq ?_
      refine wC_region ?_
      refine wL_val (v := .agg #[.int .i64 7, .int .i64 0, .int .i64 0, .int .i64 0]) (wn rfl) rfl rfl (y_build (vs := [(0, .int .i64 7)]) rfl ⟨rfl, rfl, trivial⟩ (by kernel_rfl)) ?_
      refine wL_st (cs := #[.int .i64 7, .int .i64 0, .int .i64 0, .int .i64 0]) (row' := #[.int .i64 7, .int .i64 0, .int .i64 0, .int .i64 0]) (fs' := ((.blk b4 #[.int .i64 7, .int .i64 0, .int .i64 0, .int .i64 0] 93) :: _ :: _ :: _ :: _ :: fs)) 0 S33 (wn rfl) rfl rfl rfl rfl rfl rfl inf93 rfl (oneAll rfl) (Nat.le_of_ble_eq_true rfl) (setAll_all rfl) rfl ?_
      intro w35 S36
      clear S33
      refine wL_val (v := .bool false) (wn rfl) rfl rfl (y_assign rfl rfl) ?_
      refine wL_nil ?_
      refine wQ_sub (l' := [(3, _), (4, _), (5, _)]) ⟨rfl, rfl, rfl, trivial⟩ ?_
      refine wQ_then ?_
      refine wC_ret ?_
      refine wQ_then_ret ?_
      refine wQ_post (rs := [.cell 4 93, .tmp 5]) (vs := [.agg #[.int .i64 7, .int .i64 0, .int .i64 0, .int .i64 0], .bool false]) rfl ⟨⟨_, rfl, res_row 0 S36 rfl Try.underlying93 rfl inf93⟩, rfl, trivial⟩ ?_
      have S37 : St B w0 w35 (_ :: _ :: _ :: fs) := (St.del 0 (St.del 1 S36))
      clear S36
      have S38 := S37.sealAll 1 rfl
      clear S37
      change St _ _ _ (_ :: (.rdo 2 A1 rs.length ((rs).flatMap Msg.cells)) :: _ :: fs) at S38
      have S39 := S38.sealAll 2 rfl
      clear S38
      change St _ _ _ (_ :: _ :: (.rdo 4 A2 ls.length ((ls).flatMap Ls.cells)) :: fs) at S39
      rw [ack_none h1 (by rw [filt_none (fun y hy hyn => by have := hall y hy; rw [hmat_no (hE y hy) h1 hyn] at this; cases this)])]
      refine ⟨rfl, A1, c1, A2, c2, ?_⟩
      dsimp only
      exact S39
  · refine wU_val (v := .bool true) (wn rfl) rfl rfl (fun _ _ => (y_binop rfl rfl rfl (r_neq_t h1))) ?_
    refine wU_nil fun w41 S42 => ?_
    clear S6
    refine wQ_sub (l' := [(0, _), (3, _), (4, _), (5, _), (15, _)]) ⟨rfl, rfl, rfl, rfl, rfl, trivial⟩ ?_
    refine wQ_then ?_
    refine wC_cond_t rfl ?_
    refine wC_seq ?_
    refine wC_region ?_
    refine wL_val (v := .agg #[.int .i64 11, .int .i64 0, .int .i64 0, .int .i64 0]) (wn rfl) rfl rfl (y_build (vs := [(0, .int .i64 11)]) rfl ⟨rfl, rfl, trivial⟩ (by kernel_rfl)) ?_
    refine wL_st (cs := #[.int .i64 11, .int .i64 0, .int .i64 0, .int .i64 0]) (row' := #[.int .i64 11, .int .i64 0, .int .i64 0, .int .i64 0]) (fs' := ((.blk b4 #[.int .i64 11, .int .i64 0, .int .i64 0, .int .i64 0] 93) :: _ :: _ :: _ :: _ :: fs)) 0 S42 (wn rfl) rfl rfl rfl rfl rfl rfl inf93 rfl (oneAll rfl) (Nat.le_of_ble_eq_true rfl) (setAll_all rfl) rfl ?_
    intro w43 S44
    clear S42
    refine wL_val (v := .bool false) (wn rfl) rfl rfl (y_assign rfl rfl) ?_
    refine wL_nil ?_
    refine wQ_sub (l' := [(3, _), (4, _), (5, _)]) ⟨rfl, rfl, rfl, trivial⟩ ?_
    refine wQ_then ?_
    refine wC_ret ?_
    refine wQ_then_ret ?_
    refine wQ_post (rs := [.cell 4 93, .tmp 5]) (vs := [.agg #[.int .i64 11, .int .i64 0, .int .i64 0, .int .i64 0], .bool false]) rfl ⟨⟨_, rfl, res_row 0 S44 rfl Try.underlying93 rfl inf93⟩, rfl, trivial⟩ ?_
    have S45 : St B w0 w43 (_ :: _ :: _ :: fs) := (St.del 0 (St.del 1 S44))
    clear S44
    have S46 := S45.sealAll 1 rfl
    clear S45
    change St _ _ _ (_ :: (.rdo 2 A1 rs.length ((rs).flatMap Msg.cells)) :: _ :: fs) at S46
    have S47 := S46.sealAll 2 rfl
    clear S46
    change St _ _ _ (_ :: _ :: (.rdo 4 A2 ls.length ((ls).flatMap Ls.cells)) :: fs) at S47
    rw [ack_stale h1]
    refine ⟨rfl, A1, c1, A2, c2, ?_⟩
    dsimp only
    exact S47
end Go.Proofs.Ytkjlafpafmihaaa

namespace Go.Proofs.Ytkjlafpafmihaaa
open Go.ChangeShapes Go.WideShapes Go.RowKit

set_option maxRecDepth 100000 in
set_option maxHeartbeats 2000000 in
theorem end_calls {B g k c1 c2 : Nat} {w0 w : World} {fs : List Fact} {A1 A2 : Option Addr} {rs : List Msg} {ls : List Ls} {W : Wins} {ep nx gv kd id bd he hn : Int} (S : St B w0 w (.blk g (qRow ep nx gv (.slice A1 rs.length c1) (.slice A2 ls.length c2) W) 190 :: .own 137 2 (.slice A1 rs.length c1) rs.length ((rs).flatMap Msg.cells) :: .own 141 4 (.slice A2 ls.length c2) ls.length ((ls).flatMap Ls.cells) :: fs)) (hk : k < 4) (hlen : rs.length + ls.length ≤ 500) (hnx : 0 ≤ nx ∧ nx ≤ 1073741824) (hgv : 0 ≤ gv ∧ gv ≤ 1073741824) (hep : 0 ≤ ep ∧ ep ≤ 1048576) (hA : ascNo rs) (hN : (nosOf rs ls).Nodup) :
    Calls Try.prog 148 #[.pointer (some ⟨g, 0, none⟩), .agg #[.int .i64 kd, .int .i64 ((k : Nat) : Int), .int .i64 id, .int .i64 bd, .int .i64 he, .int .i64 hn]] w (DeskPost B w0 g fs (endM ⟨ep, nx, gv, rs, ls, W⟩)) := by
  refine calls_of_wC (N := 63) (vs := [.pointer (some ⟨g, 0, none⟩), .agg #[.int .i64 kd, .int .i64 ((k : Nat) : Int), .int .i64 id, .int .i64 bd, .int .i64 he, .int .i64 hn]]) Try.func148 rfl rfl rfl ?_
  refine wC_sub (l' := [(0, .pointer (some ⟨g, 0, none⟩)), (1, .agg #[.int .i64 kd, .int .i64 ((k : Nat) : Int), .int .i64 id, .int .i64 bd, .int .i64 he, .int .i64 hn])]) ⟨rfl, rfl, trivial⟩ ?_
  refine wC_seq ?_
  refine wC_region ?_
  refine wL_new (V := fun b => .pointer (some ⟨b, 0, none⟩)) (row := #[.int .i64 kd, .int .i64 ((k : Nat) : Int), .int .i64 id, .int .i64 bd, .int .i64 he, .int .i64 hn]) (t := 37) S (wn rfl) rfl rfl (d_box rfl rfl rfl) ?_
  intro b1 w2 S3
  clear S
  refine wL_new (V := fun b => .pointer (some ⟨b, 0, none⟩)) (row := #[.int .i64 0, .int .i64 0, .int .i64 0, .int .i64 0]) (t := 93) S3 (wn rfl) rfl rfl (d_alloc rfl (Try.zeroValue93 _) rfl) ?_
  intro b4 w5 S6
  clear S3
  refine wL_val (v := .bool false) (wn rfl) rfl rfl (y_assign rfl rfl) ?_
  refine wL_nil ?_
  refine wQ_sub (l' := [(0, _), (4, _), (5, _)]) ⟨rfl, rfl, rfl, trivial⟩ ?_
  refine wQ_then ?_
  refine wC_seq ?_
  refine wC_seq ?_
  refine wC_region ?_
  refine wL_val (v := .pointer (some ⟨g, 0, none⟩)) (wn rfl) rfl rfl (y_move rfl rfl) ?_
  refine wL_val (v := .pointer (some ⟨g, 0, none⟩)) (wn rfl) rfl rfl (y_nil rfl rfl trivial) ?_
  refine wL_val (v := .pointer (some ⟨g, 0, none⟩)) (wn rfl) rfl rfl (y_fieldAddr rfl rfl (fa190_0 _ _ _)) ?_
  refine wL_val (v := .pointer (some ⟨g, 0, none⟩)) (wn rfl) rfl rfl (y_fieldAddr rfl rfl (fa29_0 _ _ _)) ?_
  refine wL_val (v := .int .i64 ep) (wn rfl) rfl rfl (y_load rfl rfl (r_load Try.underlying3 rfl (St.cl 2 S6 rfl qRow_g0))) ?_
  by_cases h1 : ep = 1048576
  · refine wL_val (v := .bool true) (wn rfl) rfl rfl (y_binop rfl rfl rfl (r_eql_t h1)) ?_
    refine wL_nil ?_
    refine wQ_sub (l' := [(0, _), (4, _), (5, _), (13, _)]) ⟨rfl, rfl, rfl, rfl, trivial⟩ ?_
    refine wQ_then ?_
    refine wC_cond_t rfl ?_
    refine wC_seq ?_
    refine wC_region ?_
    refine wL_val (v := .agg #[.int .i64 14, .int .i64 0, .int .i64 0, .int .i64 0]) (wn rfl) rfl rfl (y_build (vs := [(0, .int .i64 14)]) rfl ⟨rfl, rfl, trivial⟩ (by kernel_rfl)) ?_
    refine wL_st (cs := #[.int .i64 14, .int .i64 0, .int .i64 0, .int .i64 0]) (row' := #[.int .i64 14, .int .i64 0, .int .i64 0, .int .i64 0]) (fs' := ((.blk b4 #[.int .i64 14, .int .i64 0, .int .i64 0, .int .i64 0] 93) :: _ :: _ :: _ :: _ :: fs)) 0 S6 (wn rfl) rfl rfl rfl rfl rfl rfl inf93 rfl (oneAll rfl) (Nat.le_of_ble_eq_true rfl) (setAll_all rfl) rfl ?_
    intro w7 S8
    clear S6
    refine wL_val (v := .bool false) (wn rfl) rfl rfl (y_assign rfl rfl) ?_
    refine wL_nil ?_
    refine wQ_sub (l' := [(4, _), (5, _)]) ⟨rfl, rfl, trivial⟩ ?_
    refine wQ_then ?_
    refine wC_ret ?_
    refine wQ_then_ret ?_
    refine wQ_post (rs := [.cell 4 93, .tmp 5]) (vs := [.agg #[.int .i64 14, .int .i64 0, .int .i64 0, .int .i64 0], .bool false]) rfl ⟨⟨_, rfl, res_row 0 S8 rfl Try.underlying93 rfl inf93⟩, rfl, trivial⟩ ?_
    have S9 : St B w0 w7 (_ :: _ :: _ :: fs) := (St.del 0 (St.del 1 S8))
    clear S8
    have S10 := S9.sealAll 1 rfl
    clear S9
    change St _ _ _ (_ :: (.rdo 2 A1 rs.length ((rs).flatMap Msg.cells)) :: _ :: fs) at S10
    have S11 := S10.sealAll 2 rfl
    clear S10
    change St _ _ _ (_ :: _ :: (.rdo 4 A2 ls.length ((ls).flatMap Ls.cells)) :: fs) at S11
    rw [end_full h1]
    refine ⟨rfl, A1, c1, A2, c2, ?_⟩
    dsimp only
    exact S11
  · refine wL_val (v := .bool false) (wn rfl) rfl rfl (y_binop rfl rfl rfl (r_eql_f h1)) ?_
    refine wL_nil ?_
    refine wQ_sub (l' := [(0, _), (4, _), (5, _), (13, _)]) ⟨rfl, rfl, rfl, rfl, trivial⟩ ?_
    refine wQ_then ?_
    refine wC_cond_f rfl ?_
    refine wC_skip ?_
    refine wQ_then ?_
    refine wC_seq ?_
    refine wC_seq ?_
    refine wC_region ?_
    refine wL_val (v := .pointer (some ⟨g, 0, none⟩)) (wn rfl) rfl rfl (y_move rfl rfl) ?_
    refine wL_val (v := .pointer (some ⟨g, 0, none⟩)) (wn rfl) rfl rfl (y_nil rfl rfl trivial) ?_
    refine wL_val (v := .pointer (some ⟨g, 0, none⟩)) (wn rfl) rfl rfl (y_fieldAddr rfl rfl (fa190_0 _ _ _)) ?_
    refine wL_val (v := .pointer (some ⟨g, 4, none⟩)) (wn rfl) rfl rfl (y_fieldAddr rfl rfl (fa29_4 _ _ _)) ?_
    refine wL_val (v := .slice A2 ls.length c2) (wn rfl) rfl rfl (y_load rfl rfl (r_load Try.underlying23 rfl (St.cl 2 S6 rfl qRow_g4))) ?_
    refine wL_val (v := .int .i64 ((ls.length : Nat) : Int)) (wn rfl) rfl rfl (y_builtin (vs := [.slice A2 ls.length c2]) rfl ⟨rfl, trivial⟩ fun _ => r_len rfl Try.underlying23) ?_
    refine wL_val (v := .int .i64 0) (wn rfl) rfl rfl (y_move rfl rfl) ?_
    refine wL_nil ?_
    refine wQ_sub (l' := [(0, _), (4, _), (5, _), (19, _), (20, _), (21, _)]) ⟨rfl, rfl, rfl, rfl, rfl, rfl, trivial⟩ ?_
    refine wQ_then ?_
    refine wC_block ?_
    refine wC_loop (X := Nat × (Option Addr) × Nat) (fun xv => [(0, .pointer (some ⟨g, 0, none⟩)), (4, .pointer (some ⟨b4, 0, none⟩)), (5, .bool false), (19, .slice A2 ls.length c2), (20, .int .i64 ((ls.length : Nat) : Int)), (21, .int .i64 ((xv.1 : Nat) : Int))]) (fun xv wr => (xv.1 ≤ ls.length) ∧ St B w0 wr ((.blk b4 #[.int .i64 0, .int .i64 0, .int .i64 0, .int .i64 0] 93) :: (.blk b1 #[.int .i64 kd, .int .i64 ((k : Nat) : Int), .int .i64 id, .int .i64 bd, .int .i64 he, .int .i64 hn] 37) :: (.blk g (qRow ep nx gv (.slice xv.2.1 (rs.length + xv.1) xv.2.2) (.slice A2 ls.length c2) W) 190) :: (.own 137 2 (.slice xv.2.1 (rs.length + xv.1) xv.2.2) (rs.length + xv.1) ((rs ++ (ls.take xv.1).map (·.msg)).flatMap Msg.cells)) :: (.own 141 4 (.slice A2 ls.length c2) ls.length ((ls).flatMap Ls.cells)) :: fs)) (fun xv => ls.length - xv.1) (0, A1, c1) ?_ ?_ ?_
    · exact ⟨Nat.zero_le _, by dsimp only; rw [show rs ++ (ls.take 0).map (·.msg) = rs by simp]; exact S6⟩
    · exact ⟨rfl, rfl, rfl, rfl, rfl, rfl, trivial⟩
    · rintro ⟨q, Ab, cb⟩ w12 ⟨hi14, S13⟩
      try dsimp only at hi14 S13
      clear S6
      refine wC_sub (l' := [(0, .pointer (some ⟨g, 0, none⟩)), (4, .pointer (some ⟨b4, 0, none⟩)), (5, .bool false), (19, .slice A2 ls.length c2), (20, .int .i64 ((ls.length : Nat) : Int)), (21, .int .i64 ((q : Nat) : Int))]) ⟨rfl, rfl, rfl, rfl, rfl, rfl, trivial⟩ ?_
      refine wC_seq ?_
      refine wC_region ?_
      by_cases h15 : ((q : Nat) : Int) < ((ls.length : Nat) : Int)
      · refine wL_val (v := .bool true) (wn rfl) rfl rfl (y_binop rfl rfl rfl (r_lss_t h15)) ?_
        refine wL_nil ?_
        refine wQ_then ?_
        refine wC_seq ?_
        refine wC_cond_t rfl ?_
        refine wC_skip ?_
        refine wQ_then ?_
        refine wC_seq ?_
        refine wC_block ?_
        refine wC_seq ?_
        refine wC_region ?_
        obtain ⟨b16, o17, rfl⟩ := Rd.addr (St.ord 4 S13 rfl) (by omega)
        obtain ⟨x18, hx19⟩ : ∃ x, (ls)[q]? = some x := ⟨_, List.getElem?_eq_getElem (by have := (St.ord 4 S13 rfl).1; rw [fm_len (sz := 4) (fun _ => rfl)] at this; omega)⟩
        refine wL_val (v := .pointer (some ⟨b16, o17 + q * 4, none⟩)) (wn rfl) rfl rfl (y_indexAddr rfl rfl rfl (r_indexAddr q Try.underlying23 inf141 (by omega) (by omega))) ?_
        refine wL_val (v := .agg #[.int .i64 x18.hep, .int .i64 x18.hno, .int .i64 x18.msg.no, .int .i64 x18.msg.body]) (wn rfl) rfl rfl (y_load rfl rfl (r_load_agg (cs := Ls.cells x18) Try.underlying141 rfl inf141 rfl (Rd.rg2 (St.ord 4 S13 rfl) (fun _ _ h => fm_get (enc := Ls.cells) (sz := 4) (fun _ => rfl) hx19 h)))) ?_
        refine wL_new (V := fun b => .pointer (some ⟨b, 0, none⟩)) (row := #[.int .i64 0, .int .i64 0, .int .i64 0, .int .i64 0]) (t := 141) S13 (wn rfl) rfl rfl (d_alloc rfl (Try.zeroValue141 _) rfl) ?_
        intro b20 w21 S22
        clear S13
        refine wL_st (cs := #[.int .i64 x18.hep, .int .i64 x18.hno, .int .i64 x18.msg.no, .int .i64 x18.msg.body]) (row' := #[.int .i64 x18.hep, .int .i64 x18.hno, .int .i64 x18.msg.no, .int .i64 x18.msg.body]) (fs' := ((.blk b20 #[.int .i64 x18.hep, .int .i64 x18.hno, .int .i64 x18.msg.no, .int .i64 x18.msg.body] 141) :: _ :: _ :: _ :: _ :: _ :: fs)) 0 S22 (wn rfl) rfl rfl rfl rfl rfl rfl inf141 rfl (oneAll rfl) (Nat.le_of_ble_eq_true rfl) (setAll_all rfl) rfl ?_
        intro w23 S24
        clear S22
        refine wL_nil ?_
        refine wQ_sub (l' := [(0, _), (4, _), (5, _), (19, _), (20, _), (21, _), (7, _)]) ⟨rfl, rfl, rfl, rfl, rfl, rfl, rfl, trivial⟩ ?_
        refine wQ_then ?_
        have S25 := S24.drew
        clear S24
        refine wC_head (C := fun w' => St B w0 w' ((.blk b20 #[.int .i64 x18.hep, .int .i64 x18.hno, .int .i64 x18.msg.no, .int .i64 x18.msg.body] 141) :: (.blk b4 #[.int .i64 0, .int .i64 0, .int .i64 0, .int .i64 0] 93) :: (.blk b1 #[.int .i64 kd, .int .i64 ((k : Nat) : Int), .int .i64 id, .int .i64 bd, .int .i64 he, .int .i64 hn] 37) :: (.blk g (qRow ep nx gv (.slice Ab (rs.length + q) cb) (.slice (some ⟨b16, o17, none⟩) ls.length c2) W) 190) :: (.own 141 4 (.slice (some ⟨b16, o17, none⟩) ls.length c2) ls.length ((ls).flatMap Ls.cells)) :: fs)) (m := 14) (listed := #[false, false, false, false, false, false, false, false, false, false, false, false, false, false]) 10 mixed rfl rfl ?_
        refine wG_take (v := .pointer (some ⟨g, 0, none⟩)) (i := 0) (m := 13) (listed' := #[true, false, false, false, false, false, false, false, false, false, false, false, false, false]) rfl (by kernel_rfl) (by kernel_rfl) (by kernel_rfl) rfl (by kernel_rfl) rfl (St.del 4 S25) rfl (wn rfl) rfl rfl (fun _ _ => (y_move rfl rfl)) ?_
        refine wG_take (v := .pointer (some ⟨g, 0, none⟩)) (i := 1) (m := 12) (listed' := #[true, true, false, false, false, false, false, false, false, false, false, false, false, false]) rfl (by kernel_rfl) (by kernel_rfl) (by kernel_rfl) rfl (by kernel_rfl) rfl (St.del 4 S25) rfl (wn rfl) rfl rfl (fun _ _ => (y_move rfl rfl)) ?_
        refine wG_take (v := .pointer (some ⟨g, 0, none⟩)) (i := 2) (m := 11) (listed' := #[true, true, true, false, false, false, false, false, false, false, false, false, false, false]) rfl (by kernel_rfl) (by kernel_rfl) (by kernel_rfl) rfl (by kernel_rfl) rfl (St.del 4 S25) rfl (wn rfl) rfl rfl (fun _ _ => (y_nil rfl rfl trivial)) ?_
        refine wG_take (v := .pointer (some ⟨g, 0, none⟩)) (i := 3) (m := 10) (listed' := #[true, true, true, true, false, false, false, false, false, false, false, false, false, false]) rfl (by kernel_rfl) (by kernel_rfl) (by kernel_rfl) rfl (by kernel_rfl) rfl (St.del 4 S25) rfl (wn rfl) rfl rfl (fun _ _ => (y_fieldAddr rfl rfl (fa190_0 _ _ _))) ?_
        refine wG_take (v := .pointer (some ⟨g, 3, none⟩)) (i := 4) (m := 9) (listed' := #[true, true, true, true, true, false, false, false, false, false, false, false, false, false]) rfl (by kernel_rfl) (by kernel_rfl) (by kernel_rfl) rfl (by kernel_rfl) rfl (St.del 4 S25) rfl (wn rfl) rfl rfl (fun _ _ => (y_fieldAddr rfl rfl (fa29_3 _ _ _))) ?_
        refine wG_take (v := .slice Ab (rs.length + q) cb) (i := 5) (m := 8) (listed' := #[true, true, true, true, true, true, false, false, false, false, false, false, false, false]) rfl (by kernel_rfl) (by kernel_rfl) (by kernel_rfl) rfl (by kernel_rfl) rfl (St.del 4 S25) rfl (wn rfl) rfl rfl (fun _ Sx31 => (y_load rfl rfl (r_load Try.underlying22 rfl (St.cl 3 Sx31 rfl qRow_g3)))) ?_
        refine wG_take (v := .pointer (some ⟨b20, 2, none⟩)) (i := 6) (m := 7) (listed' := #[true, true, true, true, true, true, true, false, false, false, false, false, false, false]) rfl (by kernel_rfl) (by kernel_rfl) (by kernel_rfl) rfl (by kernel_rfl) rfl (St.del 4 S25) rfl (wn rfl) rfl rfl (fun _ _ => (y_fieldAddr rfl rfl (fa141_1 _ _ _))) ?_
        refine wG_take (v := .agg #[.int .i64 x18.msg.no, .int .i64 x18.msg.body]) (i := 7) (m := 6) (listed' := #[true, true, true, true, true, true, true, true, false, false, false, false, false, false]) rfl (by kernel_rfl) (by kernel_rfl) (by kernel_rfl) rfl (by kernel_rfl) rfl (St.del 4 S25) rfl (wn rfl) rfl rfl (fun _ Sx33 => (y_load rfl rfl (r_load_agg (cs := [.int .i64 x18.msg.no, .int .i64 x18.msg.body]) Try.underlying137 rfl inf137 rfl (St.rg 0 Sx33 rfl (sub_row (x := 2) (m := 2) rfl))))) ?_
        refine wG_one (m := 5) (r := 8) (by kernel_rfl) ?_
        refine wH_new (i := 8) (listed' := #[true, true, true, true, true, true, true, true, true, false, false, false, false, false]) rfl rfl (V := fun b => .slice (some ⟨b, 0, none⟩) 1 1) (row := #[.int .i64 x18.msg.no, .int .i64 x18.msg.body]) (t := 137) S25 (wn rfl) rfl rfl (d_buildSlice (vs := [(0, .agg #[.int .i64 x18.msg.no, .int .i64 x18.msg.body])]) rfl ⟨rfl, rfl, trivial⟩ (by kernel_rfl)) ?_
        intro b34 w35 S36
        clear S25
        refine ⟨(St.del 0 (St.del 5 S36)), ?_⟩
        refine wG_one (m := 4) (r := 9) (by kernel_rfl) ?_
        refine wH_append (i := 9) (listed' := #[true, true, true, true, true, true, true, true, true, true, false, false, false, false]) rfl rfl (news := [.int .i64 x18.msg.no, .int .i64 x18.msg.body]) (xs' := (rs ++ (ls.take (q + 1)).map (·.msg)).flatMap Msg.cells) 5 S36 (wn rfl) rfl rfl rfl rfl rfl rfl (St.bld (xs := [.int .i64 x18.msg.no, .int .i64 x18.msg.body]) 0 S36 rfl rfl rfl) Try.underlying22 infz137 rfl (by decide) (oneAll rfl) (by simp only [maxLen]; omega) (by omega) (fm_snoc (enc := Msg.cells) (by rw [List.append_assoc, take_map (f := fun x : Ls => x.msg) hx19]) rfl) ?_
        intro A37 c38 w39 hc41 hm42 S40
        clear S36
        change St _ _ _ (_ :: _ :: _ :: _ :: _ :: (.own 137 2 (.slice A37 ((rs.length + q) + 1) c38) ((rs.length + q) + 1) ((rs ++ (ls.take (q + 1)).map (·.msg)).flatMap Msg.cells)) :: _ :: fs) at S40
        refine ⟨(St.del 0 (St.del 5 S40)), ?_⟩
        refine wG_tail (by kernel_rfl) rfl rfl rfl ?_
        refine wL_val (v := .pointer (some ⟨g, 0, none⟩)) (wn rfl) rfl rfl (y_nil rfl rfl trivial) ?_
        refine wL_val (v := .pointer (some ⟨g, 0, none⟩)) (wn rfl) rfl rfl (y_fieldAddr rfl rfl (fa190_0 _ _ _)) ?_
        refine wL_val (v := .pointer (some ⟨g, 3, none⟩)) (wn rfl) rfl rfl (y_fieldAddr rfl rfl (fa29_3 _ _ _)) ?_
        refine wL_st (cs := #[.slice A37 ((rs.length + q) + 1) c38]) (row' := qRow ep nx gv (.slice A37 ((rs.length + q) + 1) c38) (.slice (some ⟨b16, o17, none⟩) ls.length c2) W) (fs' := (_ :: _ :: _ :: _ :: (.blk g (qRow ep nx gv (.slice A37 ((rs.length + q) + 1) c38) (.slice (some ⟨b16, o17, none⟩) ls.length c2) W) 190) :: _ :: _ :: fs)) 4 S40 (wn rfl) rfl rfl rfl rfl rfl rfl inf22 rfl (oneAll rfl) (Nat.le_of_ble_eq_true rfl) qRow_s3 rfl ?_
        intro w43 S44
        clear S40
        refine wL_nil (wQ_np ?_)
        refine wQ_sub (l' := [(0, _), (4, _), (5, _), (19, _), (20, _), (21, _)]) ⟨rfl, rfl, rfl, rfl, rfl, rfl, trivial⟩ ?_
        refine wQ_blk_n ?_
        refine wQ_then ?_
        refine wC_region ?_
        refine wL_val (v := .int .i64 ((q + 1 : Nat) : Int)) (wn rfl) rfl rfl (y_binop rfl rfl rfl (r_add (by omega) (by omega))) ?_
        refine wL_val (v := .int .i64 ((q + 1 : Nat) : Int)) (wn rfl) rfl rfl (y_move rfl rfl) ?_
        refine wL_nil ?_
        refine wQ_sub (l' := [(0, _), (4, _), (5, _), (19, _), (20, _), (21, _)]) ⟨rfl, rfl, rfl, rfl, rfl, rfl, trivial⟩ ?_
        have S45 : St B w0 w43 (_ :: _ :: _ :: _ :: _ :: fs) := (St.del 0 (St.del 1 S44))
        clear S44
        refine wQ_round (q + 1, A37, c38) ?_ ⟨rfl, rfl, rfl, rfl, rfl, rfl, trivial⟩ (by first | omega | (dsimp only; omega))
        exact ⟨(by dsimp only; omega), S45⟩
      · refine wL_val (v := .bool false) (wn rfl) rfl rfl (y_binop rfl rfl rfl (r_lss_f h15)) ?_
        refine wL_nil ?_
        refine wQ_then ?_
        refine wC_seq ?_
        refine wC_cond_f rfl ?_
        refine wC_exit ?_
        refine wQ_then_exit ?_
        refine wQ_then_exit ?_
        refine wQ_blk_same ?_
        refine wQ_then ?_
        refine wC_seq ?_
        refine wC_region ?_
        obtain rfl : q = ls.length := by omega
        have S46 := S13
        clear S13
        rw [List.take_length] at S46
        change St _ _ _ ((.blk b4 #[.int .i64 0, .int .i64 0, .int .i64 0, .int .i64 0] 93) :: (.blk b1 #[.int .i64 kd, .int .i64 ((k : Nat) : Int), .int .i64 id, .int .i64 bd, .int .i64 he, .int .i64 hn] 37) :: (.blk g (qRow ep nx gv (.slice Ab (rs.length + ls.length) cb) (.slice A2 ls.length c2) W) 190) :: (.own 137 2 (.slice Ab (rs.length + ls.length) cb) (rs.length + ls.length) ((rs ++ ls.map (·.msg)).flatMap Msg.cells)) :: (.own 141 4 (.slice A2 ls.length c2) ls.length ((ls).flatMap Ls.cells)) :: fs) at S46
        refine wL_val (v := .pointer (some ⟨g, 0, none⟩)) (wn rfl) rfl rfl (y_move rfl rfl) ?_
        refine wL_val (v := .pointer (some ⟨g, 0, none⟩)) (wn rfl) rfl rfl (y_nil rfl rfl trivial) ?_
        refine wL_val (v := .pointer (some ⟨g, 0, none⟩)) (wn rfl) rfl rfl (y_fieldAddr rfl rfl (fa190_0 _ _ _)) ?_
        refine wL_val (v := .pointer (some ⟨g, 3, none⟩)) (wn rfl) rfl rfl (y_fieldAddr rfl rfl (fa29_3 _ _ _)) ?_
        refine wL_val (v := .slice Ab (rs.length + ls.length) cb) (wn rfl) rfl rfl (y_load rfl rfl (r_load Try.underlying22 rfl (St.cl 2 S46 rfl qRow_g3))) ?_
        have hml : (rs ++ ls.map (·.msg)).length = rs.length + ls.length := by simp
        have HS := fun A c w (ho : World.ownsRow w B 137 2 (.slice A (rs ++ ls.map (·.msg)).length c) (rs ++ ls.map (·.msg)).length ((rs ++ ls.map (·.msg)).flatMap Msg.cells)) => SortM_calls A c (rs ++ ls.map (·.msg)) w ho (by omega)
        rw [hml] at HS
        refine wL_call (vs := [.slice Ab (rs.length + ls.length) cb, .func (.func 179) #[] #[]]) (wn rfl) rfl rfl (e_call (vs := [.slice Ab (rs.length + ls.length) cb, .func (.func 179) #[] #[]]) rfl en178 ⟨rfl, rfl, trivial⟩) (HS Ab cb _ (S46.own 3 rfl)) ?_
        rintro _ w47 ⟨rfl, d49, hp50, ha51, ho52, hg53⟩
        refine ⟨_, rfl, ?_⟩
        have S48 := S46.append 3 rfl hg53 ho52 (.inl rfl)
        have hdl := end_list hp50 ha51 hA hN
        clear HS ho52 hg53 S46
        change St _ _ _ ((.blk b4 #[.int .i64 0, .int .i64 0, .int .i64 0, .int .i64 0] 93) :: (.blk b1 #[.int .i64 kd, .int .i64 ((k : Nat) : Int), .int .i64 id, .int .i64 bd, .int .i64 he, .int .i64 hn] 37) :: (.blk g (qRow ep nx gv (.slice Ab (rs.length + ls.length) cb) (.slice A2 ls.length c2) W) 190) :: (.own 137 2 (.slice Ab (rs.length + ls.length) cb) (rs.length + ls.length) ((d49).flatMap Msg.cells)) :: (.own 141 4 (.slice A2 ls.length c2) ls.length ((ls).flatMap Ls.cells)) :: fs) at S48
        refine wL_nil ?_
        refine wQ_sub (l' := [(0, _), (4, _), (5, _)]) ⟨rfl, rfl, rfl, trivial⟩ ?_
        refine wQ_then ?_
        refine wC_seq ?_
        refine wC_region ?_
        refine wL_val (v := .pointer (some ⟨g, 0, none⟩)) (wn rfl) rfl rfl (y_move rfl rfl) ?_
        refine wL_val (v := .pointer (some ⟨g, 0, none⟩)) (wn rfl) rfl rfl (y_nil rfl rfl trivial) ?_
        refine wL_val (v := .pointer (some ⟨g, 0, none⟩)) (wn rfl) rfl rfl (y_fieldAddr rfl rfl (fa190_0 _ _ _)) ?_
        refine wL_val (v := .pointer (some ⟨g, 4, none⟩)) (wn rfl) rfl rfl (y_fieldAddr rfl rfl (fa29_4 _ _ _)) ?_
        refine wL_st (cs := #[.slice none 0 0]) (row' := qRow ep nx gv (.slice Ab (rs.length + ls.length) cb) (.slice none 0 0) W) (fs' := (_ :: _ :: (.blk g (qRow ep nx gv (.slice Ab (rs.length + ls.length) cb) (.slice none 0 0) W) 190) :: _ :: _ :: fs)) 2 S48 (wn rfl) rfl rfl rfl rfl rfl rfl inf23 rfl (oneAll rfl) (Nat.le_of_ble_eq_true rfl) qRow_s4 rfl ?_
        intro w54 S55
        clear S48
        refine wL_nil ?_
        refine wQ_sub (l' := [(0, _), (4, _), (5, _)]) ⟨rfl, rfl, rfl, trivial⟩ ?_
        refine wQ_then ?_
        refine wC_seq ?_
        refine wC_region ?_
        refine wL_val (v := .pointer (some ⟨g, 0, none⟩)) (wn rfl) rfl rfl (y_move rfl rfl) ?_
        refine wL_val (v := .pointer (some ⟨g, 0, none⟩)) (wn rfl) rfl rfl (y_nil rfl rfl trivial) ?_
        refine wL_val (v := .pointer (some ⟨g, 0, none⟩)) (wn rfl) rfl rfl (y_fieldAddr rfl rfl (fa190_0 _ _ _)) ?_
        refine wL_val (v := .pointer (some ⟨g, 0, none⟩)) (wn rfl) rfl rfl (y_fieldAddr rfl rfl (fa29_0 _ _ _)) ?_
        refine wL_val (v := .int .i64 ep) (wn rfl) rfl rfl (y_load rfl rfl (r_load Try.underlying3 rfl (St.cl 2 S55 rfl qRow_g0))) ?_
        refine wL_val (v := .int .i64 (ep + 1)) (wn rfl) rfl rfl (y_binop rfl rfl rfl (r_add (by omega) (by omega))) ?_
        refine wL_val (v := .pointer (some ⟨g, 0, none⟩)) (wn rfl) rfl rfl (y_nil rfl rfl trivial) ?_
        refine wL_val (v := .pointer (some ⟨g, 0, none⟩)) (wn rfl) rfl rfl (y_fieldAddr rfl rfl (fa190_0 _ _ _)) ?_
        refine wL_val (v := .pointer (some ⟨g, 0, none⟩)) (wn rfl) rfl rfl (y_fieldAddr rfl rfl (fa29_0 _ _ _)) ?_
        refine wL_st (cs := #[.int .i64 (ep + 1)]) (row' := qRow (ep + 1) nx gv (.slice Ab (rs.length + ls.length) cb) (.slice none 0 0) W) (fs' := (_ :: _ :: (.blk g (qRow (ep + 1) nx gv (.slice Ab (rs.length + ls.length) cb) (.slice none 0 0) W) 190) :: _ :: _ :: fs)) 2 S55 (wn rfl) rfl rfl rfl rfl rfl rfl inf3 rfl (oneAll rfl) (Nat.le_of_ble_eq_true rfl) qRow_s0 rfl ?_
        intro w56 S57
        clear S55
        refine wL_nil ?_
        refine wQ_sub (l' := [(0, _), (4, _), (5, _)]) ⟨rfl, rfl, rfl, trivial⟩ ?_
        refine wQ_then ?_
        refine wC_seq ?_
        refine wC_region ?_
        refine wL_val (v := .pointer (some ⟨g, 0, none⟩)) (wn rfl) rfl rfl (y_move rfl rfl) ?_
        refine wL_val (v := .pointer (some ⟨g, 0, none⟩)) (wn rfl) rfl rfl (y_nil rfl rfl trivial) ?_
        refine wL_val (v := .pointer (some ⟨g, 0, none⟩)) (wn rfl) rfl rfl (y_fieldAddr rfl rfl (fa190_0 _ _ _)) ?_
        refine wL_val (v := .pointer (some ⟨g, 2, none⟩)) (wn rfl) rfl rfl (y_fieldAddr rfl rfl (fa29_2 _ _ _)) ?_
        refine wL_st (cs := #[.int .i64 0]) (row' := qRow (ep + 1) nx 0 (.slice Ab (rs.length + ls.length) cb) (.slice none 0 0) W) (fs' := (_ :: _ :: (.blk g (qRow (ep + 1) nx 0 (.slice Ab (rs.length + ls.length) cb) (.slice none 0 0) W) 190) :: _ :: _ :: fs)) 2 S57 (wn rfl) rfl rfl rfl rfl rfl rfl inf3 rfl (oneAll rfl) (Nat.le_of_ble_eq_true rfl) qRow_s2 rfl ?_
        intro w58 S59
        clear S57
        refine wL_nil ?_
        refine wQ_sub (l' := [(4, _), (5, _)]) ⟨rfl, rfl, trivial⟩ ?_
        refine wQ_then ?_
        refine wC_seq ?_
        refine wC_region ?_
        refine wL_val (v := .agg #[.int .i64 0, .int .i64 0, .int .i64 0, .int .i64 0]) (wn rfl) rfl rfl (y_build (vs := []) rfl trivial (by kernel_rfl)) ?_
        refine wL_st (cs := #[.int .i64 0, .int .i64 0, .int .i64 0, .int .i64 0]) (row' := #[.int .i64 0, .int .i64 0, .int .i64 0, .int .i64 0]) (fs' := ((.blk b4 #[.int .i64 0, .int .i64 0, .int .i64 0, .int .i64 0] 93) :: _ :: _ :: _ :: _ :: fs)) 0 S59 (wn rfl) rfl rfl rfl rfl rfl rfl inf93 rfl (oneAll rfl) (Nat.le_of_ble_eq_true rfl) (setAll_all rfl) rfl ?_
        intro w60 S61
        clear S59
        refine wL_val (v := .bool true) (wn rfl) rfl rfl (y_assign rfl rfl) ?_
        refine wL_nil ?_
        refine wQ_sub (l' := [(4, _), (5, _)]) ⟨rfl, rfl, trivial⟩ ?_
        refine wQ_then ?_
        refine wC_ret ?_
        refine wQ_post (rs := [.cell 4 93, .tmp 5]) (vs := [.agg #[.int .i64 0, .int .i64 0, .int .i64 0, .int .i64 0], .bool true]) rfl ⟨⟨_, rfl, res_row 0 S61 rfl Try.underlying93 rfl inf93⟩, rfl, trivial⟩ ?_
        have S62 : St B w0 w60 (_ :: _ :: _ :: fs) := (St.del 0 (St.del 1 S61))
        clear S61
        have S63 := S62.sealAll 1 rfl
        clear S62
        change St _ _ _ (_ :: (.rdo 2 Ab (rs.length + ls.length) ((d49).flatMap Msg.cells)) :: _ :: fs) at S63
        have S64 := S63.seal 2 rfl Rd.none_ (fun (a : Addr) (h : (none : Option Addr) = some a) => by cases h)
        clear S63
        change St _ _ _ (_ :: _ :: (.rdo 4 none 0 ((([] : List Ls)).flatMap Ls.cells)) :: fs) at S64
        have hln : d49.length = rs.length + ls.length := by rw [hp50.length_eq, hml]
        rw [end_ok h1, ← hdl]
        refine ⟨rfl, Ab, cb, none, 0, ?_⟩
        dsimp only
        rw [hln]
        exact S64
end Go.Proofs.Ytkjlafpafmihaaa

namespace Go.Proofs.Ytkjlafpafmihaaa
open Go.ChangeShapes Go.WideShapes Go.ChangeAt Go.RowKit Go.ChangeMaps Go.MapKept
open Go.Maps (Keyed IsMap Tidy)
def funElem (v : Value) : Option (DataW Value × List MemPlace) := some (.held v, [])
/-- A map object of at most n entries: where f has a value, that is what lies there. -/
def FMap (P : Program) (k : TypeId) (f : Int → Option Value) (n : Nat) (o : Obj) : Prop := ∃ es clock, o = .map es clock ∧
  ∀ (w : World) (b : Nat), w.heap[b]? = some o → ∃ D : DataW Value, w.ownsMap P k funElem b n D ∧ ∀ z v, f z = some v → ∀ zd, D.atKey (.int .i64 z) zd = .held v
section
variable {P : Program} {N : Nat} {l : Slots} {w w' w0 : World} {B : Nat} {fs : List Fact} {ops : Array Oper} {o : Oper} {rest : List Oper} {Q : Exit → Act → World → Prop} {d : Nat}
theorem fmap_of {k : TypeId} {f : Int → Option Value} {n b : Nat} {D : DataW Value} (ho : w.ownsMap P k funElem b n D) (hf : ∀ z v, f z = some v → ∀ zd, D.atKey (.int .i64 z) zd = .held v) : ∃ o, w.heap[b]? = some o ∧ FMap P k f n o := by
  obtain ⟨es, clock, hb, F, hsz, hD⟩ := ho
  exact ⟨_, hb, es, clock, rfl, fun w2 b2 h2 => ⟨D, ⟨es, clock, h2, F, hsz, hD⟩, hf⟩⟩
theorem fmap_new {k : TypeId} : FMap P k (fun _ => none) 0 (.map #[] 0) := by
  have h := World.ownsMap_made default P k funElem
  obtain ⟨o, h1, h2⟩ := fmap_of (f := fun _ => none) h (fun z v hv => by cases hv)
  have : (World.alloc default (Obj.map #[] 0)).heap[(default : World).heap.size]? = some (.map #[] 0) := by
    show ((default : World).heap.push _)[_]? = _
    rw [Array.getElem?_push, if_pos rfl]
  rw [this] at h1
  cases h1
  exact h2
theorem wL_makeF {t k : TypeId} (S : St B w0 w fs) (hw : Wanted N ops l o true) (hd : o.dst = some d) (hN : Nat.blt d N = true) (ho : o.op = .makeMap t none)
    (h : ∀ b w', St B w0 w' (.loc b (FMap P k (fun _ => none) 0) :: fs) → wL P N ops Q rest ((d, .map (some b)) :: l) w') : wL P N ops Q (o :: rest) l w :=
  wL_to hw hd hN (d_makeMap ho (run_makeMap t w)) (h _ _ (S.allocLoc fmap_new))
theorem f_insert {t : TypeId} {m x y : Operand} {p q r : Value} (ho : o.op = .insert t m x y) (hm : ev l m = some p) (hx : ev l x = some q) (hy : ev l y = some r) (hr : (Instr.mapUpdate t p q r).run P w = .ok () w') : Eff P N l o w w' := fun a F => by
  unfold execOp
  simp [ho, F.ev hm, F.ev hx, F.ev hy, hr, Result.andThen]
/-- .. 'z: v' .. -/
theorem wL_insF {t k e : TypeId} {m x y : Operand} {b n : Nat} {f : Int → Option Value} {z : Int} {v : Value} (i : Nat) (S : St B w0 w fs) (hw : Wanted N ops l o true) (hd : o.dst = none) (ho : o.op = .insert t m x y) (hm : ev l m = some (.map (some b))) (hx : ev l x = some (.int .i64 z)) (hy : ev l y = some v)
    (hi : fs[i]? = some (.loc b (FMap P k f n))) (hk : P.underlying k = some (.int .i64)) (ht : P.underlying t = some (.map k e)) (hz : -9223372036854775808 ≤ z ∧ z ≤ 9223372036854775807) (hn : n < maxLen)
    (h : ∀ w', St B w0 w' (fs.set i (.loc b (FMap P k (fun y => if y = z then some v else f y) (n + 1)))) → wL P N ops Q rest l w') : wL P N ops Q (o :: rest) l w := by
  obtain ⟨ob, hb, es, clock, rfl, hall⟩ := S.loc i hi
  obtain ⟨D, hown, hf⟩ := hall w b hb
  have K : Keyed P k := Maps.int_keyed hk
  have hkey : keyOf P k (.int .i64 z) = some (.int .i64 z) := Maps.keyOf_int_mk hk (by simp [Lit.wf, IntKind.min, IntKind.max, IntKind.signed, IntKind.bits]; omega)
  obtain ⟨w', hrun, hown', htu⟩ := hown.store K ht hn hkey (d := .held v) (ps := []) rfl
  have hlk : WideAt.IsKeyLit (.int .i64 z) := trivial
  have hmap := hown.isMap
  obtain ⟨o', ho', hR⟩ := fmap_of (f := fun y => if y = z then some v else f y) hown' (fun y u hu zd => by
    by_cases e : y = z
    · subst e
      rw [if_pos rfl] at hu
      cases hu
      exact Maps.atKey_put_same hmap hlk _ _
    · rw [if_neg e] at hu
      rw [Maps.atKey_put_other (by simpa using e)]
      exact hf y u hu zd)
  have hu : Upd w b w' := by
    obtain ⟨es1, c1, es2, c2, h1, rfl⟩ := htu
    exact ⟨rfl, rfl, rfl, by simp [setBlock], fun j hj => heap_setBlock_other h1 _ hj⟩
  exact wL_eff hw hd (f_insert ho hm hx hy hrun) (h _ (S.setLoc i hi hu ho' hR))
/-- 'm[z]', where f says what lies. -/
theorem y_lookF {t k e : TypeId} {x y : Operand} {b n : Nat} {f : Int → Option Value} {z : Int} {v u : Value} (i : Nat) (S : St B w0 w fs) (ho : o.op = .lookup t x y false) (hx : ev l x = some (.map (some b))) (hy : ev l y = some (.int .i64 z))
    (hi : fs[i]? = some (.loc b (FMap P k f n))) (hk : P.underlying k = some (.int .i64)) (ht : P.underlying t = some (.map k e)) (hu : (zeroValue e).run P w = .ok u w) (hz : -9223372036854775808 ≤ z ∧ z ≤ 9223372036854775807) (hf : f z = some v) : Yld P N l o w v := fun a F => by
  obtain ⟨ob, hb, es, clock, rfl, hall⟩ := S.loc i hi
  obtain ⟨D, hown, hD⟩ := hall w b hb
  have K : Keyed P k := Maps.int_keyed hk
  have hkey : keyOf P k (.int .i64 z) = some (.int .i64 z) := Maps.keyOf_int_mk hk (by simp [Lit.wf, IntKind.min, IntKind.max, IntKind.signed, IntKind.bits]; omega)
  obtain ⟨v', ps, hrun, hR⟩ := hown.lookup K ht hu (zd := .held u) (zp := []) rfl hkey
  rw [hD z v hf] at hR
  simp only [funElem, Option.some.injEq, Prod.mk.injEq, DataW.held.injEq] at hR
  obtain ⟨rfl, _⟩ := hR
  unfold execOp
  simp [ho, F.ev hx, F.ev hy, hrun, Result.andThen]
end
end Go.Proofs.Ytkjlafpafmihaaa

