/- Parts of proofs: lemmas on memory, on single functions and on the plain models; no condition of their own. -/
import Derived.Test.YtkjlafpafmihaaaRows
import Derived.WalkKit
import Derived.ProofKit
import Derived.OpenShut
import Derived.SizedLaws
import Derived.WalkSpells
import Derived.WalkLawsBesides
import Derived.Handy
import Derived.Deep.QuietTactic
import Derived.BigQuiet
import Derived.Lib.Hide
import Derived.Maps.AppendAt
import Derived.Deep.AppendLies
import Derived.RegionTactic
import Derived.OwnWalk
import Derived.Laws.Tables
import Derived.Deep.MidRow
import Derived.StillTailTactics
import Derived.OrdersHeld
import Derived.Deep.RegionHeld3
import Derived.Laws.IdiomCopy
import Derived.ChangeKeysEq
import Derived.Laws.BitsAllLaws
import Derived.Deep.DeepCutAuto
import Derived.Deep.CutRange
import Derived.Shelf.SlSortCmp.WholeK
import Derived.Shelf.SlSortCmp.NoneTotal
import Derived.Shelf.SlicesG.Cmp
import Derived.Shelf.SlGeneric
import Derived.Ground.SlsfProg
import Derived.Ground.SlgcProg
import Derived.Maps.OwnSet
import Derived.Lib.SliceRun
import Derived.Deep.RegionLaw
import Derived.Test.YtkjlafpafmihaaaG06e1f1d2e814
import Derived.Test.YtkjlafpafmihaaaG0e35ec4e0bdc
import Derived.Test.YtkjlafpafmihaaaG136b60be5425
import Derived.Test.YtkjlafpafmihaaaG2143c9b0b786
import Derived.Test.YtkjlafpafmihaaaG2955b7bf0201
import Derived.Test.YtkjlafpafmihaaaG3cad135f796d
import Derived.Test.YtkjlafpafmihaaaG4616653cfbd3
import Derived.Test.YtkjlafpafmihaaaG668153da7687
import Derived.Test.YtkjlafpafmihaaaG69ea6f18ea30
import Derived.Test.YtkjlafpafmihaaaG7f9bde47e941
import Derived.Test.YtkjlafpafmihaaaG8ba6bfb0af5b
import Derived.Test.YtkjlafpafmihaaaG9d6a0cc61d66
import Derived.Test.YtkjlafpafmihaaaGa67dcf529610
import Derived.Test.YtkjlafpafmihaaaGa89c1a6f9966
import Derived.Test.YtkjlafpafmihaaaGa956530333d6
import Derived.Test.YtkjlafpafmihaaaGad4fca606e19
import Derived.Test.YtkjlafpafmihaaaGb06670d46fbe
import Derived.Test.YtkjlafpafmihaaaGb5d816382606
import Derived.Test.YtkjlafpafmihaaaGb705d1f06a25
import Derived.Test.YtkjlafpafmihaaaGc78e27da6ed6
import Derived.Test.YtkjlafpafmihaaaGf3cc171333c0
import Derived.Test.YtkjlafpafmihaaaGfed51b8f206e
set_option linter.unusedVariables false
set_option linter.unusedSimpArgs false

namespace Go.Proofs.Ytkjlafpafmihaaa
open Go.ChangeShapes Go.WideShapes Go.RowKit

set_option maxRecDepth 100000 in
set_option maxHeartbeats 1000000 in
theorem Begin_calls (ro ep fr tg rd : Int) (A : Option Addr) (c : Nat) (l : List Ev) (e f : Int) (w : World) (h : Rd w w.heap.size 6 A l.length (evCells l)) (hb : l.length * 48 ≤ reachBytes) :
    Calls Try.prog 88 #[.agg #[.int .i64 ro, .int .i64 ep, .int .i64 fr, .int .i64 tg, .int .i64 rd, .slice A l.length c], .int .i64 e, .int .i64 f] w (BrtPost w (beginM ⟨ro, ep, fr, tg, rd, l⟩ e f)) := by
 have S := (St.start w).addRd h; clear h
 have hb2 := hb
 unfold reachBytes at hb2
 refine calls_of_wC (N := 66) (vs := [.agg #[.int .i64 ro, .int .i64 ep, .int .i64 fr, .int .i64 tg, .int .i64 rd, .slice A l.length c], .int .i64 e, .int .i64 f]) Try.func88 rfl rfl rfl ?_
 refine wC_sub (l' := [(0, .agg #[.int .i64 ro, .int .i64 ep, .int .i64 fr, .int .i64 tg, .int .i64 rd, .slice A l.length c]), (1, .int .i64 e), (2, .int .i64 f)]) ⟨rfl, rfl, rfl, trivial⟩ (wC_seq (wC_region (wL_new (V := fun b => .pointer (some ⟨b, 0, none⟩)) (row := #[.int .i64 ro, .int .i64 ep, .int .i64 fr, .int .i64 tg, .int .i64 rd, .slice A l.length c]) (t := 108) S (wn rfl) rfl rfl (d_box rfl rfl rfl) ?_))); intro b1 w2 S3; clear S
 refine wL_new (V := fun b => .pointer (some ⟨b, 0, none⟩)) (row := #[.int .i64 0, .int .i64 0, .int .i64 0, .int .i64 0, .int .i64 0, .slice none 0 0]) (t := 108) S3 (wn rfl) rfl rfl (d_alloc rfl (Try.zeroValue108 _) rfl) ?_; intro b4 w5 S6; clear S3
 refine wL_val (wn rfl) rfl rfl (y_assign rfl rfl) ?_
 refine wL_nil (wQ_sub (l' := [(1, _), (2, _), (3, _), (6, _), (7, _)]) ⟨rfl, rfl, rfl, rfl, rfl, trivial⟩ (wQ_then (wC_seq (wC_seq (wC_region (wL_val (wn rfl) rfl rfl (y_load rfl rfl (r_load_row 1 S6 rfl Try.underlying108 rfl inf108 rfl)) ?_))))))
 refine wL_call (vs := [.agg #[.int .i64 ro, .int .i64 ep, .int .i64 fr, .int .i64 tg, .int .i64 rd, .slice A l.length c]]) (wn rfl) rfl rfl (e_call (vs := [.agg #[.int .i64 ro, .int .i64 ep, .int .i64 fr, .int .i64 tg, .int .i64 rd, .slice A l.length c]]) rfl en76 ⟨rfl, trivial⟩) (BCheck_calls ro ep fr tg rd A c l _ (St.rd 2 S6 rfl) (by omega)) ?_
 rintro _ w7 ⟨rfl, hb9⟩
 refine ⟨_, rfl, ?_⟩
 have S8 := S6.on hb9; clear hb9 S6
 refine wL_val (wn rfl) rfl rfl (y_assign rfl rfl) ?_
 refine wL_nil (wQ_sub (l' := [(1, _), (2, _), (3, _), (6, _), (7, _), (8, _)]) ⟨rfl, rfl, rfl, rfl, rfl, rfl, trivial⟩ (wQ_then (wC_block (wC_seq (wC_region (wL_val (wn rfl) rfl rfl (y_move rfl rfl) ?_))))))
 by_cases h10 : brtFault ⟨ro, ep, fr, tg, rd, l⟩ = 0
 ·have hsh := (bf_zero h10).1
  unfold shapeB at hsh
  have hln := tellM_len (bf_zero h10).2
  dsimp only at hsh hln
  refine wL_val (v := .bool false) (wn rfl) rfl rfl (y_binop rfl rfl rfl (r_neq_f h10)) ?_
  refine wL_val (wn rfl) rfl rfl (y_assign rfl rfl) ?_
  refine wL_nil (wQ_sub (l' := [(1, _), (2, _), (3, _), (6, _), (7, _), (8, _), (11, _)]) ⟨rfl, rfl, rfl, rfl, rfl, rfl, rfl, trivial⟩ (wQ_then (wC_cond_f rfl (wC_seq (wC_region (wL_val (wn rfl) rfl rfl (y_move rfl rfl) ?_))))))
  by_cases h11 : e < 1
  ·refine wL_val (v := .bool true) (wn rfl) rfl rfl (y_binop rfl rfl rfl (r_lss_t h11)) ?_
   refine wL_val (wn rfl) rfl rfl (y_move rfl rfl) ?_
   refine wL_skip (wg rfl rfl rfl rfl) rfl rfl ?_
   refine wL_skip (wg rfl rfl rfl rfl) rfl rfl ?_
   refine wL_val (wn rfl) rfl rfl (y_pick_t rfl rfl rfl) ?_
   refine wL_val (wn rfl) rfl rfl (y_move rfl rfl) ?_
   refine wL_skip (wg rfl rfl rfl rfl) rfl rfl ?_
   refine wL_skip (wg rfl rfl rfl rfl) rfl rfl ?_
   refine wL_skip (wg rfl rfl rfl rfl) rfl rfl ?_
   refine wL_val (wn rfl) rfl rfl (y_pick_t rfl rfl rfl) ?_
   refine wL_val (wn rfl) rfl rfl (y_assign rfl rfl) ?_
   refine wL_nil (wQ_sub (l' := [(1, _), (2, _), (3, _), (6, _), (7, _), (16, _)]) ⟨rfl, rfl, rfl, rfl, rfl, rfl, trivial⟩ (wQ_then (wC_cond_t rfl (wC_seq (wC_region (wL_val (v := .agg #[.int .i64 0, .int .i64 0, .int .i64 0, .int .i64 0, .int .i64 0, .slice none 0 0]) (wn rfl) rfl rfl (y_build (vs := []) rfl trivial (by kernel_rfl)) ?_))))))
   refine wL_st (fs' := [_, _, _]) 0 S8 (wn rfl) rfl rfl rfl rfl rfl rfl inf108 rfl (oneAll rfl) (Nat.le_of_ble_eq_true rfl) (setAll_all rfl) rfl ?_; intro w12 S13; clear S8
   refine wL_val (wn rfl) rfl rfl (y_assign rfl rfl) ?_
   refine wL_nil (wQ_sub (l' := [(6, _), (7, _)]) ⟨rfl, rfl, trivial⟩ (wQ_then (wC_ret (wQ_blk_ret (wQ_then_ret (wQ_post (rs := [.cell 6 108, .tmp 7]) (vs := [.agg #[.int .i64 0, .int .i64 0, .int .i64 0, .int .i64 0, .int .i64 0, .slice none 0 0], .int .i64 2]) rfl ⟨⟨_, rfl, res_row 0 S13 rfl Try.underlying108 rfl inf108⟩, rfl, trivial⟩ ?_))))))
   have S14 : St w.heap.size w w12 [] := (St.del 0 (St.del 1 (St.del 2 S13))); clear S13
   rw [show beginM ⟨ro, ep, fr, tg, rd, l⟩ e f = (⟨0, 0, 0, 0, 0, []⟩, 2) from by unfold beginM; (try dsimp only); (repeat' (first | rfl | omega | split)) <;> (simp only [Prod.mk.injEq, Brt.mk.injEq, and_true, true_and, and_self]; omega)]
   exact ⟨none, 0, rfl, rdo_nil S14⟩
  ·refine wL_val (v := .bool false) (wn rfl) rfl rfl (y_binop rfl rfl rfl (r_lss_f h11)) ?_
   refine wL_val (wn rfl) rfl rfl (y_move rfl rfl) ?_
   refine wL_val (wg rfl rfl rfl rfl) rfl rfl (y_move rfl rfl) ?_
   by_cases h15 : 1048576 < e
   ·refine wL_val (v := .bool true) (wg rfl rfl rfl rfl) rfl rfl (y_binop rfl rfl rfl (r_gtr_t h15)) ?_
    refine wL_val (wn rfl) rfl rfl (y_pick_f rfl rfl rfl) ?_
    refine wL_val (wn rfl) rfl rfl (y_move rfl rfl) ?_
    refine wL_skip (wg rfl rfl rfl rfl) rfl rfl ?_
    refine wL_skip (wg rfl rfl rfl rfl) rfl rfl ?_
    refine wL_skip (wg rfl rfl rfl rfl) rfl rfl ?_
    refine wL_val (wn rfl) rfl rfl (y_pick_t rfl rfl rfl) ?_
    refine wL_val (wn rfl) rfl rfl (y_assign rfl rfl) ?_
    refine wL_nil (wQ_sub (l' := [(1, _), (2, _), (3, _), (6, _), (7, _), (16, _)]) ⟨rfl, rfl, rfl, rfl, rfl, rfl, trivial⟩ (wQ_then (wC_cond_t rfl (wC_seq (wC_region (wL_val (v := .agg #[.int .i64 0, .int .i64 0, .int .i64 0, .int .i64 0, .int .i64 0, .slice none 0 0]) (wn rfl) rfl rfl (y_build (vs := []) rfl trivial (by kernel_rfl)) ?_))))))
    refine wL_st (fs' := [_, _, _]) 0 S8 (wn rfl) rfl rfl rfl rfl rfl rfl inf108 rfl (oneAll rfl) (Nat.le_of_ble_eq_true rfl) (setAll_all rfl) rfl ?_; intro w16 S17; clear S8
    refine wL_val (wn rfl) rfl rfl (y_assign rfl rfl) ?_
    refine wL_nil (wQ_sub (l' := [(6, _), (7, _)]) ⟨rfl, rfl, trivial⟩ (wQ_then (wC_ret (wQ_blk_ret (wQ_then_ret (wQ_post (rs := [.cell 6 108, .tmp 7]) (vs := [.agg #[.int .i64 0, .int .i64 0, .int .i64 0, .int .i64 0, .int .i64 0, .slice none 0 0], .int .i64 2]) rfl ⟨⟨_, rfl, res_row 0 S17 rfl Try.underlying108 rfl inf108⟩, rfl, trivial⟩ ?_))))))
    have S18 : St w.heap.size w w16 [] := (St.del 0 (St.del 1 (St.del 2 S17))); clear S17
    rw [show beginM ⟨ro, ep, fr, tg, rd, l⟩ e f = (⟨0, 0, 0, 0, 0, []⟩, 2) from by unfold beginM; (try dsimp only); (repeat' (first | rfl | omega | split)) <;> (simp only [Prod.mk.injEq, Brt.mk.injEq, and_true, true_and, and_self]; omega)]
    exact ⟨none, 0, rfl, rdo_nil S18⟩
   ·refine wL_val (v := .bool false) (wg rfl rfl rfl rfl) rfl rfl (y_binop rfl rfl rfl (r_gtr_f h15)) ?_
    refine wL_val (wn rfl) rfl rfl (y_pick_f rfl rfl rfl) ?_
    refine wL_val (wn rfl) rfl rfl (y_move rfl rfl) ?_
    refine wL_val (wg rfl rfl rfl rfl) rfl rfl (y_move rfl rfl) ?_
    by_cases hp19 : 0 ≤ f ∧ f < 5
    ·have HC20 := fun (w : World) => node_calls f w
     rw [decide_eq_true hp19] at HC20
     refine wL_call (vs := [.int .i64 f]) (wg rfl rfl rfl rfl) rfl rfl (e_call (vs := [.int .i64 f]) rfl en161 ⟨rfl, trivial⟩) (HC20 _) ?_
     rintro _ w21 ⟨rfl, hb23⟩
     refine ⟨_, rfl, ?_⟩
     have S22 := S8.on hb23; clear hb23 S8; clear HC20
     refine wL_val (v := .bool false) (wg rfl rfl rfl rfl) rfl rfl (y_unop rfl rfl r_not) ?_
     refine wL_val (wn rfl) rfl rfl (y_pick_f rfl rfl rfl) ?_
     refine wL_val (wn rfl) rfl rfl (y_assign rfl rfl) ?_
     refine wL_nil (wQ_sub (l' := [(1, _), (2, _), (3, _), (6, _), (7, _), (16, _)]) ⟨rfl, rfl, rfl, rfl, rfl, rfl, trivial⟩ (wQ_then (wC_cond_f rfl (wC_seq (wC_region (wL_val (v := .pointer (some ⟨b1, 0, none⟩)) (wn rfl) rfl rfl (y_fieldAddr rfl rfl (fa108_0 _ _ _)) ?_))))))
     refine wL_val (wn rfl) rfl rfl (y_load rfl rfl (r_load Try.underlying3 rfl (St.cl 1 S22 rfl rfl))) ?_
     by_cases h24 : ro = 0
     ·refine wL_val (v := .bool false) (wn rfl) rfl rfl (y_binop rfl rfl rfl (r_neq_f h24)) ?_
      refine wL_val (wn rfl) rfl rfl (y_move rfl rfl) ?_
      refine wL_skip (wg rfl rfl rfl rfl) rfl rfl ?_
      refine wL_skip (wg rfl rfl rfl rfl) rfl rfl ?_
      refine wL_skip (wg rfl rfl rfl rfl) rfl rfl ?_
      refine wL_val (wn rfl) rfl rfl (y_pick_f rfl rfl rfl) ?_
      refine wL_val (wn rfl) rfl rfl (y_assign rfl rfl) ?_
      refine wL_nil (wQ_sub (l' := [(1, _), (2, _), (3, _), (6, _), (7, _), (29, _)]) ⟨rfl, rfl, rfl, rfl, rfl, rfl, trivial⟩ (wQ_then (wC_cond_f rfl (wC_seq (wC_region (wL_val (v := .pointer (some ⟨b1, 0, none⟩)) (wn rfl) rfl rfl (y_fieldAddr rfl rfl (fa108_0 _ _ _)) ?_))))))
      refine wL_val (wn rfl) rfl rfl (y_load rfl rfl (r_load Try.underlying3 rfl (St.cl 1 S22 rfl rfl))) ?_
      refine wL_val (v := .bool false) (wn rfl) rfl rfl (y_binop rfl rfl rfl (r_eql_f (by omega))) ?_
      refine wL_val (wn rfl) rfl rfl (y_move rfl rfl) ?_
      refine wL_skip (wg rfl rfl rfl rfl) rfl rfl ?_
      refine wL_skip (wg rfl rfl rfl rfl) rfl rfl ?_
      refine wL_skip (wg rfl rfl rfl rfl) rfl rfl ?_
      refine wL_skip (wg rfl rfl rfl rfl) rfl rfl ?_
      refine wL_val (wn rfl) rfl rfl (y_pick_f rfl rfl rfl) ?_
      refine wL_val (wn rfl) rfl rfl (y_move rfl rfl) ?_
      refine wL_skip (wg rfl rfl rfl rfl) rfl rfl ?_
      refine wL_skip (wg rfl rfl rfl rfl) rfl rfl ?_
      refine wL_skip (wg rfl rfl rfl rfl) rfl rfl ?_
      refine wL_skip (wg rfl rfl rfl rfl) rfl rfl ?_
      refine wL_val (wn rfl) rfl rfl (y_pick_f rfl rfl rfl) ?_
      refine wL_val (wn rfl) rfl rfl (y_assign rfl rfl) ?_
      refine wL_nil (wQ_sub (l' := [(1, _), (2, _), (3, _), (6, _), (7, _), (39, _)]) ⟨rfl, rfl, rfl, rfl, rfl, rfl, trivial⟩ (wQ_then (wC_cond_f rfl (wC_seq (wC_region (wL_val (v := .pointer (some ⟨b1, 1, none⟩)) (wn rfl) rfl rfl (y_fieldAddr rfl rfl (fa108_1 _ _ _)) ?_))))))
      refine wL_val (wn rfl) rfl rfl (y_load rfl rfl (r_load Try.underlying3 rfl (St.cl 1 S22 rfl rfl))) ?_
      refine wL_val (wn rfl) rfl rfl (y_move rfl rfl) ?_
      by_cases h25 : e ≤ ep
      ·refine wL_val (v := .bool true) (wn rfl) rfl rfl (y_binop rfl rfl rfl (r_geq_t h25)) ?_
       refine wL_val (wn rfl) rfl rfl (y_assign rfl rfl) ?_
       refine wL_nil (wQ_sub (l' := [(1, _), (2, _), (6, _), (7, _), (57, _)]) ⟨rfl, rfl, rfl, rfl, rfl, trivial⟩ (wQ_then (wC_cond_t rfl (wC_seq (wC_region (wL_val (v := .agg #[.int .i64 0, .int .i64 0, .int .i64 0, .int .i64 0, .int .i64 0, .slice none 0 0]) (wn rfl) rfl rfl (y_build (vs := []) rfl trivial (by kernel_rfl)) ?_))))))
       refine wL_st (fs' := [_, _, _]) 0 S22 (wn rfl) rfl rfl rfl rfl rfl rfl inf108 rfl (oneAll rfl) (Nat.le_of_ble_eq_true rfl) (setAll_all rfl) rfl ?_; intro w26 S27; clear S22
       refine wL_val (wn rfl) rfl rfl (y_assign rfl rfl) ?_
       refine wL_nil (wQ_sub (l' := [(6, _), (7, _)]) ⟨rfl, rfl, trivial⟩ (wQ_then (wC_ret (wQ_blk_ret (wQ_then_ret (wQ_post (rs := [.cell 6 108, .tmp 7]) (vs := [.agg #[.int .i64 0, .int .i64 0, .int .i64 0, .int .i64 0, .int .i64 0, .slice none 0 0], .int .i64 15]) rfl ⟨⟨_, rfl, res_row 0 S27 rfl Try.underlying108 rfl inf108⟩, rfl, trivial⟩ ?_))))))
       have S28 : St w.heap.size w w26 [] := (St.del 0 (St.del 1 (St.del 2 S27))); clear S27
       rw [show beginM ⟨ro, ep, fr, tg, rd, l⟩ e f = (⟨0, 0, 0, 0, 0, []⟩, 15) from by unfold beginM; (try dsimp only); (repeat' (first | rfl | omega | split)) <;> (simp only [Prod.mk.injEq, Brt.mk.injEq, and_true, true_and, and_self]; omega)]
       exact ⟨none, 0, rfl, rdo_nil S28⟩
      ·refine wL_val (v := .bool false) (wn rfl) rfl rfl (y_binop rfl rfl rfl (r_geq_f h25)) ?_
       refine wL_val (wn rfl) rfl rfl (y_assign rfl rfl) ?_
       refine wL_nil (wQ_sub (l' := [(1, _), (2, _), (6, _), (7, _), (57, _)]) ⟨rfl, rfl, rfl, rfl, rfl, trivial⟩ (wQ_then (wC_cond_f rfl (wC_skip (wQ_blk_n (wQ_then (wC_seq (wC_region (wL_val (wn rfl) rfl rfl (y_move rfl rfl) ?_)))))))))
       refine wL_val (wn rfl) rfl rfl (y_move rfl rfl) ?_
       refine wL_val (v := .agg #[.int .i64 4, .int .i64 e, .int .i64 f, .int .i64 0, .int .i64 0, .slice none 0 0]) (wn rfl) rfl rfl (y_build (vs := [(0, .int .i64 4), (1, .int .i64 e), (2, .int .i64 f)]) rfl ⟨rfl, rfl, rfl, rfl, rfl, rfl, trivial⟩ (by kernel_rfl)) ?_
       refine wL_st (fs' := [_, _, _]) 0 S22 (wn rfl) rfl rfl rfl rfl rfl rfl inf108 rfl (oneAll rfl) (Nat.le_of_ble_eq_true rfl) (setAll_all rfl) rfl ?_; intro w29 S30; clear S22
       refine wL_val (wn rfl) rfl rfl (y_assign rfl rfl) ?_
       refine wL_nil (wQ_sub (l' := [(6, _), (7, _)]) ⟨rfl, rfl, trivial⟩ (wQ_then (wC_ret (wQ_post (rs := [.cell 6 108, .tmp 7]) (vs := [.agg #[.int .i64 4, .int .i64 e, .int .i64 f, .int .i64 0, .int .i64 0, .slice none 0 0], .int .i64 0]) rfl ⟨⟨_, rfl, res_row 0 S30 rfl Try.underlying108 rfl inf108⟩, rfl, trivial⟩ ?_))))
       have S31 : St w.heap.size w w29 [] := (St.del 0 (St.del 1 (St.del 2 S30))); clear S30
       rw [show beginM ⟨ro, ep, fr, tg, rd, l⟩ e f = (⟨4, e, f, 0, 0, []⟩, 0) from by unfold beginM; (try dsimp only); (repeat' (first | rfl | omega | split)) <;> (simp only [Prod.mk.injEq, Brt.mk.injEq, and_true, true_and, and_self]; omega)]
       exact ⟨none, 0, rfl, rdo_nil S31⟩
     ·refine wL_val (v := .bool true) (wn rfl) rfl rfl (y_binop rfl rfl rfl (r_neq_t h24)) ?_
      refine wL_val (wn rfl) rfl rfl (y_move rfl rfl) ?_
      refine wL_val (v := .pointer (some ⟨b1, 0, none⟩)) (wg rfl rfl rfl rfl) rfl rfl (y_fieldAddr rfl rfl (fa108_0 _ _ _)) ?_
      refine wL_val (wg rfl rfl rfl rfl) rfl rfl (y_load rfl rfl (r_load Try.underlying3 rfl (St.cl 1 S22 rfl rfl))) ?_
      by_cases h32 : ro = 4
      ·refine wL_val (v := .bool false) (wg rfl rfl rfl rfl) rfl rfl (y_binop rfl rfl rfl (r_neq_f h32)) ?_
       refine wL_val (wn rfl) rfl rfl (y_pick_t rfl rfl rfl) ?_
       refine wL_val (wn rfl) rfl rfl (y_assign rfl rfl) ?_
       refine wL_nil (wQ_sub (l' := [(1, _), (2, _), (3, _), (6, _), (7, _), (29, _)]) ⟨rfl, rfl, rfl, rfl, rfl, rfl, trivial⟩ (wQ_then (wC_cond_f rfl (wC_seq (wC_region (wL_val (v := .pointer (some ⟨b1, 0, none⟩)) (wn rfl) rfl rfl (y_fieldAddr rfl rfl (fa108_0 _ _ _)) ?_))))))
       refine wL_val (wn rfl) rfl rfl (y_load rfl rfl (r_load Try.underlying3 rfl (St.cl 1 S22 rfl rfl))) ?_
       refine wL_val (v := .bool true) (wn rfl) rfl rfl (y_binop rfl rfl rfl (r_eql_t h32)) ?_
       refine wL_val (wn rfl) rfl rfl (y_move rfl rfl) ?_
       refine wL_val (v := .pointer (some ⟨b1, 1, none⟩)) (wg rfl rfl rfl rfl) rfl rfl (y_fieldAddr rfl rfl (fa108_1 _ _ _)) ?_
       refine wL_val (wg rfl rfl rfl rfl) rfl rfl (y_load rfl rfl (r_load Try.underlying3 rfl (St.cl 1 S22 rfl rfl))) ?_
       refine wL_val (wg rfl rfl rfl rfl) rfl rfl (y_move rfl rfl) ?_
       by_cases h33 : ep = e
       ·refine wL_val (v := .bool true) (wg rfl rfl rfl rfl) rfl rfl (y_binop rfl rfl rfl (r_eql_t h33)) ?_
        refine wL_val (wn rfl) rfl rfl (y_pick_t rfl rfl rfl) ?_
        refine wL_val (wn rfl) rfl rfl (y_move rfl rfl) ?_
        refine wL_val (v := .pointer (some ⟨b1, 2, none⟩)) (wg rfl rfl rfl rfl) rfl rfl (y_fieldAddr rfl rfl (fa108_2 _ _ _)) ?_
        refine wL_val (wg rfl rfl rfl rfl) rfl rfl (y_load rfl rfl (r_load Try.underlying3 rfl (St.cl 1 S22 rfl rfl))) ?_
        refine wL_val (wg rfl rfl rfl rfl) rfl rfl (y_move rfl rfl) ?_
        by_cases h34 : fr = f
        ·refine wL_val (v := .bool true) (wg rfl rfl rfl rfl) rfl rfl (y_binop rfl rfl rfl (r_eql_t h34)) ?_
         refine wL_val (wn rfl) rfl rfl (y_pick_t rfl rfl rfl) ?_
         refine wL_val (wn rfl) rfl rfl (y_assign rfl rfl) ?_
         refine wL_nil (wQ_sub (l' := [(1, _), (2, _), (3, _), (6, _), (7, _), (39, _)]) ⟨rfl, rfl, rfl, rfl, rfl, rfl, trivial⟩ (wQ_then (wC_cond_t rfl (wC_seq (wC_region (wL_val (wn rfl) rfl rfl (y_load rfl rfl (r_load_row 1 S22 rfl Try.underlying108 rfl inf108 rfl)) ?_))))))
         refine wL_call (vs := [.agg #[.int .i64 ro, .int .i64 ep, .int .i64 fr, .int .i64 tg, .int .i64 rd, .slice A l.length c], .slice none 0 0]) (wn rfl) rfl rfl (e_call (vs := [.agg #[.int .i64 ro, .int .i64 ep, .int .i64 fr, .int .i64 tg, .int .i64 rd, .slice A l.length c], .slice none 0 0]) rfl en160 ⟨rfl, rfl, trivial⟩) (with0_calls ro ep fr tg rd A c l _ (St.rd 2 S22 rfl) hb) ?_
         rintro _ w37 ⟨A35, c36, rfl, T39⟩
         refine ⟨_, rfl, ?_⟩
         have S38 := S22.ext T39 rfl; clear T39 S22
         change St _ _ _ [.own 37 6 (.slice A35 l.length c36) l.length ((l).flatMap Ev.cells), _, _, _] at S38
         refine wL_st (fs' := [_, _, _, _]) 1 S38 (wn rfl) rfl rfl rfl rfl rfl rfl inf108 rfl (oneAll rfl) (Nat.le_of_ble_eq_true rfl) (setAll_all rfl) rfl ?_; intro w40 S41; clear S38
         refine wL_val (wn rfl) rfl rfl (y_assign rfl rfl) ?_
         refine wL_nil (wQ_sub (l' := [(6, _), (7, _)]) ⟨rfl, rfl, trivial⟩ (wQ_then (wC_ret (wQ_blk_ret (wQ_then_ret (wQ_post (rs := [.cell 6 108, .tmp 7]) (vs := [.agg #[.int .i64 ro, .int .i64 ep, .int .i64 fr, .int .i64 tg, .int .i64 rd, .slice A35 l.length c36], .int .i64 0]) rfl ⟨⟨_, rfl, res_row 1 S41 rfl Try.underlying108 rfl inf108⟩, rfl, trivial⟩ ?_))))))
         have S42 : St w.heap.size w w40 [_] := (St.del 1 (St.del 2 (St.del 3 S41))); clear S41
         have S43 := S42.sealAll 0 rfl; clear S42
         change St _ _ _ [.rdo 6 A35 l.length ((l).flatMap Ev.cells)] at S43
         rw [show beginM ⟨ro, ep, fr, tg, rd, l⟩ e f = (⟨ro, ep, fr, tg, rd, l⟩, 0) from by unfold beginM; (try dsimp only); (repeat' (first | rfl | omega | split)) <;> (simp only [Prod.mk.injEq, Brt.mk.injEq, and_true, true_and, and_self]; omega)]
         exact ⟨A35, c36, rfl, S43⟩
        ·refine wL_val (v := .bool false) (wg rfl rfl rfl rfl) rfl rfl (y_binop rfl rfl rfl (r_eql_f h34)) ?_
         refine wL_val (wn rfl) rfl rfl (y_pick_t rfl rfl rfl) ?_
         refine wL_val (wn rfl) rfl rfl (y_assign rfl rfl) ?_
         refine wL_nil (wQ_sub (l' := [(1, _), (2, _), (3, _), (6, _), (7, _), (39, _)]) ⟨rfl, rfl, rfl, rfl, rfl, rfl, trivial⟩ (wQ_then (wC_cond_f rfl (wC_seq (wC_region (wL_val (v := .pointer (some ⟨b1, 1, none⟩)) (wn rfl) rfl rfl (y_fieldAddr rfl rfl (fa108_1 _ _ _)) ?_))))))
         refine wL_val (wn rfl) rfl rfl (y_load rfl rfl (r_load Try.underlying3 rfl (St.cl 1 S22 rfl rfl))) ?_
         refine wL_val (wn rfl) rfl rfl (y_move rfl rfl) ?_
         by_cases h44 : e ≤ ep
         ·refine wL_val (v := .bool true) (wn rfl) rfl rfl (y_binop rfl rfl rfl (r_geq_t h44)) ?_
          refine wL_val (wn rfl) rfl rfl (y_assign rfl rfl) ?_
          refine wL_nil (wQ_sub (l' := [(1, _), (2, _), (6, _), (7, _), (57, _)]) ⟨rfl, rfl, rfl, rfl, rfl, trivial⟩ (wQ_then (wC_cond_t rfl (wC_seq (wC_region (wL_val (v := .agg #[.int .i64 0, .int .i64 0, .int .i64 0, .int .i64 0, .int .i64 0, .slice none 0 0]) (wn rfl) rfl rfl (y_build (vs := []) rfl trivial (by kernel_rfl)) ?_))))))
          refine wL_st (fs' := [_, _, _]) 0 S22 (wn rfl) rfl rfl rfl rfl rfl rfl inf108 rfl (oneAll rfl) (Nat.le_of_ble_eq_true rfl) (setAll_all rfl) rfl ?_; intro w45 S46; clear S22
          refine wL_val (wn rfl) rfl rfl (y_assign rfl rfl) ?_
          refine wL_nil (wQ_sub (l' := [(6, _), (7, _)]) ⟨rfl, rfl, trivial⟩ (wQ_then (wC_ret (wQ_blk_ret (wQ_then_ret (wQ_post (rs := [.cell 6 108, .tmp 7]) (vs := [.agg #[.int .i64 0, .int .i64 0, .int .i64 0, .int .i64 0, .int .i64 0, .slice none 0 0], .int .i64 15]) rfl ⟨⟨_, rfl, res_row 0 S46 rfl Try.underlying108 rfl inf108⟩, rfl, trivial⟩ ?_))))))
          have S47 : St w.heap.size w w45 [] := (St.del 0 (St.del 1 (St.del 2 S46))); clear S46
          rw [show beginM ⟨ro, ep, fr, tg, rd, l⟩ e f = (⟨0, 0, 0, 0, 0, []⟩, 15) from by unfold beginM; (try dsimp only); (repeat' (first | rfl | omega | split)) <;> (simp only [Prod.mk.injEq, Brt.mk.injEq, and_true, true_and, and_self]; omega)]
          exact ⟨none, 0, rfl, rdo_nil S47⟩
         ·refine wL_val (v := .bool false) (wn rfl) rfl rfl (y_binop rfl rfl rfl (r_geq_f h44)) ?_
          refine wL_val (wn rfl) rfl rfl (y_assign rfl rfl) ?_
          refine wL_nil (wQ_sub (l' := [(1, _), (2, _), (6, _), (7, _), (57, _)]) ⟨rfl, rfl, rfl, rfl, rfl, trivial⟩ (wQ_then (wC_cond_f rfl (wC_skip (wQ_blk_n (wQ_then (wC_seq (wC_region (wL_val (wn rfl) rfl rfl (y_move rfl rfl) ?_)))))))))
          refine wL_val (wn rfl) rfl rfl (y_move rfl rfl) ?_
          refine wL_val (v := .agg #[.int .i64 4, .int .i64 e, .int .i64 f, .int .i64 0, .int .i64 0, .slice none 0 0]) (wn rfl) rfl rfl (y_build (vs := [(0, .int .i64 4), (1, .int .i64 e), (2, .int .i64 f)]) rfl ⟨rfl, rfl, rfl, rfl, rfl, rfl, trivial⟩ (by kernel_rfl)) ?_
          refine wL_st (fs' := [_, _, _]) 0 S22 (wn rfl) rfl rfl rfl rfl rfl rfl inf108 rfl (oneAll rfl) (Nat.le_of_ble_eq_true rfl) (setAll_all rfl) rfl ?_; intro w48 S49; clear S22
          refine wL_val (wn rfl) rfl rfl (y_assign rfl rfl) ?_
          refine wL_nil (wQ_sub (l' := [(6, _), (7, _)]) ⟨rfl, rfl, trivial⟩ (wQ_then (wC_ret (wQ_post (rs := [.cell 6 108, .tmp 7]) (vs := [.agg #[.int .i64 4, .int .i64 e, .int .i64 f, .int .i64 0, .int .i64 0, .slice none 0 0], .int .i64 0]) rfl ⟨⟨_, rfl, res_row 0 S49 rfl Try.underlying108 rfl inf108⟩, rfl, trivial⟩ ?_))))
          have S50 : St w.heap.size w w48 [] := (St.del 0 (St.del 1 (St.del 2 S49))); clear S49
          rw [show beginM ⟨ro, ep, fr, tg, rd, l⟩ e f = (⟨4, e, f, 0, 0, []⟩, 0) from by unfold beginM; (try dsimp only); (repeat' (first | rfl | omega | split)) <;> (simp only [Prod.mk.injEq, Brt.mk.injEq, and_true, true_and, and_self]; omega)]
          exact ⟨none, 0, rfl, rdo_nil S50⟩
       ·refine wL_val (v := .bool false) (wg rfl rfl rfl rfl) rfl rfl (y_binop rfl rfl rfl (r_eql_f h33)) ?_
        refine wL_val (wn rfl) rfl rfl (y_pick_t rfl rfl rfl) ?_
        refine wL_val (wn rfl) rfl rfl (y_move rfl rfl) ?_
        refine wL_skip (wg rfl rfl rfl rfl) rfl rfl ?_
        refine wL_skip (wg rfl rfl rfl rfl) rfl rfl ?_
        refine wL_skip (wg rfl rfl rfl rfl) rfl rfl ?_
        refine wL_skip (wg rfl rfl rfl rfl) rfl rfl ?_
        refine wL_val (wn rfl) rfl rfl (y_pick_f rfl rfl rfl) ?_
        refine wL_val (wn rfl) rfl rfl (y_assign rfl rfl) ?_
        refine wL_nil (wQ_sub (l' := [(1, _), (2, _), (3, _), (6, _), (7, _), (39, _)]) ⟨rfl, rfl, rfl, rfl, rfl, rfl, trivial⟩ (wQ_then (wC_cond_f rfl (wC_seq (wC_region (wL_val (v := .pointer (some ⟨b1, 1, none⟩)) (wn rfl) rfl rfl (y_fieldAddr rfl rfl (fa108_1 _ _ _)) ?_))))))
        refine wL_val (wn rfl) rfl rfl (y_load rfl rfl (r_load Try.underlying3 rfl (St.cl 1 S22 rfl rfl))) ?_
        refine wL_val (wn rfl) rfl rfl (y_move rfl rfl) ?_
        by_cases h51 : e ≤ ep
        ·refine wL_val (v := .bool true) (wn rfl) rfl rfl (y_binop rfl rfl rfl (r_geq_t h51)) ?_
         refine wL_val (wn rfl) rfl rfl (y_assign rfl rfl) ?_
         refine wL_nil (wQ_sub (l' := [(1, _), (2, _), (6, _), (7, _), (57, _)]) ⟨rfl, rfl, rfl, rfl, rfl, trivial⟩ (wQ_then (wC_cond_t rfl (wC_seq (wC_region (wL_val (v := .agg #[.int .i64 0, .int .i64 0, .int .i64 0, .int .i64 0, .int .i64 0, .slice none 0 0]) (wn rfl) rfl rfl (y_build (vs := []) rfl trivial (by kernel_rfl)) ?_))))))
         refine wL_st (fs' := [_, _, _]) 0 S22 (wn rfl) rfl rfl rfl rfl rfl rfl inf108 rfl (oneAll rfl) (Nat.le_of_ble_eq_true rfl) (setAll_all rfl) rfl ?_; intro w52 S53; clear S22
         refine wL_val (wn rfl) rfl rfl (y_assign rfl rfl) ?_
         refine wL_nil (wQ_sub (l' := [(6, _), (7, _)]) ⟨rfl, rfl, trivial⟩ (wQ_then (wC_ret (wQ_blk_ret (wQ_then_ret (wQ_post (rs := [.cell 6 108, .tmp 7]) (vs := [.agg #[.int .i64 0, .int .i64 0, .int .i64 0, .int .i64 0, .int .i64 0, .slice none 0 0], .int .i64 15]) rfl ⟨⟨_, rfl, res_row 0 S53 rfl Try.underlying108 rfl inf108⟩, rfl, trivial⟩ ?_))))))
         have S54 : St w.heap.size w w52 [] := (St.del 0 (St.del 1 (St.del 2 S53))); clear S53
         rw [show beginM ⟨ro, ep, fr, tg, rd, l⟩ e f = (⟨0, 0, 0, 0, 0, []⟩, 15) from by unfold beginM; (try dsimp only); (repeat' (first | rfl | omega | split)) <;> (simp only [Prod.mk.injEq, Brt.mk.injEq, and_true, true_and, and_self]; omega)]
         exact ⟨none, 0, rfl, rdo_nil S54⟩
        ·refine wL_val (v := .bool false) (wn rfl) rfl rfl (y_binop rfl rfl rfl (r_geq_f h51)) ?_
         refine wL_val (wn rfl) rfl rfl (y_assign rfl rfl) ?_
         refine wL_nil (wQ_sub (l' := [(1, _), (2, _), (6, _), (7, _), (57, _)]) ⟨rfl, rfl, rfl, rfl, rfl, trivial⟩ (wQ_then (wC_cond_f rfl (wC_skip (wQ_blk_n (wQ_then (wC_seq (wC_region (wL_val (wn rfl) rfl rfl (y_move rfl rfl) ?_)))))))))
         refine wL_val (wn rfl) rfl rfl (y_move rfl rfl) ?_
         refine wL_val (v := .agg #[.int .i64 4, .int .i64 e, .int .i64 f, .int .i64 0, .int .i64 0, .slice none 0 0]) (wn rfl) rfl rfl (y_build (vs := [(0, .int .i64 4), (1, .int .i64 e), (2, .int .i64 f)]) rfl ⟨rfl, rfl, rfl, rfl, rfl, rfl, trivial⟩ (by kernel_rfl)) ?_
         refine wL_st (fs' := [_, _, _]) 0 S22 (wn rfl) rfl rfl rfl rfl rfl rfl inf108 rfl (oneAll rfl) (Nat.le_of_ble_eq_true rfl) (setAll_all rfl) rfl ?_; intro w55 S56; clear S22
         refine wL_val (wn rfl) rfl rfl (y_assign rfl rfl) ?_
         refine wL_nil (wQ_sub (l' := [(6, _), (7, _)]) ⟨rfl, rfl, trivial⟩ (wQ_then (wC_ret (wQ_post (rs := [.cell 6 108, .tmp 7]) (vs := [.agg #[.int .i64 4, .int .i64 e, .int .i64 f, .int .i64 0, .int .i64 0, .slice none 0 0], .int .i64 0]) rfl ⟨⟨_, rfl, res_row 0 S56 rfl Try.underlying108 rfl inf108⟩, rfl, trivial⟩ ?_))))
         have S57 : St w.heap.size w w55 [] := (St.del 0 (St.del 1 (St.del 2 S56))); clear S56
         rw [show beginM ⟨ro, ep, fr, tg, rd, l⟩ e f = (⟨4, e, f, 0, 0, []⟩, 0) from by unfold beginM; (try dsimp only); (repeat' (first | rfl | omega | split)) <;> (simp only [Prod.mk.injEq, Brt.mk.injEq, and_true, true_and, and_self]; omega)]
         exact ⟨none, 0, rfl, rdo_nil S57⟩
      ·refine wL_val (v := .bool true) (wg rfl rfl rfl rfl) rfl rfl (y_binop rfl rfl rfl (r_neq_t h32)) ?_
       refine wL_val (wn rfl) rfl rfl (y_pick_t rfl rfl rfl) ?_
       refine wL_val (wn rfl) rfl rfl (y_assign rfl rfl) ?_
       refine wL_nil (wQ_sub (l' := [(1, _), (2, _), (3, _), (6, _), (7, _), (29, _)]) ⟨rfl, rfl, rfl, rfl, rfl, rfl, trivial⟩ (wQ_then (wC_cond_t rfl (wC_seq (wC_region (wL_val (v := .agg #[.int .i64 0, .int .i64 0, .int .i64 0, .int .i64 0, .int .i64 0, .slice none 0 0]) (wn rfl) rfl rfl (y_build (vs := []) rfl trivial (by kernel_rfl)) ?_))))))
       refine wL_st (fs' := [_, _, _]) 0 S22 (wn rfl) rfl rfl rfl rfl rfl rfl inf108 rfl (oneAll rfl) (Nat.le_of_ble_eq_true rfl) (setAll_all rfl) rfl ?_; intro w58 S59; clear S22
       refine wL_val (wn rfl) rfl rfl (y_assign rfl rfl) ?_
       refine wL_nil (wQ_sub (l' := [(6, _), (7, _)]) ⟨rfl, rfl, trivial⟩ (wQ_then (wC_ret (wQ_blk_ret (wQ_then_ret (wQ_post (rs := [.cell 6 108, .tmp 7]) (vs := [.agg #[.int .i64 0, .int .i64 0, .int .i64 0, .int .i64 0, .int .i64 0, .slice none 0 0], .int .i64 8]) rfl ⟨⟨_, rfl, res_row 0 S59 rfl Try.underlying108 rfl inf108⟩, rfl, trivial⟩ ?_))))))
       have S60 : St w.heap.size w w58 [] := (St.del 0 (St.del 1 (St.del 2 S59))); clear S59
       rw [show beginM ⟨ro, ep, fr, tg, rd, l⟩ e f = (⟨0, 0, 0, 0, 0, []⟩, 8) from by unfold beginM; (try dsimp only); (repeat' (first | rfl | omega | split)) <;> (simp only [Prod.mk.injEq, Brt.mk.injEq, and_true, true_and, and_self]; omega)]
       exact ⟨none, 0, rfl, rdo_nil S60⟩
    ·have HC61 := fun (w : World) => node_calls f w
     rw [decide_eq_false hp19] at HC61
     refine wL_call (vs := [.int .i64 f]) (wg rfl rfl rfl rfl) rfl rfl (e_call (vs := [.int .i64 f]) rfl en161 ⟨rfl, trivial⟩) (HC61 _) ?_
     rintro _ w62 ⟨rfl, hb64⟩
     refine ⟨_, rfl, ?_⟩
     have S63 := S8.on hb64; clear hb64 S8; clear HC61
     refine wL_val (v := .bool true) (wg rfl rfl rfl rfl) rfl rfl (y_unop rfl rfl r_not) ?_
     refine wL_val (wn rfl) rfl rfl (y_pick_f rfl rfl rfl) ?_
     refine wL_val (wn rfl) rfl rfl (y_assign rfl rfl) ?_
     refine wL_nil (wQ_sub (l' := [(1, _), (2, _), (3, _), (6, _), (7, _), (16, _)]) ⟨rfl, rfl, rfl, rfl, rfl, rfl, trivial⟩ (wQ_then (wC_cond_t rfl (wC_seq (wC_region (wL_val (v := .agg #[.int .i64 0, .int .i64 0, .int .i64 0, .int .i64 0, .int .i64 0, .slice none 0 0]) (wn rfl) rfl rfl (y_build (vs := []) rfl trivial (by kernel_rfl)) ?_))))))
     refine wL_st (fs' := [_, _, _]) 0 S63 (wn rfl) rfl rfl rfl rfl rfl rfl inf108 rfl (oneAll rfl) (Nat.le_of_ble_eq_true rfl) (setAll_all rfl) rfl ?_; intro w65 S66; clear S63
     refine wL_val (wn rfl) rfl rfl (y_assign rfl rfl) ?_
     refine wL_nil (wQ_sub (l' := [(6, _), (7, _)]) ⟨rfl, rfl, trivial⟩ (wQ_then (wC_ret (wQ_blk_ret (wQ_then_ret (wQ_post (rs := [.cell 6 108, .tmp 7]) (vs := [.agg #[.int .i64 0, .int .i64 0, .int .i64 0, .int .i64 0, .int .i64 0, .slice none 0 0], .int .i64 2]) rfl ⟨⟨_, rfl, res_row 0 S66 rfl Try.underlying108 rfl inf108⟩, rfl, trivial⟩ ?_))))))
     have S67 : St w.heap.size w w65 [] := (St.del 0 (St.del 1 (St.del 2 S66))); clear S66
     rw [show beginM ⟨ro, ep, fr, tg, rd, l⟩ e f = (⟨0, 0, 0, 0, 0, []⟩, 2) from by unfold beginM; (try dsimp only); (repeat' (first | rfl | omega | split)) <;> (simp only [Prod.mk.injEq, Brt.mk.injEq, and_true, true_and, and_self]; omega)]
     exact ⟨none, 0, rfl, rdo_nil S67⟩
 ·refine wL_val (v := .bool true) (wn rfl) rfl rfl (y_binop rfl rfl rfl (r_neq_t h10)) ?_
  refine wL_val (wn rfl) rfl rfl (y_assign rfl rfl) ?_
  refine wL_nil (wQ_sub (l' := [(1, _), (2, _), (3, _), (6, _), (7, _), (8, _), (11, _)]) ⟨rfl, rfl, rfl, rfl, rfl, rfl, rfl, trivial⟩ (wQ_then (wC_cond_t rfl (wC_seq (wC_region (wL_val (v := .agg #[.int .i64 0, .int .i64 0, .int .i64 0, .int .i64 0, .int .i64 0, .slice none 0 0]) (wn rfl) rfl rfl (y_build (vs := []) rfl trivial (by kernel_rfl)) ?_))))))
  refine wL_val (wn rfl) rfl rfl (y_move rfl rfl) ?_
  refine wL_st (fs' := [_, _, _]) 0 S8 (wn rfl) rfl rfl rfl rfl rfl rfl inf108 rfl (oneAll rfl) (Nat.le_of_ble_eq_true rfl) (setAll_all rfl) rfl ?_; intro w68 S69; clear S8
  refine wL_val (wn rfl) rfl rfl (y_assign rfl rfl) ?_
  refine wL_nil (wQ_sub (l' := [(6, _), (7, _)]) ⟨rfl, rfl, trivial⟩ (wQ_then (wC_ret (wQ_blk_ret (wQ_then_ret (wQ_post (rs := [.cell 6 108, .tmp 7]) (vs := [.agg #[.int .i64 0, .int .i64 0, .int .i64 0, .int .i64 0, .int .i64 0, .slice none 0 0], .int .i64 (brtFault ⟨ro, ep, fr, tg, rd, l⟩)]) rfl ⟨⟨_, rfl, res_row 0 S69 rfl Try.underlying108 rfl inf108⟩, rfl, trivial⟩ ?_))))))
  have S70 : St w.heap.size w w68 [] := (St.del 0 (St.del 1 (St.del 2 S69))); clear S69
  rw [show beginM ⟨ro, ep, fr, tg, rd, l⟩ e f = (⟨0, 0, 0, 0, 0, []⟩, brtFault ⟨ro, ep, fr, tg, rd, l⟩) from by unfold beginM; (try dsimp only); (repeat' (first | rfl | omega | split)) <;> (simp only [Prod.mk.injEq, Brt.mk.injEq, and_true, true_and, and_self]; omega)]
  exact ⟨none, 0, rfl, rdo_nil S70⟩

end Go.Proofs.Ytkjlafpafmihaaa

namespace Go.Proofs.Ytkjlafpafmihaaa
open Go.ChangeShapes Go.WideShapes Go.RowKit

set_option maxRecDepth 100000 in
set_option maxHeartbeats 1000000 in
theorem Begun_calls (ro ep fr tg rd : Int) (A : Option Addr) (c : Nat) (l : List Ev) (e f : Int) (w : World) (h : Rd w w.heap.size 6 A l.length (evCells l)) (hb : l.length * 48 ≤ reachBytes) :
    Calls Try.prog 89 #[.agg #[.int .i64 ro, .int .i64 ep, .int .i64 fr, .int .i64 tg, .int .i64 rd, .slice A l.length c], .int .i64 e, .int .i64 f] w (BrtPost w (beginM ⟨ro, ep, fr, tg, rd, l⟩ e f)) := by
 have S := (St.start w).addRd h; clear h
 have hb2 := hb
 unfold reachBytes at hb2
 refine calls_of_wC (N := 53) (vs := [.agg #[.int .i64 ro, .int .i64 ep, .int .i64 fr, .int .i64 tg, .int .i64 rd, .slice A l.length c], .int .i64 e, .int .i64 f]) Try.func89 rfl rfl rfl ?_
 refine wC_sub (l' := [(0, .agg #[.int .i64 ro, .int .i64 ep, .int .i64 fr, .int .i64 tg, .int .i64 rd, .slice A l.length c]), (1, .int .i64 e), (2, .int .i64 f)]) ⟨rfl, rfl, rfl, trivial⟩ (wC_seq (wC_region (wL_new (V := fun b => .pointer (some ⟨b, 0, none⟩)) (row := #[.int .i64 ro, .int .i64 ep, .int .i64 fr, .int .i64 tg, .int .i64 rd, .slice A l.length c]) (t := 108) S (wn rfl) rfl rfl (d_box rfl rfl rfl) ?_))); intro b1 w2 S3; clear S
 refine wL_new (V := fun b => .pointer (some ⟨b, 0, none⟩)) (row := #[.int .i64 0, .int .i64 0, .int .i64 0, .int .i64 0, .int .i64 0, .slice none 0 0]) (t := 108) S3 (wn rfl) rfl rfl (d_alloc rfl (Try.zeroValue108 _) rfl) ?_; intro b4 w5 S6; clear S3
 refine wL_val (wn rfl) rfl rfl (y_assign rfl rfl) ?_
 refine wL_nil (wQ_sub (l' := [(1, _), (2, _), (3, _), (6, _), (7, _)]) ⟨rfl, rfl, rfl, rfl, rfl, trivial⟩ (wQ_then (wC_seq (wC_region (wL_val (wn rfl) rfl rfl (y_load rfl rfl (r_load_row 1 S6 rfl Try.underlying108 rfl inf108 rfl)) ?_)))))
 refine wL_call (vs := [.agg #[.int .i64 ro, .int .i64 ep, .int .i64 fr, .int .i64 tg, .int .i64 rd, .slice A l.length c]]) (wn rfl) rfl rfl (e_call (vs := [.agg #[.int .i64 ro, .int .i64 ep, .int .i64 fr, .int .i64 tg, .int .i64 rd, .slice A l.length c]]) rfl en78 ⟨rfl, trivial⟩) (BerthFault_calls ro ep fr tg rd A c l _ (St.rd 2 S6 rfl) (by omega)) ?_
 rintro _ w7 ⟨rfl, hb9⟩
 refine ⟨_, rfl, ?_⟩
 have S8 := S6.on hb9; clear hb9 S6
 refine wL_val (wn rfl) rfl rfl (y_assign rfl rfl) ?_
 refine wL_nil (wQ_sub (l' := [(1, _), (2, _), (3, _), (6, _), (7, _), (8, _)]) ⟨rfl, rfl, rfl, rfl, rfl, rfl, trivial⟩ (wQ_then (wC_seq (wC_seq (wC_region (wL_val (wn rfl) rfl rfl (y_move rfl rfl) ?_))))))
 by_cases h10 : brtFault ⟨ro, ep, fr, tg, rd, l⟩ = 0
 ·have hsh := (bf_zero h10).1
  unfold shapeB at hsh
  have hln := tellM_len (bf_zero h10).2
  dsimp only at hsh hln
  refine wL_val (v := .bool false) (wn rfl) rfl rfl (y_binop rfl rfl rfl (r_neq_f h10)) ?_
  refine wL_nil (wQ_sub (l' := [(1, _), (2, _), (3, _), (6, _), (7, _), (8, _), (12, _)]) ⟨rfl, rfl, rfl, rfl, rfl, rfl, rfl, trivial⟩ (wQ_then (wC_cond_f rfl (wC_skip (wQ_then (wC_seq (wC_seq (wC_region (wL_val (wn rfl) rfl rfl (y_move rfl rfl) ?_)))))))))
  by_cases hp11 : 1 ≤ e ∧ e ≤ 1048576
  ·refine wL_call (vs := [.int .i64 e, .int .i64 1, .int .i64 1048576]) (wn rfl) rfl rfl (e_call (vs := [.int .i64 e, .int .i64 1, .int .i64 1048576]) rfl en107 ⟨rfl, rfl, rfl, trivial⟩) (In_t hp11 _) ?_
   rintro _ w12 ⟨rfl, rfl⟩
   refine ⟨_, rfl, ?_⟩
   refine wL_val (v := .bool false) (wn rfl) rfl rfl (y_unop rfl rfl r_not) ?_
   refine wL_val (wn rfl) rfl rfl (y_move rfl rfl) ?_
   refine wL_val (wg rfl rfl rfl rfl) rfl rfl (y_move rfl rfl) ?_
   by_cases hp13 : 0 ≤ f ∧ f ≤ 4
   ·refine wL_call (vs := [.int .i64 f, .int .i64 0, .int .i64 4]) (wg rfl rfl rfl rfl) rfl rfl (e_call (vs := [.int .i64 f, .int .i64 0, .int .i64 4]) rfl en107 ⟨rfl, rfl, rfl, trivial⟩) (In_t hp13 _) ?_
    rintro _ w14 ⟨rfl, rfl⟩
    refine ⟨_, rfl, ?_⟩
    refine wL_val (v := .bool false) (wg rfl rfl rfl rfl) rfl rfl (y_unop rfl rfl r_not) ?_
    refine wL_val (wn rfl) rfl rfl (y_pick_f rfl rfl rfl) ?_
    refine wL_nil (wQ_sub (l' := [(1, _), (2, _), (3, _), (6, _), (7, _), (22, _)]) ⟨rfl, rfl, rfl, rfl, rfl, rfl, trivial⟩ (wQ_then (wC_cond_f rfl (wC_skip (wQ_then (wC_seq (wC_seq (wC_region (wL_val (v := .pointer (some ⟨b1, 0, none⟩)) (wn rfl) rfl rfl (y_fieldAddr rfl rfl (fa108_0 _ _ _)) ?_)))))))))
    refine wL_val (wn rfl) rfl rfl (y_load rfl rfl (r_load Try.underlying3 rfl (St.cl 1 S8 rfl rfl))) ?_
    by_cases hp15 : 1 ≤ ro ∧ ro ≤ 3
    ·refine wL_call (vs := [.int .i64 ro, .int .i64 1, .int .i64 3]) (wn rfl) rfl rfl (e_call (vs := [.int .i64 ro, .int .i64 1, .int .i64 3]) rfl en107 ⟨rfl, rfl, rfl, trivial⟩) (In_t hp15 _) ?_
     rintro _ w16 ⟨rfl, rfl⟩
     refine ⟨_, rfl, ?_⟩
     refine wL_nil (wQ_sub (l' := [(1, _), (2, _), (3, _), (6, _), (7, _), (26, _)]) ⟨rfl, rfl, rfl, rfl, rfl, rfl, trivial⟩ (wQ_then (wC_cond_t rfl (wC_seq (wC_region (wL_val (v := .agg #[.int .i64 0, .int .i64 0, .int .i64 0, .int .i64 0, .int .i64 0, .slice none 0 0]) (wn rfl) rfl rfl (y_build (vs := []) rfl trivial (by kernel_rfl)) ?_))))))
     refine wL_st (fs' := [_, _, _]) 0 S8 (wn rfl) rfl rfl rfl rfl rfl rfl inf108 rfl (oneAll rfl) (Nat.le_of_ble_eq_true rfl) (setAll_all rfl) rfl ?_; intro w17 S18; clear S8
     refine wL_val (wn rfl) rfl rfl (y_assign rfl rfl) ?_
     refine wL_nil (wQ_sub (l' := [(6, _), (7, _)]) ⟨rfl, rfl, trivial⟩ (wQ_then (wC_ret (wQ_then_ret (wQ_post (rs := [.cell 6 108, .tmp 7]) (vs := [.agg #[.int .i64 0, .int .i64 0, .int .i64 0, .int .i64 0, .int .i64 0, .slice none 0 0], .int .i64 8]) rfl ⟨⟨_, rfl, res_row 0 S18 rfl Try.underlying108 rfl inf108⟩, rfl, trivial⟩ ?_)))))
     have S19 : St w.heap.size w w17 [] := (St.del 0 (St.del 1 (St.del 2 S18))); clear S18
     rw [show beginM ⟨ro, ep, fr, tg, rd, l⟩ e f = (⟨0, 0, 0, 0, 0, []⟩, 8) from by unfold beginM; (try dsimp only); (repeat' (first | rfl | omega | split)) <;> (simp only [Prod.mk.injEq, Brt.mk.injEq, and_true, true_and, and_self]; omega)]
     exact ⟨none, 0, rfl, rdo_nil S19⟩
    ·refine wL_call (vs := [.int .i64 ro, .int .i64 1, .int .i64 3]) (wn rfl) rfl rfl (e_call (vs := [.int .i64 ro, .int .i64 1, .int .i64 3]) rfl en107 ⟨rfl, rfl, rfl, trivial⟩) (In_f hp15 _) ?_
     rintro _ w20 ⟨rfl, rfl⟩
     refine ⟨_, rfl, ?_⟩
     refine wL_nil (wQ_sub (l' := [(1, _), (2, _), (3, _), (6, _), (7, _), (26, _)]) ⟨rfl, rfl, rfl, rfl, rfl, rfl, trivial⟩ (wQ_then (wC_cond_f rfl (wC_skip (wQ_then (wC_seq (wC_seq (wC_region (wL_val (wn rfl) rfl rfl (y_move rfl rfl) ?_)))))))))
     refine wL_val (v := .pointer (some ⟨b1, 1, none⟩)) (wn rfl) rfl rfl (y_fieldAddr rfl rfl (fa108_1 _ _ _)) ?_
     refine wL_val (wn rfl) rfl rfl (y_load rfl rfl (r_load Try.underlying3 rfl (St.cl 1 S8 rfl rfl))) ?_
     by_cases h21 : ep < e
     ·refine wL_val (v := .bool true) (wn rfl) rfl rfl (y_binop rfl rfl rfl (r_gtr_t h21)) ?_
      refine wL_nil (wQ_sub (l' := [(1, _), (2, _), (3, _), (6, _), (7, _), (31, _)]) ⟨rfl, rfl, rfl, rfl, rfl, rfl, trivial⟩ (wQ_then (wC_cond_t rfl (wC_seq (wC_region (wL_val (wn rfl) rfl rfl (y_move rfl rfl) ?_))))))
      refine wL_val (wn rfl) rfl rfl (y_move rfl rfl) ?_
      refine wL_val (v := .agg #[.int .i64 4, .int .i64 e, .int .i64 f, .int .i64 0, .int .i64 0, .slice none 0 0]) (wn rfl) rfl rfl (y_build (vs := [(0, .int .i64 4), (1, .int .i64 e), (2, .int .i64 f)]) rfl ⟨rfl, rfl, rfl, rfl, rfl, rfl, trivial⟩ (by kernel_rfl)) ?_
      refine wL_st (fs' := [_, _, _]) 0 S8 (wn rfl) rfl rfl rfl rfl rfl rfl inf108 rfl (oneAll rfl) (Nat.le_of_ble_eq_true rfl) (setAll_all rfl) rfl ?_; intro w22 S23; clear S8
      refine wL_val (wn rfl) rfl rfl (y_assign rfl rfl) ?_
      refine wL_nil (wQ_sub (l' := [(6, _), (7, _)]) ⟨rfl, rfl, trivial⟩ (wQ_then (wC_ret (wQ_then_ret (wQ_post (rs := [.cell 6 108, .tmp 7]) (vs := [.agg #[.int .i64 4, .int .i64 e, .int .i64 f, .int .i64 0, .int .i64 0, .slice none 0 0], .int .i64 0]) rfl ⟨⟨_, rfl, res_row 0 S23 rfl Try.underlying108 rfl inf108⟩, rfl, trivial⟩ ?_)))))
      have S24 : St w.heap.size w w22 [] := (St.del 0 (St.del 1 (St.del 2 S23))); clear S23
      rw [show beginM ⟨ro, ep, fr, tg, rd, l⟩ e f = (⟨4, e, f, 0, 0, []⟩, 0) from by unfold beginM; (try dsimp only); (repeat' (first | rfl | omega | split)) <;> (simp only [Prod.mk.injEq, Brt.mk.injEq, and_true, true_and, and_self]; omega)]
      exact ⟨none, 0, rfl, rdo_nil S24⟩
     ·refine wL_val (v := .bool false) (wn rfl) rfl rfl (y_binop rfl rfl rfl (r_gtr_f h21)) ?_
      refine wL_nil (wQ_sub (l' := [(1, _), (2, _), (3, _), (6, _), (7, _), (31, _)]) ⟨rfl, rfl, rfl, rfl, rfl, rfl, trivial⟩ (wQ_then (wC_cond_f rfl (wC_skip (wQ_then (wC_seq (wC_seq (wC_region (wL_val (v := .pointer (some ⟨b1, 0, none⟩)) (wn rfl) rfl rfl (y_fieldAddr rfl rfl (fa108_0 _ _ _)) ?_)))))))))
      refine wL_val (wn rfl) rfl rfl (y_load rfl rfl (r_load Try.underlying3 rfl (St.cl 1 S8 rfl rfl))) ?_
      by_cases h25 : ro = 4
      ·refine wL_val (v := .bool true) (wn rfl) rfl rfl (y_binop rfl rfl rfl (r_eql_t h25)) ?_
       refine wL_val (wn rfl) rfl rfl (y_move rfl rfl) ?_
       refine wL_val (wg rfl rfl rfl rfl) rfl rfl (y_move rfl rfl) ?_
       refine wL_val (v := .pointer (some ⟨b1, 1, none⟩)) (wg rfl rfl rfl rfl) rfl rfl (y_fieldAddr rfl rfl (fa108_1 _ _ _)) ?_
       refine wL_val (wg rfl rfl rfl rfl) rfl rfl (y_load rfl rfl (r_load Try.underlying3 rfl (St.cl 1 S8 rfl rfl))) ?_
       by_cases h26 : e = ep
       ·refine wL_val (v := .bool true) (wg rfl rfl rfl rfl) rfl rfl (y_binop rfl rfl rfl (r_eql_t h26)) ?_
        refine wL_val (wn rfl) rfl rfl (y_pick_t rfl rfl rfl) ?_
        refine wL_val (wn rfl) rfl rfl (y_move rfl rfl) ?_
        refine wL_val (wg rfl rfl rfl rfl) rfl rfl (y_move rfl rfl) ?_
        refine wL_val (v := .pointer (some ⟨b1, 2, none⟩)) (wg rfl rfl rfl rfl) rfl rfl (y_fieldAddr rfl rfl (fa108_2 _ _ _)) ?_
        refine wL_val (wg rfl rfl rfl rfl) rfl rfl (y_load rfl rfl (r_load Try.underlying3 rfl (St.cl 1 S8 rfl rfl))) ?_
        by_cases h27 : f = fr
        ·refine wL_val (v := .bool true) (wg rfl rfl rfl rfl) rfl rfl (y_binop rfl rfl rfl (r_eql_t h27)) ?_
         refine wL_val (wn rfl) rfl rfl (y_pick_t rfl rfl rfl) ?_
         refine wL_nil (wQ_sub (l' := [(3, _), (6, _), (7, _), (49, _)]) ⟨rfl, rfl, rfl, rfl, trivial⟩ (wQ_then (wC_cond_t rfl (wC_seq (wC_region (wL_val (wn rfl) rfl rfl (y_load rfl rfl (r_load_row 1 S8 rfl Try.underlying108 rfl inf108 rfl)) ?_))))))
         refine wL_call (vs := [.agg #[.int .i64 ro, .int .i64 ep, .int .i64 fr, .int .i64 tg, .int .i64 rd, .slice A l.length c]]) (wn rfl) rfl rfl (e_call (vs := [.agg #[.int .i64 ro, .int .i64 ep, .int .i64 fr, .int .i64 tg, .int .i64 rd, .slice A l.length c]]) rfl en156 ⟨rfl, trivial⟩) (BerthCopy_calls ro ep fr tg rd A c l _ (St.rd 2 S8 rfl) hb) ?_
         rintro _ w30 ⟨A28, c29, rfl, T32⟩
         refine ⟨_, rfl, ?_⟩
         have S31 := S8.ext T32 rfl; clear T32 S8
         change St _ _ _ [.own 37 6 (.slice A28 l.length c29) l.length ((l).flatMap Ev.cells), _, _, _] at S31
         refine wL_st (fs' := [_, _, _, _]) 1 S31 (wn rfl) rfl rfl rfl rfl rfl rfl inf108 rfl (oneAll rfl) (Nat.le_of_ble_eq_true rfl) (setAll_all rfl) rfl ?_; intro w33 S34; clear S31
         refine wL_val (wn rfl) rfl rfl (y_assign rfl rfl) ?_
         refine wL_nil (wQ_sub (l' := [(6, _), (7, _)]) ⟨rfl, rfl, trivial⟩ (wQ_then (wC_ret (wQ_then_ret (wQ_post (rs := [.cell 6 108, .tmp 7]) (vs := [.agg #[.int .i64 ro, .int .i64 ep, .int .i64 fr, .int .i64 tg, .int .i64 rd, .slice A28 l.length c29], .int .i64 0]) rfl ⟨⟨_, rfl, res_row 1 S34 rfl Try.underlying108 rfl inf108⟩, rfl, trivial⟩ ?_)))))
         have S35 : St w.heap.size w w33 [_] := (St.del 1 (St.del 2 (St.del 3 S34))); clear S34
         have S36 := S35.sealAll 0 rfl; clear S35
         change St _ _ _ [.rdo 6 A28 l.length ((l).flatMap Ev.cells)] at S36
         rw [show beginM ⟨ro, ep, fr, tg, rd, l⟩ e f = (⟨ro, ep, fr, tg, rd, l⟩, 0) from by unfold beginM; (try dsimp only); (repeat' (first | rfl | omega | split)) <;> (simp only [Prod.mk.injEq, Brt.mk.injEq, and_true, true_and, and_self]; omega)]
         exact ⟨A28, c29, rfl, S36⟩
        ·refine wL_val (v := .bool false) (wg rfl rfl rfl rfl) rfl rfl (y_binop rfl rfl rfl (r_eql_f h27)) ?_
         refine wL_val (wn rfl) rfl rfl (y_pick_t rfl rfl rfl) ?_
         refine wL_nil (wQ_sub (l' := [(3, _), (6, _), (7, _), (49, _)]) ⟨rfl, rfl, rfl, rfl, trivial⟩ (wQ_then (wC_cond_f rfl (wC_skip (wQ_then (wC_seq (wC_region (wL_val (v := .agg #[.int .i64 0, .int .i64 0, .int .i64 0, .int .i64 0, .int .i64 0, .slice none 0 0]) (wn rfl) rfl rfl (y_build (vs := []) rfl trivial (by kernel_rfl)) ?_))))))))
         refine wL_st (fs' := [_, _, _]) 0 S8 (wn rfl) rfl rfl rfl rfl rfl rfl inf108 rfl (oneAll rfl) (Nat.le_of_ble_eq_true rfl) (setAll_all rfl) rfl ?_; intro w37 S38; clear S8
         refine wL_val (wn rfl) rfl rfl (y_assign rfl rfl) ?_
         refine wL_nil (wQ_sub (l' := [(6, _), (7, _)]) ⟨rfl, rfl, trivial⟩ (wQ_then (wC_ret (wQ_post (rs := [.cell 6 108, .tmp 7]) (vs := [.agg #[.int .i64 0, .int .i64 0, .int .i64 0, .int .i64 0, .int .i64 0, .slice none 0 0], .int .i64 15]) rfl ⟨⟨_, rfl, res_row 0 S38 rfl Try.underlying108 rfl inf108⟩, rfl, trivial⟩ ?_))))
         have S39 : St w.heap.size w w37 [] := (St.del 0 (St.del 1 (St.del 2 S38))); clear S38
         rw [show beginM ⟨ro, ep, fr, tg, rd, l⟩ e f = (⟨0, 0, 0, 0, 0, []⟩, 15) from by unfold beginM; (try dsimp only); (repeat' (first | rfl | omega | split)) <;> (simp only [Prod.mk.injEq, Brt.mk.injEq, and_true, true_and, and_self]; omega)]
         exact ⟨none, 0, rfl, rdo_nil S39⟩
       ·refine wL_val (v := .bool false) (wg rfl rfl rfl rfl) rfl rfl (y_binop rfl rfl rfl (r_eql_f h26)) ?_
        refine wL_val (wn rfl) rfl rfl (y_pick_t rfl rfl rfl) ?_
        refine wL_val (wn rfl) rfl rfl (y_move rfl rfl) ?_
        refine wL_skip (wg rfl rfl rfl rfl) rfl rfl ?_
        refine wL_skip (wg rfl rfl rfl rfl) rfl rfl ?_
        refine wL_skip (wg rfl rfl rfl rfl) rfl rfl ?_
        refine wL_skip (wg rfl rfl rfl rfl) rfl rfl ?_
        refine wL_val (wn rfl) rfl rfl (y_pick_f rfl rfl rfl) ?_
        refine wL_nil (wQ_sub (l' := [(3, _), (6, _), (7, _), (49, _)]) ⟨rfl, rfl, rfl, rfl, trivial⟩ (wQ_then (wC_cond_f rfl (wC_skip (wQ_then (wC_seq (wC_region (wL_val (v := .agg #[.int .i64 0, .int .i64 0, .int .i64 0, .int .i64 0, .int .i64 0, .slice none 0 0]) (wn rfl) rfl rfl (y_build (vs := []) rfl trivial (by kernel_rfl)) ?_))))))))
        refine wL_st (fs' := [_, _, _]) 0 S8 (wn rfl) rfl rfl rfl rfl rfl rfl inf108 rfl (oneAll rfl) (Nat.le_of_ble_eq_true rfl) (setAll_all rfl) rfl ?_; intro w40 S41; clear S8
        refine wL_val (wn rfl) rfl rfl (y_assign rfl rfl) ?_
        refine wL_nil (wQ_sub (l' := [(6, _), (7, _)]) ⟨rfl, rfl, trivial⟩ (wQ_then (wC_ret (wQ_post (rs := [.cell 6 108, .tmp 7]) (vs := [.agg #[.int .i64 0, .int .i64 0, .int .i64 0, .int .i64 0, .int .i64 0, .slice none 0 0], .int .i64 15]) rfl ⟨⟨_, rfl, res_row 0 S41 rfl Try.underlying108 rfl inf108⟩, rfl, trivial⟩ ?_))))
        have S42 : St w.heap.size w w40 [] := (St.del 0 (St.del 1 (St.del 2 S41))); clear S41
        rw [show beginM ⟨ro, ep, fr, tg, rd, l⟩ e f = (⟨0, 0, 0, 0, 0, []⟩, 15) from by unfold beginM; (try dsimp only); (repeat' (first | rfl | omega | split)) <;> (simp only [Prod.mk.injEq, Brt.mk.injEq, and_true, true_and, and_self]; omega)]
        exact ⟨none, 0, rfl, rdo_nil S42⟩
      ·refine wL_val (v := .bool false) (wn rfl) rfl rfl (y_binop rfl rfl rfl (r_eql_f h25)) ?_
       refine wL_val (wn rfl) rfl rfl (y_move rfl rfl) ?_
       refine wL_skip (wg rfl rfl rfl rfl) rfl rfl ?_
       refine wL_skip (wg rfl rfl rfl rfl) rfl rfl ?_
       refine wL_skip (wg rfl rfl rfl rfl) rfl rfl ?_
       refine wL_skip (wg rfl rfl rfl rfl) rfl rfl ?_
       refine wL_val (wn rfl) rfl rfl (y_pick_f rfl rfl rfl) ?_
       refine wL_val (wn rfl) rfl rfl (y_move rfl rfl) ?_
       refine wL_skip (wg rfl rfl rfl rfl) rfl rfl ?_
       refine wL_skip (wg rfl rfl rfl rfl) rfl rfl ?_
       refine wL_skip (wg rfl rfl rfl rfl) rfl rfl ?_
       refine wL_skip (wg rfl rfl rfl rfl) rfl rfl ?_
       refine wL_val (wn rfl) rfl rfl (y_pick_f rfl rfl rfl) ?_
       refine wL_nil (wQ_sub (l' := [(3, _), (6, _), (7, _), (49, _)]) ⟨rfl, rfl, rfl, rfl, trivial⟩ (wQ_then (wC_cond_f rfl (wC_skip (wQ_then (wC_seq (wC_region (wL_val (v := .agg #[.int .i64 0, .int .i64 0, .int .i64 0, .int .i64 0, .int .i64 0, .slice none 0 0]) (wn rfl) rfl rfl (y_build (vs := []) rfl trivial (by kernel_rfl)) ?_))))))))
       refine wL_st (fs' := [_, _, _]) 0 S8 (wn rfl) rfl rfl rfl rfl rfl rfl inf108 rfl (oneAll rfl) (Nat.le_of_ble_eq_true rfl) (setAll_all rfl) rfl ?_; intro w43 S44; clear S8
       refine wL_val (wn rfl) rfl rfl (y_assign rfl rfl) ?_
       refine wL_nil (wQ_sub (l' := [(6, _), (7, _)]) ⟨rfl, rfl, trivial⟩ (wQ_then (wC_ret (wQ_post (rs := [.cell 6 108, .tmp 7]) (vs := [.agg #[.int .i64 0, .int .i64 0, .int .i64 0, .int .i64 0, .int .i64 0, .slice none 0 0], .int .i64 15]) rfl ⟨⟨_, rfl, res_row 0 S44 rfl Try.underlying108 rfl inf108⟩, rfl, trivial⟩ ?_))))
       have S45 : St w.heap.size w w43 [] := (St.del 0 (St.del 1 (St.del 2 S44))); clear S44
       rw [show beginM ⟨ro, ep, fr, tg, rd, l⟩ e f = (⟨0, 0, 0, 0, 0, []⟩, 15) from by unfold beginM; (try dsimp only); (repeat' (first | rfl | omega | split)) <;> (simp only [Prod.mk.injEq, Brt.mk.injEq, and_true, true_and, and_self]; omega)]
       exact ⟨none, 0, rfl, rdo_nil S45⟩
   ·refine wL_call (vs := [.int .i64 f, .int .i64 0, .int .i64 4]) (wg rfl rfl rfl rfl) rfl rfl (e_call (vs := [.int .i64 f, .int .i64 0, .int .i64 4]) rfl en107 ⟨rfl, rfl, rfl, trivial⟩) (In_f hp13 _) ?_
    rintro _ w46 ⟨rfl, rfl⟩
    refine ⟨_, rfl, ?_⟩
    refine wL_val (v := .bool true) (wg rfl rfl rfl rfl) rfl rfl (y_unop rfl rfl r_not) ?_
    refine wL_val (wn rfl) rfl rfl (y_pick_f rfl rfl rfl) ?_
    refine wL_nil (wQ_sub (l' := [(1, _), (2, _), (3, _), (6, _), (7, _), (22, _)]) ⟨rfl, rfl, rfl, rfl, rfl, rfl, trivial⟩ (wQ_then (wC_cond_t rfl (wC_seq (wC_region (wL_val (v := .agg #[.int .i64 0, .int .i64 0, .int .i64 0, .int .i64 0, .int .i64 0, .slice none 0 0]) (wn rfl) rfl rfl (y_build (vs := []) rfl trivial (by kernel_rfl)) ?_))))))
    refine wL_st (fs' := [_, _, _]) 0 S8 (wn rfl) rfl rfl rfl rfl rfl rfl inf108 rfl (oneAll rfl) (Nat.le_of_ble_eq_true rfl) (setAll_all rfl) rfl ?_; intro w47 S48; clear S8
    refine wL_val (wn rfl) rfl rfl (y_assign rfl rfl) ?_
    refine wL_nil (wQ_sub (l' := [(6, _), (7, _)]) ⟨rfl, rfl, trivial⟩ (wQ_then (wC_ret (wQ_then_ret (wQ_post (rs := [.cell 6 108, .tmp 7]) (vs := [.agg #[.int .i64 0, .int .i64 0, .int .i64 0, .int .i64 0, .int .i64 0, .slice none 0 0], .int .i64 2]) rfl ⟨⟨_, rfl, res_row 0 S48 rfl Try.underlying108 rfl inf108⟩, rfl, trivial⟩ ?_)))))
    have S49 : St w.heap.size w w47 [] := (St.del 0 (St.del 1 (St.del 2 S48))); clear S48
    rw [show beginM ⟨ro, ep, fr, tg, rd, l⟩ e f = (⟨0, 0, 0, 0, 0, []⟩, 2) from by unfold beginM; (try dsimp only); (repeat' (first | rfl | omega | split)) <;> (simp only [Prod.mk.injEq, Brt.mk.injEq, and_true, true_and, and_self]; omega)]
    exact ⟨none, 0, rfl, rdo_nil S49⟩
  ·refine wL_call (vs := [.int .i64 e, .int .i64 1, .int .i64 1048576]) (wn rfl) rfl rfl (e_call (vs := [.int .i64 e, .int .i64 1, .int .i64 1048576]) rfl en107 ⟨rfl, rfl, rfl, trivial⟩) (In_f hp11 _) ?_
   rintro _ w50 ⟨rfl, rfl⟩
   refine ⟨_, rfl, ?_⟩
   refine wL_val (v := .bool true) (wn rfl) rfl rfl (y_unop rfl rfl r_not) ?_
   refine wL_val (wn rfl) rfl rfl (y_move rfl rfl) ?_
   refine wL_skip (wg rfl rfl rfl rfl) rfl rfl ?_
   refine wL_skip (wg rfl rfl rfl rfl) rfl rfl ?_
   refine wL_skip (wg rfl rfl rfl rfl) rfl rfl ?_
   refine wL_val (wn rfl) rfl rfl (y_pick_t rfl rfl rfl) ?_
   refine wL_nil (wQ_sub (l' := [(1, _), (2, _), (3, _), (6, _), (7, _), (22, _)]) ⟨rfl, rfl, rfl, rfl, rfl, rfl, trivial⟩ (wQ_then (wC_cond_t rfl (wC_seq (wC_region (wL_val (v := .agg #[.int .i64 0, .int .i64 0, .int .i64 0, .int .i64 0, .int .i64 0, .slice none 0 0]) (wn rfl) rfl rfl (y_build (vs := []) rfl trivial (by kernel_rfl)) ?_))))))
   refine wL_st (fs' := [_, _, _]) 0 S8 (wn rfl) rfl rfl rfl rfl rfl rfl inf108 rfl (oneAll rfl) (Nat.le_of_ble_eq_true rfl) (setAll_all rfl) rfl ?_; intro w51 S52; clear S8
   refine wL_val (wn rfl) rfl rfl (y_assign rfl rfl) ?_
   refine wL_nil (wQ_sub (l' := [(6, _), (7, _)]) ⟨rfl, rfl, trivial⟩ (wQ_then (wC_ret (wQ_then_ret (wQ_post (rs := [.cell 6 108, .tmp 7]) (vs := [.agg #[.int .i64 0, .int .i64 0, .int .i64 0, .int .i64 0, .int .i64 0, .slice none 0 0], .int .i64 2]) rfl ⟨⟨_, rfl, res_row 0 S52 rfl Try.underlying108 rfl inf108⟩, rfl, trivial⟩ ?_)))))
   have S53 : St w.heap.size w w51 [] := (St.del 0 (St.del 1 (St.del 2 S52))); clear S52
   rw [show beginM ⟨ro, ep, fr, tg, rd, l⟩ e f = (⟨0, 0, 0, 0, 0, []⟩, 2) from by unfold beginM; (try dsimp only); (repeat' (first | rfl | omega | split)) <;> (simp only [Prod.mk.injEq, Brt.mk.injEq, and_true, true_and, and_self]; omega)]
   exact ⟨none, 0, rfl, rdo_nil S53⟩
 ·refine wL_val (v := .bool true) (wn rfl) rfl rfl (y_binop rfl rfl rfl (r_neq_t h10)) ?_
  refine wL_nil (wQ_sub (l' := [(1, _), (2, _), (3, _), (6, _), (7, _), (8, _), (12, _)]) ⟨rfl, rfl, rfl, rfl, rfl, rfl, rfl, trivial⟩ (wQ_then (wC_cond_t rfl (wC_seq (wC_region (wL_val (v := .agg #[.int .i64 0, .int .i64 0, .int .i64 0, .int .i64 0, .int .i64 0, .slice none 0 0]) (wn rfl) rfl rfl (y_build (vs := []) rfl trivial (by kernel_rfl)) ?_))))))
  refine wL_val (wn rfl) rfl rfl (y_move rfl rfl) ?_
  refine wL_st (fs' := [_, _, _]) 0 S8 (wn rfl) rfl rfl rfl rfl rfl rfl inf108 rfl (oneAll rfl) (Nat.le_of_ble_eq_true rfl) (setAll_all rfl) rfl ?_; intro w54 S55; clear S8
  refine wL_val (wn rfl) rfl rfl (y_assign rfl rfl) ?_
  refine wL_nil (wQ_sub (l' := [(6, _), (7, _)]) ⟨rfl, rfl, trivial⟩ (wQ_then (wC_ret (wQ_then_ret (wQ_post (rs := [.cell 6 108, .tmp 7]) (vs := [.agg #[.int .i64 0, .int .i64 0, .int .i64 0, .int .i64 0, .int .i64 0, .slice none 0 0], .int .i64 (brtFault ⟨ro, ep, fr, tg, rd, l⟩)]) rfl ⟨⟨_, rfl, res_row 0 S55 rfl Try.underlying108 rfl inf108⟩, rfl, trivial⟩ ?_)))))
  have S56 : St w.heap.size w w54 [] := (St.del 0 (St.del 1 (St.del 2 S55))); clear S55
  rw [show beginM ⟨ro, ep, fr, tg, rd, l⟩ e f = (⟨0, 0, 0, 0, 0, []⟩, brtFault ⟨ro, ep, fr, tg, rd, l⟩) from by unfold beginM; (try dsimp only); (repeat' (first | rfl | omega | split)) <;> (simp only [Prod.mk.injEq, Brt.mk.injEq, and_true, true_and, and_self]; omega)]
  exact ⟨none, 0, rfl, rdo_nil S56⟩

end Go.Proofs.Ytkjlafpafmihaaa

namespace Go.Proofs.Ytkjlafpafmihaaa
open Go.ChangeShapes Go.WideShapes Go.RowKit

theorem beginM_len {b : Brt} {e : Int} {f : Int} : (beginM b e f).1.evs.length ≤ b.evs.length + 1 := by
  unfold beginM
  (repeat' split) <;> (try simp [zeroB]) <;> (try omega)

set_option maxRecDepth 100000 in
set_option maxHeartbeats 2000000 in
theorem berthBegins_calls (ro ep fr tg rd : Int) (A : Option Addr) (c : Nat) (l : List Ev) (e : Int) (f : Int) (hlc : l.length ≤ c) (w : World) (h : Rd w w.heap.size 6 A l.length (evCells l)) (hb : l.length * 48 ≤ reachBytes) :
    Calls Try.prog 23 #[.agg #[.int .i64 ro, .int .i64 ep, .int .i64 fr, .int .i64 tg, .int .i64 rd, .slice A l.length c], .int .i64 e, .int .i64 f] w fun e w' => e = .returned (.bool true) ∧ Below w.heap.size w w' := by
 have S := (St.start w).addRd h; clear h
 have hb2 := hb
 unfold reachBytes at hb2
 have HP := fun A c w h => Begin_calls ro ep fr tg rd A c l e f w h hb
 have HR := fun A c w h => Begun_calls ro ep fr tg rd A c l e f w h hb
 have hlen := beginM_len (b := ⟨ro, ep, fr, tg, rd, l⟩) (e := e) (f := f)
 generalize beginM ⟨ro, ep, fr, tg, rd, l⟩ e f = R at HP HR hlen
 dsimp only at hlen
 refine calls_of_wC (N := 41) (vs := [.agg #[.int .i64 ro, .int .i64 ep, .int .i64 fr, .int .i64 tg, .int .i64 rd, .slice A l.length c], .int .i64 e, .int .i64 f]) Try.func23 rfl rfl rfl ?_
 refine wC_sub (l' := [(0, .agg #[.int .i64 ro, .int .i64 ep, .int .i64 fr, .int .i64 tg, .int .i64 rd, .slice A l.length c]), (1, .int .i64 e), (2, .int .i64 f)]) ⟨rfl, rfl, rfl, trivial⟩ (wC_seq (wC_region (wL_new (V := fun b => .pointer (some ⟨b, 0, none⟩)) (row := #[.int .i64 ro, .int .i64 ep, .int .i64 fr, .int .i64 tg, .int .i64 rd, .slice A l.length c]) (t := 108) S (wn rfl) rfl rfl (d_box rfl rfl rfl) ?_))); intro b1 w2 S3; clear S
 refine wL_val (wn rfl) rfl rfl (y_assign rfl rfl) ?_
 refine wL_nil (wQ_sub (l' := [(1, _), (2, _), (3, _), (6, _)]) ⟨rfl, rfl, rfl, rfl, trivial⟩ (wQ_then (wC_seq (wC_region (wL_val (wn rfl) rfl rfl (y_load rfl rfl (r_load_row 0 S3 rfl Try.underlying108 rfl inf108 rfl)) ?_)))))
 refine wL_call (vs := [.agg #[.int .i64 ro, .int .i64 ep, .int .i64 fr, .int .i64 tg, .int .i64 rd, .slice A l.length c]]) (wn rfl) rfl rfl (e_call (vs := [.agg #[.int .i64 ro, .int .i64 ep, .int .i64 fr, .int .i64 tg, .int .i64 rd, .slice A l.length c]]) rfl en77 ⟨rfl, trivial⟩) (berths_calls ro ep fr tg rd A c l _ (St.rd 1 S3 rfl) hb) ?_
 rintro _ w6 ⟨A4, c5, rfl, T8⟩
 refine ⟨_, rfl, ?_⟩
 have S7 := S3.ext T8 rfl; clear T8 S3
 change St _ _ _ [.own 37 6 (.slice A4 l.length c5) l.length ((l).flatMap Ev.cells), _, _] at S7
 refine wL_new (V := fun b => .pointer (some ⟨b, 0, none⟩)) (row := #[.int .i64 0, .int .i64 0, .int .i64 0, .int .i64 0, .int .i64 0, .slice none 0 0]) (t := 108) S7 (wn rfl) rfl rfl (d_alloc rfl (Try.zeroValue108 _) rfl) ?_; intro b9 w10 S11; clear S7
 refine wL_st (fs' := [_, _, _, _]) 0 S11 (wn rfl) rfl rfl rfl rfl rfl rfl inf108 rfl (oneAll rfl) (Nat.le_of_ble_eq_true rfl) (setAll_all rfl) rfl ?_; intro w12 S13; clear S11
 refine wL_nil (wQ_sub (l' := [(1, _), (2, _), (3, _), (6, _), (7, _)]) ⟨rfl, rfl, rfl, rfl, rfl, trivial⟩ (wQ_then (wC_seq (wC_region (wL_val (wn rfl) rfl rfl (y_load rfl rfl (r_load_row 0 S13 rfl Try.underlying108 rfl inf108 rfl)) ?_)))))
 refine wL_val (wn rfl) rfl rfl (y_move rfl rfl) ?_
 refine wL_val (wn rfl) rfl rfl (y_move rfl rfl) ?_
 refine wL_call (vs := [.agg #[.int .i64 ro, .int .i64 ep, .int .i64 fr, .int .i64 tg, .int .i64 rd, .slice A4 l.length c5], .int .i64 e, .int .i64 f]) (wn rfl) rfl rfl (e_call (vs := [.agg #[.int .i64 ro, .int .i64 ep, .int .i64 fr, .int .i64 tg, .int .i64 rd, .slice A4 l.length c5], .int .i64 e, .int .i64 f]) rfl en88 ⟨rfl, rfl, rfl, trivial⟩) (HP A4 c5 _ (St.ord 1 S13 rfl)) ?_
 rintro _ w16 ⟨A14, c15, rfl, T18⟩
 refine ⟨_, rfl, ?_⟩
 have S17 := S13.ext T18 rfl; clear T18 S13
 change St _ _ _ [.rdo 6 A14 R.1.evs.length ((R.1.evs).flatMap Ev.cells), _, _, _, _] at S17
 refine wL_val (wn rfl) rfl rfl (y_move rfl rfl) ?_
 refine wL_val (wn rfl) rfl rfl (y_extract rfl rfl rfl) ?_
 refine wL_val (wn rfl) rfl rfl (y_extract rfl rfl rfl) ?_
 refine wL_new (V := fun b => .pointer (some ⟨b, 0, none⟩)) (row := #[.int .i64 0, .int .i64 0, .int .i64 0, .int .i64 0, .int .i64 0, .slice none 0 0]) (t := 108) S17 (wn rfl) rfl rfl (d_alloc rfl (Try.zeroValue108 _) rfl) ?_; intro b19 w20 S21; clear S17
 refine wL_st (fs' := [_, _, _, _, _, _]) 0 S21 (wn rfl) rfl rfl rfl rfl rfl rfl inf108 rfl (oneAll rfl) (Nat.le_of_ble_eq_true rfl) (setAll_all rfl) rfl ?_; intro w22 S23; clear S21
 refine wL_val (wn rfl) rfl rfl (y_assign rfl rfl) ?_
 refine wL_nil (wQ_sub (l' := [(1, _), (2, _), (3, _), (6, _), (7, _), (8, _), (9, _)]) ⟨rfl, rfl, rfl, rfl, rfl, rfl, rfl, trivial⟩ (wQ_then (wC_seq (wC_region (wL_val (wn rfl) rfl rfl (y_load rfl rfl (r_load_row 4 S23 rfl Try.underlying108 rfl inf108 rfl)) ?_)))))
 refine wL_val (wn rfl) rfl rfl (y_move rfl rfl) ?_
 refine wL_val (wn rfl) rfl rfl (y_move rfl rfl) ?_
 refine wL_call (vs := [.agg #[.int .i64 ro, .int .i64 ep, .int .i64 fr, .int .i64 tg, .int .i64 rd, .slice A l.length c], .int .i64 e, .int .i64 f]) (wn rfl) rfl rfl (e_call (vs := [.agg #[.int .i64 ro, .int .i64 ep, .int .i64 fr, .int .i64 tg, .int .i64 rd, .slice A l.length c], .int .i64 e, .int .i64 f]) rfl en89 ⟨rfl, rfl, rfl, trivial⟩) (HR A c _ (St.rd 5 S23 rfl)) ?_
 rintro _ w26 ⟨A24, c25, rfl, T28⟩
 refine ⟨_, rfl, ?_⟩
 have S27 := S23.ext T28 rfl; clear T28 S23
 change St _ _ _ [.rdo 6 A24 R.1.evs.length ((R.1.evs).flatMap Ev.cells), _, _, _, _, _, _] at S27
 refine wL_val (wn rfl) rfl rfl (y_move rfl rfl) ?_
 refine wL_val (wn rfl) rfl rfl (y_extract rfl rfl rfl) ?_
 refine wL_val (wn rfl) rfl rfl (y_extract rfl rfl rfl) ?_
 refine wL_new (V := fun b => .pointer (some ⟨b, 0, none⟩)) (row := #[.int .i64 0, .int .i64 0, .int .i64 0, .int .i64 0, .int .i64 0, .slice none 0 0]) (t := 108) S27 (wn rfl) rfl rfl (d_alloc rfl (Try.zeroValue108 _) rfl) ?_; intro b29 w30 S31; clear S27
 refine wL_st (fs' := [_, _, _, _, _, _, _, _]) 0 S31 (wn rfl) rfl rfl rfl rfl rfl rfl inf108 rfl (oneAll rfl) (Nat.le_of_ble_eq_true rfl) (setAll_all rfl) rfl ?_; intro w32 S33; clear S31
 refine wL_val (wn rfl) rfl rfl (y_assign rfl rfl) ?_
 refine wL_nil (wQ_sub (l' := [(3, _), (6, _), (7, _), (8, _), (9, _), (10, _), (11, _)]) ⟨rfl, rfl, rfl, rfl, rfl, rfl, rfl, trivial⟩ (wQ_then (wC_seq (wC_region (wL_val (wn rfl) rfl rfl (y_move rfl rfl) ?_)))))
 refine wL_val (wn rfl) rfl rfl (y_move rfl rfl) ?_
 refine wL_val (v := .bool true) (wn rfl) rfl rfl (y_binop rfl rfl rfl (r_eql_t rfl)) ?_
 refine wL_val (wn rfl) rfl rfl (y_move rfl rfl) ?_
 refine wL_val (wg rfl rfl rfl rfl) rfl rfl (y_load rfl rfl (r_load_row 2 S33 rfl Try.underlying108 rfl inf108 rfl)) ?_
 refine wL_val (wg rfl rfl rfl rfl) rfl rfl (y_load rfl rfl (r_load_row 0 S33 rfl Try.underlying108 rfl inf108 rfl)) ?_
 refine wL_call (vs := [.agg #[.int .i64 R.1.role, .int .i64 R.1.ep, .int .i64 R.1.fr, .int .i64 R.1.tg, .int .i64 R.1.rd, .slice A14 R.1.evs.length c15], .agg #[.int .i64 R.1.role, .int .i64 R.1.ep, .int .i64 R.1.fr, .int .i64 R.1.tg, .int .i64 R.1.rd, .slice A24 R.1.evs.length c25]]) (wg rfl rfl rfl rfl) rfl rfl (e_call (vs := [.agg #[.int .i64 R.1.role, .int .i64 R.1.ep, .int .i64 R.1.fr, .int .i64 R.1.tg, .int .i64 R.1.rd, .slice A14 R.1.evs.length c15], .agg #[.int .i64 R.1.role, .int .i64 R.1.ep, .int .i64 R.1.fr, .int .i64 R.1.tg, .int .i64 R.1.rd, .slice A24 R.1.evs.length c25]]) rfl en81 ⟨rfl, rfl, trivial⟩) (sameBerth_calls R.1.role R.1.ep R.1.fr R.1.tg R.1.rd A14 c15 A24 c25 R.1.evs _ (St.rdo 3 S33 rfl) (St.rdo 1 S33 rfl) (by omega)) ?_
 rintro _ w34 ⟨rfl, hb36⟩
 refine ⟨_, rfl, ?_⟩
 have S35 := S33.on hb36; clear hb36 S33
 refine wL_val (wn rfl) rfl rfl (y_pick_t rfl rfl rfl) ?_
 refine wL_val (wn rfl) rfl rfl (y_move rfl rfl) ?_
 refine wL_val (wg rfl rfl rfl rfl) rfl rfl (y_load rfl rfl (r_load_row 4 S35 rfl Try.underlying108 rfl inf108 rfl)) ?_
 refine wL_val (wg rfl rfl rfl rfl) rfl rfl (y_load rfl rfl (r_load_row 6 S35 rfl Try.underlying108 rfl inf108 rfl)) ?_
 refine wL_call (vs := [.agg #[.int .i64 ro, .int .i64 ep, .int .i64 fr, .int .i64 tg, .int .i64 rd, .slice A4 l.length c5], .agg #[.int .i64 ro, .int .i64 ep, .int .i64 fr, .int .i64 tg, .int .i64 rd, .slice A l.length c]]) (wg rfl rfl rfl rfl) rfl rfl (e_call (vs := [.agg #[.int .i64 ro, .int .i64 ep, .int .i64 fr, .int .i64 tg, .int .i64 rd, .slice A4 l.length c5], .agg #[.int .i64 ro, .int .i64 ep, .int .i64 fr, .int .i64 tg, .int .i64 rd, .slice A l.length c]]) rfl en81 ⟨rfl, rfl, trivial⟩) (sameBerth_calls ro ep fr tg rd A4 c5 A c l _ (St.ord 5 S35 rfl) (St.rd 7 S35 rfl) (by omega)) ?_
 rintro _ w37 ⟨rfl, hb39⟩
 refine ⟨_, rfl, ?_⟩
 have S38 := S35.on hb39; clear hb39 S35
 refine wL_val (wn rfl) rfl rfl (y_pick_t rfl rfl rfl) ?_
 refine wL_val (wn rfl) rfl rfl (y_assign rfl rfl) ?_
 refine wL_nil (wQ_sub (l' := [(6, _)]) ⟨rfl, trivial⟩ (wQ_then (wC_ret (wQ_post (rs := [.tmp 6]) (vs := [.bool true]) rfl ⟨rfl, trivial⟩ ?_))))
 exact ⟨rfl, S38.low⟩

set_option maxRecDepth 100000 in
theorem berthBegins_walk (W : World) (args : Array Value) (h : All2 (ArgOk Try.prog W) args.toList Try.f23.params.toList) :
    Calls Try.prog 23 args W fun e W' => e = .returned (.bool true) ∧ Below W.heap.size W W' := by
  rw [Try.params23] at h
  obtain ⟨v0, l0, hv0, h0, g0⟩ := All2.cons_ h
  obtain ⟨v1, l1, hv1, h1, g1⟩ := All2.cons_ g0
  obtain ⟨v2, l2, hv2, h2, g2⟩ := All2.cons_ g1
  have h9 := All2.nil_ g2
  subst h9
  obtain rfl : args = #[v0, v1, v2] := by cases args; simp_all
  obtain ⟨ro, ep, fr, tg, rd, A, c, l, rfl, hr, hn, hc, hb⟩ := arg_berth h0
  obtain ⟨⟨_, hk1⟩, _, _⟩ := h1
  obtain ⟨e, rfl⟩ := okWide_int Try.underlying3 hk1
  obtain ⟨⟨_, hk2⟩, _, _⟩ := h2
  obtain ⟨f, rfl⟩ := okWide_int Try.underlying3 hk2
  exact berthBegins_calls ro ep fr tg rd A c l e f hn W hr hb
end Go.Proofs.Ytkjlafpafmihaaa

