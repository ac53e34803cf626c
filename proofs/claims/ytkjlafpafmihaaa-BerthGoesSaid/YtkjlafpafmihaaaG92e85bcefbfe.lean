/- Parts of proofs: lemmas on memory, on single functions and on the plain models; no condition of their own. -/
import Derived.Test.YtkjlafpafmihaaaRows
import Derived.WalkKit
import Derived.ProofKit
import Derived.OpenShut
import Derived.SizedLaws
import Derived.WalkSpells
import Derived.WalkLawsBesides
import Derived.Handy
import Derived.Deep.QuietTactic
import Derived.BigQuiet
import Derived.Lib.Hide
import Derived.Maps.AppendAt
import Derived.Deep.AppendLies
import Derived.RegionTactic
import Derived.OwnWalk
import Derived.Laws.Tables
import Derived.Deep.MidRow
import Derived.StillTailTactics
import Derived.OrdersHeld
import Derived.Deep.RegionHeld3
import Derived.Laws.IdiomCopy
import Derived.ChangeKeysEq
import Derived.Laws.BitsAllLaws
import Derived.Deep.DeepCutAuto
import Derived.Deep.CutRange
import Derived.Shelf.SlSortCmp.WholeK
import Derived.Shelf.SlSortCmp.NoneTotal
import Derived.Shelf.SlicesG.Cmp
import Derived.Shelf.SlGeneric
import Derived.Ground.SlsfProg
import Derived.Ground.SlgcProg
import Derived.Maps.OwnSet
import Derived.Lib.SliceRun
import Derived.Deep.RegionLaw
import Derived.Test.YtkjlafpafmihaaaG0536ac0a2e58
import Derived.Test.YtkjlafpafmihaaaG06e1f1d2e814
import Derived.Test.YtkjlafpafmihaaaG0e35ec4e0bdc
import Derived.Test.YtkjlafpafmihaaaG2143c9b0b786
import Derived.Test.YtkjlafpafmihaaaG2955b7bf0201
import Derived.Test.YtkjlafpafmihaaaG3cad135f796d
import Derived.Test.YtkjlafpafmihaaaG4616653cfbd3
import Derived.Test.YtkjlafpafmihaaaG668153da7687
import Derived.Test.YtkjlafpafmihaaaG69ea6f18ea30
import Derived.Test.YtkjlafpafmihaaaG7f9bde47e941
import Derived.Test.YtkjlafpafmihaaaG8ba6bfb0af5b
import Derived.Test.YtkjlafpafmihaaaG9d6a0cc61d66
import Derived.Test.YtkjlafpafmihaaaGa67dcf529610
import Derived.Test.YtkjlafpafmihaaaGa89c1a6f9966
import Derived.Test.YtkjlafpafmihaaaGa956530333d6
import Derived.Test.YtkjlafpafmihaaaGad4fca606e19
import Derived.Test.YtkjlafpafmihaaaGb06670d46fbe
import Derived.Test.YtkjlafpafmihaaaGb705d1f06a25
import Derived.Test.YtkjlafpafmihaaaGbae20d409ca2
import Derived.Test.YtkjlafpafmihaaaGc78e27da6ed6
import Derived.Test.YtkjlafpafmihaaaGd3dd665860e0
import Derived.Test.YtkjlafpafmihaaaGf3cc171333c0
import Derived.Test.YtkjlafpafmihaaaGfed51b8f206e
set_option linter.unusedVariables false
set_option linter.unusedSimpArgs false

namespace Go.Proofs.Ytkjlafpafmihaaa
open Go.ChangeShapes Go.WideShapes Go.RowKit

set_option maxRecDepth 100000 in
set_option maxHeartbeats 1000000 in
theorem Go_calls (ro ep fr tg rd : Int) (A : Option Addr) (c : Nat) (l : List Ev) (t : Int) (w : World) (h : Rd w w.heap.size 6 A l.length (evCells l)) (hb : l.length * 48 ≤ reachBytes) :
    Calls Try.prog 90 #[.agg #[.int .i64 ro, .int .i64 ep, .int .i64 fr, .int .i64 tg, .int .i64 rd, .slice A l.length c], .int .i64 t] w (BrtPost w (goM ⟨ro, ep, fr, tg, rd, l⟩ t)) := by
 have S := (St.start w).addRd h; clear h
 have hb2 := hb
 unfold reachBytes at hb2
 refine calls_of_wC (N := 44) (vs := [.agg #[.int .i64 ro, .int .i64 ep, .int .i64 fr, .int .i64 tg, .int .i64 rd, .slice A l.length c], .int .i64 t]) Try.func90 rfl rfl rfl ?_
 refine wC_sub (l' := [(0, .agg #[.int .i64 ro, .int .i64 ep, .int .i64 fr, .int .i64 tg, .int .i64 rd, .slice A l.length c]), (1, .int .i64 t)]) ⟨rfl, rfl, trivial⟩ (wC_seq (wC_region (wL_new (V := fun b => .pointer (some ⟨b, 0, none⟩)) (row := #[.int .i64 ro, .int .i64 ep, .int .i64 fr, .int .i64 tg, .int .i64 rd, .slice A l.length c]) (t := 108) S (wn rfl) rfl rfl (d_box rfl rfl rfl) ?_))); intro b1 w2 S3; clear S
 refine wL_new (V := fun b => .pointer (some ⟨b, 0, none⟩)) (row := #[.int .i64 0, .int .i64 0, .int .i64 0, .int .i64 0, .int .i64 0, .slice none 0 0]) (t := 108) S3 (wn rfl) rfl rfl (d_alloc rfl (Try.zeroValue108 _) rfl) ?_; intro b4 w5 S6; clear S3
 refine wL_val (wn rfl) rfl rfl (y_assign rfl rfl) ?_
 refine wL_nil (wQ_sub (l' := [(1, _), (2, _), (4, _), (5, _)]) ⟨rfl, rfl, rfl, rfl, trivial⟩ (wQ_then (wC_seq (wC_seq (wC_region (wL_val (wn rfl) rfl rfl (y_load rfl rfl (r_load_row 1 S6 rfl Try.underlying108 rfl inf108 rfl)) ?_))))))
 refine wL_call (vs := [.agg #[.int .i64 ro, .int .i64 ep, .int .i64 fr, .int .i64 tg, .int .i64 rd, .slice A l.length c]]) (wn rfl) rfl rfl (e_call (vs := [.agg #[.int .i64 ro, .int .i64 ep, .int .i64 fr, .int .i64 tg, .int .i64 rd, .slice A l.length c]]) rfl en76 ⟨rfl, trivial⟩) (BCheck_calls ro ep fr tg rd A c l _ (St.rd 2 S6 rfl) (by omega)) ?_
 rintro _ w7 ⟨rfl, hb9⟩
 refine ⟨_, rfl, ?_⟩
 have S8 := S6.on hb9; clear hb9 S6
 refine wL_val (wn rfl) rfl rfl (y_assign rfl rfl) ?_
 refine wL_nil (wQ_sub (l' := [(1, _), (2, _), (4, _), (5, _), (6, _)]) ⟨rfl, rfl, rfl, rfl, rfl, trivial⟩ (wQ_then (wC_block (wC_seq (wC_region (wL_val (wn rfl) rfl rfl (y_move rfl rfl) ?_))))))
 by_cases h10 : brtFault ⟨ro, ep, fr, tg, rd, l⟩ = 0
 ·have hsh := (bf_zero h10).1
  unfold shapeB at hsh
  have hln := tellM_len (bf_zero h10).2
  dsimp only at hsh hln
  refine wL_val (v := .bool false) (wn rfl) rfl rfl (y_binop rfl rfl rfl (r_neq_f h10)) ?_
  refine wL_val (wn rfl) rfl rfl (y_assign rfl rfl) ?_
  refine wL_nil (wQ_sub (l' := [(1, _), (2, _), (4, _), (5, _), (6, _), (9, _)]) ⟨rfl, rfl, rfl, rfl, rfl, rfl, trivial⟩ (wQ_then (wC_cond_f rfl (wC_seq (wC_region (wL_val (wn rfl) rfl rfl (y_move rfl rfl) ?_))))))
  by_cases hp11 : 0 ≤ t ∧ t < 5
  ·have HC12 := fun (w : World) => node_calls t w
   rw [decide_eq_true hp11] at HC12
   refine wL_call (vs := [.int .i64 t]) (wn rfl) rfl rfl (e_call (vs := [.int .i64 t]) rfl en161 ⟨rfl, trivial⟩) (HC12 _) ?_
   rintro _ w13 ⟨rfl, hb15⟩
   refine ⟨_, rfl, ?_⟩
   have S14 := S8.on hb15; clear hb15 S8; clear HC12
   refine wL_val (v := .bool false) (wn rfl) rfl rfl (y_unop rfl rfl r_not) ?_
   refine wL_val (wn rfl) rfl rfl (y_assign rfl rfl) ?_
   refine wL_nil (wQ_sub (l' := [(1, _), (2, _), (4, _), (5, _), (14, _)]) ⟨rfl, rfl, rfl, rfl, rfl, trivial⟩ (wQ_then (wC_cond_f rfl (wC_seq (wC_region (wL_val (v := .pointer (some ⟨b1, 0, none⟩)) (wn rfl) rfl rfl (y_fieldAddr rfl rfl (fa108_0 _ _ _)) ?_))))))
   refine wL_val (wn rfl) rfl rfl (y_load rfl rfl (r_load Try.underlying3 rfl (St.cl 1 S14 rfl rfl))) ?_
   by_cases h16 : ro = 2
   ·refine wL_val (v := .bool true) (wn rfl) rfl rfl (y_binop rfl rfl rfl (r_eql_t h16)) ?_
    refine wL_val (wn rfl) rfl rfl (y_move rfl rfl) ?_
    refine wL_skip (wg rfl rfl rfl rfl) rfl rfl ?_
    refine wL_skip (wg rfl rfl rfl rfl) rfl rfl ?_
    refine wL_skip (wg rfl rfl rfl rfl) rfl rfl ?_
    refine wL_val (wn rfl) rfl rfl (y_pick_t rfl rfl rfl) ?_
    refine wL_val (wn rfl) rfl rfl (y_assign rfl rfl) ?_
    refine wL_nil (wQ_sub (l' := [(1, _), (2, _), (4, _), (5, _), (19, _)]) ⟨rfl, rfl, rfl, rfl, rfl, trivial⟩ (wQ_then (wC_cond_t rfl (wC_seq (wC_region (wL_val (v := .agg #[.int .i64 0, .int .i64 0, .int .i64 0, .int .i64 0, .int .i64 0, .slice none 0 0]) (wn rfl) rfl rfl (y_build (vs := []) rfl trivial (by kernel_rfl)) ?_))))))
    refine wL_st (fs' := [_, _, _]) 0 S14 (wn rfl) rfl rfl rfl rfl rfl rfl inf108 rfl (oneAll rfl) (Nat.le_of_ble_eq_true rfl) (setAll_all rfl) rfl ?_; intro w17 S18; clear S14
    refine wL_val (wn rfl) rfl rfl (y_assign rfl rfl) ?_
    refine wL_nil (wQ_sub (l' := [(4, _), (5, _)]) ⟨rfl, rfl, trivial⟩ (wQ_then (wC_ret (wQ_blk_ret (wQ_then_ret (wQ_post (rs := [.cell 4 108, .tmp 5]) (vs := [.agg #[.int .i64 0, .int .i64 0, .int .i64 0, .int .i64 0, .int .i64 0, .slice none 0 0], .int .i64 12]) rfl ⟨⟨_, rfl, res_row 0 S18 rfl Try.underlying108 rfl inf108⟩, rfl, trivial⟩ ?_))))))
    have S19 : St w.heap.size w w17 [] := (St.del 0 (St.del 1 (St.del 2 S18))); clear S18
    rw [show goM ⟨ro, ep, fr, tg, rd, l⟩ t = (⟨0, 0, 0, 0, 0, []⟩, 12) from by unfold goM; (try dsimp only); (repeat' (first | rfl | omega | split)) <;> (simp only [Prod.mk.injEq, Brt.mk.injEq, and_true, true_and, and_self]; omega)]
    exact ⟨none, 0, rfl, rdo_nil S19⟩
   ·refine wL_val (v := .bool false) (wn rfl) rfl rfl (y_binop rfl rfl rfl (r_eql_f h16)) ?_
    refine wL_val (wn rfl) rfl rfl (y_move rfl rfl) ?_
    refine wL_val (v := .pointer (some ⟨b1, 0, none⟩)) (wg rfl rfl rfl rfl) rfl rfl (y_fieldAddr rfl rfl (fa108_0 _ _ _)) ?_
    refine wL_val (wg rfl rfl rfl rfl) rfl rfl (y_load rfl rfl (r_load Try.underlying3 rfl (St.cl 1 S14 rfl rfl))) ?_
    by_cases h20 : ro = 3
    ·refine wL_val (v := .bool true) (wg rfl rfl rfl rfl) rfl rfl (y_binop rfl rfl rfl (r_eql_t h20)) ?_
     refine wL_val (wn rfl) rfl rfl (y_pick_f rfl rfl rfl) ?_
     refine wL_val (wn rfl) rfl rfl (y_assign rfl rfl) ?_
     refine wL_nil (wQ_sub (l' := [(1, _), (2, _), (4, _), (5, _), (19, _)]) ⟨rfl, rfl, rfl, rfl, rfl, trivial⟩ (wQ_then (wC_cond_t rfl (wC_seq (wC_region (wL_val (v := .agg #[.int .i64 0, .int .i64 0, .int .i64 0, .int .i64 0, .int .i64 0, .slice none 0 0]) (wn rfl) rfl rfl (y_build (vs := []) rfl trivial (by kernel_rfl)) ?_))))))
     refine wL_st (fs' := [_, _, _]) 0 S14 (wn rfl) rfl rfl rfl rfl rfl rfl inf108 rfl (oneAll rfl) (Nat.le_of_ble_eq_true rfl) (setAll_all rfl) rfl ?_; intro w21 S22; clear S14
     refine wL_val (wn rfl) rfl rfl (y_assign rfl rfl) ?_
     refine wL_nil (wQ_sub (l' := [(4, _), (5, _)]) ⟨rfl, rfl, trivial⟩ (wQ_then (wC_ret (wQ_blk_ret (wQ_then_ret (wQ_post (rs := [.cell 4 108, .tmp 5]) (vs := [.agg #[.int .i64 0, .int .i64 0, .int .i64 0, .int .i64 0, .int .i64 0, .slice none 0 0], .int .i64 12]) rfl ⟨⟨_, rfl, res_row 0 S22 rfl Try.underlying108 rfl inf108⟩, rfl, trivial⟩ ?_))))))
     have S23 : St w.heap.size w w21 [] := (St.del 0 (St.del 1 (St.del 2 S22))); clear S22
     rw [show goM ⟨ro, ep, fr, tg, rd, l⟩ t = (⟨0, 0, 0, 0, 0, []⟩, 12) from by unfold goM; (try dsimp only); (repeat' (first | rfl | omega | split)) <;> (simp only [Prod.mk.injEq, Brt.mk.injEq, and_true, true_and, and_self]; omega)]
     exact ⟨none, 0, rfl, rdo_nil S23⟩
    ·refine wL_val (v := .bool false) (wg rfl rfl rfl rfl) rfl rfl (y_binop rfl rfl rfl (r_eql_f h20)) ?_
     refine wL_val (wn rfl) rfl rfl (y_pick_f rfl rfl rfl) ?_
     refine wL_val (wn rfl) rfl rfl (y_assign rfl rfl) ?_
     refine wL_nil (wQ_sub (l' := [(1, _), (2, _), (4, _), (5, _), (19, _)]) ⟨rfl, rfl, rfl, rfl, rfl, trivial⟩ (wQ_then (wC_cond_f rfl (wC_seq (wC_region (wL_val (v := .pointer (some ⟨b1, 0, none⟩)) (wn rfl) rfl rfl (y_fieldAddr rfl rfl (fa108_0 _ _ _)) ?_))))))
     refine wL_val (wn rfl) rfl rfl (y_load rfl rfl (r_load Try.underlying3 rfl (St.cl 1 S14 rfl rfl))) ?_
     by_cases h24 : ro = 1
     ·refine wL_val (v := .bool false) (wn rfl) rfl rfl (y_binop rfl rfl rfl (r_neq_f h24)) ?_
      refine wL_val (wn rfl) rfl rfl (y_assign rfl rfl) ?_
      refine wL_nil (wQ_sub (l' := [(1, _), (2, _), (4, _), (5, _), (29, _)]) ⟨rfl, rfl, rfl, rfl, rfl, trivial⟩ (wQ_then (wC_cond_f rfl (wC_seq (wC_region (wL_val (v := .pointer (some ⟨b1, 1, none⟩)) (wn rfl) rfl rfl (y_fieldAddr rfl rfl (fa108_1 _ _ _)) ?_))))))
      refine wL_val (wn rfl) rfl rfl (y_load rfl rfl (r_load Try.underlying3 rfl (St.cl 1 S14 rfl rfl))) ?_
      by_cases h25 : ep = 1048576
      ·refine wL_val (v := .bool true) (wn rfl) rfl rfl (y_binop rfl rfl rfl (r_eql_t h25)) ?_
       refine wL_val (wn rfl) rfl rfl (y_assign rfl rfl) ?_
       refine wL_nil (wQ_sub (l' := [(1, _), (2, _), (4, _), (5, _), (34, _)]) ⟨rfl, rfl, rfl, rfl, rfl, trivial⟩ (wQ_then (wC_cond_t rfl (wC_seq (wC_region (wL_val (v := .agg #[.int .i64 0, .int .i64 0, .int .i64 0, .int .i64 0, .int .i64 0, .slice none 0 0]) (wn rfl) rfl rfl (y_build (vs := []) rfl trivial (by kernel_rfl)) ?_))))))
       refine wL_st (fs' := [_, _, _]) 0 S14 (wn rfl) rfl rfl rfl rfl rfl rfl inf108 rfl (oneAll rfl) (Nat.le_of_ble_eq_true rfl) (setAll_all rfl) rfl ?_; intro w26 S27; clear S14
       refine wL_val (wn rfl) rfl rfl (y_assign rfl rfl) ?_
       refine wL_nil (wQ_sub (l' := [(4, _), (5, _)]) ⟨rfl, rfl, trivial⟩ (wQ_then (wC_ret (wQ_blk_ret (wQ_then_ret (wQ_post (rs := [.cell 4 108, .tmp 5]) (vs := [.agg #[.int .i64 0, .int .i64 0, .int .i64 0, .int .i64 0, .int .i64 0, .slice none 0 0], .int .i64 14]) rfl ⟨⟨_, rfl, res_row 0 S27 rfl Try.underlying108 rfl inf108⟩, rfl, trivial⟩ ?_))))))
       have S28 : St w.heap.size w w26 [] := (St.del 0 (St.del 1 (St.del 2 S27))); clear S27
       rw [show goM ⟨ro, ep, fr, tg, rd, l⟩ t = (⟨0, 0, 0, 0, 0, []⟩, 14) from by unfold goM; (try dsimp only); (repeat' (first | rfl | omega | split)) <;> (simp only [Prod.mk.injEq, Brt.mk.injEq, and_true, true_and, and_self]; omega)]
       exact ⟨none, 0, rfl, rdo_nil S28⟩
      ·refine wL_val (v := .bool false) (wn rfl) rfl rfl (y_binop rfl rfl rfl (r_eql_f h25)) ?_
       refine wL_val (wn rfl) rfl rfl (y_assign rfl rfl) ?_
       refine wL_nil (wQ_sub (l' := [(1, _), (2, _), (4, _), (5, _), (34, _)]) ⟨rfl, rfl, rfl, rfl, rfl, trivial⟩ (wQ_then (wC_cond_f rfl (wC_skip (wQ_blk_n (wQ_then (wC_seq (wC_region (wL_val (wn rfl) rfl rfl (y_move rfl rfl) ?_)))))))))
       refine wL_val (v := .pointer (some ⟨b1, 0, none⟩)) (wn rfl) rfl rfl (y_fieldAddr rfl rfl (fa108_0 _ _ _)) ?_
       refine wL_st (cs := #[.int .i64 2]) (row' := #[.int .i64 2, .int .i64 ep, .int .i64 fr, .int .i64 tg, .int .i64 rd, .slice A l.length c]) (fs' := [_, .blk b1 #[.int .i64 2, .int .i64 ep, .int .i64 fr, .int .i64 tg, .int .i64 rd, .slice A l.length c] 108, _]) 1 S14 (wn rfl) rfl rfl rfl rfl rfl rfl inf3 rfl (oneAll rfl) (Nat.le_of_ble_eq_true rfl) rfl rfl ?_; intro w29 S30; clear S14
       refine wL_val (v := .pointer (some ⟨b1, 3, none⟩)) (wn rfl) rfl rfl (y_fieldAddr rfl rfl (fa108_3 _ _ _)) ?_
       refine wL_st (cs := #[.int .i64 t]) (row' := #[.int .i64 2, .int .i64 ep, .int .i64 fr, .int .i64 t, .int .i64 rd, .slice A l.length c]) (fs' := [_, .blk b1 #[.int .i64 2, .int .i64 ep, .int .i64 fr, .int .i64 t, .int .i64 rd, .slice A l.length c] 108, _]) 1 S30 (wn rfl) rfl rfl rfl rfl rfl rfl inf3 rfl (oneAll rfl) (Nat.le_of_ble_eq_true rfl) rfl rfl ?_; intro w31 S32; clear S30
       refine wL_nil (wQ_sub (l' := [(2, _), (4, _), (5, _)]) ⟨rfl, rfl, rfl, trivial⟩ (wQ_then (wC_seq (wC_region (wL_val (wn rfl) rfl rfl (y_load rfl rfl (r_load_row 1 S32 rfl Try.underlying108 rfl inf108 rfl)) ?_)))))
       refine wL_call (vs := [.agg #[.int .i64 2, .int .i64 ep, .int .i64 fr, .int .i64 t, .int .i64 rd, .slice A l.length c], .slice none 0 0]) (wn rfl) rfl rfl (e_call (vs := [.agg #[.int .i64 2, .int .i64 ep, .int .i64 fr, .int .i64 t, .int .i64 rd, .slice A l.length c], .slice none 0 0]) rfl en160 ⟨rfl, rfl, trivial⟩) (with0_calls 2 ep fr t rd A c l _ (St.rd 2 S32 rfl) hb) ?_
       rintro _ w35 ⟨A33, c34, rfl, T37⟩
       refine ⟨_, rfl, ?_⟩
       have S36 := S32.ext T37 rfl; clear T37 S32
       change St _ _ _ [.own 37 6 (.slice A33 l.length c34) l.length ((l).flatMap Ev.cells), _, _, _] at S36
       refine wL_st (fs' := [_, _, _, _]) 1 S36 (wn rfl) rfl rfl rfl rfl rfl rfl inf108 rfl (oneAll rfl) (Nat.le_of_ble_eq_true rfl) (setAll_all rfl) rfl ?_; intro w38 S39; clear S36
       refine wL_val (wn rfl) rfl rfl (y_assign rfl rfl) ?_
       refine wL_nil (wQ_sub (l' := [(4, _), (5, _)]) ⟨rfl, rfl, trivial⟩ (wQ_then (wC_ret (wQ_post (rs := [.cell 4 108, .tmp 5]) (vs := [.agg #[.int .i64 2, .int .i64 ep, .int .i64 fr, .int .i64 t, .int .i64 rd, .slice A33 l.length c34], .int .i64 0]) rfl ⟨⟨_, rfl, res_row 1 S39 rfl Try.underlying108 rfl inf108⟩, rfl, trivial⟩ ?_))))
       have S40 : St w.heap.size w w38 [_] := (St.del 1 (St.del 2 (St.del 3 S39))); clear S39
       have S41 := S40.sealAll 0 rfl; clear S40
       change St _ _ _ [.rdo 6 A33 l.length ((l).flatMap Ev.cells)] at S41
       rw [show goM ⟨ro, ep, fr, tg, rd, l⟩ t = (⟨2, ep, fr, t, rd, l⟩, 0) from by unfold goM; (try dsimp only); (repeat' (first | rfl | omega | split)) <;> (simp only [Prod.mk.injEq, Brt.mk.injEq, and_true, true_and, and_self]; omega)]
       exact ⟨A33, c34, rfl, S41⟩
     ·refine wL_val (v := .bool true) (wn rfl) rfl rfl (y_binop rfl rfl rfl (r_neq_t h24)) ?_
      refine wL_val (wn rfl) rfl rfl (y_assign rfl rfl) ?_
      refine wL_nil (wQ_sub (l' := [(1, _), (2, _), (4, _), (5, _), (29, _)]) ⟨rfl, rfl, rfl, rfl, rfl, trivial⟩ (wQ_then (wC_cond_t rfl (wC_seq (wC_region (wL_val (v := .agg #[.int .i64 0, .int .i64 0, .int .i64 0, .int .i64 0, .int .i64 0, .slice none 0 0]) (wn rfl) rfl rfl (y_build (vs := []) rfl trivial (by kernel_rfl)) ?_))))))
      refine wL_st (fs' := [_, _, _]) 0 S14 (wn rfl) rfl rfl rfl rfl rfl rfl inf108 rfl (oneAll rfl) (Nat.le_of_ble_eq_true rfl) (setAll_all rfl) rfl ?_; intro w42 S43; clear S14
      refine wL_val (wn rfl) rfl rfl (y_assign rfl rfl) ?_
      refine wL_nil (wQ_sub (l' := [(4, _), (5, _)]) ⟨rfl, rfl, trivial⟩ (wQ_then (wC_ret (wQ_blk_ret (wQ_then_ret (wQ_post (rs := [.cell 4 108, .tmp 5]) (vs := [.agg #[.int .i64 0, .int .i64 0, .int .i64 0, .int .i64 0, .int .i64 0, .slice none 0 0], .int .i64 7]) rfl ⟨⟨_, rfl, res_row 0 S43 rfl Try.underlying108 rfl inf108⟩, rfl, trivial⟩ ?_))))))
      have S44 : St w.heap.size w w42 [] := (St.del 0 (St.del 1 (St.del 2 S43))); clear S43
      rw [show goM ⟨ro, ep, fr, tg, rd, l⟩ t = (⟨0, 0, 0, 0, 0, []⟩, 7) from by unfold goM; (try dsimp only); (repeat' (first | rfl | omega | split)) <;> (simp only [Prod.mk.injEq, Brt.mk.injEq, and_true, true_and, and_self]; omega)]
      exact ⟨none, 0, rfl, rdo_nil S44⟩
  ·have HC45 := fun (w : World) => node_calls t w
   rw [decide_eq_false hp11] at HC45
   refine wL_call (vs := [.int .i64 t]) (wn rfl) rfl rfl (e_call (vs := [.int .i64 t]) rfl en161 ⟨rfl, trivial⟩) (HC45 _) ?_
   rintro _ w46 ⟨rfl, hb48⟩
   refine ⟨_, rfl, ?_⟩
   have S47 := S8.on hb48; clear hb48 S8; clear HC45
   refine wL_val (v := .bool true) (wn rfl) rfl rfl (y_unop rfl rfl r_not) ?_
   refine wL_val (wn rfl) rfl rfl (y_assign rfl rfl) ?_
   refine wL_nil (wQ_sub (l' := [(1, _), (2, _), (4, _), (5, _), (14, _)]) ⟨rfl, rfl, rfl, rfl, rfl, trivial⟩ (wQ_then (wC_cond_t rfl (wC_seq (wC_region (wL_val (v := .agg #[.int .i64 0, .int .i64 0, .int .i64 0, .int .i64 0, .int .i64 0, .slice none 0 0]) (wn rfl) rfl rfl (y_build (vs := []) rfl trivial (by kernel_rfl)) ?_))))))
   refine wL_st (fs' := [_, _, _]) 0 S47 (wn rfl) rfl rfl rfl rfl rfl rfl inf108 rfl (oneAll rfl) (Nat.le_of_ble_eq_true rfl) (setAll_all rfl) rfl ?_; intro w49 S50; clear S47
   refine wL_val (wn rfl) rfl rfl (y_assign rfl rfl) ?_
   refine wL_nil (wQ_sub (l' := [(4, _), (5, _)]) ⟨rfl, rfl, trivial⟩ (wQ_then (wC_ret (wQ_blk_ret (wQ_then_ret (wQ_post (rs := [.cell 4 108, .tmp 5]) (vs := [.agg #[.int .i64 0, .int .i64 0, .int .i64 0, .int .i64 0, .int .i64 0, .slice none 0 0], .int .i64 2]) rfl ⟨⟨_, rfl, res_row 0 S50 rfl Try.underlying108 rfl inf108⟩, rfl, trivial⟩ ?_))))))
   have S51 : St w.heap.size w w49 [] := (St.del 0 (St.del 1 (St.del 2 S50))); clear S50
   rw [show goM ⟨ro, ep, fr, tg, rd, l⟩ t = (⟨0, 0, 0, 0, 0, []⟩, 2) from by unfold goM; (try dsimp only); (repeat' (first | rfl | omega | split)) <;> (simp only [Prod.mk.injEq, Brt.mk.injEq, and_true, true_and, and_self]; omega)]
   exact ⟨none, 0, rfl, rdo_nil S51⟩
 ·refine wL_val (v := .bool true) (wn rfl) rfl rfl (y_binop rfl rfl rfl (r_neq_t h10)) ?_
  refine wL_val (wn rfl) rfl rfl (y_assign rfl rfl) ?_
  refine wL_nil (wQ_sub (l' := [(1, _), (2, _), (4, _), (5, _), (6, _), (9, _)]) ⟨rfl, rfl, rfl, rfl, rfl, rfl, trivial⟩ (wQ_then (wC_cond_t rfl (wC_seq (wC_region (wL_val (v := .agg #[.int .i64 0, .int .i64 0, .int .i64 0, .int .i64 0, .int .i64 0, .slice none 0 0]) (wn rfl) rfl rfl (y_build (vs := []) rfl trivial (by kernel_rfl)) ?_))))))
  refine wL_val (wn rfl) rfl rfl (y_move rfl rfl) ?_
  refine wL_st (fs' := [_, _, _]) 0 S8 (wn rfl) rfl rfl rfl rfl rfl rfl inf108 rfl (oneAll rfl) (Nat.le_of_ble_eq_true rfl) (setAll_all rfl) rfl ?_; intro w52 S53; clear S8
  refine wL_val (wn rfl) rfl rfl (y_assign rfl rfl) ?_
  refine wL_nil (wQ_sub (l' := [(4, _), (5, _)]) ⟨rfl, rfl, trivial⟩ (wQ_then (wC_ret (wQ_blk_ret (wQ_then_ret (wQ_post (rs := [.cell 4 108, .tmp 5]) (vs := [.agg #[.int .i64 0, .int .i64 0, .int .i64 0, .int .i64 0, .int .i64 0, .slice none 0 0], .int .i64 (brtFault ⟨ro, ep, fr, tg, rd, l⟩)]) rfl ⟨⟨_, rfl, res_row 0 S53 rfl Try.underlying108 rfl inf108⟩, rfl, trivial⟩ ?_))))))
  have S54 : St w.heap.size w w52 [] := (St.del 0 (St.del 1 (St.del 2 S53))); clear S53
  rw [show goM ⟨ro, ep, fr, tg, rd, l⟩ t = (⟨0, 0, 0, 0, 0, []⟩, brtFault ⟨ro, ep, fr, tg, rd, l⟩) from by unfold goM; (try dsimp only); (repeat' (first | rfl | omega | split)) <;> (simp only [Prod.mk.injEq, Brt.mk.injEq, and_true, true_and, and_self]; omega)]
  exact ⟨none, 0, rfl, rdo_nil S54⟩

end Go.Proofs.Ytkjlafpafmihaaa

namespace Go.Proofs.Ytkjlafpafmihaaa
open Go.ChangeShapes Go.WideShapes Go.RowKit

set_option maxRecDepth 100000 in
set_option maxHeartbeats 1000000 in
theorem Gone_calls (ro ep fr tg rd : Int) (A : Option Addr) (c : Nat) (l : List Ev) (t : Int) (w : World) (h : Rd w w.heap.size 6 A l.length (evCells l)) (hb : l.length * 48 ≤ reachBytes) :
    Calls Try.prog 91 #[.agg #[.int .i64 ro, .int .i64 ep, .int .i64 fr, .int .i64 tg, .int .i64 rd, .slice A l.length c], .int .i64 t] w (BrtPost w (goM ⟨ro, ep, fr, tg, rd, l⟩ t)) := by
 have S := (St.start w).addRd h; clear h
 have hb2 := hb
 unfold reachBytes at hb2
 refine calls_of_wC (N := 41) (vs := [.agg #[.int .i64 ro, .int .i64 ep, .int .i64 fr, .int .i64 tg, .int .i64 rd, .slice A l.length c], .int .i64 t]) Try.func91 rfl rfl rfl ?_
 refine wC_sub (l' := [(0, .agg #[.int .i64 ro, .int .i64 ep, .int .i64 fr, .int .i64 tg, .int .i64 rd, .slice A l.length c]), (1, .int .i64 t)]) ⟨rfl, rfl, trivial⟩ (wC_seq (wC_region (wL_new (V := fun b => .pointer (some ⟨b, 0, none⟩)) (row := #[.int .i64 ro, .int .i64 ep, .int .i64 fr, .int .i64 tg, .int .i64 rd, .slice A l.length c]) (t := 108) S (wn rfl) rfl rfl (d_box rfl rfl rfl) ?_))); intro b1 w2 S3; clear S
 refine wL_new (V := fun b => .pointer (some ⟨b, 0, none⟩)) (row := #[.int .i64 0, .int .i64 0, .int .i64 0, .int .i64 0, .int .i64 0, .slice none 0 0]) (t := 108) S3 (wn rfl) rfl rfl (d_alloc rfl (Try.zeroValue108 _) rfl) ?_; intro b4 w5 S6; clear S3
 refine wL_val (wn rfl) rfl rfl (y_assign rfl rfl) ?_
 refine wL_nil (wQ_sub (l' := [(1, _), (2, _), (4, _), (5, _)]) ⟨rfl, rfl, rfl, rfl, trivial⟩ (wQ_then (wC_seq (wC_region (wL_val (wn rfl) rfl rfl (y_load rfl rfl (r_load_row 1 S6 rfl Try.underlying108 rfl inf108 rfl)) ?_)))))
 refine wL_call (vs := [.agg #[.int .i64 ro, .int .i64 ep, .int .i64 fr, .int .i64 tg, .int .i64 rd, .slice A l.length c]]) (wn rfl) rfl rfl (e_call (vs := [.agg #[.int .i64 ro, .int .i64 ep, .int .i64 fr, .int .i64 tg, .int .i64 rd, .slice A l.length c]]) rfl en78 ⟨rfl, trivial⟩) (BerthFault_calls ro ep fr tg rd A c l _ (St.rd 2 S6 rfl) (by omega)) ?_
 rintro _ w7 ⟨rfl, hb9⟩
 refine ⟨_, rfl, ?_⟩
 have S8 := S6.on hb9; clear hb9 S6
 refine wL_val (wn rfl) rfl rfl (y_assign rfl rfl) ?_
 refine wL_nil (wQ_sub (l' := [(1, _), (2, _), (4, _), (5, _), (6, _)]) ⟨rfl, rfl, rfl, rfl, rfl, trivial⟩ (wQ_then (wC_seq (wC_seq (wC_region (wL_val (wn rfl) rfl rfl (y_move rfl rfl) ?_))))))
 by_cases h10 : brtFault ⟨ro, ep, fr, tg, rd, l⟩ = 0
 ·have hsh := (bf_zero h10).1
  unfold shapeB at hsh
  have hln := tellM_len (bf_zero h10).2
  dsimp only at hsh hln
  refine wL_val (v := .bool false) (wn rfl) rfl rfl (y_binop rfl rfl rfl (r_neq_f h10)) ?_
  refine wL_nil (wQ_sub (l' := [(1, _), (2, _), (4, _), (5, _), (6, _), (10, _)]) ⟨rfl, rfl, rfl, rfl, rfl, rfl, trivial⟩ (wQ_then (wC_cond_f rfl (wC_skip (wQ_then (wC_seq (wC_seq (wC_region (wL_val (wn rfl) rfl rfl (y_move rfl rfl) ?_)))))))))
  by_cases hp11 : 0 ≤ t ∧ t ≤ 4
  ·refine wL_call (vs := [.int .i64 t, .int .i64 0, .int .i64 4]) (wn rfl) rfl rfl (e_call (vs := [.int .i64 t, .int .i64 0, .int .i64 4]) rfl en107 ⟨rfl, rfl, rfl, trivial⟩) (In_t hp11 _) ?_
   rintro _ w12 ⟨rfl, rfl⟩
   refine ⟨_, rfl, ?_⟩
   refine wL_val (v := .bool false) (wn rfl) rfl rfl (y_unop rfl rfl r_not) ?_
   refine wL_nil (wQ_sub (l' := [(1, _), (2, _), (4, _), (5, _), (15, _)]) ⟨rfl, rfl, rfl, rfl, rfl, trivial⟩ (wQ_then (wC_cond_f rfl (wC_skip (wQ_then (wC_seq (wC_seq (wC_region (wL_val (v := .pointer (some ⟨b1, 0, none⟩)) (wn rfl) rfl rfl (y_fieldAddr rfl rfl (fa108_0 _ _ _)) ?_)))))))))
   refine wL_val (wn rfl) rfl rfl (y_load rfl rfl (r_load Try.underlying3 rfl (St.cl 1 S8 rfl rfl))) ?_
   by_cases h13 : ro = 2
   ·refine wL_val (v := .bool true) (wn rfl) rfl rfl (y_binop rfl rfl rfl (r_eql_t h13)) ?_
    refine wL_val (wn rfl) rfl rfl (y_move rfl rfl) ?_
    refine wL_skip (wg rfl rfl rfl rfl) rfl rfl ?_
    refine wL_skip (wg rfl rfl rfl rfl) rfl rfl ?_
    refine wL_skip (wg rfl rfl rfl rfl) rfl rfl ?_
    refine wL_val (wn rfl) rfl rfl (y_pick_t rfl rfl rfl) ?_
    refine wL_nil (wQ_sub (l' := [(1, _), (2, _), (4, _), (5, _), (24, _)]) ⟨rfl, rfl, rfl, rfl, rfl, trivial⟩ (wQ_then (wC_cond_t rfl (wC_seq (wC_region (wL_val (v := .agg #[.int .i64 0, .int .i64 0, .int .i64 0, .int .i64 0, .int .i64 0, .slice none 0 0]) (wn rfl) rfl rfl (y_build (vs := []) rfl trivial (by kernel_rfl)) ?_))))))
    refine wL_st (fs' := [_, _, _]) 0 S8 (wn rfl) rfl rfl rfl rfl rfl rfl inf108 rfl (oneAll rfl) (Nat.le_of_ble_eq_true rfl) (setAll_all rfl) rfl ?_; intro w14 S15; clear S8
    refine wL_val (wn rfl) rfl rfl (y_assign rfl rfl) ?_
    refine wL_nil (wQ_sub (l' := [(4, _), (5, _)]) ⟨rfl, rfl, trivial⟩ (wQ_then (wC_ret (wQ_then_ret (wQ_post (rs := [.cell 4 108, .tmp 5]) (vs := [.agg #[.int .i64 0, .int .i64 0, .int .i64 0, .int .i64 0, .int .i64 0, .slice none 0 0], .int .i64 12]) rfl ⟨⟨_, rfl, res_row 0 S15 rfl Try.underlying108 rfl inf108⟩, rfl, trivial⟩ ?_)))))
    have S16 : St w.heap.size w w14 [] := (St.del 0 (St.del 1 (St.del 2 S15))); clear S15
    rw [show goM ⟨ro, ep, fr, tg, rd, l⟩ t = (⟨0, 0, 0, 0, 0, []⟩, 12) from by unfold goM; (try dsimp only); (repeat' (first | rfl | omega | split)) <;> (simp only [Prod.mk.injEq, Brt.mk.injEq, and_true, true_and, and_self]; omega)]
    exact ⟨none, 0, rfl, rdo_nil S16⟩
   ·refine wL_val (v := .bool false) (wn rfl) rfl rfl (y_binop rfl rfl rfl (r_eql_f h13)) ?_
    refine wL_val (wn rfl) rfl rfl (y_move rfl rfl) ?_
    refine wL_val (v := .pointer (some ⟨b1, 0, none⟩)) (wg rfl rfl rfl rfl) rfl rfl (y_fieldAddr rfl rfl (fa108_0 _ _ _)) ?_
    refine wL_val (wg rfl rfl rfl rfl) rfl rfl (y_load rfl rfl (r_load Try.underlying3 rfl (St.cl 1 S8 rfl rfl))) ?_
    by_cases h17 : ro = 3
    ·refine wL_val (v := .bool true) (wg rfl rfl rfl rfl) rfl rfl (y_binop rfl rfl rfl (r_eql_t h17)) ?_
     refine wL_val (wn rfl) rfl rfl (y_pick_f rfl rfl rfl) ?_
     refine wL_nil (wQ_sub (l' := [(1, _), (2, _), (4, _), (5, _), (24, _)]) ⟨rfl, rfl, rfl, rfl, rfl, trivial⟩ (wQ_then (wC_cond_t rfl (wC_seq (wC_region (wL_val (v := .agg #[.int .i64 0, .int .i64 0, .int .i64 0, .int .i64 0, .int .i64 0, .slice none 0 0]) (wn rfl) rfl rfl (y_build (vs := []) rfl trivial (by kernel_rfl)) ?_))))))
     refine wL_st (fs' := [_, _, _]) 0 S8 (wn rfl) rfl rfl rfl rfl rfl rfl inf108 rfl (oneAll rfl) (Nat.le_of_ble_eq_true rfl) (setAll_all rfl) rfl ?_; intro w18 S19; clear S8
     refine wL_val (wn rfl) rfl rfl (y_assign rfl rfl) ?_
     refine wL_nil (wQ_sub (l' := [(4, _), (5, _)]) ⟨rfl, rfl, trivial⟩ (wQ_then (wC_ret (wQ_then_ret (wQ_post (rs := [.cell 4 108, .tmp 5]) (vs := [.agg #[.int .i64 0, .int .i64 0, .int .i64 0, .int .i64 0, .int .i64 0, .slice none 0 0], .int .i64 12]) rfl ⟨⟨_, rfl, res_row 0 S19 rfl Try.underlying108 rfl inf108⟩, rfl, trivial⟩ ?_)))))
     have S20 : St w.heap.size w w18 [] := (St.del 0 (St.del 1 (St.del 2 S19))); clear S19
     rw [show goM ⟨ro, ep, fr, tg, rd, l⟩ t = (⟨0, 0, 0, 0, 0, []⟩, 12) from by unfold goM; (try dsimp only); (repeat' (first | rfl | omega | split)) <;> (simp only [Prod.mk.injEq, Brt.mk.injEq, and_true, true_and, and_self]; omega)]
     exact ⟨none, 0, rfl, rdo_nil S20⟩
    ·refine wL_val (v := .bool false) (wg rfl rfl rfl rfl) rfl rfl (y_binop rfl rfl rfl (r_eql_f h17)) ?_
     refine wL_val (wn rfl) rfl rfl (y_pick_f rfl rfl rfl) ?_
     refine wL_nil (wQ_sub (l' := [(1, _), (2, _), (4, _), (5, _), (24, _)]) ⟨rfl, rfl, rfl, rfl, rfl, trivial⟩ (wQ_then (wC_cond_f rfl (wC_skip (wQ_then (wC_seq (wC_seq (wC_region (wL_val (v := .pointer (some ⟨b1, 0, none⟩)) (wn rfl) rfl rfl (y_fieldAddr rfl rfl (fa108_0 _ _ _)) ?_)))))))))
     refine wL_val (wn rfl) rfl rfl (y_load rfl rfl (r_load Try.underlying3 rfl (St.cl 1 S8 rfl rfl))) ?_
     by_cases h21 : ro = 1
     ·refine wL_val (v := .bool false) (wn rfl) rfl rfl (y_binop rfl rfl rfl (r_neq_f h21)) ?_
      refine wL_nil (wQ_sub (l' := [(1, _), (2, _), (4, _), (5, _), (28, _)]) ⟨rfl, rfl, rfl, rfl, rfl, trivial⟩ (wQ_then (wC_cond_f rfl (wC_skip (wQ_then (wC_seq (wC_seq (wC_region (wL_val (v := .pointer (some ⟨b1, 1, none⟩)) (wn rfl) rfl rfl (y_fieldAddr rfl rfl (fa108_1 _ _ _)) ?_)))))))))
      refine wL_val (wn rfl) rfl rfl (y_load rfl rfl (r_load Try.underlying3 rfl (St.cl 1 S8 rfl rfl))) ?_
      by_cases h22 : ep = 1048576
      ·refine wL_val (v := .bool true) (wn rfl) rfl rfl (y_binop rfl rfl rfl (r_eql_t h22)) ?_
       refine wL_nil (wQ_sub (l' := [(1, _), (2, _), (4, _), (5, _), (32, _)]) ⟨rfl, rfl, rfl, rfl, rfl, trivial⟩ (wQ_then (wC_cond_t rfl (wC_seq (wC_region (wL_val (v := .agg #[.int .i64 0, .int .i64 0, .int .i64 0, .int .i64 0, .int .i64 0, .slice none 0 0]) (wn rfl) rfl rfl (y_build (vs := []) rfl trivial (by kernel_rfl)) ?_))))))
       refine wL_st (fs' := [_, _, _]) 0 S8 (wn rfl) rfl rfl rfl rfl rfl rfl inf108 rfl (oneAll rfl) (Nat.le_of_ble_eq_true rfl) (setAll_all rfl) rfl ?_; intro w23 S24; clear S8
       refine wL_val (wn rfl) rfl rfl (y_assign rfl rfl) ?_
       refine wL_nil (wQ_sub (l' := [(4, _), (5, _)]) ⟨rfl, rfl, trivial⟩ (wQ_then (wC_ret (wQ_then_ret (wQ_post (rs := [.cell 4 108, .tmp 5]) (vs := [.agg #[.int .i64 0, .int .i64 0, .int .i64 0, .int .i64 0, .int .i64 0, .slice none 0 0], .int .i64 14]) rfl ⟨⟨_, rfl, res_row 0 S24 rfl Try.underlying108 rfl inf108⟩, rfl, trivial⟩ ?_)))))
       have S25 : St w.heap.size w w23 [] := (St.del 0 (St.del 1 (St.del 2 S24))); clear S24
       rw [show goM ⟨ro, ep, fr, tg, rd, l⟩ t = (⟨0, 0, 0, 0, 0, []⟩, 14) from by unfold goM; (try dsimp only); (repeat' (first | rfl | omega | split)) <;> (simp only [Prod.mk.injEq, Brt.mk.injEq, and_true, true_and, and_self]; omega)]
       exact ⟨none, 0, rfl, rdo_nil S25⟩
      ·refine wL_val (v := .bool false) (wn rfl) rfl rfl (y_binop rfl rfl rfl (r_eql_f h22)) ?_
       refine wL_nil (wQ_sub (l' := [(1, _), (2, _), (4, _), (5, _), (32, _)]) ⟨rfl, rfl, rfl, rfl, rfl, trivial⟩ (wQ_then (wC_cond_f rfl (wC_skip (wQ_then (wC_seq ?_))))))
       have S26 := S8.drew; clear S8
       refine wC_head (C := fun w' => St w.heap.size w w' [.blk b4 #[.int .i64 0, .int .i64 0, .int .i64 0, .int .i64 0, .int .i64 0, .slice none 0 0] 108, .blk b1 #[.int .i64 ro, .int .i64 ep, .int .i64 fr, .int .i64 tg, .int .i64 rd, .slice A l.length c] 108, .rd 6 A l.length ((l).flatMap Ev.cells)]) (m := 9) (listed := #[false, false, false, false, false, false, false, false, false]) 7 mixed rfl rfl ?_
       refine wG_take (v := .pointer (some ⟨b1, 1, none⟩)) (i := 0) (m := 8) (listed' := #[true, false, false, false, false, false, false, false, false]) rfl (by kernel_rfl) (by kernel_rfl) (by kernel_rfl) rfl (by kernel_rfl) rfl S26 rfl (wn rfl) rfl rfl (fun _ _ => (y_fieldAddr rfl rfl (fa108_1 _ _ _))) ?_
       refine wG_take (v := .int .i64 ep) (i := 1) (m := 7) (listed' := #[true, true, false, false, false, false, false, false, false]) rfl (by kernel_rfl) (by kernel_rfl) (by kernel_rfl) rfl (by kernel_rfl) rfl S26 rfl (wn rfl) rfl rfl (fun _ Sx28 => (y_load rfl rfl (r_load Try.underlying3 rfl (St.cl 1 Sx28 rfl rfl)))) ?_
       refine wG_take (v := .int .i64 t) (i := 2) (m := 6) (listed' := #[true, true, true, false, false, false, false, false, false]) rfl (by kernel_rfl) (by kernel_rfl) (by kernel_rfl) rfl (by kernel_rfl) rfl S26 rfl (wn rfl) rfl rfl (fun _ _ => (y_move rfl rfl)) ?_
       refine wG_take (v := .pointer (some ⟨b1, 5, none⟩)) (i := 3) (m := 5) (listed' := #[true, true, true, true, false, false, false, false, false]) rfl (by kernel_rfl) (by kernel_rfl) (by kernel_rfl) rfl (by kernel_rfl) rfl S26 rfl (wn rfl) rfl rfl (fun _ _ => (y_fieldAddr rfl rfl (fa108_5 _ _ _))) ?_
       refine wG_take (v := .slice A l.length c) (i := 4) (m := 4) (listed' := #[true, true, true, true, true, false, false, false, false]) rfl (by kernel_rfl) (by kernel_rfl) (by kernel_rfl) rfl (by kernel_rfl) rfl S26 rfl (wn rfl) rfl rfl (fun _ Sx31 => (y_load rfl rfl (r_load Try.underlying57 rfl (St.cl 1 Sx31 rfl rfl)))) ?_
       refine wG_one (m := 3) (r := 5) (by kernel_rfl) ?_
       refine wH_call (i := 5) (listed' := #[true, true, true, true, true, true, false, false, false]) rfl rfl (vs := [.slice A l.length c]) (wn rfl) rfl rfl (e_call (vs := [.slice A l.length c]) rfl en152 ⟨rfl, trivial⟩) (EventsCopy_calls A l.length c l _ (St.rd 2 S26 rfl) hb) ?_
       rintro _ w36 ⟨A32, c33, rfl, hb34, ho35⟩
       refine ⟨_, rfl, ?_⟩
       have S37 := S26.onOwn hb34 ho35; clear hb34 ho35 S26
       change St _ _ _ [.own 37 6 (.slice A32 l.length c33) l.length ((l).flatMap Ev.cells), _, _, _] at S37
       refine ⟨(St.del 0 S37), ?_⟩
       refine wG_take (v := .agg #[.int .i64 2, .int .i64 ep, .int .i64 0, .int .i64 t, .int .i64 0, .slice A32 l.length c33]) (i := 6) (m := 2) (listed' := #[true, true, true, true, true, true, true, false, false]) rfl (by kernel_rfl) (by kernel_rfl) (by kernel_rfl) rfl (by kernel_rfl) rfl (St.del 0 S37) rfl (wn rfl) rfl rfl (fun _ _ => (y_build (vs := [(0, .int .i64 2), (1, .int .i64 ep), (3, .int .i64 t), (5, .slice A32 l.length c33)]) rfl ⟨rfl, rfl, rfl, rfl, rfl, rfl, rfl, rfl, trivial⟩ (by kernel_rfl))) ?_
       refine wG_tail (by kernel_rfl) rfl rfl rfl ?_
       refine wL_st (fs' := [_, _, _, _]) 1 S37 (wn rfl) rfl rfl rfl rfl rfl rfl inf108 rfl (oneAll rfl) (Nat.le_of_ble_eq_true rfl) (setAll_all rfl) rfl ?_; intro w39 S40; clear S37
       refine wL_val (wn rfl) rfl rfl (y_assign rfl rfl) ?_
       refine wL_nil (wQ_np ?_)
       refine wQ_sub (l' := [(4, _), (5, _)]) ⟨rfl, rfl, trivial⟩ (wQ_then (wC_ret (wQ_post (rs := [.cell 4 108, .tmp 5]) (vs := [.agg #[.int .i64 2, .int .i64 ep, .int .i64 0, .int .i64 t, .int .i64 0, .slice A32 l.length c33], .int .i64 0]) rfl ⟨⟨_, rfl, res_row 1 S40 rfl Try.underlying108 rfl inf108⟩, rfl, trivial⟩ ?_)))
       have S41 : St w.heap.size w w39 [_] := (St.del 1 (St.del 2 (St.del 3 S40))); clear S40
       have S42 := S41.sealAll 0 rfl; clear S41
       change St _ _ _ [.rdo 6 A32 l.length ((l).flatMap Ev.cells)] at S42
       rw [show goM ⟨ro, ep, fr, tg, rd, l⟩ t = (⟨2, ep, 0, t, 0, l⟩, 0) from by unfold goM; (try dsimp only); (repeat' (first | rfl | omega | split)) <;> (simp only [Prod.mk.injEq, Brt.mk.injEq, and_true, true_and, and_self]; omega)]
       exact ⟨A32, c33, rfl, S42⟩
     ·refine wL_val (v := .bool true) (wn rfl) rfl rfl (y_binop rfl rfl rfl (r_neq_t h21)) ?_
      refine wL_nil (wQ_sub (l' := [(1, _), (2, _), (4, _), (5, _), (28, _)]) ⟨rfl, rfl, rfl, rfl, rfl, trivial⟩ (wQ_then (wC_cond_t rfl (wC_seq (wC_region (wL_val (v := .agg #[.int .i64 0, .int .i64 0, .int .i64 0, .int .i64 0, .int .i64 0, .slice none 0 0]) (wn rfl) rfl rfl (y_build (vs := []) rfl trivial (by kernel_rfl)) ?_))))))
      refine wL_st (fs' := [_, _, _]) 0 S8 (wn rfl) rfl rfl rfl rfl rfl rfl inf108 rfl (oneAll rfl) (Nat.le_of_ble_eq_true rfl) (setAll_all rfl) rfl ?_; intro w43 S44; clear S8
      refine wL_val (wn rfl) rfl rfl (y_assign rfl rfl) ?_
      refine wL_nil (wQ_sub (l' := [(4, _), (5, _)]) ⟨rfl, rfl, trivial⟩ (wQ_then (wC_ret (wQ_then_ret (wQ_post (rs := [.cell 4 108, .tmp 5]) (vs := [.agg #[.int .i64 0, .int .i64 0, .int .i64 0, .int .i64 0, .int .i64 0, .slice none 0 0], .int .i64 7]) rfl ⟨⟨_, rfl, res_row 0 S44 rfl Try.underlying108 rfl inf108⟩, rfl, trivial⟩ ?_)))))
      have S45 : St w.heap.size w w43 [] := (St.del 0 (St.del 1 (St.del 2 S44))); clear S44
      rw [show goM ⟨ro, ep, fr, tg, rd, l⟩ t = (⟨0, 0, 0, 0, 0, []⟩, 7) from by unfold goM; (try dsimp only); (repeat' (first | rfl | omega | split)) <;> (simp only [Prod.mk.injEq, Brt.mk.injEq, and_true, true_and, and_self]; omega)]
      exact ⟨none, 0, rfl, rdo_nil S45⟩
  ·refine wL_call (vs := [.int .i64 t, .int .i64 0, .int .i64 4]) (wn rfl) rfl rfl (e_call (vs := [.int .i64 t, .int .i64 0, .int .i64 4]) rfl en107 ⟨rfl, rfl, rfl, trivial⟩) (In_f hp11 _) ?_
   rintro _ w46 ⟨rfl, rfl⟩
   refine ⟨_, rfl, ?_⟩
   refine wL_val (v := .bool true) (wn rfl) rfl rfl (y_unop rfl rfl r_not) ?_
   refine wL_nil (wQ_sub (l' := [(1, _), (2, _), (4, _), (5, _), (15, _)]) ⟨rfl, rfl, rfl, rfl, rfl, trivial⟩ (wQ_then (wC_cond_t rfl (wC_seq (wC_region (wL_val (v := .agg #[.int .i64 0, .int .i64 0, .int .i64 0, .int .i64 0, .int .i64 0, .slice none 0 0]) (wn rfl) rfl rfl (y_build (vs := []) rfl trivial (by kernel_rfl)) ?_))))))
   refine wL_st (fs' := [_, _, _]) 0 S8 (wn rfl) rfl rfl rfl rfl rfl rfl inf108 rfl (oneAll rfl) (Nat.le_of_ble_eq_true rfl) (setAll_all rfl) rfl ?_; intro w47 S48; clear S8
   refine wL_val (wn rfl) rfl rfl (y_assign rfl rfl) ?_
   refine wL_nil (wQ_sub (l' := [(4, _), (5, _)]) ⟨rfl, rfl, trivial⟩ (wQ_then (wC_ret (wQ_then_ret (wQ_post (rs := [.cell 4 108, .tmp 5]) (vs := [.agg #[.int .i64 0, .int .i64 0, .int .i64 0, .int .i64 0, .int .i64 0, .slice none 0 0], .int .i64 2]) rfl ⟨⟨_, rfl, res_row 0 S48 rfl Try.underlying108 rfl inf108⟩, rfl, trivial⟩ ?_)))))
   have S49 : St w.heap.size w w47 [] := (St.del 0 (St.del 1 (St.del 2 S48))); clear S48
   rw [show goM ⟨ro, ep, fr, tg, rd, l⟩ t = (⟨0, 0, 0, 0, 0, []⟩, 2) from by unfold goM; (try dsimp only); (repeat' (first | rfl | omega | split)) <;> (simp only [Prod.mk.injEq, Brt.mk.injEq, and_true, true_and, and_self]; omega)]
   exact ⟨none, 0, rfl, rdo_nil S49⟩
 ·refine wL_val (v := .bool true) (wn rfl) rfl rfl (y_binop rfl rfl rfl (r_neq_t h10)) ?_
  refine wL_nil (wQ_sub (l' := [(1, _), (2, _), (4, _), (5, _), (6, _), (10, _)]) ⟨rfl, rfl, rfl, rfl, rfl, rfl, trivial⟩ (wQ_then (wC_cond_t rfl (wC_seq (wC_region (wL_val (v := .agg #[.int .i64 0, .int .i64 0, .int .i64 0, .int .i64 0, .int .i64 0, .slice none 0 0]) (wn rfl) rfl rfl (y_build (vs := []) rfl trivial (by kernel_rfl)) ?_))))))
  refine wL_val (wn rfl) rfl rfl (y_move rfl rfl) ?_
  refine wL_st (fs' := [_, _, _]) 0 S8 (wn rfl) rfl rfl rfl rfl rfl rfl inf108 rfl (oneAll rfl) (Nat.le_of_ble_eq_true rfl) (setAll_all rfl) rfl ?_; intro w50 S51; clear S8
  refine wL_val (wn rfl) rfl rfl (y_assign rfl rfl) ?_
  refine wL_nil (wQ_sub (l' := [(4, _), (5, _)]) ⟨rfl, rfl, trivial⟩ (wQ_then (wC_ret (wQ_then_ret (wQ_post (rs := [.cell 4 108, .tmp 5]) (vs := [.agg #[.int .i64 0, .int .i64 0, .int .i64 0, .int .i64 0, .int .i64 0, .slice none 0 0], .int .i64 (brtFault ⟨ro, ep, fr, tg, rd, l⟩)]) rfl ⟨⟨_, rfl, res_row 0 S51 rfl Try.underlying108 rfl inf108⟩, rfl, trivial⟩ ?_)))))
  have S52 : St w.heap.size w w50 [] := (St.del 0 (St.del 1 (St.del 2 S51))); clear S51
  rw [show goM ⟨ro, ep, fr, tg, rd, l⟩ t = (⟨0, 0, 0, 0, 0, []⟩, brtFault ⟨ro, ep, fr, tg, rd, l⟩) from by unfold goM; (try dsimp only); (repeat' (first | rfl | omega | split)) <;> (simp only [Prod.mk.injEq, Brt.mk.injEq, and_true, true_and, and_self]; omega)]
  exact ⟨none, 0, rfl, rdo_nil S52⟩

end Go.Proofs.Ytkjlafpafmihaaa

namespace Go.Proofs.Ytkjlafpafmihaaa
open Go.ChangeShapes Go.WideShapes Go.RowKit

theorem goM_len {b : Brt} {t : Int} : (goM b t).1.evs.length ≤ b.evs.length + 1 := by
  unfold goM
  (repeat' split) <;> (try simp [zeroB]) <;> (try omega)

set_option maxRecDepth 100000 in
set_option maxHeartbeats 2000000 in
theorem berthGoes_calls (ro ep fr tg rd : Int) (A : Option Addr) (c : Nat) (l : List Ev) (t : Int) (hlc : l.length ≤ c) (w : World) (h : Rd w w.heap.size 6 A l.length (evCells l)) (hb : l.length * 48 ≤ reachBytes) :
    Calls Try.prog 24 #[.agg #[.int .i64 ro, .int .i64 ep, .int .i64 fr, .int .i64 tg, .int .i64 rd, .slice A l.length c], .int .i64 t] w fun e w' => e = .returned (.bool true) ∧ Below w.heap.size w w' := by
 have S := (St.start w).addRd h; clear h
 have hb2 := hb
 unfold reachBytes at hb2
 have HP := fun A c w h => Go_calls ro ep fr tg rd A c l t w h hb
 have HR := fun A c w h => Gone_calls ro ep fr tg rd A c l t w h hb
 have hlen := goM_len (b := ⟨ro, ep, fr, tg, rd, l⟩) (t := t)
 generalize goM ⟨ro, ep, fr, tg, rd, l⟩ t = R at HP HR hlen
 dsimp only at hlen
 refine calls_of_wC (N := 37) (vs := [.agg #[.int .i64 ro, .int .i64 ep, .int .i64 fr, .int .i64 tg, .int .i64 rd, .slice A l.length c], .int .i64 t]) Try.func24 rfl rfl rfl ?_
 refine wC_sub (l' := [(0, .agg #[.int .i64 ro, .int .i64 ep, .int .i64 fr, .int .i64 tg, .int .i64 rd, .slice A l.length c]), (1, .int .i64 t)]) ⟨rfl, rfl, trivial⟩ (wC_seq (wC_region (wL_new (V := fun b => .pointer (some ⟨b, 0, none⟩)) (row := #[.int .i64 ro, .int .i64 ep, .int .i64 fr, .int .i64 tg, .int .i64 rd, .slice A l.length c]) (t := 108) S (wn rfl) rfl rfl (d_box rfl rfl rfl) ?_))); intro b1 w2 S3; clear S
 refine wL_val (wn rfl) rfl rfl (y_assign rfl rfl) ?_
 refine wL_nil (wQ_sub (l' := [(1, _), (2, _), (4, _)]) ⟨rfl, rfl, rfl, trivial⟩ (wQ_then (wC_seq (wC_region (wL_val (wn rfl) rfl rfl (y_load rfl rfl (r_load_row 0 S3 rfl Try.underlying108 rfl inf108 rfl)) ?_)))))
 refine wL_call (vs := [.agg #[.int .i64 ro, .int .i64 ep, .int .i64 fr, .int .i64 tg, .int .i64 rd, .slice A l.length c]]) (wn rfl) rfl rfl (e_call (vs := [.agg #[.int .i64 ro, .int .i64 ep, .int .i64 fr, .int .i64 tg, .int .i64 rd, .slice A l.length c]]) rfl en77 ⟨rfl, trivial⟩) (berths_calls ro ep fr tg rd A c l _ (St.rd 1 S3 rfl) hb) ?_
 rintro _ w6 ⟨A4, c5, rfl, T8⟩
 refine ⟨_, rfl, ?_⟩
 have S7 := S3.ext T8 rfl; clear T8 S3
 change St _ _ _ [.own 37 6 (.slice A4 l.length c5) l.length ((l).flatMap Ev.cells), _, _] at S7
 refine wL_new (V := fun b => .pointer (some ⟨b, 0, none⟩)) (row := #[.int .i64 0, .int .i64 0, .int .i64 0, .int .i64 0, .int .i64 0, .slice none 0 0]) (t := 108) S7 (wn rfl) rfl rfl (d_alloc rfl (Try.zeroValue108 _) rfl) ?_; intro b9 w10 S11; clear S7
 refine wL_st (fs' := [_, _, _, _]) 0 S11 (wn rfl) rfl rfl rfl rfl rfl rfl inf108 rfl (oneAll rfl) (Nat.le_of_ble_eq_true rfl) (setAll_all rfl) rfl ?_; intro w12 S13; clear S11
 refine wL_nil (wQ_sub (l' := [(1, _), (2, _), (4, _), (5, _)]) ⟨rfl, rfl, rfl, rfl, trivial⟩ (wQ_then (wC_seq (wC_region (wL_val (wn rfl) rfl rfl (y_load rfl rfl (r_load_row 0 S13 rfl Try.underlying108 rfl inf108 rfl)) ?_)))))
 refine wL_val (wn rfl) rfl rfl (y_move rfl rfl) ?_
 refine wL_call (vs := [.agg #[.int .i64 ro, .int .i64 ep, .int .i64 fr, .int .i64 tg, .int .i64 rd, .slice A4 l.length c5], .int .i64 t]) (wn rfl) rfl rfl (e_call (vs := [.agg #[.int .i64 ro, .int .i64 ep, .int .i64 fr, .int .i64 tg, .int .i64 rd, .slice A4 l.length c5], .int .i64 t]) rfl en90 ⟨rfl, rfl, trivial⟩) (HP A4 c5 _ (St.ord 1 S13 rfl)) ?_
 rintro _ w16 ⟨A14, c15, rfl, T18⟩
 refine ⟨_, rfl, ?_⟩
 have S17 := S13.ext T18 rfl; clear T18 S13
 change St _ _ _ [.rdo 6 A14 R.1.evs.length ((R.1.evs).flatMap Ev.cells), _, _, _, _] at S17
 refine wL_val (wn rfl) rfl rfl (y_move rfl rfl) ?_
 refine wL_val (wn rfl) rfl rfl (y_extract rfl rfl rfl) ?_
 refine wL_val (wn rfl) rfl rfl (y_extract rfl rfl rfl) ?_
 refine wL_new (V := fun b => .pointer (some ⟨b, 0, none⟩)) (row := #[.int .i64 0, .int .i64 0, .int .i64 0, .int .i64 0, .int .i64 0, .slice none 0 0]) (t := 108) S17 (wn rfl) rfl rfl (d_alloc rfl (Try.zeroValue108 _) rfl) ?_; intro b19 w20 S21; clear S17
 refine wL_st (fs' := [_, _, _, _, _, _]) 0 S21 (wn rfl) rfl rfl rfl rfl rfl rfl inf108 rfl (oneAll rfl) (Nat.le_of_ble_eq_true rfl) (setAll_all rfl) rfl ?_; intro w22 S23; clear S21
 refine wL_val (wn rfl) rfl rfl (y_assign rfl rfl) ?_
 refine wL_nil (wQ_sub (l' := [(1, _), (2, _), (4, _), (5, _), (6, _), (7, _)]) ⟨rfl, rfl, rfl, rfl, rfl, rfl, trivial⟩ (wQ_then (wC_seq (wC_region (wL_val (wn rfl) rfl rfl (y_load rfl rfl (r_load_row 4 S23 rfl Try.underlying108 rfl inf108 rfl)) ?_)))))
 refine wL_val (wn rfl) rfl rfl (y_move rfl rfl) ?_
 refine wL_call (vs := [.agg #[.int .i64 ro, .int .i64 ep, .int .i64 fr, .int .i64 tg, .int .i64 rd, .slice A l.length c], .int .i64 t]) (wn rfl) rfl rfl (e_call (vs := [.agg #[.int .i64 ro, .int .i64 ep, .int .i64 fr, .int .i64 tg, .int .i64 rd, .slice A l.length c], .int .i64 t]) rfl en91 ⟨rfl, rfl, trivial⟩) (HR A c _ (St.rd 5 S23 rfl)) ?_
 rintro _ w26 ⟨A24, c25, rfl, T28⟩
 refine ⟨_, rfl, ?_⟩
 have S27 := S23.ext T28 rfl; clear T28 S23
 change St _ _ _ [.rdo 6 A24 R.1.evs.length ((R.1.evs).flatMap Ev.cells), _, _, _, _, _, _] at S27
 refine wL_val (wn rfl) rfl rfl (y_move rfl rfl) ?_
 refine wL_val (wn rfl) rfl rfl (y_extract rfl rfl rfl) ?_
 refine wL_val (wn rfl) rfl rfl (y_extract rfl rfl rfl) ?_
 refine wL_new (V := fun b => .pointer (some ⟨b, 0, none⟩)) (row := #[.int .i64 0, .int .i64 0, .int .i64 0, .int .i64 0, .int .i64 0, .slice none 0 0]) (t := 108) S27 (wn rfl) rfl rfl (d_alloc rfl (Try.zeroValue108 _) rfl) ?_; intro b29 w30 S31; clear S27
 refine wL_st (fs' := [_, _, _, _, _, _, _, _]) 0 S31 (wn rfl) rfl rfl rfl rfl rfl rfl inf108 rfl (oneAll rfl) (Nat.le_of_ble_eq_true rfl) (setAll_all rfl) rfl ?_; intro w32 S33; clear S31
 refine wL_val (wn rfl) rfl rfl (y_assign rfl rfl) ?_
 refine wL_nil (wQ_sub (l' := [(2, _), (4, _), (5, _), (6, _), (7, _), (8, _), (9, _)]) ⟨rfl, rfl, rfl, rfl, rfl, rfl, rfl, trivial⟩ (wQ_then (wC_seq (wC_region (wL_val (wn rfl) rfl rfl (y_move rfl rfl) ?_)))))
 refine wL_val (wn rfl) rfl rfl (y_move rfl rfl) ?_
 refine wL_val (v := .bool true) (wn rfl) rfl rfl (y_binop rfl rfl rfl (r_eql_t rfl)) ?_
 refine wL_val (wn rfl) rfl rfl (y_move rfl rfl) ?_
 refine wL_val (wg rfl rfl rfl rfl) rfl rfl (y_load rfl rfl (r_load_row 2 S33 rfl Try.underlying108 rfl inf108 rfl)) ?_
 refine wL_val (wg rfl rfl rfl rfl) rfl rfl (y_load rfl rfl (r_load_row 0 S33 rfl Try.underlying108 rfl inf108 rfl)) ?_
 refine wL_call (vs := [.agg #[.int .i64 R.1.role, .int .i64 R.1.ep, .int .i64 R.1.fr, .int .i64 R.1.tg, .int .i64 R.1.rd, .slice A14 R.1.evs.length c15], .agg #[.int .i64 R.1.role, .int .i64 R.1.ep, .int .i64 R.1.fr, .int .i64 R.1.tg, .int .i64 R.1.rd, .slice A24 R.1.evs.length c25]]) (wg rfl rfl rfl rfl) rfl rfl (e_call (vs := [.agg #[.int .i64 R.1.role, .int .i64 R.1.ep, .int .i64 R.1.fr, .int .i64 R.1.tg, .int .i64 R.1.rd, .slice A14 R.1.evs.length c15], .agg #[.int .i64 R.1.role, .int .i64 R.1.ep, .int .i64 R.1.fr, .int .i64 R.1.tg, .int .i64 R.1.rd, .slice A24 R.1.evs.length c25]]) rfl en81 ⟨rfl, rfl, trivial⟩) (sameBerth_calls R.1.role R.1.ep R.1.fr R.1.tg R.1.rd A14 c15 A24 c25 R.1.evs _ (St.rdo 3 S33 rfl) (St.rdo 1 S33 rfl) (by omega)) ?_
 rintro _ w34 ⟨rfl, hb36⟩
 refine ⟨_, rfl, ?_⟩
 have S35 := S33.on hb36; clear hb36 S33
 refine wL_val (wn rfl) rfl rfl (y_pick_t rfl rfl rfl) ?_
 refine wL_val (wn rfl) rfl rfl (y_move rfl rfl) ?_
 refine wL_val (wg rfl rfl rfl rfl) rfl rfl (y_load rfl rfl (r_load_row 4 S35 rfl Try.underlying108 rfl inf108 rfl)) ?_
 refine wL_val (wg rfl rfl rfl rfl) rfl rfl (y_load rfl rfl (r_load_row 6 S35 rfl Try.underlying108 rfl inf108 rfl)) ?_
 refine wL_call (vs := [.agg #[.int .i64 ro, .int .i64 ep, .int .i64 fr, .int .i64 tg, .int .i64 rd, .slice A4 l.length c5], .agg #[.int .i64 ro, .int .i64 ep, .int .i64 fr, .int .i64 tg, .int .i64 rd, .slice A l.length c]]) (wg rfl rfl rfl rfl) rfl rfl (e_call (vs := [.agg #[.int .i64 ro, .int .i64 ep, .int .i64 fr, .int .i64 tg, .int .i64 rd, .slice A4 l.length c5], .agg #[.int .i64 ro, .int .i64 ep, .int .i64 fr, .int .i64 tg, .int .i64 rd, .slice A l.length c]]) rfl en81 ⟨rfl, rfl, trivial⟩) (sameBerth_calls ro ep fr tg rd A4 c5 A c l _ (St.ord 5 S35 rfl) (St.rd 7 S35 rfl) (by omega)) ?_
 rintro _ w37 ⟨rfl, hb39⟩
 refine ⟨_, rfl, ?_⟩
 have S38 := S35.on hb39; clear hb39 S35
 refine wL_val (wn rfl) rfl rfl (y_pick_t rfl rfl rfl) ?_
 refine wL_val (wn rfl) rfl rfl (y_assign rfl rfl) ?_
 refine wL_nil (wQ_sub (l' := [(4, _)]) ⟨rfl, trivial⟩ (wQ_then (wC_ret (wQ_post (rs := [.tmp 4]) (vs := [.bool true]) rfl ⟨rfl, trivial⟩ ?_))))
 exact ⟨rfl, S38.low⟩

set_option maxRecDepth 100000 in
theorem berthGoes_walk (W : World) (args : Array Value) (h : All2 (ArgOk Try.prog W) args.toList Try.f24.params.toList) :
    Calls Try.prog 24 args W fun e W' => e = .returned (.bool true) ∧ Below W.heap.size W W' := by
  rw [Try.params24] at h
  obtain ⟨v0, l0, hv0, h0, g0⟩ := All2.cons_ h
  obtain ⟨v1, l1, hv1, h1, g1⟩ := All2.cons_ g0
  have h9 := All2.nil_ g1
  subst h9
  obtain rfl : args = #[v0, v1] := by cases args; simp_all
  obtain ⟨ro, ep, fr, tg, rd, A, c, l, rfl, hr, hn, hc, hb⟩ := arg_berth h0
  obtain ⟨⟨_, hk1⟩, _, _⟩ := h1
  obtain ⟨t, rfl⟩ := okWide_int Try.underlying3 hk1
  exact berthGoes_calls ro ep fr tg rd A c l t hn W hr hb
end Go.Proofs.Ytkjlafpafmihaaa

