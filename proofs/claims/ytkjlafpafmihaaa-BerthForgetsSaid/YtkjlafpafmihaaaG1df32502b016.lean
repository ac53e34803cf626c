/- Parts of proofs: lemmas on memory, on single functions and on the plain models; no condition of their own. -/
import Derived.Test.YtkjlafpafmihaaaRows
import Derived.WalkKit
import Derived.ProofKit
import Derived.OpenShut
import Derived.SizedLaws
import Derived.WalkSpells
import Derived.WalkLawsBesides
import Derived.Handy
import Derived.Deep.QuietTactic
import Derived.BigQuiet
import Derived.Lib.Hide
import Derived.Maps.AppendAt
import Derived.Deep.AppendLies
import Derived.RegionTactic
import Derived.OwnWalk
import Derived.Laws.Tables
import Derived.Deep.MidRow
import Derived.StillTailTactics
import Derived.OrdersHeld
import Derived.Deep.RegionHeld3
import Derived.Laws.IdiomCopy
import Derived.ChangeKeysEq
import Derived.Laws.BitsAllLaws
import Derived.Deep.DeepCutAuto
import Derived.Deep.CutRange
import Derived.Shelf.SlSortCmp.WholeK
import Derived.Shelf.SlSortCmp.NoneTotal
import Derived.Shelf.SlicesG.Cmp
import Derived.Shelf.SlGeneric
import Derived.Ground.SlsfProg
import Derived.Ground.SlgcProg
import Derived.Maps.OwnSet
import Derived.Lib.SliceRun
import Derived.Deep.RegionLaw
import Derived.Test.YtkjlafpafmihaaaG06e1f1d2e814
import Derived.Test.YtkjlafpafmihaaaG0e35ec4e0bdc
import Derived.Test.YtkjlafpafmihaaaG2143c9b0b786
import Derived.Test.YtkjlafpafmihaaaG2955b7bf0201
import Derived.Test.YtkjlafpafmihaaaG3cad135f796d
import Derived.Test.YtkjlafpafmihaaaG4616653cfbd3
import Derived.Test.YtkjlafpafmihaaaG668153da7687
import Derived.Test.YtkjlafpafmihaaaG67a1f8515928
import Derived.Test.YtkjlafpafmihaaaG69ea6f18ea30
import Derived.Test.YtkjlafpafmihaaaG8ba6bfb0af5b
import Derived.Test.YtkjlafpafmihaaaG9d6a0cc61d66
import Derived.Test.YtkjlafpafmihaaaGa89c1a6f9966
import Derived.Test.YtkjlafpafmihaaaGa956530333d6
import Derived.Test.YtkjlafpafmihaaaGad4fca606e19
import Derived.Test.YtkjlafpafmihaaaGb06670d46fbe
import Derived.Test.YtkjlafpafmihaaaGb705d1f06a25
import Derived.Test.YtkjlafpafmihaaaGc78e27da6ed6
import Derived.Test.YtkjlafpafmihaaaGdd30ce7ec389
import Derived.Test.YtkjlafpafmihaaaGf3cc171333c0
import Derived.Test.YtkjlafpafmihaaaGfed51b8f206e
set_option linter.unusedVariables false
set_option linter.unusedSimpArgs false

namespace Go.Proofs.Ytkjlafpafmihaaa
open Go.ChangeShapes Go.WideShapes Go.RowKit

set_option maxRecDepth 100000 in
set_option maxHeartbeats 1000000 in
theorem Forget_calls (ro ep fr tg rd : Int) (A : Option Addr) (c : Nat) (l : List Ev) (e : Int) (w : World) (h : Rd w w.heap.size 6 A l.length (evCells l)) (hb : l.length * 48 ≤ reachBytes) :
    Calls Try.prog 79 #[.agg #[.int .i64 ro, .int .i64 ep, .int .i64 fr, .int .i64 tg, .int .i64 rd, .slice A l.length c], .int .i64 e] w (BrtPost w (forgetM ⟨ro, ep, fr, tg, rd, l⟩ e)) := by
 have S := (St.start w).addRd h; clear h
 have hb2 := hb
 unfold reachBytes at hb2
 refine calls_of_wC (N := 28) (vs := [.agg #[.int .i64 ro, .int .i64 ep, .int .i64 fr, .int .i64 tg, .int .i64 rd, .slice A l.length c], .int .i64 e]) Try.func79 rfl rfl rfl ?_
 refine wC_sub (l' := [(0, .agg #[.int .i64 ro, .int .i64 ep, .int .i64 fr, .int .i64 tg, .int .i64 rd, .slice A l.length c]), (1, .int .i64 e)]) ⟨rfl, rfl, trivial⟩ (wC_seq (wC_region (wL_new (V := fun b => .pointer (some ⟨b, 0, none⟩)) (row := #[.int .i64 ro, .int .i64 ep, .int .i64 fr, .int .i64 tg, .int .i64 rd, .slice A l.length c]) (t := 108) S (wn rfl) rfl rfl (d_box rfl rfl rfl) ?_))); intro b1 w2 S3; clear S
 refine wL_new (V := fun b => .pointer (some ⟨b, 0, none⟩)) (row := #[.int .i64 0, .int .i64 0, .int .i64 0, .int .i64 0, .int .i64 0, .slice none 0 0]) (t := 108) S3 (wn rfl) rfl rfl (d_alloc rfl (Try.zeroValue108 _) rfl) ?_; intro b4 w5 S6; clear S3
 refine wL_val (wn rfl) rfl rfl (y_assign rfl rfl) ?_
 refine wL_nil (wQ_sub (l' := [(1, _), (2, _), (4, _), (5, _)]) ⟨rfl, rfl, rfl, rfl, trivial⟩ (wQ_then (wC_seq (wC_seq (wC_region (wL_val (wn rfl) rfl rfl (y_load rfl rfl (r_load_row 1 S6 rfl Try.underlying108 rfl inf108 rfl)) ?_))))))
 refine wL_call (vs := [.agg #[.int .i64 ro, .int .i64 ep, .int .i64 fr, .int .i64 tg, .int .i64 rd, .slice A l.length c]]) (wn rfl) rfl rfl (e_call (vs := [.agg #[.int .i64 ro, .int .i64 ep, .int .i64 fr, .int .i64 tg, .int .i64 rd, .slice A l.length c]]) rfl en76 ⟨rfl, trivial⟩) (BCheck_calls ro ep fr tg rd A c l _ (St.rd 2 S6 rfl) (by omega)) ?_
 rintro _ w7 ⟨rfl, hb9⟩
 refine ⟨_, rfl, ?_⟩
 have S8 := S6.on hb9; clear hb9 S6
 refine wL_val (wn rfl) rfl rfl (y_assign rfl rfl) ?_
 refine wL_nil (wQ_sub (l' := [(1, _), (2, _), (4, _), (5, _), (6, _)]) ⟨rfl, rfl, rfl, rfl, rfl, trivial⟩ (wQ_then (wC_block (wC_seq (wC_region (wL_val (wn rfl) rfl rfl (y_move rfl rfl) ?_))))))
 by_cases h10 : brtFault ⟨ro, ep, fr, tg, rd, l⟩ = 0
 ·have hsh := (bf_zero h10).1
  unfold shapeB at hsh
  have hln := tellM_len (bf_zero h10).2
  dsimp only at hsh hln
  refine wL_val (v := .bool false) (wn rfl) rfl rfl (y_binop rfl rfl rfl (r_neq_f h10)) ?_
  refine wL_val (wn rfl) rfl rfl (y_assign rfl rfl) ?_
  refine wL_nil (wQ_sub (l' := [(1, _), (2, _), (4, _), (5, _), (6, _), (9, _)]) ⟨rfl, rfl, rfl, rfl, rfl, rfl, trivial⟩ (wQ_then (wC_cond_f rfl (wC_seq (wC_region (wL_val (v := .pointer (some ⟨b1, 0, none⟩)) (wn rfl) rfl rfl (y_fieldAddr rfl rfl (fa108_0 _ _ _)) ?_))))))
  refine wL_val (wn rfl) rfl rfl (y_load rfl rfl (r_load Try.underlying3 rfl (St.cl 1 S8 rfl rfl))) ?_
  by_cases h11 : ro = 3
  ·refine wL_val (v := .bool false) (wn rfl) rfl rfl (y_binop rfl rfl rfl (r_neq_f h11)) ?_
   refine wL_val (wn rfl) rfl rfl (y_assign rfl rfl) ?_
   refine wL_nil (wQ_sub (l' := [(1, _), (2, _), (4, _), (5, _), (14, _)]) ⟨rfl, rfl, rfl, rfl, rfl, trivial⟩ (wQ_then (wC_cond_f rfl (wC_seq (wC_region (wL_val (wn rfl) rfl rfl (y_move rfl rfl) ?_))))))
   refine wL_val (v := .pointer (some ⟨b1, 1, none⟩)) (wn rfl) rfl rfl (y_fieldAddr rfl rfl (fa108_1 _ _ _)) ?_
   refine wL_val (wn rfl) rfl rfl (y_load rfl rfl (r_load Try.underlying3 rfl (St.cl 1 S8 rfl rfl))) ?_
   by_cases h12 : e ≤ ep
   ·refine wL_val (v := .bool true) (wn rfl) rfl rfl (y_binop rfl rfl rfl (r_leq_t h12)) ?_
    refine wL_val (wn rfl) rfl rfl (y_assign rfl rfl) ?_
    refine wL_nil (wQ_sub (l' := [(2, _), (4, _), (5, _), (19, _)]) ⟨rfl, rfl, rfl, rfl, trivial⟩ (wQ_then (wC_cond_t rfl (wC_seq (wC_region (wL_val (v := .agg #[.int .i64 0, .int .i64 0, .int .i64 0, .int .i64 0, .int .i64 0, .slice none 0 0]) (wn rfl) rfl rfl (y_build (vs := []) rfl trivial (by kernel_rfl)) ?_))))))
    refine wL_st (fs' := [_, _, _]) 0 S8 (wn rfl) rfl rfl rfl rfl rfl rfl inf108 rfl (oneAll rfl) (Nat.le_of_ble_eq_true rfl) (setAll_all rfl) rfl ?_; intro w13 S14; clear S8
    refine wL_val (wn rfl) rfl rfl (y_assign rfl rfl) ?_
    refine wL_nil (wQ_sub (l' := [(4, _), (5, _)]) ⟨rfl, rfl, trivial⟩ (wQ_then (wC_ret (wQ_blk_ret (wQ_then_ret (wQ_post (rs := [.cell 4 108, .tmp 5]) (vs := [.agg #[.int .i64 0, .int .i64 0, .int .i64 0, .int .i64 0, .int .i64 0, .slice none 0 0], .int .i64 15]) rfl ⟨⟨_, rfl, res_row 0 S14 rfl Try.underlying108 rfl inf108⟩, rfl, trivial⟩ ?_))))))
    have S15 : St w.heap.size w w13 [] := (St.del 0 (St.del 1 (St.del 2 S14))); clear S14
    rw [show forgetM ⟨ro, ep, fr, tg, rd, l⟩ e = (⟨0, 0, 0, 0, 0, []⟩, 15) from by unfold forgetM; (try dsimp only); (repeat' (first | rfl | omega | split)) <;> (simp only [Prod.mk.injEq, Brt.mk.injEq, and_true, true_and, and_self]; omega)]
    exact ⟨none, 0, rfl, rdo_nil S15⟩
   ·refine wL_val (v := .bool false) (wn rfl) rfl rfl (y_binop rfl rfl rfl (r_leq_f h12)) ?_
    refine wL_val (wn rfl) rfl rfl (y_assign rfl rfl) ?_
    refine wL_nil (wQ_sub (l' := [(2, _), (4, _), (5, _), (19, _)]) ⟨rfl, rfl, rfl, rfl, trivial⟩ (wQ_then (wC_cond_f rfl (wC_skip (wQ_blk_n (wQ_then (wC_seq (wC_region (wL_val (v := .pointer (some ⟨b1, 1, none⟩)) (wn rfl) rfl rfl (y_fieldAddr rfl rfl (fa108_1 _ _ _)) ?_)))))))))
    refine wL_val (wn rfl) rfl rfl (y_load rfl rfl (r_load Try.underlying3 rfl (St.cl 1 S8 rfl rfl))) ?_
    refine wL_val (v := .agg #[.int .i64 0, .int .i64 ep, .int .i64 0, .int .i64 0, .int .i64 0, .slice none 0 0]) (wn rfl) rfl rfl (y_build (vs := [(1, .int .i64 ep)]) rfl ⟨rfl, rfl, trivial⟩ (by kernel_rfl)) ?_
    refine wL_st (fs' := [_, _, _]) 0 S8 (wn rfl) rfl rfl rfl rfl rfl rfl inf108 rfl (oneAll rfl) (Nat.le_of_ble_eq_true rfl) (setAll_all rfl) rfl ?_; intro w16 S17; clear S8
    refine wL_val (wn rfl) rfl rfl (y_assign rfl rfl) ?_
    refine wL_nil (wQ_sub (l' := [(4, _), (5, _)]) ⟨rfl, rfl, trivial⟩ (wQ_then (wC_ret (wQ_post (rs := [.cell 4 108, .tmp 5]) (vs := [.agg #[.int .i64 0, .int .i64 ep, .int .i64 0, .int .i64 0, .int .i64 0, .slice none 0 0], .int .i64 0]) rfl ⟨⟨_, rfl, res_row 0 S17 rfl Try.underlying108 rfl inf108⟩, rfl, trivial⟩ ?_))))
    have S18 : St w.heap.size w w16 [] := (St.del 0 (St.del 1 (St.del 2 S17))); clear S17
    rw [show forgetM ⟨ro, ep, fr, tg, rd, l⟩ e = (⟨0, ep, 0, 0, 0, []⟩, 0) from by unfold forgetM; (try dsimp only); (repeat' (first | rfl | omega | split)) <;> (simp only [Prod.mk.injEq, Brt.mk.injEq, and_true, true_and, and_self]; omega)]
    exact ⟨none, 0, rfl, rdo_nil S18⟩
  ·refine wL_val (v := .bool true) (wn rfl) rfl rfl (y_binop rfl rfl rfl (r_neq_t h11)) ?_
   refine wL_val (wn rfl) rfl rfl (y_assign rfl rfl) ?_
   refine wL_nil (wQ_sub (l' := [(1, _), (2, _), (4, _), (5, _), (14, _)]) ⟨rfl, rfl, rfl, rfl, rfl, trivial⟩ (wQ_then (wC_cond_t rfl (wC_seq (wC_region (wL_val (v := .agg #[.int .i64 0, .int .i64 0, .int .i64 0, .int .i64 0, .int .i64 0, .slice none 0 0]) (wn rfl) rfl rfl (y_build (vs := []) rfl trivial (by kernel_rfl)) ?_))))))
   refine wL_st (fs' := [_, _, _]) 0 S8 (wn rfl) rfl rfl rfl rfl rfl rfl inf108 rfl (oneAll rfl) (Nat.le_of_ble_eq_true rfl) (setAll_all rfl) rfl ?_; intro w19 S20; clear S8
   refine wL_val (wn rfl) rfl rfl (y_assign rfl rfl) ?_
   refine wL_nil (wQ_sub (l' := [(4, _), (5, _)]) ⟨rfl, rfl, trivial⟩ (wQ_then (wC_ret (wQ_blk_ret (wQ_then_ret (wQ_post (rs := [.cell 4 108, .tmp 5]) (vs := [.agg #[.int .i64 0, .int .i64 0, .int .i64 0, .int .i64 0, .int .i64 0, .slice none 0 0], .int .i64 7]) rfl ⟨⟨_, rfl, res_row 0 S20 rfl Try.underlying108 rfl inf108⟩, rfl, trivial⟩ ?_))))))
   have S21 : St w.heap.size w w19 [] := (St.del 0 (St.del 1 (St.del 2 S20))); clear S20
   rw [show forgetM ⟨ro, ep, fr, tg, rd, l⟩ e = (⟨0, 0, 0, 0, 0, []⟩, 7) from by unfold forgetM; (try dsimp only); (repeat' (first | rfl | omega | split)) <;> (simp only [Prod.mk.injEq, Brt.mk.injEq, and_true, true_and, and_self]; omega)]
   exact ⟨none, 0, rfl, rdo_nil S21⟩
 ·refine wL_val (v := .bool true) (wn rfl) rfl rfl (y_binop rfl rfl rfl (r_neq_t h10)) ?_
  refine wL_val (wn rfl) rfl rfl (y_assign rfl rfl) ?_
  refine wL_nil (wQ_sub (l' := [(1, _), (2, _), (4, _), (5, _), (6, _), (9, _)]) ⟨rfl, rfl, rfl, rfl, rfl, rfl, trivial⟩ (wQ_then (wC_cond_t rfl (wC_seq (wC_region (wL_val (v := .agg #[.int .i64 0, .int .i64 0, .int .i64 0, .int .i64 0, .int .i64 0, .slice none 0 0]) (wn rfl) rfl rfl (y_build (vs := []) rfl trivial (by kernel_rfl)) ?_))))))
  refine wL_val (wn rfl) rfl rfl (y_move rfl rfl) ?_
  refine wL_st (fs' := [_, _, _]) 0 S8 (wn rfl) rfl rfl rfl rfl rfl rfl inf108 rfl (oneAll rfl) (Nat.le_of_ble_eq_true rfl) (setAll_all rfl) rfl ?_; intro w22 S23; clear S8
  refine wL_val (wn rfl) rfl rfl (y_assign rfl rfl) ?_
  refine wL_nil (wQ_sub (l' := [(4, _), (5, _)]) ⟨rfl, rfl, trivial⟩ (wQ_then (wC_ret (wQ_blk_ret (wQ_then_ret (wQ_post (rs := [.cell 4 108, .tmp 5]) (vs := [.agg #[.int .i64 0, .int .i64 0, .int .i64 0, .int .i64 0, .int .i64 0, .slice none 0 0], .int .i64 (brtFault ⟨ro, ep, fr, tg, rd, l⟩)]) rfl ⟨⟨_, rfl, res_row 0 S23 rfl Try.underlying108 rfl inf108⟩, rfl, trivial⟩ ?_))))))
  have S24 : St w.heap.size w w22 [] := (St.del 0 (St.del 1 (St.del 2 S23))); clear S23
  rw [show forgetM ⟨ro, ep, fr, tg, rd, l⟩ e = (⟨0, 0, 0, 0, 0, []⟩, brtFault ⟨ro, ep, fr, tg, rd, l⟩) from by unfold forgetM; (try dsimp only); (repeat' (first | rfl | omega | split)) <;> (simp only [Prod.mk.injEq, Brt.mk.injEq, and_true, true_and, and_self]; omega)]
  exact ⟨none, 0, rfl, rdo_nil S24⟩
end Go.Proofs.Ytkjlafpafmihaaa

namespace Go.Proofs.Ytkjlafpafmihaaa
open Go.ChangeShapes Go.WideShapes Go.RowKit

set_option maxRecDepth 100000 in
set_option maxHeartbeats 1000000 in
theorem Forgotten_calls (ro ep fr tg rd : Int) (A : Option Addr) (c : Nat) (l : List Ev) (e : Int) (w : World) (h : Rd w w.heap.size 6 A l.length (evCells l)) (hb : l.length * 48 ≤ reachBytes) :
    Calls Try.prog 80 #[.agg #[.int .i64 ro, .int .i64 ep, .int .i64 fr, .int .i64 tg, .int .i64 rd, .slice A l.length c], .int .i64 e] w (BrtPost w (forgetM ⟨ro, ep, fr, tg, rd, l⟩ e)) := by
 have S := (St.start w).addRd h; clear h
 have hb2 := hb
 unfold reachBytes at hb2
 refine calls_of_wC (N := 31) (vs := [.agg #[.int .i64 ro, .int .i64 ep, .int .i64 fr, .int .i64 tg, .int .i64 rd, .slice A l.length c], .int .i64 e]) Try.func80 rfl rfl rfl ?_
 refine wC_sub (l' := [(0, .agg #[.int .i64 ro, .int .i64 ep, .int .i64 fr, .int .i64 tg, .int .i64 rd, .slice A l.length c]), (1, .int .i64 e)]) ⟨rfl, rfl, trivial⟩ (wC_seq (wC_region (wL_new (V := fun b => .pointer (some ⟨b, 0, none⟩)) (row := #[.int .i64 ro, .int .i64 ep, .int .i64 fr, .int .i64 tg, .int .i64 rd, .slice A l.length c]) (t := 108) S (wn rfl) rfl rfl (d_box rfl rfl rfl) ?_))); intro b1 w2 S3; clear S
 refine wL_new (V := fun b => .pointer (some ⟨b, 0, none⟩)) (row := #[.int .i64 0, .int .i64 0, .int .i64 0, .int .i64 0, .int .i64 0, .slice none 0 0]) (t := 108) S3 (wn rfl) rfl rfl (d_alloc rfl (Try.zeroValue108 _) rfl) ?_; intro b4 w5 S6; clear S3
 refine wL_val (wn rfl) rfl rfl (y_assign rfl rfl) ?_
 refine wL_nil (wQ_sub (l' := [(1, _), (2, _), (4, _), (5, _)]) ⟨rfl, rfl, rfl, rfl, trivial⟩ (wQ_then (wC_seq (wC_region (wL_val (wn rfl) rfl rfl (y_load rfl rfl (r_load_row 1 S6 rfl Try.underlying108 rfl inf108 rfl)) ?_)))))
 refine wL_call (vs := [.agg #[.int .i64 ro, .int .i64 ep, .int .i64 fr, .int .i64 tg, .int .i64 rd, .slice A l.length c]]) (wn rfl) rfl rfl (e_call (vs := [.agg #[.int .i64 ro, .int .i64 ep, .int .i64 fr, .int .i64 tg, .int .i64 rd, .slice A l.length c]]) rfl en78 ⟨rfl, trivial⟩) (BerthFault_calls ro ep fr tg rd A c l _ (St.rd 2 S6 rfl) (by omega)) ?_
 rintro _ w7 ⟨rfl, hb9⟩
 refine ⟨_, rfl, ?_⟩
 have S8 := S6.on hb9; clear hb9 S6
 refine wL_val (wn rfl) rfl rfl (y_assign rfl rfl) ?_
 refine wL_nil (wQ_sub (l' := [(1, _), (2, _), (4, _), (5, _), (6, _)]) ⟨rfl, rfl, rfl, rfl, rfl, trivial⟩ (wQ_then (wC_seq (wC_seq (wC_region (wL_val (wn rfl) rfl rfl (y_move rfl rfl) ?_))))))
 by_cases h10 : brtFault ⟨ro, ep, fr, tg, rd, l⟩ = 0
 ·have hsh := (bf_zero h10).1
  unfold shapeB at hsh
  have hln := tellM_len (bf_zero h10).2
  dsimp only at hsh hln
  refine wL_val (v := .bool true) (wn rfl) rfl rfl (y_binop rfl rfl rfl (r_eql_t h10)) ?_
  refine wL_val (wn rfl) rfl rfl (y_move rfl rfl) ?_
  refine wL_val (v := .pointer (some ⟨b1, 0, none⟩)) (wg rfl rfl rfl rfl) rfl rfl (y_fieldAddr rfl rfl (fa108_0 _ _ _)) ?_
  refine wL_val (wg rfl rfl rfl rfl) rfl rfl (y_load rfl rfl (r_load Try.underlying3 rfl (St.cl 1 S8 rfl rfl))) ?_
  by_cases h11 : ro = 3
  ·refine wL_val (v := .bool false) (wg rfl rfl rfl rfl) rfl rfl (y_binop rfl rfl rfl (r_neq_f h11)) ?_
   refine wL_val (wn rfl) rfl rfl (y_pick_t rfl rfl rfl) ?_
   refine wL_nil (wQ_sub (l' := [(1, _), (2, _), (4, _), (5, _), (6, _), (15, _)]) ⟨rfl, rfl, rfl, rfl, rfl, rfl, trivial⟩ (wQ_then (wC_cond_f rfl (wC_skip (wQ_then (wC_seq (wC_seq (wC_region (wL_val (wn rfl) rfl rfl (y_move rfl rfl) ?_)))))))))
   refine wL_val (v := .bool true) (wn rfl) rfl rfl (y_binop rfl rfl rfl (r_eql_t h10)) ?_
   refine wL_val (wn rfl) rfl rfl (y_move rfl rfl) ?_
   refine wL_val (wg rfl rfl rfl rfl) rfl rfl (y_move rfl rfl) ?_
   refine wL_val (v := .pointer (some ⟨b1, 1, none⟩)) (wg rfl rfl rfl rfl) rfl rfl (y_fieldAddr rfl rfl (fa108_1 _ _ _)) ?_
   refine wL_val (wg rfl rfl rfl rfl) rfl rfl (y_load rfl rfl (r_load Try.underlying3 rfl (St.cl 1 S8 rfl rfl))) ?_
   by_cases h12 : e ≤ ep
   ·refine wL_val (v := .bool true) (wg rfl rfl rfl rfl) rfl rfl (y_binop rfl rfl rfl (r_leq_t h12)) ?_
    refine wL_val (wn rfl) rfl rfl (y_pick_t rfl rfl rfl) ?_
    refine wL_nil (wQ_sub (l' := [(2, _), (4, _), (5, _), (6, _), (23, _)]) ⟨rfl, rfl, rfl, rfl, rfl, trivial⟩ (wQ_then (wC_cond_t rfl (wC_region (wL_val (wn rfl) rfl rfl (y_assign rfl rfl) ?_)))))
    refine wL_nil (wQ_sub (l' := [(2, _), (4, _), (5, _), (6, _)]) ⟨rfl, rfl, rfl, rfl, trivial⟩ (wQ_then (wC_seq (wC_seq (wC_region (wL_val (wn rfl) rfl rfl (y_move rfl rfl) ?_))))))
    refine wL_val (v := .bool true) (wn rfl) rfl rfl (y_binop rfl rfl rfl (r_neq_t (by decide))) ?_
    refine wL_nil (wQ_sub (l' := [(2, _), (4, _), (5, _), (6, _), (25, _)]) ⟨rfl, rfl, rfl, rfl, rfl, trivial⟩ (wQ_then (wC_cond_t rfl (wC_seq (wC_region (wL_val (v := .agg #[.int .i64 0, .int .i64 0, .int .i64 0, .int .i64 0, .int .i64 0, .slice none 0 0]) (wn rfl) rfl rfl (y_build (vs := []) rfl trivial (by kernel_rfl)) ?_))))))
    refine wL_val (wn rfl) rfl rfl (y_move rfl rfl) ?_
    refine wL_st (fs' := [_, _, _]) 0 S8 (wn rfl) rfl rfl rfl rfl rfl rfl inf108 rfl (oneAll rfl) (Nat.le_of_ble_eq_true rfl) (setAll_all rfl) rfl ?_; intro w13 S14; clear S8
    refine wL_val (wn rfl) rfl rfl (y_assign rfl rfl) ?_
    refine wL_nil (wQ_sub (l' := [(4, _), (5, _)]) ⟨rfl, rfl, trivial⟩ (wQ_then (wC_ret (wQ_then_ret (wQ_post (rs := [.cell 4 108, .tmp 5]) (vs := [.agg #[.int .i64 0, .int .i64 0, .int .i64 0, .int .i64 0, .int .i64 0, .slice none 0 0], .int .i64 15]) rfl ⟨⟨_, rfl, res_row 0 S14 rfl Try.underlying108 rfl inf108⟩, rfl, trivial⟩ ?_)))))
    have S15 : St w.heap.size w w13 [] := (St.del 0 (St.del 1 (St.del 2 S14))); clear S14
    rw [show forgetM ⟨ro, ep, fr, tg, rd, l⟩ e = (⟨0, 0, 0, 0, 0, []⟩, 15) from by unfold forgetM; (try dsimp only); (repeat' (first | rfl | omega | split)) <;> (simp only [Prod.mk.injEq, Brt.mk.injEq, and_true, true_and, and_self]; omega)]
    exact ⟨none, 0, rfl, rdo_nil S15⟩
   ·refine wL_val (v := .bool false) (wg rfl rfl rfl rfl) rfl rfl (y_binop rfl rfl rfl (r_leq_f h12)) ?_
    refine wL_val (wn rfl) rfl rfl (y_pick_t rfl rfl rfl) ?_
    refine wL_nil (wQ_sub (l' := [(2, _), (4, _), (5, _), (6, _), (23, _)]) ⟨rfl, rfl, rfl, rfl, rfl, trivial⟩ (wQ_then (wC_cond_f rfl (wC_skip (wQ_then (wC_seq (wC_seq (wC_region (wL_val (wn rfl) rfl rfl (y_move rfl rfl) ?_)))))))))
    refine wL_val (v := .bool false) (wn rfl) rfl rfl (y_binop rfl rfl rfl (r_neq_f h10)) ?_
    refine wL_nil (wQ_sub (l' := [(2, _), (4, _), (5, _), (6, _), (25, _)]) ⟨rfl, rfl, rfl, rfl, rfl, trivial⟩ (wQ_then (wC_cond_f rfl (wC_skip (wQ_then (wC_seq (wC_region (wL_val (v := .pointer (some ⟨b1, 1, none⟩)) (wn rfl) rfl rfl (y_fieldAddr rfl rfl (fa108_1 _ _ _)) ?_))))))))
    refine wL_val (wn rfl) rfl rfl (y_load rfl rfl (r_load Try.underlying3 rfl (St.cl 1 S8 rfl rfl))) ?_
    refine wL_val (v := .agg #[.int .i64 0, .int .i64 ep, .int .i64 0, .int .i64 0, .int .i64 0, .slice none 0 0]) (wn rfl) rfl rfl (y_build (vs := [(1, .int .i64 ep)]) rfl ⟨rfl, rfl, trivial⟩ (by kernel_rfl)) ?_
    refine wL_st (fs' := [_, _, _]) 0 S8 (wn rfl) rfl rfl rfl rfl rfl rfl inf108 rfl (oneAll rfl) (Nat.le_of_ble_eq_true rfl) (setAll_all rfl) rfl ?_; intro w16 S17; clear S8
    refine wL_val (wn rfl) rfl rfl (y_assign rfl rfl) ?_
    refine wL_nil (wQ_sub (l' := [(4, _), (5, _)]) ⟨rfl, rfl, trivial⟩ (wQ_then (wC_ret (wQ_post (rs := [.cell 4 108, .tmp 5]) (vs := [.agg #[.int .i64 0, .int .i64 ep, .int .i64 0, .int .i64 0, .int .i64 0, .slice none 0 0], .int .i64 0]) rfl ⟨⟨_, rfl, res_row 0 S17 rfl Try.underlying108 rfl inf108⟩, rfl, trivial⟩ ?_))))
    have S18 : St w.heap.size w w16 [] := (St.del 0 (St.del 1 (St.del 2 S17))); clear S17
    rw [show forgetM ⟨ro, ep, fr, tg, rd, l⟩ e = (⟨0, ep, 0, 0, 0, []⟩, 0) from by unfold forgetM; (try dsimp only); (repeat' (first | rfl | omega | split)) <;> (simp only [Prod.mk.injEq, Brt.mk.injEq, and_true, true_and, and_self]; omega)]
    exact ⟨none, 0, rfl, rdo_nil S18⟩
  ·refine wL_val (v := .bool true) (wg rfl rfl rfl rfl) rfl rfl (y_binop rfl rfl rfl (r_neq_t h11)) ?_
   refine wL_val (wn rfl) rfl rfl (y_pick_t rfl rfl rfl) ?_
   refine wL_nil (wQ_sub (l' := [(1, _), (2, _), (4, _), (5, _), (6, _), (15, _)]) ⟨rfl, rfl, rfl, rfl, rfl, rfl, trivial⟩ (wQ_then (wC_cond_t rfl (wC_region (wL_val (wn rfl) rfl rfl (y_assign rfl rfl) ?_)))))
   refine wL_nil (wQ_sub (l' := [(1, _), (2, _), (4, _), (5, _), (6, _)]) ⟨rfl, rfl, rfl, rfl, rfl, trivial⟩ (wQ_then (wC_seq (wC_seq (wC_region (wL_val (wn rfl) rfl rfl (y_move rfl rfl) ?_))))))
   refine wL_val (v := .bool false) (wn rfl) rfl rfl (y_binop rfl rfl rfl (r_eql_f (by decide))) ?_
   refine wL_val (wn rfl) rfl rfl (y_move rfl rfl) ?_
   refine wL_skip (wg rfl rfl rfl rfl) rfl rfl ?_
   refine wL_skip (wg rfl rfl rfl rfl) rfl rfl ?_
   refine wL_skip (wg rfl rfl rfl rfl) rfl rfl ?_
   refine wL_skip (wg rfl rfl rfl rfl) rfl rfl ?_
   refine wL_val (wn rfl) rfl rfl (y_pick_f rfl rfl rfl) ?_
   refine wL_nil (wQ_sub (l' := [(2, _), (4, _), (5, _), (6, _), (23, _)]) ⟨rfl, rfl, rfl, rfl, rfl, trivial⟩ (wQ_then (wC_cond_f rfl (wC_skip (wQ_then (wC_seq (wC_seq (wC_region (wL_val (wn rfl) rfl rfl (y_move rfl rfl) ?_)))))))))
   refine wL_val (v := .bool true) (wn rfl) rfl rfl (y_binop rfl rfl rfl (r_neq_t (by decide))) ?_
   refine wL_nil (wQ_sub (l' := [(2, _), (4, _), (5, _), (6, _), (25, _)]) ⟨rfl, rfl, rfl, rfl, rfl, trivial⟩ (wQ_then (wC_cond_t rfl (wC_seq (wC_region (wL_val (v := .agg #[.int .i64 0, .int .i64 0, .int .i64 0, .int .i64 0, .int .i64 0, .slice none 0 0]) (wn rfl) rfl rfl (y_build (vs := []) rfl trivial (by kernel_rfl)) ?_))))))
   refine wL_val (wn rfl) rfl rfl (y_move rfl rfl) ?_
   refine wL_st (fs' := [_, _, _]) 0 S8 (wn rfl) rfl rfl rfl rfl rfl rfl inf108 rfl (oneAll rfl) (Nat.le_of_ble_eq_true rfl) (setAll_all rfl) rfl ?_; intro w19 S20; clear S8
   refine wL_val (wn rfl) rfl rfl (y_assign rfl rfl) ?_
   refine wL_nil (wQ_sub (l' := [(4, _), (5, _)]) ⟨rfl, rfl, trivial⟩ (wQ_then (wC_ret (wQ_then_ret (wQ_post (rs := [.cell 4 108, .tmp 5]) (vs := [.agg #[.int .i64 0, .int .i64 0, .int .i64 0, .int .i64 0, .int .i64 0, .slice none 0 0], .int .i64 7]) rfl ⟨⟨_, rfl, res_row 0 S20 rfl Try.underlying108 rfl inf108⟩, rfl, trivial⟩ ?_)))))
   have S21 : St w.heap.size w w19 [] := (St.del 0 (St.del 1 (St.del 2 S20))); clear S20
   rw [show forgetM ⟨ro, ep, fr, tg, rd, l⟩ e = (⟨0, 0, 0, 0, 0, []⟩, 7) from by unfold forgetM; (try dsimp only); (repeat' (first | rfl | omega | split)) <;> (simp only [Prod.mk.injEq, Brt.mk.injEq, and_true, true_and, and_self]; omega)]
   exact ⟨none, 0, rfl, rdo_nil S21⟩
 ·refine wL_val (v := .bool false) (wn rfl) rfl rfl (y_binop rfl rfl rfl (r_eql_f h10)) ?_
  refine wL_val (wn rfl) rfl rfl (y_move rfl rfl) ?_
  refine wL_skip (wg rfl rfl rfl rfl) rfl rfl ?_
  refine wL_skip (wg rfl rfl rfl rfl) rfl rfl ?_
  refine wL_skip (wg rfl rfl rfl rfl) rfl rfl ?_
  refine wL_val (wn rfl) rfl rfl (y_pick_f rfl rfl rfl) ?_
  refine wL_nil (wQ_sub (l' := [(1, _), (2, _), (4, _), (5, _), (6, _), (15, _)]) ⟨rfl, rfl, rfl, rfl, rfl, rfl, trivial⟩ (wQ_then (wC_cond_f rfl (wC_skip (wQ_then (wC_seq (wC_seq (wC_region (wL_val (wn rfl) rfl rfl (y_move rfl rfl) ?_)))))))))
  refine wL_val (v := .bool false) (wn rfl) rfl rfl (y_binop rfl rfl rfl (r_eql_f h10)) ?_
  refine wL_val (wn rfl) rfl rfl (y_move rfl rfl) ?_
  refine wL_skip (wg rfl rfl rfl rfl) rfl rfl ?_
  refine wL_skip (wg rfl rfl rfl rfl) rfl rfl ?_
  refine wL_skip (wg rfl rfl rfl rfl) rfl rfl ?_
  refine wL_skip (wg rfl rfl rfl rfl) rfl rfl ?_
  refine wL_val (wn rfl) rfl rfl (y_pick_f rfl rfl rfl) ?_
  refine wL_nil (wQ_sub (l' := [(2, _), (4, _), (5, _), (6, _), (23, _)]) ⟨rfl, rfl, rfl, rfl, rfl, trivial⟩ (wQ_then (wC_cond_f rfl (wC_skip (wQ_then (wC_seq (wC_seq (wC_region (wL_val (wn rfl) rfl rfl (y_move rfl rfl) ?_)))))))))
  refine wL_val (v := .bool true) (wn rfl) rfl rfl (y_binop rfl rfl rfl (r_neq_t h10)) ?_
  refine wL_nil (wQ_sub (l' := [(2, _), (4, _), (5, _), (6, _), (25, _)]) ⟨rfl, rfl, rfl, rfl, rfl, trivial⟩ (wQ_then (wC_cond_t rfl (wC_seq (wC_region (wL_val (v := .agg #[.int .i64 0, .int .i64 0, .int .i64 0, .int .i64 0, .int .i64 0, .slice none 0 0]) (wn rfl) rfl rfl (y_build (vs := []) rfl trivial (by kernel_rfl)) ?_))))))
  refine wL_val (wn rfl) rfl rfl (y_move rfl rfl) ?_
  refine wL_st (fs' := [_, _, _]) 0 S8 (wn rfl) rfl rfl rfl rfl rfl rfl inf108 rfl (oneAll rfl) (Nat.le_of_ble_eq_true rfl) (setAll_all rfl) rfl ?_; intro w22 S23; clear S8
  refine wL_val (wn rfl) rfl rfl (y_assign rfl rfl) ?_
  refine wL_nil (wQ_sub (l' := [(4, _), (5, _)]) ⟨rfl, rfl, trivial⟩ (wQ_then (wC_ret (wQ_then_ret (wQ_post (rs := [.cell 4 108, .tmp 5]) (vs := [.agg #[.int .i64 0, .int .i64 0, .int .i64 0, .int .i64 0, .int .i64 0, .slice none 0 0], .int .i64 (brtFault ⟨ro, ep, fr, tg, rd, l⟩)]) rfl ⟨⟨_, rfl, res_row 0 S23 rfl Try.underlying108 rfl inf108⟩, rfl, trivial⟩ ?_)))))
  have S24 : St w.heap.size w w22 [] := (St.del 0 (St.del 1 (St.del 2 S23))); clear S23
  rw [show forgetM ⟨ro, ep, fr, tg, rd, l⟩ e = (⟨0, 0, 0, 0, 0, []⟩, brtFault ⟨ro, ep, fr, tg, rd, l⟩) from by unfold forgetM; (try dsimp only); (repeat' (first | rfl | omega | split)) <;> (simp only [Prod.mk.injEq, Brt.mk.injEq, and_true, true_and, and_self]; omega)]
  exact ⟨none, 0, rfl, rdo_nil S24⟩

end Go.Proofs.Ytkjlafpafmihaaa

namespace Go.Proofs.Ytkjlafpafmihaaa
open Go.ChangeShapes Go.WideShapes Go.RowKit

theorem forgetM_len {b : Brt} {e : Int} : (forgetM b e).1.evs.length ≤ b.evs.length + 1 := by
  unfold forgetM
  (repeat' split) <;> (try simp [zeroB]) <;> (try omega)

set_option maxRecDepth 100000 in
set_option maxHeartbeats 2000000 in
theorem berthForgets_calls (ro ep fr tg rd : Int) (A : Option Addr) (c : Nat) (l : List Ev) (e : Int) (hlc : l.length ≤ c) (w : World) (h : Rd w w.heap.size 6 A l.length (evCells l)) (hb : l.length * 48 ≤ reachBytes) :
    Calls Try.prog 19 #[.agg #[.int .i64 ro, .int .i64 ep, .int .i64 fr, .int .i64 tg, .int .i64 rd, .slice A l.length c], .int .i64 e] w fun e w' => e = .returned (.bool true) ∧ Below w.heap.size w w' := by
 have S := (St.start w).addRd h; clear h
 have hb2 := hb
 unfold reachBytes at hb2
 have HP := fun A c w h => Forget_calls ro ep fr tg rd A c l e w h hb
 have HR := fun A c w h => Forgotten_calls ro ep fr tg rd A c l e w h hb
 have hlen := forgetM_len (b := ⟨ro, ep, fr, tg, rd, l⟩) (e := e)
 generalize forgetM ⟨ro, ep, fr, tg, rd, l⟩ e = R at HP HR hlen
 dsimp only at hlen
 refine calls_of_wC (N := 30) (vs := [.agg #[.int .i64 ro, .int .i64 ep, .int .i64 fr, .int .i64 tg, .int .i64 rd, .slice A l.length c], .int .i64 e]) Try.func19 rfl rfl rfl ?_
 refine wC_sub (l' := [(0, .agg #[.int .i64 ro, .int .i64 ep, .int .i64 fr, .int .i64 tg, .int .i64 rd, .slice A l.length c]), (1, .int .i64 e)]) ⟨rfl, rfl, trivial⟩ (wC_seq (wC_region (wL_new (V := fun b => .pointer (some ⟨b, 0, none⟩)) (row := #[.int .i64 ro, .int .i64 ep, .int .i64 fr, .int .i64 tg, .int .i64 rd, .slice A l.length c]) (t := 108) S (wn rfl) rfl rfl (d_box rfl rfl rfl) ?_))); intro b1 w2 S3; clear S
 refine wL_val (wn rfl) rfl rfl (y_assign rfl rfl) ?_
 refine wL_nil (wQ_sub (l' := [(1, _), (2, _), (4, _)]) ⟨rfl, rfl, rfl, trivial⟩ (wQ_then (wC_seq (wC_region (wL_val (wn rfl) rfl rfl (y_load rfl rfl (r_load_row 0 S3 rfl Try.underlying108 rfl inf108 rfl)) ?_)))))
 refine wL_call (vs := [.agg #[.int .i64 ro, .int .i64 ep, .int .i64 fr, .int .i64 tg, .int .i64 rd, .slice A l.length c]]) (wn rfl) rfl rfl (e_call (vs := [.agg #[.int .i64 ro, .int .i64 ep, .int .i64 fr, .int .i64 tg, .int .i64 rd, .slice A l.length c]]) rfl en77 ⟨rfl, trivial⟩) (berths_calls ro ep fr tg rd A c l _ (St.rd 1 S3 rfl) hb) ?_
 rintro _ w6 ⟨A4, c5, rfl, T8⟩
 refine ⟨_, rfl, ?_⟩
 have S7 := S3.ext T8 rfl; clear T8 S3
 change St _ _ _ [.own 37 6 (.slice A4 l.length c5) l.length ((l).flatMap Ev.cells), _, _] at S7
 refine wL_val (wn rfl) rfl rfl (y_move rfl rfl) ?_
 refine wL_call (vs := [.agg #[.int .i64 ro, .int .i64 ep, .int .i64 fr, .int .i64 tg, .int .i64 rd, .slice A4 l.length c5], .int .i64 e]) (wn rfl) rfl rfl (e_call (vs := [.agg #[.int .i64 ro, .int .i64 ep, .int .i64 fr, .int .i64 tg, .int .i64 rd, .slice A4 l.length c5], .int .i64 e]) rfl en79 ⟨rfl, rfl, trivial⟩) (HP A4 c5 _ (St.ord 0 S7 rfl)) ?_
 rintro _ w11 ⟨A9, c10, rfl, T13⟩
 refine ⟨_, rfl, ?_⟩
 have S12 := S7.ext T13 rfl; clear T13 S7
 change St _ _ _ [.rdo 6 A9 R.1.evs.length ((R.1.evs).flatMap Ev.cells), _, _, _] at S12
 refine wL_val (wn rfl) rfl rfl (y_move rfl rfl) ?_
 refine wL_val (wn rfl) rfl rfl (y_extract rfl rfl rfl) ?_
 refine wL_val (wn rfl) rfl rfl (y_extract rfl rfl rfl) ?_
 refine wL_new (V := fun b => .pointer (some ⟨b, 0, none⟩)) (row := #[.int .i64 0, .int .i64 0, .int .i64 0, .int .i64 0, .int .i64 0, .slice none 0 0]) (t := 108) S12 (wn rfl) rfl rfl (d_alloc rfl (Try.zeroValue108 _) rfl) ?_; intro b14 w15 S16; clear S12
 refine wL_st (fs' := [_, _, _, _, _]) 0 S16 (wn rfl) rfl rfl rfl rfl rfl rfl inf108 rfl (oneAll rfl) (Nat.le_of_ble_eq_true rfl) (setAll_all rfl) rfl ?_; intro w17 S18; clear S16
 refine wL_val (wn rfl) rfl rfl (y_assign rfl rfl) ?_
 refine wL_nil (wQ_sub (l' := [(1, _), (2, _), (4, _), (5, _), (6, _)]) ⟨rfl, rfl, rfl, rfl, rfl, trivial⟩ (wQ_then (wC_seq (wC_region (wL_val (wn rfl) rfl rfl (y_load rfl rfl (r_load_row 3 S18 rfl Try.underlying108 rfl inf108 rfl)) ?_)))))
 refine wL_val (wn rfl) rfl rfl (y_move rfl rfl) ?_
 refine wL_call (vs := [.agg #[.int .i64 ro, .int .i64 ep, .int .i64 fr, .int .i64 tg, .int .i64 rd, .slice A l.length c], .int .i64 e]) (wn rfl) rfl rfl (e_call (vs := [.agg #[.int .i64 ro, .int .i64 ep, .int .i64 fr, .int .i64 tg, .int .i64 rd, .slice A l.length c], .int .i64 e]) rfl en80 ⟨rfl, rfl, trivial⟩) (HR A c _ (St.rd 4 S18 rfl)) ?_
 rintro _ w21 ⟨A19, c20, rfl, T23⟩
 refine ⟨_, rfl, ?_⟩
 have S22 := S18.ext T23 rfl; clear T23 S18
 change St _ _ _ [.rdo 6 A19 R.1.evs.length ((R.1.evs).flatMap Ev.cells), _, _, _, _, _] at S22
 refine wL_val (wn rfl) rfl rfl (y_move rfl rfl) ?_
 refine wL_val (wn rfl) rfl rfl (y_extract rfl rfl rfl) ?_
 refine wL_val (wn rfl) rfl rfl (y_extract rfl rfl rfl) ?_
 refine wL_new (V := fun b => .pointer (some ⟨b, 0, none⟩)) (row := #[.int .i64 0, .int .i64 0, .int .i64 0, .int .i64 0, .int .i64 0, .slice none 0 0]) (t := 108) S22 (wn rfl) rfl rfl (d_alloc rfl (Try.zeroValue108 _) rfl) ?_; intro b24 w25 S26; clear S22
 refine wL_st (fs' := [_, _, _, _, _, _, _]) 0 S26 (wn rfl) rfl rfl rfl rfl rfl rfl inf108 rfl (oneAll rfl) (Nat.le_of_ble_eq_true rfl) (setAll_all rfl) rfl ?_; intro w27 S28; clear S26
 refine wL_val (wn rfl) rfl rfl (y_assign rfl rfl) ?_
 refine wL_nil (wQ_sub (l' := [(4, _), (5, _), (6, _), (7, _), (8, _)]) ⟨rfl, rfl, rfl, rfl, rfl, trivial⟩ (wQ_then (wC_seq (wC_region (wL_val (wn rfl) rfl rfl (y_move rfl rfl) ?_)))))
 refine wL_val (wn rfl) rfl rfl (y_move rfl rfl) ?_
 refine wL_val (v := .bool true) (wn rfl) rfl rfl (y_binop rfl rfl rfl (r_eql_t rfl)) ?_
 refine wL_val (wn rfl) rfl rfl (y_move rfl rfl) ?_
 refine wL_val (wg rfl rfl rfl rfl) rfl rfl (y_load rfl rfl (r_load_row 2 S28 rfl Try.underlying108 rfl inf108 rfl)) ?_
 refine wL_val (wg rfl rfl rfl rfl) rfl rfl (y_load rfl rfl (r_load_row 0 S28 rfl Try.underlying108 rfl inf108 rfl)) ?_
 refine wL_call (vs := [.agg #[.int .i64 R.1.role, .int .i64 R.1.ep, .int .i64 R.1.fr, .int .i64 R.1.tg, .int .i64 R.1.rd, .slice A9 R.1.evs.length c10], .agg #[.int .i64 R.1.role, .int .i64 R.1.ep, .int .i64 R.1.fr, .int .i64 R.1.tg, .int .i64 R.1.rd, .slice A19 R.1.evs.length c20]]) (wg rfl rfl rfl rfl) rfl rfl (e_call (vs := [.agg #[.int .i64 R.1.role, .int .i64 R.1.ep, .int .i64 R.1.fr, .int .i64 R.1.tg, .int .i64 R.1.rd, .slice A9 R.1.evs.length c10], .agg #[.int .i64 R.1.role, .int .i64 R.1.ep, .int .i64 R.1.fr, .int .i64 R.1.tg, .int .i64 R.1.rd, .slice A19 R.1.evs.length c20]]) rfl en81 ⟨rfl, rfl, trivial⟩) (sameBerth_calls R.1.role R.1.ep R.1.fr R.1.tg R.1.rd A9 c10 A19 c20 R.1.evs _ (St.rdo 3 S28 rfl) (St.rdo 1 S28 rfl) (by omega)) ?_
 rintro _ w29 ⟨rfl, hb31⟩
 refine ⟨_, rfl, ?_⟩
 have S30 := S28.on hb31; clear hb31 S28
 refine wL_val (wn rfl) rfl rfl (y_pick_t rfl rfl rfl) ?_
 refine wL_val (wn rfl) rfl rfl (y_assign rfl rfl) ?_
 refine wL_nil (wQ_sub (l' := [(4, _)]) ⟨rfl, trivial⟩ (wQ_then (wC_ret (wQ_post (rs := [.tmp 4]) (vs := [.bool true]) rfl ⟨rfl, trivial⟩ ?_))))
 exact ⟨rfl, S30.low⟩

set_option maxRecDepth 100000 in
theorem berthForgets_walk (W : World) (args : Array Value) (h : All2 (ArgOk Try.prog W) args.toList Try.f19.params.toList) :
    Calls Try.prog 19 args W fun e W' => e = .returned (.bool true) ∧ Below W.heap.size W W' := by
  rw [Try.params19] at h
  obtain ⟨v0, l0, hv0, h0, g0⟩ := All2.cons_ h
  obtain ⟨v1, l1, hv1, h1, g1⟩ := All2.cons_ g0
  have h9 := All2.nil_ g1
  subst h9
  obtain rfl : args = #[v0, v1] := by cases args; simp_all
  obtain ⟨ro, ep, fr, tg, rd, A, c, l, rfl, hr, hn, hc, hb⟩ := arg_berth h0
  obtain ⟨⟨_, hk1⟩, _, _⟩ := h1
  obtain ⟨e, rfl⟩ := okWide_int Try.underlying3 hk1
  exact berthForgets_calls ro ep fr tg rd A c l e hn W hr hb
end Go.Proofs.Ytkjlafpafmihaaa

