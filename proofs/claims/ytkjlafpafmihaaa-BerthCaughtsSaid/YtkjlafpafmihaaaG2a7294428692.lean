/- Parts of proofs: lemmas on memory, on single functions and on the plain models; no condition of their own. -/
import Derived.Test.YtkjlafpafmihaaaRows
import Derived.WalkKit
import Derived.ProofKit
import Derived.OpenShut
import Derived.SizedLaws
import Derived.WalkSpells
import Derived.WalkLawsBesides
import Derived.Handy
import Derived.Deep.QuietTactic
import Derived.BigQuiet
import Derived.Lib.Hide
import Derived.Maps.AppendAt
import Derived.Deep.AppendLies
import Derived.RegionTactic
import Derived.OwnWalk
import Derived.Laws.Tables
import Derived.Deep.MidRow
import Derived.StillTailTactics
import Derived.OrdersHeld
import Derived.Deep.RegionHeld3
import Derived.Laws.IdiomCopy
import Derived.ChangeKeysEq
import Derived.Laws.BitsAllLaws
import Derived.Deep.DeepCutAuto
import Derived.Deep.CutRange
import Derived.Shelf.SlSortCmp.WholeK
import Derived.Shelf.SlSortCmp.NoneTotal
import Derived.Shelf.SlicesG.Cmp
import Derived.Shelf.SlGeneric
import Derived.Ground.SlsfProg
import Derived.Ground.SlgcProg
import Derived.Maps.OwnSet
import Derived.Lib.SliceRun
import Derived.Deep.RegionLaw
import Derived.Test.YtkjlafpafmihaaaG06e1f1d2e814
import Derived.Test.YtkjlafpafmihaaaG0e35ec4e0bdc
import Derived.Test.YtkjlafpafmihaaaG1927aceec35a
import Derived.Test.YtkjlafpafmihaaaG2143c9b0b786
import Derived.Test.YtkjlafpafmihaaaG2955b7bf0201
import Derived.Test.YtkjlafpafmihaaaG3cad135f796d
import Derived.Test.YtkjlafpafmihaaaG4616653cfbd3
import Derived.Test.YtkjlafpafmihaaaG668153da7687
import Derived.Test.YtkjlafpafmihaaaG69ea6f18ea30
import Derived.Test.YtkjlafpafmihaaaG6ad8477b615d
import Derived.Test.YtkjlafpafmihaaaG761c44fdc698
import Derived.Test.YtkjlafpafmihaaaG7f9bde47e941
import Derived.Test.YtkjlafpafmihaaaG8ba6bfb0af5b
import Derived.Test.YtkjlafpafmihaaaG9d6a0cc61d66
import Derived.Test.YtkjlafpafmihaaaG9e974038fe9d
import Derived.Test.YtkjlafpafmihaaaGa67dcf529610
import Derived.Test.YtkjlafpafmihaaaGa89c1a6f9966
import Derived.Test.YtkjlafpafmihaaaGa956530333d6
import Derived.Test.YtkjlafpafmihaaaGad4fca606e19
import Derived.Test.YtkjlafpafmihaaaGb06670d46fbe
import Derived.Test.YtkjlafpafmihaaaGb705d1f06a25
import Derived.Test.YtkjlafpafmihaaaGc78e27da6ed6
import Derived.Test.YtkjlafpafmihaaaGf3cc171333c0
import Derived.Test.YtkjlafpafmihaaaGfed51b8f206e
set_option linter.unusedVariables false
set_option linter.unusedSimpArgs false

namespace Go.Proofs.Ytkjlafpafmihaaa
open Go.ChangeShapes Go.WideShapes Go.RowKit

section
variable {b : Brt} {hv : Int}
theorem caught_leav (h : ¬ leavM b hv = 0) : caughtM b hv = (zeroB, leavM b hv) := by
  unfold leavM at h ⊢
  unfold caughtM
  split
  · rfl
  · rename_i h1
    rw [if_neg h1] at h
    split
    · rfl
    · rename_i h2
      rw [if_neg h2] at h
      split
      · rfl
      · rename_i h3
        rw [if_neg h3] at h
        exact absurd rfl h
end

end Go.Proofs.Ytkjlafpafmihaaa

namespace Go.Proofs.Ytkjlafpafmihaaa
open Go.ChangeShapes Go.WideShapes Go.RowKit

set_option maxRecDepth 100000 in
set_option maxHeartbeats 1000000 in
theorem Caught_calls (ro ep fr tg rd : Int) (A : Option Addr) (c : Nat) (l : List Ev) (hv : Int) (w : World) (h : Rd w w.heap.size 6 A l.length (evCells l)) (hb : l.length * 48 ≤ reachBytes) :
    Calls Try.prog 92 #[.agg #[.int .i64 ro, .int .i64 ep, .int .i64 fr, .int .i64 tg, .int .i64 rd, .slice A l.length c], .int .i64 hv] w (BrtPost w (caughtM ⟨ro, ep, fr, tg, rd, l⟩ hv)) := by
 have S := (St.start w).addRd h; clear h
 have hb2 := hb
 unfold reachBytes at hb2
 refine calls_of_wC (N := 55) (vs := [.agg #[.int .i64 ro, .int .i64 ep, .int .i64 fr, .int .i64 tg, .int .i64 rd, .slice A l.length c], .int .i64 hv]) Try.func92 rfl rfl rfl ?_
 refine wC_sub (l' := [(0, .agg #[.int .i64 ro, .int .i64 ep, .int .i64 fr, .int .i64 tg, .int .i64 rd, .slice A l.length c]), (1, .int .i64 hv)]) ⟨rfl, rfl, trivial⟩ (wC_seq (wC_region (wL_new (V := fun b => .pointer (some ⟨b, 0, none⟩)) (row := #[.int .i64 ro, .int .i64 ep, .int .i64 fr, .int .i64 tg, .int .i64 rd, .slice A l.length c]) (t := 108) S (wn rfl) rfl rfl (d_box rfl rfl rfl) ?_))); intro b1 w2 S3; clear S
 refine wL_new (V := fun b => .pointer (some ⟨b, 0, none⟩)) (row := #[.int .i64 0, .int .i64 0, .int .i64 0, .int .i64 0, .int .i64 0, .slice none 0 0]) (t := 108) S3 (wn rfl) rfl rfl (d_alloc rfl (Try.zeroValue108 _) rfl) ?_; intro b4 w5 S6; clear S3
 refine wL_val (wn rfl) rfl rfl (y_assign rfl rfl) ?_
 refine wL_nil (wQ_sub (l' := [(1, _), (2, _), (4, _), (5, _)]) ⟨rfl, rfl, rfl, rfl, trivial⟩ (wQ_then (wC_seq (wC_seq (wC_region (wL_val (wn rfl) rfl rfl (y_load rfl rfl (r_load_row 1 S6 rfl Try.underlying108 rfl inf108 rfl)) ?_))))))
 refine wL_call (vs := [.agg #[.int .i64 ro, .int .i64 ep, .int .i64 fr, .int .i64 tg, .int .i64 rd, .slice A l.length c]]) (wn rfl) rfl rfl (e_call (vs := [.agg #[.int .i64 ro, .int .i64 ep, .int .i64 fr, .int .i64 tg, .int .i64 rd, .slice A l.length c]]) rfl en76 ⟨rfl, trivial⟩) (BCheck_calls ro ep fr tg rd A c l _ (St.rd 2 S6 rfl) (by omega)) ?_
 rintro _ w7 ⟨rfl, hb9⟩
 refine ⟨_, rfl, ?_⟩
 have S8 := S6.on hb9; clear hb9 S6
 refine wL_val (wn rfl) rfl rfl (y_assign rfl rfl) ?_
 refine wL_nil (wQ_sub (l' := [(1, _), (2, _), (4, _), (5, _), (6, _)]) ⟨rfl, rfl, rfl, rfl, rfl, trivial⟩ (wQ_then (wC_seq (wC_region (wL_val (wn rfl) rfl rfl (y_move rfl rfl) ?_)))))
 by_cases h10 : brtFault ⟨ro, ep, fr, tg, rd, l⟩ = 0
 ·have hsh := (bf_zero h10).1
  unfold shapeB at hsh
  have hln := tellM_len (bf_zero h10).2
  dsimp only at hsh hln
  refine wL_val (v := .bool false) (wn rfl) rfl rfl (y_binop rfl rfl rfl (r_neq_f h10)) ?_
  refine wL_nil (wQ_sub (l' := [(1, _), (2, _), (4, _), (5, _), (6, _), (10, _)]) ⟨rfl, rfl, rfl, rfl, rfl, rfl, trivial⟩ (wQ_then (wC_cond_f rfl (wC_skip (wQ_then (wC_seq (wC_seq (wC_region (wL_val (v := .pointer (some ⟨b1, 0, none⟩)) (wn rfl) rfl rfl (y_fieldAddr rfl rfl (fa108_0 _ _ _)) ?_)))))))))
  refine wL_val (wn rfl) rfl rfl (y_load rfl rfl (r_load Try.underlying3 rfl (St.cl 1 S8 rfl rfl))) ?_
  by_cases h11 : ro = 2
  ·refine wL_val (v := .bool false) (wn rfl) rfl rfl (y_binop rfl rfl rfl (r_neq_f h11)) ?_
   refine wL_val (wn rfl) rfl rfl (y_move rfl rfl) ?_
   refine wL_skip (wg rfl rfl rfl rfl) rfl rfl ?_
   refine wL_skip (wg rfl rfl rfl rfl) rfl rfl ?_
   refine wL_skip (wg rfl rfl rfl rfl) rfl rfl ?_
   refine wL_val (wn rfl) rfl rfl (y_pick_f rfl rfl rfl) ?_
   refine wL_nil (wQ_sub (l' := [(1, _), (2, _), (4, _), (5, _), (20, _)]) ⟨rfl, rfl, rfl, rfl, rfl, trivial⟩ (wQ_then (wC_cond_f rfl (wC_skip (wQ_then (wC_seq (wC_seq (wC_region (wL_val (wn rfl) rfl rfl (y_move rfl rfl) ?_)))))))))
   by_cases h12 : hv < 0
   ·refine wL_val (v := .bool true) (wn rfl) rfl rfl (y_binop rfl rfl rfl (r_lss_t h12)) ?_
    refine wL_val (wn rfl) rfl rfl (y_move rfl rfl) ?_
    refine wL_skip (wg rfl rfl rfl rfl) rfl rfl ?_
    refine wL_skip (wg rfl rfl rfl rfl) rfl rfl ?_
    refine wL_skip (wg rfl rfl rfl rfl) rfl rfl ?_
    refine wL_skip (wg rfl rfl rfl rfl) rfl rfl ?_
    refine wL_skip (wg rfl rfl rfl rfl) rfl rfl ?_
    refine wL_val (wn rfl) rfl rfl (y_pick_t rfl rfl rfl) ?_
    refine wL_nil (wQ_sub (l' := [(1, _), (2, _), (4, _), (5, _), (30, _)]) ⟨rfl, rfl, rfl, rfl, rfl, trivial⟩ (wQ_then (wC_cond_t rfl (wC_seq (wC_region (wL_val (v := .agg #[.int .i64 0, .int .i64 0, .int .i64 0, .int .i64 0, .int .i64 0, .slice none 0 0]) (wn rfl) rfl rfl (y_build (vs := []) rfl trivial (by kernel_rfl)) ?_))))))
    refine wL_st (fs' := [_, _, _]) 0 S8 (wn rfl) rfl rfl rfl rfl rfl rfl inf108 rfl (oneAll rfl) (Nat.le_of_ble_eq_true rfl) (setAll_all rfl) rfl ?_; intro w13 S14; clear S8
    refine wL_val (wn rfl) rfl rfl (y_assign rfl rfl) ?_
    refine wL_nil (wQ_sub (l' := [(4, _), (5, _)]) ⟨rfl, rfl, trivial⟩ (wQ_then (wC_ret (wQ_then_ret (wQ_post (rs := [.cell 4 108, .tmp 5]) (vs := [.agg #[.int .i64 0, .int .i64 0, .int .i64 0, .int .i64 0, .int .i64 0, .slice none 0 0], .int .i64 2]) rfl ⟨⟨_, rfl, res_row 0 S14 rfl Try.underlying108 rfl inf108⟩, rfl, trivial⟩ ?_)))))
    have S15 : St w.heap.size w w13 [] := (St.del 0 (St.del 1 (St.del 2 S14))); clear S14
    rw [show caughtM ⟨ro, ep, fr, tg, rd, l⟩ hv = (⟨0, 0, 0, 0, 0, []⟩, 2) from by unfold caughtM; (try dsimp only); (repeat' (first | rfl | omega | split)) <;> (simp only [Prod.mk.injEq, Brt.mk.injEq, and_true, true_and, and_self]; omega)]
    exact ⟨none, 0, rfl, rdo_nil S15⟩
   ·refine wL_val (v := .bool false) (wn rfl) rfl rfl (y_binop rfl rfl rfl (r_lss_f h12)) ?_
    refine wL_val (wn rfl) rfl rfl (y_move rfl rfl) ?_
    refine wL_val (wg rfl rfl rfl rfl) rfl rfl (y_move rfl rfl) ?_
    refine wL_val (v := .pointer (some ⟨b1, 5, none⟩)) (wg rfl rfl rfl rfl) rfl rfl (y_fieldAddr rfl rfl (fa108_5 _ _ _)) ?_
    refine wL_val (wg rfl rfl rfl rfl) rfl rfl (y_load rfl rfl (r_load Try.underlying57 rfl (St.cl 1 S8 rfl rfl))) ?_
    refine wL_val (v := .int .i64 ((l.length : Nat) : Int)) (wg rfl rfl rfl rfl) rfl rfl (y_builtin (vs := [.slice A l.length c]) rfl ⟨rfl, trivial⟩ fun _ => r_len rfl Try.underlying57) ?_
    by_cases h16 : ((l.length : Nat) : Int) < hv
    ·refine wL_val (v := .bool true) (wg rfl rfl rfl rfl) rfl rfl (y_binop rfl rfl rfl (r_gtr_t h16)) ?_
     refine wL_val (wn rfl) rfl rfl (y_pick_f rfl rfl rfl) ?_
     refine wL_nil (wQ_sub (l' := [(1, _), (2, _), (4, _), (5, _), (30, _)]) ⟨rfl, rfl, rfl, rfl, rfl, trivial⟩ (wQ_then (wC_cond_t rfl (wC_seq (wC_region (wL_val (v := .agg #[.int .i64 0, .int .i64 0, .int .i64 0, .int .i64 0, .int .i64 0, .slice none 0 0]) (wn rfl) rfl rfl (y_build (vs := []) rfl trivial (by kernel_rfl)) ?_))))))
     refine wL_st (fs' := [_, _, _]) 0 S8 (wn rfl) rfl rfl rfl rfl rfl rfl inf108 rfl (oneAll rfl) (Nat.le_of_ble_eq_true rfl) (setAll_all rfl) rfl ?_; intro w17 S18; clear S8
     refine wL_val (wn rfl) rfl rfl (y_assign rfl rfl) ?_
     refine wL_nil (wQ_sub (l' := [(4, _), (5, _)]) ⟨rfl, rfl, trivial⟩ (wQ_then (wC_ret (wQ_then_ret (wQ_post (rs := [.cell 4 108, .tmp 5]) (vs := [.agg #[.int .i64 0, .int .i64 0, .int .i64 0, .int .i64 0, .int .i64 0, .slice none 0 0], .int .i64 2]) rfl ⟨⟨_, rfl, res_row 0 S18 rfl Try.underlying108 rfl inf108⟩, rfl, trivial⟩ ?_)))))
     have S19 : St w.heap.size w w17 [] := (St.del 0 (St.del 1 (St.del 2 S18))); clear S18
     rw [show caughtM ⟨ro, ep, fr, tg, rd, l⟩ hv = (⟨0, 0, 0, 0, 0, []⟩, 2) from by unfold caughtM; (try dsimp only); (repeat' (first | rfl | omega | split)) <;> (simp only [Prod.mk.injEq, Brt.mk.injEq, and_true, true_and, and_self]; omega)]
     exact ⟨none, 0, rfl, rdo_nil S19⟩
    ·refine wL_val (v := .bool false) (wg rfl rfl rfl rfl) rfl rfl (y_binop rfl rfl rfl (r_gtr_f h16)) ?_
     refine wL_val (wn rfl) rfl rfl (y_pick_f rfl rfl rfl) ?_
     refine wL_nil (wQ_sub (l' := [(1, _), (2, _), (4, _), (5, _), (30, _)]) ⟨rfl, rfl, rfl, rfl, rfl, trivial⟩ (wQ_then (wC_cond_f rfl (wC_skip (wQ_then (wC_seq (wC_block (wC_seq (wC_region (wL_val (v := .pointer (some ⟨b1, 0, none⟩)) (wn rfl) rfl rfl (y_fieldAddr rfl rfl (fa108_0 _ _ _)) ?_))))))))))
     refine wL_val (wn rfl) rfl rfl (y_load rfl rfl (r_load Try.underlying3 rfl (St.cl 1 S8 rfl rfl))) ?_
     refine wL_val (v := .bool false) (wn rfl) rfl rfl (y_binop rfl rfl rfl (r_eql_f (by omega))) ?_
     refine wL_val (wn rfl) rfl rfl (y_assign rfl rfl) ?_
     refine wL_nil (wQ_sub (l' := [(1, _), (2, _), (4, _), (5, _), (36, _)]) ⟨rfl, rfl, rfl, rfl, rfl, trivial⟩ (wQ_then (wC_cond_f rfl (wC_seq (wC_region (wL_val (wn rfl) rfl rfl (y_move rfl rfl) ?_))))))
     refine wL_val (v := .pointer (some ⟨b1, 5, none⟩)) (wn rfl) rfl rfl (y_fieldAddr rfl rfl (fa108_5 _ _ _)) ?_
     refine wL_val (wn rfl) rfl rfl (y_load rfl rfl (r_load Try.underlying57 rfl (St.cl 1 S8 rfl rfl))) ?_
     refine wL_val (v := .int .i64 ((l.length : Nat) : Int)) (wn rfl) rfl rfl (y_builtin (vs := [.slice A l.length c]) rfl ⟨rfl, trivial⟩ fun _ => r_len rfl Try.underlying57) ?_
     by_cases h20 : hv = ((l.length : Nat) : Int)
     ·refine wL_val (v := .bool true) (wn rfl) rfl rfl (y_binop rfl rfl rfl (r_eql_t h20)) ?_
      refine wL_val (wn rfl) rfl rfl (y_move rfl rfl) ?_
      refine wL_skip (wg rfl rfl rfl rfl) rfl rfl ?_
      refine wL_skip (wg rfl rfl rfl rfl) rfl rfl ?_
      refine wL_skip (wg rfl rfl rfl rfl) rfl rfl ?_
      refine wL_val (wn rfl) rfl rfl (y_pick_t rfl rfl rfl) ?_
      refine wL_val (wn rfl) rfl rfl (y_assign rfl rfl) ?_
      refine wL_nil (wQ_sub (l' := [(2, _), (4, _), (5, _), (40, _)]) ⟨rfl, rfl, rfl, rfl, trivial⟩ (wQ_then (wC_cond_t rfl (wC_region (wL_val (v := .pointer (some ⟨b1, 0, none⟩)) (wn rfl) rfl rfl (y_fieldAddr rfl rfl (fa108_0 _ _ _)) ?_)))))
      refine wL_st (cs := #[.int .i64 3]) (row' := #[.int .i64 3, .int .i64 ep, .int .i64 fr, .int .i64 tg, .int .i64 rd, .slice A l.length c]) (fs' := [_, .blk b1 #[.int .i64 3, .int .i64 ep, .int .i64 fr, .int .i64 tg, .int .i64 rd, .slice A l.length c] 108, _]) 1 S8 (wn rfl) rfl rfl rfl rfl rfl rfl inf3 rfl (oneAll rfl) (Nat.le_of_ble_eq_true rfl) rfl rfl ?_; intro w21 S22; clear S8
      refine wL_val (v := .pointer (some ⟨b1, 4, none⟩)) (wn rfl) rfl rfl (y_fieldAddr rfl rfl (fa108_4 _ _ _)) ?_
      refine wL_st (cs := #[.int .i64 0]) (row' := #[.int .i64 3, .int .i64 ep, .int .i64 fr, .int .i64 tg, .int .i64 0, .slice A l.length c]) (fs' := [_, .blk b1 #[.int .i64 3, .int .i64 ep, .int .i64 fr, .int .i64 tg, .int .i64 0, .slice A l.length c] 108, _]) 1 S22 (wn rfl) rfl rfl rfl rfl rfl rfl inf3 rfl (oneAll rfl) (Nat.le_of_ble_eq_true rfl) rfl rfl ?_; intro w23 S24; clear S22
      refine wL_nil (wQ_sub (l' := [(2, _), (4, _), (5, _)]) ⟨rfl, rfl, rfl, trivial⟩ (wQ_blk_n (wQ_then (wC_seq (wC_region (wL_val (wn rfl) rfl rfl (y_load rfl rfl (r_load_row 1 S24 rfl Try.underlying108 rfl inf108 rfl)) ?_))))))
      refine wL_call (vs := [.agg #[.int .i64 3, .int .i64 ep, .int .i64 fr, .int .i64 tg, .int .i64 0, .slice A l.length c], .slice none 0 0]) (wn rfl) rfl rfl (e_call (vs := [.agg #[.int .i64 3, .int .i64 ep, .int .i64 fr, .int .i64 tg, .int .i64 0, .slice A l.length c], .slice none 0 0]) rfl en160 ⟨rfl, rfl, trivial⟩) (with0_calls 3 ep fr tg 0 A c l _ (St.rd 2 S24 rfl) hb) ?_
      rintro _ w27 ⟨A25, c26, rfl, T29⟩
      refine ⟨_, rfl, ?_⟩
      have S28 := S24.ext T29 rfl; clear T29 S24
      change St _ _ _ [.own 37 6 (.slice A25 l.length c26) l.length ((l).flatMap Ev.cells), _, _, _] at S28
      refine wL_st (fs' := [_, _, _, _]) 1 S28 (wn rfl) rfl rfl rfl rfl rfl rfl inf108 rfl (oneAll rfl) (Nat.le_of_ble_eq_true rfl) (setAll_all rfl) rfl ?_; intro w30 S31; clear S28
      refine wL_val (wn rfl) rfl rfl (y_assign rfl rfl) ?_
      refine wL_nil (wQ_sub (l' := [(4, _), (5, _)]) ⟨rfl, rfl, trivial⟩ (wQ_then (wC_ret (wQ_post (rs := [.cell 4 108, .tmp 5]) (vs := [.agg #[.int .i64 3, .int .i64 ep, .int .i64 fr, .int .i64 tg, .int .i64 0, .slice A25 l.length c26], .int .i64 0]) rfl ⟨⟨_, rfl, res_row 1 S31 rfl Try.underlying108 rfl inf108⟩, rfl, trivial⟩ ?_))))
      have S32 : St w.heap.size w w30 [_] := (St.del 1 (St.del 2 (St.del 3 S31))); clear S31
      have S33 := S32.sealAll 0 rfl; clear S32
      change St _ _ _ [.rdo 6 A25 l.length ((l).flatMap Ev.cells)] at S33
      rw [show caughtM ⟨ro, ep, fr, tg, rd, l⟩ hv = (⟨3, ep, fr, tg, 0, l⟩, 0) from by unfold caughtM; (try dsimp only); (repeat' (first | rfl | omega | split)) <;> (simp only [Prod.mk.injEq, Brt.mk.injEq, and_true, true_and, and_self]; omega)]
      exact ⟨A25, c26, rfl, S33⟩
     ·refine wL_val (v := .bool false) (wn rfl) rfl rfl (y_binop rfl rfl rfl (r_eql_f h20)) ?_
      refine wL_val (wn rfl) rfl rfl (y_move rfl rfl) ?_
      refine wL_val (v := .pointer (some ⟨b1, 4, none⟩)) (wg rfl rfl rfl rfl) rfl rfl (y_fieldAddr rfl rfl (fa108_4 _ _ _)) ?_
      refine wL_val (wg rfl rfl rfl rfl) rfl rfl (y_load rfl rfl (r_load Try.underlying3 rfl (St.cl 1 S8 rfl rfl))) ?_
      by_cases h34 : rd = 4
      ·refine wL_val (v := .bool true) (wg rfl rfl rfl rfl) rfl rfl (y_binop rfl rfl rfl (r_eql_t h34)) ?_
       refine wL_val (wn rfl) rfl rfl (y_pick_f rfl rfl rfl) ?_
       refine wL_val (wn rfl) rfl rfl (y_assign rfl rfl) ?_
       refine wL_nil (wQ_sub (l' := [(2, _), (4, _), (5, _), (40, _)]) ⟨rfl, rfl, rfl, rfl, trivial⟩ (wQ_then (wC_cond_t rfl (wC_region (wL_val (v := .pointer (some ⟨b1, 0, none⟩)) (wn rfl) rfl rfl (y_fieldAddr rfl rfl (fa108_0 _ _ _)) ?_)))))
       refine wL_st (cs := #[.int .i64 3]) (row' := #[.int .i64 3, .int .i64 ep, .int .i64 fr, .int .i64 tg, .int .i64 rd, .slice A l.length c]) (fs' := [_, .blk b1 #[.int .i64 3, .int .i64 ep, .int .i64 fr, .int .i64 tg, .int .i64 rd, .slice A l.length c] 108, _]) 1 S8 (wn rfl) rfl rfl rfl rfl rfl rfl inf3 rfl (oneAll rfl) (Nat.le_of_ble_eq_true rfl) rfl rfl ?_; intro w35 S36; clear S8
       refine wL_val (v := .pointer (some ⟨b1, 4, none⟩)) (wn rfl) rfl rfl (y_fieldAddr rfl rfl (fa108_4 _ _ _)) ?_
       refine wL_st (cs := #[.int .i64 0]) (row' := #[.int .i64 3, .int .i64 ep, .int .i64 fr, .int .i64 tg, .int .i64 0, .slice A l.length c]) (fs' := [_, .blk b1 #[.int .i64 3, .int .i64 ep, .int .i64 fr, .int .i64 tg, .int .i64 0, .slice A l.length c] 108, _]) 1 S36 (wn rfl) rfl rfl rfl rfl rfl rfl inf3 rfl (oneAll rfl) (Nat.le_of_ble_eq_true rfl) rfl rfl ?_; intro w37 S38; clear S36
       refine wL_nil (wQ_sub (l' := [(2, _), (4, _), (5, _)]) ⟨rfl, rfl, rfl, trivial⟩ (wQ_blk_n (wQ_then (wC_seq (wC_region (wL_val (wn rfl) rfl rfl (y_load rfl rfl (r_load_row 1 S38 rfl Try.underlying108 rfl inf108 rfl)) ?_))))))
       refine wL_call (vs := [.agg #[.int .i64 3, .int .i64 ep, .int .i64 fr, .int .i64 tg, .int .i64 0, .slice A l.length c], .slice none 0 0]) (wn rfl) rfl rfl (e_call (vs := [.agg #[.int .i64 3, .int .i64 ep, .int .i64 fr, .int .i64 tg, .int .i64 0, .slice A l.length c], .slice none 0 0]) rfl en160 ⟨rfl, rfl, trivial⟩) (with0_calls 3 ep fr tg 0 A c l _ (St.rd 2 S38 rfl) hb) ?_
       rintro _ w41 ⟨A39, c40, rfl, T43⟩
       refine ⟨_, rfl, ?_⟩
       have S42 := S38.ext T43 rfl; clear T43 S38
       change St _ _ _ [.own 37 6 (.slice A39 l.length c40) l.length ((l).flatMap Ev.cells), _, _, _] at S42
       refine wL_st (fs' := [_, _, _, _]) 1 S42 (wn rfl) rfl rfl rfl rfl rfl rfl inf108 rfl (oneAll rfl) (Nat.le_of_ble_eq_true rfl) (setAll_all rfl) rfl ?_; intro w44 S45; clear S42
       refine wL_val (wn rfl) rfl rfl (y_assign rfl rfl) ?_
       refine wL_nil (wQ_sub (l' := [(4, _), (5, _)]) ⟨rfl, rfl, trivial⟩ (wQ_then (wC_ret (wQ_post (rs := [.cell 4 108, .tmp 5]) (vs := [.agg #[.int .i64 3, .int .i64 ep, .int .i64 fr, .int .i64 tg, .int .i64 0, .slice A39 l.length c40], .int .i64 0]) rfl ⟨⟨_, rfl, res_row 1 S45 rfl Try.underlying108 rfl inf108⟩, rfl, trivial⟩ ?_))))
       have S46 : St w.heap.size w w44 [_] := (St.del 1 (St.del 2 (St.del 3 S45))); clear S45
       have S47 := S46.sealAll 0 rfl; clear S46
       change St _ _ _ [.rdo 6 A39 l.length ((l).flatMap Ev.cells)] at S47
       rw [show caughtM ⟨ro, ep, fr, tg, rd, l⟩ hv = (⟨3, ep, fr, tg, 0, l⟩, 0) from by unfold caughtM; (try dsimp only); (repeat' (first | rfl | omega | split)) <;> (simp only [Prod.mk.injEq, Brt.mk.injEq, and_true, true_and, and_self]; omega)]
       exact ⟨A39, c40, rfl, S47⟩
      ·refine wL_val (v := .bool false) (wg rfl rfl rfl rfl) rfl rfl (y_binop rfl rfl rfl (r_eql_f h34)) ?_
       refine wL_val (wn rfl) rfl rfl (y_pick_f rfl rfl rfl) ?_
       refine wL_val (wn rfl) rfl rfl (y_assign rfl rfl) ?_
       refine wL_nil (wQ_sub (l' := [(2, _), (4, _), (5, _), (40, _)]) ⟨rfl, rfl, rfl, rfl, trivial⟩ (wQ_then (wC_cond_f rfl (wC_region (wL_val (v := .pointer (some ⟨b1, 4, none⟩)) (wn rfl) rfl rfl (y_fieldAddr rfl rfl (fa108_4 _ _ _)) ?_)))))
       refine wL_val (wn rfl) rfl rfl (y_load rfl rfl (r_load Try.underlying3 rfl (St.cl 1 S8 rfl rfl))) ?_
       refine wL_val (v := .int .i64 (rd + 1)) (wn rfl) rfl rfl (y_binop rfl rfl rfl (r_add (by omega) (by omega))) ?_
       refine wL_val (v := .pointer (some ⟨b1, 4, none⟩)) (wn rfl) rfl rfl (y_fieldAddr rfl rfl (fa108_4 _ _ _)) ?_
       refine wL_st (cs := #[.int .i64 (rd + 1)]) (row' := #[.int .i64 ro, .int .i64 ep, .int .i64 fr, .int .i64 tg, .int .i64 (rd + 1), .slice A l.length c]) (fs' := [_, .blk b1 #[.int .i64 ro, .int .i64 ep, .int .i64 fr, .int .i64 tg, .int .i64 (rd + 1), .slice A l.length c] 108, _]) 1 S8 (wn rfl) rfl rfl rfl rfl rfl rfl inf3 rfl (oneAll rfl) (Nat.le_of_ble_eq_true rfl) rfl rfl ?_; intro w48 S49; clear S8
       refine wL_nil (wQ_sub (l' := [(2, _), (4, _), (5, _)]) ⟨rfl, rfl, rfl, trivial⟩ (wQ_blk_n (wQ_then (wC_seq (wC_region (wL_val (wn rfl) rfl rfl (y_load rfl rfl (r_load_row 1 S49 rfl Try.underlying108 rfl inf108 rfl)) ?_))))))
       refine wL_call (vs := [.agg #[.int .i64 ro, .int .i64 ep, .int .i64 fr, .int .i64 tg, .int .i64 (rd + 1), .slice A l.length c], .slice none 0 0]) (wn rfl) rfl rfl (e_call (vs := [.agg #[.int .i64 ro, .int .i64 ep, .int .i64 fr, .int .i64 tg, .int .i64 (rd + 1), .slice A l.length c], .slice none 0 0]) rfl en160 ⟨rfl, rfl, trivial⟩) (with0_calls ro ep fr tg (rd + 1) A c l _ (St.rd 2 S49 rfl) hb) ?_
       rintro _ w52 ⟨A50, c51, rfl, T54⟩
       refine ⟨_, rfl, ?_⟩
       have S53 := S49.ext T54 rfl; clear T54 S49
       change St _ _ _ [.own 37 6 (.slice A50 l.length c51) l.length ((l).flatMap Ev.cells), _, _, _] at S53
       refine wL_st (fs' := [_, _, _, _]) 1 S53 (wn rfl) rfl rfl rfl rfl rfl rfl inf108 rfl (oneAll rfl) (Nat.le_of_ble_eq_true rfl) (setAll_all rfl) rfl ?_; intro w55 S56; clear S53
       refine wL_val (wn rfl) rfl rfl (y_assign rfl rfl) ?_
       refine wL_nil (wQ_sub (l' := [(4, _), (5, _)]) ⟨rfl, rfl, trivial⟩ (wQ_then (wC_ret (wQ_post (rs := [.cell 4 108, .tmp 5]) (vs := [.agg #[.int .i64 ro, .int .i64 ep, .int .i64 fr, .int .i64 tg, .int .i64 (rd + 1), .slice A50 l.length c51], .int .i64 0]) rfl ⟨⟨_, rfl, res_row 1 S56 rfl Try.underlying108 rfl inf108⟩, rfl, trivial⟩ ?_))))
       have S57 : St w.heap.size w w55 [_] := (St.del 1 (St.del 2 (St.del 3 S56))); clear S56
       have S58 := S57.sealAll 0 rfl; clear S57
       change St _ _ _ [.rdo 6 A50 l.length ((l).flatMap Ev.cells)] at S58
       rw [show caughtM ⟨ro, ep, fr, tg, rd, l⟩ hv = (⟨ro, ep, fr, tg, rd + 1, l⟩, 0) from by unfold caughtM; (try dsimp only); (repeat' (first | rfl | omega | split)) <;> (simp only [Prod.mk.injEq, Brt.mk.injEq, and_true, true_and, and_self]; omega)]
       exact ⟨A50, c51, rfl, S58⟩
  ·refine wL_val (v := .bool true) (wn rfl) rfl rfl (y_binop rfl rfl rfl (r_neq_t h11)) ?_
   refine wL_val (wn rfl) rfl rfl (y_move rfl rfl) ?_
   refine wL_val (v := .pointer (some ⟨b1, 0, none⟩)) (wg rfl rfl rfl rfl) rfl rfl (y_fieldAddr rfl rfl (fa108_0 _ _ _)) ?_
   refine wL_val (wg rfl rfl rfl rfl) rfl rfl (y_load rfl rfl (r_load Try.underlying3 rfl (St.cl 1 S8 rfl rfl))) ?_
   by_cases h59 : ro = 3
   ·refine wL_val (v := .bool false) (wg rfl rfl rfl rfl) rfl rfl (y_binop rfl rfl rfl (r_neq_f h59)) ?_
    refine wL_val (wn rfl) rfl rfl (y_pick_t rfl rfl rfl) ?_
    refine wL_nil (wQ_sub (l' := [(1, _), (2, _), (4, _), (5, _), (20, _)]) ⟨rfl, rfl, rfl, rfl, rfl, trivial⟩ (wQ_then (wC_cond_f rfl (wC_skip (wQ_then (wC_seq (wC_seq (wC_region (wL_val (wn rfl) rfl rfl (y_move rfl rfl) ?_)))))))))
    by_cases h60 : hv < 0
    ·refine wL_val (v := .bool true) (wn rfl) rfl rfl (y_binop rfl rfl rfl (r_lss_t h60)) ?_
     refine wL_val (wn rfl) rfl rfl (y_move rfl rfl) ?_
     refine wL_skip (wg rfl rfl rfl rfl) rfl rfl ?_
     refine wL_skip (wg rfl rfl rfl rfl) rfl rfl ?_
     refine wL_skip (wg rfl rfl rfl rfl) rfl rfl ?_
     refine wL_skip (wg rfl rfl rfl rfl) rfl rfl ?_
     refine wL_skip (wg rfl rfl rfl rfl) rfl rfl ?_
     refine wL_val (wn rfl) rfl rfl (y_pick_t rfl rfl rfl) ?_
     refine wL_nil (wQ_sub (l' := [(1, _), (2, _), (4, _), (5, _), (30, _)]) ⟨rfl, rfl, rfl, rfl, rfl, trivial⟩ (wQ_then (wC_cond_t rfl (wC_seq (wC_region (wL_val (v := .agg #[.int .i64 0, .int .i64 0, .int .i64 0, .int .i64 0, .int .i64 0, .slice none 0 0]) (wn rfl) rfl rfl (y_build (vs := []) rfl trivial (by kernel_rfl)) ?_))))))
     refine wL_st (fs' := [_, _, _]) 0 S8 (wn rfl) rfl rfl rfl rfl rfl rfl inf108 rfl (oneAll rfl) (Nat.le_of_ble_eq_true rfl) (setAll_all rfl) rfl ?_; intro w61 S62; clear S8
     refine wL_val (wn rfl) rfl rfl (y_assign rfl rfl) ?_
     refine wL_nil (wQ_sub (l' := [(4, _), (5, _)]) ⟨rfl, rfl, trivial⟩ (wQ_then (wC_ret (wQ_then_ret (wQ_post (rs := [.cell 4 108, .tmp 5]) (vs := [.agg #[.int .i64 0, .int .i64 0, .int .i64 0, .int .i64 0, .int .i64 0, .slice none 0 0], .int .i64 2]) rfl ⟨⟨_, rfl, res_row 0 S62 rfl Try.underlying108 rfl inf108⟩, rfl, trivial⟩ ?_)))))
     have S63 : St w.heap.size w w61 [] := (St.del 0 (St.del 1 (St.del 2 S62))); clear S62
     rw [show caughtM ⟨ro, ep, fr, tg, rd, l⟩ hv = (⟨0, 0, 0, 0, 0, []⟩, 2) from by unfold caughtM; (try dsimp only); (repeat' (first | rfl | omega | split)) <;> (simp only [Prod.mk.injEq, Brt.mk.injEq, and_true, true_and, and_self]; omega)]
     exact ⟨none, 0, rfl, rdo_nil S63⟩
    ·refine wL_val (v := .bool false) (wn rfl) rfl rfl (y_binop rfl rfl rfl (r_lss_f h60)) ?_
     refine wL_val (wn rfl) rfl rfl (y_move rfl rfl) ?_
     refine wL_val (wg rfl rfl rfl rfl) rfl rfl (y_move rfl rfl) ?_
     refine wL_val (v := .pointer (some ⟨b1, 5, none⟩)) (wg rfl rfl rfl rfl) rfl rfl (y_fieldAddr rfl rfl (fa108_5 _ _ _)) ?_
     refine wL_val (wg rfl rfl rfl rfl) rfl rfl (y_load rfl rfl (r_load Try.underlying57 rfl (St.cl 1 S8 rfl rfl))) ?_
     refine wL_val (v := .int .i64 ((l.length : Nat) : Int)) (wg rfl rfl rfl rfl) rfl rfl (y_builtin (vs := [.slice A l.length c]) rfl ⟨rfl, trivial⟩ fun _ => r_len rfl Try.underlying57) ?_
     by_cases h64 : ((l.length : Nat) : Int) < hv
     ·refine wL_val (v := .bool true) (wg rfl rfl rfl rfl) rfl rfl (y_binop rfl rfl rfl (r_gtr_t h64)) ?_
      refine wL_val (wn rfl) rfl rfl (y_pick_f rfl rfl rfl) ?_
      refine wL_nil (wQ_sub (l' := [(1, _), (2, _), (4, _), (5, _), (30, _)]) ⟨rfl, rfl, rfl, rfl, rfl, trivial⟩ (wQ_then (wC_cond_t rfl (wC_seq (wC_region (wL_val (v := .agg #[.int .i64 0, .int .i64 0, .int .i64 0, .int .i64 0, .int .i64 0, .slice none 0 0]) (wn rfl) rfl rfl (y_build (vs := []) rfl trivial (by kernel_rfl)) ?_))))))
      refine wL_st (fs' := [_, _, _]) 0 S8 (wn rfl) rfl rfl rfl rfl rfl rfl inf108 rfl (oneAll rfl) (Nat.le_of_ble_eq_true rfl) (setAll_all rfl) rfl ?_; intro w65 S66; clear S8
      refine wL_val (wn rfl) rfl rfl (y_assign rfl rfl) ?_
      refine wL_nil (wQ_sub (l' := [(4, _), (5, _)]) ⟨rfl, rfl, trivial⟩ (wQ_then (wC_ret (wQ_then_ret (wQ_post (rs := [.cell 4 108, .tmp 5]) (vs := [.agg #[.int .i64 0, .int .i64 0, .int .i64 0, .int .i64 0, .int .i64 0, .slice none 0 0], .int .i64 2]) rfl ⟨⟨_, rfl, res_row 0 S66 rfl Try.underlying108 rfl inf108⟩, rfl, trivial⟩ ?_)))))
      have S67 : St w.heap.size w w65 [] := (St.del 0 (St.del 1 (St.del 2 S66))); clear S66
      rw [show caughtM ⟨ro, ep, fr, tg, rd, l⟩ hv = (⟨0, 0, 0, 0, 0, []⟩, 2) from by unfold caughtM; (try dsimp only); (repeat' (first | rfl | omega | split)) <;> (simp only [Prod.mk.injEq, Brt.mk.injEq, and_true, true_and, and_self]; omega)]
      exact ⟨none, 0, rfl, rdo_nil S67⟩
     ·refine wL_val (v := .bool false) (wg rfl rfl rfl rfl) rfl rfl (y_binop rfl rfl rfl (r_gtr_f h64)) ?_
      refine wL_val (wn rfl) rfl rfl (y_pick_f rfl rfl rfl) ?_
      refine wL_nil (wQ_sub (l' := [(1, _), (2, _), (4, _), (5, _), (30, _)]) ⟨rfl, rfl, rfl, rfl, rfl, trivial⟩ (wQ_then (wC_cond_f rfl (wC_skip (wQ_then (wC_seq (wC_block (wC_seq (wC_region (wL_val (v := .pointer (some ⟨b1, 0, none⟩)) (wn rfl) rfl rfl (y_fieldAddr rfl rfl (fa108_0 _ _ _)) ?_))))))))))
      refine wL_val (wn rfl) rfl rfl (y_load rfl rfl (r_load Try.underlying3 rfl (St.cl 1 S8 rfl rfl))) ?_
      refine wL_val (v := .bool true) (wn rfl) rfl rfl (y_binop rfl rfl rfl (r_eql_t h59)) ?_
      refine wL_val (wn rfl) rfl rfl (y_assign rfl rfl) ?_
      refine wL_nil (wQ_sub (l' := [(1, _), (2, _), (4, _), (5, _), (36, _)]) ⟨rfl, rfl, rfl, rfl, rfl, trivial⟩ (wQ_then (wC_cond_t rfl (wC_skip (wQ_blk_n (wQ_then (wC_seq (wC_region (wL_val (wn rfl) rfl rfl (y_load rfl rfl (r_load_row 1 S8 rfl Try.underlying108 rfl inf108 rfl)) ?_)))))))))
      refine wL_call (vs := [.agg #[.int .i64 ro, .int .i64 ep, .int .i64 fr, .int .i64 tg, .int .i64 rd, .slice A l.length c], .slice none 0 0]) (wn rfl) rfl rfl (e_call (vs := [.agg #[.int .i64 ro, .int .i64 ep, .int .i64 fr, .int .i64 tg, .int .i64 rd, .slice A l.length c], .slice none 0 0]) rfl en160 ⟨rfl, rfl, trivial⟩) (with0_calls ro ep fr tg rd A c l _ (St.rd 2 S8 rfl) hb) ?_
      rintro _ w70 ⟨A68, c69, rfl, T72⟩
      refine ⟨_, rfl, ?_⟩
      have S71 := S8.ext T72 rfl; clear T72 S8
      change St _ _ _ [.own 37 6 (.slice A68 l.length c69) l.length ((l).flatMap Ev.cells), _, _, _] at S71
      refine wL_st (fs' := [_, _, _, _]) 1 S71 (wn rfl) rfl rfl rfl rfl rfl rfl inf108 rfl (oneAll rfl) (Nat.le_of_ble_eq_true rfl) (setAll_all rfl) rfl ?_; intro w73 S74; clear S71
      refine wL_val (wn rfl) rfl rfl (y_assign rfl rfl) ?_
      refine wL_nil (wQ_sub (l' := [(4, _), (5, _)]) ⟨rfl, rfl, trivial⟩ (wQ_then (wC_ret (wQ_post (rs := [.cell 4 108, .tmp 5]) (vs := [.agg #[.int .i64 ro, .int .i64 ep, .int .i64 fr, .int .i64 tg, .int .i64 rd, .slice A68 l.length c69], .int .i64 0]) rfl ⟨⟨_, rfl, res_row 1 S74 rfl Try.underlying108 rfl inf108⟩, rfl, trivial⟩ ?_))))
      have S75 : St w.heap.size w w73 [_] := (St.del 1 (St.del 2 (St.del 3 S74))); clear S74
      have S76 := S75.sealAll 0 rfl; clear S75
      change St _ _ _ [.rdo 6 A68 l.length ((l).flatMap Ev.cells)] at S76
      rw [show caughtM ⟨ro, ep, fr, tg, rd, l⟩ hv = (⟨ro, ep, fr, tg, rd, l⟩, 0) from by unfold caughtM; (try dsimp only); (repeat' (first | rfl | omega | split)) <;> (simp only [Prod.mk.injEq, Brt.mk.injEq, and_true, true_and, and_self]; omega)]
      exact ⟨A68, c69, rfl, S76⟩
   ·refine wL_val (v := .bool true) (wg rfl rfl rfl rfl) rfl rfl (y_binop rfl rfl rfl (r_neq_t h59)) ?_
    refine wL_val (wn rfl) rfl rfl (y_pick_t rfl rfl rfl) ?_
    refine wL_nil (wQ_sub (l' := [(1, _), (2, _), (4, _), (5, _), (20, _)]) ⟨rfl, rfl, rfl, rfl, rfl, trivial⟩ (wQ_then (wC_cond_t rfl (wC_seq (wC_region (wL_val (v := .agg #[.int .i64 0, .int .i64 0, .int .i64 0, .int .i64 0, .int .i64 0, .slice none 0 0]) (wn rfl) rfl rfl (y_build (vs := []) rfl trivial (by kernel_rfl)) ?_))))))
    refine wL_st (fs' := [_, _, _]) 0 S8 (wn rfl) rfl rfl rfl rfl rfl rfl inf108 rfl (oneAll rfl) (Nat.le_of_ble_eq_true rfl) (setAll_all rfl) rfl ?_; intro w77 S78; clear S8
    refine wL_val (wn rfl) rfl rfl (y_assign rfl rfl) ?_
    refine wL_nil (wQ_sub (l' := [(4, _), (5, _)]) ⟨rfl, rfl, trivial⟩ (wQ_then (wC_ret (wQ_then_ret (wQ_post (rs := [.cell 4 108, .tmp 5]) (vs := [.agg #[.int .i64 0, .int .i64 0, .int .i64 0, .int .i64 0, .int .i64 0, .slice none 0 0], .int .i64 7]) rfl ⟨⟨_, rfl, res_row 0 S78 rfl Try.underlying108 rfl inf108⟩, rfl, trivial⟩ ?_)))))
    have S79 : St w.heap.size w w77 [] := (St.del 0 (St.del 1 (St.del 2 S78))); clear S78
    rw [show caughtM ⟨ro, ep, fr, tg, rd, l⟩ hv = (⟨0, 0, 0, 0, 0, []⟩, 7) from by unfold caughtM; (try dsimp only); (repeat' (first | rfl | omega | split)) <;> (simp only [Prod.mk.injEq, Brt.mk.injEq, and_true, true_and, and_self]; omega)]
    exact ⟨none, 0, rfl, rdo_nil S79⟩
 ·refine wL_val (v := .bool true) (wn rfl) rfl rfl (y_binop rfl rfl rfl (r_neq_t h10)) ?_
  refine wL_nil (wQ_sub (l' := [(1, _), (2, _), (4, _), (5, _), (6, _), (10, _)]) ⟨rfl, rfl, rfl, rfl, rfl, rfl, trivial⟩ (wQ_then (wC_cond_t rfl (wC_seq (wC_region (wL_val (v := .agg #[.int .i64 0, .int .i64 0, .int .i64 0, .int .i64 0, .int .i64 0, .slice none 0 0]) (wn rfl) rfl rfl (y_build (vs := []) rfl trivial (by kernel_rfl)) ?_))))))
  refine wL_val (wn rfl) rfl rfl (y_move rfl rfl) ?_
  refine wL_st (fs' := [_, _, _]) 0 S8 (wn rfl) rfl rfl rfl rfl rfl rfl inf108 rfl (oneAll rfl) (Nat.le_of_ble_eq_true rfl) (setAll_all rfl) rfl ?_; intro w80 S81; clear S8
  refine wL_val (wn rfl) rfl rfl (y_assign rfl rfl) ?_
  refine wL_nil (wQ_sub (l' := [(4, _), (5, _)]) ⟨rfl, rfl, trivial⟩ (wQ_then (wC_ret (wQ_then_ret (wQ_post (rs := [.cell 4 108, .tmp 5]) (vs := [.agg #[.int .i64 0, .int .i64 0, .int .i64 0, .int .i64 0, .int .i64 0, .slice none 0 0], .int .i64 (brtFault ⟨ro, ep, fr, tg, rd, l⟩)]) rfl ⟨⟨_, rfl, res_row 0 S81 rfl Try.underlying108 rfl inf108⟩, rfl, trivial⟩ ?_)))))
  have S82 : St w.heap.size w w80 [] := (St.del 0 (St.del 1 (St.del 2 S81))); clear S81
  rw [show caughtM ⟨ro, ep, fr, tg, rd, l⟩ hv = (⟨0, 0, 0, 0, 0, []⟩, brtFault ⟨ro, ep, fr, tg, rd, l⟩) from by unfold caughtM; (try dsimp only); (repeat' (first | rfl | omega | split)) <;> (simp only [Prod.mk.injEq, Brt.mk.injEq, and_true, true_and, and_self]; omega)]
  exact ⟨none, 0, rfl, rdo_nil S82⟩

end Go.Proofs.Ytkjlafpafmihaaa

namespace Go.Proofs.Ytkjlafpafmihaaa
open Go.ChangeShapes Go.WideShapes Go.RowKit

set_option maxRecDepth 100000 in
set_option maxHeartbeats 1000000 in
theorem CaughtUp_calls (ro ep fr tg rd : Int) (A : Option Addr) (c : Nat) (l : List Ev) (hv : Int) (w : World) (h : Rd w w.heap.size 6 A l.length (evCells l)) (hb : l.length * 48 ≤ reachBytes) :
    Calls Try.prog 93 #[.agg #[.int .i64 ro, .int .i64 ep, .int .i64 fr, .int .i64 tg, .int .i64 rd, .slice A l.length c], .int .i64 hv] w (BrtPost w (caughtM ⟨ro, ep, fr, tg, rd, l⟩ hv)) := by
 have S := (St.start w).addRd h; clear h
 have hb2 := hb
 unfold reachBytes at hb2
 refine calls_of_wC (N := 37) (vs := [.agg #[.int .i64 ro, .int .i64 ep, .int .i64 fr, .int .i64 tg, .int .i64 rd, .slice A l.length c], .int .i64 hv]) Try.func93 rfl rfl rfl ?_
 refine wC_sub (l' := [(0, .agg #[.int .i64 ro, .int .i64 ep, .int .i64 fr, .int .i64 tg, .int .i64 rd, .slice A l.length c]), (1, .int .i64 hv)]) ⟨rfl, rfl, trivial⟩ (wC_seq (wC_region (wL_new (V := fun b => .pointer (some ⟨b, 0, none⟩)) (row := #[.int .i64 ro, .int .i64 ep, .int .i64 fr, .int .i64 tg, .int .i64 rd, .slice A l.length c]) (t := 108) S (wn rfl) rfl rfl (d_box rfl rfl rfl) ?_))); intro b1 w2 S3; clear S
 refine wL_new (V := fun b => .pointer (some ⟨b, 0, none⟩)) (row := #[.int .i64 0, .int .i64 0, .int .i64 0, .int .i64 0, .int .i64 0, .slice none 0 0]) (t := 108) S3 (wn rfl) rfl rfl (d_alloc rfl (Try.zeroValue108 _) rfl) ?_; intro b4 w5 S6; clear S3
 refine wL_val (wn rfl) rfl rfl (y_assign rfl rfl) ?_
 refine wL_nil (wQ_sub (l' := [(1, _), (2, _), (4, _), (5, _)]) ⟨rfl, rfl, rfl, rfl, trivial⟩ (wQ_then (wC_seq (wC_region (wL_val (wn rfl) rfl rfl (y_load rfl rfl (r_load_row 1 S6 rfl Try.underlying108 rfl inf108 rfl)) ?_)))))
 refine wL_val (wn rfl) rfl rfl (y_move rfl rfl) ?_
 refine wL_call (vs := [.agg #[.int .i64 ro, .int .i64 ep, .int .i64 fr, .int .i64 tg, .int .i64 rd, .slice A l.length c], .int .i64 hv]) (wn rfl) rfl rfl (e_call (vs := [.agg #[.int .i64 ro, .int .i64 ep, .int .i64 fr, .int .i64 tg, .int .i64 rd, .slice A l.length c], .int .i64 hv]) rfl en158 ⟨rfl, rfl, trivial⟩) (leavingFault_calls ro ep fr tg rd A c l hv _ (St.rd 2 S6 rfl) (by omega)) ?_
 rintro _ w7 ⟨rfl, hb9⟩
 refine ⟨_, rfl, ?_⟩
 have S8 := S6.on hb9; clear hb9 S6
 refine wL_val (wn rfl) rfl rfl (y_assign rfl rfl) ?_
 refine wL_nil (wQ_sub (l' := [(1, _), (2, _), (4, _), (5, _), (6, _)]) ⟨rfl, rfl, rfl, rfl, rfl, trivial⟩ (wQ_then (wC_seq (wC_seq (wC_region (wL_val (wn rfl) rfl rfl (y_move rfl rfl) ?_))))))
 by_cases h10 : leavM ⟨ro, ep, fr, tg, rd, l⟩ hv = 0
 ·have hlv := leav_zero h10
  have hsh := (bf_zero hlv.1).1
  unfold shapeB at hsh
  have hln := tellM_len (bf_zero hlv.1).2
  dsimp only at hlv hsh hln
  refine wL_val (v := .bool false) (wn rfl) rfl rfl (y_binop rfl rfl rfl (r_neq_f h10)) ?_
  refine wL_nil (wQ_sub (l' := [(1, _), (2, _), (4, _), (5, _), (6, _), (12, _)]) ⟨rfl, rfl, rfl, rfl, rfl, rfl, trivial⟩ (wQ_then (wC_cond_f rfl (wC_skip (wQ_then (wC_seq (wC_region (wL_val (wn rfl) rfl rfl (y_load rfl rfl (r_load_row 1 S8 rfl Try.underlying108 rfl inf108 rfl)) ?_))))))))
  refine wL_call (vs := [.agg #[.int .i64 ro, .int .i64 ep, .int .i64 fr, .int .i64 tg, .int .i64 rd, .slice A l.length c]]) (wn rfl) rfl rfl (e_call (vs := [.agg #[.int .i64 ro, .int .i64 ep, .int .i64 fr, .int .i64 tg, .int .i64 rd, .slice A l.length c]]) rfl en156 ⟨rfl, trivial⟩) (BerthCopy_calls ro ep fr tg rd A c l _ (St.rd 2 S8 rfl) hb) ?_
  rintro _ w13 ⟨A11, c12, rfl, T15⟩
  refine ⟨_, rfl, ?_⟩
  have S14 := S8.ext T15 rfl; clear T15 S8
  change St _ _ _ [.own 37 6 (.slice A11 l.length c12) l.length ((l).flatMap Ev.cells), _, _, _] at S14
  refine wL_new (V := fun b => .pointer (some ⟨b, 0, none⟩)) (row := #[.int .i64 0, .int .i64 0, .int .i64 0, .int .i64 0, .int .i64 0, .slice none 0 0]) (t := 108) S14 (wn rfl) rfl rfl (d_alloc rfl (Try.zeroValue108 _) rfl) ?_; intro b16 w17 S18; clear S14
  refine wL_st (fs' := [_, _, _, _, _]) 0 S18 (wn rfl) rfl rfl rfl rfl rfl rfl inf108 rfl (oneAll rfl) (Nat.le_of_ble_eq_true rfl) (setAll_all rfl) rfl ?_; intro w19 S20; clear S18
  refine wL_nil (wQ_sub (l' := [(1, _), (2, _), (4, _), (5, _), (7, _)]) ⟨rfl, rfl, rfl, rfl, rfl, trivial⟩ (wQ_then (wC_seq (wC_seq (wC_region (wL_val (v := .pointer (some ⟨b1, 0, none⟩)) (wn rfl) rfl rfl (y_fieldAddr rfl rfl (fa108_0 _ _ _)) ?_))))))
  refine wL_val (wn rfl) rfl rfl (y_load rfl rfl (r_load Try.underlying3 rfl (St.cl 3 S20 rfl rfl))) ?_
  by_cases h21 : ro = 2
  ·refine wL_val (v := .bool true) (wn rfl) rfl rfl (y_binop rfl rfl rfl (r_eql_t h21)) ?_
   refine wL_nil (wQ_sub (l' := [(1, _), (2, _), (4, _), (5, _), (7, _), (19, _)]) ⟨rfl, rfl, rfl, rfl, rfl, rfl, trivial⟩ (wQ_then (wC_cond_t rfl (wC_seq (wC_region (wL_val (v := .pointer (some ⟨b1, 4, none⟩)) (wn rfl) rfl rfl (y_fieldAddr rfl rfl (fa108_4 _ _ _)) ?_))))))
   refine wL_val (wn rfl) rfl rfl (y_load rfl rfl (r_load Try.underlying3 rfl (St.cl 3 S20 rfl rfl))) ?_
   refine wL_val (v := .int .i64 (rd + 1)) (wn rfl) rfl rfl (y_binop rfl rfl rfl (r_add (by omega) (by omega))) ?_
   refine wL_val (v := .pointer (some ⟨b16, 4, none⟩)) (wn rfl) rfl rfl (y_fieldAddr rfl rfl (fa108_4 _ _ _)) ?_
   refine wL_st (cs := #[.int .i64 (rd + 1)]) (row' := #[.int .i64 ro, .int .i64 ep, .int .i64 fr, .int .i64 tg, .int .i64 (rd + 1), .slice A11 l.length c12]) (fs' := [.blk b16 #[.int .i64 ro, .int .i64 ep, .int .i64 fr, .int .i64 tg, .int .i64 (rd + 1), .slice A11 l.length c12] 108, _, _, _, _]) 0 S20 (wn rfl) rfl rfl rfl rfl rfl rfl inf3 rfl (oneAll rfl) (Nat.le_of_ble_eq_true rfl) rfl rfl ?_; intro w22 S23; clear S20
   refine wL_nil (wQ_sub (l' := [(1, _), (2, _), (4, _), (5, _), (7, _)]) ⟨rfl, rfl, rfl, rfl, rfl, trivial⟩ (wQ_then (wC_seq (wC_region (wL_val (wn rfl) rfl rfl (y_move rfl rfl) ?_)))))
   refine wL_val (v := .pointer (some ⟨b1, 5, none⟩)) (wn rfl) rfl rfl (y_fieldAddr rfl rfl (fa108_5 _ _ _)) ?_
   refine wL_val (wn rfl) rfl rfl (y_load rfl rfl (r_load Try.underlying57 rfl (St.cl 3 S23 rfl rfl))) ?_
   refine wL_val (v := .int .i64 ((l.length : Nat) : Int)) (wn rfl) rfl rfl (y_builtin (vs := [.slice A l.length c]) rfl ⟨rfl, trivial⟩ fun _ => r_len rfl Try.underlying57) ?_
   by_cases h24 : hv = ((l.length : Nat) : Int)
   ·refine wL_val (v := .bool true) (wn rfl) rfl rfl (y_binop rfl rfl rfl (r_eql_t h24)) ?_
    refine wL_val (wn rfl) rfl rfl (y_move rfl rfl) ?_
    refine wL_skip (wg rfl rfl rfl rfl) rfl rfl ?_
    refine wL_skip (wg rfl rfl rfl rfl) rfl rfl ?_
    refine wL_skip (wg rfl rfl rfl rfl) rfl rfl ?_
    refine wL_val (wn rfl) rfl rfl (y_pick_t rfl rfl rfl) ?_
    refine wL_nil (wQ_sub (l' := [(4, _), (5, _), (7, _), (33, _)]) ⟨rfl, rfl, rfl, rfl, trivial⟩ (wQ_then (wC_cond_t rfl (wC_seq (wC_region (wL_val (v := .pointer (some ⟨b16, 0, none⟩)) (wn rfl) rfl rfl (y_fieldAddr rfl rfl (fa108_0 _ _ _)) ?_))))))
    refine wL_st (cs := #[.int .i64 3]) (row' := #[.int .i64 3, .int .i64 ep, .int .i64 fr, .int .i64 tg, .int .i64 (rd + 1), .slice A11 l.length c12]) (fs' := [.blk b16 #[.int .i64 3, .int .i64 ep, .int .i64 fr, .int .i64 tg, .int .i64 (rd + 1), .slice A11 l.length c12] 108, _, _, _, _]) 0 S23 (wn rfl) rfl rfl rfl rfl rfl rfl inf3 rfl (oneAll rfl) (Nat.le_of_ble_eq_true rfl) rfl rfl ?_; intro w25 S26; clear S23
    refine wL_nil (wQ_sub (l' := [(4, _), (5, _), (7, _)]) ⟨rfl, rfl, rfl, trivial⟩ (wQ_then (wC_region (wL_val (v := .pointer (some ⟨b16, 4, none⟩)) (wn rfl) rfl rfl (y_fieldAddr rfl rfl (fa108_4 _ _ _)) ?_))))
    refine wL_st (cs := #[.int .i64 0]) (row' := #[.int .i64 3, .int .i64 ep, .int .i64 fr, .int .i64 tg, .int .i64 0, .slice A11 l.length c12]) (fs' := [.blk b16 #[.int .i64 3, .int .i64 ep, .int .i64 fr, .int .i64 tg, .int .i64 0, .slice A11 l.length c12] 108, _, _, _, _]) 0 S26 (wn rfl) rfl rfl rfl rfl rfl rfl inf3 rfl (oneAll rfl) (Nat.le_of_ble_eq_true rfl) rfl rfl ?_; intro w27 S28; clear S26
    refine wL_nil (wQ_sub (l' := [(4, _), (5, _), (7, _)]) ⟨rfl, rfl, rfl, trivial⟩ (wQ_then (wC_seq (wC_region (wL_val (wn rfl) rfl rfl (y_load rfl rfl (r_load_row 0 S28 rfl Try.underlying108 rfl inf108 rfl)) ?_)))))
    refine wL_st (fs' := [_, _, _, _, _]) 2 S28 (wn rfl) rfl rfl rfl rfl rfl rfl inf108 rfl (oneAll rfl) (Nat.le_of_ble_eq_true rfl) (setAll_all rfl) rfl ?_; intro w29 S30; clear S28
    refine wL_val (wn rfl) rfl rfl (y_assign rfl rfl) ?_
    refine wL_nil (wQ_sub (l' := [(4, _), (5, _)]) ⟨rfl, rfl, trivial⟩ (wQ_then (wC_ret (wQ_post (rs := [.cell 4 108, .tmp 5]) (vs := [.agg #[.int .i64 3, .int .i64 ep, .int .i64 fr, .int .i64 tg, .int .i64 0, .slice A11 l.length c12], .int .i64 0]) rfl ⟨⟨_, rfl, res_row 2 S30 rfl Try.underlying108 rfl inf108⟩, rfl, trivial⟩ ?_))))
    have S31 : St w.heap.size w w29 [_] := (St.del 0 (St.del 2 (St.del 3 (St.del 4 S30)))); clear S30
    have S32 := S31.sealAll 0 rfl; clear S31
    change St _ _ _ [.rdo 6 A11 l.length ((l).flatMap Ev.cells)] at S32
    rw [show caughtM ⟨ro, ep, fr, tg, rd, l⟩ hv = (⟨3, ep, fr, tg, 0, l⟩, 0) from by unfold caughtM; (try dsimp only); (repeat' (first | rfl | omega | split)) <;> (simp only [Prod.mk.injEq, Brt.mk.injEq, and_true, true_and, and_self]; omega)]
    exact ⟨A11, c12, rfl, S32⟩
   ·refine wL_val (v := .bool false) (wn rfl) rfl rfl (y_binop rfl rfl rfl (r_eql_f h24)) ?_
    refine wL_val (wn rfl) rfl rfl (y_move rfl rfl) ?_
    refine wL_val (v := .pointer (some ⟨b16, 4, none⟩)) (wg rfl rfl rfl rfl) rfl rfl (y_fieldAddr rfl rfl (fa108_4 _ _ _)) ?_
    refine wL_val (wg rfl rfl rfl rfl) rfl rfl (y_load rfl rfl (r_load Try.underlying3 rfl (St.cl 0 S23 rfl rfl))) ?_
    by_cases h33 : 4 < rd + 1
    ·refine wL_val (v := .bool true) (wg rfl rfl rfl rfl) rfl rfl (y_binop rfl rfl rfl (r_gtr_t h33)) ?_
     refine wL_val (wn rfl) rfl rfl (y_pick_f rfl rfl rfl) ?_
     refine wL_nil (wQ_sub (l' := [(4, _), (5, _), (7, _), (33, _)]) ⟨rfl, rfl, rfl, rfl, trivial⟩ (wQ_then (wC_cond_t rfl (wC_seq (wC_region (wL_val (v := .pointer (some ⟨b16, 0, none⟩)) (wn rfl) rfl rfl (y_fieldAddr rfl rfl (fa108_0 _ _ _)) ?_))))))
     refine wL_st (cs := #[.int .i64 3]) (row' := #[.int .i64 3, .int .i64 ep, .int .i64 fr, .int .i64 tg, .int .i64 (rd + 1), .slice A11 l.length c12]) (fs' := [.blk b16 #[.int .i64 3, .int .i64 ep, .int .i64 fr, .int .i64 tg, .int .i64 (rd + 1), .slice A11 l.length c12] 108, _, _, _, _]) 0 S23 (wn rfl) rfl rfl rfl rfl rfl rfl inf3 rfl (oneAll rfl) (Nat.le_of_ble_eq_true rfl) rfl rfl ?_; intro w34 S35; clear S23
     refine wL_nil (wQ_sub (l' := [(4, _), (5, _), (7, _)]) ⟨rfl, rfl, rfl, trivial⟩ (wQ_then (wC_region (wL_val (v := .pointer (some ⟨b16, 4, none⟩)) (wn rfl) rfl rfl (y_fieldAddr rfl rfl (fa108_4 _ _ _)) ?_))))
     refine wL_st (cs := #[.int .i64 0]) (row' := #[.int .i64 3, .int .i64 ep, .int .i64 fr, .int .i64 tg, .int .i64 0, .slice A11 l.length c12]) (fs' := [.blk b16 #[.int .i64 3, .int .i64 ep, .int .i64 fr, .int .i64 tg, .int .i64 0, .slice A11 l.length c12] 108, _, _, _, _]) 0 S35 (wn rfl) rfl rfl rfl rfl rfl rfl inf3 rfl (oneAll rfl) (Nat.le_of_ble_eq_true rfl) rfl rfl ?_; intro w36 S37; clear S35
     refine wL_nil (wQ_sub (l' := [(4, _), (5, _), (7, _)]) ⟨rfl, rfl, rfl, trivial⟩ (wQ_then (wC_seq (wC_region (wL_val (wn rfl) rfl rfl (y_load rfl rfl (r_load_row 0 S37 rfl Try.underlying108 rfl inf108 rfl)) ?_)))))
     refine wL_st (fs' := [_, _, _, _, _]) 2 S37 (wn rfl) rfl rfl rfl rfl rfl rfl inf108 rfl (oneAll rfl) (Nat.le_of_ble_eq_true rfl) (setAll_all rfl) rfl ?_; intro w38 S39; clear S37
     refine wL_val (wn rfl) rfl rfl (y_assign rfl rfl) ?_
     refine wL_nil (wQ_sub (l' := [(4, _), (5, _)]) ⟨rfl, rfl, trivial⟩ (wQ_then (wC_ret (wQ_post (rs := [.cell 4 108, .tmp 5]) (vs := [.agg #[.int .i64 3, .int .i64 ep, .int .i64 fr, .int .i64 tg, .int .i64 0, .slice A11 l.length c12], .int .i64 0]) rfl ⟨⟨_, rfl, res_row 2 S39 rfl Try.underlying108 rfl inf108⟩, rfl, trivial⟩ ?_))))
     have S40 : St w.heap.size w w38 [_] := (St.del 0 (St.del 2 (St.del 3 (St.del 4 S39)))); clear S39
     have S41 := S40.sealAll 0 rfl; clear S40
     change St _ _ _ [.rdo 6 A11 l.length ((l).flatMap Ev.cells)] at S41
     rw [show caughtM ⟨ro, ep, fr, tg, rd, l⟩ hv = (⟨3, ep, fr, tg, 0, l⟩, 0) from by unfold caughtM; (try dsimp only); (repeat' (first | rfl | omega | split)) <;> (simp only [Prod.mk.injEq, Brt.mk.injEq, and_true, true_and, and_self]; omega)]
     exact ⟨A11, c12, rfl, S41⟩
    ·refine wL_val (v := .bool false) (wg rfl rfl rfl rfl) rfl rfl (y_binop rfl rfl rfl (r_gtr_f h33)) ?_
     refine wL_val (wn rfl) rfl rfl (y_pick_f rfl rfl rfl) ?_
     refine wL_nil (wQ_sub (l' := [(4, _), (5, _), (7, _), (33, _)]) ⟨rfl, rfl, rfl, rfl, trivial⟩ (wQ_then (wC_cond_f rfl (wC_skip (wQ_then (wC_seq (wC_region (wL_val (wn rfl) rfl rfl (y_load rfl rfl (r_load_row 0 S23 rfl Try.underlying108 rfl inf108 rfl)) ?_))))))))
     refine wL_st (fs' := [_, _, _, _, _]) 2 S23 (wn rfl) rfl rfl rfl rfl rfl rfl inf108 rfl (oneAll rfl) (Nat.le_of_ble_eq_true rfl) (setAll_all rfl) rfl ?_; intro w42 S43; clear S23
     refine wL_val (wn rfl) rfl rfl (y_assign rfl rfl) ?_
     refine wL_nil (wQ_sub (l' := [(4, _), (5, _)]) ⟨rfl, rfl, trivial⟩ (wQ_then (wC_ret (wQ_post (rs := [.cell 4 108, .tmp 5]) (vs := [.agg #[.int .i64 ro, .int .i64 ep, .int .i64 fr, .int .i64 tg, .int .i64 (rd + 1), .slice A11 l.length c12], .int .i64 0]) rfl ⟨⟨_, rfl, res_row 2 S43 rfl Try.underlying108 rfl inf108⟩, rfl, trivial⟩ ?_))))
     have S44 : St w.heap.size w w42 [_] := (St.del 0 (St.del 2 (St.del 3 (St.del 4 S43)))); clear S43
     have S45 := S44.sealAll 0 rfl; clear S44
     change St _ _ _ [.rdo 6 A11 l.length ((l).flatMap Ev.cells)] at S45
     rw [show caughtM ⟨ro, ep, fr, tg, rd, l⟩ hv = (⟨ro, ep, fr, tg, rd + 1, l⟩, 0) from by unfold caughtM; (try dsimp only); (repeat' (first | rfl | omega | split)) <;> (simp only [Prod.mk.injEq, Brt.mk.injEq, and_true, true_and, and_self]; omega)]
     exact ⟨A11, c12, rfl, S45⟩
  ·refine wL_val (v := .bool false) (wn rfl) rfl rfl (y_binop rfl rfl rfl (r_eql_f h21)) ?_
   refine wL_nil (wQ_sub (l' := [(1, _), (2, _), (4, _), (5, _), (7, _), (19, _)]) ⟨rfl, rfl, rfl, rfl, rfl, rfl, trivial⟩ (wQ_then (wC_cond_f rfl (wC_skip (wQ_then (wC_seq (wC_region (wL_val (wn rfl) rfl rfl (y_load rfl rfl (r_load_row 0 S20 rfl Try.underlying108 rfl inf108 rfl)) ?_))))))))
   refine wL_st (fs' := [_, _, _, _, _]) 2 S20 (wn rfl) rfl rfl rfl rfl rfl rfl inf108 rfl (oneAll rfl) (Nat.le_of_ble_eq_true rfl) (setAll_all rfl) rfl ?_; intro w46 S47; clear S20
   refine wL_val (wn rfl) rfl rfl (y_assign rfl rfl) ?_
   refine wL_nil (wQ_sub (l' := [(4, _), (5, _)]) ⟨rfl, rfl, trivial⟩ (wQ_then (wC_ret (wQ_post (rs := [.cell 4 108, .tmp 5]) (vs := [.agg #[.int .i64 ro, .int .i64 ep, .int .i64 fr, .int .i64 tg, .int .i64 rd, .slice A11 l.length c12], .int .i64 0]) rfl ⟨⟨_, rfl, res_row 2 S47 rfl Try.underlying108 rfl inf108⟩, rfl, trivial⟩ ?_))))
   have S48 : St w.heap.size w w46 [_] := (St.del 0 (St.del 2 (St.del 3 (St.del 4 S47)))); clear S47
   have S49 := S48.sealAll 0 rfl; clear S48
   change St _ _ _ [.rdo 6 A11 l.length ((l).flatMap Ev.cells)] at S49
   rw [show caughtM ⟨ro, ep, fr, tg, rd, l⟩ hv = (⟨ro, ep, fr, tg, rd, l⟩, 0) from by unfold caughtM; (try dsimp only); (repeat' (first | rfl | omega | split)) <;> (simp only [Prod.mk.injEq, Brt.mk.injEq, and_true, true_and, and_self]; omega)]
   exact ⟨A11, c12, rfl, S49⟩
 ·refine wL_val (v := .bool true) (wn rfl) rfl rfl (y_binop rfl rfl rfl (r_neq_t h10)) ?_
  refine wL_nil (wQ_sub (l' := [(1, _), (2, _), (4, _), (5, _), (6, _), (12, _)]) ⟨rfl, rfl, rfl, rfl, rfl, rfl, trivial⟩ (wQ_then (wC_cond_t rfl (wC_seq (wC_region (wL_val (v := .agg #[.int .i64 0, .int .i64 0, .int .i64 0, .int .i64 0, .int .i64 0, .slice none 0 0]) (wn rfl) rfl rfl (y_build (vs := []) rfl trivial (by kernel_rfl)) ?_))))))
  refine wL_val (wn rfl) rfl rfl (y_move rfl rfl) ?_
  refine wL_st (fs' := [_, _, _]) 0 S8 (wn rfl) rfl rfl rfl rfl rfl rfl inf108 rfl (oneAll rfl) (Nat.le_of_ble_eq_true rfl) (setAll_all rfl) rfl ?_; intro w50 S51; clear S8
  refine wL_val (wn rfl) rfl rfl (y_assign rfl rfl) ?_
  refine wL_nil (wQ_sub (l' := [(4, _), (5, _)]) ⟨rfl, rfl, trivial⟩ (wQ_then (wC_ret (wQ_then_ret (wQ_post (rs := [.cell 4 108, .tmp 5]) (vs := [.agg #[.int .i64 0, .int .i64 0, .int .i64 0, .int .i64 0, .int .i64 0, .slice none 0 0], .int .i64 (leavM ⟨ro, ep, fr, tg, rd, l⟩ hv)]) rfl ⟨⟨_, rfl, res_row 0 S51 rfl Try.underlying108 rfl inf108⟩, rfl, trivial⟩ ?_)))))
  have S52 : St w.heap.size w w50 [] := (St.del 0 (St.del 1 (St.del 2 S51))); clear S51
  rw [caught_leav h10]
  exact ⟨none, 0, rfl, rdo_nil S52⟩

end Go.Proofs.Ytkjlafpafmihaaa

namespace Go.Proofs.Ytkjlafpafmihaaa
open Go.ChangeShapes Go.WideShapes Go.RowKit

theorem caughtM_len {b : Brt} {hv : Int} : (caughtM b hv).1.evs.length ≤ b.evs.length + 1 := by
  unfold caughtM
  (repeat' split) <;> (try simp [zeroB]) <;> (try omega)

set_option maxRecDepth 100000 in
set_option maxHeartbeats 2000000 in
theorem berthCaughts_calls (ro ep fr tg rd : Int) (A : Option Addr) (c : Nat) (l : List Ev) (hv : Int) (hlc : l.length ≤ c) (w : World) (h : Rd w w.heap.size 6 A l.length (evCells l)) (hb : l.length * 48 ≤ reachBytes) :
    Calls Try.prog 25 #[.agg #[.int .i64 ro, .int .i64 ep, .int .i64 fr, .int .i64 tg, .int .i64 rd, .slice A l.length c], .int .i64 hv] w fun e w' => e = .returned (.bool true) ∧ Below w.heap.size w w' := by
 have S := (St.start w).addRd h; clear h
 have hb2 := hb
 unfold reachBytes at hb2
 have HP := fun A c w h => Caught_calls ro ep fr tg rd A c l hv w h hb
 have HR := fun A c w h => CaughtUp_calls ro ep fr tg rd A c l hv w h hb
 have hlen := caughtM_len (b := ⟨ro, ep, fr, tg, rd, l⟩) (hv := hv)
 generalize caughtM ⟨ro, ep, fr, tg, rd, l⟩ hv = R at HP HR hlen
 dsimp only at hlen
 refine calls_of_wC (N := 37) (vs := [.agg #[.int .i64 ro, .int .i64 ep, .int .i64 fr, .int .i64 tg, .int .i64 rd, .slice A l.length c], .int .i64 hv]) Try.func25 rfl rfl rfl ?_
 refine wC_sub (l' := [(0, .agg #[.int .i64 ro, .int .i64 ep, .int .i64 fr, .int .i64 tg, .int .i64 rd, .slice A l.length c]), (1, .int .i64 hv)]) ⟨rfl, rfl, trivial⟩ (wC_seq (wC_region (wL_new (V := fun b => .pointer (some ⟨b, 0, none⟩)) (row := #[.int .i64 ro, .int .i64 ep, .int .i64 fr, .int .i64 tg, .int .i64 rd, .slice A l.length c]) (t := 108) S (wn rfl) rfl rfl (d_box rfl rfl rfl) ?_))); intro b1 w2 S3; clear S
 refine wL_val (wn rfl) rfl rfl (y_assign rfl rfl) ?_
 refine wL_nil (wQ_sub (l' := [(1, _), (2, _), (4, _)]) ⟨rfl, rfl, rfl, trivial⟩ (wQ_then (wC_seq (wC_region (wL_val (wn rfl) rfl rfl (y_load rfl rfl (r_load_row 0 S3 rfl Try.underlying108 rfl inf108 rfl)) ?_)))))
 refine wL_call (vs := [.agg #[.int .i64 ro, .int .i64 ep, .int .i64 fr, .int .i64 tg, .int .i64 rd, .slice A l.length c]]) (wn rfl) rfl rfl (e_call (vs := [.agg #[.int .i64 ro, .int .i64 ep, .int .i64 fr, .int .i64 tg, .int .i64 rd, .slice A l.length c]]) rfl en77 ⟨rfl, trivial⟩) (berths_calls ro ep fr tg rd A c l _ (St.rd 1 S3 rfl) hb) ?_
 rintro _ w6 ⟨A4, c5, rfl, T8⟩
 refine ⟨_, rfl, ?_⟩
 have S7 := S3.ext T8 rfl; clear T8 S3
 change St _ _ _ [.own 37 6 (.slice A4 l.length c5) l.length ((l).flatMap Ev.cells), _, _] at S7
 refine wL_new (V := fun b => .pointer (some ⟨b, 0, none⟩)) (row := #[.int .i64 0, .int .i64 0, .int .i64 0, .int .i64 0, .int .i64 0, .slice none 0 0]) (t := 108) S7 (wn rfl) rfl rfl (d_alloc rfl (Try.zeroValue108 _) rfl) ?_; intro b9 w10 S11; clear S7
 refine wL_st (fs' := [_, _, _, _]) 0 S11 (wn rfl) rfl rfl rfl rfl rfl rfl inf108 rfl (oneAll rfl) (Nat.le_of_ble_eq_true rfl) (setAll_all rfl) rfl ?_; intro w12 S13; clear S11
 refine wL_nil (wQ_sub (l' := [(1, _), (2, _), (4, _), (5, _)]) ⟨rfl, rfl, rfl, rfl, trivial⟩ (wQ_then (wC_seq (wC_region (wL_val (wn rfl) rfl rfl (y_load rfl rfl (r_load_row 0 S13 rfl Try.underlying108 rfl inf108 rfl)) ?_)))))
 refine wL_val (wn rfl) rfl rfl (y_move rfl rfl) ?_
 refine wL_call (vs := [.agg #[.int .i64 ro, .int .i64 ep, .int .i64 fr, .int .i64 tg, .int .i64 rd, .slice A4 l.length c5], .int .i64 hv]) (wn rfl) rfl rfl (e_call (vs := [.agg #[.int .i64 ro, .int .i64 ep, .int .i64 fr, .int .i64 tg, .int .i64 rd, .slice A4 l.length c5], .int .i64 hv]) rfl en92 ⟨rfl, rfl, trivial⟩) (HP A4 c5 _ (St.ord 1 S13 rfl)) ?_
 rintro _ w16 ⟨A14, c15, rfl, T18⟩
 refine ⟨_, rfl, ?_⟩
 have S17 := S13.ext T18 rfl; clear T18 S13
 change St _ _ _ [.rdo 6 A14 R.1.evs.length ((R.1.evs).flatMap Ev.cells), _, _, _, _] at S17
 refine wL_val (wn rfl) rfl rfl (y_move rfl rfl) ?_
 refine wL_val (wn rfl) rfl rfl (y_extract rfl rfl rfl) ?_
 refine wL_val (wn rfl) rfl rfl (y_extract rfl rfl rfl) ?_
 refine wL_new (V := fun b => .pointer (some ⟨b, 0, none⟩)) (row := #[.int .i64 0, .int .i64 0, .int .i64 0, .int .i64 0, .int .i64 0, .slice none 0 0]) (t := 108) S17 (wn rfl) rfl rfl (d_alloc rfl (Try.zeroValue108 _) rfl) ?_; intro b19 w20 S21; clear S17
 refine wL_st (fs' := [_, _, _, _, _, _]) 0 S21 (wn rfl) rfl rfl rfl rfl rfl rfl inf108 rfl (oneAll rfl) (Nat.le_of_ble_eq_true rfl) (setAll_all rfl) rfl ?_; intro w22 S23; clear S21
 refine wL_val (wn rfl) rfl rfl (y_assign rfl rfl) ?_
 refine wL_nil (wQ_sub (l' := [(1, _), (2, _), (4, _), (5, _), (6, _), (7, _)]) ⟨rfl, rfl, rfl, rfl, rfl, rfl, trivial⟩ (wQ_then (wC_seq (wC_region (wL_val (wn rfl) rfl rfl (y_load rfl rfl (r_load_row 4 S23 rfl Try.underlying108 rfl inf108 rfl)) ?_)))))
 refine wL_val (wn rfl) rfl rfl (y_move rfl rfl) ?_
 refine wL_call (vs := [.agg #[.int .i64 ro, .int .i64 ep, .int .i64 fr, .int .i64 tg, .int .i64 rd, .slice A l.length c], .int .i64 hv]) (wn rfl) rfl rfl (e_call (vs := [.agg #[.int .i64 ro, .int .i64 ep, .int .i64 fr, .int .i64 tg, .int .i64 rd, .slice A l.length c], .int .i64 hv]) rfl en93 ⟨rfl, rfl, trivial⟩) (HR A c _ (St.rd 5 S23 rfl)) ?_
 rintro _ w26 ⟨A24, c25, rfl, T28⟩
 refine ⟨_, rfl, ?_⟩
 have S27 := S23.ext T28 rfl; clear T28 S23
 change St _ _ _ [.rdo 6 A24 R.1.evs.length ((R.1.evs).flatMap Ev.cells), _, _, _, _, _, _] at S27
 refine wL_val (wn rfl) rfl rfl (y_move rfl rfl) ?_
 refine wL_val (wn rfl) rfl rfl (y_extract rfl rfl rfl) ?_
 refine wL_val (wn rfl) rfl rfl (y_extract rfl rfl rfl) ?_
 refine wL_new (V := fun b => .pointer (some ⟨b, 0, none⟩)) (row := #[.int .i64 0, .int .i64 0, .int .i64 0, .int .i64 0, .int .i64 0, .slice none 0 0]) (t := 108) S27 (wn rfl) rfl rfl (d_alloc rfl (Try.zeroValue108 _) rfl) ?_; intro b29 w30 S31; clear S27
 refine wL_st (fs' := [_, _, _, _, _, _, _, _]) 0 S31 (wn rfl) rfl rfl rfl rfl rfl rfl inf108 rfl (oneAll rfl) (Nat.le_of_ble_eq_true rfl) (setAll_all rfl) rfl ?_; intro w32 S33; clear S31
 refine wL_val (wn rfl) rfl rfl (y_assign rfl rfl) ?_
 refine wL_nil (wQ_sub (l' := [(2, _), (4, _), (5, _), (6, _), (7, _), (8, _), (9, _)]) ⟨rfl, rfl, rfl, rfl, rfl, rfl, rfl, trivial⟩ (wQ_then (wC_seq (wC_region (wL_val (wn rfl) rfl rfl (y_move rfl rfl) ?_)))))
 refine wL_val (wn rfl) rfl rfl (y_move rfl rfl) ?_
 refine wL_val (v := .bool true) (wn rfl) rfl rfl (y_binop rfl rfl rfl (r_eql_t rfl)) ?_
 refine wL_val (wn rfl) rfl rfl (y_move rfl rfl) ?_
 refine wL_val (wg rfl rfl rfl rfl) rfl rfl (y_load rfl rfl (r_load_row 2 S33 rfl Try.underlying108 rfl inf108 rfl)) ?_
 refine wL_val (wg rfl rfl rfl rfl) rfl rfl (y_load rfl rfl (r_load_row 0 S33 rfl Try.underlying108 rfl inf108 rfl)) ?_
 refine wL_call (vs := [.agg #[.int .i64 R.1.role, .int .i64 R.1.ep, .int .i64 R.1.fr, .int .i64 R.1.tg, .int .i64 R.1.rd, .slice A14 R.1.evs.length c15], .agg #[.int .i64 R.1.role, .int .i64 R.1.ep, .int .i64 R.1.fr, .int .i64 R.1.tg, .int .i64 R.1.rd, .slice A24 R.1.evs.length c25]]) (wg rfl rfl rfl rfl) rfl rfl (e_call (vs := [.agg #[.int .i64 R.1.role, .int .i64 R.1.ep, .int .i64 R.1.fr, .int .i64 R.1.tg, .int .i64 R.1.rd, .slice A14 R.1.evs.length c15], .agg #[.int .i64 R.1.role, .int .i64 R.1.ep, .int .i64 R.1.fr, .int .i64 R.1.tg, .int .i64 R.1.rd, .slice A24 R.1.evs.length c25]]) rfl en81 ⟨rfl, rfl, trivial⟩) (sameBerth_calls R.1.role R.1.ep R.1.fr R.1.tg R.1.rd A14 c15 A24 c25 R.1.evs _ (St.rdo 3 S33 rfl) (St.rdo 1 S33 rfl) (by omega)) ?_
 rintro _ w34 ⟨rfl, hb36⟩
 refine ⟨_, rfl, ?_⟩
 have S35 := S33.on hb36; clear hb36 S33
 refine wL_val (wn rfl) rfl rfl (y_pick_t rfl rfl rfl) ?_
 refine wL_val (wn rfl) rfl rfl (y_move rfl rfl) ?_
 refine wL_val (wg rfl rfl rfl rfl) rfl rfl (y_load rfl rfl (r_load_row 4 S35 rfl Try.underlying108 rfl inf108 rfl)) ?_
 refine wL_val (wg rfl rfl rfl rfl) rfl rfl (y_load rfl rfl (r_load_row 6 S35 rfl Try.underlying108 rfl inf108 rfl)) ?_
 refine wL_call (vs := [.agg #[.int .i64 ro, .int .i64 ep, .int .i64 fr, .int .i64 tg, .int .i64 rd, .slice A4 l.length c5], .agg #[.int .i64 ro, .int .i64 ep, .int .i64 fr, .int .i64 tg, .int .i64 rd, .slice A l.length c]]) (wg rfl rfl rfl rfl) rfl rfl (e_call (vs := [.agg #[.int .i64 ro, .int .i64 ep, .int .i64 fr, .int .i64 tg, .int .i64 rd, .slice A4 l.length c5], .agg #[.int .i64 ro, .int .i64 ep, .int .i64 fr, .int .i64 tg, .int .i64 rd, .slice A l.length c]]) rfl en81 ⟨rfl, rfl, trivial⟩) (sameBerth_calls ro ep fr tg rd A4 c5 A c l _ (St.ord 5 S35 rfl) (St.rd 7 S35 rfl) (by omega)) ?_
 rintro _ w37 ⟨rfl, hb39⟩
 refine ⟨_, rfl, ?_⟩
 have S38 := S35.on hb39; clear hb39 S35
 refine wL_val (wn rfl) rfl rfl (y_pick_t rfl rfl rfl) ?_
 refine wL_val (wn rfl) rfl rfl (y_assign rfl rfl) ?_
 refine wL_nil (wQ_sub (l' := [(4, _)]) ⟨rfl, trivial⟩ (wQ_then (wC_ret (wQ_post (rs := [.tmp 4]) (vs := [.bool true]) rfl ⟨rfl, trivial⟩ ?_))))
 exact ⟨rfl, S38.low⟩

set_option maxRecDepth 100000 in
theorem berthCaughts_walk (W : World) (args : Array Value) (h : All2 (ArgOk Try.prog W) args.toList Try.f25.params.toList) :
    Calls Try.prog 25 args W fun e W' => e = .returned (.bool true) ∧ Below W.heap.size W W' := by
  rw [Try.params25] at h
  obtain ⟨v0, l0, hv0, h0, g0⟩ := All2.cons_ h
  obtain ⟨v1, l1, hv1, h1, g1⟩ := All2.cons_ g0
  have h9 := All2.nil_ g1
  subst h9
  obtain rfl : args = #[v0, v1] := by cases args; simp_all
  obtain ⟨ro, ep, fr, tg, rd, A, c, l, rfl, hr, hn, hc, hb⟩ := arg_berth h0
  obtain ⟨⟨_, hk1⟩, _, _⟩ := h1
  obtain ⟨hv, rfl⟩ := okWide_int Try.underlying3 hk1
  exact berthCaughts_calls ro ep fr tg rd A c l hv hn W hr hb
end Go.Proofs.Ytkjlafpafmihaaa

