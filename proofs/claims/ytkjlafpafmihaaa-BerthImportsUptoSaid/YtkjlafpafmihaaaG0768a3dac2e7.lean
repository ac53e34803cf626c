/- Parts of proofs: lemmas on memory, on single functions and on the plain models; no condition of their own. -/
import Derived.Test.YtkjlafpafmihaaaRows
import Derived.WalkKit
import Derived.ProofKit
import Derived.OpenShut
import Derived.SizedLaws
import Derived.WalkSpells
import Derived.WalkLawsBesides
import Derived.Handy
import Derived.Deep.QuietTactic
import Derived.BigQuiet
import Derived.Lib.Hide
import Derived.Maps.AppendAt
import Derived.Deep.AppendLies
import Derived.RegionTactic
import Derived.OwnWalk
import Derived.Laws.Tables
import Derived.Deep.MidRow
import Derived.StillTailTactics
import Derived.OrdersHeld
import Derived.Deep.RegionHeld3
import Derived.Laws.IdiomCopy
import Derived.ChangeKeysEq
import Derived.Laws.BitsAllLaws
import Derived.Deep.DeepCutAuto
import Derived.Deep.CutRange
import Derived.Shelf.SlSortCmp.WholeK
import Derived.Shelf.SlSortCmp.NoneTotal
import Derived.Shelf.SlicesG.Cmp
import Derived.Shelf.SlGeneric
import Derived.Ground.SlsfProg
import Derived.Ground.SlgcProg
import Derived.Maps.OwnSet
import Derived.Lib.SliceRun
import Derived.Deep.RegionLaw
import Derived.Test.YtkjlafpafmihaaaG10bc09417b62
import Derived.Test.YtkjlafpafmihaaaG19e1afd8d7e3
import Derived.Test.YtkjlafpafmihaaaG235dffc219c5
import Derived.Test.YtkjlafpafmihaaaG3266bb5701e5
import Derived.Test.YtkjlafpafmihaaaG53d9860cd554
import Derived.Test.YtkjlafpafmihaaaG5a4470397ed8
import Derived.Test.YtkjlafpafmihaaaG6c7d926bdf1e
import Derived.Test.YtkjlafpafmihaaaG8c8ada4b342a
import Derived.Test.YtkjlafpafmihaaaG8f0f2bb4e565
import Derived.Test.YtkjlafpafmihaaaG90f7600ce72e
import Derived.Test.YtkjlafpafmihaaaG9b85a56455eb
import Derived.Test.YtkjlafpafmihaaaGbea5e349a2aa
import Derived.Test.YtkjlafpafmihaaaGc91015c24562
import Derived.Test.YtkjlafpafmihaaaGcd1d2a0662d0
import Derived.Test.YtkjlafpafmihaaaGd5358a42e1a9
import Derived.Test.YtkjlafpafmihaaaGd7f7ec5356a9
import Derived.Test.YtkjlafpafmihaaaGdb62e807c2bc
import Derived.Test.YtkjlafpafmihaaaGe6a0dc259965
set_option linter.unusedVariables false
set_option linter.unusedSimpArgs false

namespace Go.Proofs.Ytkjlafpafmihaaa
open Go.ChangeShapes Go.WideShapes Go.RowKit

def WithPost (w : World) (ro ep fr tg rd : Int) (l : List Ev) (e : Ending) (w' : World) : Prop := ∃ A c, e = .returned (.agg #[.int .i64 ro, .int .i64 ep, .int .i64 fr, .int .i64 tg, .int .i64 rd, .slice A l.length c]) ∧ St w.heap.size w w' [.own 37 6 (.slice A l.length c) l.length (evCells l)]

set_option maxRecDepth 100000 in
set_option maxHeartbeats 1000000 in
theorem node_calls (n : Int) (w : World) :
    Calls Try.prog 161 #[.int .i64 n] w (BoolB w (decide (0 ≤ n ∧ n < 5))) := by
 have S := St.start w
 refine calls_of_wC (N := 9) (vs := [.int .i64 n]) Try.func161 rfl rfl rfl ?_
 refine wC_sub (l' := [(0, .int .i64 n)]) ⟨rfl, trivial⟩ (wC_seq (wC_region (wL_val (wn rfl) rfl rfl (y_assign rfl rfl) ?_)))
 refine wL_nil (wQ_then (wC_seq (wC_region (wL_val (wn rfl) rfl rfl (y_move rfl rfl) ?_))))
 by_cases h1 : 0 ≤ n
 ·refine wL_val (v := .bool true) (wn rfl) rfl rfl (y_binop rfl rfl rfl (r_geq_t h1)) ?_
  refine wL_val (wn rfl) rfl rfl (y_move rfl rfl) ?_
  refine wL_val (wg rfl rfl rfl rfl) rfl rfl (y_move rfl rfl) ?_
  by_cases h2 : n < 5
  ·refine wL_val (v := .bool true) (wg rfl rfl rfl rfl) rfl rfl (y_binop rfl rfl rfl (r_lss_t h2)) ?_
   refine wL_val (wn rfl) rfl rfl (y_pick_t rfl rfl rfl) ?_
   refine wL_val (wn rfl) rfl rfl (y_assign rfl rfl) ?_
   refine wL_nil (wQ_sub (l' := [(2, _)]) ⟨rfl, trivial⟩ (wQ_then (wC_ret (wQ_post (rs := [.tmp 2]) (vs := [.bool true]) rfl ⟨rfl, trivial⟩ ?_))))
   exact ⟨congrArg (fun b => Ending.returned (.bool b)) (decide_eq_true (by omega)).symm, S.low⟩
  ·refine wL_val (v := .bool false) (wg rfl rfl rfl rfl) rfl rfl (y_binop rfl rfl rfl (r_lss_f h2)) ?_
   refine wL_val (wn rfl) rfl rfl (y_pick_t rfl rfl rfl) ?_
   refine wL_val (wn rfl) rfl rfl (y_assign rfl rfl) ?_
   refine wL_nil (wQ_sub (l' := [(2, _)]) ⟨rfl, trivial⟩ (wQ_then (wC_ret (wQ_post (rs := [.tmp 2]) (vs := [.bool false]) rfl ⟨rfl, trivial⟩ ?_))))
   exact ⟨congrArg (fun b => Ending.returned (.bool b)) (decide_eq_false (by omega)).symm, S.low⟩
 ·refine wL_val (v := .bool false) (wn rfl) rfl rfl (y_binop rfl rfl rfl (r_geq_f h1)) ?_
  refine wL_val (wn rfl) rfl rfl (y_move rfl rfl) ?_
  refine wL_skip (wg rfl rfl rfl rfl) rfl rfl ?_
  refine wL_skip (wg rfl rfl rfl rfl) rfl rfl ?_
  refine wL_val (wn rfl) rfl rfl (y_pick_f rfl rfl rfl) ?_
  refine wL_val (wn rfl) rfl rfl (y_assign rfl rfl) ?_
  refine wL_nil (wQ_sub (l' := [(2, _)]) ⟨rfl, trivial⟩ (wQ_then (wC_ret (wQ_post (rs := [.tmp 2]) (vs := [.bool false]) rfl ⟨rfl, trivial⟩ ?_))))
  exact ⟨congrArg (fun b => Ending.returned (.bool b)) (decide_eq_false (by omega)).symm, S.low⟩

set_option maxRecDepth 100000 in
set_option maxHeartbeats 4000000 in
theorem shape_calls (ro ep fr tg rd : Int) (A : Option Addr) (c : Nat) (l : List Ev) (w : World) (h : Rd w w.heap.size 6 A l.length (evCells l)) (hl : l.length ≤ 1152921504606846976) :
    Calls Try.prog 155 #[.agg #[.int .i64 ro, .int .i64 ep, .int .i64 fr, .int .i64 tg, .int .i64 rd, .slice A l.length c]] w (BoolB w (decide (shapeB ⟨ro, ep, fr, tg, rd, l⟩))) := by
 have S := (St.start w).addRd h; clear h
 refine calls_of_wC (N := 110) (vs := [.agg #[.int .i64 ro, .int .i64 ep, .int .i64 fr, .int .i64 tg, .int .i64 rd, .slice A l.length c]]) Try.func155 rfl rfl rfl ?_
 refine wC_sub (l' := [(0, .agg #[.int .i64 ro, .int .i64 ep, .int .i64 fr, .int .i64 tg, .int .i64 rd, .slice A l.length c])]) ⟨rfl, trivial⟩ (wC_seq (wC_region (wL_new (V := fun b => .pointer (some ⟨b, 0, none⟩)) (row := #[.int .i64 ro, .int .i64 ep, .int .i64 fr, .int .i64 tg, .int .i64 rd, .slice A l.length c]) (t := 108) S (wn rfl) rfl rfl (d_box rfl rfl rfl) ?_))); intro b1 w2 S3; clear S
 refine wL_val (wn rfl) rfl rfl (y_assign rfl rfl) ?_
 refine wL_nil (wQ_sub (l' := [(1, _), (2, _)]) ⟨rfl, rfl, trivial⟩ (wQ_then (wC_seq (wC_seq (wC_region (wL_val (v := .pointer (some ⟨b1, 0, none⟩)) (wn rfl) rfl rfl (y_fieldAddr rfl rfl (fa108_0 _ _ _)) ?_))))))
 refine wL_val (wn rfl) rfl rfl (y_load rfl rfl (r_load Try.underlying3 rfl (St.cl 0 S3 rfl rfl))) ?_
 by_cases h4 : ro = 0
 ·refine wL_val (v := .bool true) (wn rfl) rfl rfl (y_binop rfl rfl rfl (r_eql_t h4)) ?_
  refine wL_nil (wQ_sub (l' := [(1, _), (2, _), (5, _)]) ⟨rfl, rfl, rfl, trivial⟩ (wQ_then (wC_cond_t rfl (wC_seq (wC_region (wL_val (v := .pointer (some ⟨b1, 1, none⟩)) (wn rfl) rfl rfl (y_fieldAddr rfl rfl (fa108_1 _ _ _)) ?_))))))
  refine wL_val (wn rfl) rfl rfl (y_load rfl rfl (r_load Try.underlying3 rfl (St.cl 0 S3 rfl rfl))) ?_
  by_cases h5 : 0 ≤ ep
  ·refine wL_val (v := .bool true) (wn rfl) rfl rfl (y_binop rfl rfl rfl (r_geq_t h5)) ?_
   refine wL_val (wn rfl) rfl rfl (y_move rfl rfl) ?_
   refine wL_val (v := .pointer (some ⟨b1, 1, none⟩)) (wg rfl rfl rfl rfl) rfl rfl (y_fieldAddr rfl rfl (fa108_1 _ _ _)) ?_
   refine wL_val (wg rfl rfl rfl rfl) rfl rfl (y_load rfl rfl (r_load Try.underlying3 rfl (St.cl 0 S3 rfl rfl))) ?_
   by_cases h6 : ep ≤ 1048576
   ·refine wL_val (v := .bool true) (wg rfl rfl rfl rfl) rfl rfl (y_binop rfl rfl rfl (r_leq_t h6)) ?_
    refine wL_val (wn rfl) rfl rfl (y_pick_t rfl rfl rfl) ?_
    refine wL_val (wn rfl) rfl rfl (y_move rfl rfl) ?_
    refine wL_val (v := .pointer (some ⟨b1, 2, none⟩)) (wg rfl rfl rfl rfl) rfl rfl (y_fieldAddr rfl rfl (fa108_2 _ _ _)) ?_
    refine wL_val (wg rfl rfl rfl rfl) rfl rfl (y_load rfl rfl (r_load Try.underlying3 rfl (St.cl 0 S3 rfl rfl))) ?_
    by_cases h7 : fr = 0
    ·refine wL_val (v := .bool true) (wg rfl rfl rfl rfl) rfl rfl (y_binop rfl rfl rfl (r_eql_t h7)) ?_
     refine wL_val (wn rfl) rfl rfl (y_pick_t rfl rfl rfl) ?_
     refine wL_val (wn rfl) rfl rfl (y_move rfl rfl) ?_
     refine wL_val (v := .pointer (some ⟨b1, 3, none⟩)) (wg rfl rfl rfl rfl) rfl rfl (y_fieldAddr rfl rfl (fa108_3 _ _ _)) ?_
     refine wL_val (wg rfl rfl rfl rfl) rfl rfl (y_load rfl rfl (r_load Try.underlying3 rfl (St.cl 0 S3 rfl rfl))) ?_
     by_cases h8 : tg = 0
     ·refine wL_val (v := .bool true) (wg rfl rfl rfl rfl) rfl rfl (y_binop rfl rfl rfl (r_eql_t h8)) ?_
      refine wL_val (wn rfl) rfl rfl (y_pick_t rfl rfl rfl) ?_
      refine wL_val (wn rfl) rfl rfl (y_move rfl rfl) ?_
      refine wL_val (v := .pointer (some ⟨b1, 4, none⟩)) (wg rfl rfl rfl rfl) rfl rfl (y_fieldAddr rfl rfl (fa108_4 _ _ _)) ?_
      refine wL_val (wg rfl rfl rfl rfl) rfl rfl (y_load rfl rfl (r_load Try.underlying3 rfl (St.cl 0 S3 rfl rfl))) ?_
      by_cases h9 : rd = 0
      ·refine wL_val (v := .bool true) (wg rfl rfl rfl rfl) rfl rfl (y_binop rfl rfl rfl (r_eql_t h9)) ?_
       refine wL_val (wn rfl) rfl rfl (y_pick_t rfl rfl rfl) ?_
       refine wL_val (wn rfl) rfl rfl (y_move rfl rfl) ?_
       refine wL_val (v := .pointer (some ⟨b1, 5, none⟩)) (wg rfl rfl rfl rfl) rfl rfl (y_fieldAddr rfl rfl (fa108_5 _ _ _)) ?_
       refine wL_val (wg rfl rfl rfl rfl) rfl rfl (y_load rfl rfl (r_load Try.underlying57 rfl (St.cl 0 S3 rfl rfl))) ?_
       refine wL_val (v := .int .i64 ((l.length : Nat) : Int)) (wg rfl rfl rfl rfl) rfl rfl (y_builtin (vs := [.slice A l.length c]) rfl ⟨rfl, trivial⟩ fun _ => r_len rfl Try.underlying57) ?_
       by_cases h10 : ((l.length : Nat) : Int) = 0
       ·refine wL_val (v := .bool true) (wg rfl rfl rfl rfl) rfl rfl (y_binop rfl rfl rfl (r_eql_t h10)) ?_
        refine wL_val (wn rfl) rfl rfl (y_pick_t rfl rfl rfl) ?_
        refine wL_val (wn rfl) rfl rfl (y_assign rfl rfl) ?_
        refine wL_nil (wQ_sub (l' := [(2, _)]) ⟨rfl, trivial⟩ (wQ_then (wC_ret (wQ_then_ret (wQ_post (rs := [.tmp 2]) (vs := [.bool true]) rfl ⟨rfl, trivial⟩ ?_)))))
        exact ⟨congrArg (fun b => Ending.returned (.bool b)) (decide_eq_true (by unfold shapeB; dsimp only; omega)).symm, S3.low⟩
       ·refine wL_val (v := .bool false) (wg rfl rfl rfl rfl) rfl rfl (y_binop rfl rfl rfl (r_eql_f h10)) ?_
        refine wL_val (wn rfl) rfl rfl (y_pick_t rfl rfl rfl) ?_
        refine wL_val (wn rfl) rfl rfl (y_assign rfl rfl) ?_
        refine wL_nil (wQ_sub (l' := [(2, _)]) ⟨rfl, trivial⟩ (wQ_then (wC_ret (wQ_then_ret (wQ_post (rs := [.tmp 2]) (vs := [.bool false]) rfl ⟨rfl, trivial⟩ ?_)))))
        exact ⟨congrArg (fun b => Ending.returned (.bool b)) (decide_eq_false (by unfold shapeB; dsimp only; omega)).symm, S3.low⟩
      ·refine wL_val (v := .bool false) (wg rfl rfl rfl rfl) rfl rfl (y_binop rfl rfl rfl (r_eql_f h9)) ?_
       refine wL_val (wn rfl) rfl rfl (y_pick_t rfl rfl rfl) ?_
       refine wL_val (wn rfl) rfl rfl (y_move rfl rfl) ?_
       refine wL_skip (wg rfl rfl rfl rfl) rfl rfl ?_
       refine wL_skip (wg rfl rfl rfl rfl) rfl rfl ?_
       refine wL_skip (wg rfl rfl rfl rfl) rfl rfl ?_
       refine wL_skip (wg rfl rfl rfl rfl) rfl rfl ?_
       refine wL_val (wn rfl) rfl rfl (y_pick_f rfl rfl rfl) ?_
       refine wL_val (wn rfl) rfl rfl (y_assign rfl rfl) ?_
       refine wL_nil (wQ_sub (l' := [(2, _)]) ⟨rfl, trivial⟩ (wQ_then (wC_ret (wQ_then_ret (wQ_post (rs := [.tmp 2]) (vs := [.bool false]) rfl ⟨rfl, trivial⟩ ?_)))))
       exact ⟨congrArg (fun b => Ending.returned (.bool b)) (decide_eq_false (by unfold shapeB; dsimp only; omega)).symm, S3.low⟩
     ·refine wL_val (v := .bool false) (wg rfl rfl rfl rfl) rfl rfl (y_binop rfl rfl rfl (r_eql_f h8)) ?_
      refine wL_val (wn rfl) rfl rfl (y_pick_t rfl rfl rfl) ?_
      refine wL_val (wn rfl) rfl rfl (y_move rfl rfl) ?_
      refine wL_skip (wg rfl rfl rfl rfl) rfl rfl ?_
      refine wL_skip (wg rfl rfl rfl rfl) rfl rfl ?_
      refine wL_skip (wg rfl rfl rfl rfl) rfl rfl ?_
      refine wL_val (wn rfl) rfl rfl (y_pick_f rfl rfl rfl) ?_
      refine wL_val (wn rfl) rfl rfl (y_move rfl rfl) ?_
      refine wL_skip (wg rfl rfl rfl rfl) rfl rfl ?_
      refine wL_skip (wg rfl rfl rfl rfl) rfl rfl ?_
      refine wL_skip (wg rfl rfl rfl rfl) rfl rfl ?_
      refine wL_skip (wg rfl rfl rfl rfl) rfl rfl ?_
      refine wL_val (wn rfl) rfl rfl (y_pick_f rfl rfl rfl) ?_
      refine wL_val (wn rfl) rfl rfl (y_assign rfl rfl) ?_
      refine wL_nil (wQ_sub (l' := [(2, _)]) ⟨rfl, trivial⟩ (wQ_then (wC_ret (wQ_then_ret (wQ_post (rs := [.tmp 2]) (vs := [.bool false]) rfl ⟨rfl, trivial⟩ ?_)))))
      exact ⟨congrArg (fun b => Ending.returned (.bool b)) (decide_eq_false (by unfold shapeB; dsimp only; omega)).symm, S3.low⟩
    ·refine wL_val (v := .bool false) (wg rfl rfl rfl rfl) rfl rfl (y_binop rfl rfl rfl (r_eql_f h7)) ?_
     refine wL_val (wn rfl) rfl rfl (y_pick_t rfl rfl rfl) ?_
     refine wL_val (wn rfl) rfl rfl (y_move rfl rfl) ?_
     refine wL_skip (wg rfl rfl rfl rfl) rfl rfl ?_
     refine wL_skip (wg rfl rfl rfl rfl) rfl rfl ?_
     refine wL_skip (wg rfl rfl rfl rfl) rfl rfl ?_
     refine wL_val (wn rfl) rfl rfl (y_pick_f rfl rfl rfl) ?_
     refine wL_val (wn rfl) rfl rfl (y_move rfl rfl) ?_
     refine wL_skip (wg rfl rfl rfl rfl) rfl rfl ?_
     refine wL_skip (wg rfl rfl rfl rfl) rfl rfl ?_
     refine wL_skip (wg rfl rfl rfl rfl) rfl rfl ?_
     refine wL_val (wn rfl) rfl rfl (y_pick_f rfl rfl rfl) ?_
     refine wL_val (wn rfl) rfl rfl (y_move rfl rfl) ?_
     refine wL_skip (wg rfl rfl rfl rfl) rfl rfl ?_
     refine wL_skip (wg rfl rfl rfl rfl) rfl rfl ?_
     refine wL_skip (wg rfl rfl rfl rfl) rfl rfl ?_
     refine wL_skip (wg rfl rfl rfl rfl) rfl rfl ?_
     refine wL_val (wn rfl) rfl rfl (y_pick_f rfl rfl rfl) ?_
     refine wL_val (wn rfl) rfl rfl (y_assign rfl rfl) ?_
     refine wL_nil (wQ_sub (l' := [(2, _)]) ⟨rfl, trivial⟩ (wQ_then (wC_ret (wQ_then_ret (wQ_post (rs := [.tmp 2]) (vs := [.bool false]) rfl ⟨rfl, trivial⟩ ?_)))))
     exact ⟨congrArg (fun b => Ending.returned (.bool b)) (decide_eq_false (by unfold shapeB; dsimp only; omega)).symm, S3.low⟩
   ·refine wL_val (v := .bool false) (wg rfl rfl rfl rfl) rfl rfl (y_binop rfl rfl rfl (r_leq_f h6)) ?_
    refine wL_val (wn rfl) rfl rfl (y_pick_t rfl rfl rfl) ?_
    refine wL_val (wn rfl) rfl rfl (y_move rfl rfl) ?_
    refine wL_skip (wg rfl rfl rfl rfl) rfl rfl ?_
    refine wL_skip (wg rfl rfl rfl rfl) rfl rfl ?_
    refine wL_skip (wg rfl rfl rfl rfl) rfl rfl ?_
    refine wL_val (wn rfl) rfl rfl (y_pick_f rfl rfl rfl) ?_
    refine wL_val (wn rfl) rfl rfl (y_move rfl rfl) ?_
    refine wL_skip (wg rfl rfl rfl rfl) rfl rfl ?_
    refine wL_skip (wg rfl rfl rfl rfl) rfl rfl ?_
    refine wL_skip (wg rfl rfl rfl rfl) rfl rfl ?_
    refine wL_val (wn rfl) rfl rfl (y_pick_f rfl rfl rfl) ?_
    refine wL_val (wn rfl) rfl rfl (y_move rfl rfl) ?_
    refine wL_skip (wg rfl rfl rfl rfl) rfl rfl ?_
    refine wL_skip (wg rfl rfl rfl rfl) rfl rfl ?_
    refine wL_skip (wg rfl rfl rfl rfl) rfl rfl ?_
    refine wL_val (wn rfl) rfl rfl (y_pick_f rfl rfl rfl) ?_
    refine wL_val (wn rfl) rfl rfl (y_move rfl rfl) ?_
    refine wL_skip (wg rfl rfl rfl rfl) rfl rfl ?_
    refine wL_skip (wg rfl rfl rfl rfl) rfl rfl ?_
    refine wL_skip (wg rfl rfl rfl rfl) rfl rfl ?_
    refine wL_skip (wg rfl rfl rfl rfl) rfl rfl ?_
    refine wL_val (wn rfl) rfl rfl (y_pick_f rfl rfl rfl) ?_
    refine wL_val (wn rfl) rfl rfl (y_assign rfl rfl) ?_
    refine wL_nil (wQ_sub (l' := [(2, _)]) ⟨rfl, trivial⟩ (wQ_then (wC_ret (wQ_then_ret (wQ_post (rs := [.tmp 2]) (vs := [.bool false]) rfl ⟨rfl, trivial⟩ ?_)))))
    exact ⟨congrArg (fun b => Ending.returned (.bool b)) (decide_eq_false (by unfold shapeB; dsimp only; omega)).symm, S3.low⟩
  ·refine wL_val (v := .bool false) (wn rfl) rfl rfl (y_binop rfl rfl rfl (r_geq_f h5)) ?_
   refine wL_val (wn rfl) rfl rfl (y_move rfl rfl) ?_
   refine wL_skip (wg rfl rfl rfl rfl) rfl rfl ?_
   refine wL_skip (wg rfl rfl rfl rfl) rfl rfl ?_
   refine wL_skip (wg rfl rfl rfl rfl) rfl rfl ?_
   refine wL_val (wn rfl) rfl rfl (y_pick_f rfl rfl rfl) ?_
   refine wL_val (wn rfl) rfl rfl (y_move rfl rfl) ?_
   refine wL_skip (wg rfl rfl rfl rfl) rfl rfl ?_
   refine wL_skip (wg rfl rfl rfl rfl) rfl rfl ?_
   refine wL_skip (wg rfl rfl rfl rfl) rfl rfl ?_
   refine wL_val (wn rfl) rfl rfl (y_pick_f rfl rfl rfl) ?_
   refine wL_val (wn rfl) rfl rfl (y_move rfl rfl) ?_
   refine wL_skip (wg rfl rfl rfl rfl) rfl rfl ?_
   refine wL_skip (wg rfl rfl rfl rfl) rfl rfl ?_
   refine wL_skip (wg rfl rfl rfl rfl) rfl rfl ?_
   refine wL_val (wn rfl) rfl rfl (y_pick_f rfl rfl rfl) ?_
   refine wL_val (wn rfl) rfl rfl (y_move rfl rfl) ?_
   refine wL_skip (wg rfl rfl rfl rfl) rfl rfl ?_
   refine wL_skip (wg rfl rfl rfl rfl) rfl rfl ?_
   refine wL_skip (wg rfl rfl rfl rfl) rfl rfl ?_
   refine wL_val (wn rfl) rfl rfl (y_pick_f rfl rfl rfl) ?_
   refine wL_val (wn rfl) rfl rfl (y_move rfl rfl) ?_
   refine wL_skip (wg rfl rfl rfl rfl) rfl rfl ?_
   refine wL_skip (wg rfl rfl rfl rfl) rfl rfl ?_
   refine wL_skip (wg rfl rfl rfl rfl) rfl rfl ?_
   refine wL_skip (wg rfl rfl rfl rfl) rfl rfl ?_
   refine wL_val (wn rfl) rfl rfl (y_pick_f rfl rfl rfl) ?_
   refine wL_val (wn rfl) rfl rfl (y_assign rfl rfl) ?_
   refine wL_nil (wQ_sub (l' := [(2, _)]) ⟨rfl, trivial⟩ (wQ_then (wC_ret (wQ_then_ret (wQ_post (rs := [.tmp 2]) (vs := [.bool false]) rfl ⟨rfl, trivial⟩ ?_)))))
   exact ⟨congrArg (fun b => Ending.returned (.bool b)) (decide_eq_false (by unfold shapeB; dsimp only; omega)).symm, S3.low⟩
 ·refine wL_val (v := .bool false) (wn rfl) rfl rfl (y_binop rfl rfl rfl (r_eql_f h4)) ?_
  refine wL_nil (wQ_sub (l' := [(1, _), (2, _), (5, _)]) ⟨rfl, rfl, rfl, trivial⟩ (wQ_then (wC_cond_f rfl (wC_skip (wQ_then (wC_seq (wC_seq (wC_region (wL_val (v := .pointer (some ⟨b1, 1, none⟩)) (wn rfl) rfl rfl (y_fieldAddr rfl rfl (fa108_1 _ _ _)) ?_)))))))))
  refine wL_val (wn rfl) rfl rfl (y_load rfl rfl (r_load Try.underlying3 rfl (St.cl 0 S3 rfl rfl))) ?_
  by_cases h11 : ep < 1
  ·refine wL_val (v := .bool true) (wn rfl) rfl rfl (y_binop rfl rfl rfl (r_lss_t h11)) ?_
   refine wL_val (wn rfl) rfl rfl (y_move rfl rfl) ?_
   refine wL_skip (wg rfl rfl rfl rfl) rfl rfl ?_
   refine wL_skip (wg rfl rfl rfl rfl) rfl rfl ?_
   refine wL_skip (wg rfl rfl rfl rfl) rfl rfl ?_
   refine wL_val (wn rfl) rfl rfl (y_pick_t rfl rfl rfl) ?_
   refine wL_nil (wQ_sub (l' := [(1, _), (2, _), (42, _)]) ⟨rfl, rfl, rfl, trivial⟩ (wQ_then (wC_cond_t rfl (wC_seq (wC_region (wL_val (wn rfl) rfl rfl (y_assign rfl rfl) ?_))))))
   refine wL_nil (wQ_sub (l' := [(2, _)]) ⟨rfl, trivial⟩ (wQ_then (wC_ret (wQ_then_ret (wQ_post (rs := [.tmp 2]) (vs := [.bool false]) rfl ⟨rfl, trivial⟩ ?_)))))
   exact ⟨congrArg (fun b => Ending.returned (.bool b)) (decide_eq_false (by unfold shapeB; dsimp only; omega)).symm, S3.low⟩
  ·refine wL_val (v := .bool false) (wn rfl) rfl rfl (y_binop rfl rfl rfl (r_lss_f h11)) ?_
   refine wL_val (wn rfl) rfl rfl (y_move rfl rfl) ?_
   refine wL_val (v := .pointer (some ⟨b1, 1, none⟩)) (wg rfl rfl rfl rfl) rfl rfl (y_fieldAddr rfl rfl (fa108_1 _ _ _)) ?_
   refine wL_val (wg rfl rfl rfl rfl) rfl rfl (y_load rfl rfl (r_load Try.underlying3 rfl (St.cl 0 S3 rfl rfl))) ?_
   by_cases h12 : 1048576 < ep
   ·refine wL_val (v := .bool true) (wg rfl rfl rfl rfl) rfl rfl (y_binop rfl rfl rfl (r_gtr_t h12)) ?_
    refine wL_val (wn rfl) rfl rfl (y_pick_f rfl rfl rfl) ?_
    refine wL_nil (wQ_sub (l' := [(1, _), (2, _), (42, _)]) ⟨rfl, rfl, rfl, trivial⟩ (wQ_then (wC_cond_t rfl (wC_seq (wC_region (wL_val (wn rfl) rfl rfl (y_assign rfl rfl) ?_))))))
    refine wL_nil (wQ_sub (l' := [(2, _)]) ⟨rfl, trivial⟩ (wQ_then (wC_ret (wQ_then_ret (wQ_post (rs := [.tmp 2]) (vs := [.bool false]) rfl ⟨rfl, trivial⟩ ?_)))))
    exact ⟨congrArg (fun b => Ending.returned (.bool b)) (decide_eq_false (by unfold shapeB; dsimp only; omega)).symm, S3.low⟩
   ·refine wL_val (v := .bool false) (wg rfl rfl rfl rfl) rfl rfl (y_binop rfl rfl rfl (r_gtr_f h12)) ?_
    refine wL_val (wn rfl) rfl rfl (y_pick_f rfl rfl rfl) ?_
    refine wL_nil (wQ_sub (l' := [(1, _), (2, _), (42, _)]) ⟨rfl, rfl, rfl, trivial⟩ (wQ_then (wC_cond_f rfl (wC_skip (wQ_then (wC_seq (wC_seq (wC_region (wL_val (v := .pointer (some ⟨b1, 0, none⟩)) (wn rfl) rfl rfl (y_fieldAddr rfl rfl (fa108_0 _ _ _)) ?_)))))))))
    refine wL_val (wn rfl) rfl rfl (y_load rfl rfl (r_load Try.underlying3 rfl (St.cl 0 S3 rfl rfl))) ?_
    refine wL_nil (wQ_sub (l' := [(1, _), (2, _), (44, _)]) ⟨rfl, rfl, rfl, trivial⟩ (wQ_then (wC_block (wC_seq (wC_region ?_)))))
    by_cases h13 : ro = 1
    ·refine wL_val (v := .bool true) (wn rfl) rfl rfl (y_binop rfl rfl rfl (r_eql_t h13)) ?_
     refine wL_val (wn rfl) rfl rfl (y_assign rfl rfl) ?_
     refine wL_nil (wQ_sub (l' := [(1, _), (2, _), (44, _), (45, _)]) ⟨rfl, rfl, rfl, rfl, trivial⟩ (wQ_then (wC_cond_t rfl (wC_seq (wC_region (wL_val (v := .pointer (some ⟨b1, 2, none⟩)) (wn rfl) rfl rfl (y_fieldAddr rfl rfl (fa108_2 _ _ _)) ?_))))))
     refine wL_val (wn rfl) rfl rfl (y_load rfl rfl (r_load Try.underlying3 rfl (St.cl 0 S3 rfl rfl))) ?_
     by_cases h14 : fr = 0
     ·refine wL_val (v := .bool true) (wn rfl) rfl rfl (y_binop rfl rfl rfl (r_eql_t h14)) ?_
      refine wL_val (wn rfl) rfl rfl (y_move rfl rfl) ?_
      refine wL_val (v := .pointer (some ⟨b1, 3, none⟩)) (wg rfl rfl rfl rfl) rfl rfl (y_fieldAddr rfl rfl (fa108_3 _ _ _)) ?_
      refine wL_val (wg rfl rfl rfl rfl) rfl rfl (y_load rfl rfl (r_load Try.underlying3 rfl (St.cl 0 S3 rfl rfl))) ?_
      by_cases h15 : tg = 0
      ·refine wL_val (v := .bool true) (wg rfl rfl rfl rfl) rfl rfl (y_binop rfl rfl rfl (r_eql_t h15)) ?_
       refine wL_val (wn rfl) rfl rfl (y_pick_t rfl rfl rfl) ?_
       refine wL_val (wn rfl) rfl rfl (y_move rfl rfl) ?_
       refine wL_val (v := .pointer (some ⟨b1, 4, none⟩)) (wg rfl rfl rfl rfl) rfl rfl (y_fieldAddr rfl rfl (fa108_4 _ _ _)) ?_
       refine wL_val (wg rfl rfl rfl rfl) rfl rfl (y_load rfl rfl (r_load Try.underlying3 rfl (St.cl 0 S3 rfl rfl))) ?_
       by_cases h16 : rd = 0
       ·refine wL_val (v := .bool true) (wg rfl rfl rfl rfl) rfl rfl (y_binop rfl rfl rfl (r_eql_t h16)) ?_
        refine wL_val (wn rfl) rfl rfl (y_pick_t rfl rfl rfl) ?_
        refine wL_val (wn rfl) rfl rfl (y_assign rfl rfl) ?_
        refine wL_nil (wQ_sub (l' := [(2, _)]) ⟨rfl, trivial⟩ (wQ_then (wC_ret (wQ_blk_ret (wQ_then_ret (wQ_post (rs := [.tmp 2]) (vs := [.bool true]) rfl ⟨rfl, trivial⟩ ?_))))))
        exact ⟨congrArg (fun b => Ending.returned (.bool b)) (decide_eq_true (by unfold shapeB; dsimp only; omega)).symm, S3.low⟩
       ·refine wL_val (v := .bool false) (wg rfl rfl rfl rfl) rfl rfl (y_binop rfl rfl rfl (r_eql_f h16)) ?_
        refine wL_val (wn rfl) rfl rfl (y_pick_t rfl rfl rfl) ?_
        refine wL_val (wn rfl) rfl rfl (y_assign rfl rfl) ?_
        refine wL_nil (wQ_sub (l' := [(2, _)]) ⟨rfl, trivial⟩ (wQ_then (wC_ret (wQ_blk_ret (wQ_then_ret (wQ_post (rs := [.tmp 2]) (vs := [.bool false]) rfl ⟨rfl, trivial⟩ ?_))))))
        exact ⟨congrArg (fun b => Ending.returned (.bool b)) (decide_eq_false (by unfold shapeB; dsimp only; omega)).symm, S3.low⟩
      ·refine wL_val (v := .bool false) (wg rfl rfl rfl rfl) rfl rfl (y_binop rfl rfl rfl (r_eql_f h15)) ?_
       refine wL_val (wn rfl) rfl rfl (y_pick_t rfl rfl rfl) ?_
       refine wL_val (wn rfl) rfl rfl (y_move rfl rfl) ?_
       refine wL_skip (wg rfl rfl rfl rfl) rfl rfl ?_
       refine wL_skip (wg rfl rfl rfl rfl) rfl rfl ?_
       refine wL_skip (wg rfl rfl rfl rfl) rfl rfl ?_
       refine wL_val (wn rfl) rfl rfl (y_pick_f rfl rfl rfl) ?_
       refine wL_val (wn rfl) rfl rfl (y_assign rfl rfl) ?_
       refine wL_nil (wQ_sub (l' := [(2, _)]) ⟨rfl, trivial⟩ (wQ_then (wC_ret (wQ_blk_ret (wQ_then_ret (wQ_post (rs := [.tmp 2]) (vs := [.bool false]) rfl ⟨rfl, trivial⟩ ?_))))))
       exact ⟨congrArg (fun b => Ending.returned (.bool b)) (decide_eq_false (by unfold shapeB; dsimp only; omega)).symm, S3.low⟩
     ·refine wL_val (v := .bool false) (wn rfl) rfl rfl (y_binop rfl rfl rfl (r_eql_f h14)) ?_
      refine wL_val (wn rfl) rfl rfl (y_move rfl rfl) ?_
      refine wL_skip (wg rfl rfl rfl rfl) rfl rfl ?_
      refine wL_skip (wg rfl rfl rfl rfl) rfl rfl ?_
      refine wL_skip (wg rfl rfl rfl rfl) rfl rfl ?_
      refine wL_val (wn rfl) rfl rfl (y_pick_f rfl rfl rfl) ?_
      refine wL_val (wn rfl) rfl rfl (y_move rfl rfl) ?_
      refine wL_skip (wg rfl rfl rfl rfl) rfl rfl ?_
      refine wL_skip (wg rfl rfl rfl rfl) rfl rfl ?_
      refine wL_skip (wg rfl rfl rfl rfl) rfl rfl ?_
      refine wL_val (wn rfl) rfl rfl (y_pick_f rfl rfl rfl) ?_
      refine wL_val (wn rfl) rfl rfl (y_assign rfl rfl) ?_
      refine wL_nil (wQ_sub (l' := [(2, _)]) ⟨rfl, trivial⟩ (wQ_then (wC_ret (wQ_blk_ret (wQ_then_ret (wQ_post (rs := [.tmp 2]) (vs := [.bool false]) rfl ⟨rfl, trivial⟩ ?_))))))
      exact ⟨congrArg (fun b => Ending.returned (.bool b)) (decide_eq_false (by unfold shapeB; dsimp only; omega)).symm, S3.low⟩
    ·refine wL_val (v := .bool false) (wn rfl) rfl rfl (y_binop rfl rfl rfl (r_eql_f h13)) ?_
     refine wL_val (wn rfl) rfl rfl (y_assign rfl rfl) ?_
     refine wL_nil (wQ_sub (l' := [(1, _), (2, _), (44, _), (45, _)]) ⟨rfl, rfl, rfl, rfl, trivial⟩ (wQ_then (wC_cond_f rfl (wC_seq (wC_region ?_)))))
     by_cases h17 : ro = 2
     ·refine wL_val (v := .bool true) (wn rfl) rfl rfl (y_binop rfl rfl rfl (r_eql_t h17)) ?_
      refine wL_val (wn rfl) rfl rfl (y_assign rfl rfl) ?_
      refine wL_nil (wQ_sub (l' := [(1, _), (2, _), (44, _), (60, _)]) ⟨rfl, rfl, rfl, rfl, trivial⟩ (wQ_then (wC_cond_t rfl (wC_seq (wC_region (wL_val (v := .pointer (some ⟨b1, 2, none⟩)) (wn rfl) rfl rfl (y_fieldAddr rfl rfl (fa108_2 _ _ _)) ?_))))))
      refine wL_val (wn rfl) rfl rfl (y_load rfl rfl (r_load Try.underlying3 rfl (St.cl 0 S3 rfl rfl))) ?_
      by_cases h18 : fr = 0
      ·refine wL_val (v := .bool true) (wn rfl) rfl rfl (y_binop rfl rfl rfl (r_eql_t h18)) ?_
       refine wL_val (wn rfl) rfl rfl (y_move rfl rfl) ?_
       refine wL_val (v := .pointer (some ⟨b1, 3, none⟩)) (wg rfl rfl rfl rfl) rfl rfl (y_fieldAddr rfl rfl (fa108_3 _ _ _)) ?_
       refine wL_val (wg rfl rfl rfl rfl) rfl rfl (y_load rfl rfl (r_load Try.underlying3 rfl (St.cl 0 S3 rfl rfl))) ?_
       by_cases hp19 : 0 ≤ tg ∧ tg < 5
       ·have HC20 := fun (w : World) => node_calls tg w
        rw [decide_eq_true hp19] at HC20
        refine wL_call (vs := [.int .i64 tg]) (wg rfl rfl rfl rfl) rfl rfl (e_call (vs := [.int .i64 tg]) rfl en161 ⟨rfl, trivial⟩) (HC20 _) ?_
        rintro _ w21 ⟨rfl, hb23⟩
        refine ⟨_, rfl, ?_⟩
        have S22 := S3.on hb23; clear hb23 S3; clear HC20
        refine wL_val (wn rfl) rfl rfl (y_pick_t rfl rfl rfl) ?_
        refine wL_val (wn rfl) rfl rfl (y_move rfl rfl) ?_
        refine wL_val (v := .pointer (some ⟨b1, 4, none⟩)) (wg rfl rfl rfl rfl) rfl rfl (y_fieldAddr rfl rfl (fa108_4 _ _ _)) ?_
        refine wL_val (wg rfl rfl rfl rfl) rfl rfl (y_load rfl rfl (r_load Try.underlying3 rfl (St.cl 0 S22 rfl rfl))) ?_
        by_cases h24 : 0 ≤ rd
        ·refine wL_val (v := .bool true) (wg rfl rfl rfl rfl) rfl rfl (y_binop rfl rfl rfl (r_geq_t h24)) ?_
         refine wL_val (wn rfl) rfl rfl (y_pick_t rfl rfl rfl) ?_
         refine wL_val (wn rfl) rfl rfl (y_move rfl rfl) ?_
         refine wL_val (v := .pointer (some ⟨b1, 4, none⟩)) (wg rfl rfl rfl rfl) rfl rfl (y_fieldAddr rfl rfl (fa108_4 _ _ _)) ?_
         refine wL_val (wg rfl rfl rfl rfl) rfl rfl (y_load rfl rfl (r_load Try.underlying3 rfl (St.cl 0 S22 rfl rfl))) ?_
         by_cases h25 : rd ≤ 4
         ·refine wL_val (v := .bool true) (wg rfl rfl rfl rfl) rfl rfl (y_binop rfl rfl rfl (r_leq_t h25)) ?_
          refine wL_val (wn rfl) rfl rfl (y_pick_t rfl rfl rfl) ?_
          refine wL_val (wn rfl) rfl rfl (y_assign rfl rfl) ?_
          refine wL_nil (wQ_sub (l' := [(2, _)]) ⟨rfl, trivial⟩ (wQ_then (wC_ret (wQ_blk_ret (wQ_then_ret (wQ_post (rs := [.tmp 2]) (vs := [.bool true]) rfl ⟨rfl, trivial⟩ ?_))))))
          exact ⟨congrArg (fun b => Ending.returned (.bool b)) (decide_eq_true (by unfold shapeB; dsimp only; omega)).symm, S22.low⟩
         ·refine wL_val (v := .bool false) (wg rfl rfl rfl rfl) rfl rfl (y_binop rfl rfl rfl (r_leq_f h25)) ?_
          refine wL_val (wn rfl) rfl rfl (y_pick_t rfl rfl rfl) ?_
          refine wL_val (wn rfl) rfl rfl (y_assign rfl rfl) ?_
          refine wL_nil (wQ_sub (l' := [(2, _)]) ⟨rfl, trivial⟩ (wQ_then (wC_ret (wQ_blk_ret (wQ_then_ret (wQ_post (rs := [.tmp 2]) (vs := [.bool false]) rfl ⟨rfl, trivial⟩ ?_))))))
          exact ⟨congrArg (fun b => Ending.returned (.bool b)) (decide_eq_false (by unfold shapeB; dsimp only; omega)).symm, S22.low⟩
        ·refine wL_val (v := .bool false) (wg rfl rfl rfl rfl) rfl rfl (y_binop rfl rfl rfl (r_geq_f h24)) ?_
         refine wL_val (wn rfl) rfl rfl (y_pick_t rfl rfl rfl) ?_
         refine wL_val (wn rfl) rfl rfl (y_move rfl rfl) ?_
         refine wL_skip (wg rfl rfl rfl rfl) rfl rfl ?_
         refine wL_skip (wg rfl rfl rfl rfl) rfl rfl ?_
         refine wL_skip (wg rfl rfl rfl rfl) rfl rfl ?_
         refine wL_val (wn rfl) rfl rfl (y_pick_f rfl rfl rfl) ?_
         refine wL_val (wn rfl) rfl rfl (y_assign rfl rfl) ?_
         refine wL_nil (wQ_sub (l' := [(2, _)]) ⟨rfl, trivial⟩ (wQ_then (wC_ret (wQ_blk_ret (wQ_then_ret (wQ_post (rs := [.tmp 2]) (vs := [.bool false]) rfl ⟨rfl, trivial⟩ ?_))))))
         exact ⟨congrArg (fun b => Ending.returned (.bool b)) (decide_eq_false (by unfold shapeB; dsimp only; omega)).symm, S22.low⟩
       ·have HC26 := fun (w : World) => node_calls tg w
        rw [decide_eq_false hp19] at HC26
        refine wL_call (vs := [.int .i64 tg]) (wg rfl rfl rfl rfl) rfl rfl (e_call (vs := [.int .i64 tg]) rfl en161 ⟨rfl, trivial⟩) (HC26 _) ?_
        rintro _ w27 ⟨rfl, hb29⟩
        refine ⟨_, rfl, ?_⟩
        have S28 := S3.on hb29; clear hb29 S3; clear HC26
        refine wL_val (wn rfl) rfl rfl (y_pick_t rfl rfl rfl) ?_
        refine wL_val (wn rfl) rfl rfl (y_move rfl rfl) ?_
        refine wL_skip (wg rfl rfl rfl rfl) rfl rfl ?_
        refine wL_skip (wg rfl rfl rfl rfl) rfl rfl ?_
        refine wL_skip (wg rfl rfl rfl rfl) rfl rfl ?_
        refine wL_val (wn rfl) rfl rfl (y_pick_f rfl rfl rfl) ?_
        refine wL_val (wn rfl) rfl rfl (y_move rfl rfl) ?_
        refine wL_skip (wg rfl rfl rfl rfl) rfl rfl ?_
        refine wL_skip (wg rfl rfl rfl rfl) rfl rfl ?_
        refine wL_skip (wg rfl rfl rfl rfl) rfl rfl ?_
        refine wL_val (wn rfl) rfl rfl (y_pick_f rfl rfl rfl) ?_
        refine wL_val (wn rfl) rfl rfl (y_assign rfl rfl) ?_
        refine wL_nil (wQ_sub (l' := [(2, _)]) ⟨rfl, trivial⟩ (wQ_then (wC_ret (wQ_blk_ret (wQ_then_ret (wQ_post (rs := [.tmp 2]) (vs := [.bool false]) rfl ⟨rfl, trivial⟩ ?_))))))
        exact ⟨congrArg (fun b => Ending.returned (.bool b)) (decide_eq_false (by unfold shapeB; dsimp only; omega)).symm, S28.low⟩
      ·refine wL_val (v := .bool false) (wn rfl) rfl rfl (y_binop rfl rfl rfl (r_eql_f h18)) ?_
       refine wL_val (wn rfl) rfl rfl (y_move rfl rfl) ?_
       refine wL_skip (wg rfl rfl rfl rfl) rfl rfl ?_
       refine wL_skip (wg rfl rfl rfl rfl) rfl rfl ?_
       refine wL_skip (wg rfl rfl rfl rfl) rfl rfl ?_
       refine wL_val (wn rfl) rfl rfl (y_pick_f rfl rfl rfl) ?_
       refine wL_val (wn rfl) rfl rfl (y_move rfl rfl) ?_
       refine wL_skip (wg rfl rfl rfl rfl) rfl rfl ?_
       refine wL_skip (wg rfl rfl rfl rfl) rfl rfl ?_
       refine wL_skip (wg rfl rfl rfl rfl) rfl rfl ?_
       refine wL_val (wn rfl) rfl rfl (y_pick_f rfl rfl rfl) ?_
       refine wL_val (wn rfl) rfl rfl (y_move rfl rfl) ?_
       refine wL_skip (wg rfl rfl rfl rfl) rfl rfl ?_
       refine wL_skip (wg rfl rfl rfl rfl) rfl rfl ?_
       refine wL_skip (wg rfl rfl rfl rfl) rfl rfl ?_
       refine wL_val (wn rfl) rfl rfl (y_pick_f rfl rfl rfl) ?_
       refine wL_val (wn rfl) rfl rfl (y_assign rfl rfl) ?_
       refine wL_nil (wQ_sub (l' := [(2, _)]) ⟨rfl, trivial⟩ (wQ_then (wC_ret (wQ_blk_ret (wQ_then_ret (wQ_post (rs := [.tmp 2]) (vs := [.bool false]) rfl ⟨rfl, trivial⟩ ?_))))))
       exact ⟨congrArg (fun b => Ending.returned (.bool b)) (decide_eq_false (by unfold shapeB; dsimp only; omega)).symm, S3.low⟩
     ·refine wL_val (v := .bool false) (wn rfl) rfl rfl (y_binop rfl rfl rfl (r_eql_f h17)) ?_
      refine wL_val (wn rfl) rfl rfl (y_assign rfl rfl) ?_
      refine wL_nil (wQ_sub (l' := [(1, _), (2, _), (44, _), (60, _)]) ⟨rfl, rfl, rfl, rfl, trivial⟩ (wQ_then (wC_cond_f rfl (wC_seq (wC_region ?_)))))
      by_cases h30 : ro = 3
      ·refine wL_val (v := .bool true) (wn rfl) rfl rfl (y_binop rfl rfl rfl (r_eql_t h30)) ?_
       refine wL_val (wn rfl) rfl rfl (y_assign rfl rfl) ?_
       refine wL_nil (wQ_sub (l' := [(1, _), (2, _), (44, _), (80, _)]) ⟨rfl, rfl, rfl, rfl, trivial⟩ (wQ_then (wC_cond_t rfl (wC_seq (wC_region (wL_val (v := .pointer (some ⟨b1, 2, none⟩)) (wn rfl) rfl rfl (y_fieldAddr rfl rfl (fa108_2 _ _ _)) ?_))))))
       refine wL_val (wn rfl) rfl rfl (y_load rfl rfl (r_load Try.underlying3 rfl (St.cl 0 S3 rfl rfl))) ?_
       by_cases h31 : fr = 0
       ·refine wL_val (v := .bool true) (wn rfl) rfl rfl (y_binop rfl rfl rfl (r_eql_t h31)) ?_
        refine wL_val (wn rfl) rfl rfl (y_move rfl rfl) ?_
        refine wL_val (v := .pointer (some ⟨b1, 3, none⟩)) (wg rfl rfl rfl rfl) rfl rfl (y_fieldAddr rfl rfl (fa108_3 _ _ _)) ?_
        refine wL_val (wg rfl rfl rfl rfl) rfl rfl (y_load rfl rfl (r_load Try.underlying3 rfl (St.cl 0 S3 rfl rfl))) ?_
        by_cases hp32 : 0 ≤ tg ∧ tg < 5
        ·have HC33 := fun (w : World) => node_calls tg w
         rw [decide_eq_true hp32] at HC33
         refine wL_call (vs := [.int .i64 tg]) (wg rfl rfl rfl rfl) rfl rfl (e_call (vs := [.int .i64 tg]) rfl en161 ⟨rfl, trivial⟩) (HC33 _) ?_
         rintro _ w34 ⟨rfl, hb36⟩
         refine ⟨_, rfl, ?_⟩
         have S35 := S3.on hb36; clear hb36 S3; clear HC33
         refine wL_val (wn rfl) rfl rfl (y_pick_t rfl rfl rfl) ?_
         refine wL_val (wn rfl) rfl rfl (y_move rfl rfl) ?_
         refine wL_val (v := .pointer (some ⟨b1, 4, none⟩)) (wg rfl rfl rfl rfl) rfl rfl (y_fieldAddr rfl rfl (fa108_4 _ _ _)) ?_
         refine wL_val (wg rfl rfl rfl rfl) rfl rfl (y_load rfl rfl (r_load Try.underlying3 rfl (St.cl 0 S35 rfl rfl))) ?_
         by_cases h37 : rd = 0
         ·refine wL_val (v := .bool true) (wg rfl rfl rfl rfl) rfl rfl (y_binop rfl rfl rfl (r_eql_t h37)) ?_
          refine wL_val (wn rfl) rfl rfl (y_pick_t rfl rfl rfl) ?_
          refine wL_val (wn rfl) rfl rfl (y_assign rfl rfl) ?_
          refine wL_nil (wQ_sub (l' := [(2, _)]) ⟨rfl, trivial⟩ (wQ_then (wC_ret (wQ_blk_ret (wQ_then_ret (wQ_post (rs := [.tmp 2]) (vs := [.bool true]) rfl ⟨rfl, trivial⟩ ?_))))))
          exact ⟨congrArg (fun b => Ending.returned (.bool b)) (decide_eq_true (by unfold shapeB; dsimp only; omega)).symm, S35.low⟩
         ·refine wL_val (v := .bool false) (wg rfl rfl rfl rfl) rfl rfl (y_binop rfl rfl rfl (r_eql_f h37)) ?_
          refine wL_val (wn rfl) rfl rfl (y_pick_t rfl rfl rfl) ?_
          refine wL_val (wn rfl) rfl rfl (y_assign rfl rfl) ?_
          refine wL_nil (wQ_sub (l' := [(2, _)]) ⟨rfl, trivial⟩ (wQ_then (wC_ret (wQ_blk_ret (wQ_then_ret (wQ_post (rs := [.tmp 2]) (vs := [.bool false]) rfl ⟨rfl, trivial⟩ ?_))))))
          exact ⟨congrArg (fun b => Ending.returned (.bool b)) (decide_eq_false (by unfold shapeB; dsimp only; omega)).symm, S35.low⟩
        ·have HC38 := fun (w : World) => node_calls tg w
         rw [decide_eq_false hp32] at HC38
         refine wL_call (vs := [.int .i64 tg]) (wg rfl rfl rfl rfl) rfl rfl (e_call (vs := [.int .i64 tg]) rfl en161 ⟨rfl, trivial⟩) (HC38 _) ?_
         rintro _ w39 ⟨rfl, hb41⟩
         refine ⟨_, rfl, ?_⟩
         have S40 := S3.on hb41; clear hb41 S3; clear HC38
         refine wL_val (wn rfl) rfl rfl (y_pick_t rfl rfl rfl) ?_
         refine wL_val (wn rfl) rfl rfl (y_move rfl rfl) ?_
         refine wL_skip (wg rfl rfl rfl rfl) rfl rfl ?_
         refine wL_skip (wg rfl rfl rfl rfl) rfl rfl ?_
         refine wL_skip (wg rfl rfl rfl rfl) rfl rfl ?_
         refine wL_val (wn rfl) rfl rfl (y_pick_f rfl rfl rfl) ?_
         refine wL_val (wn rfl) rfl rfl (y_assign rfl rfl) ?_
         refine wL_nil (wQ_sub (l' := [(2, _)]) ⟨rfl, trivial⟩ (wQ_then (wC_ret (wQ_blk_ret (wQ_then_ret (wQ_post (rs := [.tmp 2]) (vs := [.bool false]) rfl ⟨rfl, trivial⟩ ?_))))))
         exact ⟨congrArg (fun b => Ending.returned (.bool b)) (decide_eq_false (by unfold shapeB; dsimp only; omega)).symm, S40.low⟩
       ·refine wL_val (v := .bool false) (wn rfl) rfl rfl (y_binop rfl rfl rfl (r_eql_f h31)) ?_
        refine wL_val (wn rfl) rfl rfl (y_move rfl rfl) ?_
        refine wL_skip (wg rfl rfl rfl rfl) rfl rfl ?_
        refine wL_skip (wg rfl rfl rfl rfl) rfl rfl ?_
        refine wL_skip (wg rfl rfl rfl rfl) rfl rfl ?_
        refine wL_val (wn rfl) rfl rfl (y_pick_f rfl rfl rfl) ?_
        refine wL_val (wn rfl) rfl rfl (y_move rfl rfl) ?_
        refine wL_skip (wg rfl rfl rfl rfl) rfl rfl ?_
        refine wL_skip (wg rfl rfl rfl rfl) rfl rfl ?_
        refine wL_skip (wg rfl rfl rfl rfl) rfl rfl ?_
        refine wL_val (wn rfl) rfl rfl (y_pick_f rfl rfl rfl) ?_
        refine wL_val (wn rfl) rfl rfl (y_assign rfl rfl) ?_
        refine wL_nil (wQ_sub (l' := [(2, _)]) ⟨rfl, trivial⟩ (wQ_then (wC_ret (wQ_blk_ret (wQ_then_ret (wQ_post (rs := [.tmp 2]) (vs := [.bool false]) rfl ⟨rfl, trivial⟩ ?_))))))
        exact ⟨congrArg (fun b => Ending.returned (.bool b)) (decide_eq_false (by unfold shapeB; dsimp only; omega)).symm, S3.low⟩
      ·refine wL_val (v := .bool false) (wn rfl) rfl rfl (y_binop rfl rfl rfl (r_eql_f h30)) ?_
       refine wL_val (wn rfl) rfl rfl (y_assign rfl rfl) ?_
       refine wL_nil (wQ_sub (l' := [(1, _), (2, _), (44, _), (80, _)]) ⟨rfl, rfl, rfl, rfl, trivial⟩ (wQ_then (wC_cond_f rfl (wC_seq (wC_region ?_)))))
       by_cases h42 : ro = 4
       ·refine wL_val (v := .bool true) (wn rfl) rfl rfl (y_binop rfl rfl rfl (r_eql_t h42)) ?_
        refine wL_val (wn rfl) rfl rfl (y_assign rfl rfl) ?_
        refine wL_nil (wQ_sub (l' := [(1, _), (2, _), (95, _)]) ⟨rfl, rfl, rfl, trivial⟩ (wQ_then (wC_cond_t rfl (wC_seq (wC_region (wL_val (v := .pointer (some ⟨b1, 2, none⟩)) (wn rfl) rfl rfl (y_fieldAddr rfl rfl (fa108_2 _ _ _)) ?_))))))
        refine wL_val (wn rfl) rfl rfl (y_load rfl rfl (r_load Try.underlying3 rfl (St.cl 0 S3 rfl rfl))) ?_
        by_cases hp43 : 0 ≤ fr ∧ fr < 5
        ·have HC44 := fun (w : World) => node_calls fr w
         rw [decide_eq_true hp43] at HC44
         refine wL_call (vs := [.int .i64 fr]) (wn rfl) rfl rfl (e_call (vs := [.int .i64 fr]) rfl en161 ⟨rfl, trivial⟩) (HC44 _) ?_
         rintro _ w45 ⟨rfl, hb47⟩
         refine ⟨_, rfl, ?_⟩
         have S46 := S3.on hb47; clear hb47 S3; clear HC44
         refine wL_val (wn rfl) rfl rfl (y_move rfl rfl) ?_
         refine wL_val (v := .pointer (some ⟨b1, 3, none⟩)) (wg rfl rfl rfl rfl) rfl rfl (y_fieldAddr rfl rfl (fa108_3 _ _ _)) ?_
         refine wL_val (wg rfl rfl rfl rfl) rfl rfl (y_load rfl rfl (r_load Try.underlying3 rfl (St.cl 0 S46 rfl rfl))) ?_
         by_cases h48 : tg = 0
         ·refine wL_val (v := .bool true) (wg rfl rfl rfl rfl) rfl rfl (y_binop rfl rfl rfl (r_eql_t h48)) ?_
          refine wL_val (wn rfl) rfl rfl (y_pick_t rfl rfl rfl) ?_
          refine wL_val (wn rfl) rfl rfl (y_move rfl rfl) ?_
          refine wL_val (v := .pointer (some ⟨b1, 4, none⟩)) (wg rfl rfl rfl rfl) rfl rfl (y_fieldAddr rfl rfl (fa108_4 _ _ _)) ?_
          refine wL_val (wg rfl rfl rfl rfl) rfl rfl (y_load rfl rfl (r_load Try.underlying3 rfl (St.cl 0 S46 rfl rfl))) ?_
          by_cases h49 : rd = 0
          ·refine wL_val (v := .bool true) (wg rfl rfl rfl rfl) rfl rfl (y_binop rfl rfl rfl (r_eql_t h49)) ?_
           refine wL_val (wn rfl) rfl rfl (y_pick_t rfl rfl rfl) ?_
           refine wL_val (wn rfl) rfl rfl (y_assign rfl rfl) ?_
           refine wL_nil (wQ_sub (l' := [(2, _)]) ⟨rfl, trivial⟩ (wQ_then (wC_ret (wQ_blk_ret (wQ_then_ret (wQ_post (rs := [.tmp 2]) (vs := [.bool true]) rfl ⟨rfl, trivial⟩ ?_))))))
           exact ⟨congrArg (fun b => Ending.returned (.bool b)) (decide_eq_true (by unfold shapeB; dsimp only; omega)).symm, S46.low⟩
          ·refine wL_val (v := .bool false) (wg rfl rfl rfl rfl) rfl rfl (y_binop rfl rfl rfl (r_eql_f h49)) ?_
           refine wL_val (wn rfl) rfl rfl (y_pick_t rfl rfl rfl) ?_
           refine wL_val (wn rfl) rfl rfl (y_assign rfl rfl) ?_
           refine wL_nil (wQ_sub (l' := [(2, _)]) ⟨rfl, trivial⟩ (wQ_then (wC_ret (wQ_blk_ret (wQ_then_ret (wQ_post (rs := [.tmp 2]) (vs := [.bool false]) rfl ⟨rfl, trivial⟩ ?_))))))
           exact ⟨congrArg (fun b => Ending.returned (.bool b)) (decide_eq_false (by unfold shapeB; dsimp only; omega)).symm, S46.low⟩
         ·refine wL_val (v := .bool false) (wg rfl rfl rfl rfl) rfl rfl (y_binop rfl rfl rfl (r_eql_f h48)) ?_
          refine wL_val (wn rfl) rfl rfl (y_pick_t rfl rfl rfl) ?_
          refine wL_val (wn rfl) rfl rfl (y_move rfl rfl) ?_
          refine wL_skip (wg rfl rfl rfl rfl) rfl rfl ?_
          refine wL_skip (wg rfl rfl rfl rfl) rfl rfl ?_
          refine wL_skip (wg rfl rfl rfl rfl) rfl rfl ?_
          refine wL_val (wn rfl) rfl rfl (y_pick_f rfl rfl rfl) ?_
          refine wL_val (wn rfl) rfl rfl (y_assign rfl rfl) ?_
          refine wL_nil (wQ_sub (l' := [(2, _)]) ⟨rfl, trivial⟩ (wQ_then (wC_ret (wQ_blk_ret (wQ_then_ret (wQ_post (rs := [.tmp 2]) (vs := [.bool false]) rfl ⟨rfl, trivial⟩ ?_))))))
          exact ⟨congrArg (fun b => Ending.returned (.bool b)) (decide_eq_false (by unfold shapeB; dsimp only; omega)).symm, S46.low⟩
        ·have HC50 := fun (w : World) => node_calls fr w
         rw [decide_eq_false hp43] at HC50
         refine wL_call (vs := [.int .i64 fr]) (wn rfl) rfl rfl (e_call (vs := [.int .i64 fr]) rfl en161 ⟨rfl, trivial⟩) (HC50 _) ?_
         rintro _ w51 ⟨rfl, hb53⟩
         refine ⟨_, rfl, ?_⟩
         have S52 := S3.on hb53; clear hb53 S3; clear HC50
         refine wL_val (wn rfl) rfl rfl (y_move rfl rfl) ?_
         refine wL_skip (wg rfl rfl rfl rfl) rfl rfl ?_
         refine wL_skip (wg rfl rfl rfl rfl) rfl rfl ?_
         refine wL_skip (wg rfl rfl rfl rfl) rfl rfl ?_
         refine wL_val (wn rfl) rfl rfl (y_pick_f rfl rfl rfl) ?_
         refine wL_val (wn rfl) rfl rfl (y_move rfl rfl) ?_
         refine wL_skip (wg rfl rfl rfl rfl) rfl rfl ?_
         refine wL_skip (wg rfl rfl rfl rfl) rfl rfl ?_
         refine wL_skip (wg rfl rfl rfl rfl) rfl rfl ?_
         refine wL_val (wn rfl) rfl rfl (y_pick_f rfl rfl rfl) ?_
         refine wL_val (wn rfl) rfl rfl (y_assign rfl rfl) ?_
         refine wL_nil (wQ_sub (l' := [(2, _)]) ⟨rfl, trivial⟩ (wQ_then (wC_ret (wQ_blk_ret (wQ_then_ret (wQ_post (rs := [.tmp 2]) (vs := [.bool false]) rfl ⟨rfl, trivial⟩ ?_))))))
         exact ⟨congrArg (fun b => Ending.returned (.bool b)) (decide_eq_false (by unfold shapeB; dsimp only; omega)).symm, S52.low⟩
       ·refine wL_val (v := .bool false) (wn rfl) rfl rfl (y_binop rfl rfl rfl (r_eql_f h42)) ?_
        refine wL_val (wn rfl) rfl rfl (y_assign rfl rfl) ?_
        refine wL_nil (wQ_sub (l' := [(1, _), (2, _), (95, _)]) ⟨rfl, rfl, rfl, trivial⟩ (wQ_then (wC_cond_f rfl (wC_skip (wQ_blk_n (wQ_then (wC_seq (wC_region (wL_val (wn rfl) rfl rfl (y_assign rfl rfl) ?_)))))))))
        refine wL_nil (wQ_sub (l' := [(2, _)]) ⟨rfl, trivial⟩ (wQ_then (wC_ret (wQ_post (rs := [.tmp 2]) (vs := [.bool false]) rfl ⟨rfl, trivial⟩ ?_))))
        exact ⟨congrArg (fun b => Ending.returned (.bool b)) (decide_eq_false (by unfold shapeB; dsimp only; omega)).symm, S3.low⟩

set_option maxRecDepth 100000 in
set_option maxHeartbeats 1000000 in
theorem BCheck_calls (ro ep fr tg rd : Int) (A : Option Addr) (c : Nat) (l : List Ev) (w : World) (h : Rd w w.heap.size 6 A l.length (evCells l)) (hl : l.length ≤ 1152921504606846976) :
    Calls Try.prog 76 #[.agg #[.int .i64 ro, .int .i64 ep, .int .i64 fr, .int .i64 tg, .int .i64 rd, .slice A l.length c]] w (IPost w (brtFault ⟨ro, ep, fr, tg, rd, l⟩)) := by
 have S := (St.start w).addRd h; clear h
 refine calls_of_wC (N := 16) (vs := [.agg #[.int .i64 ro, .int .i64 ep, .int .i64 fr, .int .i64 tg, .int .i64 rd, .slice A l.length c]]) Try.func76 rfl rfl rfl ?_
 refine wC_sub (l' := [(0, .agg #[.int .i64 ro, .int .i64 ep, .int .i64 fr, .int .i64 tg, .int .i64 rd, .slice A l.length c])]) ⟨rfl, trivial⟩ (wC_seq (wC_region (wL_new (V := fun b => .pointer (some ⟨b, 0, none⟩)) (row := #[.int .i64 ro, .int .i64 ep, .int .i64 fr, .int .i64 tg, .int .i64 rd, .slice A l.length c]) (t := 108) S (wn rfl) rfl rfl (d_box rfl rfl rfl) ?_))); intro b1 w2 S3; clear S
 refine wL_val (wn rfl) rfl rfl (y_assign rfl rfl) ?_
 refine wL_nil (wQ_sub (l' := [(1, _), (2, _)]) ⟨rfl, rfl, trivial⟩ (wQ_then (wC_seq (wC_seq (wC_region (wL_val (wn rfl) rfl rfl (y_load rfl rfl (r_load_row 0 S3 rfl Try.underlying108 rfl inf108 rfl)) ?_))))))
 have HC := fun (w : World) (h : Rd w w.heap.size 6 A l.length (evCells l)) => shape_calls ro ep fr tg rd A c l w h hl
 by_cases hs : shapeB ⟨ro, ep, fr, tg, rd, l⟩
 ·rw [decide_eq_true hs] at HC
  refine wL_call (vs := [.agg #[.int .i64 ro, .int .i64 ep, .int .i64 fr, .int .i64 tg, .int .i64 rd, .slice A l.length c]]) (wn rfl) rfl rfl (e_call (vs := [.agg #[.int .i64 ro, .int .i64 ep, .int .i64 fr, .int .i64 tg, .int .i64 rd, .slice A l.length c]]) rfl en155 ⟨rfl, trivial⟩) (HC _ (St.rd 1 S3 rfl)) ?_
  rintro _ w4 ⟨rfl, hb6⟩
  refine ⟨_, rfl, ?_⟩
  have S5 := S3.on hb6; clear hb6 S3; clear HC
  refine wL_val (v := .bool false) (wn rfl) rfl rfl (y_unop rfl rfl r_not) ?_
  refine wL_nil (wQ_sub (l' := [(1, _), (2, _), (7, _)]) ⟨rfl, rfl, rfl, trivial⟩ (wQ_then (wC_cond_f rfl (wC_skip (wQ_then (wC_seq (wC_seq (wC_region (wL_val (v := .pointer (some ⟨b1, 5, none⟩)) (wn rfl) rfl rfl (y_fieldAddr rfl rfl (fa108_5 _ _ _)) ?_)))))))))
  refine wL_val (wn rfl) rfl rfl (y_load rfl rfl (r_load Try.underlying57 rfl (St.cl 0 S5 rfl rfl))) ?_
  refine wL_call (vs := [.slice A l.length c]) (wn rfl) rfl rfl (e_call (vs := [.slice A l.length c]) rfl en70 ⟨rfl, trivial⟩) (Replay_calls A c l _ (St.rd 1 S5 rfl) (by omega)) ?_
  rintro _ w11 ⟨A7, c8, A9, c10, rfl, T13⟩
  refine ⟨_, rfl, ?_⟩
  have S12 := S5.ext T13 rfl; clear T13 S5
  change St _ _ _ [.rdo 2 A7 ((tellM l).1.ready.length) (((tellM l).1.ready).flatMap Msg.cells), .rdo 4 A9 ((tellM l).1.leases.length) (((tellM l).1.leases).flatMap Ls.cells), _, _] at S12
  refine wL_val (wn rfl) rfl rfl (y_move rfl rfl) ?_
  refine wL_val (wn rfl) rfl rfl (y_extract rfl rfl rfl) ?_
  refine wL_val (wn rfl) rfl rfl (y_extract rfl rfl rfl) ?_
  refine wL_new (V := fun b => .pointer (some ⟨b, 0, none⟩)) (row := qRow 0 0 0 (.slice none 0 0) (.slice none 0 0) zeroWs) (t := 29) S12 (wn rfl) rfl rfl (d_alloc rfl (Try.zeroValue29 _) rfl) ?_; intro b14 w15 S16; clear S12
  refine wL_st (fs' := [_, _, _, _, _]) 0 S16 (wn rfl) rfl rfl rfl rfl rfl rfl inf29 rfl (qRow_one rfl rfl) (Nat.le_of_ble_eq_true rfl) (setAll_all rfl) rfl ?_; intro w17 S18; clear S16
  refine wL_val (wn rfl) rfl rfl (y_assign rfl rfl) ?_
  refine wL_nil (wQ_sub (l' := [(2, _), (4, _)]) ⟨rfl, rfl, trivial⟩ (wQ_then (wC_seq (wC_region (wL_val (wn rfl) rfl rfl (y_move rfl rfl) ?_)))))
  by_cases h19 : (tellM l).2.2 = 0
  ·refine wL_val (v := .bool false) (wn rfl) rfl rfl (y_binop rfl rfl rfl (r_neq_f h19)) ?_
   refine wL_nil (wQ_sub (l' := [(2, _), (15, _)]) ⟨rfl, rfl, trivial⟩ (wQ_then (wC_cond_f rfl (wC_skip (wQ_then (wC_seq (wC_region (wL_val (wn rfl) rfl rfl (y_assign rfl rfl) ?_))))))))
   refine wL_nil (wQ_sub (l' := [(2, _)]) ⟨rfl, trivial⟩ (wQ_then (wC_ret (wQ_post (rs := [.tmp 2]) (vs := [.int .i64 0]) rfl ⟨rfl, trivial⟩ ?_))))
   exact ⟨ret_int_ (by first | exact (bf_ok ‹_› ‹_›).symm | exact (bf_shape ‹_›).symm | exact (bf_tell (b := ⟨ro, ep, fr, tg, rd, l⟩) ‹_›).symm), S18.low⟩
  ·refine wL_val (v := .bool true) (wn rfl) rfl rfl (y_binop rfl rfl rfl (r_neq_t h19)) ?_
   refine wL_nil (wQ_sub (l' := [(2, _), (15, _)]) ⟨rfl, rfl, trivial⟩ (wQ_then (wC_cond_t rfl (wC_seq (wC_region (wL_val (wn rfl) rfl rfl (y_assign rfl rfl) ?_))))))
   refine wL_nil (wQ_sub (l' := [(2, _)]) ⟨rfl, trivial⟩ (wQ_then (wC_ret (wQ_then_ret (wQ_post (rs := [.tmp 2]) (vs := [.int .i64 6]) rfl ⟨rfl, trivial⟩ ?_)))))
   exact ⟨ret_int_ (by first | exact (bf_ok ‹_› ‹_›).symm | exact (bf_shape ‹_›).symm | exact (bf_tell (b := ⟨ro, ep, fr, tg, rd, l⟩) ‹_›).symm), S18.low⟩
 ·rw [decide_eq_false hs] at HC
  refine wL_call (vs := [.agg #[.int .i64 ro, .int .i64 ep, .int .i64 fr, .int .i64 tg, .int .i64 rd, .slice A l.length c]]) (wn rfl) rfl rfl (e_call (vs := [.agg #[.int .i64 ro, .int .i64 ep, .int .i64 fr, .int .i64 tg, .int .i64 rd, .slice A l.length c]]) rfl en155 ⟨rfl, trivial⟩) (HC _ (St.rd 1 S3 rfl)) ?_
  rintro _ w20 ⟨rfl, hb22⟩
  refine ⟨_, rfl, ?_⟩
  have S21 := S3.on hb22; clear hb22 S3; clear HC
  refine wL_val (v := .bool true) (wn rfl) rfl rfl (y_unop rfl rfl r_not) ?_
  refine wL_nil (wQ_sub (l' := [(1, _), (2, _), (7, _)]) ⟨rfl, rfl, rfl, trivial⟩ (wQ_then (wC_cond_t rfl (wC_seq (wC_region (wL_val (wn rfl) rfl rfl (y_assign rfl rfl) ?_))))))
  refine wL_nil (wQ_sub (l' := [(2, _)]) ⟨rfl, trivial⟩ (wQ_then (wC_ret (wQ_then_ret (wQ_post (rs := [.tmp 2]) (vs := [.int .i64 6]) rfl ⟨rfl, trivial⟩ ?_)))))
  exact ⟨ret_int_ (by first | exact (bf_ok ‹_› ‹_›).symm | exact (bf_shape ‹_›).symm | exact (bf_tell (b := ⟨ro, ep, fr, tg, rd, l⟩) ‹_›).symm), S21.low⟩

end Go.Proofs.Ytkjlafpafmihaaa

namespace Go.Proofs.Ytkjlafpafmihaaa
open Go.ChangeShapes Go.WideShapes Go.RowKit

set_option maxRecDepth 100000 in
set_option maxHeartbeats 2000000 in
theorem BerthFault_calls (ro ep fr tg rd : Int) (A : Option Addr) (c : Nat) (l : List Ev) (w : World) (h : Rd w w.heap.size 6 A l.length (evCells l)) (hl : l.length ≤ 1152921504606846976) :
    Calls Try.prog 78 #[.agg #[.int .i64 ro, .int .i64 ep, .int .i64 fr, .int .i64 tg, .int .i64 rd, .slice A l.length c]] w (IPost w (brtFault ⟨ro, ep, fr, tg, rd, l⟩)) := by
 have S := (St.start w).addRd h; clear h
 refine calls_of_wC (N := 106) (vs := [.agg #[.int .i64 ro, .int .i64 ep, .int .i64 fr, .int .i64 tg, .int .i64 rd, .slice A l.length c]]) Try.func78 rfl rfl rfl ?_
 refine wC_sub (l' := [(0, .agg #[.int .i64 ro, .int .i64 ep, .int .i64 fr, .int .i64 tg, .int .i64 rd, .slice A l.length c])]) ⟨rfl, trivial⟩ (wC_seq (wC_region (wL_new (V := fun b => .pointer (some ⟨b, 0, none⟩)) (row := #[.int .i64 ro, .int .i64 ep, .int .i64 fr, .int .i64 tg, .int .i64 rd, .slice A l.length c]) (t := 108) S (wn rfl) rfl rfl (d_box rfl rfl rfl) ?_))); intro b1 w2 S3; clear S
 refine wL_val (wn rfl) rfl rfl (y_assign rfl rfl) ?_
 refine wL_nil (wQ_sub (l' := [(1, _), (2, _)]) ⟨rfl, rfl, trivial⟩ (wQ_then (wC_seq (wC_seq (wC_region (wL_val (v := .pointer (some ⟨b1, 0, none⟩)) (wn rfl) rfl rfl (y_fieldAddr rfl rfl (fa108_0 _ _ _)) ?_))))))
 refine wL_val (wn rfl) rfl rfl (y_load rfl rfl (r_load Try.underlying3 rfl (St.cl 0 S3 rfl rfl))) ?_
 by_cases hp4 : 0 ≤ ro ∧ ro ≤ 4
 ·refine wL_call (vs := [.int .i64 ro, .int .i64 0, .int .i64 4]) (wn rfl) rfl rfl (e_call (vs := [.int .i64 ro, .int .i64 0, .int .i64 4]) rfl en107 ⟨rfl, rfl, rfl, trivial⟩) (In_t hp4 _) ?_
  rintro _ w5 ⟨rfl, rfl⟩
  refine ⟨_, rfl, ?_⟩
  refine wL_val (v := .bool false) (wn rfl) rfl rfl (y_unop rfl rfl r_not) ?_
  refine wL_nil (wQ_sub (l' := [(1, _), (2, _), (9, _)]) ⟨rfl, rfl, rfl, trivial⟩ (wQ_then (wC_cond_f rfl (wC_skip (wQ_then (wC_seq (wC_seq (wC_region (wL_val (v := .pointer (some ⟨b1, 0, none⟩)) (wn rfl) rfl rfl (y_fieldAddr rfl rfl (fa108_0 _ _ _)) ?_)))))))))
  refine wL_val (wn rfl) rfl rfl (y_load rfl rfl (r_load Try.underlying3 rfl (St.cl 0 S3 rfl rfl))) ?_
  by_cases h6 : ro = 0
  ·refine wL_val (v := .bool true) (wn rfl) rfl rfl (y_binop rfl rfl rfl (r_eql_t h6)) ?_
   refine wL_val (wn rfl) rfl rfl (y_move rfl rfl) ?_
   refine wL_val (v := .pointer (some ⟨b1, 1, none⟩)) (wg rfl rfl rfl rfl) rfl rfl (y_fieldAddr rfl rfl (fa108_1 _ _ _)) ?_
   refine wL_val (wg rfl rfl rfl rfl) rfl rfl (y_load rfl rfl (r_load Try.underlying3 rfl (St.cl 0 S3 rfl rfl))) ?_
   by_cases hp7 : 0 ≤ ep ∧ ep ≤ 1048576
   ·refine wL_call (vs := [.int .i64 ep, .int .i64 0, .int .i64 1048576]) (wg rfl rfl rfl rfl) rfl rfl (e_call (vs := [.int .i64 ep, .int .i64 0, .int .i64 1048576]) rfl en107 ⟨rfl, rfl, rfl, trivial⟩) (In_t hp7 _) ?_
    rintro _ w8 ⟨rfl, rfl⟩
    refine ⟨_, rfl, ?_⟩
    refine wL_val (v := .bool false) (wg rfl rfl rfl rfl) rfl rfl (y_unop rfl rfl r_not) ?_
    refine wL_val (wg rfl rfl rfl rfl) rfl rfl (y_move rfl rfl) ?_
    refine wL_val (v := .pointer (some ⟨b1, 5, none⟩)) (wg rfl rfl rfl rfl) rfl rfl (y_fieldAddr rfl rfl (fa108_5 _ _ _)) ?_
    refine wL_val (wg rfl rfl rfl rfl) rfl rfl (y_load rfl rfl (r_load Try.underlying57 rfl (St.cl 0 S3 rfl rfl))) ?_
    refine wL_val (v := .int .i64 ((l.length : Nat) : Int)) (wg rfl rfl rfl rfl) rfl rfl (y_builtin (vs := [.slice A l.length c]) rfl ⟨rfl, trivial⟩ fun _ => r_len rfl Try.underlying57) ?_
    by_cases h9 : 0 < ((l.length : Nat) : Int)
    ·refine wL_val (v := .bool true) (wg rfl rfl rfl rfl) rfl rfl (y_binop rfl rfl rfl (r_gtr_t h9)) ?_
     refine wL_val (wg rfl rfl rfl rfl) rfl rfl (y_pick_f rfl rfl rfl) ?_
     refine wL_val (wn rfl) rfl rfl (y_pick_t rfl rfl rfl) ?_
     refine wL_val (wn rfl) rfl rfl (y_move rfl rfl) ?_
     refine wL_skip (wg rfl rfl rfl rfl) rfl rfl ?_
     refine wL_skip (wg rfl rfl rfl rfl) rfl rfl ?_
     refine wL_skip (wg rfl rfl rfl rfl) rfl rfl ?_
     refine wL_skip (wg rfl rfl rfl rfl) rfl rfl ?_
     refine wL_skip (wg rfl rfl rfl rfl) rfl rfl ?_
     refine wL_skip (wg rfl rfl rfl rfl) rfl rfl ?_
     refine wL_skip (wg rfl rfl rfl rfl) rfl rfl ?_
     refine wL_skip (wg rfl rfl rfl rfl) rfl rfl ?_
     refine wL_skip (wg rfl rfl rfl rfl) rfl rfl ?_
     refine wL_val (wn rfl) rfl rfl (y_pick_t rfl rfl rfl) ?_
     refine wL_nil (wQ_sub (l' := [(1, _), (2, _), (35, _)]) ⟨rfl, rfl, rfl, trivial⟩ (wQ_then (wC_cond_t rfl (wC_seq (wC_region (wL_val (wn rfl) rfl rfl (y_assign rfl rfl) ?_))))))
     refine wL_nil (wQ_sub (l' := [(2, _)]) ⟨rfl, trivial⟩ (wQ_then (wC_ret (wQ_then_ret (wQ_post (rs := [.tmp 2]) (vs := [.int .i64 6]) rfl ⟨rfl, trivial⟩ ?_)))))
     exact ⟨ret_int_ (by first | exact (bf_shape (by unfold shapeB; dsimp only; omega)).symm | exact (bf_tell (b := ⟨ro, ep, fr, tg, rd, l⟩) ‹_›).symm), S3.low⟩
    ·refine wL_val (v := .bool false) (wg rfl rfl rfl rfl) rfl rfl (y_binop rfl rfl rfl (r_gtr_f h9)) ?_
     refine wL_val (wg rfl rfl rfl rfl) rfl rfl (y_pick_f rfl rfl rfl) ?_
     refine wL_val (wn rfl) rfl rfl (y_pick_t rfl rfl rfl) ?_
     refine wL_val (wn rfl) rfl rfl (y_move rfl rfl) ?_
     refine wL_val (v := .pointer (some ⟨b1, 0, none⟩)) (wg rfl rfl rfl rfl) rfl rfl (y_fieldAddr rfl rfl (fa108_0 _ _ _)) ?_
     refine wL_val (wg rfl rfl rfl rfl) rfl rfl (y_load rfl rfl (r_load Try.underlying3 rfl (St.cl 0 S3 rfl rfl))) ?_
     refine wL_val (v := .bool false) (wg rfl rfl rfl rfl) rfl rfl (y_binop rfl rfl rfl (r_neq_f h6)) ?_
     refine wL_val (wg rfl rfl rfl rfl) rfl rfl (y_move rfl rfl) ?_
     refine wL_skip (wg rfl rfl rfl rfl) rfl rfl ?_
     refine wL_skip (wg rfl rfl rfl rfl) rfl rfl ?_
     refine wL_skip (wg rfl rfl rfl rfl) rfl rfl ?_
     refine wL_skip (wg rfl rfl rfl rfl) rfl rfl ?_
     refine wL_val (wg rfl rfl rfl rfl) rfl rfl (y_pick_f rfl rfl rfl) ?_
     refine wL_val (wn rfl) rfl rfl (y_pick_f rfl rfl rfl) ?_
     refine wL_nil (wQ_sub (l' := [(1, _), (2, _), (35, _)]) ⟨rfl, rfl, rfl, trivial⟩ (wQ_then (wC_cond_f rfl (wC_skip (wQ_then (wC_seq (wC_seq (wC_region (wL_val (v := .pointer (some ⟨b1, 0, none⟩)) (wn rfl) rfl rfl (y_fieldAddr rfl rfl (fa108_0 _ _ _)) ?_)))))))))
     refine wL_val (wn rfl) rfl rfl (y_load rfl rfl (r_load Try.underlying3 rfl (St.cl 0 S3 rfl rfl))) ?_
     refine wL_val (v := .bool false) (wn rfl) rfl rfl (y_binop rfl rfl rfl (r_eql_f (by omega))) ?_
     refine wL_val (wn rfl) rfl rfl (y_move rfl rfl) ?_
     refine wL_skip (wg rfl rfl rfl rfl) rfl rfl ?_
     refine wL_skip (wg rfl rfl rfl rfl) rfl rfl ?_
     refine wL_skip (wg rfl rfl rfl rfl) rfl rfl ?_
     refine wL_skip (wg rfl rfl rfl rfl) rfl rfl ?_
     refine wL_val (wn rfl) rfl rfl (y_pick_f rfl rfl rfl) ?_
     refine wL_val (wn rfl) rfl rfl (y_move rfl rfl) ?_
     refine wL_val (v := .pointer (some ⟨b1, 0, none⟩)) (wg rfl rfl rfl rfl) rfl rfl (y_fieldAddr rfl rfl (fa108_0 _ _ _)) ?_
     refine wL_val (wg rfl rfl rfl rfl) rfl rfl (y_load rfl rfl (r_load Try.underlying3 rfl (St.cl 0 S3 rfl rfl))) ?_
     refine wL_val (v := .bool true) (wg rfl rfl rfl rfl) rfl rfl (y_binop rfl rfl rfl (r_neq_t (by omega))) ?_
     refine wL_val (wg rfl rfl rfl rfl) rfl rfl (y_move rfl rfl) ?_
     refine wL_val (v := .pointer (some ⟨b1, 2, none⟩)) (wg rfl rfl rfl rfl) rfl rfl (y_fieldAddr rfl rfl (fa108_2 _ _ _)) ?_
     refine wL_val (wg rfl rfl rfl rfl) rfl rfl (y_load rfl rfl (r_load Try.underlying3 rfl (St.cl 0 S3 rfl rfl))) ?_
     by_cases h10 : fr = 0
     ·refine wL_val (v := .bool false) (wg rfl rfl rfl rfl) rfl rfl (y_binop rfl rfl rfl (r_neq_f h10)) ?_
      refine wL_val (wg rfl rfl rfl rfl) rfl rfl (y_pick_t rfl rfl rfl) ?_
      refine wL_val (wn rfl) rfl rfl (y_pick_f rfl rfl rfl) ?_
      refine wL_nil (wQ_sub (l' := [(1, _), (2, _), (54, _)]) ⟨rfl, rfl, rfl, trivial⟩ (wQ_then (wC_cond_f rfl (wC_skip (wQ_then (wC_seq (wC_region (wL_val (v := .pointer (some ⟨b1, 0, none⟩)) (wn rfl) rfl rfl (y_fieldAddr rfl rfl (fa108_0 _ _ _)) ?_))))))))
      refine wL_val (wn rfl) rfl rfl (y_load rfl rfl (r_load Try.underlying3 rfl (St.cl 0 S3 rfl rfl))) ?_
      refine wL_val (v := .bool false) (wn rfl) rfl rfl (y_binop rfl rfl rfl (r_eql_f (by omega))) ?_
      refine wL_val (wn rfl) rfl rfl (y_move rfl rfl) ?_
      refine wL_val (v := .pointer (some ⟨b1, 0, none⟩)) (wg rfl rfl rfl rfl) rfl rfl (y_fieldAddr rfl rfl (fa108_0 _ _ _)) ?_
      refine wL_val (wg rfl rfl rfl rfl) rfl rfl (y_load rfl rfl (r_load Try.underlying3 rfl (St.cl 0 S3 rfl rfl))) ?_
      refine wL_val (v := .bool false) (wg rfl rfl rfl rfl) rfl rfl (y_binop rfl rfl rfl (r_eql_f (by omega))) ?_
      refine wL_val (wn rfl) rfl rfl (y_pick_f rfl rfl rfl) ?_
      refine wL_val (wn rfl) rfl rfl (y_assign rfl rfl) ?_
      refine wL_nil (wQ_sub (l' := [(1, _), (2, _), (3, _)]) ⟨rfl, rfl, rfl, trivial⟩ (wQ_then (wC_seq (wC_seq (wC_region (wL_val (wn rfl) rfl rfl (y_move rfl rfl) ?_))))))
      refine wL_val (wn rfl) rfl rfl (y_move rfl rfl) ?_
      refine wL_skip (wg rfl rfl rfl rfl) rfl rfl ?_
      refine wL_skip (wg rfl rfl rfl rfl) rfl rfl ?_
      refine wL_skip (wg rfl rfl rfl rfl) rfl rfl ?_
      refine wL_skip (wg rfl rfl rfl rfl) rfl rfl ?_
      refine wL_val (wn rfl) rfl rfl (y_pick_f rfl rfl rfl) ?_
      refine wL_val (wn rfl) rfl rfl (y_move rfl rfl) ?_
      refine wL_val (wg rfl rfl rfl rfl) rfl rfl (y_move rfl rfl) ?_
      refine wL_val (v := .bool true) (wg rfl rfl rfl rfl) rfl rfl (y_unop rfl rfl r_not) ?_
      refine wL_val (wg rfl rfl rfl rfl) rfl rfl (y_move rfl rfl) ?_
      refine wL_val (v := .pointer (some ⟨b1, 3, none⟩)) (wg rfl rfl rfl rfl) rfl rfl (y_fieldAddr rfl rfl (fa108_3 _ _ _)) ?_
      refine wL_val (wg rfl rfl rfl rfl) rfl rfl (y_load rfl rfl (r_load Try.underlying3 rfl (St.cl 0 S3 rfl rfl))) ?_
      by_cases h11 : tg = 0
      ·refine wL_val (v := .bool false) (wg rfl rfl rfl rfl) rfl rfl (y_binop rfl rfl rfl (r_neq_f h11)) ?_
       refine wL_val (wg rfl rfl rfl rfl) rfl rfl (y_pick_t rfl rfl rfl) ?_
       refine wL_val (wn rfl) rfl rfl (y_pick_f rfl rfl rfl) ?_
       refine wL_nil (wQ_sub (l' := [(1, _), (2, _), (78, _)]) ⟨rfl, rfl, rfl, trivial⟩ (wQ_then (wC_cond_f rfl (wC_skip (wQ_then (wC_seq (wC_seq (wC_region (wL_val (v := .pointer (some ⟨b1, 0, none⟩)) (wn rfl) rfl rfl (y_fieldAddr rfl rfl (fa108_0 _ _ _)) ?_)))))))))
       refine wL_val (wn rfl) rfl rfl (y_load rfl rfl (r_load Try.underlying3 rfl (St.cl 0 S3 rfl rfl))) ?_
       refine wL_val (v := .bool false) (wn rfl) rfl rfl (y_binop rfl rfl rfl (r_eql_f (by omega))) ?_
       refine wL_val (wn rfl) rfl rfl (y_move rfl rfl) ?_
       refine wL_skip (wg rfl rfl rfl rfl) rfl rfl ?_
       refine wL_skip (wg rfl rfl rfl rfl) rfl rfl ?_
       refine wL_skip (wg rfl rfl rfl rfl) rfl rfl ?_
       refine wL_skip (wg rfl rfl rfl rfl) rfl rfl ?_
       refine wL_val (wn rfl) rfl rfl (y_pick_f rfl rfl rfl) ?_
       refine wL_val (wn rfl) rfl rfl (y_move rfl rfl) ?_
       refine wL_val (v := .pointer (some ⟨b1, 0, none⟩)) (wg rfl rfl rfl rfl) rfl rfl (y_fieldAddr rfl rfl (fa108_0 _ _ _)) ?_
       refine wL_val (wg rfl rfl rfl rfl) rfl rfl (y_load rfl rfl (r_load Try.underlying3 rfl (St.cl 0 S3 rfl rfl))) ?_
       refine wL_val (v := .bool true) (wg rfl rfl rfl rfl) rfl rfl (y_binop rfl rfl rfl (r_neq_t (by omega))) ?_
       refine wL_val (wg rfl rfl rfl rfl) rfl rfl (y_move rfl rfl) ?_
       refine wL_val (v := .pointer (some ⟨b1, 4, none⟩)) (wg rfl rfl rfl rfl) rfl rfl (y_fieldAddr rfl rfl (fa108_4 _ _ _)) ?_
       refine wL_val (wg rfl rfl rfl rfl) rfl rfl (y_load rfl rfl (r_load Try.underlying3 rfl (St.cl 0 S3 rfl rfl))) ?_
       by_cases h12 : rd = 0
       ·refine wL_val (v := .bool false) (wg rfl rfl rfl rfl) rfl rfl (y_binop rfl rfl rfl (r_neq_f h12)) ?_
        refine wL_val (wg rfl rfl rfl rfl) rfl rfl (y_pick_t rfl rfl rfl) ?_
        refine wL_val (wn rfl) rfl rfl (y_pick_f rfl rfl rfl) ?_
        refine wL_nil (wQ_sub (l' := [(1, _), (2, _), (97, _)]) ⟨rfl, rfl, rfl, trivial⟩ (wQ_then (wC_cond_f rfl (wC_skip (wQ_then (wC_seq (wC_region (wL_val (v := .pointer (some ⟨b1, 5, none⟩)) (wn rfl) rfl rfl (y_fieldAddr rfl rfl (fa108_5 _ _ _)) ?_))))))))
        refine wL_val (wn rfl) rfl rfl (y_load rfl rfl (r_load Try.underlying57 rfl (St.cl 0 S3 rfl rfl))) ?_
        refine wL_call (vs := [.slice A l.length c]) (wn rfl) rfl rfl (e_call (vs := [.slice A l.length c]) rfl en71 ⟨rfl, trivial⟩) (Replayed_calls A c l _ (St.rd 1 S3 rfl) (by omega)) ?_
        rintro _ w17 ⟨A13, c14, A15, c16, rfl, T19⟩
        refine ⟨_, rfl, ?_⟩
        have S18 := S3.ext T19 rfl; clear T19 S3
        change St _ _ _ [.rdo 2 A13 ((tellM l).1.ready.length) (((tellM l).1.ready).flatMap Msg.cells), .rdo 4 A15 ((tellM l).1.leases.length) (((tellM l).1.leases).flatMap Ls.cells), _, _] at S18
        refine wL_val (wn rfl) rfl rfl (y_move rfl rfl) ?_
        refine wL_val (wn rfl) rfl rfl (y_extract rfl rfl rfl) ?_
        refine wL_val (wn rfl) rfl rfl (y_extract rfl rfl rfl) ?_
        refine wL_new (V := fun b => .pointer (some ⟨b, 0, none⟩)) (row := qRow 0 0 0 (.slice none 0 0) (.slice none 0 0) zeroWs) (t := 29) S18 (wn rfl) rfl rfl (d_alloc rfl (Try.zeroValue29 _) rfl) ?_; intro b20 w21 S22; clear S18
        refine wL_st (fs' := [_, _, _, _, _]) 0 S22 (wn rfl) rfl rfl rfl rfl rfl rfl inf29 rfl (qRow_one rfl rfl) (Nat.le_of_ble_eq_true rfl) (setAll_all rfl) rfl ?_; intro w23 S24; clear S22
        refine wL_val (wn rfl) rfl rfl (y_assign rfl rfl) ?_
        refine wL_nil (wQ_sub (l' := [(2, _), (5, _)]) ⟨rfl, rfl, trivial⟩ (wQ_then (wC_seq (wC_seq (wC_region (wL_val (wn rfl) rfl rfl (y_move rfl rfl) ?_))))))
        by_cases h25 : (tellM l).2.2 = 0
        ·refine wL_val (v := .bool false) (wn rfl) rfl rfl (y_binop rfl rfl rfl (r_neq_f h25)) ?_
         refine wL_nil (wQ_sub (l' := [(2, _), (105, _)]) ⟨rfl, rfl, trivial⟩ (wQ_then (wC_cond_f rfl (wC_skip (wQ_then (wC_seq (wC_region (wL_val (wn rfl) rfl rfl (y_assign rfl rfl) ?_))))))))
         refine wL_nil (wQ_sub (l' := [(2, _)]) ⟨rfl, trivial⟩ (wQ_then (wC_ret (wQ_post (rs := [.tmp 2]) (vs := [.int .i64 0]) rfl ⟨rfl, trivial⟩ ?_))))
         exact ⟨ret_int_ (bf_ok (by unfold shapeB; dsimp only; omega) ‹_›).symm, S24.low⟩
        ·refine wL_val (v := .bool true) (wn rfl) rfl rfl (y_binop rfl rfl rfl (r_neq_t h25)) ?_
         refine wL_nil (wQ_sub (l' := [(2, _), (105, _)]) ⟨rfl, rfl, trivial⟩ (wQ_then (wC_cond_t rfl (wC_seq (wC_region (wL_val (wn rfl) rfl rfl (y_assign rfl rfl) ?_))))))
         refine wL_nil (wQ_sub (l' := [(2, _)]) ⟨rfl, trivial⟩ (wQ_then (wC_ret (wQ_then_ret (wQ_post (rs := [.tmp 2]) (vs := [.int .i64 6]) rfl ⟨rfl, trivial⟩ ?_)))))
         exact ⟨ret_int_ (by first | exact (bf_shape (by unfold shapeB; dsimp only; omega)).symm | exact (bf_tell (b := ⟨ro, ep, fr, tg, rd, l⟩) ‹_›).symm), S24.low⟩
       ·refine wL_val (v := .bool true) (wg rfl rfl rfl rfl) rfl rfl (y_binop rfl rfl rfl (r_neq_t h12)) ?_
        refine wL_val (wg rfl rfl rfl rfl) rfl rfl (y_pick_t rfl rfl rfl) ?_
        refine wL_val (wn rfl) rfl rfl (y_pick_f rfl rfl rfl) ?_
        refine wL_nil (wQ_sub (l' := [(1, _), (2, _), (97, _)]) ⟨rfl, rfl, rfl, trivial⟩ (wQ_then (wC_cond_t rfl (wC_seq (wC_region (wL_val (wn rfl) rfl rfl (y_assign rfl rfl) ?_))))))
        refine wL_nil (wQ_sub (l' := [(2, _)]) ⟨rfl, trivial⟩ (wQ_then (wC_ret (wQ_then_ret (wQ_post (rs := [.tmp 2]) (vs := [.int .i64 6]) rfl ⟨rfl, trivial⟩ ?_)))))
        exact ⟨ret_int_ (by first | exact (bf_shape (by unfold shapeB; dsimp only; omega)).symm | exact (bf_tell (b := ⟨ro, ep, fr, tg, rd, l⟩) ‹_›).symm), S3.low⟩
      ·refine wL_val (v := .bool true) (wg rfl rfl rfl rfl) rfl rfl (y_binop rfl rfl rfl (r_neq_t h11)) ?_
       refine wL_val (wg rfl rfl rfl rfl) rfl rfl (y_pick_t rfl rfl rfl) ?_
       refine wL_val (wn rfl) rfl rfl (y_pick_f rfl rfl rfl) ?_
       refine wL_nil (wQ_sub (l' := [(1, _), (2, _), (78, _)]) ⟨rfl, rfl, rfl, trivial⟩ (wQ_then (wC_cond_t rfl (wC_seq (wC_region (wL_val (wn rfl) rfl rfl (y_assign rfl rfl) ?_))))))
       refine wL_nil (wQ_sub (l' := [(2, _)]) ⟨rfl, trivial⟩ (wQ_then (wC_ret (wQ_then_ret (wQ_post (rs := [.tmp 2]) (vs := [.int .i64 6]) rfl ⟨rfl, trivial⟩ ?_)))))
       exact ⟨ret_int_ (by first | exact (bf_shape (by unfold shapeB; dsimp only; omega)).symm | exact (bf_tell (b := ⟨ro, ep, fr, tg, rd, l⟩) ‹_›).symm), S3.low⟩
     ·refine wL_val (v := .bool true) (wg rfl rfl rfl rfl) rfl rfl (y_binop rfl rfl rfl (r_neq_t h10)) ?_
      refine wL_val (wg rfl rfl rfl rfl) rfl rfl (y_pick_t rfl rfl rfl) ?_
      refine wL_val (wn rfl) rfl rfl (y_pick_f rfl rfl rfl) ?_
      refine wL_nil (wQ_sub (l' := [(1, _), (2, _), (54, _)]) ⟨rfl, rfl, rfl, trivial⟩ (wQ_then (wC_cond_t rfl (wC_seq (wC_region (wL_val (wn rfl) rfl rfl (y_assign rfl rfl) ?_))))))
      refine wL_nil (wQ_sub (l' := [(2, _)]) ⟨rfl, trivial⟩ (wQ_then (wC_ret (wQ_then_ret (wQ_post (rs := [.tmp 2]) (vs := [.int .i64 6]) rfl ⟨rfl, trivial⟩ ?_)))))
      exact ⟨ret_int_ (by first | exact (bf_shape (by unfold shapeB; dsimp only; omega)).symm | exact (bf_tell (b := ⟨ro, ep, fr, tg, rd, l⟩) ‹_›).symm), S3.low⟩
   ·refine wL_call (vs := [.int .i64 ep, .int .i64 0, .int .i64 1048576]) (wg rfl rfl rfl rfl) rfl rfl (e_call (vs := [.int .i64 ep, .int .i64 0, .int .i64 1048576]) rfl en107 ⟨rfl, rfl, rfl, trivial⟩) (In_f hp7 _) ?_
    rintro _ w26 ⟨rfl, rfl⟩
    refine ⟨_, rfl, ?_⟩
    refine wL_val (v := .bool true) (wg rfl rfl rfl rfl) rfl rfl (y_unop rfl rfl r_not) ?_
    refine wL_val (wg rfl rfl rfl rfl) rfl rfl (y_move rfl rfl) ?_
    refine wL_skip (wg rfl rfl rfl rfl) rfl rfl ?_
    refine wL_skip (wg rfl rfl rfl rfl) rfl rfl ?_
    refine wL_skip (wg rfl rfl rfl rfl) rfl rfl ?_
    refine wL_skip (wg rfl rfl rfl rfl) rfl rfl ?_
    refine wL_val (wg rfl rfl rfl rfl) rfl rfl (y_pick_t rfl rfl rfl) ?_
    refine wL_val (wn rfl) rfl rfl (y_pick_t rfl rfl rfl) ?_
    refine wL_val (wn rfl) rfl rfl (y_move rfl rfl) ?_
    refine wL_skip (wg rfl rfl rfl rfl) rfl rfl ?_
    refine wL_skip (wg rfl rfl rfl rfl) rfl rfl ?_
    refine wL_skip (wg rfl rfl rfl rfl) rfl rfl ?_
    refine wL_skip (wg rfl rfl rfl rfl) rfl rfl ?_
    refine wL_skip (wg rfl rfl rfl rfl) rfl rfl ?_
    refine wL_skip (wg rfl rfl rfl rfl) rfl rfl ?_
    refine wL_skip (wg rfl rfl rfl rfl) rfl rfl ?_
    refine wL_skip (wg rfl rfl rfl rfl) rfl rfl ?_
    refine wL_skip (wg rfl rfl rfl rfl) rfl rfl ?_
    refine wL_val (wn rfl) rfl rfl (y_pick_t rfl rfl rfl) ?_
    refine wL_nil (wQ_sub (l' := [(1, _), (2, _), (35, _)]) ⟨rfl, rfl, rfl, trivial⟩ (wQ_then (wC_cond_t rfl (wC_seq (wC_region (wL_val (wn rfl) rfl rfl (y_assign rfl rfl) ?_))))))
    refine wL_nil (wQ_sub (l' := [(2, _)]) ⟨rfl, trivial⟩ (wQ_then (wC_ret (wQ_then_ret (wQ_post (rs := [.tmp 2]) (vs := [.int .i64 6]) rfl ⟨rfl, trivial⟩ ?_)))))
    exact ⟨ret_int_ (by first | exact (bf_shape (by unfold shapeB; dsimp only; omega)).symm | exact (bf_tell (b := ⟨ro, ep, fr, tg, rd, l⟩) ‹_›).symm), S3.low⟩
  ·refine wL_val (v := .bool false) (wn rfl) rfl rfl (y_binop rfl rfl rfl (r_eql_f h6)) ?_
   refine wL_val (wn rfl) rfl rfl (y_move rfl rfl) ?_
   refine wL_skip (wg rfl rfl rfl rfl) rfl rfl ?_
   refine wL_skip (wg rfl rfl rfl rfl) rfl rfl ?_
   refine wL_skip (wg rfl rfl rfl rfl) rfl rfl ?_
   refine wL_skip (wg rfl rfl rfl rfl) rfl rfl ?_
   refine wL_skip (wg rfl rfl rfl rfl) rfl rfl ?_
   refine wL_skip (wg rfl rfl rfl rfl) rfl rfl ?_
   refine wL_skip (wg rfl rfl rfl rfl) rfl rfl ?_
   refine wL_skip (wg rfl rfl rfl rfl) rfl rfl ?_
   refine wL_skip (wg rfl rfl rfl rfl) rfl rfl ?_
   refine wL_skip (wg rfl rfl rfl rfl) rfl rfl ?_
   refine wL_val (wn rfl) rfl rfl (y_pick_f rfl rfl rfl) ?_
   refine wL_val (wn rfl) rfl rfl (y_move rfl rfl) ?_
   refine wL_val (v := .pointer (some ⟨b1, 0, none⟩)) (wg rfl rfl rfl rfl) rfl rfl (y_fieldAddr rfl rfl (fa108_0 _ _ _)) ?_
   refine wL_val (wg rfl rfl rfl rfl) rfl rfl (y_load rfl rfl (r_load Try.underlying3 rfl (St.cl 0 S3 rfl rfl))) ?_
   refine wL_val (v := .bool true) (wg rfl rfl rfl rfl) rfl rfl (y_binop rfl rfl rfl (r_neq_t h6)) ?_
   refine wL_val (wg rfl rfl rfl rfl) rfl rfl (y_move rfl rfl) ?_
   refine wL_val (v := .pointer (some ⟨b1, 1, none⟩)) (wg rfl rfl rfl rfl) rfl rfl (y_fieldAddr rfl rfl (fa108_1 _ _ _)) ?_
   refine wL_val (wg rfl rfl rfl rfl) rfl rfl (y_load rfl rfl (r_load Try.underlying3 rfl (St.cl 0 S3 rfl rfl))) ?_
   by_cases hp27 : 1 ≤ ep ∧ ep ≤ 1048576
   ·refine wL_call (vs := [.int .i64 ep, .int .i64 1, .int .i64 1048576]) (wg rfl rfl rfl rfl) rfl rfl (e_call (vs := [.int .i64 ep, .int .i64 1, .int .i64 1048576]) rfl en107 ⟨rfl, rfl, rfl, trivial⟩) (In_t hp27 _) ?_
    rintro _ w28 ⟨rfl, rfl⟩
    refine ⟨_, rfl, ?_⟩
    refine wL_val (v := .bool false) (wg rfl rfl rfl rfl) rfl rfl (y_unop rfl rfl r_not) ?_
    refine wL_val (wg rfl rfl rfl rfl) rfl rfl (y_pick_t rfl rfl rfl) ?_
    refine wL_val (wn rfl) rfl rfl (y_pick_f rfl rfl rfl) ?_
    refine wL_nil (wQ_sub (l' := [(1, _), (2, _), (35, _)]) ⟨rfl, rfl, rfl, trivial⟩ (wQ_then (wC_cond_f rfl (wC_skip (wQ_then (wC_seq (wC_seq (wC_region (wL_val (v := .pointer (some ⟨b1, 0, none⟩)) (wn rfl) rfl rfl (y_fieldAddr rfl rfl (fa108_0 _ _ _)) ?_)))))))))
    refine wL_val (wn rfl) rfl rfl (y_load rfl rfl (r_load Try.underlying3 rfl (St.cl 0 S3 rfl rfl))) ?_
    by_cases h29 : ro = 4
    ·refine wL_val (v := .bool true) (wn rfl) rfl rfl (y_binop rfl rfl rfl (r_eql_t h29)) ?_
     refine wL_val (wn rfl) rfl rfl (y_move rfl rfl) ?_
     refine wL_val (v := .pointer (some ⟨b1, 2, none⟩)) (wg rfl rfl rfl rfl) rfl rfl (y_fieldAddr rfl rfl (fa108_2 _ _ _)) ?_
     refine wL_val (wg rfl rfl rfl rfl) rfl rfl (y_load rfl rfl (r_load Try.underlying3 rfl (St.cl 0 S3 rfl rfl))) ?_
     by_cases hp30 : 0 ≤ fr ∧ fr ≤ 4
     ·refine wL_call (vs := [.int .i64 fr, .int .i64 0, .int .i64 4]) (wg rfl rfl rfl rfl) rfl rfl (e_call (vs := [.int .i64 fr, .int .i64 0, .int .i64 4]) rfl en107 ⟨rfl, rfl, rfl, trivial⟩) (In_t hp30 _) ?_
      rintro _ w31 ⟨rfl, rfl⟩
      refine ⟨_, rfl, ?_⟩
      refine wL_val (v := .bool false) (wg rfl rfl rfl rfl) rfl rfl (y_unop rfl rfl r_not) ?_
      refine wL_val (wn rfl) rfl rfl (y_pick_t rfl rfl rfl) ?_
      refine wL_val (wn rfl) rfl rfl (y_move rfl rfl) ?_
      refine wL_val (v := .pointer (some ⟨b1, 0, none⟩)) (wg rfl rfl rfl rfl) rfl rfl (y_fieldAddr rfl rfl (fa108_0 _ _ _)) ?_
      refine wL_val (wg rfl rfl rfl rfl) rfl rfl (y_load rfl rfl (r_load Try.underlying3 rfl (St.cl 0 S3 rfl rfl))) ?_
      refine wL_val (v := .bool false) (wg rfl rfl rfl rfl) rfl rfl (y_binop rfl rfl rfl (r_neq_f h29)) ?_
      refine wL_val (wg rfl rfl rfl rfl) rfl rfl (y_move rfl rfl) ?_
      refine wL_skip (wg rfl rfl rfl rfl) rfl rfl ?_
      refine wL_skip (wg rfl rfl rfl rfl) rfl rfl ?_
      refine wL_skip (wg rfl rfl rfl rfl) rfl rfl ?_
      refine wL_val (wg rfl rfl rfl rfl) rfl rfl (y_pick_f rfl rfl rfl) ?_
      refine wL_val (wn rfl) rfl rfl (y_pick_f rfl rfl rfl) ?_
      refine wL_nil (wQ_sub (l' := [(1, _), (2, _), (54, _)]) ⟨rfl, rfl, rfl, trivial⟩ (wQ_then (wC_cond_f rfl (wC_skip (wQ_then (wC_seq (wC_region (wL_val (v := .pointer (some ⟨b1, 0, none⟩)) (wn rfl) rfl rfl (y_fieldAddr rfl rfl (fa108_0 _ _ _)) ?_))))))))
      refine wL_val (wn rfl) rfl rfl (y_load rfl rfl (r_load Try.underlying3 rfl (St.cl 0 S3 rfl rfl))) ?_
      refine wL_val (v := .bool false) (wn rfl) rfl rfl (y_binop rfl rfl rfl (r_eql_f (by omega))) ?_
      refine wL_val (wn rfl) rfl rfl (y_move rfl rfl) ?_
      refine wL_val (v := .pointer (some ⟨b1, 0, none⟩)) (wg rfl rfl rfl rfl) rfl rfl (y_fieldAddr rfl rfl (fa108_0 _ _ _)) ?_
      refine wL_val (wg rfl rfl rfl rfl) rfl rfl (y_load rfl rfl (r_load Try.underlying3 rfl (St.cl 0 S3 rfl rfl))) ?_
      refine wL_val (v := .bool false) (wg rfl rfl rfl rfl) rfl rfl (y_binop rfl rfl rfl (r_eql_f (by omega))) ?_
      refine wL_val (wn rfl) rfl rfl (y_pick_f rfl rfl rfl) ?_
      refine wL_val (wn rfl) rfl rfl (y_assign rfl rfl) ?_
      refine wL_nil (wQ_sub (l' := [(1, _), (2, _), (3, _)]) ⟨rfl, rfl, rfl, trivial⟩ (wQ_then (wC_seq (wC_seq (wC_region (wL_val (wn rfl) rfl rfl (y_move rfl rfl) ?_))))))
      refine wL_val (wn rfl) rfl rfl (y_move rfl rfl) ?_
      refine wL_skip (wg rfl rfl rfl rfl) rfl rfl ?_
      refine wL_skip (wg rfl rfl rfl rfl) rfl rfl ?_
      refine wL_skip (wg rfl rfl rfl rfl) rfl rfl ?_
      refine wL_skip (wg rfl rfl rfl rfl) rfl rfl ?_
      refine wL_val (wn rfl) rfl rfl (y_pick_f rfl rfl rfl) ?_
      refine wL_val (wn rfl) rfl rfl (y_move rfl rfl) ?_
      refine wL_val (wg rfl rfl rfl rfl) rfl rfl (y_move rfl rfl) ?_
      refine wL_val (v := .bool true) (wg rfl rfl rfl rfl) rfl rfl (y_unop rfl rfl r_not) ?_
      refine wL_val (wg rfl rfl rfl rfl) rfl rfl (y_move rfl rfl) ?_
      refine wL_val (v := .pointer (some ⟨b1, 3, none⟩)) (wg rfl rfl rfl rfl) rfl rfl (y_fieldAddr rfl rfl (fa108_3 _ _ _)) ?_
      refine wL_val (wg rfl rfl rfl rfl) rfl rfl (y_load rfl rfl (r_load Try.underlying3 rfl (St.cl 0 S3 rfl rfl))) ?_
      by_cases h32 : tg = 0
      ·refine wL_val (v := .bool false) (wg rfl rfl rfl rfl) rfl rfl (y_binop rfl rfl rfl (r_neq_f h32)) ?_
       refine wL_val (wg rfl rfl rfl rfl) rfl rfl (y_pick_t rfl rfl rfl) ?_
       refine wL_val (wn rfl) rfl rfl (y_pick_f rfl rfl rfl) ?_
       refine wL_nil (wQ_sub (l' := [(1, _), (2, _), (78, _)]) ⟨rfl, rfl, rfl, trivial⟩ (wQ_then (wC_cond_f rfl (wC_skip (wQ_then (wC_seq (wC_seq (wC_region (wL_val (v := .pointer (some ⟨b1, 0, none⟩)) (wn rfl) rfl rfl (y_fieldAddr rfl rfl (fa108_0 _ _ _)) ?_)))))))))
       refine wL_val (wn rfl) rfl rfl (y_load rfl rfl (r_load Try.underlying3 rfl (St.cl 0 S3 rfl rfl))) ?_
       refine wL_val (v := .bool false) (wn rfl) rfl rfl (y_binop rfl rfl rfl (r_eql_f (by omega))) ?_
       refine wL_val (wn rfl) rfl rfl (y_move rfl rfl) ?_
       refine wL_skip (wg rfl rfl rfl rfl) rfl rfl ?_
       refine wL_skip (wg rfl rfl rfl rfl) rfl rfl ?_
       refine wL_skip (wg rfl rfl rfl rfl) rfl rfl ?_
       refine wL_skip (wg rfl rfl rfl rfl) rfl rfl ?_
       refine wL_val (wn rfl) rfl rfl (y_pick_f rfl rfl rfl) ?_
       refine wL_val (wn rfl) rfl rfl (y_move rfl rfl) ?_
       refine wL_val (v := .pointer (some ⟨b1, 0, none⟩)) (wg rfl rfl rfl rfl) rfl rfl (y_fieldAddr rfl rfl (fa108_0 _ _ _)) ?_
       refine wL_val (wg rfl rfl rfl rfl) rfl rfl (y_load rfl rfl (r_load Try.underlying3 rfl (St.cl 0 S3 rfl rfl))) ?_
       refine wL_val (v := .bool true) (wg rfl rfl rfl rfl) rfl rfl (y_binop rfl rfl rfl (r_neq_t (by omega))) ?_
       refine wL_val (wg rfl rfl rfl rfl) rfl rfl (y_move rfl rfl) ?_
       refine wL_val (v := .pointer (some ⟨b1, 4, none⟩)) (wg rfl rfl rfl rfl) rfl rfl (y_fieldAddr rfl rfl (fa108_4 _ _ _)) ?_
       refine wL_val (wg rfl rfl rfl rfl) rfl rfl (y_load rfl rfl (r_load Try.underlying3 rfl (St.cl 0 S3 rfl rfl))) ?_
       by_cases h33 : rd = 0
       ·refine wL_val (v := .bool false) (wg rfl rfl rfl rfl) rfl rfl (y_binop rfl rfl rfl (r_neq_f h33)) ?_
        refine wL_val (wg rfl rfl rfl rfl) rfl rfl (y_pick_t rfl rfl rfl) ?_
        refine wL_val (wn rfl) rfl rfl (y_pick_f rfl rfl rfl) ?_
        refine wL_nil (wQ_sub (l' := [(1, _), (2, _), (97, _)]) ⟨rfl, rfl, rfl, trivial⟩ (wQ_then (wC_cond_f rfl (wC_skip (wQ_then (wC_seq (wC_region (wL_val (v := .pointer (some ⟨b1, 5, none⟩)) (wn rfl) rfl rfl (y_fieldAddr rfl rfl (fa108_5 _ _ _)) ?_))))))))
        refine wL_val (wn rfl) rfl rfl (y_load rfl rfl (r_load Try.underlying57 rfl (St.cl 0 S3 rfl rfl))) ?_
        refine wL_call (vs := [.slice A l.length c]) (wn rfl) rfl rfl (e_call (vs := [.slice A l.length c]) rfl en71 ⟨rfl, trivial⟩) (Replayed_calls A c l _ (St.rd 1 S3 rfl) (by omega)) ?_
        rintro _ w38 ⟨A34, c35, A36, c37, rfl, T40⟩
        refine ⟨_, rfl, ?_⟩
        have S39 := S3.ext T40 rfl; clear T40 S3
        change St _ _ _ [.rdo 2 A34 ((tellM l).1.ready.length) (((tellM l).1.ready).flatMap Msg.cells), .rdo 4 A36 ((tellM l).1.leases.length) (((tellM l).1.leases).flatMap Ls.cells), _, _] at S39
        refine wL_val (wn rfl) rfl rfl (y_move rfl rfl) ?_
        refine wL_val (wn rfl) rfl rfl (y_extract rfl rfl rfl) ?_
        refine wL_val (wn rfl) rfl rfl (y_extract rfl rfl rfl) ?_
        refine wL_new (V := fun b => .pointer (some ⟨b, 0, none⟩)) (row := qRow 0 0 0 (.slice none 0 0) (.slice none 0 0) zeroWs) (t := 29) S39 (wn rfl) rfl rfl (d_alloc rfl (Try.zeroValue29 _) rfl) ?_; intro b41 w42 S43; clear S39
        refine wL_st (fs' := [_, _, _, _, _]) 0 S43 (wn rfl) rfl rfl rfl rfl rfl rfl inf29 rfl (qRow_one rfl rfl) (Nat.le_of_ble_eq_true rfl) (setAll_all rfl) rfl ?_; intro w44 S45; clear S43
        refine wL_val (wn rfl) rfl rfl (y_assign rfl rfl) ?_
        refine wL_nil (wQ_sub (l' := [(2, _), (5, _)]) ⟨rfl, rfl, trivial⟩ (wQ_then (wC_seq (wC_seq (wC_region (wL_val (wn rfl) rfl rfl (y_move rfl rfl) ?_))))))
        by_cases h46 : (tellM l).2.2 = 0
        ·refine wL_val (v := .bool false) (wn rfl) rfl rfl (y_binop rfl rfl rfl (r_neq_f h46)) ?_
         refine wL_nil (wQ_sub (l' := [(2, _), (105, _)]) ⟨rfl, rfl, trivial⟩ (wQ_then (wC_cond_f rfl (wC_skip (wQ_then (wC_seq (wC_region (wL_val (wn rfl) rfl rfl (y_assign rfl rfl) ?_))))))))
         refine wL_nil (wQ_sub (l' := [(2, _)]) ⟨rfl, trivial⟩ (wQ_then (wC_ret (wQ_post (rs := [.tmp 2]) (vs := [.int .i64 0]) rfl ⟨rfl, trivial⟩ ?_))))
         exact ⟨ret_int_ (bf_ok (by unfold shapeB; dsimp only; omega) ‹_›).symm, S45.low⟩
        ·refine wL_val (v := .bool true) (wn rfl) rfl rfl (y_binop rfl rfl rfl (r_neq_t h46)) ?_
         refine wL_nil (wQ_sub (l' := [(2, _), (105, _)]) ⟨rfl, rfl, trivial⟩ (wQ_then (wC_cond_t rfl (wC_seq (wC_region (wL_val (wn rfl) rfl rfl (y_assign rfl rfl) ?_))))))
         refine wL_nil (wQ_sub (l' := [(2, _)]) ⟨rfl, trivial⟩ (wQ_then (wC_ret (wQ_then_ret (wQ_post (rs := [.tmp 2]) (vs := [.int .i64 6]) rfl ⟨rfl, trivial⟩ ?_)))))
         exact ⟨ret_int_ (by first | exact (bf_shape (by unfold shapeB; dsimp only; omega)).symm | exact (bf_tell (b := ⟨ro, ep, fr, tg, rd, l⟩) ‹_›).symm), S45.low⟩
       ·refine wL_val (v := .bool true) (wg rfl rfl rfl rfl) rfl rfl (y_binop rfl rfl rfl (r_neq_t h33)) ?_
        refine wL_val (wg rfl rfl rfl rfl) rfl rfl (y_pick_t rfl rfl rfl) ?_
        refine wL_val (wn rfl) rfl rfl (y_pick_f rfl rfl rfl) ?_
        refine wL_nil (wQ_sub (l' := [(1, _), (2, _), (97, _)]) ⟨rfl, rfl, rfl, trivial⟩ (wQ_then (wC_cond_t rfl (wC_seq (wC_region (wL_val (wn rfl) rfl rfl (y_assign rfl rfl) ?_))))))
        refine wL_nil (wQ_sub (l' := [(2, _)]) ⟨rfl, trivial⟩ (wQ_then (wC_ret (wQ_then_ret (wQ_post (rs := [.tmp 2]) (vs := [.int .i64 6]) rfl ⟨rfl, trivial⟩ ?_)))))
        exact ⟨ret_int_ (by first | exact (bf_shape (by unfold shapeB; dsimp only; omega)).symm | exact (bf_tell (b := ⟨ro, ep, fr, tg, rd, l⟩) ‹_›).symm), S3.low⟩
      ·refine wL_val (v := .bool true) (wg rfl rfl rfl rfl) rfl rfl (y_binop rfl rfl rfl (r_neq_t h32)) ?_
       refine wL_val (wg rfl rfl rfl rfl) rfl rfl (y_pick_t rfl rfl rfl) ?_
       refine wL_val (wn rfl) rfl rfl (y_pick_f rfl rfl rfl) ?_
       refine wL_nil (wQ_sub (l' := [(1, _), (2, _), (78, _)]) ⟨rfl, rfl, rfl, trivial⟩ (wQ_then (wC_cond_t rfl (wC_seq (wC_region (wL_val (wn rfl) rfl rfl (y_assign rfl rfl) ?_))))))
       refine wL_nil (wQ_sub (l' := [(2, _)]) ⟨rfl, trivial⟩ (wQ_then (wC_ret (wQ_then_ret (wQ_post (rs := [.tmp 2]) (vs := [.int .i64 6]) rfl ⟨rfl, trivial⟩ ?_)))))
       exact ⟨ret_int_ (by first | exact (bf_shape (by unfold shapeB; dsimp only; omega)).symm | exact (bf_tell (b := ⟨ro, ep, fr, tg, rd, l⟩) ‹_›).symm), S3.low⟩
     ·refine wL_call (vs := [.int .i64 fr, .int .i64 0, .int .i64 4]) (wg rfl rfl rfl rfl) rfl rfl (e_call (vs := [.int .i64 fr, .int .i64 0, .int .i64 4]) rfl en107 ⟨rfl, rfl, rfl, trivial⟩) (In_f hp30 _) ?_
      rintro _ w47 ⟨rfl, rfl⟩
      refine ⟨_, rfl, ?_⟩
      refine wL_val (v := .bool true) (wg rfl rfl rfl rfl) rfl rfl (y_unop rfl rfl r_not) ?_
      refine wL_val (wn rfl) rfl rfl (y_pick_t rfl rfl rfl) ?_
      refine wL_val (wn rfl) rfl rfl (y_move rfl rfl) ?_
      refine wL_skip (wg rfl rfl rfl rfl) rfl rfl ?_
      refine wL_skip (wg rfl rfl rfl rfl) rfl rfl ?_
      refine wL_skip (wg rfl rfl rfl rfl) rfl rfl ?_
      refine wL_skip (wg rfl rfl rfl rfl) rfl rfl ?_
      refine wL_skip (wg rfl rfl rfl rfl) rfl rfl ?_
      refine wL_skip (wg rfl rfl rfl rfl) rfl rfl ?_
      refine wL_skip (wg rfl rfl rfl rfl) rfl rfl ?_
      refine wL_skip (wg rfl rfl rfl rfl) rfl rfl ?_
      refine wL_val (wn rfl) rfl rfl (y_pick_t rfl rfl rfl) ?_
      refine wL_nil (wQ_sub (l' := [(1, _), (2, _), (54, _)]) ⟨rfl, rfl, rfl, trivial⟩ (wQ_then (wC_cond_t rfl (wC_seq (wC_region (wL_val (wn rfl) rfl rfl (y_assign rfl rfl) ?_))))))
      refine wL_nil (wQ_sub (l' := [(2, _)]) ⟨rfl, trivial⟩ (wQ_then (wC_ret (wQ_then_ret (wQ_post (rs := [.tmp 2]) (vs := [.int .i64 6]) rfl ⟨rfl, trivial⟩ ?_)))))
      exact ⟨ret_int_ (by first | exact (bf_shape (by unfold shapeB; dsimp only; omega)).symm | exact (bf_tell (b := ⟨ro, ep, fr, tg, rd, l⟩) ‹_›).symm), S3.low⟩
    ·refine wL_val (v := .bool false) (wn rfl) rfl rfl (y_binop rfl rfl rfl (r_eql_f h29)) ?_
     refine wL_val (wn rfl) rfl rfl (y_move rfl rfl) ?_
     refine wL_skip (wg rfl rfl rfl rfl) rfl rfl ?_
     refine wL_skip (wg rfl rfl rfl rfl) rfl rfl ?_
     refine wL_skip (wg rfl rfl rfl rfl) rfl rfl ?_
     refine wL_skip (wg rfl rfl rfl rfl) rfl rfl ?_
     refine wL_val (wn rfl) rfl rfl (y_pick_f rfl rfl rfl) ?_
     refine wL_val (wn rfl) rfl rfl (y_move rfl rfl) ?_
     refine wL_val (v := .pointer (some ⟨b1, 0, none⟩)) (wg rfl rfl rfl rfl) rfl rfl (y_fieldAddr rfl rfl (fa108_0 _ _ _)) ?_
     refine wL_val (wg rfl rfl rfl rfl) rfl rfl (y_load rfl rfl (r_load Try.underlying3 rfl (St.cl 0 S3 rfl rfl))) ?_
     refine wL_val (v := .bool true) (wg rfl rfl rfl rfl) rfl rfl (y_binop rfl rfl rfl (r_neq_t h29)) ?_
     refine wL_val (wg rfl rfl rfl rfl) rfl rfl (y_move rfl rfl) ?_
     refine wL_val (v := .pointer (some ⟨b1, 2, none⟩)) (wg rfl rfl rfl rfl) rfl rfl (y_fieldAddr rfl rfl (fa108_2 _ _ _)) ?_
     refine wL_val (wg rfl rfl rfl rfl) rfl rfl (y_load rfl rfl (r_load Try.underlying3 rfl (St.cl 0 S3 rfl rfl))) ?_
     by_cases h48 : fr = 0
     ·refine wL_val (v := .bool false) (wg rfl rfl rfl rfl) rfl rfl (y_binop rfl rfl rfl (r_neq_f h48)) ?_
      refine wL_val (wg rfl rfl rfl rfl) rfl rfl (y_pick_t rfl rfl rfl) ?_
      refine wL_val (wn rfl) rfl rfl (y_pick_f rfl rfl rfl) ?_
      refine wL_nil (wQ_sub (l' := [(1, _), (2, _), (54, _)]) ⟨rfl, rfl, rfl, trivial⟩ (wQ_then (wC_cond_f rfl (wC_skip (wQ_then (wC_seq (wC_region (wL_val (v := .pointer (some ⟨b1, 0, none⟩)) (wn rfl) rfl rfl (y_fieldAddr rfl rfl (fa108_0 _ _ _)) ?_))))))))
      refine wL_val (wn rfl) rfl rfl (y_load rfl rfl (r_load Try.underlying3 rfl (St.cl 0 S3 rfl rfl))) ?_
      by_cases h49 : ro = 2
      ·refine wL_val (v := .bool true) (wn rfl) rfl rfl (y_binop rfl rfl rfl (r_eql_t h49)) ?_
       refine wL_val (wn rfl) rfl rfl (y_move rfl rfl) ?_
       refine wL_skip (wg rfl rfl rfl rfl) rfl rfl ?_
       refine wL_skip (wg rfl rfl rfl rfl) rfl rfl ?_
       refine wL_skip (wg rfl rfl rfl rfl) rfl rfl ?_
       refine wL_val (wn rfl) rfl rfl (y_pick_t rfl rfl rfl) ?_
       refine wL_val (wn rfl) rfl rfl (y_assign rfl rfl) ?_
       refine wL_nil (wQ_sub (l' := [(1, _), (2, _), (3, _)]) ⟨rfl, rfl, rfl, trivial⟩ (wQ_then (wC_seq (wC_seq (wC_region (wL_val (wn rfl) rfl rfl (y_move rfl rfl) ?_))))))
       refine wL_val (wn rfl) rfl rfl (y_move rfl rfl) ?_
       refine wL_val (v := .pointer (some ⟨b1, 3, none⟩)) (wg rfl rfl rfl rfl) rfl rfl (y_fieldAddr rfl rfl (fa108_3 _ _ _)) ?_
       refine wL_val (wg rfl rfl rfl rfl) rfl rfl (y_load rfl rfl (r_load Try.underlying3 rfl (St.cl 0 S3 rfl rfl))) ?_
       by_cases hp50 : 0 ≤ tg ∧ tg ≤ 4
       ·refine wL_call (vs := [.int .i64 tg, .int .i64 0, .int .i64 4]) (wg rfl rfl rfl rfl) rfl rfl (e_call (vs := [.int .i64 tg, .int .i64 0, .int .i64 4]) rfl en107 ⟨rfl, rfl, rfl, trivial⟩) (In_t hp50 _) ?_
        rintro _ w51 ⟨rfl, rfl⟩
        refine ⟨_, rfl, ?_⟩
        refine wL_val (v := .bool false) (wg rfl rfl rfl rfl) rfl rfl (y_unop rfl rfl r_not) ?_
        refine wL_val (wn rfl) rfl rfl (y_pick_t rfl rfl rfl) ?_
        refine wL_val (wn rfl) rfl rfl (y_move rfl rfl) ?_
        refine wL_val (wg rfl rfl rfl rfl) rfl rfl (y_move rfl rfl) ?_
        refine wL_val (v := .bool false) (wg rfl rfl rfl rfl) rfl rfl (y_unop rfl rfl r_not) ?_
        refine wL_val (wg rfl rfl rfl rfl) rfl rfl (y_move rfl rfl) ?_
        refine wL_skip (wg rfl rfl rfl rfl) rfl rfl ?_
        refine wL_skip (wg rfl rfl rfl rfl) rfl rfl ?_
        refine wL_skip (wg rfl rfl rfl rfl) rfl rfl ?_
        refine wL_val (wg rfl rfl rfl rfl) rfl rfl (y_pick_f rfl rfl rfl) ?_
        refine wL_val (wn rfl) rfl rfl (y_pick_f rfl rfl rfl) ?_
        refine wL_nil (wQ_sub (l' := [(1, _), (2, _), (78, _)]) ⟨rfl, rfl, rfl, trivial⟩ (wQ_then (wC_cond_f rfl (wC_skip (wQ_then (wC_seq (wC_seq (wC_region (wL_val (v := .pointer (some ⟨b1, 0, none⟩)) (wn rfl) rfl rfl (y_fieldAddr rfl rfl (fa108_0 _ _ _)) ?_)))))))))
        refine wL_val (wn rfl) rfl rfl (y_load rfl rfl (r_load Try.underlying3 rfl (St.cl 0 S3 rfl rfl))) ?_
        refine wL_val (v := .bool true) (wn rfl) rfl rfl (y_binop rfl rfl rfl (r_eql_t h49)) ?_
        refine wL_val (wn rfl) rfl rfl (y_move rfl rfl) ?_
        refine wL_val (v := .pointer (some ⟨b1, 4, none⟩)) (wg rfl rfl rfl rfl) rfl rfl (y_fieldAddr rfl rfl (fa108_4 _ _ _)) ?_
        refine wL_val (wg rfl rfl rfl rfl) rfl rfl (y_load rfl rfl (r_load Try.underlying3 rfl (St.cl 0 S3 rfl rfl))) ?_
        by_cases hp52 : 0 ≤ rd ∧ rd ≤ 4
        ·refine wL_call (vs := [.int .i64 rd, .int .i64 0, .int .i64 4]) (wg rfl rfl rfl rfl) rfl rfl (e_call (vs := [.int .i64 rd, .int .i64 0, .int .i64 4]) rfl en107 ⟨rfl, rfl, rfl, trivial⟩) (In_t hp52 _) ?_
         rintro _ w53 ⟨rfl, rfl⟩
         refine ⟨_, rfl, ?_⟩
         refine wL_val (v := .bool false) (wg rfl rfl rfl rfl) rfl rfl (y_unop rfl rfl r_not) ?_
         refine wL_val (wn rfl) rfl rfl (y_pick_t rfl rfl rfl) ?_
         refine wL_val (wn rfl) rfl rfl (y_move rfl rfl) ?_
         refine wL_val (v := .pointer (some ⟨b1, 0, none⟩)) (wg rfl rfl rfl rfl) rfl rfl (y_fieldAddr rfl rfl (fa108_0 _ _ _)) ?_
         refine wL_val (wg rfl rfl rfl rfl) rfl rfl (y_load rfl rfl (r_load Try.underlying3 rfl (St.cl 0 S3 rfl rfl))) ?_
         refine wL_val (v := .bool false) (wg rfl rfl rfl rfl) rfl rfl (y_binop rfl rfl rfl (r_neq_f h49)) ?_
         refine wL_val (wg rfl rfl rfl rfl) rfl rfl (y_move rfl rfl) ?_
         refine wL_skip (wg rfl rfl rfl rfl) rfl rfl ?_
         refine wL_skip (wg rfl rfl rfl rfl) rfl rfl ?_
         refine wL_skip (wg rfl rfl rfl rfl) rfl rfl ?_
         refine wL_val (wg rfl rfl rfl rfl) rfl rfl (y_pick_f rfl rfl rfl) ?_
         refine wL_val (wn rfl) rfl rfl (y_pick_f rfl rfl rfl) ?_
         refine wL_nil (wQ_sub (l' := [(1, _), (2, _), (97, _)]) ⟨rfl, rfl, rfl, trivial⟩ (wQ_then (wC_cond_f rfl (wC_skip (wQ_then (wC_seq (wC_region (wL_val (v := .pointer (some ⟨b1, 5, none⟩)) (wn rfl) rfl rfl (y_fieldAddr rfl rfl (fa108_5 _ _ _)) ?_))))))))
         refine wL_val (wn rfl) rfl rfl (y_load rfl rfl (r_load Try.underlying57 rfl (St.cl 0 S3 rfl rfl))) ?_
         refine wL_call (vs := [.slice A l.length c]) (wn rfl) rfl rfl (e_call (vs := [.slice A l.length c]) rfl en71 ⟨rfl, trivial⟩) (Replayed_calls A c l _ (St.rd 1 S3 rfl) (by omega)) ?_
         rintro _ w58 ⟨A54, c55, A56, c57, rfl, T60⟩
         refine ⟨_, rfl, ?_⟩
         have S59 := S3.ext T60 rfl; clear T60 S3
         change St _ _ _ [.rdo 2 A54 ((tellM l).1.ready.length) (((tellM l).1.ready).flatMap Msg.cells), .rdo 4 A56 ((tellM l).1.leases.length) (((tellM l).1.leases).flatMap Ls.cells), _, _] at S59
         refine wL_val (wn rfl) rfl rfl (y_move rfl rfl) ?_
         refine wL_val (wn rfl) rfl rfl (y_extract rfl rfl rfl) ?_
         refine wL_val (wn rfl) rfl rfl (y_extract rfl rfl rfl) ?_
         refine wL_new (V := fun b => .pointer (some ⟨b, 0, none⟩)) (row := qRow 0 0 0 (.slice none 0 0) (.slice none 0 0) zeroWs) (t := 29) S59 (wn rfl) rfl rfl (d_alloc rfl (Try.zeroValue29 _) rfl) ?_; intro b61 w62 S63; clear S59
         refine wL_st (fs' := [_, _, _, _, _]) 0 S63 (wn rfl) rfl rfl rfl rfl rfl rfl inf29 rfl (qRow_one rfl rfl) (Nat.le_of_ble_eq_true rfl) (setAll_all rfl) rfl ?_; intro w64 S65; clear S63
         refine wL_val (wn rfl) rfl rfl (y_assign rfl rfl) ?_
         refine wL_nil (wQ_sub (l' := [(2, _), (5, _)]) ⟨rfl, rfl, trivial⟩ (wQ_then (wC_seq (wC_seq (wC_region (wL_val (wn rfl) rfl rfl (y_move rfl rfl) ?_))))))
         by_cases h66 : (tellM l).2.2 = 0
         ·refine wL_val (v := .bool false) (wn rfl) rfl rfl (y_binop rfl rfl rfl (r_neq_f h66)) ?_
          refine wL_nil (wQ_sub (l' := [(2, _), (105, _)]) ⟨rfl, rfl, trivial⟩ (wQ_then (wC_cond_f rfl (wC_skip (wQ_then (wC_seq (wC_region (wL_val (wn rfl) rfl rfl (y_assign rfl rfl) ?_))))))))
          refine wL_nil (wQ_sub (l' := [(2, _)]) ⟨rfl, trivial⟩ (wQ_then (wC_ret (wQ_post (rs := [.tmp 2]) (vs := [.int .i64 0]) rfl ⟨rfl, trivial⟩ ?_))))
          exact ⟨ret_int_ (bf_ok (by unfold shapeB; dsimp only; omega) ‹_›).symm, S65.low⟩
         ·refine wL_val (v := .bool true) (wn rfl) rfl rfl (y_binop rfl rfl rfl (r_neq_t h66)) ?_
          refine wL_nil (wQ_sub (l' := [(2, _), (105, _)]) ⟨rfl, rfl, trivial⟩ (wQ_then (wC_cond_t rfl (wC_seq (wC_region (wL_val (wn rfl) rfl rfl (y_assign rfl rfl) ?_))))))
          refine wL_nil (wQ_sub (l' := [(2, _)]) ⟨rfl, trivial⟩ (wQ_then (wC_ret (wQ_then_ret (wQ_post (rs := [.tmp 2]) (vs := [.int .i64 6]) rfl ⟨rfl, trivial⟩ ?_)))))
          exact ⟨ret_int_ (by first | exact (bf_shape (by unfold shapeB; dsimp only; omega)).symm | exact (bf_tell (b := ⟨ro, ep, fr, tg, rd, l⟩) ‹_›).symm), S65.low⟩
        ·refine wL_call (vs := [.int .i64 rd, .int .i64 0, .int .i64 4]) (wg rfl rfl rfl rfl) rfl rfl (e_call (vs := [.int .i64 rd, .int .i64 0, .int .i64 4]) rfl en107 ⟨rfl, rfl, rfl, trivial⟩) (In_f hp52 _) ?_
         rintro _ w67 ⟨rfl, rfl⟩
         refine ⟨_, rfl, ?_⟩
         refine wL_val (v := .bool true) (wg rfl rfl rfl rfl) rfl rfl (y_unop rfl rfl r_not) ?_
         refine wL_val (wn rfl) rfl rfl (y_pick_t rfl rfl rfl) ?_
         refine wL_val (wn rfl) rfl rfl (y_move rfl rfl) ?_
         refine wL_skip (wg rfl rfl rfl rfl) rfl rfl ?_
         refine wL_skip (wg rfl rfl rfl rfl) rfl rfl ?_
         refine wL_skip (wg rfl rfl rfl rfl) rfl rfl ?_
         refine wL_skip (wg rfl rfl rfl rfl) rfl rfl ?_
         refine wL_skip (wg rfl rfl rfl rfl) rfl rfl ?_
         refine wL_skip (wg rfl rfl rfl rfl) rfl rfl ?_
         refine wL_skip (wg rfl rfl rfl rfl) rfl rfl ?_
         refine wL_skip (wg rfl rfl rfl rfl) rfl rfl ?_
         refine wL_val (wn rfl) rfl rfl (y_pick_t rfl rfl rfl) ?_
         refine wL_nil (wQ_sub (l' := [(1, _), (2, _), (97, _)]) ⟨rfl, rfl, rfl, trivial⟩ (wQ_then (wC_cond_t rfl (wC_seq (wC_region (wL_val (wn rfl) rfl rfl (y_assign rfl rfl) ?_))))))
         refine wL_nil (wQ_sub (l' := [(2, _)]) ⟨rfl, trivial⟩ (wQ_then (wC_ret (wQ_then_ret (wQ_post (rs := [.tmp 2]) (vs := [.int .i64 6]) rfl ⟨rfl, trivial⟩ ?_)))))
         exact ⟨ret_int_ (by first | exact (bf_shape (by unfold shapeB; dsimp only; omega)).symm | exact (bf_tell (b := ⟨ro, ep, fr, tg, rd, l⟩) ‹_›).symm), S3.low⟩
       ·refine wL_call (vs := [.int .i64 tg, .int .i64 0, .int .i64 4]) (wg rfl rfl rfl rfl) rfl rfl (e_call (vs := [.int .i64 tg, .int .i64 0, .int .i64 4]) rfl en107 ⟨rfl, rfl, rfl, trivial⟩) (In_f hp50 _) ?_
        rintro _ w68 ⟨rfl, rfl⟩
        refine ⟨_, rfl, ?_⟩
        refine wL_val (v := .bool true) (wg rfl rfl rfl rfl) rfl rfl (y_unop rfl rfl r_not) ?_
        refine wL_val (wn rfl) rfl rfl (y_pick_t rfl rfl rfl) ?_
        refine wL_val (wn rfl) rfl rfl (y_move rfl rfl) ?_
        refine wL_skip (wg rfl rfl rfl rfl) rfl rfl ?_
        refine wL_skip (wg rfl rfl rfl rfl) rfl rfl ?_
        refine wL_skip (wg rfl rfl rfl rfl) rfl rfl ?_
        refine wL_skip (wg rfl rfl rfl rfl) rfl rfl ?_
        refine wL_skip (wg rfl rfl rfl rfl) rfl rfl ?_
        refine wL_skip (wg rfl rfl rfl rfl) rfl rfl ?_
        refine wL_skip (wg rfl rfl rfl rfl) rfl rfl ?_
        refine wL_val (wn rfl) rfl rfl (y_pick_t rfl rfl rfl) ?_
        refine wL_nil (wQ_sub (l' := [(1, _), (2, _), (78, _)]) ⟨rfl, rfl, rfl, trivial⟩ (wQ_then (wC_cond_t rfl (wC_seq (wC_region (wL_val (wn rfl) rfl rfl (y_assign rfl rfl) ?_))))))
        refine wL_nil (wQ_sub (l' := [(2, _)]) ⟨rfl, trivial⟩ (wQ_then (wC_ret (wQ_then_ret (wQ_post (rs := [.tmp 2]) (vs := [.int .i64 6]) rfl ⟨rfl, trivial⟩ ?_)))))
        exact ⟨ret_int_ (by first | exact (bf_shape (by unfold shapeB; dsimp only; omega)).symm | exact (bf_tell (b := ⟨ro, ep, fr, tg, rd, l⟩) ‹_›).symm), S3.low⟩
      ·refine wL_val (v := .bool false) (wn rfl) rfl rfl (y_binop rfl rfl rfl (r_eql_f h49)) ?_
       refine wL_val (wn rfl) rfl rfl (y_move rfl rfl) ?_
       refine wL_val (v := .pointer (some ⟨b1, 0, none⟩)) (wg rfl rfl rfl rfl) rfl rfl (y_fieldAddr rfl rfl (fa108_0 _ _ _)) ?_
       refine wL_val (wg rfl rfl rfl rfl) rfl rfl (y_load rfl rfl (r_load Try.underlying3 rfl (St.cl 0 S3 rfl rfl))) ?_
       by_cases h69 : ro = 3
       ·refine wL_val (v := .bool true) (wg rfl rfl rfl rfl) rfl rfl (y_binop rfl rfl rfl (r_eql_t h69)) ?_
        refine wL_val (wn rfl) rfl rfl (y_pick_f rfl rfl rfl) ?_
        refine wL_val (wn rfl) rfl rfl (y_assign rfl rfl) ?_
        refine wL_nil (wQ_sub (l' := [(1, _), (2, _), (3, _)]) ⟨rfl, rfl, rfl, trivial⟩ (wQ_then (wC_seq (wC_seq (wC_region (wL_val (wn rfl) rfl rfl (y_move rfl rfl) ?_))))))
        refine wL_val (wn rfl) rfl rfl (y_move rfl rfl) ?_
        refine wL_val (v := .pointer (some ⟨b1, 3, none⟩)) (wg rfl rfl rfl rfl) rfl rfl (y_fieldAddr rfl rfl (fa108_3 _ _ _)) ?_
        refine wL_val (wg rfl rfl rfl rfl) rfl rfl (y_load rfl rfl (r_load Try.underlying3 rfl (St.cl 0 S3 rfl rfl))) ?_
        by_cases hp70 : 0 ≤ tg ∧ tg ≤ 4
        ·refine wL_call (vs := [.int .i64 tg, .int .i64 0, .int .i64 4]) (wg rfl rfl rfl rfl) rfl rfl (e_call (vs := [.int .i64 tg, .int .i64 0, .int .i64 4]) rfl en107 ⟨rfl, rfl, rfl, trivial⟩) (In_t hp70 _) ?_
         rintro _ w71 ⟨rfl, rfl⟩
         refine ⟨_, rfl, ?_⟩
         refine wL_val (v := .bool false) (wg rfl rfl rfl rfl) rfl rfl (y_unop rfl rfl r_not) ?_
         refine wL_val (wn rfl) rfl rfl (y_pick_t rfl rfl rfl) ?_
         refine wL_val (wn rfl) rfl rfl (y_move rfl rfl) ?_
         refine wL_val (wg rfl rfl rfl rfl) rfl rfl (y_move rfl rfl) ?_
         refine wL_val (v := .bool false) (wg rfl rfl rfl rfl) rfl rfl (y_unop rfl rfl r_not) ?_
         refine wL_val (wg rfl rfl rfl rfl) rfl rfl (y_move rfl rfl) ?_
         refine wL_skip (wg rfl rfl rfl rfl) rfl rfl ?_
         refine wL_skip (wg rfl rfl rfl rfl) rfl rfl ?_
         refine wL_skip (wg rfl rfl rfl rfl) rfl rfl ?_
         refine wL_val (wg rfl rfl rfl rfl) rfl rfl (y_pick_f rfl rfl rfl) ?_
         refine wL_val (wn rfl) rfl rfl (y_pick_f rfl rfl rfl) ?_
         refine wL_nil (wQ_sub (l' := [(1, _), (2, _), (78, _)]) ⟨rfl, rfl, rfl, trivial⟩ (wQ_then (wC_cond_f rfl (wC_skip (wQ_then (wC_seq (wC_seq (wC_region (wL_val (v := .pointer (some ⟨b1, 0, none⟩)) (wn rfl) rfl rfl (y_fieldAddr rfl rfl (fa108_0 _ _ _)) ?_)))))))))
         refine wL_val (wn rfl) rfl rfl (y_load rfl rfl (r_load Try.underlying3 rfl (St.cl 0 S3 rfl rfl))) ?_
         refine wL_val (v := .bool false) (wn rfl) rfl rfl (y_binop rfl rfl rfl (r_eql_f h49)) ?_
         refine wL_val (wn rfl) rfl rfl (y_move rfl rfl) ?_
         refine wL_skip (wg rfl rfl rfl rfl) rfl rfl ?_
         refine wL_skip (wg rfl rfl rfl rfl) rfl rfl ?_
         refine wL_skip (wg rfl rfl rfl rfl) rfl rfl ?_
         refine wL_skip (wg rfl rfl rfl rfl) rfl rfl ?_
         refine wL_val (wn rfl) rfl rfl (y_pick_f rfl rfl rfl) ?_
         refine wL_val (wn rfl) rfl rfl (y_move rfl rfl) ?_
         refine wL_val (v := .pointer (some ⟨b1, 0, none⟩)) (wg rfl rfl rfl rfl) rfl rfl (y_fieldAddr rfl rfl (fa108_0 _ _ _)) ?_
         refine wL_val (wg rfl rfl rfl rfl) rfl rfl (y_load rfl rfl (r_load Try.underlying3 rfl (St.cl 0 S3 rfl rfl))) ?_
         refine wL_val (v := .bool true) (wg rfl rfl rfl rfl) rfl rfl (y_binop rfl rfl rfl (r_neq_t h49)) ?_
         refine wL_val (wg rfl rfl rfl rfl) rfl rfl (y_move rfl rfl) ?_
         refine wL_val (v := .pointer (some ⟨b1, 4, none⟩)) (wg rfl rfl rfl rfl) rfl rfl (y_fieldAddr rfl rfl (fa108_4 _ _ _)) ?_
         refine wL_val (wg rfl rfl rfl rfl) rfl rfl (y_load rfl rfl (r_load Try.underlying3 rfl (St.cl 0 S3 rfl rfl))) ?_
         by_cases h72 : rd = 0
         ·refine wL_val (v := .bool false) (wg rfl rfl rfl rfl) rfl rfl (y_binop rfl rfl rfl (r_neq_f h72)) ?_
          refine wL_val (wg rfl rfl rfl rfl) rfl rfl (y_pick_t rfl rfl rfl) ?_
          refine wL_val (wn rfl) rfl rfl (y_pick_f rfl rfl rfl) ?_
          refine wL_nil (wQ_sub (l' := [(1, _), (2, _), (97, _)]) ⟨rfl, rfl, rfl, trivial⟩ (wQ_then (wC_cond_f rfl (wC_skip (wQ_then (wC_seq (wC_region (wL_val (v := .pointer (some ⟨b1, 5, none⟩)) (wn rfl) rfl rfl (y_fieldAddr rfl rfl (fa108_5 _ _ _)) ?_))))))))
          refine wL_val (wn rfl) rfl rfl (y_load rfl rfl (r_load Try.underlying57 rfl (St.cl 0 S3 rfl rfl))) ?_
          refine wL_call (vs := [.slice A l.length c]) (wn rfl) rfl rfl (e_call (vs := [.slice A l.length c]) rfl en71 ⟨rfl, trivial⟩) (Replayed_calls A c l _ (St.rd 1 S3 rfl) (by omega)) ?_
          rintro _ w77 ⟨A73, c74, A75, c76, rfl, T79⟩
          refine ⟨_, rfl, ?_⟩
          have S78 := S3.ext T79 rfl; clear T79 S3
          change St _ _ _ [.rdo 2 A73 ((tellM l).1.ready.length) (((tellM l).1.ready).flatMap Msg.cells), .rdo 4 A75 ((tellM l).1.leases.length) (((tellM l).1.leases).flatMap Ls.cells), _, _] at S78
          refine wL_val (wn rfl) rfl rfl (y_move rfl rfl) ?_
          refine wL_val (wn rfl) rfl rfl (y_extract rfl rfl rfl) ?_
          refine wL_val (wn rfl) rfl rfl (y_extract rfl rfl rfl) ?_
          refine wL_new (V := fun b => .pointer (some ⟨b, 0, none⟩)) (row := qRow 0 0 0 (.slice none 0 0) (.slice none 0 0) zeroWs) (t := 29) S78 (wn rfl) rfl rfl (d_alloc rfl (Try.zeroValue29 _) rfl) ?_; intro b80 w81 S82; clear S78
          refine wL_st (fs' := [_, _, _, _, _]) 0 S82 (wn rfl) rfl rfl rfl rfl rfl rfl inf29 rfl (qRow_one rfl rfl) (Nat.le_of_ble_eq_true rfl) (setAll_all rfl) rfl ?_; intro w83 S84; clear S82
          refine wL_val (wn rfl) rfl rfl (y_assign rfl rfl) ?_
          refine wL_nil (wQ_sub (l' := [(2, _), (5, _)]) ⟨rfl, rfl, trivial⟩ (wQ_then (wC_seq (wC_seq (wC_region (wL_val (wn rfl) rfl rfl (y_move rfl rfl) ?_))))))
          by_cases h85 : (tellM l).2.2 = 0
          ·refine wL_val (v := .bool false) (wn rfl) rfl rfl (y_binop rfl rfl rfl (r_neq_f h85)) ?_
           refine wL_nil (wQ_sub (l' := [(2, _), (105, _)]) ⟨rfl, rfl, trivial⟩ (wQ_then (wC_cond_f rfl (wC_skip (wQ_then (wC_seq (wC_region (wL_val (wn rfl) rfl rfl (y_assign rfl rfl) ?_))))))))
           refine wL_nil (wQ_sub (l' := [(2, _)]) ⟨rfl, trivial⟩ (wQ_then (wC_ret (wQ_post (rs := [.tmp 2]) (vs := [.int .i64 0]) rfl ⟨rfl, trivial⟩ ?_))))
           exact ⟨ret_int_ (bf_ok (by unfold shapeB; dsimp only; omega) ‹_›).symm, S84.low⟩
          ·refine wL_val (v := .bool true) (wn rfl) rfl rfl (y_binop rfl rfl rfl (r_neq_t h85)) ?_
           refine wL_nil (wQ_sub (l' := [(2, _), (105, _)]) ⟨rfl, rfl, trivial⟩ (wQ_then (wC_cond_t rfl (wC_seq (wC_region (wL_val (wn rfl) rfl rfl (y_assign rfl rfl) ?_))))))
           refine wL_nil (wQ_sub (l' := [(2, _)]) ⟨rfl, trivial⟩ (wQ_then (wC_ret (wQ_then_ret (wQ_post (rs := [.tmp 2]) (vs := [.int .i64 6]) rfl ⟨rfl, trivial⟩ ?_)))))
           exact ⟨ret_int_ (by first | exact (bf_shape (by unfold shapeB; dsimp only; omega)).symm | exact (bf_tell (b := ⟨ro, ep, fr, tg, rd, l⟩) ‹_›).symm), S84.low⟩
         ·refine wL_val (v := .bool true) (wg rfl rfl rfl rfl) rfl rfl (y_binop rfl rfl rfl (r_neq_t h72)) ?_
          refine wL_val (wg rfl rfl rfl rfl) rfl rfl (y_pick_t rfl rfl rfl) ?_
          refine wL_val (wn rfl) rfl rfl (y_pick_f rfl rfl rfl) ?_
          refine wL_nil (wQ_sub (l' := [(1, _), (2, _), (97, _)]) ⟨rfl, rfl, rfl, trivial⟩ (wQ_then (wC_cond_t rfl (wC_seq (wC_region (wL_val (wn rfl) rfl rfl (y_assign rfl rfl) ?_))))))
          refine wL_nil (wQ_sub (l' := [(2, _)]) ⟨rfl, trivial⟩ (wQ_then (wC_ret (wQ_then_ret (wQ_post (rs := [.tmp 2]) (vs := [.int .i64 6]) rfl ⟨rfl, trivial⟩ ?_)))))
          exact ⟨ret_int_ (by first | exact (bf_shape (by unfold shapeB; dsimp only; omega)).symm | exact (bf_tell (b := ⟨ro, ep, fr, tg, rd, l⟩) ‹_›).symm), S3.low⟩
        ·refine wL_call (vs := [.int .i64 tg, .int .i64 0, .int .i64 4]) (wg rfl rfl rfl rfl) rfl rfl (e_call (vs := [.int .i64 tg, .int .i64 0, .int .i64 4]) rfl en107 ⟨rfl, rfl, rfl, trivial⟩) (In_f hp70 _) ?_
         rintro _ w86 ⟨rfl, rfl⟩
         refine ⟨_, rfl, ?_⟩
         refine wL_val (v := .bool true) (wg rfl rfl rfl rfl) rfl rfl (y_unop rfl rfl r_not) ?_
         refine wL_val (wn rfl) rfl rfl (y_pick_t rfl rfl rfl) ?_
         refine wL_val (wn rfl) rfl rfl (y_move rfl rfl) ?_
         refine wL_skip (wg rfl rfl rfl rfl) rfl rfl ?_
         refine wL_skip (wg rfl rfl rfl rfl) rfl rfl ?_
         refine wL_skip (wg rfl rfl rfl rfl) rfl rfl ?_
         refine wL_skip (wg rfl rfl rfl rfl) rfl rfl ?_
         refine wL_skip (wg rfl rfl rfl rfl) rfl rfl ?_
         refine wL_skip (wg rfl rfl rfl rfl) rfl rfl ?_
         refine wL_skip (wg rfl rfl rfl rfl) rfl rfl ?_
         refine wL_val (wn rfl) rfl rfl (y_pick_t rfl rfl rfl) ?_
         refine wL_nil (wQ_sub (l' := [(1, _), (2, _), (78, _)]) ⟨rfl, rfl, rfl, trivial⟩ (wQ_then (wC_cond_t rfl (wC_seq (wC_region (wL_val (wn rfl) rfl rfl (y_assign rfl rfl) ?_))))))
         refine wL_nil (wQ_sub (l' := [(2, _)]) ⟨rfl, trivial⟩ (wQ_then (wC_ret (wQ_then_ret (wQ_post (rs := [.tmp 2]) (vs := [.int .i64 6]) rfl ⟨rfl, trivial⟩ ?_)))))
         exact ⟨ret_int_ (by first | exact (bf_shape (by unfold shapeB; dsimp only; omega)).symm | exact (bf_tell (b := ⟨ro, ep, fr, tg, rd, l⟩) ‹_›).symm), S3.low⟩
       ·refine wL_val (v := .bool false) (wg rfl rfl rfl rfl) rfl rfl (y_binop rfl rfl rfl (r_eql_f h69)) ?_
        refine wL_val (wn rfl) rfl rfl (y_pick_f rfl rfl rfl) ?_
        refine wL_val (wn rfl) rfl rfl (y_assign rfl rfl) ?_
        refine wL_nil (wQ_sub (l' := [(1, _), (2, _), (3, _)]) ⟨rfl, rfl, rfl, trivial⟩ (wQ_then (wC_seq (wC_seq (wC_region (wL_val (wn rfl) rfl rfl (y_move rfl rfl) ?_))))))
        refine wL_val (wn rfl) rfl rfl (y_move rfl rfl) ?_
        refine wL_skip (wg rfl rfl rfl rfl) rfl rfl ?_
        refine wL_skip (wg rfl rfl rfl rfl) rfl rfl ?_
        refine wL_skip (wg rfl rfl rfl rfl) rfl rfl ?_
        refine wL_skip (wg rfl rfl rfl rfl) rfl rfl ?_
        refine wL_val (wn rfl) rfl rfl (y_pick_f rfl rfl rfl) ?_
        refine wL_val (wn rfl) rfl rfl (y_move rfl rfl) ?_
        refine wL_val (wg rfl rfl rfl rfl) rfl rfl (y_move rfl rfl) ?_
        refine wL_val (v := .bool true) (wg rfl rfl rfl rfl) rfl rfl (y_unop rfl rfl r_not) ?_
        refine wL_val (wg rfl rfl rfl rfl) rfl rfl (y_move rfl rfl) ?_
        refine wL_val (v := .pointer (some ⟨b1, 3, none⟩)) (wg rfl rfl rfl rfl) rfl rfl (y_fieldAddr rfl rfl (fa108_3 _ _ _)) ?_
        refine wL_val (wg rfl rfl rfl rfl) rfl rfl (y_load rfl rfl (r_load Try.underlying3 rfl (St.cl 0 S3 rfl rfl))) ?_
        by_cases h87 : tg = 0
        ·refine wL_val (v := .bool false) (wg rfl rfl rfl rfl) rfl rfl (y_binop rfl rfl rfl (r_neq_f h87)) ?_
         refine wL_val (wg rfl rfl rfl rfl) rfl rfl (y_pick_t rfl rfl rfl) ?_
         refine wL_val (wn rfl) rfl rfl (y_pick_f rfl rfl rfl) ?_
         refine wL_nil (wQ_sub (l' := [(1, _), (2, _), (78, _)]) ⟨rfl, rfl, rfl, trivial⟩ (wQ_then (wC_cond_f rfl (wC_skip (wQ_then (wC_seq (wC_seq (wC_region (wL_val (v := .pointer (some ⟨b1, 0, none⟩)) (wn rfl) rfl rfl (y_fieldAddr rfl rfl (fa108_0 _ _ _)) ?_)))))))))
         refine wL_val (wn rfl) rfl rfl (y_load rfl rfl (r_load Try.underlying3 rfl (St.cl 0 S3 rfl rfl))) ?_
         refine wL_val (v := .bool false) (wn rfl) rfl rfl (y_binop rfl rfl rfl (r_eql_f h49)) ?_
         refine wL_val (wn rfl) rfl rfl (y_move rfl rfl) ?_
         refine wL_skip (wg rfl rfl rfl rfl) rfl rfl ?_
         refine wL_skip (wg rfl rfl rfl rfl) rfl rfl ?_
         refine wL_skip (wg rfl rfl rfl rfl) rfl rfl ?_
         refine wL_skip (wg rfl rfl rfl rfl) rfl rfl ?_
         refine wL_val (wn rfl) rfl rfl (y_pick_f rfl rfl rfl) ?_
         refine wL_val (wn rfl) rfl rfl (y_move rfl rfl) ?_
         refine wL_val (v := .pointer (some ⟨b1, 0, none⟩)) (wg rfl rfl rfl rfl) rfl rfl (y_fieldAddr rfl rfl (fa108_0 _ _ _)) ?_
         refine wL_val (wg rfl rfl rfl rfl) rfl rfl (y_load rfl rfl (r_load Try.underlying3 rfl (St.cl 0 S3 rfl rfl))) ?_
         refine wL_val (v := .bool true) (wg rfl rfl rfl rfl) rfl rfl (y_binop rfl rfl rfl (r_neq_t h49)) ?_
         refine wL_val (wg rfl rfl rfl rfl) rfl rfl (y_move rfl rfl) ?_
         refine wL_val (v := .pointer (some ⟨b1, 4, none⟩)) (wg rfl rfl rfl rfl) rfl rfl (y_fieldAddr rfl rfl (fa108_4 _ _ _)) ?_
         refine wL_val (wg rfl rfl rfl rfl) rfl rfl (y_load rfl rfl (r_load Try.underlying3 rfl (St.cl 0 S3 rfl rfl))) ?_
         by_cases h88 : rd = 0
         ·refine wL_val (v := .bool false) (wg rfl rfl rfl rfl) rfl rfl (y_binop rfl rfl rfl (r_neq_f h88)) ?_
          refine wL_val (wg rfl rfl rfl rfl) rfl rfl (y_pick_t rfl rfl rfl) ?_
          refine wL_val (wn rfl) rfl rfl (y_pick_f rfl rfl rfl) ?_
          refine wL_nil (wQ_sub (l' := [(1, _), (2, _), (97, _)]) ⟨rfl, rfl, rfl, trivial⟩ (wQ_then (wC_cond_f rfl (wC_skip (wQ_then (wC_seq (wC_region (wL_val (v := .pointer (some ⟨b1, 5, none⟩)) (wn rfl) rfl rfl (y_fieldAddr rfl rfl (fa108_5 _ _ _)) ?_))))))))
          refine wL_val (wn rfl) rfl rfl (y_load rfl rfl (r_load Try.underlying57 rfl (St.cl 0 S3 rfl rfl))) ?_
          refine wL_call (vs := [.slice A l.length c]) (wn rfl) rfl rfl (e_call (vs := [.slice A l.length c]) rfl en71 ⟨rfl, trivial⟩) (Replayed_calls A c l _ (St.rd 1 S3 rfl) (by omega)) ?_
          rintro _ w93 ⟨A89, c90, A91, c92, rfl, T95⟩
          refine ⟨_, rfl, ?_⟩
          have S94 := S3.ext T95 rfl; clear T95 S3
          change St _ _ _ [.rdo 2 A89 ((tellM l).1.ready.length) (((tellM l).1.ready).flatMap Msg.cells), .rdo 4 A91 ((tellM l).1.leases.length) (((tellM l).1.leases).flatMap Ls.cells), _, _] at S94
          refine wL_val (wn rfl) rfl rfl (y_move rfl rfl) ?_
          refine wL_val (wn rfl) rfl rfl (y_extract rfl rfl rfl) ?_
          refine wL_val (wn rfl) rfl rfl (y_extract rfl rfl rfl) ?_
          refine wL_new (V := fun b => .pointer (some ⟨b, 0, none⟩)) (row := qRow 0 0 0 (.slice none 0 0) (.slice none 0 0) zeroWs) (t := 29) S94 (wn rfl) rfl rfl (d_alloc rfl (Try.zeroValue29 _) rfl) ?_; intro b96 w97 S98; clear S94
          refine wL_st (fs' := [_, _, _, _, _]) 0 S98 (wn rfl) rfl rfl rfl rfl rfl rfl inf29 rfl (qRow_one rfl rfl) (Nat.le_of_ble_eq_true rfl) (setAll_all rfl) rfl ?_; intro w99 S100; clear S98
          refine wL_val (wn rfl) rfl rfl (y_assign rfl rfl) ?_
          refine wL_nil (wQ_sub (l' := [(2, _), (5, _)]) ⟨rfl, rfl, trivial⟩ (wQ_then (wC_seq (wC_seq (wC_region (wL_val (wn rfl) rfl rfl (y_move rfl rfl) ?_))))))
          by_cases h101 : (tellM l).2.2 = 0
          ·refine wL_val (v := .bool false) (wn rfl) rfl rfl (y_binop rfl rfl rfl (r_neq_f h101)) ?_
           refine wL_nil (wQ_sub (l' := [(2, _), (105, _)]) ⟨rfl, rfl, trivial⟩ (wQ_then (wC_cond_f rfl (wC_skip (wQ_then (wC_seq (wC_region (wL_val (wn rfl) rfl rfl (y_assign rfl rfl) ?_))))))))
           refine wL_nil (wQ_sub (l' := [(2, _)]) ⟨rfl, trivial⟩ (wQ_then (wC_ret (wQ_post (rs := [.tmp 2]) (vs := [.int .i64 0]) rfl ⟨rfl, trivial⟩ ?_))))
           exact ⟨ret_int_ (bf_ok (by unfold shapeB; dsimp only; omega) ‹_›).symm, S100.low⟩
          ·refine wL_val (v := .bool true) (wn rfl) rfl rfl (y_binop rfl rfl rfl (r_neq_t h101)) ?_
           refine wL_nil (wQ_sub (l' := [(2, _), (105, _)]) ⟨rfl, rfl, trivial⟩ (wQ_then (wC_cond_t rfl (wC_seq (wC_region (wL_val (wn rfl) rfl rfl (y_assign rfl rfl) ?_))))))
           refine wL_nil (wQ_sub (l' := [(2, _)]) ⟨rfl, trivial⟩ (wQ_then (wC_ret (wQ_then_ret (wQ_post (rs := [.tmp 2]) (vs := [.int .i64 6]) rfl ⟨rfl, trivial⟩ ?_)))))
           exact ⟨ret_int_ (by first | exact (bf_shape (by unfold shapeB; dsimp only; omega)).symm | exact (bf_tell (b := ⟨ro, ep, fr, tg, rd, l⟩) ‹_›).symm), S100.low⟩
         ·refine wL_val (v := .bool true) (wg rfl rfl rfl rfl) rfl rfl (y_binop rfl rfl rfl (r_neq_t h88)) ?_
          refine wL_val (wg rfl rfl rfl rfl) rfl rfl (y_pick_t rfl rfl rfl) ?_
          refine wL_val (wn rfl) rfl rfl (y_pick_f rfl rfl rfl) ?_
          refine wL_nil (wQ_sub (l' := [(1, _), (2, _), (97, _)]) ⟨rfl, rfl, rfl, trivial⟩ (wQ_then (wC_cond_t rfl (wC_seq (wC_region (wL_val (wn rfl) rfl rfl (y_assign rfl rfl) ?_))))))
          refine wL_nil (wQ_sub (l' := [(2, _)]) ⟨rfl, trivial⟩ (wQ_then (wC_ret (wQ_then_ret (wQ_post (rs := [.tmp 2]) (vs := [.int .i64 6]) rfl ⟨rfl, trivial⟩ ?_)))))
          exact ⟨ret_int_ (by first | exact (bf_shape (by unfold shapeB; dsimp only; omega)).symm | exact (bf_tell (b := ⟨ro, ep, fr, tg, rd, l⟩) ‹_›).symm), S3.low⟩
        ·refine wL_val (v := .bool true) (wg rfl rfl rfl rfl) rfl rfl (y_binop rfl rfl rfl (r_neq_t h87)) ?_
         refine wL_val (wg rfl rfl rfl rfl) rfl rfl (y_pick_t rfl rfl rfl) ?_
         refine wL_val (wn rfl) rfl rfl (y_pick_f rfl rfl rfl) ?_
         refine wL_nil (wQ_sub (l' := [(1, _), (2, _), (78, _)]) ⟨rfl, rfl, rfl, trivial⟩ (wQ_then (wC_cond_t rfl (wC_seq (wC_region (wL_val (wn rfl) rfl rfl (y_assign rfl rfl) ?_))))))
         refine wL_nil (wQ_sub (l' := [(2, _)]) ⟨rfl, trivial⟩ (wQ_then (wC_ret (wQ_then_ret (wQ_post (rs := [.tmp 2]) (vs := [.int .i64 6]) rfl ⟨rfl, trivial⟩ ?_)))))
         exact ⟨ret_int_ (by first | exact (bf_shape (by unfold shapeB; dsimp only; omega)).symm | exact (bf_tell (b := ⟨ro, ep, fr, tg, rd, l⟩) ‹_›).symm), S3.low⟩
     ·refine wL_val (v := .bool true) (wg rfl rfl rfl rfl) rfl rfl (y_binop rfl rfl rfl (r_neq_t h48)) ?_
      refine wL_val (wg rfl rfl rfl rfl) rfl rfl (y_pick_t rfl rfl rfl) ?_
      refine wL_val (wn rfl) rfl rfl (y_pick_f rfl rfl rfl) ?_
      refine wL_nil (wQ_sub (l' := [(1, _), (2, _), (54, _)]) ⟨rfl, rfl, rfl, trivial⟩ (wQ_then (wC_cond_t rfl (wC_seq (wC_region (wL_val (wn rfl) rfl rfl (y_assign rfl rfl) ?_))))))
      refine wL_nil (wQ_sub (l' := [(2, _)]) ⟨rfl, trivial⟩ (wQ_then (wC_ret (wQ_then_ret (wQ_post (rs := [.tmp 2]) (vs := [.int .i64 6]) rfl ⟨rfl, trivial⟩ ?_)))))
      exact ⟨ret_int_ (by first | exact (bf_shape (by unfold shapeB; dsimp only; omega)).symm | exact (bf_tell (b := ⟨ro, ep, fr, tg, rd, l⟩) ‹_›).symm), S3.low⟩
   ·refine wL_call (vs := [.int .i64 ep, .int .i64 1, .int .i64 1048576]) (wg rfl rfl rfl rfl) rfl rfl (e_call (vs := [.int .i64 ep, .int .i64 1, .int .i64 1048576]) rfl en107 ⟨rfl, rfl, rfl, trivial⟩) (In_f hp27 _) ?_
    rintro _ w102 ⟨rfl, rfl⟩
    refine ⟨_, rfl, ?_⟩
    refine wL_val (v := .bool true) (wg rfl rfl rfl rfl) rfl rfl (y_unop rfl rfl r_not) ?_
    refine wL_val (wg rfl rfl rfl rfl) rfl rfl (y_pick_t rfl rfl rfl) ?_
    refine wL_val (wn rfl) rfl rfl (y_pick_f rfl rfl rfl) ?_
    refine wL_nil (wQ_sub (l' := [(1, _), (2, _), (35, _)]) ⟨rfl, rfl, rfl, trivial⟩ (wQ_then (wC_cond_t rfl (wC_seq (wC_region (wL_val (wn rfl) rfl rfl (y_assign rfl rfl) ?_))))))
    refine wL_nil (wQ_sub (l' := [(2, _)]) ⟨rfl, trivial⟩ (wQ_then (wC_ret (wQ_then_ret (wQ_post (rs := [.tmp 2]) (vs := [.int .i64 6]) rfl ⟨rfl, trivial⟩ ?_)))))
    exact ⟨ret_int_ (by first | exact (bf_shape (by unfold shapeB; dsimp only; omega)).symm | exact (bf_tell (b := ⟨ro, ep, fr, tg, rd, l⟩) ‹_›).symm), S3.low⟩
 ·refine wL_call (vs := [.int .i64 ro, .int .i64 0, .int .i64 4]) (wn rfl) rfl rfl (e_call (vs := [.int .i64 ro, .int .i64 0, .int .i64 4]) rfl en107 ⟨rfl, rfl, rfl, trivial⟩) (In_f hp4 _) ?_
  rintro _ w103 ⟨rfl, rfl⟩
  refine ⟨_, rfl, ?_⟩
  refine wL_val (v := .bool true) (wn rfl) rfl rfl (y_unop rfl rfl r_not) ?_
  refine wL_nil (wQ_sub (l' := [(1, _), (2, _), (9, _)]) ⟨rfl, rfl, rfl, trivial⟩ (wQ_then (wC_cond_t rfl (wC_seq (wC_region (wL_val (wn rfl) rfl rfl (y_assign rfl rfl) ?_))))))
  refine wL_nil (wQ_sub (l' := [(2, _)]) ⟨rfl, trivial⟩ (wQ_then (wC_ret (wQ_then_ret (wQ_post (rs := [.tmp 2]) (vs := [.int .i64 6]) rfl ⟨rfl, trivial⟩ ?_)))))
  exact ⟨ret_int_ (by first | exact (bf_shape (by unfold shapeB; dsimp only; omega)).symm | exact (bf_tell (b := ⟨ro, ep, fr, tg, rd, l⟩) ‹_›).symm), S3.low⟩

set_option maxRecDepth 100000 in
set_option maxHeartbeats 1000000 in
theorem BerthCopy_calls (ro ep fr tg rd : Int) (A : Option Addr) (c : Nat) (l : List Ev) (w : World) (h : Rd w w.heap.size 6 A l.length (evCells l)) (hb : l.length * 48 ≤ reachBytes) :
    Calls Try.prog 156 #[.agg #[.int .i64 ro, .int .i64 ep, .int .i64 fr, .int .i64 tg, .int .i64 rd, .slice A l.length c]] w (WithPost w ro ep fr tg rd l) := by
 have S := (St.start w).addRd h; clear h
 have hb2 := hb
 unfold reachBytes at hb2
 refine calls_of_wC (N := 8) (vs := [.agg #[.int .i64 ro, .int .i64 ep, .int .i64 fr, .int .i64 tg, .int .i64 rd, .slice A l.length c]]) Try.func156 rfl rfl rfl ?_
 refine wC_sub (l' := [(0, .agg #[.int .i64 ro, .int .i64 ep, .int .i64 fr, .int .i64 tg, .int .i64 rd, .slice A l.length c])]) ⟨rfl, trivial⟩ (wC_seq (wC_region (wL_new (V := fun b => .pointer (some ⟨b, 0, none⟩)) (row := #[.int .i64 ro, .int .i64 ep, .int .i64 fr, .int .i64 tg, .int .i64 rd, .slice A l.length c]) (t := 108) S (wn rfl) rfl rfl (d_box rfl rfl rfl) ?_))); intro b1 w2 S3; clear S
 refine wL_new (V := fun b => .pointer (some ⟨b, 0, none⟩)) (row := #[.int .i64 0, .int .i64 0, .int .i64 0, .int .i64 0, .int .i64 0, .slice none 0 0]) (t := 108) S3 (wn rfl) rfl rfl (d_alloc rfl (Try.zeroValue108 _) rfl) ?_; intro b4 w5 S6; clear S3
 refine wL_nil (wQ_sub (l' := [(1, _), (2, _)]) ⟨rfl, rfl, trivial⟩ (wQ_then (wC_seq (wC_region (wL_val (v := .pointer (some ⟨b1, 5, none⟩)) (wn rfl) rfl rfl (y_fieldAddr rfl rfl (fa108_5 _ _ _)) ?_)))))
 refine wL_val (wn rfl) rfl rfl (y_load rfl rfl (r_load Try.underlying57 rfl (St.cl 1 S6 rfl rfl))) ?_
 refine wL_call (vs := [.slice A l.length c]) (wn rfl) rfl rfl (e_call (vs := [.slice A l.length c]) rfl en152 ⟨rfl, trivial⟩) (EventsCopy_calls A l.length c l _ (St.rd 2 S6 rfl) hb) ?_
 rintro _ w11 ⟨A7, c8, rfl, hb9, ho10⟩
 refine ⟨_, rfl, ?_⟩
 have S12 := S6.onOwn hb9 ho10; clear hb9 ho10 S6
 change St _ _ _ [.own 37 6 (.slice A7 l.length c8) l.length ((l).flatMap Ev.cells), _, _, _] at S12
 refine wL_val (v := .pointer (some ⟨b1, 5, none⟩)) (wn rfl) rfl rfl (y_fieldAddr rfl rfl (fa108_5 _ _ _)) ?_
 refine wL_st (cs := #[.slice A7 l.length c8]) (row' := #[.int .i64 ro, .int .i64 ep, .int .i64 fr, .int .i64 tg, .int .i64 rd, .slice A7 l.length c8]) (fs' := [_, _, .blk b1 #[.int .i64 ro, .int .i64 ep, .int .i64 fr, .int .i64 tg, .int .i64 rd, .slice A7 l.length c8] 108, _]) 2 S12 (wn rfl) rfl rfl rfl rfl rfl rfl inf57 rfl (oneAll rfl) (Nat.le_of_ble_eq_true rfl) rfl rfl ?_; intro w13 S14; clear S12
 refine wL_nil (wQ_sub (l' := [(1, _), (2, _)]) ⟨rfl, rfl, trivial⟩ (wQ_then (wC_seq (wC_region (wL_val (wn rfl) rfl rfl (y_load rfl rfl (r_load_row 2 S14 rfl Try.underlying108 rfl inf108 rfl)) ?_)))))
 refine wL_st (fs' := [_, _, _, _]) 1 S14 (wn rfl) rfl rfl rfl rfl rfl rfl inf108 rfl (oneAll rfl) (Nat.le_of_ble_eq_true rfl) (setAll_all rfl) rfl ?_; intro w15 S16; clear S14
 refine wL_nil (wQ_sub (l' := [(2, _)]) ⟨rfl, trivial⟩ (wQ_then (wC_ret (wQ_post (rs := [.cell 2 108]) (vs := [.agg #[.int .i64 ro, .int .i64 ep, .int .i64 fr, .int .i64 tg, .int .i64 rd, .slice A7 l.length c8]]) rfl ⟨⟨_, rfl, res_row 1 S16 rfl Try.underlying108 rfl inf108⟩, trivial⟩ ?_))))
 have S17 : St w.heap.size w w15 [_] := (St.del 1 (St.del 2 (St.del 3 S16))); clear S16
 exact ⟨A7, c8, rfl, S17⟩

set_option maxRecDepth 100000 in
set_option maxHeartbeats 1000000 in
theorem berths_calls (ro ep fr tg rd : Int) (A : Option Addr) (c : Nat) (l : List Ev) (w : World) (h : Rd w w.heap.size 6 A l.length (evCells l)) (hb : l.length * 48 ≤ reachBytes) :
    Calls Try.prog 77 #[.agg #[.int .i64 ro, .int .i64 ep, .int .i64 fr, .int .i64 tg, .int .i64 rd, .slice A l.length c]] w (WithPost w ro ep fr tg rd l) := by
 have S := (St.start w).addRd h; clear h
 have hb2 := hb
 unfold reachBytes at hb2
 refine calls_of_wC (N := 5) (vs := [.agg #[.int .i64 ro, .int .i64 ep, .int .i64 fr, .int .i64 tg, .int .i64 rd, .slice A l.length c]]) Try.func77 rfl rfl rfl ?_
 refine wC_sub (l' := [(0, .agg #[.int .i64 ro, .int .i64 ep, .int .i64 fr, .int .i64 tg, .int .i64 rd, .slice A l.length c])]) ⟨rfl, trivial⟩ (wC_seq (wC_region (wL_new (V := fun b => .pointer (some ⟨b, 0, none⟩)) (row := #[.int .i64 ro, .int .i64 ep, .int .i64 fr, .int .i64 tg, .int .i64 rd, .slice A l.length c]) (t := 108) S (wn rfl) rfl rfl (d_box rfl rfl rfl) ?_))); intro b1 w2 S3; clear S
 refine wL_new (V := fun b => .pointer (some ⟨b, 0, none⟩)) (row := #[.int .i64 0, .int .i64 0, .int .i64 0, .int .i64 0, .int .i64 0, .slice none 0 0]) (t := 108) S3 (wn rfl) rfl rfl (d_alloc rfl (Try.zeroValue108 _) rfl) ?_; intro b4 w5 S6; clear S3
 refine wL_nil (wQ_sub (l' := [(1, _), (2, _)]) ⟨rfl, rfl, trivial⟩ (wQ_then (wC_seq (wC_region (wL_val (wn rfl) rfl rfl (y_load rfl rfl (r_load_row 1 S6 rfl Try.underlying108 rfl inf108 rfl)) ?_)))))
 refine wL_call (vs := [.agg #[.int .i64 ro, .int .i64 ep, .int .i64 fr, .int .i64 tg, .int .i64 rd, .slice A l.length c]]) (wn rfl) rfl rfl (e_call (vs := [.agg #[.int .i64 ro, .int .i64 ep, .int .i64 fr, .int .i64 tg, .int .i64 rd, .slice A l.length c]]) rfl en156 ⟨rfl, trivial⟩) (BerthCopy_calls ro ep fr tg rd A c l _ (St.rd 2 S6 rfl) hb) ?_
 rintro _ w9 ⟨A7, c8, rfl, T11⟩
 refine ⟨_, rfl, ?_⟩
 have S10 := S6.ext T11 rfl; clear T11 S6
 change St _ _ _ [.own 37 6 (.slice A7 l.length c8) l.length ((l).flatMap Ev.cells), _, _, _] at S10
 refine wL_st (fs' := [_, _, _, _]) 1 S10 (wn rfl) rfl rfl rfl rfl rfl rfl inf108 rfl (oneAll rfl) (Nat.le_of_ble_eq_true rfl) (setAll_all rfl) rfl ?_; intro w12 S13; clear S10
 refine wL_nil (wQ_sub (l' := [(2, _)]) ⟨rfl, trivial⟩ (wQ_then (wC_ret (wQ_post (rs := [.cell 2 108]) (vs := [.agg #[.int .i64 ro, .int .i64 ep, .int .i64 fr, .int .i64 tg, .int .i64 rd, .slice A7 l.length c8]]) rfl ⟨⟨_, rfl, res_row 1 S13 rfl Try.underlying108 rfl inf108⟩, trivial⟩ ?_))))
 have S14 : St w.heap.size w w12 [_] := (St.del 1 (St.del 2 (St.del 3 S13))); clear S13
 exact ⟨A7, c8, rfl, S14⟩
end Go.Proofs.Ytkjlafpafmihaaa

