/- Parts of proofs: lemmas on memory, on single functions and on the plain models; no condition of their own. -/
import Derived.Test.YtkjlafpafmihaaaRows
import Derived.WalkKit
import Derived.ProofKit
import Derived.OpenShut
import Derived.SizedLaws
import Derived.WalkSpells
import Derived.WalkLawsBesides
import Derived.Handy
import Derived.Deep.QuietTactic
import Derived.BigQuiet
import Derived.Lib.Hide
import Derived.Maps.AppendAt
import Derived.Deep.AppendLies
import Derived.RegionTactic
import Derived.OwnWalk
import Derived.Laws.Tables
import Derived.Deep.MidRow
import Derived.StillTailTactics
import Derived.OrdersHeld
import Derived.Deep.RegionHeld3
import Derived.Laws.IdiomCopy
import Derived.ChangeKeysEq
import Derived.Laws.BitsAllLaws
import Derived.Deep.DeepCutAuto
import Derived.Deep.CutRange
import Derived.Shelf.SlSortCmp.WholeK
import Derived.Shelf.SlSortCmp.NoneTotal
import Derived.Shelf.SlicesG.Cmp
import Derived.Shelf.SlGeneric
import Derived.Ground.SlsfProg
import Derived.Ground.SlgcProg
import Derived.Maps.OwnSet
import Derived.Lib.SliceRun
import Derived.Deep.RegionLaw
import Derived.Test.YtkjlafpafmihaaaG06e1f1d2e814
import Derived.Test.YtkjlafpafmihaaaG0e35ec4e0bdc
import Derived.Test.YtkjlafpafmihaaaG1b3fdc30e051
import Derived.Test.YtkjlafpafmihaaaG2143c9b0b786
import Derived.Test.YtkjlafpafmihaaaG2955b7bf0201
import Derived.Test.YtkjlafpafmihaaaG3cad135f796d
import Derived.Test.YtkjlafpafmihaaaG4616653cfbd3
import Derived.Test.YtkjlafpafmihaaaG595361ea5659
import Derived.Test.YtkjlafpafmihaaaG668153da7687
import Derived.Test.YtkjlafpafmihaaaG69ea6f18ea30
import Derived.Test.YtkjlafpafmihaaaG71ad53e81cd4
import Derived.Test.YtkjlafpafmihaaaG7f9bde47e941
import Derived.Test.YtkjlafpafmihaaaG8ba6bfb0af5b
import Derived.Test.YtkjlafpafmihaaaG91b64aa8aa74
import Derived.Test.YtkjlafpafmihaaaG9d6a0cc61d66
import Derived.Test.YtkjlafpafmihaaaGa67dcf529610
import Derived.Test.YtkjlafpafmihaaaGa89c1a6f9966
import Derived.Test.YtkjlafpafmihaaaGa956530333d6
import Derived.Test.YtkjlafpafmihaaaGad4fca606e19
import Derived.Test.YtkjlafpafmihaaaGb06670d46fbe
import Derived.Test.YtkjlafpafmihaaaGb705d1f06a25
import Derived.Test.YtkjlafpafmihaaaGc78e27da6ed6
import Derived.Test.YtkjlafpafmihaaaGdea6a90e7048
import Derived.Test.YtkjlafpafmihaaaGf3cc171333c0
import Derived.Test.YtkjlafpafmihaaaGfed51b8f206e
set_option linter.unusedVariables false
set_option linter.unusedSimpArgs false

namespace Go.Proofs.Ytkjlafpafmihaaa
open Go.ChangeShapes Go.WideShapes Go.RowKit

set_option maxRecDepth 100000 in
set_option maxHeartbeats 1000000 in
theorem Wake_calls (ro ep fr tg rd : Int) (A : Option Addr) (c : Nat) (l : List Ev) (w : World) (h : Rd w w.heap.size 6 A l.length (evCells l)) (hb : l.length * 48 ≤ reachBytes) :
    Calls Try.prog 86 #[.agg #[.int .i64 ro, .int .i64 ep, .int .i64 fr, .int .i64 tg, .int .i64 rd, .slice A l.length c]] w (BrtPost w (wakeM ⟨ro, ep, fr, tg, rd, l⟩)) := by
 have S := (St.start w).addRd h; clear h
 have hb2 := hb
 unfold reachBytes at hb2
 refine calls_of_wC (N := 30) (vs := [.agg #[.int .i64 ro, .int .i64 ep, .int .i64 fr, .int .i64 tg, .int .i64 rd, .slice A l.length c]]) Try.func86 rfl rfl rfl ?_
 refine wC_sub (l' := [(0, .agg #[.int .i64 ro, .int .i64 ep, .int .i64 fr, .int .i64 tg, .int .i64 rd, .slice A l.length c])]) ⟨rfl, trivial⟩ (wC_seq (wC_region (wL_new (V := fun b => .pointer (some ⟨b, 0, none⟩)) (row := #[.int .i64 ro, .int .i64 ep, .int .i64 fr, .int .i64 tg, .int .i64 rd, .slice A l.length c]) (t := 108) S (wn rfl) rfl rfl (d_box rfl rfl rfl) ?_))); intro b1 w2 S3; clear S
 refine wL_new (V := fun b => .pointer (some ⟨b, 0, none⟩)) (row := #[.int .i64 0, .int .i64 0, .int .i64 0, .int .i64 0, .int .i64 0, .slice none 0 0]) (t := 108) S3 (wn rfl) rfl rfl (d_alloc rfl (Try.zeroValue108 _) rfl) ?_; intro b4 w5 S6; clear S3
 refine wL_val (wn rfl) rfl rfl (y_assign rfl rfl) ?_
 refine wL_nil (wQ_sub (l' := [(1, _), (2, _), (3, _)]) ⟨rfl, rfl, rfl, trivial⟩ (wQ_then (wC_seq (wC_seq (wC_region (wL_val (wn rfl) rfl rfl (y_load rfl rfl (r_load_row 1 S6 rfl Try.underlying108 rfl inf108 rfl)) ?_))))))
 refine wL_call (vs := [.agg #[.int .i64 ro, .int .i64 ep, .int .i64 fr, .int .i64 tg, .int .i64 rd, .slice A l.length c]]) (wn rfl) rfl rfl (e_call (vs := [.agg #[.int .i64 ro, .int .i64 ep, .int .i64 fr, .int .i64 tg, .int .i64 rd, .slice A l.length c]]) rfl en76 ⟨rfl, trivial⟩) (BCheck_calls ro ep fr tg rd A c l _ (St.rd 2 S6 rfl) (by omega)) ?_
 rintro _ w7 ⟨rfl, hb9⟩
 refine ⟨_, rfl, ?_⟩
 have S8 := S6.on hb9; clear hb9 S6
 refine wL_val (wn rfl) rfl rfl (y_assign rfl rfl) ?_
 refine wL_nil (wQ_sub (l' := [(1, _), (2, _), (3, _), (4, _)]) ⟨rfl, rfl, rfl, rfl, trivial⟩ (wQ_then (wC_seq (wC_region (wL_val (wn rfl) rfl rfl (y_move rfl rfl) ?_)))))
 by_cases h10 : brtFault ⟨ro, ep, fr, tg, rd, l⟩ = 0
 ·have hsh := (bf_zero h10).1
  unfold shapeB at hsh
  have hln := tellM_len (bf_zero h10).2
  dsimp only at hsh hln
  refine wL_val (v := .bool false) (wn rfl) rfl rfl (y_binop rfl rfl rfl (r_neq_f h10)) ?_
  refine wL_nil (wQ_sub (l' := [(1, _), (2, _), (3, _), (4, _), (9, _)]) ⟨rfl, rfl, rfl, rfl, rfl, trivial⟩ (wQ_then (wC_cond_f rfl (wC_skip (wQ_then (wC_seq (wC_seq (wC_region (wL_val (wn rfl) rfl rfl (y_load rfl rfl (r_load_row 1 S8 rfl Try.underlying108 rfl inf108 rfl)) ?_)))))))))
  have HC := fun (w : World) (h : Rd w w.heap.size 6 A l.length (evCells l)) => serving_calls ro ep fr tg rd A c l w h (by omega)
  by_cases hsv : ro = 1 ∨ ro = 2
  ·rw [decide_eq_true hsv] at HC
   refine wL_call (vs := [.agg #[.int .i64 ro, .int .i64 ep, .int .i64 fr, .int .i64 tg, .int .i64 rd, .slice A l.length c]]) (wn rfl) rfl rfl (e_call (vs := [.agg #[.int .i64 ro, .int .i64 ep, .int .i64 fr, .int .i64 tg, .int .i64 rd, .slice A l.length c]]) rfl en159 ⟨rfl, trivial⟩) (HC _ (St.rd 2 S8 rfl)) ?_
   rintro _ w11 ⟨rfl, hb13⟩
   refine ⟨_, rfl, ?_⟩
   have S12 := S8.on hb13; clear hb13 S8; clear HC
   refine wL_val (v := .bool false) (wn rfl) rfl rfl (y_unop rfl rfl r_not) ?_
   refine wL_nil (wQ_sub (l' := [(1, _), (2, _), (3, _), (14, _)]) ⟨rfl, rfl, rfl, rfl, trivial⟩ (wQ_then (wC_cond_f rfl (wC_skip (wQ_then (wC_seq (wC_region (wL_val (v := .pointer (some ⟨b1, 1, none⟩)) (wn rfl) rfl rfl (y_fieldAddr rfl rfl (fa108_1 _ _ _)) ?_))))))))
   refine wL_val (wn rfl) rfl rfl (y_load rfl rfl (r_load Try.underlying3 rfl (St.cl 1 S12 rfl rfl))) ?_
   refine wL_val (v := .pointer (some ⟨b1, 5, none⟩)) (wn rfl) rfl rfl (y_fieldAddr rfl rfl (fa108_5 _ _ _)) ?_
   refine wL_val (wn rfl) rfl rfl (y_load rfl rfl (r_load Try.underlying57 rfl (St.cl 1 S12 rfl rfl))) ?_
   refine wL_val (v := .agg #[.int .i64 1, .int .i64 ep, .int .i64 0, .int .i64 0, .int .i64 0, .slice A l.length c]) (wn rfl) rfl rfl (y_build (vs := [(0, .int .i64 1), (1, .int .i64 ep), (5, .slice A l.length c)]) rfl ⟨rfl, rfl, rfl, rfl, rfl, rfl, trivial⟩ (by kernel_rfl)) ?_
   refine wL_val (v := .agg #[.int .i64 4, .int .i64 0, .int .i64 0, .int .i64 0, .int .i64 0, .int .i64 0]) (wn rfl) rfl rfl (y_build (vs := [(0, .int .i64 4)]) rfl ⟨rfl, rfl, trivial⟩ (by kernel_rfl)) ?_
   refine wL_new (V := fun b => .slice (some ⟨b, 0, none⟩) 1 1) (row := #[.int .i64 4, .int .i64 0, .int .i64 0, .int .i64 0, .int .i64 0, .int .i64 0]) (t := 37) S12 (wn rfl) rfl rfl (d_buildSlice (vs := [(0, .agg #[.int .i64 4, .int .i64 0, .int .i64 0, .int .i64 0, .int .i64 0, .int .i64 0])]) rfl ⟨rfl, rfl, trivial⟩ (by kernel_rfl)) ?_; intro b14 w15 S16; clear S12
   refine wL_call (vs := [.agg #[.int .i64 1, .int .i64 ep, .int .i64 0, .int .i64 0, .int .i64 0, .slice A l.length c], .slice (some ⟨b14, 0, none⟩) 1 1]) (wn rfl) rfl rfl (e_call (vs := [.agg #[.int .i64 1, .int .i64 ep, .int .i64 0, .int .i64 0, .int .i64 0, .slice A l.length c], .slice (some ⟨b14, 0, none⟩) 1 1]) rfl en160 ⟨rfl, rfl, trivial⟩) (with_calls 1 ep 0 0 0 A c l (some ⟨b14, 0, none⟩) 1 [brkEv] _ (St.rd 3 S16 rfl) (St.bld (xs := evCells [brkEv]) 0 S16 rfl rfl rfl) (by simp only [List.length_cons, List.length_nil]; unfold reachBytes; omega)) ?_
   rintro _ w19 ⟨A17, c18, rfl, T21⟩
   refine ⟨_, rfl, ?_⟩
   have S20 := S16.ext T21 rfl; clear T21 S16
   change St _ _ _ [.own 37 6 (.slice A17 ((l ++ [brkEv]).length) c18) ((l ++ [brkEv]).length) ((l ++ [brkEv]).flatMap Ev.cells), _, _, _, _] at S20
   refine wL_new (V := fun b => .pointer (some ⟨b, 0, none⟩)) (row := #[.int .i64 0, .int .i64 0, .int .i64 0, .int .i64 0, .int .i64 0, .slice none 0 0]) (t := 108) S20 (wn rfl) rfl rfl (d_alloc rfl (Try.zeroValue108 _) rfl) ?_; intro b22 w23 S24; clear S20
   refine wL_st (fs' := [_, _, _, _, _, _]) 0 S24 (wn rfl) rfl rfl rfl rfl rfl rfl inf108 rfl (oneAll rfl) (Nat.le_of_ble_eq_true rfl) (setAll_all rfl) rfl ?_; intro w25 S26; clear S24
   refine wL_nil (wQ_sub (l' := [(2, _), (3, _), (5, _)]) ⟨rfl, rfl, rfl, trivial⟩ (wQ_then (wC_seq (wC_seq (wC_region (wL_val (wn rfl) rfl rfl (y_load rfl rfl (r_load_row 0 S26 rfl Try.underlying108 rfl inf108 rfl)) ?_))))))
   refine wL_call (vs := [.agg #[.int .i64 1, .int .i64 ep, .int .i64 0, .int .i64 0, .int .i64 0, .slice A17 ((l ++ [brkEv]).length) c18]]) (wn rfl) rfl rfl (e_call (vs := [.agg #[.int .i64 1, .int .i64 ep, .int .i64 0, .int .i64 0, .int .i64 0, .slice A17 ((l ++ [brkEv]).length) c18]]) rfl en76 ⟨rfl, trivial⟩) (BCheck_calls 1 ep 0 0 0 A17 c18 (l ++ [brkEv]) _ (St.ord 1 S26 rfl) (by simp only [List.length_append, List.length_cons, List.length_nil, List.length_drop]; omega)) ?_
   rintro _ w27 ⟨rfl, hb29⟩
   refine ⟨_, rfl, ?_⟩
   have S28 := S26.on hb29; clear hb29 S26
   by_cases h30 : brtFault ⟨1, ep, 0, 0, 0, l ++ [brkEv]⟩ = 0
   ·have hsh := (bf_zero h30).1
    unfold shapeB at hsh
    have hln := tellM_len (bf_zero h30).2
    dsimp only at hsh hln
    refine wL_val (v := .bool false) (wn rfl) rfl rfl (y_binop rfl rfl rfl (r_neq_f h30)) ?_
    refine wL_nil (wQ_sub (l' := [(2, _), (3, _), (5, _), (27, _)]) ⟨rfl, rfl, rfl, rfl, trivial⟩ (wQ_then (wC_cond_f rfl (wC_skip (wQ_then (wC_seq (wC_region (wL_val (wn rfl) rfl rfl (y_load rfl rfl (r_load_row 0 S28 rfl Try.underlying108 rfl inf108 rfl)) ?_))))))))
    refine wL_st (fs' := [_, _, _, _, _, _]) 3 S28 (wn rfl) rfl rfl rfl rfl rfl rfl inf108 rfl (oneAll rfl) (Nat.le_of_ble_eq_true rfl) (setAll_all rfl) rfl ?_; intro w31 S32; clear S28
    refine wL_val (wn rfl) rfl rfl (y_assign rfl rfl) ?_
    refine wL_nil (wQ_sub (l' := [(2, _), (3, _)]) ⟨rfl, rfl, trivial⟩ (wQ_then (wC_ret (wQ_post (rs := [.cell 2 108, .tmp 3]) (vs := [.agg #[.int .i64 1, .int .i64 ep, .int .i64 0, .int .i64 0, .int .i64 0, .slice A17 ((l ++ [brkEv]).length) c18], .int .i64 0]) rfl ⟨⟨_, rfl, res_row 3 S32 rfl Try.underlying108 rfl inf108⟩, rfl, trivial⟩ ?_))))
    have S33 : St w.heap.size w w31 [_] := (St.del 0 (St.del 2 (St.del 3 (St.del 4 (St.del 5 S32))))); clear S32
    have S34 := S33.sealAll 0 rfl; clear S33
    change St _ _ _ [.rdo 6 A17 ((l ++ [brkEv]).length) ((l ++ [brkEv]).flatMap Ev.cells)] at S34
    rw [show wakeM ⟨ro, ep, fr, tg, rd, l⟩ = (⟨1, ep, 0, 0, 0, l ++ [brkEv]⟩, 0) from by unfold wakeM; (try dsimp only); (repeat' (first | rfl | omega | split)) <;> (simp only [Prod.mk.injEq, Brt.mk.injEq, and_true, true_and, and_self]; omega)]
    exact ⟨A17, c18, rfl, S34⟩
   ·refine wL_val (v := .bool true) (wn rfl) rfl rfl (y_binop rfl rfl rfl (r_neq_t h30)) ?_
    refine wL_nil (wQ_sub (l' := [(2, _), (3, _), (5, _), (27, _)]) ⟨rfl, rfl, rfl, rfl, trivial⟩ (wQ_then (wC_cond_t rfl (wC_seq (wC_region (wL_val (v := .agg #[.int .i64 0, .int .i64 0, .int .i64 0, .int .i64 0, .int .i64 0, .slice none 0 0]) (wn rfl) rfl rfl (y_build (vs := []) rfl trivial (by kernel_rfl)) ?_))))))
    refine wL_st (fs' := [_, _, _, _, _, _]) 3 S28 (wn rfl) rfl rfl rfl rfl rfl rfl inf108 rfl (oneAll rfl) (Nat.le_of_ble_eq_true rfl) (setAll_all rfl) rfl ?_; intro w35 S36; clear S28
    refine wL_val (wn rfl) rfl rfl (y_assign rfl rfl) ?_
    refine wL_nil (wQ_sub (l' := [(2, _), (3, _)]) ⟨rfl, rfl, trivial⟩ (wQ_then (wC_ret (wQ_then_ret (wQ_post (rs := [.cell 2 108, .tmp 3]) (vs := [.agg #[.int .i64 0, .int .i64 0, .int .i64 0, .int .i64 0, .int .i64 0, .slice none 0 0], .int .i64 14]) rfl ⟨⟨_, rfl, res_row 3 S36 rfl Try.underlying108 rfl inf108⟩, rfl, trivial⟩ ?_)))))
    have S37 : St w.heap.size w w35 [] := (St.del 0 (St.del 1 (St.del 2 (St.del 3 (St.del 4 (St.del 5 S36)))))); clear S36
    rw [show wakeM ⟨ro, ep, fr, tg, rd, l⟩ = (⟨0, 0, 0, 0, 0, []⟩, 14) from by unfold wakeM; (try dsimp only); (repeat' (first | rfl | omega | split)) <;> (simp only [Prod.mk.injEq, Brt.mk.injEq, and_true, true_and, and_self]; omega)]
    exact ⟨none, 0, rfl, rdo_nil S37⟩
  ·rw [decide_eq_false hsv] at HC
   refine wL_call (vs := [.agg #[.int .i64 ro, .int .i64 ep, .int .i64 fr, .int .i64 tg, .int .i64 rd, .slice A l.length c]]) (wn rfl) rfl rfl (e_call (vs := [.agg #[.int .i64 ro, .int .i64 ep, .int .i64 fr, .int .i64 tg, .int .i64 rd, .slice A l.length c]]) rfl en159 ⟨rfl, trivial⟩) (HC _ (St.rd 2 S8 rfl)) ?_
   rintro _ w38 ⟨rfl, hb40⟩
   refine ⟨_, rfl, ?_⟩
   have S39 := S8.on hb40; clear hb40 S8; clear HC
   refine wL_val (v := .bool true) (wn rfl) rfl rfl (y_unop rfl rfl r_not) ?_
   refine wL_nil (wQ_sub (l' := [(1, _), (2, _), (3, _), (14, _)]) ⟨rfl, rfl, rfl, rfl, trivial⟩ (wQ_then (wC_cond_t rfl (wC_seq (wC_region (wL_val (wn rfl) rfl rfl (y_load rfl rfl (r_load_row 1 S39 rfl Try.underlying108 rfl inf108 rfl)) ?_))))))
   refine wL_call (vs := [.agg #[.int .i64 ro, .int .i64 ep, .int .i64 fr, .int .i64 tg, .int .i64 rd, .slice A l.length c], .slice none 0 0]) (wn rfl) rfl rfl (e_call (vs := [.agg #[.int .i64 ro, .int .i64 ep, .int .i64 fr, .int .i64 tg, .int .i64 rd, .slice A l.length c], .slice none 0 0]) rfl en160 ⟨rfl, rfl, trivial⟩) (with0_calls ro ep fr tg rd A c l _ (St.rd 2 S39 rfl) hb) ?_
   rintro _ w43 ⟨A41, c42, rfl, T45⟩
   refine ⟨_, rfl, ?_⟩
   have S44 := S39.ext T45 rfl; clear T45 S39
   change St _ _ _ [.own 37 6 (.slice A41 l.length c42) l.length ((l).flatMap Ev.cells), _, _, _] at S44
   refine wL_st (fs' := [_, _, _, _]) 1 S44 (wn rfl) rfl rfl rfl rfl rfl rfl inf108 rfl (oneAll rfl) (Nat.le_of_ble_eq_true rfl) (setAll_all rfl) rfl ?_; intro w46 S47; clear S44
   refine wL_val (wn rfl) rfl rfl (y_assign rfl rfl) ?_
   refine wL_nil (wQ_sub (l' := [(2, _), (3, _)]) ⟨rfl, rfl, trivial⟩ (wQ_then (wC_ret (wQ_then_ret (wQ_post (rs := [.cell 2 108, .tmp 3]) (vs := [.agg #[.int .i64 ro, .int .i64 ep, .int .i64 fr, .int .i64 tg, .int .i64 rd, .slice A41 l.length c42], .int .i64 0]) rfl ⟨⟨_, rfl, res_row 1 S47 rfl Try.underlying108 rfl inf108⟩, rfl, trivial⟩ ?_)))))
   have S48 : St w.heap.size w w46 [_] := (St.del 1 (St.del 2 (St.del 3 S47))); clear S47
   have S49 := S48.sealAll 0 rfl; clear S48
   change St _ _ _ [.rdo 6 A41 l.length ((l).flatMap Ev.cells)] at S49
   rw [show wakeM ⟨ro, ep, fr, tg, rd, l⟩ = (⟨ro, ep, fr, tg, rd, l⟩, 0) from by unfold wakeM; (try dsimp only); (repeat' (first | rfl | omega | split)) <;> (simp only [Prod.mk.injEq, Brt.mk.injEq, and_true, true_and, and_self]; omega)]
   exact ⟨A41, c42, rfl, S49⟩
 ·refine wL_val (v := .bool true) (wn rfl) rfl rfl (y_binop rfl rfl rfl (r_neq_t h10)) ?_
  refine wL_nil (wQ_sub (l' := [(1, _), (2, _), (3, _), (4, _), (9, _)]) ⟨rfl, rfl, rfl, rfl, rfl, trivial⟩ (wQ_then (wC_cond_t rfl (wC_seq (wC_region (wL_val (v := .agg #[.int .i64 0, .int .i64 0, .int .i64 0, .int .i64 0, .int .i64 0, .slice none 0 0]) (wn rfl) rfl rfl (y_build (vs := []) rfl trivial (by kernel_rfl)) ?_))))))
  refine wL_val (wn rfl) rfl rfl (y_move rfl rfl) ?_
  refine wL_st (fs' := [_, _, _]) 0 S8 (wn rfl) rfl rfl rfl rfl rfl rfl inf108 rfl (oneAll rfl) (Nat.le_of_ble_eq_true rfl) (setAll_all rfl) rfl ?_; intro w50 S51; clear S8
  refine wL_val (wn rfl) rfl rfl (y_assign rfl rfl) ?_
  refine wL_nil (wQ_sub (l' := [(2, _), (3, _)]) ⟨rfl, rfl, trivial⟩ (wQ_then (wC_ret (wQ_then_ret (wQ_post (rs := [.cell 2 108, .tmp 3]) (vs := [.agg #[.int .i64 0, .int .i64 0, .int .i64 0, .int .i64 0, .int .i64 0, .slice none 0 0], .int .i64 (brtFault ⟨ro, ep, fr, tg, rd, l⟩)]) rfl ⟨⟨_, rfl, res_row 0 S51 rfl Try.underlying108 rfl inf108⟩, rfl, trivial⟩ ?_)))))
  have S52 : St w.heap.size w w50 [] := (St.del 0 (St.del 1 (St.del 2 S51))); clear S51
  rw [show wakeM ⟨ro, ep, fr, tg, rd, l⟩ = (⟨0, 0, 0, 0, 0, []⟩, brtFault ⟨ro, ep, fr, tg, rd, l⟩) from by unfold wakeM; (try dsimp only); (repeat' (first | rfl | omega | split)) <;> (simp only [Prod.mk.injEq, Brt.mk.injEq, and_true, true_and, and_self]; omega)]
  exact ⟨none, 0, rfl, rdo_nil S52⟩

end Go.Proofs.Ytkjlafpafmihaaa

namespace Go.Proofs.Ytkjlafpafmihaaa
open Go.ChangeShapes Go.WideShapes Go.RowKit

set_option maxRecDepth 100000 in
set_option maxHeartbeats 1000000 in
theorem BerthWoken_calls (ro ep fr tg rd : Int) (A : Option Addr) (c : Nat) (l : List Ev) (w : World) (h : Rd w w.heap.size 6 A l.length (evCells l)) (hb : l.length * 48 ≤ reachBytes) :
    Calls Try.prog 87 #[.agg #[.int .i64 ro, .int .i64 ep, .int .i64 fr, .int .i64 tg, .int .i64 rd, .slice A l.length c]] w (BrtPost w (wakeM ⟨ro, ep, fr, tg, rd, l⟩)) := by
 have S := (St.start w).addRd h; clear h
 have hb2 := hb
 unfold reachBytes at hb2
 refine calls_of_wC (N := 37) (vs := [.agg #[.int .i64 ro, .int .i64 ep, .int .i64 fr, .int .i64 tg, .int .i64 rd, .slice A l.length c]]) Try.func87 rfl rfl rfl ?_
 refine wC_sub (l' := [(0, .agg #[.int .i64 ro, .int .i64 ep, .int .i64 fr, .int .i64 tg, .int .i64 rd, .slice A l.length c])]) ⟨rfl, trivial⟩ (wC_seq (wC_region (wL_new (V := fun b => .pointer (some ⟨b, 0, none⟩)) (row := #[.int .i64 ro, .int .i64 ep, .int .i64 fr, .int .i64 tg, .int .i64 rd, .slice A l.length c]) (t := 108) S (wn rfl) rfl rfl (d_box rfl rfl rfl) ?_))); intro b1 w2 S3; clear S
 refine wL_new (V := fun b => .pointer (some ⟨b, 0, none⟩)) (row := #[.int .i64 0, .int .i64 0, .int .i64 0, .int .i64 0, .int .i64 0, .slice none 0 0]) (t := 108) S3 (wn rfl) rfl rfl (d_alloc rfl (Try.zeroValue108 _) rfl) ?_; intro b4 w5 S6; clear S3
 refine wL_val (wn rfl) rfl rfl (y_assign rfl rfl) ?_
 refine wL_nil (wQ_sub (l' := [(1, _), (2, _), (3, _)]) ⟨rfl, rfl, rfl, trivial⟩ (wQ_then (wC_seq (wC_region (wL_val (wn rfl) rfl rfl (y_load rfl rfl (r_load_row 1 S6 rfl Try.underlying108 rfl inf108 rfl)) ?_)))))
 refine wL_call (vs := [.agg #[.int .i64 ro, .int .i64 ep, .int .i64 fr, .int .i64 tg, .int .i64 rd, .slice A l.length c]]) (wn rfl) rfl rfl (e_call (vs := [.agg #[.int .i64 ro, .int .i64 ep, .int .i64 fr, .int .i64 tg, .int .i64 rd, .slice A l.length c]]) rfl en78 ⟨rfl, trivial⟩) (BerthFault_calls ro ep fr tg rd A c l _ (St.rd 2 S6 rfl) (by omega)) ?_
 rintro _ w7 ⟨rfl, hb9⟩
 refine ⟨_, rfl, ?_⟩
 have S8 := S6.on hb9; clear hb9 S6
 refine wL_val (wn rfl) rfl rfl (y_assign rfl rfl) ?_
 refine wL_nil (wQ_sub (l' := [(1, _), (2, _), (3, _), (4, _)]) ⟨rfl, rfl, rfl, rfl, trivial⟩ (wQ_then (wC_seq (wC_seq (wC_region (wL_val (wn rfl) rfl rfl (y_move rfl rfl) ?_))))))
 by_cases h10 : brtFault ⟨ro, ep, fr, tg, rd, l⟩ = 0
 ·have hsh := (bf_zero h10).1
  unfold shapeB at hsh
  have hln := tellM_len (bf_zero h10).2
  dsimp only at hsh hln
  refine wL_val (v := .bool false) (wn rfl) rfl rfl (y_binop rfl rfl rfl (r_neq_f h10)) ?_
  refine wL_nil (wQ_sub (l' := [(1, _), (2, _), (3, _), (4, _), (9, _)]) ⟨rfl, rfl, rfl, rfl, rfl, trivial⟩ (wQ_then (wC_cond_f rfl (wC_skip (wQ_then (wC_seq (wC_region (wL_val (wn rfl) rfl rfl (y_load rfl rfl (r_load_row 1 S8 rfl Try.underlying108 rfl inf108 rfl)) ?_))))))))
  refine wL_call (vs := [.agg #[.int .i64 ro, .int .i64 ep, .int .i64 fr, .int .i64 tg, .int .i64 rd, .slice A l.length c]]) (wn rfl) rfl rfl (e_call (vs := [.agg #[.int .i64 ro, .int .i64 ep, .int .i64 fr, .int .i64 tg, .int .i64 rd, .slice A l.length c]]) rfl en156 ⟨rfl, trivial⟩) (BerthCopy_calls ro ep fr tg rd A c l _ (St.rd 2 S8 rfl) hb) ?_
  rintro _ w13 ⟨A11, c12, rfl, T15⟩
  refine ⟨_, rfl, ?_⟩
  have S14 := S8.ext T15 rfl; clear T15 S8
  change St _ _ _ [.own 37 6 (.slice A11 l.length c12) l.length ((l).flatMap Ev.cells), _, _, _] at S14
  refine wL_new (V := fun b => .pointer (some ⟨b, 0, none⟩)) (row := #[.int .i64 0, .int .i64 0, .int .i64 0, .int .i64 0, .int .i64 0, .slice none 0 0]) (t := 108) S14 (wn rfl) rfl rfl (d_alloc rfl (Try.zeroValue108 _) rfl) ?_; intro b16 w17 S18; clear S14
  refine wL_st (fs' := [_, _, _, _, _]) 0 S18 (wn rfl) rfl rfl rfl rfl rfl rfl inf108 rfl (oneAll rfl) (Nat.le_of_ble_eq_true rfl) (setAll_all rfl) rfl ?_; intro w19 S20; clear S18
  refine wL_nil (wQ_sub (l' := [(1, _), (2, _), (3, _), (5, _)]) ⟨rfl, rfl, rfl, rfl, trivial⟩ (wQ_then (wC_seq (wC_seq (wC_region (wL_val (v := .pointer (some ⟨b1, 0, none⟩)) (wn rfl) rfl rfl (y_fieldAddr rfl rfl (fa108_0 _ _ _)) ?_))))))
  refine wL_val (wn rfl) rfl rfl (y_load rfl rfl (r_load Try.underlying3 rfl (St.cl 3 S20 rfl rfl))) ?_
  by_cases h21 : ro = 1
  ·refine wL_val (v := .bool false) (wn rfl) rfl rfl (y_binop rfl rfl rfl (r_neq_f h21)) ?_
   refine wL_val (wn rfl) rfl rfl (y_move rfl rfl) ?_
   refine wL_skip (wg rfl rfl rfl rfl) rfl rfl ?_
   refine wL_skip (wg rfl rfl rfl rfl) rfl rfl ?_
   refine wL_skip (wg rfl rfl rfl rfl) rfl rfl ?_
   refine wL_val (wn rfl) rfl rfl (y_pick_f rfl rfl rfl) ?_
   refine wL_nil (wQ_sub (l' := [(2, _), (3, _), (5, _), (21, _)]) ⟨rfl, rfl, rfl, rfl, trivial⟩ (wQ_then (wC_cond_f rfl (wC_skip (wQ_then (wC_seq (wC_region (wL_val (v := .pointer (some ⟨b16, 0, none⟩)) (wn rfl) rfl rfl (y_fieldAddr rfl rfl (fa108_0 _ _ _)) ?_))))))))
   refine wL_st (cs := #[.int .i64 1]) (row' := #[.int .i64 1, .int .i64 ep, .int .i64 fr, .int .i64 tg, .int .i64 rd, .slice A11 l.length c12]) (fs' := [.blk b16 #[.int .i64 1, .int .i64 ep, .int .i64 fr, .int .i64 tg, .int .i64 rd, .slice A11 l.length c12] 108, _, _, _, _]) 0 S20 (wn rfl) rfl rfl rfl rfl rfl rfl inf3 rfl (oneAll rfl) (Nat.le_of_ble_eq_true rfl) rfl rfl ?_; intro w22 S23; clear S20
   refine wL_nil (wQ_sub (l' := [(2, _), (3, _), (5, _)]) ⟨rfl, rfl, rfl, trivial⟩ (wQ_then (wC_seq (wC_region (wL_val (v := .pointer (some ⟨b16, 3, none⟩)) (wn rfl) rfl rfl (y_fieldAddr rfl rfl (fa108_3 _ _ _)) ?_)))))
   refine wL_st (cs := #[.int .i64 0]) (row' := #[.int .i64 1, .int .i64 ep, .int .i64 fr, .int .i64 0, .int .i64 rd, .slice A11 l.length c12]) (fs' := [.blk b16 #[.int .i64 1, .int .i64 ep, .int .i64 fr, .int .i64 0, .int .i64 rd, .slice A11 l.length c12] 108, _, _, _, _]) 0 S23 (wn rfl) rfl rfl rfl rfl rfl rfl inf3 rfl (oneAll rfl) (Nat.le_of_ble_eq_true rfl) rfl rfl ?_; intro w24 S25; clear S23
   refine wL_nil (wQ_sub (l' := [(2, _), (3, _), (5, _)]) ⟨rfl, rfl, rfl, trivial⟩ (wQ_then (wC_seq (wC_region (wL_val (v := .pointer (some ⟨b16, 4, none⟩)) (wn rfl) rfl rfl (y_fieldAddr rfl rfl (fa108_4 _ _ _)) ?_)))))
   refine wL_st (cs := #[.int .i64 0]) (row' := #[.int .i64 1, .int .i64 ep, .int .i64 fr, .int .i64 0, .int .i64 0, .slice A11 l.length c12]) (fs' := [.blk b16 #[.int .i64 1, .int .i64 ep, .int .i64 fr, .int .i64 0, .int .i64 0, .slice A11 l.length c12] 108, _, _, _, _]) 0 S25 (wn rfl) rfl rfl rfl rfl rfl rfl inf3 rfl (oneAll rfl) (Nat.le_of_ble_eq_true rfl) rfl rfl ?_; intro w26 S27; clear S25
   refine wL_nil (wQ_sub (l' := [(2, _), (3, _), (5, _)]) ⟨rfl, rfl, rfl, trivial⟩ (wQ_then (wC_seq (wC_region (wL_val (v := .pointer (some ⟨b16, 5, none⟩)) (wn rfl) rfl rfl (y_fieldAddr rfl rfl (fa108_5 _ _ _)) ?_)))))
   refine wL_val (wn rfl) rfl rfl (y_load rfl rfl (r_load Try.underlying57 rfl (St.cl 0 S27 rfl rfl))) ?_
   refine wL_val (v := .agg #[.int .i64 4, .int .i64 0, .int .i64 0, .int .i64 0, .int .i64 0, .int .i64 0]) (wn rfl) rfl rfl (y_build (vs := [(0, .int .i64 4)]) rfl ⟨rfl, rfl, trivial⟩ (by kernel_rfl)) ?_
   refine wL_new (V := fun b => .slice (some ⟨b, 0, none⟩) 1 1) (row := #[.int .i64 4, .int .i64 0, .int .i64 0, .int .i64 0, .int .i64 0, .int .i64 0]) (t := 37) S27 (wn rfl) rfl rfl (d_buildSlice (vs := [(0, .agg #[.int .i64 4, .int .i64 0, .int .i64 0, .int .i64 0, .int .i64 0, .int .i64 0])]) rfl ⟨rfl, rfl, trivial⟩ (by kernel_rfl)) ?_; intro b28 w29 S30; clear S27
   refine wL_append (news := [.int .i64 4, .int .i64 0, .int .i64 0, .int .i64 0, .int .i64 0, .int .i64 0]) (xs' := (l ++ [brkEv]).flatMap Ev.cells) 2 S30 (wn rfl) rfl rfl rfl rfl rfl rfl (St.bld (xs := [.int .i64 4, .int .i64 0, .int .i64 0, .int .i64 0, .int .i64 0, .int .i64 0]) 0 S30 rfl rfl rfl) Try.underlying57 infz37 rfl (by decide) (oneAll rfl) (by simp only [maxLen]; omega) (by omega) (fm_snoc (enc := Ev.cells) rfl rfl) ?_; intro A31 c32 w33 hc35 hm36 S34; clear S30
   change St _ _ _ [_, _, .own 37 6 (.slice A31 (l.length + 1) c32) (l.length + 1) ((l ++ [brkEv]).flatMap Ev.cells), _, _, _] at S34
   refine wL_val (v := .pointer (some ⟨b16, 5, none⟩)) (wn rfl) rfl rfl (y_fieldAddr rfl rfl (fa108_5 _ _ _)) ?_
   refine wL_st (cs := #[.slice A31 (l.length + 1) c32]) (row' := #[.int .i64 1, .int .i64 ep, .int .i64 fr, .int .i64 0, .int .i64 0, .slice A31 (l.length + 1) c32]) (fs' := [_, .blk b16 #[.int .i64 1, .int .i64 ep, .int .i64 fr, .int .i64 0, .int .i64 0, .slice A31 (l.length + 1) c32] 108, _, _, _, _]) 1 S34 (wn rfl) rfl rfl rfl rfl rfl rfl inf57 rfl (oneAll rfl) (Nat.le_of_ble_eq_true rfl) rfl rfl ?_; intro w37 S38; clear S34
   refine wL_nil (wQ_sub (l' := [(2, _), (3, _), (5, _)]) ⟨rfl, rfl, rfl, trivial⟩ (wQ_then (wC_seq (wC_seq (wC_region (wL_val (wn rfl) rfl rfl (y_load rfl rfl (r_load_row 1 S38 rfl Try.underlying108 rfl inf108 rfl)) ?_))))))
   obtain rfl : fr = 0 := by omega
   have hal : (l ++ [brkEv]).length = l.length + 1 := by simp only [List.length_append, List.length_cons, List.length_nil, List.length_drop]
   have HC39 := fun (w : World) (h : Rd w w.heap.size 6 A31 ((l ++ [brkEv]).length) (evCells (l ++ [brkEv]))) => BerthFault_calls 1 ep 0 0 0 A31 c32 (l ++ [brkEv]) w h (by omega)
   rw [hal] at HC39
   refine wL_call (vs := [.agg #[.int .i64 1, .int .i64 ep, .int .i64 0, .int .i64 0, .int .i64 0, .slice A31 (l.length + 1) c32]]) (wn rfl) rfl rfl (e_call (vs := [.agg #[.int .i64 1, .int .i64 ep, .int .i64 0, .int .i64 0, .int .i64 0, .slice A31 (l.length + 1) c32]]) rfl en78 ⟨rfl, trivial⟩) (HC39 _ (St.ord 2 S38 rfl)) ?_
   rintro _ w40 ⟨rfl, hb42⟩
   refine ⟨_, rfl, ?_⟩
   have S41 := S38.on hb42; clear hb42 S38; clear HC39
   by_cases h43 : brtFault ⟨1, ep, 0, 0, 0, l ++ [brkEv]⟩ = 0
   ·have hsh := (bf_zero h43).1
    unfold shapeB at hsh
    have hln := tellM_len (bf_zero h43).2
    dsimp only at hsh hln
    refine wL_val (v := .bool false) (wn rfl) rfl rfl (y_binop rfl rfl rfl (r_neq_f h43)) ?_
    refine wL_nil (wQ_sub (l' := [(2, _), (3, _), (5, _), (34, _)]) ⟨rfl, rfl, rfl, rfl, trivial⟩ (wQ_then (wC_cond_f rfl (wC_skip (wQ_then (wC_seq (wC_region (wL_val (wn rfl) rfl rfl (y_load rfl rfl (r_load_row 1 S41 rfl Try.underlying108 rfl inf108 rfl)) ?_))))))))
    refine wL_st (fs' := [_, _, _, _, _, _]) 3 S41 (wn rfl) rfl rfl rfl rfl rfl rfl inf108 rfl (oneAll rfl) (Nat.le_of_ble_eq_true rfl) (setAll_all rfl) rfl ?_; intro w44 S45; clear S41
    refine wL_val (wn rfl) rfl rfl (y_assign rfl rfl) ?_
    refine wL_nil (wQ_sub (l' := [(2, _), (3, _)]) ⟨rfl, rfl, trivial⟩ (wQ_then (wC_ret (wQ_post (rs := [.cell 2 108, .tmp 3]) (vs := [.agg #[.int .i64 1, .int .i64 ep, .int .i64 0, .int .i64 0, .int .i64 0, .slice A31 (l.length + 1) c32], .int .i64 0]) rfl ⟨⟨_, rfl, res_row 3 S45 rfl Try.underlying108 rfl inf108⟩, rfl, trivial⟩ ?_))))
    have S46 : St w.heap.size w w44 [_] := (St.del 0 (St.del 1 (St.del 3 (St.del 4 (St.del 5 S45))))); clear S45
    have S47 := S46.sealAll 0 rfl; clear S46
    change St _ _ _ [.rdo 6 A31 (l.length + 1) ((l ++ [brkEv]).flatMap Ev.cells)] at S47
    rw [show wakeM ⟨ro, ep, 0, tg, rd, l⟩ = (⟨1, ep, 0, 0, 0, l ++ [brkEv]⟩, 0) from by unfold wakeM; (try dsimp only); (repeat' (first | rfl | omega | split)) <;> (simp only [Prod.mk.injEq, Brt.mk.injEq, and_true, true_and, and_self]; omega)]
    refine ⟨A31, c32, ?_, ?_⟩
    · dsimp only; rw [hal]; rfl
    · dsimp only; rw [hal]; exact S47
   ·refine wL_val (v := .bool true) (wn rfl) rfl rfl (y_binop rfl rfl rfl (r_neq_t h43)) ?_
    refine wL_nil (wQ_sub (l' := [(2, _), (3, _), (5, _), (34, _)]) ⟨rfl, rfl, rfl, rfl, trivial⟩ (wQ_then (wC_cond_t rfl (wC_seq (wC_region (wL_val (v := .agg #[.int .i64 0, .int .i64 0, .int .i64 0, .int .i64 0, .int .i64 0, .slice none 0 0]) (wn rfl) rfl rfl (y_build (vs := []) rfl trivial (by kernel_rfl)) ?_))))))
    refine wL_st (fs' := [_, _, _, _, _, _]) 3 S41 (wn rfl) rfl rfl rfl rfl rfl rfl inf108 rfl (oneAll rfl) (Nat.le_of_ble_eq_true rfl) (setAll_all rfl) rfl ?_; intro w48 S49; clear S41
    refine wL_val (wn rfl) rfl rfl (y_assign rfl rfl) ?_
    refine wL_nil (wQ_sub (l' := [(2, _), (3, _)]) ⟨rfl, rfl, trivial⟩ (wQ_then (wC_ret (wQ_then_ret (wQ_post (rs := [.cell 2 108, .tmp 3]) (vs := [.agg #[.int .i64 0, .int .i64 0, .int .i64 0, .int .i64 0, .int .i64 0, .slice none 0 0], .int .i64 14]) rfl ⟨⟨_, rfl, res_row 3 S49 rfl Try.underlying108 rfl inf108⟩, rfl, trivial⟩ ?_)))))
    have S50 : St w.heap.size w w48 [] := (St.del 0 (St.del 1 (St.del 2 (St.del 3 (St.del 4 (St.del 5 S49)))))); clear S49
    rw [show wakeM ⟨ro, ep, 0, tg, rd, l⟩ = (⟨0, 0, 0, 0, 0, []⟩, 14) from by unfold wakeM; (try dsimp only); (repeat' (first | rfl | omega | split)) <;> (simp only [Prod.mk.injEq, Brt.mk.injEq, and_true, true_and, and_self]; omega)]
    exact ⟨none, 0, rfl, rdo_nil S50⟩
  ·refine wL_val (v := .bool true) (wn rfl) rfl rfl (y_binop rfl rfl rfl (r_neq_t h21)) ?_
   refine wL_val (wn rfl) rfl rfl (y_move rfl rfl) ?_
   refine wL_val (v := .pointer (some ⟨b1, 0, none⟩)) (wg rfl rfl rfl rfl) rfl rfl (y_fieldAddr rfl rfl (fa108_0 _ _ _)) ?_
   refine wL_val (wg rfl rfl rfl rfl) rfl rfl (y_load rfl rfl (r_load Try.underlying3 rfl (St.cl 3 S20 rfl rfl))) ?_
   by_cases h51 : ro = 2
   ·refine wL_val (v := .bool false) (wg rfl rfl rfl rfl) rfl rfl (y_binop rfl rfl rfl (r_neq_f h51)) ?_
    refine wL_val (wn rfl) rfl rfl (y_pick_t rfl rfl rfl) ?_
    refine wL_nil (wQ_sub (l' := [(2, _), (3, _), (5, _), (21, _)]) ⟨rfl, rfl, rfl, rfl, trivial⟩ (wQ_then (wC_cond_f rfl (wC_skip (wQ_then (wC_seq (wC_region (wL_val (v := .pointer (some ⟨b16, 0, none⟩)) (wn rfl) rfl rfl (y_fieldAddr rfl rfl (fa108_0 _ _ _)) ?_))))))))
    refine wL_st (cs := #[.int .i64 1]) (row' := #[.int .i64 1, .int .i64 ep, .int .i64 fr, .int .i64 tg, .int .i64 rd, .slice A11 l.length c12]) (fs' := [.blk b16 #[.int .i64 1, .int .i64 ep, .int .i64 fr, .int .i64 tg, .int .i64 rd, .slice A11 l.length c12] 108, _, _, _, _]) 0 S20 (wn rfl) rfl rfl rfl rfl rfl rfl inf3 rfl (oneAll rfl) (Nat.le_of_ble_eq_true rfl) rfl rfl ?_; intro w52 S53; clear S20
    refine wL_nil (wQ_sub (l' := [(2, _), (3, _), (5, _)]) ⟨rfl, rfl, rfl, trivial⟩ (wQ_then (wC_seq (wC_region (wL_val (v := .pointer (some ⟨b16, 3, none⟩)) (wn rfl) rfl rfl (y_fieldAddr rfl rfl (fa108_3 _ _ _)) ?_)))))
    refine wL_st (cs := #[.int .i64 0]) (row' := #[.int .i64 1, .int .i64 ep, .int .i64 fr, .int .i64 0, .int .i64 rd, .slice A11 l.length c12]) (fs' := [.blk b16 #[.int .i64 1, .int .i64 ep, .int .i64 fr, .int .i64 0, .int .i64 rd, .slice A11 l.length c12] 108, _, _, _, _]) 0 S53 (wn rfl) rfl rfl rfl rfl rfl rfl inf3 rfl (oneAll rfl) (Nat.le_of_ble_eq_true rfl) rfl rfl ?_; intro w54 S55; clear S53
    refine wL_nil (wQ_sub (l' := [(2, _), (3, _), (5, _)]) ⟨rfl, rfl, rfl, trivial⟩ (wQ_then (wC_seq (wC_region (wL_val (v := .pointer (some ⟨b16, 4, none⟩)) (wn rfl) rfl rfl (y_fieldAddr rfl rfl (fa108_4 _ _ _)) ?_)))))
    refine wL_st (cs := #[.int .i64 0]) (row' := #[.int .i64 1, .int .i64 ep, .int .i64 fr, .int .i64 0, .int .i64 0, .slice A11 l.length c12]) (fs' := [.blk b16 #[.int .i64 1, .int .i64 ep, .int .i64 fr, .int .i64 0, .int .i64 0, .slice A11 l.length c12] 108, _, _, _, _]) 0 S55 (wn rfl) rfl rfl rfl rfl rfl rfl inf3 rfl (oneAll rfl) (Nat.le_of_ble_eq_true rfl) rfl rfl ?_; intro w56 S57; clear S55
    refine wL_nil (wQ_sub (l' := [(2, _), (3, _), (5, _)]) ⟨rfl, rfl, rfl, trivial⟩ (wQ_then (wC_seq (wC_region (wL_val (v := .pointer (some ⟨b16, 5, none⟩)) (wn rfl) rfl rfl (y_fieldAddr rfl rfl (fa108_5 _ _ _)) ?_)))))
    refine wL_val (wn rfl) rfl rfl (y_load rfl rfl (r_load Try.underlying57 rfl (St.cl 0 S57 rfl rfl))) ?_
    refine wL_val (v := .agg #[.int .i64 4, .int .i64 0, .int .i64 0, .int .i64 0, .int .i64 0, .int .i64 0]) (wn rfl) rfl rfl (y_build (vs := [(0, .int .i64 4)]) rfl ⟨rfl, rfl, trivial⟩ (by kernel_rfl)) ?_
    refine wL_new (V := fun b => .slice (some ⟨b, 0, none⟩) 1 1) (row := #[.int .i64 4, .int .i64 0, .int .i64 0, .int .i64 0, .int .i64 0, .int .i64 0]) (t := 37) S57 (wn rfl) rfl rfl (d_buildSlice (vs := [(0, .agg #[.int .i64 4, .int .i64 0, .int .i64 0, .int .i64 0, .int .i64 0, .int .i64 0])]) rfl ⟨rfl, rfl, trivial⟩ (by kernel_rfl)) ?_; intro b58 w59 S60; clear S57
    refine wL_append (news := [.int .i64 4, .int .i64 0, .int .i64 0, .int .i64 0, .int .i64 0, .int .i64 0]) (xs' := (l ++ [brkEv]).flatMap Ev.cells) 2 S60 (wn rfl) rfl rfl rfl rfl rfl rfl (St.bld (xs := [.int .i64 4, .int .i64 0, .int .i64 0, .int .i64 0, .int .i64 0, .int .i64 0]) 0 S60 rfl rfl rfl) Try.underlying57 infz37 rfl (by decide) (oneAll rfl) (by simp only [maxLen]; omega) (by omega) (fm_snoc (enc := Ev.cells) rfl rfl) ?_; intro A61 c62 w63 hc65 hm66 S64; clear S60
    change St _ _ _ [_, _, .own 37 6 (.slice A61 (l.length + 1) c62) (l.length + 1) ((l ++ [brkEv]).flatMap Ev.cells), _, _, _] at S64
    refine wL_val (v := .pointer (some ⟨b16, 5, none⟩)) (wn rfl) rfl rfl (y_fieldAddr rfl rfl (fa108_5 _ _ _)) ?_
    refine wL_st (cs := #[.slice A61 (l.length + 1) c62]) (row' := #[.int .i64 1, .int .i64 ep, .int .i64 fr, .int .i64 0, .int .i64 0, .slice A61 (l.length + 1) c62]) (fs' := [_, .blk b16 #[.int .i64 1, .int .i64 ep, .int .i64 fr, .int .i64 0, .int .i64 0, .slice A61 (l.length + 1) c62] 108, _, _, _, _]) 1 S64 (wn rfl) rfl rfl rfl rfl rfl rfl inf57 rfl (oneAll rfl) (Nat.le_of_ble_eq_true rfl) rfl rfl ?_; intro w67 S68; clear S64
    refine wL_nil (wQ_sub (l' := [(2, _), (3, _), (5, _)]) ⟨rfl, rfl, rfl, trivial⟩ (wQ_then (wC_seq (wC_seq (wC_region (wL_val (wn rfl) rfl rfl (y_load rfl rfl (r_load_row 1 S68 rfl Try.underlying108 rfl inf108 rfl)) ?_))))))
    obtain rfl : fr = 0 := by omega
    have hal : (l ++ [brkEv]).length = l.length + 1 := by simp only [List.length_append, List.length_cons, List.length_nil, List.length_drop]
    have HC69 := fun (w : World) (h : Rd w w.heap.size 6 A61 ((l ++ [brkEv]).length) (evCells (l ++ [brkEv]))) => BerthFault_calls 1 ep 0 0 0 A61 c62 (l ++ [brkEv]) w h (by omega)
    rw [hal] at HC69
    refine wL_call (vs := [.agg #[.int .i64 1, .int .i64 ep, .int .i64 0, .int .i64 0, .int .i64 0, .slice A61 (l.length + 1) c62]]) (wn rfl) rfl rfl (e_call (vs := [.agg #[.int .i64 1, .int .i64 ep, .int .i64 0, .int .i64 0, .int .i64 0, .slice A61 (l.length + 1) c62]]) rfl en78 ⟨rfl, trivial⟩) (HC69 _ (St.ord 2 S68 rfl)) ?_
    rintro _ w70 ⟨rfl, hb72⟩
    refine ⟨_, rfl, ?_⟩
    have S71 := S68.on hb72; clear hb72 S68; clear HC69
    by_cases h73 : brtFault ⟨1, ep, 0, 0, 0, l ++ [brkEv]⟩ = 0
    ·have hsh := (bf_zero h73).1
     unfold shapeB at hsh
     have hln := tellM_len (bf_zero h73).2
     dsimp only at hsh hln
     refine wL_val (v := .bool false) (wn rfl) rfl rfl (y_binop rfl rfl rfl (r_neq_f h73)) ?_
     refine wL_nil (wQ_sub (l' := [(2, _), (3, _), (5, _), (34, _)]) ⟨rfl, rfl, rfl, rfl, trivial⟩ (wQ_then (wC_cond_f rfl (wC_skip (wQ_then (wC_seq (wC_region (wL_val (wn rfl) rfl rfl (y_load rfl rfl (r_load_row 1 S71 rfl Try.underlying108 rfl inf108 rfl)) ?_))))))))
     refine wL_st (fs' := [_, _, _, _, _, _]) 3 S71 (wn rfl) rfl rfl rfl rfl rfl rfl inf108 rfl (oneAll rfl) (Nat.le_of_ble_eq_true rfl) (setAll_all rfl) rfl ?_; intro w74 S75; clear S71
     refine wL_val (wn rfl) rfl rfl (y_assign rfl rfl) ?_
     refine wL_nil (wQ_sub (l' := [(2, _), (3, _)]) ⟨rfl, rfl, trivial⟩ (wQ_then (wC_ret (wQ_post (rs := [.cell 2 108, .tmp 3]) (vs := [.agg #[.int .i64 1, .int .i64 ep, .int .i64 0, .int .i64 0, .int .i64 0, .slice A61 (l.length + 1) c62], .int .i64 0]) rfl ⟨⟨_, rfl, res_row 3 S75 rfl Try.underlying108 rfl inf108⟩, rfl, trivial⟩ ?_))))
     have S76 : St w.heap.size w w74 [_] := (St.del 0 (St.del 1 (St.del 3 (St.del 4 (St.del 5 S75))))); clear S75
     have S77 := S76.sealAll 0 rfl; clear S76
     change St _ _ _ [.rdo 6 A61 (l.length + 1) ((l ++ [brkEv]).flatMap Ev.cells)] at S77
     rw [show wakeM ⟨ro, ep, 0, tg, rd, l⟩ = (⟨1, ep, 0, 0, 0, l ++ [brkEv]⟩, 0) from by unfold wakeM; (try dsimp only); (repeat' (first | rfl | omega | split)) <;> (simp only [Prod.mk.injEq, Brt.mk.injEq, and_true, true_and, and_self]; omega)]
     refine ⟨A61, c62, ?_, ?_⟩
     · dsimp only; rw [hal]; rfl
     · dsimp only; rw [hal]; exact S77
    ·refine wL_val (v := .bool true) (wn rfl) rfl rfl (y_binop rfl rfl rfl (r_neq_t h73)) ?_
     refine wL_nil (wQ_sub (l' := [(2, _), (3, _), (5, _), (34, _)]) ⟨rfl, rfl, rfl, rfl, trivial⟩ (wQ_then (wC_cond_t rfl (wC_seq (wC_region (wL_val (v := .agg #[.int .i64 0, .int .i64 0, .int .i64 0, .int .i64 0, .int .i64 0, .slice none 0 0]) (wn rfl) rfl rfl (y_build (vs := []) rfl trivial (by kernel_rfl)) ?_))))))
     refine wL_st (fs' := [_, _, _, _, _, _]) 3 S71 (wn rfl) rfl rfl rfl rfl rfl rfl inf108 rfl (oneAll rfl) (Nat.le_of_ble_eq_true rfl) (setAll_all rfl) rfl ?_; intro w78 S79; clear S71
     refine wL_val (wn rfl) rfl rfl (y_assign rfl rfl) ?_
     refine wL_nil (wQ_sub (l' := [(2, _), (3, _)]) ⟨rfl, rfl, trivial⟩ (wQ_then (wC_ret (wQ_then_ret (wQ_post (rs := [.cell 2 108, .tmp 3]) (vs := [.agg #[.int .i64 0, .int .i64 0, .int .i64 0, .int .i64 0, .int .i64 0, .slice none 0 0], .int .i64 14]) rfl ⟨⟨_, rfl, res_row 3 S79 rfl Try.underlying108 rfl inf108⟩, rfl, trivial⟩ ?_)))))
     have S80 : St w.heap.size w w78 [] := (St.del 0 (St.del 1 (St.del 2 (St.del 3 (St.del 4 (St.del 5 S79)))))); clear S79
     rw [show wakeM ⟨ro, ep, 0, tg, rd, l⟩ = (⟨0, 0, 0, 0, 0, []⟩, 14) from by unfold wakeM; (try dsimp only); (repeat' (first | rfl | omega | split)) <;> (simp only [Prod.mk.injEq, Brt.mk.injEq, and_true, true_and, and_self]; omega)]
     exact ⟨none, 0, rfl, rdo_nil S80⟩
   ·refine wL_val (v := .bool true) (wg rfl rfl rfl rfl) rfl rfl (y_binop rfl rfl rfl (r_neq_t h51)) ?_
    refine wL_val (wn rfl) rfl rfl (y_pick_t rfl rfl rfl) ?_
    refine wL_nil (wQ_sub (l' := [(2, _), (3, _), (5, _), (21, _)]) ⟨rfl, rfl, rfl, rfl, trivial⟩ (wQ_then (wC_cond_t rfl (wC_seq (wC_region (wL_val (wn rfl) rfl rfl (y_load rfl rfl (r_load_row 0 S20 rfl Try.underlying108 rfl inf108 rfl)) ?_))))))
    refine wL_st (fs' := [_, _, _, _, _]) 2 S20 (wn rfl) rfl rfl rfl rfl rfl rfl inf108 rfl (oneAll rfl) (Nat.le_of_ble_eq_true rfl) (setAll_all rfl) rfl ?_; intro w81 S82; clear S20
    refine wL_val (wn rfl) rfl rfl (y_assign rfl rfl) ?_
    refine wL_nil (wQ_sub (l' := [(2, _), (3, _)]) ⟨rfl, rfl, trivial⟩ (wQ_then (wC_ret (wQ_then_ret (wQ_post (rs := [.cell 2 108, .tmp 3]) (vs := [.agg #[.int .i64 ro, .int .i64 ep, .int .i64 fr, .int .i64 tg, .int .i64 rd, .slice A11 l.length c12], .int .i64 0]) rfl ⟨⟨_, rfl, res_row 2 S82 rfl Try.underlying108 rfl inf108⟩, rfl, trivial⟩ ?_)))))
    have S83 : St w.heap.size w w81 [_] := (St.del 0 (St.del 2 (St.del 3 (St.del 4 S82)))); clear S82
    have S84 := S83.sealAll 0 rfl; clear S83
    change St _ _ _ [.rdo 6 A11 l.length ((l).flatMap Ev.cells)] at S84
    rw [show wakeM ⟨ro, ep, fr, tg, rd, l⟩ = (⟨ro, ep, fr, tg, rd, l⟩, 0) from by unfold wakeM; (try dsimp only); (repeat' (first | rfl | omega | split)) <;> (simp only [Prod.mk.injEq, Brt.mk.injEq, and_true, true_and, and_self]; omega)]
    exact ⟨A11, c12, rfl, S84⟩
 ·refine wL_val (v := .bool true) (wn rfl) rfl rfl (y_binop rfl rfl rfl (r_neq_t h10)) ?_
  refine wL_nil (wQ_sub (l' := [(1, _), (2, _), (3, _), (4, _), (9, _)]) ⟨rfl, rfl, rfl, rfl, rfl, trivial⟩ (wQ_then (wC_cond_t rfl (wC_seq (wC_region (wL_val (v := .agg #[.int .i64 0, .int .i64 0, .int .i64 0, .int .i64 0, .int .i64 0, .slice none 0 0]) (wn rfl) rfl rfl (y_build (vs := []) rfl trivial (by kernel_rfl)) ?_))))))
  refine wL_val (wn rfl) rfl rfl (y_move rfl rfl) ?_
  refine wL_st (fs' := [_, _, _]) 0 S8 (wn rfl) rfl rfl rfl rfl rfl rfl inf108 rfl (oneAll rfl) (Nat.le_of_ble_eq_true rfl) (setAll_all rfl) rfl ?_; intro w85 S86; clear S8
  refine wL_val (wn rfl) rfl rfl (y_assign rfl rfl) ?_
  refine wL_nil (wQ_sub (l' := [(2, _), (3, _)]) ⟨rfl, rfl, trivial⟩ (wQ_then (wC_ret (wQ_then_ret (wQ_post (rs := [.cell 2 108, .tmp 3]) (vs := [.agg #[.int .i64 0, .int .i64 0, .int .i64 0, .int .i64 0, .int .i64 0, .slice none 0 0], .int .i64 (brtFault ⟨ro, ep, fr, tg, rd, l⟩)]) rfl ⟨⟨_, rfl, res_row 0 S86 rfl Try.underlying108 rfl inf108⟩, rfl, trivial⟩ ?_)))))
  have S87 : St w.heap.size w w85 [] := (St.del 0 (St.del 1 (St.del 2 S86))); clear S86
  rw [show wakeM ⟨ro, ep, fr, tg, rd, l⟩ = (⟨0, 0, 0, 0, 0, []⟩, brtFault ⟨ro, ep, fr, tg, rd, l⟩) from by unfold wakeM; (try dsimp only); (repeat' (first | rfl | omega | split)) <;> (simp only [Prod.mk.injEq, Brt.mk.injEq, and_true, true_and, and_self]; omega)]
  exact ⟨none, 0, rfl, rdo_nil S87⟩
end Go.Proofs.Ytkjlafpafmihaaa

namespace Go.Proofs.Ytkjlafpafmihaaa
open Go.ChangeShapes Go.WideShapes Go.RowKit

theorem wakeM_len {b : Brt} : (wakeM b).1.evs.length ≤ b.evs.length + 1 := by
  unfold wakeM
  (repeat' split) <;> (try simp [zeroB]) <;> (try omega)

set_option maxRecDepth 100000 in
set_option maxHeartbeats 2000000 in
theorem berthWakes_calls (ro ep fr tg rd : Int) (A : Option Addr) (c : Nat) (l : List Ev) (hlc : l.length ≤ c) (w : World) (h : Rd w w.heap.size 6 A l.length (evCells l)) (hb : l.length * 48 ≤ reachBytes) :
    Calls Try.prog 22 #[.agg #[.int .i64 ro, .int .i64 ep, .int .i64 fr, .int .i64 tg, .int .i64 rd, .slice A l.length c]] w fun e w' => e = .returned (.bool true) ∧ Below w.heap.size w w' := by
 have S := (St.start w).addRd h; clear h
 have hb2 := hb
 unfold reachBytes at hb2
 have HP := fun A c w h => Wake_calls ro ep fr tg rd A c l w h hb
 have HR := fun A c w h => BerthWoken_calls ro ep fr tg rd A c l w h hb
 have hlen := wakeM_len (b := ⟨ro, ep, fr, tg, rd, l⟩)
 generalize wakeM ⟨ro, ep, fr, tg, rd, l⟩ = R at HP HR hlen
 dsimp only at hlen
 refine calls_of_wC (N := 33) (vs := [.agg #[.int .i64 ro, .int .i64 ep, .int .i64 fr, .int .i64 tg, .int .i64 rd, .slice A l.length c]]) Try.func22 rfl rfl rfl ?_
 refine wC_sub (l' := [(0, .agg #[.int .i64 ro, .int .i64 ep, .int .i64 fr, .int .i64 tg, .int .i64 rd, .slice A l.length c])]) ⟨rfl, trivial⟩ (wC_seq (wC_region (wL_new (V := fun b => .pointer (some ⟨b, 0, none⟩)) (row := #[.int .i64 ro, .int .i64 ep, .int .i64 fr, .int .i64 tg, .int .i64 rd, .slice A l.length c]) (t := 108) S (wn rfl) rfl rfl (d_box rfl rfl rfl) ?_))); intro b1 w2 S3; clear S
 refine wL_val (wn rfl) rfl rfl (y_assign rfl rfl) ?_
 refine wL_nil (wQ_sub (l' := [(1, _), (2, _)]) ⟨rfl, rfl, trivial⟩ (wQ_then (wC_seq (wC_region (wL_val (wn rfl) rfl rfl (y_load rfl rfl (r_load_row 0 S3 rfl Try.underlying108 rfl inf108 rfl)) ?_)))))
 refine wL_call (vs := [.agg #[.int .i64 ro, .int .i64 ep, .int .i64 fr, .int .i64 tg, .int .i64 rd, .slice A l.length c]]) (wn rfl) rfl rfl (e_call (vs := [.agg #[.int .i64 ro, .int .i64 ep, .int .i64 fr, .int .i64 tg, .int .i64 rd, .slice A l.length c]]) rfl en77 ⟨rfl, trivial⟩) (berths_calls ro ep fr tg rd A c l _ (St.rd 1 S3 rfl) hb) ?_
 rintro _ w6 ⟨A4, c5, rfl, T8⟩
 refine ⟨_, rfl, ?_⟩
 have S7 := S3.ext T8 rfl; clear T8 S3
 change St _ _ _ [.own 37 6 (.slice A4 l.length c5) l.length ((l).flatMap Ev.cells), _, _] at S7
 refine wL_new (V := fun b => .pointer (some ⟨b, 0, none⟩)) (row := #[.int .i64 0, .int .i64 0, .int .i64 0, .int .i64 0, .int .i64 0, .slice none 0 0]) (t := 108) S7 (wn rfl) rfl rfl (d_alloc rfl (Try.zeroValue108 _) rfl) ?_; intro b9 w10 S11; clear S7
 refine wL_st (fs' := [_, _, _, _]) 0 S11 (wn rfl) rfl rfl rfl rfl rfl rfl inf108 rfl (oneAll rfl) (Nat.le_of_ble_eq_true rfl) (setAll_all rfl) rfl ?_; intro w12 S13; clear S11
 refine wL_nil (wQ_sub (l' := [(1, _), (2, _), (3, _)]) ⟨rfl, rfl, rfl, trivial⟩ (wQ_then (wC_seq (wC_region (wL_val (wn rfl) rfl rfl (y_load rfl rfl (r_load_row 0 S13 rfl Try.underlying108 rfl inf108 rfl)) ?_)))))
 refine wL_call (vs := [.agg #[.int .i64 ro, .int .i64 ep, .int .i64 fr, .int .i64 tg, .int .i64 rd, .slice A4 l.length c5]]) (wn rfl) rfl rfl (e_call (vs := [.agg #[.int .i64 ro, .int .i64 ep, .int .i64 fr, .int .i64 tg, .int .i64 rd, .slice A4 l.length c5]]) rfl en86 ⟨rfl, trivial⟩) (HP A4 c5 _ (St.ord 1 S13 rfl)) ?_
 rintro _ w16 ⟨A14, c15, rfl, T18⟩
 refine ⟨_, rfl, ?_⟩
 have S17 := S13.ext T18 rfl; clear T18 S13
 change St _ _ _ [.rdo 6 A14 R.1.evs.length ((R.1.evs).flatMap Ev.cells), _, _, _, _] at S17
 refine wL_val (wn rfl) rfl rfl (y_move rfl rfl) ?_
 refine wL_val (wn rfl) rfl rfl (y_extract rfl rfl rfl) ?_
 refine wL_val (wn rfl) rfl rfl (y_extract rfl rfl rfl) ?_
 refine wL_new (V := fun b => .pointer (some ⟨b, 0, none⟩)) (row := #[.int .i64 0, .int .i64 0, .int .i64 0, .int .i64 0, .int .i64 0, .slice none 0 0]) (t := 108) S17 (wn rfl) rfl rfl (d_alloc rfl (Try.zeroValue108 _) rfl) ?_; intro b19 w20 S21; clear S17
 refine wL_st (fs' := [_, _, _, _, _, _]) 0 S21 (wn rfl) rfl rfl rfl rfl rfl rfl inf108 rfl (oneAll rfl) (Nat.le_of_ble_eq_true rfl) (setAll_all rfl) rfl ?_; intro w22 S23; clear S21
 refine wL_val (wn rfl) rfl rfl (y_assign rfl rfl) ?_
 refine wL_nil (wQ_sub (l' := [(1, _), (2, _), (3, _), (4, _), (5, _)]) ⟨rfl, rfl, rfl, rfl, rfl, trivial⟩ (wQ_then (wC_seq (wC_region (wL_val (wn rfl) rfl rfl (y_load rfl rfl (r_load_row 4 S23 rfl Try.underlying108 rfl inf108 rfl)) ?_)))))
 refine wL_call (vs := [.agg #[.int .i64 ro, .int .i64 ep, .int .i64 fr, .int .i64 tg, .int .i64 rd, .slice A l.length c]]) (wn rfl) rfl rfl (e_call (vs := [.agg #[.int .i64 ro, .int .i64 ep, .int .i64 fr, .int .i64 tg, .int .i64 rd, .slice A l.length c]]) rfl en87 ⟨rfl, trivial⟩) (HR A c _ (St.rd 5 S23 rfl)) ?_
 rintro _ w26 ⟨A24, c25, rfl, T28⟩
 refine ⟨_, rfl, ?_⟩
 have S27 := S23.ext T28 rfl; clear T28 S23
 change St _ _ _ [.rdo 6 A24 R.1.evs.length ((R.1.evs).flatMap Ev.cells), _, _, _, _, _, _] at S27
 refine wL_val (wn rfl) rfl rfl (y_move rfl rfl) ?_
 refine wL_val (wn rfl) rfl rfl (y_extract rfl rfl rfl) ?_
 refine wL_val (wn rfl) rfl rfl (y_extract rfl rfl rfl) ?_
 refine wL_new (V := fun b => .pointer (some ⟨b, 0, none⟩)) (row := #[.int .i64 0, .int .i64 0, .int .i64 0, .int .i64 0, .int .i64 0, .slice none 0 0]) (t := 108) S27 (wn rfl) rfl rfl (d_alloc rfl (Try.zeroValue108 _) rfl) ?_; intro b29 w30 S31; clear S27
 refine wL_st (fs' := [_, _, _, _, _, _, _, _]) 0 S31 (wn rfl) rfl rfl rfl rfl rfl rfl inf108 rfl (oneAll rfl) (Nat.le_of_ble_eq_true rfl) (setAll_all rfl) rfl ?_; intro w32 S33; clear S31
 refine wL_val (wn rfl) rfl rfl (y_assign rfl rfl) ?_
 refine wL_nil (wQ_sub (l' := [(1, _), (2, _), (3, _), (4, _), (5, _), (6, _), (7, _)]) ⟨rfl, rfl, rfl, rfl, rfl, rfl, rfl, trivial⟩ (wQ_then (wC_seq (wC_region (wL_val (wn rfl) rfl rfl (y_move rfl rfl) ?_)))))
 refine wL_val (wn rfl) rfl rfl (y_move rfl rfl) ?_
 refine wL_val (v := .bool true) (wn rfl) rfl rfl (y_binop rfl rfl rfl (r_eql_t rfl)) ?_
 refine wL_val (wn rfl) rfl rfl (y_move rfl rfl) ?_
 refine wL_val (wg rfl rfl rfl rfl) rfl rfl (y_load rfl rfl (r_load_row 2 S33 rfl Try.underlying108 rfl inf108 rfl)) ?_
 refine wL_val (wg rfl rfl rfl rfl) rfl rfl (y_load rfl rfl (r_load_row 0 S33 rfl Try.underlying108 rfl inf108 rfl)) ?_
 refine wL_call (vs := [.agg #[.int .i64 R.1.role, .int .i64 R.1.ep, .int .i64 R.1.fr, .int .i64 R.1.tg, .int .i64 R.1.rd, .slice A14 R.1.evs.length c15], .agg #[.int .i64 R.1.role, .int .i64 R.1.ep, .int .i64 R.1.fr, .int .i64 R.1.tg, .int .i64 R.1.rd, .slice A24 R.1.evs.length c25]]) (wg rfl rfl rfl rfl) rfl rfl (e_call (vs := [.agg #[.int .i64 R.1.role, .int .i64 R.1.ep, .int .i64 R.1.fr, .int .i64 R.1.tg, .int .i64 R.1.rd, .slice A14 R.1.evs.length c15], .agg #[.int .i64 R.1.role, .int .i64 R.1.ep, .int .i64 R.1.fr, .int .i64 R.1.tg, .int .i64 R.1.rd, .slice A24 R.1.evs.length c25]]) rfl en81 ⟨rfl, rfl, trivial⟩) (sameBerth_calls R.1.role R.1.ep R.1.fr R.1.tg R.1.rd A14 c15 A24 c25 R.1.evs _ (St.rdo 3 S33 rfl) (St.rdo 1 S33 rfl) (by omega)) ?_
 rintro _ w34 ⟨rfl, hb36⟩
 refine ⟨_, rfl, ?_⟩
 have S35 := S33.on hb36; clear hb36 S33
 refine wL_val (wn rfl) rfl rfl (y_pick_t rfl rfl rfl) ?_
 refine wL_val (wn rfl) rfl rfl (y_move rfl rfl) ?_
 refine wL_val (wg rfl rfl rfl rfl) rfl rfl (y_load rfl rfl (r_load_row 4 S35 rfl Try.underlying108 rfl inf108 rfl)) ?_
 refine wL_val (wg rfl rfl rfl rfl) rfl rfl (y_load rfl rfl (r_load_row 6 S35 rfl Try.underlying108 rfl inf108 rfl)) ?_
 refine wL_call (vs := [.agg #[.int .i64 ro, .int .i64 ep, .int .i64 fr, .int .i64 tg, .int .i64 rd, .slice A4 l.length c5], .agg #[.int .i64 ro, .int .i64 ep, .int .i64 fr, .int .i64 tg, .int .i64 rd, .slice A l.length c]]) (wg rfl rfl rfl rfl) rfl rfl (e_call (vs := [.agg #[.int .i64 ro, .int .i64 ep, .int .i64 fr, .int .i64 tg, .int .i64 rd, .slice A4 l.length c5], .agg #[.int .i64 ro, .int .i64 ep, .int .i64 fr, .int .i64 tg, .int .i64 rd, .slice A l.length c]]) rfl en81 ⟨rfl, rfl, trivial⟩) (sameBerth_calls ro ep fr tg rd A4 c5 A c l _ (St.ord 5 S35 rfl) (St.rd 7 S35 rfl) (by omega)) ?_
 rintro _ w37 ⟨rfl, hb39⟩
 refine ⟨_, rfl, ?_⟩
 have S38 := S35.on hb39; clear hb39 S35
 refine wL_val (wn rfl) rfl rfl (y_pick_t rfl rfl rfl) ?_
 refine wL_val (wn rfl) rfl rfl (y_assign rfl rfl) ?_
 refine wL_nil (wQ_sub (l' := [(2, _)]) ⟨rfl, trivial⟩ (wQ_then (wC_ret (wQ_post (rs := [.tmp 2]) (vs := [.bool true]) rfl ⟨rfl, trivial⟩ ?_))))
 exact ⟨rfl, S38.low⟩

set_option maxRecDepth 100000 in
theorem berthWakes_walk (W : World) (args : Array Value) (h : All2 (ArgOk Try.prog W) args.toList Try.f22.params.toList) :
    Calls Try.prog 22 args W fun e W' => e = .returned (.bool true) ∧ Below W.heap.size W W' := by
  rw [Try.params22] at h
  obtain ⟨v0, l0, hv0, h0, g0⟩ := All2.cons_ h
  have h9 := All2.nil_ g0
  subst h9
  obtain rfl : args = #[v0] := by cases args; simp_all
  obtain ⟨ro, ep, fr, tg, rd, A, c, l, rfl, hr, hn, hc, hb⟩ := arg_berth h0
  exact berthWakes_calls ro ep fr tg rd A c l  hn W hr hb
end Go.Proofs.Ytkjlafpafmihaaa

