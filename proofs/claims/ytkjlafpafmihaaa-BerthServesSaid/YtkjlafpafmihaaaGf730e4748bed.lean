/- Parts of proofs: lemmas on memory, on single functions and on the plain models; no condition of their own. -/
import Derived.Test.YtkjlafpafmihaaaRows
import Derived.WalkKit
import Derived.ProofKit
import Derived.OpenShut
import Derived.SizedLaws
import Derived.WalkSpells
import Derived.WalkLawsBesides
import Derived.Handy
import Derived.Deep.QuietTactic
import Derived.BigQuiet
import Derived.Lib.Hide
import Derived.Maps.AppendAt
import Derived.Deep.AppendLies
import Derived.RegionTactic
import Derived.OwnWalk
import Derived.Laws.Tables
import Derived.Deep.MidRow
import Derived.StillTailTactics
import Derived.OrdersHeld
import Derived.Deep.RegionHeld3
import Derived.Laws.IdiomCopy
import Derived.ChangeKeysEq
import Derived.Laws.BitsAllLaws
import Derived.Deep.DeepCutAuto
import Derived.Deep.CutRange
import Derived.Shelf.SlSortCmp.WholeK
import Derived.Shelf.SlSortCmp.NoneTotal
import Derived.Shelf.SlicesG.Cmp
import Derived.Shelf.SlGeneric
import Derived.Ground.SlsfProg
import Derived.Ground.SlgcProg
import Derived.Maps.OwnSet
import Derived.Lib.SliceRun
import Derived.Deep.RegionLaw
import Derived.Test.YtkjlafpafmihaaaG06e1f1d2e814
import Derived.Test.YtkjlafpafmihaaaG0e35ec4e0bdc
import Derived.Test.YtkjlafpafmihaaaG112fb11970e6
import Derived.Test.YtkjlafpafmihaaaG1b3fdc30e051
import Derived.Test.YtkjlafpafmihaaaG2143c9b0b786
import Derived.Test.YtkjlafpafmihaaaG28cc7d8f5c78
import Derived.Test.YtkjlafpafmihaaaG3cad135f796d
import Derived.Test.YtkjlafpafmihaaaG3d16030d529c
import Derived.Test.YtkjlafpafmihaaaG4616653cfbd3
import Derived.Test.YtkjlafpafmihaaaG49c3e225c496
import Derived.Test.YtkjlafpafmihaaaG527bea714f09
import Derived.Test.YtkjlafpafmihaaaG639fd641cb7f
import Derived.Test.YtkjlafpafmihaaaG668153da7687
import Derived.Test.YtkjlafpafmihaaaG6864b573849f
import Derived.Test.YtkjlafpafmihaaaG69ea6f18ea30
import Derived.Test.YtkjlafpafmihaaaG7f9bde47e941
import Derived.Test.YtkjlafpafmihaaaG8ba6bfb0af5b
import Derived.Test.YtkjlafpafmihaaaG91b64aa8aa74
import Derived.Test.YtkjlafpafmihaaaG95288c2830db
import Derived.Test.YtkjlafpafmihaaaG9d6a0cc61d66
import Derived.Test.YtkjlafpafmihaaaGa60a71c986f2
import Derived.Test.YtkjlafpafmihaaaGa67dcf529610
import Derived.Test.YtkjlafpafmihaaaGa89c1a6f9966
import Derived.Test.YtkjlafpafmihaaaGa956530333d6
import Derived.Test.YtkjlafpafmihaaaGaa4a32ccdcb1
import Derived.Test.YtkjlafpafmihaaaGad4fca606e19
import Derived.Test.YtkjlafpafmihaaaGb06670d46fbe
import Derived.Test.YtkjlafpafmihaaaGb705d1f06a25
import Derived.Test.YtkjlafpafmihaaaGc78e27da6ed6
import Derived.Test.YtkjlafpafmihaaaGdc8a322f8050
import Derived.Test.YtkjlafpafmihaaaGdea6a90e7048
import Derived.Test.YtkjlafpafmihaaaGf3cc171333c0
import Derived.Test.YtkjlafpafmihaaaGfed51b8f206e
set_option linter.unusedVariables false
set_option linter.unusedSimpArgs false

namespace Go.Proofs.Ytkjlafpafmihaaa
open Go.ChangeShapes Go.WideShapes Go.RowKit

def ServePost (w : World) (r : Brt × Ans × Bool × Int) (e : Ending) (w' : World) : Prop := ∃ A c, e = .returned (.tuple #[.agg #[.int .i64 r.1.role, .int .i64 r.1.ep, .int .i64 r.1.fr, .int .i64 r.1.tg, .int .i64 r.1.rd, .slice A r.1.evs.length c], r.2.1.val, .bool r.2.2.1, .int .i64 r.2.2.2]) ∧ St w.heap.size w w' [.rdo 6 A r.1.evs.length (evCells r.1.evs)]
end Go.Proofs.Ytkjlafpafmihaaa

namespace Go.Proofs.Ytkjlafpafmihaaa
open Go.ChangeShapes Go.WideShapes Go.RowKit

theorem serve_go {b : Brt} {e : Ev} (h : brtFault b = 0) (h1 : evFault e = 0) (h2 : ¬ e.kind = 4) (h3 : b.role = 1 ∨ b.role = 2) : serveM b e =
    if (doM (tellM b.evs).1 e).2.2.1 = false then (b, (doM (tellM b.evs).1 e).2.1, false, 0) else if 1999 ≤ b.evs.length then (b, ansE 14, false, 0) else ({ b with evs := b.evs ++ [e] }, (doM (tellM b.evs).1 e).2.1, true, 0) := by
  unfold serveM
  rw [if_neg (fun h1 => h1 h), if_neg (fun h => h h1), if_neg h2, if_neg (by omega), if_neg (by omega)]

set_option maxRecDepth 100000 in
set_option maxHeartbeats 2000000 in
theorem Serve_calls (ro ep fr tg rd : Int) (A : Option Addr) (c : Nat) (l : List Ev) (x : Ev) (w : World) (h : Rd w w.heap.size 6 A l.length (evCells l)) (hb : l.length * 48 ≤ reachBytes) :
    Calls Try.prog 94 #[.agg #[.int .i64 ro, .int .i64 ep, .int .i64 fr, .int .i64 tg, .int .i64 rd, .slice A l.length c], .agg #[.int .i64 x.kind, .int .i64 x.producer, .int .i64 x.id, .int .i64 x.body, .int .i64 x.hepoch, .int .i64 x.hno]] w (ServePost w (serveM ⟨ro, ep, fr, tg, rd, l⟩ x)) := by
 have S := (St.start w).addRd h; clear h
 have hb2 := hb
 unfold reachBytes at hb2
 refine calls_of_wC (N := 80) (vs := [.agg #[.int .i64 ro, .int .i64 ep, .int .i64 fr, .int .i64 tg, .int .i64 rd, .slice A l.length c], .agg #[.int .i64 x.kind, .int .i64 x.producer, .int .i64 x.id, .int .i64 x.body, .int .i64 x.hepoch, .int .i64 x.hno]]) Try.func94 rfl rfl rfl ?_
 refine wC_sub (l' := [(0, .agg #[.int .i64 ro, .int .i64 ep, .int .i64 fr, .int .i64 tg, .int .i64 rd, .slice A l.length c]), (1, .agg #[.int .i64 x.kind, .int .i64 x.producer, .int .i64 x.id, .int .i64 x.body, .int .i64 x.hepoch, .int .i64 x.hno])]) ⟨rfl, rfl, trivial⟩ (wC_seq (wC_region (wL_new (V := fun b => .pointer (some ⟨b, 0, none⟩)) (row := #[.int .i64 ro, .int .i64 ep, .int .i64 fr, .int .i64 tg, .int .i64 rd, .slice A l.length c]) (t := 108) S (wn rfl) rfl rfl (d_box rfl rfl rfl) ?_))); intro b1 w2 S3; clear S
 refine wL_new (V := fun b => .pointer (some ⟨b, 0, none⟩)) (row := #[.int .i64 x.kind, .int .i64 x.producer, .int .i64 x.id, .int .i64 x.body, .int .i64 x.hepoch, .int .i64 x.hno]) (t := 37) S3 (wn rfl) rfl rfl (d_box rfl rfl rfl) ?_; intro b4 w5 S6; clear S3
 refine wL_new (V := fun b => .pointer (some ⟨b, 0, none⟩)) (row := #[.int .i64 0, .int .i64 0, .int .i64 0, .int .i64 0, .int .i64 0, .slice none 0 0]) (t := 108) S6 (wn rfl) rfl rfl (d_alloc rfl (Try.zeroValue108 _) rfl) ?_; intro b7 w8 S9; clear S6
 refine wL_new (V := fun b => .pointer (some ⟨b, 0, none⟩)) (row := #[.int .i64 0, .int .i64 0, .int .i64 0, .int .i64 0]) (t := 93) S9 (wn rfl) rfl rfl (d_alloc rfl (Try.zeroValue93 _) rfl) ?_; intro b10 w11 S12; clear S9
 refine wL_val (wn rfl) rfl rfl (y_assign rfl rfl) ?_
 refine wL_val (wn rfl) rfl rfl (y_assign rfl rfl) ?_
 refine wL_nil (wQ_sub (l' := [(2, _), (3, _), (4, _), (5, _), (6, _), (7, _)]) ⟨rfl, rfl, rfl, rfl, rfl, rfl, trivial⟩ (wQ_then (wC_seq (wC_seq (wC_region (wL_val (wn rfl) rfl rfl (y_load rfl rfl (r_load_row 3 S12 rfl Try.underlying108 rfl inf108 rfl)) ?_))))))
 refine wL_call (vs := [.agg #[.int .i64 ro, .int .i64 ep, .int .i64 fr, .int .i64 tg, .int .i64 rd, .slice A l.length c]]) (wn rfl) rfl rfl (e_call (vs := [.agg #[.int .i64 ro, .int .i64 ep, .int .i64 fr, .int .i64 tg, .int .i64 rd, .slice A l.length c]]) rfl en76 ⟨rfl, trivial⟩) (BCheck_calls ro ep fr tg rd A c l _ (St.rd 4 S12 rfl) (by omega)) ?_
 rintro _ w13 ⟨rfl, hb15⟩
 refine ⟨_, rfl, ?_⟩
 have S14 := S12.on hb15; clear hb15 S12
 refine wL_val (wn rfl) rfl rfl (y_assign rfl rfl) ?_
 refine wL_nil (wQ_sub (l' := [(2, _), (3, _), (4, _), (5, _), (6, _), (7, _), (8, _)]) ⟨rfl, rfl, rfl, rfl, rfl, rfl, rfl, trivial⟩ (wQ_then (wC_seq (wC_region (wL_val (wn rfl) rfl rfl (y_move rfl rfl) ?_)))))
 by_cases h16 : brtFault ⟨ro, ep, fr, tg, rd, l⟩ = 0
 ·have hsh := (bf_zero h16).1
  unfold shapeB at hsh
  have hln := tellM_len (bf_zero h16).2
  dsimp only at hsh hln
  refine wL_val (v := .bool false) (wn rfl) rfl rfl (y_binop rfl rfl rfl (r_neq_f h16)) ?_
  refine wL_nil (wQ_sub (l' := [(2, _), (3, _), (4, _), (5, _), (6, _), (7, _), (8, _), (19, _)]) ⟨rfl, rfl, rfl, rfl, rfl, rfl, rfl, rfl, trivial⟩ (wQ_then (wC_cond_f rfl (wC_skip (wQ_then (wC_seq (wC_seq (wC_region (wL_val (wn rfl) rfl rfl (y_load rfl rfl (r_load_row 2 S14 rfl Try.underlying37 rfl inf37 rfl)) ?_)))))))))
  refine wL_call (vs := [.agg #[.int .i64 x.kind, .int .i64 x.producer, .int .i64 x.id, .int .i64 x.body, .int .i64 x.hepoch, .int .i64 x.hno]]) (wn rfl) rfl rfl (e_call (vs := [.agg #[.int .i64 x.kind, .int .i64 x.producer, .int .i64 x.id, .int .i64 x.body, .int .i64 x.hepoch, .int .i64 x.hno]]) rfl en142 ⟨rfl, trivial⟩) (Check_below x _) ?_
  rintro _ w17 ⟨rfl, hb19⟩
  refine ⟨_, rfl, ?_⟩
  have S18 := S14.on hb19; clear hb19 S14
  refine wL_val (wn rfl) rfl rfl (y_assign rfl rfl) ?_
  refine wL_nil (wQ_sub (l' := [(2, _), (3, _), (4, _), (5, _), (6, _), (7, _), (9, _)]) ⟨rfl, rfl, rfl, rfl, rfl, rfl, rfl, trivial⟩ (wQ_then (wC_seq (wC_region (wL_val (wn rfl) rfl rfl (y_move rfl rfl) ?_)))))
  by_cases h20 : evFault x = 0
  ·refine wL_val (v := .bool false) (wn rfl) rfl rfl (y_binop rfl rfl rfl (r_neq_f h20)) ?_
   refine wL_nil (wQ_sub (l' := [(2, _), (3, _), (4, _), (5, _), (6, _), (7, _), (9, _), (26, _)]) ⟨rfl, rfl, rfl, rfl, rfl, rfl, rfl, rfl, trivial⟩ (wQ_then (wC_cond_f rfl (wC_skip (wQ_then (wC_seq (wC_seq (wC_region (wL_val (v := .pointer (some ⟨b4, 0, none⟩)) (wn rfl) rfl rfl (y_fieldAddr rfl rfl (fa37_0 _ _ _)) ?_)))))))))
   refine wL_val (wn rfl) rfl rfl (y_load rfl rfl (r_load Try.underlying3 rfl (St.cl 2 S18 rfl rfl))) ?_
   by_cases hk4 : x.kind = 4
   ·refine wL_val (v := .bool true) (wn rfl) rfl rfl (y_binop rfl rfl rfl (r_eql_t hk4)) ?_
    refine wL_nil (wQ_sub (l' := [(2, _), (3, _), (4, _), (5, _), (6, _), (7, _), (32, _)]) ⟨rfl, rfl, rfl, rfl, rfl, rfl, rfl, trivial⟩ (wQ_then (wC_cond_t rfl (wC_seq (wC_region (wL_val (v := .agg #[.int .i64 0, .int .i64 0, .int .i64 0, .int .i64 0, .int .i64 0, .slice none 0 0]) (wn rfl) rfl rfl (y_build (vs := []) rfl trivial (by kernel_rfl)) ?_))))))
    refine wL_val (v := .agg #[.int .i64 0, .int .i64 0, .int .i64 0, .int .i64 0]) (wn rfl) rfl rfl (y_build (vs := []) rfl trivial (by kernel_rfl)) ?_
    refine wL_st (fs' := [_, _, _, _, _]) 1 S18 (wn rfl) rfl rfl rfl rfl rfl rfl inf108 rfl (oneAll rfl) (Nat.le_of_ble_eq_true rfl) (setAll_all rfl) rfl ?_; intro w21 S22; clear S18
    refine wL_st (fs' := [_, _, _, _, _]) 0 S22 (wn rfl) rfl rfl rfl rfl rfl rfl inf93 rfl (oneAll rfl) (Nat.le_of_ble_eq_true rfl) (setAll_all rfl) rfl ?_; intro w23 S24; clear S22
    refine wL_val (wn rfl) rfl rfl (y_assign rfl rfl) ?_
    refine wL_val (wn rfl) rfl rfl (y_assign rfl rfl) ?_
    refine wL_nil (wQ_sub (l' := [(4, _), (5, _), (6, _), (7, _)]) ⟨rfl, rfl, rfl, rfl, trivial⟩ (wQ_then (wC_ret (wQ_then_ret (wQ_post (rs := [.cell 4 108, .cell 5 93, .tmp 6, .tmp 7]) (vs := [.agg #[.int .i64 0, .int .i64 0, .int .i64 0, .int .i64 0, .int .i64 0, .slice none 0 0], .agg #[.int .i64 0, .int .i64 0, .int .i64 0, .int .i64 0], .bool false, .int .i64 3]) rfl ⟨⟨_, rfl, res_row 1 S24 rfl Try.underlying108 rfl inf108⟩, ⟨_, rfl, res_row 0 S24 rfl Try.underlying93 rfl inf93⟩, rfl, rfl, trivial⟩ ?_)))))
    have S25 : St w.heap.size w w23 [] := (St.del 0 (St.del 1 (St.del 2 (St.del 3 (St.del 4 S24))))); clear S24
    rw [show serveM ⟨ro, ep, fr, tg, rd, l⟩ x = (⟨0, 0, 0, 0, 0, []⟩, ⟨0, 0, 0, 0⟩, false, 3) from by unfold serveM; (try dsimp only); (repeat' (first | rfl | omega | split)) <;> (simp only [Prod.mk.injEq, Brt.mk.injEq, and_true, true_and, and_self]; omega)]
    exact ⟨none, 0, rfl, rdo_nil S25⟩
   ·refine wL_val (v := .bool false) (wn rfl) rfl rfl (y_binop rfl rfl rfl (r_eql_f hk4)) ?_
    refine wL_nil (wQ_sub (l' := [(2, _), (3, _), (4, _), (5, _), (6, _), (7, _), (32, _)]) ⟨rfl, rfl, rfl, rfl, rfl, rfl, rfl, trivial⟩ (wQ_then (wC_cond_f rfl (wC_skip (wQ_then (wC_seq (wC_block (wC_seq (wC_region (wL_val (v := .pointer (some ⟨b1, 0, none⟩)) (wn rfl) rfl rfl (y_fieldAddr rfl rfl (fa108_0 _ _ _)) ?_))))))))))
    refine wL_val (wn rfl) rfl rfl (y_load rfl rfl (r_load Try.underlying3 rfl (St.cl 3 S18 rfl rfl))) ?_
    by_cases h26 : ro = 3
    ·refine wL_val (v := .bool true) (wn rfl) rfl rfl (y_binop rfl rfl rfl (r_eql_t h26)) ?_
     refine wL_val (wn rfl) rfl rfl (y_assign rfl rfl) ?_
     refine wL_nil (wQ_sub (l' := [(2, _), (3, _), (4, _), (5, _), (6, _), (7, _), (35, _)]) ⟨rfl, rfl, rfl, rfl, rfl, rfl, rfl, trivial⟩ (wQ_then (wC_cond_t rfl (wC_seq (wC_region (wL_val (wn rfl) rfl rfl (y_load rfl rfl (r_load_row 3 S18 rfl Try.underlying108 rfl inf108 rfl)) ?_))))))
     refine wL_call (vs := [.agg #[.int .i64 ro, .int .i64 ep, .int .i64 fr, .int .i64 tg, .int .i64 rd, .slice A l.length c], .slice none 0 0]) (wn rfl) rfl rfl (e_call (vs := [.agg #[.int .i64 ro, .int .i64 ep, .int .i64 fr, .int .i64 tg, .int .i64 rd, .slice A l.length c], .slice none 0 0]) rfl en160 ⟨rfl, rfl, trivial⟩) (with0_calls ro ep fr tg rd A c l _ (St.rd 4 S18 rfl) hb) ?_
     rintro _ w29 ⟨A27, c28, rfl, T31⟩
     refine ⟨_, rfl, ?_⟩
     have S30 := S18.ext T31 rfl; clear T31 S18
     change St _ _ _ [.own 37 6 (.slice A27 l.length c28) l.length ((l).flatMap Ev.cells), _, _, _, _, _] at S30
     refine wL_val (v := .agg #[.int .i64 12, .int .i64 0, .int .i64 0, .int .i64 0]) (wn rfl) rfl rfl (y_build (vs := [(0, .int .i64 12)]) rfl ⟨rfl, rfl, trivial⟩ (by kernel_rfl)) ?_
     refine wL_st (fs' := [_, _, _, _, _, _]) 2 S30 (wn rfl) rfl rfl rfl rfl rfl rfl inf108 rfl (oneAll rfl) (Nat.le_of_ble_eq_true rfl) (setAll_all rfl) rfl ?_; intro w32 S33; clear S30
     refine wL_st (fs' := [_, _, _, _, _, _]) 1 S33 (wn rfl) rfl rfl rfl rfl rfl rfl inf93 rfl (oneAll rfl) (Nat.le_of_ble_eq_true rfl) (setAll_all rfl) rfl ?_; intro w34 S35; clear S33
     refine wL_val (wn rfl) rfl rfl (y_assign rfl rfl) ?_
     refine wL_val (wn rfl) rfl rfl (y_assign rfl rfl) ?_
     refine wL_nil (wQ_sub (l' := [(4, _), (5, _), (6, _), (7, _)]) ⟨rfl, rfl, rfl, rfl, trivial⟩ (wQ_then (wC_ret (wQ_blk_ret (wQ_then_ret (wQ_post (rs := [.cell 4 108, .cell 5 93, .tmp 6, .tmp 7]) (vs := [.agg #[.int .i64 ro, .int .i64 ep, .int .i64 fr, .int .i64 tg, .int .i64 rd, .slice A27 l.length c28], .agg #[.int .i64 12, .int .i64 0, .int .i64 0, .int .i64 0], .bool false, .int .i64 0]) rfl ⟨⟨_, rfl, res_row 2 S35 rfl Try.underlying108 rfl inf108⟩, ⟨_, rfl, res_row 1 S35 rfl Try.underlying93 rfl inf93⟩, rfl, rfl, trivial⟩ ?_))))))
     have S36 : St w.heap.size w w34 [_] := (St.del 1 (St.del 2 (St.del 3 (St.del 4 (St.del 5 S35))))); clear S35
     have S37 := S36.sealAll 0 rfl; clear S36
     change St _ _ _ [.rdo 6 A27 l.length ((l).flatMap Ev.cells)] at S37
     rw [show serveM ⟨ro, ep, fr, tg, rd, l⟩ x = (⟨ro, ep, fr, tg, rd, l⟩, ⟨12, 0, 0, 0⟩, false, 0) from by unfold serveM; (try dsimp only); (repeat' (first | rfl | omega | split)) <;> (simp only [Prod.mk.injEq, Brt.mk.injEq, and_true, true_and, and_self]; omega)]
     exact ⟨A27, c28, rfl, S37⟩
    ·refine wL_val (v := .bool false) (wn rfl) rfl rfl (y_binop rfl rfl rfl (r_eql_f h26)) ?_
     refine wL_val (wn rfl) rfl rfl (y_assign rfl rfl) ?_
     refine wL_nil (wQ_sub (l' := [(2, _), (3, _), (4, _), (5, _), (6, _), (7, _), (35, _)]) ⟨rfl, rfl, rfl, rfl, rfl, rfl, rfl, trivial⟩ (wQ_then (wC_cond_f rfl (wC_seq (wC_region (wL_val (wn rfl) rfl rfl (y_load rfl rfl (r_load_row 3 S18 rfl Try.underlying108 rfl inf108 rfl)) ?_))))))
     have HC := fun (w : World) (h : Rd w w.heap.size 6 A l.length (evCells l)) => serving_calls ro ep fr tg rd A c l w h (by omega)
     by_cases hsv : ro = 1 ∨ ro = 2
     ·rw [decide_eq_true hsv] at HC
      refine wL_call (vs := [.agg #[.int .i64 ro, .int .i64 ep, .int .i64 fr, .int .i64 tg, .int .i64 rd, .slice A l.length c]]) (wn rfl) rfl rfl (e_call (vs := [.agg #[.int .i64 ro, .int .i64 ep, .int .i64 fr, .int .i64 tg, .int .i64 rd, .slice A l.length c]]) rfl en159 ⟨rfl, trivial⟩) (HC _ (St.rd 4 S18 rfl)) ?_
      rintro _ w38 ⟨rfl, hb40⟩
      refine ⟨_, rfl, ?_⟩
      have S39 := S18.on hb40; clear hb40 S18; clear HC
      refine wL_val (v := .bool false) (wn rfl) rfl rfl (y_unop rfl rfl r_not) ?_
      refine wL_val (wn rfl) rfl rfl (y_assign rfl rfl) ?_
      refine wL_nil (wQ_sub (l' := [(2, _), (3, _), (4, _), (5, _), (6, _), (7, _), (42, _)]) ⟨rfl, rfl, rfl, rfl, rfl, rfl, rfl, trivial⟩ (wQ_then (wC_cond_f rfl (wC_skip (wQ_blk_n (wQ_then (wC_seq (wC_region (wL_val (v := .pointer (some ⟨b1, 5, none⟩)) (wn rfl) rfl rfl (y_fieldAddr rfl rfl (fa108_5 _ _ _)) ?_)))))))))
      refine wL_val (wn rfl) rfl rfl (y_load rfl rfl (r_load Try.underlying57 rfl (St.cl 3 S39 rfl rfl))) ?_
      refine wL_call (vs := [.slice A l.length c]) (wn rfl) rfl rfl (e_call (vs := [.slice A l.length c]) rfl en70 ⟨rfl, trivial⟩) (Replay_calls A c l _ (St.rd 4 S39 rfl) (by omega)) ?_
      rintro _ w45 ⟨A41, c42, A43, c44, rfl, T47⟩
      refine ⟨_, rfl, ?_⟩
      have S46 := S39.ext T47 rfl; clear T47 S39
      change St _ _ _ [.rdo 2 A41 ((tellM l).1.ready.length) (((tellM l).1.ready).flatMap Msg.cells), .rdo 4 A43 ((tellM l).1.leases.length) (((tellM l).1.leases).flatMap Ls.cells), _, _, _, _, _] at S46
      refine wL_val (wn rfl) rfl rfl (y_move rfl rfl) ?_
      refine wL_val (wn rfl) rfl rfl (y_extract rfl rfl rfl) ?_
      refine wL_val (wn rfl) rfl rfl (y_extract rfl rfl rfl) ?_
      refine wL_new (V := fun b => .pointer (some ⟨b, 0, none⟩)) (row := qRow 0 0 0 (.slice none 0 0) (.slice none 0 0) zeroWs) (t := 29) S46 (wn rfl) rfl rfl (d_alloc rfl (Try.zeroValue29 _) rfl) ?_; intro b48 w49 S50; clear S46
      refine wL_st (fs' := [_, _, _, _, _, _, _, _]) 0 S50 (wn rfl) rfl rfl rfl rfl rfl rfl inf29 rfl (qRow_one rfl rfl) (Nat.le_of_ble_eq_true rfl) (setAll_all rfl) rfl ?_; intro w51 S52; clear S50
      refine wL_val (wn rfl) rfl rfl (y_assign rfl rfl) ?_
      refine wL_nil (wQ_sub (l' := [(2, _), (3, _), (4, _), (5, _), (6, _), (7, _), (10, _)]) ⟨rfl, rfl, rfl, rfl, rfl, rfl, rfl, trivial⟩ (wQ_then (wC_seq (wC_region (wL_val (wn rfl) rfl rfl (y_load rfl rfl (r_load_row 0 S52 rfl Try.underlying29 rfl inf29 rfl)) ?_)))))
      refine wL_val (wn rfl) rfl rfl (y_load rfl rfl (r_load_row 5 S52 rfl Try.underlying37 rfl inf37 rfl)) ?_
      obtain ⟨R, hR⟩ : ∃ R, doM (tellM l).1 x = R := ⟨_, rfl⟩
      have hql := tellM_qlen (l := l)
      have HD := fun A1 A2 c1 c2 w h1 h2 => Do_calls (tellM l).1.ep (tellM l).1.nx (tellM l).1.gv x.kind x.producer x.id x.body x.hepoch x.hno A1 A2 c1 c2 (tellM l).1.ready (tellM l).1.leases (tellM l).1.ws w h1 h2 (by unfold reachBytes; omega) (by unfold reachBytes; omega)
      rw [show doM ⟨(tellM l).1.ep, (tellM l).1.nx, (tellM l).1.gv, (tellM l).1.ready, (tellM l).1.leases, (tellM l).1.ws⟩ ⟨x.kind, x.producer, x.id, x.body, x.hepoch, x.hno⟩ = R from hR] at HD
      refine wL_call (vs := [.agg (qRow ((tellM l).1.ep) ((tellM l).1.nx) ((tellM l).1.gv) (.slice A41 ((tellM l).1.ready.length) c42) (.slice A43 ((tellM l).1.leases.length) c44) ((tellM l).1.ws)), .agg #[.int .i64 x.kind, .int .i64 x.producer, .int .i64 x.id, .int .i64 x.body, .int .i64 x.hepoch, .int .i64 x.hno]]) (wn rfl) rfl rfl (e_call (vs := [.agg (qRow ((tellM l).1.ep) ((tellM l).1.nx) ((tellM l).1.gv) (.slice A41 ((tellM l).1.ready.length) c42) (.slice A43 ((tellM l).1.leases.length) c44) ((tellM l).1.ws)), .agg #[.int .i64 x.kind, .int .i64 x.producer, .int .i64 x.id, .int .i64 x.body, .int .i64 x.hepoch, .int .i64 x.hno]]) rfl en66 ⟨rfl, rfl, trivial⟩) (HD A41 A43 c42 c44 _ (St.rdo 1 S52 rfl) (St.rdo 2 S52 rfl)) ?_
      rintro _ w57 ⟨A53, c54, A55, c56, rfl, T59⟩
      refine ⟨_, rfl, ?_⟩
      have S58 := S52.ext T59 rfl; clear T59 S52
      change St _ _ _ [.rdo 2 A53 R.1.ready.length ((R.1.ready).flatMap Msg.cells), .rdo 4 A55 R.1.leases.length ((R.1.leases).flatMap Ls.cells), _, _, _, _, _, _, _, _] at S58; clear HD
      refine wL_val (wn rfl) rfl rfl (y_move rfl rfl) ?_
      refine wL_val (wn rfl) rfl rfl (y_extract rfl rfl rfl) ?_
      refine wL_val (wn rfl) rfl rfl (y_extract rfl rfl rfl) ?_
      refine wL_val (wn rfl) rfl rfl (y_extract rfl rfl rfl) ?_
      refine wL_val (wn rfl) rfl rfl (y_extract rfl rfl rfl) ?_
      refine wL_new (V := fun b => .pointer (some ⟨b, 0, none⟩)) (row := qRow 0 0 0 (.slice none 0 0) (.slice none 0 0) zeroWs) (t := 29) S58 (wn rfl) rfl rfl (d_alloc rfl (Try.zeroValue29 _) rfl) ?_; intro b60 w61 S62; clear S58
      refine wL_new (V := fun b => .pointer (some ⟨b, 0, none⟩)) (row := #[.int .i64 0, .int .i64 0, .int .i64 0, .int .i64 0]) (t := 93) S62 (wn rfl) rfl rfl (d_alloc rfl (Try.zeroValue93 _) rfl) ?_; intro b63 w64 S65; clear S62
      refine wL_st (fs' := [_, _, _, _, _, _, _, _, _, _, _, _]) 1 S65 (wn rfl) rfl rfl rfl rfl rfl rfl inf29 rfl (qRow_one rfl rfl) (Nat.le_of_ble_eq_true rfl) (setAll_all rfl) rfl ?_; intro w66 S67; clear S65
      refine wL_st (fs' := [_, _, _, _, _, _, _, _, _, _, _, _]) 0 S67 (wn rfl) rfl rfl rfl rfl rfl rfl inf93 rfl (oneAll rfl) (Nat.le_of_ble_eq_true rfl) (setAll_all rfl) rfl ?_; intro w68 S69; clear S67
      refine wL_val (wn rfl) rfl rfl (y_assign rfl rfl) ?_
      refine wL_val (wn rfl) rfl rfl (y_assign rfl rfl) ?_
      refine wL_nil (wQ_sub (l' := [(2, _), (3, _), (4, _), (5, _), (6, _), (7, _), (13, _), (14, _)]) ⟨rfl, rfl, rfl, rfl, rfl, rfl, rfl, rfl, trivial⟩ (wQ_then (wC_seq (wC_seq (wC_region (wL_val (wn rfl) rfl rfl (y_move rfl rfl) ?_))))))
      cases hch : R.2.2.1
      ·refine wL_val (v := .bool true) (wn rfl) rfl rfl (y_unop rfl rfl r_not) ?_
       refine wL_nil (wQ_sub (l' := [(2, _), (3, _), (4, _), (5, _), (6, _), (7, _), (13, _), (64, _)]) ⟨rfl, rfl, rfl, rfl, rfl, rfl, rfl, rfl, trivial⟩ (wQ_then (wC_cond_t rfl (wC_seq ?_))))
       have S70 := S69.drew; clear S69
       refine wC_any_ (C := fun w' => St w.heap.size w w' [.blk b63 #[.int .i64 R.2.1.code, .int .i64 R.2.1.hep, .int .i64 R.2.1.hno, .int .i64 R.2.1.body] 93, .blk b60 (qRow R.1.ep R.1.nx R.1.gv (.slice A53 R.1.ready.length c54) (.slice A55 R.1.leases.length c56) R.1.ws) 29, .rdo 2 A53 R.1.ready.length ((R.1.ready).flatMap Msg.cells), .rdo 4 A55 R.1.leases.length ((R.1.leases).flatMap Ls.cells), .blk b48 (qRow ((tellM l).1.ep) ((tellM l).1.nx) ((tellM l).1.gv) (.slice A41 ((tellM l).1.ready.length) c42) (.slice A43 ((tellM l).1.leases.length) c44) ((tellM l).1.ws)) 29, .rdo 2 A41 ((tellM l).1.ready.length) (((tellM l).1.ready).flatMap Msg.cells), .rdo 4 A43 ((tellM l).1.leases.length) (((tellM l).1.leases).flatMap Ls.cells), .blk b4 #[.int .i64 x.kind, .int .i64 x.producer, .int .i64 x.id, .int .i64 x.body, .int .i64 x.hepoch, .int .i64 x.hno] 37, .blk b1 #[.int .i64 ro, .int .i64 ep, .int .i64 fr, .int .i64 tg, .int .i64 rd, .slice A l.length c] 108, .rd 6 A l.length ((l).flatMap Ev.cells)]) (n := 7) (listed := #[false, false, false, false, false, false, false]) mixed rfl rfl ?_
       refine wA_take (v := .agg #[.int .i64 ro, .int .i64 ep, .int .i64 fr, .int .i64 tg, .int .i64 rd, .slice A l.length c]) (i := 0) (n := 6) (listed' := #[true, false, false, false, false, false, false]) rfl (by kernel_rfl) (by kernel_rfl) (by kernel_rfl) (St.del 7 (St.del 8 S70)) rfl (wn rfl) rfl rfl (fun _ Sx71 => (y_load rfl rfl (r_load_row 8 Sx71 rfl Try.underlying108 rfl inf108 rfl))) ?_
       refine wA_take (v := .agg #[.int .i64 R.2.1.code, .int .i64 R.2.1.hep, .int .i64 R.2.1.hno, .int .i64 R.2.1.body]) (i := 2) (n := 5) (listed' := #[true, false, true, false, false, false, false]) rfl (by kernel_rfl) (by kernel_rfl) (by kernel_rfl) (St.del 7 (St.del 8 S70)) rfl (wn rfl) rfl rfl (fun _ Sx72 => (y_load rfl rfl (r_load_row 0 Sx72 rfl Try.underlying93 rfl inf93 rfl))) ?_
       refine wA_one (n := 4) (r := 1) (by kernel_rfl) ?_
       refine wN_call_ (i := 1) (listed' := #[true, true, true, false, false, false, false]) rfl rfl (vs := [.agg #[.int .i64 ro, .int .i64 ep, .int .i64 fr, .int .i64 tg, .int .i64 rd, .slice A l.length c], .slice none 0 0]) (wn rfl) rfl rfl (e_call (vs := [.agg #[.int .i64 ro, .int .i64 ep, .int .i64 fr, .int .i64 tg, .int .i64 rd, .slice A l.length c], .slice none 0 0]) rfl en160 ⟨rfl, rfl, trivial⟩) (with0_calls ro ep fr tg rd A c l _ (St.rd 11 S70 rfl) hb) ?_
       rintro _ w75 ⟨A73, c74, rfl, T77⟩
       refine ⟨_, rfl, ?_⟩
       have S76 := S70.ext T77 rfl; clear T77 S70
       change St _ _ _ [.own 37 6 (.slice A73 l.length c74) l.length ((l).flatMap Ev.cells), _, _, _, _, _, _, _, _, _, _, _, _] at S76
       refine ⟨(St.del 0 (St.del 8 (St.del 9 S76))), ?_⟩
       refine wA_one (n := 3) (r := 3) (by kernel_rfl) ?_
       refine wN_st (i := 3) (listed' := #[true, true, true, true, false, false, false]) rfl rfl (fs' := [_, _, _, _, _, _, _, _, _, _, _, _, _]) 9 S76 (wn rfl) rfl rfl rfl rfl rfl rfl inf108 rfl (oneAll rfl) (Nat.le_of_ble_eq_true rfl) (setAll_all rfl) rfl ?_; intro w78 S79; clear S76
       refine ⟨(St.del 0 (St.del 8 (St.del 9 S79))), ?_⟩
       refine wA_one (n := 2) (r := 4) (by kernel_rfl) ?_
       refine wN_st (i := 4) (listed' := #[true, true, true, true, true, false, false]) rfl rfl (fs' := [_, _, _, _, _, _, _, _, _, _, _, _, _]) 8 S79 (wn rfl) rfl rfl rfl rfl rfl rfl inf93 rfl (oneAll rfl) (Nat.le_of_ble_eq_true rfl) (setAll_all rfl) rfl ?_; intro w80 S81; clear S79
       refine ⟨(St.del 0 (St.del 8 (St.del 9 S81))), ?_⟩
       refine wA_take (v := .bool false) (i := 5) (n := 1) (listed' := #[true, true, true, true, true, true, false]) rfl (by kernel_rfl) (by kernel_rfl) (by kernel_rfl) (St.del 0 (St.del 8 (St.del 9 S81))) rfl (wn rfl) rfl rfl (fun _ _ => (y_assign rfl rfl)) ?_
       refine wA_take (v := .int .i64 0) (i := 6) (n := 0) (listed' := #[true, true, true, true, true, true, true]) rfl (by kernel_rfl) (by kernel_rfl) (by kernel_rfl) (St.del 0 (St.del 8 (St.del 9 S81))) rfl (wn rfl) rfl rfl (fun _ _ => (y_assign rfl rfl)) ?_
       refine wA_done (by kernel_rfl) ?_
       refine wQ_sub (l' := [(4, _), (5, _), (6, _), (7, _)]) ⟨rfl, rfl, rfl, rfl, trivial⟩ (wQ_then (wC_ret (wQ_then_ret (wQ_post (rs := [.cell 4 108, .cell 5 93, .tmp 6, .tmp 7]) (vs := [.agg #[.int .i64 ro, .int .i64 ep, .int .i64 fr, .int .i64 tg, .int .i64 rd, .slice A73 l.length c74], .agg #[.int .i64 R.2.1.code, .int .i64 R.2.1.hep, .int .i64 R.2.1.hno, .int .i64 R.2.1.body], .bool false, .int .i64 0]) rfl ⟨⟨_, rfl, res_row 9 S81 rfl Try.underlying108 rfl inf108⟩, ⟨_, rfl, res_row 8 S81 rfl Try.underlying93 rfl inf93⟩, rfl, rfl, trivial⟩ ?_))))
       have S84 : St w.heap.size w w80 [_] := (St.del 1 (St.del 2 (St.del 3 (St.del 4 (St.del 5 (St.del 6 (St.del 7 (St.del 8 (St.del 9 (St.del 10 (St.del 11 (St.del 12 S81)))))))))))); clear S81
       have S85 := S84.sealAll 0 rfl; clear S84
       change St _ _ _ [.rdo 6 A73 l.length ((l).flatMap Ev.cells)] at S85
       rw [serve_go (b := ⟨ro, ep, fr, tg, rd, l⟩) (e := x) h16 h20 hk4 hsv, hR]
       rw [if_pos hch]
       exact ⟨A73, c74, rfl, S85⟩
      ·refine wL_val (v := .bool false) (wn rfl) rfl rfl (y_unop rfl rfl r_not) ?_
       refine wL_nil (wQ_sub (l' := [(2, _), (3, _), (4, _), (5, _), (6, _), (7, _), (13, _), (64, _)]) ⟨rfl, rfl, rfl, rfl, rfl, rfl, rfl, rfl, trivial⟩ (wQ_then (wC_cond_f rfl (wC_skip (wQ_then (wC_seq (wC_seq (wC_region (wL_val (v := .pointer (some ⟨b1, 5, none⟩)) (wn rfl) rfl rfl (y_fieldAddr rfl rfl (fa108_5 _ _ _)) ?_)))))))))
       refine wL_val (wn rfl) rfl rfl (y_load rfl rfl (r_load Try.underlying57 rfl (St.cl 10 S69 rfl rfl))) ?_
       refine wL_val (v := .int .i64 ((l.length : Nat) : Int)) (wn rfl) rfl rfl (y_builtin (vs := [.slice A l.length c]) rfl ⟨rfl, trivial⟩ fun _ => r_len rfl Try.underlying57) ?_
       by_cases hful : 1999 ≤ l.length
       ·refine wL_val (v := .bool true) (wn rfl) rfl rfl (y_binop rfl rfl rfl (r_geq_t (by omega))) ?_
        refine wL_nil (wQ_sub (l' := [(2, _), (3, _), (4, _), (5, _), (6, _), (7, _), (13, _), (71, _)]) ⟨rfl, rfl, rfl, rfl, rfl, rfl, rfl, rfl, trivial⟩ (wQ_then (wC_cond_t rfl (wC_seq (wC_region (wL_val (wn rfl) rfl rfl (y_load rfl rfl (r_load_row 10 S69 rfl Try.underlying108 rfl inf108 rfl)) ?_))))))
        refine wL_call (vs := [.agg #[.int .i64 ro, .int .i64 ep, .int .i64 fr, .int .i64 tg, .int .i64 rd, .slice A l.length c], .slice none 0 0]) (wn rfl) rfl rfl (e_call (vs := [.agg #[.int .i64 ro, .int .i64 ep, .int .i64 fr, .int .i64 tg, .int .i64 rd, .slice A l.length c], .slice none 0 0]) rfl en160 ⟨rfl, rfl, trivial⟩) (with0_calls ro ep fr tg rd A c l _ (St.rd 11 S69 rfl) hb) ?_
        rintro _ w88 ⟨A86, c87, rfl, T90⟩
        refine ⟨_, rfl, ?_⟩
        have S89 := S69.ext T90 rfl; clear T90 S69
        change St _ _ _ [.own 37 6 (.slice A86 l.length c87) l.length ((l).flatMap Ev.cells), _, _, _, _, _, _, _, _, _, _, _, _] at S89
        refine wL_val (v := .agg #[.int .i64 14, .int .i64 0, .int .i64 0, .int .i64 0]) (wn rfl) rfl rfl (y_build (vs := [(0, .int .i64 14)]) rfl ⟨rfl, rfl, trivial⟩ (by kernel_rfl)) ?_
        refine wL_st (fs' := [_, _, _, _, _, _, _, _, _, _, _, _, _]) 9 S89 (wn rfl) rfl rfl rfl rfl rfl rfl inf108 rfl (oneAll rfl) (Nat.le_of_ble_eq_true rfl) (setAll_all rfl) rfl ?_; intro w91 S92; clear S89
        refine wL_st (fs' := [_, _, _, _, _, _, _, _, _, _, _, _, _]) 8 S92 (wn rfl) rfl rfl rfl rfl rfl rfl inf93 rfl (oneAll rfl) (Nat.le_of_ble_eq_true rfl) (setAll_all rfl) rfl ?_; intro w93 S94; clear S92
        refine wL_val (wn rfl) rfl rfl (y_assign rfl rfl) ?_
        refine wL_val (wn rfl) rfl rfl (y_assign rfl rfl) ?_
        refine wL_nil (wQ_sub (l' := [(4, _), (5, _), (6, _), (7, _)]) ⟨rfl, rfl, rfl, rfl, trivial⟩ (wQ_then (wC_ret (wQ_then_ret (wQ_post (rs := [.cell 4 108, .cell 5 93, .tmp 6, .tmp 7]) (vs := [.agg #[.int .i64 ro, .int .i64 ep, .int .i64 fr, .int .i64 tg, .int .i64 rd, .slice A86 l.length c87], .agg #[.int .i64 14, .int .i64 0, .int .i64 0, .int .i64 0], .bool false, .int .i64 0]) rfl ⟨⟨_, rfl, res_row 9 S94 rfl Try.underlying108 rfl inf108⟩, ⟨_, rfl, res_row 8 S94 rfl Try.underlying93 rfl inf93⟩, rfl, rfl, trivial⟩ ?_)))))
        have S95 : St w.heap.size w w93 [_] := (St.del 1 (St.del 2 (St.del 3 (St.del 4 (St.del 5 (St.del 6 (St.del 7 (St.del 8 (St.del 9 (St.del 10 (St.del 11 (St.del 12 S94)))))))))))); clear S94
        have S96 := S95.sealAll 0 rfl; clear S95
        change St _ _ _ [.rdo 6 A86 l.length ((l).flatMap Ev.cells)] at S96
        rw [serve_go (b := ⟨ro, ep, fr, tg, rd, l⟩) (e := x) h16 h20 hk4 hsv, hR]
        rw [if_neg (by rw [hch]; simp), if_pos hful]
        exact ⟨A86, c87, rfl, S96⟩
       ·refine wL_val (v := .bool false) (wn rfl) rfl rfl (y_binop rfl rfl rfl (r_geq_f (by omega))) ?_
        refine wL_nil (wQ_sub (l' := [(2, _), (3, _), (4, _), (5, _), (6, _), (7, _), (13, _), (71, _)]) ⟨rfl, rfl, rfl, rfl, rfl, rfl, rfl, rfl, trivial⟩ (wQ_then (wC_cond_f rfl (wC_skip (wQ_then (wC_seq ?_))))))
        have S97 := S69.drew; clear S69
        refine wC_any_ (C := fun w' => St w.heap.size w w' [.blk b63 #[.int .i64 R.2.1.code, .int .i64 R.2.1.hep, .int .i64 R.2.1.hno, .int .i64 R.2.1.body] 93, .blk b60 (qRow R.1.ep R.1.nx R.1.gv (.slice A53 R.1.ready.length c54) (.slice A55 R.1.leases.length c56) R.1.ws) 29, .rdo 2 A53 R.1.ready.length ((R.1.ready).flatMap Msg.cells), .rdo 4 A55 R.1.leases.length ((R.1.leases).flatMap Ls.cells), .blk b48 (qRow ((tellM l).1.ep) ((tellM l).1.nx) ((tellM l).1.gv) (.slice A41 ((tellM l).1.ready.length) c42) (.slice A43 ((tellM l).1.leases.length) c44) ((tellM l).1.ws)) 29, .rdo 2 A41 ((tellM l).1.ready.length) (((tellM l).1.ready).flatMap Msg.cells), .rdo 4 A43 ((tellM l).1.leases.length) (((tellM l).1.leases).flatMap Ls.cells), .blk b4 #[.int .i64 x.kind, .int .i64 x.producer, .int .i64 x.id, .int .i64 x.body, .int .i64 x.hepoch, .int .i64 x.hno] 37, .blk b1 #[.int .i64 ro, .int .i64 ep, .int .i64 fr, .int .i64 tg, .int .i64 rd, .slice A l.length c] 108, .rd 6 A l.length ((l).flatMap Ev.cells)]) (n := 9) (listed := #[false, false, false, false, false, false, false, false, false]) mixed rfl rfl ?_
        refine wA_take (v := .agg #[.int .i64 ro, .int .i64 ep, .int .i64 fr, .int .i64 tg, .int .i64 rd, .slice A l.length c]) (i := 0) (n := 8) (listed' := #[true, false, false, false, false, false, false, false, false]) rfl (by kernel_rfl) (by kernel_rfl) (by kernel_rfl) (St.del 7 (St.del 8 S97)) rfl (wn rfl) rfl rfl (fun _ Sx98 => (y_load rfl rfl (r_load_row 8 Sx98 rfl Try.underlying108 rfl inf108 rfl))) ?_
        refine wA_take (v := .agg #[.int .i64 x.kind, .int .i64 x.producer, .int .i64 x.id, .int .i64 x.body, .int .i64 x.hepoch, .int .i64 x.hno]) (i := 1) (n := 7) (listed' := #[true, true, false, false, false, false, false, false, false]) rfl (by kernel_rfl) (by kernel_rfl) (by kernel_rfl) (St.del 7 (St.del 8 S97)) rfl (wn rfl) rfl rfl (fun _ Sx99 => (y_load rfl rfl (r_load_row 7 Sx99 rfl Try.underlying37 rfl inf37 rfl))) ?_
        refine wA_take (v := .agg #[.int .i64 R.2.1.code, .int .i64 R.2.1.hep, .int .i64 R.2.1.hno, .int .i64 R.2.1.body]) (i := 4) (n := 6) (listed' := #[true, true, false, false, true, false, false, false, false]) rfl (by kernel_rfl) (by kernel_rfl) (by kernel_rfl) (St.del 7 (St.del 8 S97)) rfl (wn rfl) rfl rfl (fun _ Sx100 => (y_load rfl rfl (r_load_row 0 Sx100 rfl Try.underlying93 rfl inf93 rfl))) ?_
        refine wA_one (n := 5) (r := 2) (by kernel_rfl) ?_
        refine wN_new (i := 2) (listed' := #[true, true, true, false, true, false, false, false, false]) rfl rfl (V := fun b => .slice (some ⟨b, 0, none⟩) 1 1) (row := #[.int .i64 x.kind, .int .i64 x.producer, .int .i64 x.id, .int .i64 x.body, .int .i64 x.hepoch, .int .i64 x.hno]) (t := 37) S97 (wn rfl) rfl rfl (d_buildSlice (vs := [(0, .agg #[.int .i64 x.kind, .int .i64 x.producer, .int .i64 x.id, .int .i64 x.body, .int .i64 x.hepoch, .int .i64 x.hno])]) rfl ⟨rfl, rfl, trivial⟩ (by kernel_rfl)) ?_; intro b101 w102 S103; clear S97
        refine ⟨(St.del 0 (St.del 8 (St.del 9 S103))), ?_⟩
        refine wA_one (n := 4) (r := 3) (by kernel_rfl) ?_
        refine wN_call_ (i := 3) (listed' := #[true, true, true, true, true, false, false, false, false]) rfl rfl (vs := [.agg #[.int .i64 ro, .int .i64 ep, .int .i64 fr, .int .i64 tg, .int .i64 rd, .slice A l.length c], .slice (some ⟨b101, 0, none⟩) 1 1]) (wn rfl) rfl rfl (e_call (vs := [.agg #[.int .i64 ro, .int .i64 ep, .int .i64 fr, .int .i64 tg, .int .i64 rd, .slice A l.length c], .slice (some ⟨b101, 0, none⟩) 1 1]) rfl en160 ⟨rfl, rfl, trivial⟩) (with_calls ro ep fr tg rd A c l (some ⟨b101, 0, none⟩) 1 [x] _ (St.rd 12 S103 rfl) (St.bld (xs := evCells [x]) 0 S103 rfl rfl rfl) (by simp only [List.length_cons, List.length_nil]; unfold reachBytes; omega)) ?_
        rintro _ w106 ⟨A104, c105, rfl, T108⟩
        refine ⟨_, rfl, ?_⟩
        have S107 := S103.ext T108 rfl; clear T108 S103
        change St _ _ _ [.own 37 6 (.slice A104 ((l ++ [x]).length) c105) ((l ++ [x]).length) ((l ++ [x]).flatMap Ev.cells), _, _, _, _, _, _, _, _, _, _, _, _, _] at S107
        refine ⟨(St.del 0 (St.del 1 (St.del 9 (St.del 10 S107)))), ?_⟩
        refine wA_one (n := 3) (r := 5) (by kernel_rfl) ?_
        refine wN_st (i := 5) (listed' := #[true, true, true, true, true, true, false, false, false]) rfl rfl (fs' := [_, _, _, _, _, _, _, _, _, _, _, _, _, _]) 10 S107 (wn rfl) rfl rfl rfl rfl rfl rfl inf108 rfl (oneAll rfl) (Nat.le_of_ble_eq_true rfl) (setAll_all rfl) rfl ?_; intro w109 S110; clear S107
        refine ⟨(St.del 0 (St.del 1 (St.del 9 (St.del 10 S110)))), ?_⟩
        refine wA_one (n := 2) (r := 6) (by kernel_rfl) ?_
        refine wN_st (i := 6) (listed' := #[true, true, true, true, true, true, true, false, false]) rfl rfl (fs' := [_, _, _, _, _, _, _, _, _, _, _, _, _, _]) 9 S110 (wn rfl) rfl rfl rfl rfl rfl rfl inf93 rfl (oneAll rfl) (Nat.le_of_ble_eq_true rfl) (setAll_all rfl) rfl ?_; intro w111 S112; clear S110
        refine ⟨(St.del 0 (St.del 1 (St.del 9 (St.del 10 S112)))), ?_⟩
        refine wA_take (v := .bool true) (i := 7) (n := 1) (listed' := #[true, true, true, true, true, true, true, true, false]) rfl (by kernel_rfl) (by kernel_rfl) (by kernel_rfl) (St.del 0 (St.del 1 (St.del 9 (St.del 10 S112)))) rfl (wn rfl) rfl rfl (fun _ _ => (y_assign rfl rfl)) ?_
        refine wA_take (v := .int .i64 0) (i := 8) (n := 0) (listed' := #[true, true, true, true, true, true, true, true, true]) rfl (by kernel_rfl) (by kernel_rfl) (by kernel_rfl) (St.del 0 (St.del 1 (St.del 9 (St.del 10 S112)))) rfl (wn rfl) rfl rfl (fun _ _ => (y_assign rfl rfl)) ?_
        refine wA_done (by kernel_rfl) ?_
        refine wQ_sub (l' := [(4, _), (5, _), (6, _), (7, _)]) ⟨rfl, rfl, rfl, rfl, trivial⟩ (wQ_then (wC_ret (wQ_post (rs := [.cell 4 108, .cell 5 93, .tmp 6, .tmp 7]) (vs := [.agg #[.int .i64 ro, .int .i64 ep, .int .i64 fr, .int .i64 tg, .int .i64 rd, .slice A104 ((l ++ [x]).length) c105], .agg #[.int .i64 R.2.1.code, .int .i64 R.2.1.hep, .int .i64 R.2.1.hno, .int .i64 R.2.1.body], .bool true, .int .i64 0]) rfl ⟨⟨_, rfl, res_row 10 S112 rfl Try.underlying108 rfl inf108⟩, ⟨_, rfl, res_row 9 S112 rfl Try.underlying93 rfl inf93⟩, rfl, rfl, trivial⟩ ?_)))
        have S115 : St w.heap.size w w111 [_] := (St.del 1 (St.del 2 (St.del 3 (St.del 4 (St.del 5 (St.del 6 (St.del 7 (St.del 8 (St.del 9 (St.del 10 (St.del 11 (St.del 12 (St.del 13 S112))))))))))))); clear S112
        have S116 := S115.sealAll 0 rfl; clear S115
        change St _ _ _ [.rdo 6 A104 ((l ++ [x]).length) ((l ++ [x]).flatMap Ev.cells)] at S116
        rw [serve_go (b := ⟨ro, ep, fr, tg, rd, l⟩) (e := x) h16 h20 hk4 hsv, hR]
        rw [if_neg (by rw [hch]; simp), if_neg hful]
        exact ⟨A104, c105, rfl, S116⟩
     ·rw [decide_eq_false hsv] at HC
      refine wL_call (vs := [.agg #[.int .i64 ro, .int .i64 ep, .int .i64 fr, .int .i64 tg, .int .i64 rd, .slice A l.length c]]) (wn rfl) rfl rfl (e_call (vs := [.agg #[.int .i64 ro, .int .i64 ep, .int .i64 fr, .int .i64 tg, .int .i64 rd, .slice A l.length c]]) rfl en159 ⟨rfl, trivial⟩) (HC _ (St.rd 4 S18 rfl)) ?_
      rintro _ w117 ⟨rfl, hb119⟩
      refine ⟨_, rfl, ?_⟩
      have S118 := S18.on hb119; clear hb119 S18; clear HC
      refine wL_val (v := .bool true) (wn rfl) rfl rfl (y_unop rfl rfl r_not) ?_
      refine wL_val (wn rfl) rfl rfl (y_assign rfl rfl) ?_
      refine wL_nil (wQ_sub (l' := [(2, _), (3, _), (4, _), (5, _), (6, _), (7, _), (42, _)]) ⟨rfl, rfl, rfl, rfl, rfl, rfl, rfl, trivial⟩ (wQ_then (wC_cond_t rfl (wC_seq (wC_region (wL_val (wn rfl) rfl rfl (y_load rfl rfl (r_load_row 3 S118 rfl Try.underlying108 rfl inf108 rfl)) ?_))))))
      refine wL_call (vs := [.agg #[.int .i64 ro, .int .i64 ep, .int .i64 fr, .int .i64 tg, .int .i64 rd, .slice A l.length c], .slice none 0 0]) (wn rfl) rfl rfl (e_call (vs := [.agg #[.int .i64 ro, .int .i64 ep, .int .i64 fr, .int .i64 tg, .int .i64 rd, .slice A l.length c], .slice none 0 0]) rfl en160 ⟨rfl, rfl, trivial⟩) (with0_calls ro ep fr tg rd A c l _ (St.rd 4 S118 rfl) hb) ?_
      rintro _ w122 ⟨A120, c121, rfl, T124⟩
      refine ⟨_, rfl, ?_⟩
      have S123 := S118.ext T124 rfl; clear T124 S118
      change St _ _ _ [.own 37 6 (.slice A120 l.length c121) l.length ((l).flatMap Ev.cells), _, _, _, _, _] at S123
      refine wL_val (v := .agg #[.int .i64 7, .int .i64 0, .int .i64 0, .int .i64 0]) (wn rfl) rfl rfl (y_build (vs := [(0, .int .i64 7)]) rfl ⟨rfl, rfl, trivial⟩ (by kernel_rfl)) ?_
      refine wL_st (fs' := [_, _, _, _, _, _]) 2 S123 (wn rfl) rfl rfl rfl rfl rfl rfl inf108 rfl (oneAll rfl) (Nat.le_of_ble_eq_true rfl) (setAll_all rfl) rfl ?_; intro w125 S126; clear S123
      refine wL_st (fs' := [_, _, _, _, _, _]) 1 S126 (wn rfl) rfl rfl rfl rfl rfl rfl inf93 rfl (oneAll rfl) (Nat.le_of_ble_eq_true rfl) (setAll_all rfl) rfl ?_; intro w127 S128; clear S126
      refine wL_val (wn rfl) rfl rfl (y_assign rfl rfl) ?_
      refine wL_val (wn rfl) rfl rfl (y_assign rfl rfl) ?_
      refine wL_nil (wQ_sub (l' := [(4, _), (5, _), (6, _), (7, _)]) ⟨rfl, rfl, rfl, rfl, trivial⟩ (wQ_then (wC_ret (wQ_blk_ret (wQ_then_ret (wQ_post (rs := [.cell 4 108, .cell 5 93, .tmp 6, .tmp 7]) (vs := [.agg #[.int .i64 ro, .int .i64 ep, .int .i64 fr, .int .i64 tg, .int .i64 rd, .slice A120 l.length c121], .agg #[.int .i64 7, .int .i64 0, .int .i64 0, .int .i64 0], .bool false, .int .i64 0]) rfl ⟨⟨_, rfl, res_row 2 S128 rfl Try.underlying108 rfl inf108⟩, ⟨_, rfl, res_row 1 S128 rfl Try.underlying93 rfl inf93⟩, rfl, rfl, trivial⟩ ?_))))))
      have S129 : St w.heap.size w w127 [_] := (St.del 1 (St.del 2 (St.del 3 (St.del 4 (St.del 5 S128))))); clear S128
      have S130 := S129.sealAll 0 rfl; clear S129
      change St _ _ _ [.rdo 6 A120 l.length ((l).flatMap Ev.cells)] at S130
      rw [show serveM ⟨ro, ep, fr, tg, rd, l⟩ x = (⟨ro, ep, fr, tg, rd, l⟩, ⟨7, 0, 0, 0⟩, false, 0) from by unfold serveM; (try dsimp only); (repeat' (first | rfl | omega | split)) <;> (simp only [Prod.mk.injEq, Brt.mk.injEq, and_true, true_and, and_self]; omega)]
      exact ⟨A120, c121, rfl, S130⟩
  ·refine wL_val (v := .bool true) (wn rfl) rfl rfl (y_binop rfl rfl rfl (r_neq_t h20)) ?_
   refine wL_nil (wQ_sub (l' := [(2, _), (3, _), (4, _), (5, _), (6, _), (7, _), (9, _), (26, _)]) ⟨rfl, rfl, rfl, rfl, rfl, rfl, rfl, rfl, trivial⟩ (wQ_then (wC_cond_t rfl (wC_seq (wC_region (wL_val (v := .agg #[.int .i64 0, .int .i64 0, .int .i64 0, .int .i64 0, .int .i64 0, .slice none 0 0]) (wn rfl) rfl rfl (y_build (vs := []) rfl trivial (by kernel_rfl)) ?_))))))
   refine wL_val (v := .agg #[.int .i64 0, .int .i64 0, .int .i64 0, .int .i64 0]) (wn rfl) rfl rfl (y_build (vs := []) rfl trivial (by kernel_rfl)) ?_
   refine wL_val (wn rfl) rfl rfl (y_move rfl rfl) ?_
   refine wL_st (fs' := [_, _, _, _, _]) 1 S18 (wn rfl) rfl rfl rfl rfl rfl rfl inf108 rfl (oneAll rfl) (Nat.le_of_ble_eq_true rfl) (setAll_all rfl) rfl ?_; intro w131 S132; clear S18
   refine wL_st (fs' := [_, _, _, _, _]) 0 S132 (wn rfl) rfl rfl rfl rfl rfl rfl inf93 rfl (oneAll rfl) (Nat.le_of_ble_eq_true rfl) (setAll_all rfl) rfl ?_; intro w133 S134; clear S132
   refine wL_val (wn rfl) rfl rfl (y_assign rfl rfl) ?_
   refine wL_val (wn rfl) rfl rfl (y_assign rfl rfl) ?_
   refine wL_nil (wQ_sub (l' := [(4, _), (5, _), (6, _), (7, _)]) ⟨rfl, rfl, rfl, rfl, trivial⟩ (wQ_then (wC_ret (wQ_then_ret (wQ_post (rs := [.cell 4 108, .cell 5 93, .tmp 6, .tmp 7]) (vs := [.agg #[.int .i64 0, .int .i64 0, .int .i64 0, .int .i64 0, .int .i64 0, .slice none 0 0], .agg #[.int .i64 0, .int .i64 0, .int .i64 0, .int .i64 0], .bool false, .int .i64 (evFault x)]) rfl ⟨⟨_, rfl, res_row 1 S134 rfl Try.underlying108 rfl inf108⟩, ⟨_, rfl, res_row 0 S134 rfl Try.underlying93 rfl inf93⟩, rfl, rfl, trivial⟩ ?_)))))
   have S135 : St w.heap.size w w133 [] := (St.del 0 (St.del 1 (St.del 2 (St.del 3 (St.del 4 S134))))); clear S134
   rw [show serveM ⟨ro, ep, fr, tg, rd, l⟩ x = (⟨0, 0, 0, 0, 0, []⟩, ⟨0, 0, 0, 0⟩, false, evFault x) from by unfold serveM; (try dsimp only); (repeat' (first | rfl | omega | split)) <;> (simp only [Prod.mk.injEq, Brt.mk.injEq, and_true, true_and, and_self]; omega)]
   exact ⟨none, 0, rfl, rdo_nil S135⟩
 ·refine wL_val (v := .bool true) (wn rfl) rfl rfl (y_binop rfl rfl rfl (r_neq_t h16)) ?_
  refine wL_nil (wQ_sub (l' := [(2, _), (3, _), (4, _), (5, _), (6, _), (7, _), (8, _), (19, _)]) ⟨rfl, rfl, rfl, rfl, rfl, rfl, rfl, rfl, trivial⟩ (wQ_then (wC_cond_t rfl (wC_seq (wC_region (wL_val (v := .agg #[.int .i64 0, .int .i64 0, .int .i64 0, .int .i64 0, .int .i64 0, .slice none 0 0]) (wn rfl) rfl rfl (y_build (vs := []) rfl trivial (by kernel_rfl)) ?_))))))
  refine wL_val (v := .agg #[.int .i64 0, .int .i64 0, .int .i64 0, .int .i64 0]) (wn rfl) rfl rfl (y_build (vs := []) rfl trivial (by kernel_rfl)) ?_
  refine wL_val (wn rfl) rfl rfl (y_move rfl rfl) ?_
  refine wL_st (fs' := [_, _, _, _, _]) 1 S14 (wn rfl) rfl rfl rfl rfl rfl rfl inf108 rfl (oneAll rfl) (Nat.le_of_ble_eq_true rfl) (setAll_all rfl) rfl ?_; intro w136 S137; clear S14
  refine wL_st (fs' := [_, _, _, _, _]) 0 S137 (wn rfl) rfl rfl rfl rfl rfl rfl inf93 rfl (oneAll rfl) (Nat.le_of_ble_eq_true rfl) (setAll_all rfl) rfl ?_; intro w138 S139; clear S137
  refine wL_val (wn rfl) rfl rfl (y_assign rfl rfl) ?_
  refine wL_val (wn rfl) rfl rfl (y_assign rfl rfl) ?_
  refine wL_nil (wQ_sub (l' := [(4, _), (5, _), (6, _), (7, _)]) ⟨rfl, rfl, rfl, rfl, trivial⟩ (wQ_then (wC_ret (wQ_then_ret (wQ_post (rs := [.cell 4 108, .cell 5 93, .tmp 6, .tmp 7]) (vs := [.agg #[.int .i64 0, .int .i64 0, .int .i64 0, .int .i64 0, .int .i64 0, .slice none 0 0], .agg #[.int .i64 0, .int .i64 0, .int .i64 0, .int .i64 0], .bool false, .int .i64 (brtFault ⟨ro, ep, fr, tg, rd, l⟩)]) rfl ⟨⟨_, rfl, res_row 1 S139 rfl Try.underlying108 rfl inf108⟩, ⟨_, rfl, res_row 0 S139 rfl Try.underlying93 rfl inf93⟩, rfl, rfl, trivial⟩ ?_)))))
  have S140 : St w.heap.size w w138 [] := (St.del 0 (St.del 1 (St.del 2 (St.del 3 (St.del 4 S139))))); clear S139
  rw [show serveM ⟨ro, ep, fr, tg, rd, l⟩ x = (⟨0, 0, 0, 0, 0, []⟩, ⟨0, 0, 0, 0⟩, false, brtFault ⟨ro, ep, fr, tg, rd, l⟩) from by unfold serveM; (try dsimp only); (repeat' (first | rfl | omega | split)) <;> (simp only [Prod.mk.injEq, Brt.mk.injEq, and_true, true_and, and_self]; omega)]
  exact ⟨none, 0, rfl, rdo_nil S140⟩

end Go.Proofs.Ytkjlafpafmihaaa

namespace Go.Proofs.Ytkjlafpafmihaaa
open Go.ChangeShapes Go.WideShapes Go.RowKit

set_option maxRecDepth 100000 in
set_option maxHeartbeats 2000000 in
theorem ServedBy_calls (ro ep fr tg rd : Int) (A : Option Addr) (c : Nat) (l : List Ev) (x : Ev) (w : World) (h : Rd w w.heap.size 6 A l.length (evCells l)) (hb : l.length * 48 ≤ reachBytes) :
    Calls Try.prog 95 #[.agg #[.int .i64 ro, .int .i64 ep, .int .i64 fr, .int .i64 tg, .int .i64 rd, .slice A l.length c], .agg #[.int .i64 x.kind, .int .i64 x.producer, .int .i64 x.id, .int .i64 x.body, .int .i64 x.hepoch, .int .i64 x.hno]] w (ServePost w (serveM ⟨ro, ep, fr, tg, rd, l⟩ x)) := by
 have S := (St.start w).addRd h; clear h
 have hb2 := hb
 unfold reachBytes at hb2
 refine calls_of_wC (N := 85) (vs := [.agg #[.int .i64 ro, .int .i64 ep, .int .i64 fr, .int .i64 tg, .int .i64 rd, .slice A l.length c], .agg #[.int .i64 x.kind, .int .i64 x.producer, .int .i64 x.id, .int .i64 x.body, .int .i64 x.hepoch, .int .i64 x.hno]]) Try.func95 rfl rfl rfl ?_
 refine wC_sub (l' := [(0, .agg #[.int .i64 ro, .int .i64 ep, .int .i64 fr, .int .i64 tg, .int .i64 rd, .slice A l.length c]), (1, .agg #[.int .i64 x.kind, .int .i64 x.producer, .int .i64 x.id, .int .i64 x.body, .int .i64 x.hepoch, .int .i64 x.hno])]) ⟨rfl, rfl, trivial⟩ (wC_seq (wC_region (wL_new (V := fun b => .pointer (some ⟨b, 0, none⟩)) (row := #[.int .i64 ro, .int .i64 ep, .int .i64 fr, .int .i64 tg, .int .i64 rd, .slice A l.length c]) (t := 108) S (wn rfl) rfl rfl (d_box rfl rfl rfl) ?_))); intro b1 w2 S3; clear S
 refine wL_new (V := fun b => .pointer (some ⟨b, 0, none⟩)) (row := #[.int .i64 x.kind, .int .i64 x.producer, .int .i64 x.id, .int .i64 x.body, .int .i64 x.hepoch, .int .i64 x.hno]) (t := 37) S3 (wn rfl) rfl rfl (d_box rfl rfl rfl) ?_; intro b4 w5 S6; clear S3
 refine wL_new (V := fun b => .pointer (some ⟨b, 0, none⟩)) (row := #[.int .i64 0, .int .i64 0, .int .i64 0, .int .i64 0, .int .i64 0, .slice none 0 0]) (t := 108) S6 (wn rfl) rfl rfl (d_alloc rfl (Try.zeroValue108 _) rfl) ?_; intro b7 w8 S9; clear S6
 refine wL_new (V := fun b => .pointer (some ⟨b, 0, none⟩)) (row := #[.int .i64 0, .int .i64 0, .int .i64 0, .int .i64 0]) (t := 93) S9 (wn rfl) rfl rfl (d_alloc rfl (Try.zeroValue93 _) rfl) ?_; intro b10 w11 S12; clear S9
 refine wL_val (wn rfl) rfl rfl (y_assign rfl rfl) ?_
 refine wL_val (wn rfl) rfl rfl (y_assign rfl rfl) ?_
 refine wL_nil (wQ_sub (l' := [(2, _), (3, _), (4, _), (5, _), (6, _), (7, _)]) ⟨rfl, rfl, rfl, rfl, rfl, rfl, trivial⟩ (wQ_then (wC_seq (wC_region (wL_val (wn rfl) rfl rfl (y_load rfl rfl (r_load_row 3 S12 rfl Try.underlying108 rfl inf108 rfl)) ?_)))))
 refine wL_call (vs := [.agg #[.int .i64 ro, .int .i64 ep, .int .i64 fr, .int .i64 tg, .int .i64 rd, .slice A l.length c]]) (wn rfl) rfl rfl (e_call (vs := [.agg #[.int .i64 ro, .int .i64 ep, .int .i64 fr, .int .i64 tg, .int .i64 rd, .slice A l.length c]]) rfl en78 ⟨rfl, trivial⟩) (BerthFault_calls ro ep fr tg rd A c l _ (St.rd 4 S12 rfl) (by omega)) ?_
 rintro _ w13 ⟨rfl, hb15⟩
 refine ⟨_, rfl, ?_⟩
 have S14 := S12.on hb15; clear hb15 S12
 refine wL_val (wn rfl) rfl rfl (y_assign rfl rfl) ?_
 refine wL_nil (wQ_sub (l' := [(2, _), (3, _), (4, _), (5, _), (6, _), (7, _), (8, _)]) ⟨rfl, rfl, rfl, rfl, rfl, rfl, rfl, trivial⟩ (wQ_then (wC_seq (wC_seq (wC_region (wL_val (wn rfl) rfl rfl (y_move rfl rfl) ?_))))))
 by_cases h16 : brtFault ⟨ro, ep, fr, tg, rd, l⟩ = 0
 ·have hsh := (bf_zero h16).1
  unfold shapeB at hsh
  have hln := tellM_len (bf_zero h16).2
  dsimp only at hsh hln
  refine wL_val (v := .bool true) (wn rfl) rfl rfl (y_binop rfl rfl rfl (r_eql_t h16)) ?_
  refine wL_nil (wQ_sub (l' := [(2, _), (3, _), (4, _), (5, _), (6, _), (7, _), (8, _), (19, _)]) ⟨rfl, rfl, rfl, rfl, rfl, rfl, rfl, rfl, trivial⟩ (wQ_then (wC_cond_t rfl (wC_region (wL_val (wn rfl) rfl rfl (y_load rfl rfl (r_load_row 2 S14 rfl Try.underlying37 rfl inf37 rfl)) ?_)))))
  refine wL_call (vs := [.agg #[.int .i64 x.kind, .int .i64 x.producer, .int .i64 x.id, .int .i64 x.body, .int .i64 x.hepoch, .int .i64 x.hno]]) (wn rfl) rfl rfl (e_call (vs := [.agg #[.int .i64 x.kind, .int .i64 x.producer, .int .i64 x.id, .int .i64 x.body, .int .i64 x.hepoch, .int .i64 x.hno]]) rfl en149 ⟨rfl, trivial⟩) (EventFault_calls x _) ?_
  rintro _ w17 ⟨rfl, hb19⟩
  refine ⟨_, rfl, ?_⟩
  have S18 := S14.on hb19; clear hb19 S14
  refine wL_val (wn rfl) rfl rfl (y_assign rfl rfl) ?_
  refine wL_nil (wQ_sub (l' := [(2, _), (3, _), (4, _), (5, _), (6, _), (7, _), (8, _)]) ⟨rfl, rfl, rfl, rfl, rfl, rfl, rfl, trivial⟩ (wQ_then (wC_seq (wC_seq (wC_region (wL_val (wn rfl) rfl rfl (y_move rfl rfl) ?_))))))
  by_cases h20 : evFault x = 0
  ·refine wL_val (v := .bool true) (wn rfl) rfl rfl (y_binop rfl rfl rfl (r_eql_t h20)) ?_
   refine wL_val (wn rfl) rfl rfl (y_move rfl rfl) ?_
   refine wL_val (v := .pointer (some ⟨b4, 0, none⟩)) (wg rfl rfl rfl rfl) rfl rfl (y_fieldAddr rfl rfl (fa37_0 _ _ _)) ?_
   refine wL_val (wg rfl rfl rfl rfl) rfl rfl (y_load rfl rfl (r_load Try.underlying3 rfl (St.cl 2 S18 rfl rfl))) ?_
   by_cases hk4 : x.kind = 4
   ·refine wL_val (v := .bool true) (wg rfl rfl rfl rfl) rfl rfl (y_binop rfl rfl rfl (r_eql_t hk4)) ?_
    refine wL_val (wn rfl) rfl rfl (y_pick_t rfl rfl rfl) ?_
    refine wL_nil (wQ_sub (l' := [(2, _), (3, _), (4, _), (5, _), (6, _), (7, _), (8, _), (28, _)]) ⟨rfl, rfl, rfl, rfl, rfl, rfl, rfl, rfl, trivial⟩ (wQ_then (wC_cond_t rfl (wC_region (wL_val (wn rfl) rfl rfl (y_assign rfl rfl) ?_)))))
    refine wL_nil (wQ_sub (l' := [(2, _), (3, _), (4, _), (5, _), (6, _), (7, _), (8, _)]) ⟨rfl, rfl, rfl, rfl, rfl, rfl, rfl, trivial⟩ (wQ_then (wC_seq (wC_seq (wC_region (wL_val (wn rfl) rfl rfl (y_move rfl rfl) ?_))))))
    refine wL_val (v := .bool true) (wn rfl) rfl rfl (y_binop rfl rfl rfl (r_neq_t (by decide))) ?_
    refine wL_nil (wQ_sub (l' := [(2, _), (3, _), (4, _), (5, _), (6, _), (7, _), (8, _), (30, _)]) ⟨rfl, rfl, rfl, rfl, rfl, rfl, rfl, rfl, trivial⟩ (wQ_then (wC_cond_t rfl (wC_seq (wC_region (wL_val (v := .agg #[.int .i64 0, .int .i64 0, .int .i64 0, .int .i64 0, .int .i64 0, .slice none 0 0]) (wn rfl) rfl rfl (y_build (vs := []) rfl trivial (by kernel_rfl)) ?_))))))
    refine wL_val (v := .agg #[.int .i64 0, .int .i64 0, .int .i64 0, .int .i64 0]) (wn rfl) rfl rfl (y_build (vs := []) rfl trivial (by kernel_rfl)) ?_
    refine wL_val (wn rfl) rfl rfl (y_move rfl rfl) ?_
    refine wL_st (fs' := [_, _, _, _, _]) 1 S18 (wn rfl) rfl rfl rfl rfl rfl rfl inf108 rfl (oneAll rfl) (Nat.le_of_ble_eq_true rfl) (setAll_all rfl) rfl ?_; intro w21 S22; clear S18
    refine wL_st (fs' := [_, _, _, _, _]) 0 S22 (wn rfl) rfl rfl rfl rfl rfl rfl inf93 rfl (oneAll rfl) (Nat.le_of_ble_eq_true rfl) (setAll_all rfl) rfl ?_; intro w23 S24; clear S22
    refine wL_val (wn rfl) rfl rfl (y_assign rfl rfl) ?_
    refine wL_val (wn rfl) rfl rfl (y_assign rfl rfl) ?_
    refine wL_nil (wQ_sub (l' := [(4, _), (5, _), (6, _), (7, _)]) ⟨rfl, rfl, rfl, rfl, trivial⟩ (wQ_then (wC_ret (wQ_then_ret (wQ_post (rs := [.cell 4 108, .cell 5 93, .tmp 6, .tmp 7]) (vs := [.agg #[.int .i64 0, .int .i64 0, .int .i64 0, .int .i64 0, .int .i64 0, .slice none 0 0], .agg #[.int .i64 0, .int .i64 0, .int .i64 0, .int .i64 0], .bool false, .int .i64 3]) rfl ⟨⟨_, rfl, res_row 1 S24 rfl Try.underlying108 rfl inf108⟩, ⟨_, rfl, res_row 0 S24 rfl Try.underlying93 rfl inf93⟩, rfl, rfl, trivial⟩ ?_)))))
    have S25 : St w.heap.size w w23 [] := (St.del 0 (St.del 1 (St.del 2 (St.del 3 (St.del 4 S24))))); clear S24
    rw [show serveM ⟨ro, ep, fr, tg, rd, l⟩ x = (⟨0, 0, 0, 0, 0, []⟩, ⟨0, 0, 0, 0⟩, false, 3) from by unfold serveM; (try dsimp only); (repeat' (first | rfl | omega | split)) <;> (simp only [Prod.mk.injEq, Brt.mk.injEq, and_true, true_and, and_self]; omega)]
    exact ⟨none, 0, rfl, rdo_nil S25⟩
   ·refine wL_val (v := .bool false) (wg rfl rfl rfl rfl) rfl rfl (y_binop rfl rfl rfl (r_eql_f hk4)) ?_
    refine wL_val (wn rfl) rfl rfl (y_pick_t rfl rfl rfl) ?_
    refine wL_nil (wQ_sub (l' := [(2, _), (3, _), (4, _), (5, _), (6, _), (7, _), (8, _), (28, _)]) ⟨rfl, rfl, rfl, rfl, rfl, rfl, rfl, rfl, trivial⟩ (wQ_then (wC_cond_f rfl (wC_skip (wQ_then (wC_seq (wC_seq (wC_region (wL_val (wn rfl) rfl rfl (y_move rfl rfl) ?_)))))))))
    refine wL_val (v := .bool false) (wn rfl) rfl rfl (y_binop rfl rfl rfl (r_neq_f h20)) ?_
    refine wL_nil (wQ_sub (l' := [(2, _), (3, _), (4, _), (5, _), (6, _), (7, _), (8, _), (30, _)]) ⟨rfl, rfl, rfl, rfl, rfl, rfl, rfl, rfl, trivial⟩ (wQ_then (wC_cond_f rfl (wC_skip (wQ_then (wC_seq (wC_region (wL_val (wn rfl) rfl rfl (y_load rfl rfl (r_load_row 3 S18 rfl Try.underlying108 rfl inf108 rfl)) ?_))))))))
    refine wL_call (vs := [.agg #[.int .i64 ro, .int .i64 ep, .int .i64 fr, .int .i64 tg, .int .i64 rd, .slice A l.length c]]) (wn rfl) rfl rfl (e_call (vs := [.agg #[.int .i64 ro, .int .i64 ep, .int .i64 fr, .int .i64 tg, .int .i64 rd, .slice A l.length c]]) rfl en156 ⟨rfl, trivial⟩) (BerthCopy_calls ro ep fr tg rd A c l _ (St.rd 4 S18 rfl) hb) ?_
    rintro _ w28 ⟨A26, c27, rfl, T30⟩
    refine ⟨_, rfl, ?_⟩
    have S29 := S18.ext T30 rfl; clear T30 S18
    change St _ _ _ [.own 37 6 (.slice A26 l.length c27) l.length ((l).flatMap Ev.cells), _, _, _, _, _] at S29
    refine wL_new (V := fun b => .pointer (some ⟨b, 0, none⟩)) (row := #[.int .i64 0, .int .i64 0, .int .i64 0, .int .i64 0, .int .i64 0, .slice none 0 0]) (t := 108) S29 (wn rfl) rfl rfl (d_alloc rfl (Try.zeroValue108 _) rfl) ?_; intro b31 w32 S33; clear S29
    refine wL_st (fs' := [_, _, _, _, _, _, _]) 0 S33 (wn rfl) rfl rfl rfl rfl rfl rfl inf108 rfl (oneAll rfl) (Nat.le_of_ble_eq_true rfl) (setAll_all rfl) rfl ?_; intro w34 S35; clear S33
    refine wL_nil (wQ_sub (l' := [(2, _), (3, _), (4, _), (5, _), (6, _), (7, _), (9, _)]) ⟨rfl, rfl, rfl, rfl, rfl, rfl, rfl, trivial⟩ (wQ_then (wC_seq (wC_seq (wC_region (wL_val (v := .pointer (some ⟨b1, 0, none⟩)) (wn rfl) rfl rfl (y_fieldAddr rfl rfl (fa108_0 _ _ _)) ?_))))))
    refine wL_val (wn rfl) rfl rfl (y_load rfl rfl (r_load Try.underlying3 rfl (St.cl 5 S35 rfl rfl))) ?_
    by_cases h36 : ro = 3
    ·refine wL_val (v := .bool true) (wn rfl) rfl rfl (y_binop rfl rfl rfl (r_eql_t h36)) ?_
     refine wL_nil (wQ_sub (l' := [(2, _), (3, _), (4, _), (5, _), (6, _), (7, _), (9, _), (38, _)]) ⟨rfl, rfl, rfl, rfl, rfl, rfl, rfl, rfl, trivial⟩ (wQ_then (wC_cond_t rfl (wC_seq (wC_region (wL_val (wn rfl) rfl rfl (y_load rfl rfl (r_load_row 0 S35 rfl Try.underlying108 rfl inf108 rfl)) ?_))))))
     refine wL_val (v := .agg #[.int .i64 12, .int .i64 0, .int .i64 0, .int .i64 0]) (wn rfl) rfl rfl (y_build (vs := [(0, .int .i64 12)]) rfl ⟨rfl, rfl, trivial⟩ (by kernel_rfl)) ?_
     refine wL_st (fs' := [_, _, _, _, _, _, _]) 3 S35 (wn rfl) rfl rfl rfl rfl rfl rfl inf108 rfl (oneAll rfl) (Nat.le_of_ble_eq_true rfl) (setAll_all rfl) rfl ?_; intro w37 S38; clear S35
     refine wL_st (fs' := [_, _, _, _, _, _, _]) 2 S38 (wn rfl) rfl rfl rfl rfl rfl rfl inf93 rfl (oneAll rfl) (Nat.le_of_ble_eq_true rfl) (setAll_all rfl) rfl ?_; intro w39 S40; clear S38
     refine wL_val (wn rfl) rfl rfl (y_assign rfl rfl) ?_
     refine wL_val (wn rfl) rfl rfl (y_assign rfl rfl) ?_
     refine wL_nil (wQ_sub (l' := [(4, _), (5, _), (6, _), (7, _)]) ⟨rfl, rfl, rfl, rfl, trivial⟩ (wQ_then (wC_ret (wQ_then_ret (wQ_post (rs := [.cell 4 108, .cell 5 93, .tmp 6, .tmp 7]) (vs := [.agg #[.int .i64 ro, .int .i64 ep, .int .i64 fr, .int .i64 tg, .int .i64 rd, .slice A26 l.length c27], .agg #[.int .i64 12, .int .i64 0, .int .i64 0, .int .i64 0], .bool false, .int .i64 0]) rfl ⟨⟨_, rfl, res_row 3 S40 rfl Try.underlying108 rfl inf108⟩, ⟨_, rfl, res_row 2 S40 rfl Try.underlying93 rfl inf93⟩, rfl, rfl, trivial⟩ ?_)))))
     have S41 : St w.heap.size w w39 [_] := (St.del 0 (St.del 2 (St.del 3 (St.del 4 (St.del 5 (St.del 6 S40)))))); clear S40
     have S42 := S41.sealAll 0 rfl; clear S41
     change St _ _ _ [.rdo 6 A26 l.length ((l).flatMap Ev.cells)] at S42
     rw [show serveM ⟨ro, ep, fr, tg, rd, l⟩ x = (⟨ro, ep, fr, tg, rd, l⟩, ⟨12, 0, 0, 0⟩, false, 0) from by unfold serveM; (try dsimp only); (repeat' (first | rfl | omega | split)) <;> (simp only [Prod.mk.injEq, Brt.mk.injEq, and_true, true_and, and_self]; omega)]
     exact ⟨A26, c27, rfl, S42⟩
    ·refine wL_val (v := .bool false) (wn rfl) rfl rfl (y_binop rfl rfl rfl (r_eql_f h36)) ?_
     refine wL_nil (wQ_sub (l' := [(2, _), (3, _), (4, _), (5, _), (6, _), (7, _), (9, _), (38, _)]) ⟨rfl, rfl, rfl, rfl, rfl, rfl, rfl, rfl, trivial⟩ (wQ_then (wC_cond_f rfl (wC_skip (wQ_then (wC_seq (wC_seq (wC_region (wL_val (v := .pointer (some ⟨b1, 0, none⟩)) (wn rfl) rfl rfl (y_fieldAddr rfl rfl (fa108_0 _ _ _)) ?_)))))))))
     refine wL_val (wn rfl) rfl rfl (y_load rfl rfl (r_load Try.underlying3 rfl (St.cl 5 S35 rfl rfl))) ?_
     by_cases h43 : ro = 0
     ·refine wL_val (v := .bool true) (wn rfl) rfl rfl (y_binop rfl rfl rfl (r_eql_t h43)) ?_
      refine wL_val (wn rfl) rfl rfl (y_move rfl rfl) ?_
      refine wL_skip (wg rfl rfl rfl rfl) rfl rfl ?_
      refine wL_skip (wg rfl rfl rfl rfl) rfl rfl ?_
      refine wL_skip (wg rfl rfl rfl rfl) rfl rfl ?_
      refine wL_val (wn rfl) rfl rfl (y_pick_t rfl rfl rfl) ?_
      refine wL_nil (wQ_sub (l' := [(2, _), (3, _), (4, _), (5, _), (6, _), (7, _), (9, _), (48, _)]) ⟨rfl, rfl, rfl, rfl, rfl, rfl, rfl, rfl, trivial⟩ (wQ_then (wC_cond_t rfl (wC_seq (wC_region (wL_val (wn rfl) rfl rfl (y_load rfl rfl (r_load_row 0 S35 rfl Try.underlying108 rfl inf108 rfl)) ?_))))))
      refine wL_val (v := .agg #[.int .i64 7, .int .i64 0, .int .i64 0, .int .i64 0]) (wn rfl) rfl rfl (y_build (vs := [(0, .int .i64 7)]) rfl ⟨rfl, rfl, trivial⟩ (by kernel_rfl)) ?_
      refine wL_st (fs' := [_, _, _, _, _, _, _]) 3 S35 (wn rfl) rfl rfl rfl rfl rfl rfl inf108 rfl (oneAll rfl) (Nat.le_of_ble_eq_true rfl) (setAll_all rfl) rfl ?_; intro w44 S45; clear S35
      refine wL_st (fs' := [_, _, _, _, _, _, _]) 2 S45 (wn rfl) rfl rfl rfl rfl rfl rfl inf93 rfl (oneAll rfl) (Nat.le_of_ble_eq_true rfl) (setAll_all rfl) rfl ?_; intro w46 S47; clear S45
      refine wL_val (wn rfl) rfl rfl (y_assign rfl rfl) ?_
      refine wL_val (wn rfl) rfl rfl (y_assign rfl rfl) ?_
      refine wL_nil (wQ_sub (l' := [(4, _), (5, _), (6, _), (7, _)]) ⟨rfl, rfl, rfl, rfl, trivial⟩ (wQ_then (wC_ret (wQ_then_ret (wQ_post (rs := [.cell 4 108, .cell 5 93, .tmp 6, .tmp 7]) (vs := [.agg #[.int .i64 ro, .int .i64 ep, .int .i64 fr, .int .i64 tg, .int .i64 rd, .slice A26 l.length c27], .agg #[.int .i64 7, .int .i64 0, .int .i64 0, .int .i64 0], .bool false, .int .i64 0]) rfl ⟨⟨_, rfl, res_row 3 S47 rfl Try.underlying108 rfl inf108⟩, ⟨_, rfl, res_row 2 S47 rfl Try.underlying93 rfl inf93⟩, rfl, rfl, trivial⟩ ?_)))))
      have S48 : St w.heap.size w w46 [_] := (St.del 0 (St.del 2 (St.del 3 (St.del 4 (St.del 5 (St.del 6 S47)))))); clear S47
      have S49 := S48.sealAll 0 rfl; clear S48
      change St _ _ _ [.rdo 6 A26 l.length ((l).flatMap Ev.cells)] at S49
      rw [show serveM ⟨ro, ep, fr, tg, rd, l⟩ x = (⟨ro, ep, fr, tg, rd, l⟩, ⟨7, 0, 0, 0⟩, false, 0) from by unfold serveM; (try dsimp only); (repeat' (first | rfl | omega | split)) <;> (simp only [Prod.mk.injEq, Brt.mk.injEq, and_true, true_and, and_self]; omega)]
      exact ⟨A26, c27, rfl, S49⟩
     ·refine wL_val (v := .bool false) (wn rfl) rfl rfl (y_binop rfl rfl rfl (r_eql_f h43)) ?_
      refine wL_val (wn rfl) rfl rfl (y_move rfl rfl) ?_
      refine wL_val (v := .pointer (some ⟨b1, 0, none⟩)) (wg rfl rfl rfl rfl) rfl rfl (y_fieldAddr rfl rfl (fa108_0 _ _ _)) ?_
      refine wL_val (wg rfl rfl rfl rfl) rfl rfl (y_load rfl rfl (r_load Try.underlying3 rfl (St.cl 5 S35 rfl rfl))) ?_
      by_cases h50 : ro = 4
      ·refine wL_val (v := .bool true) (wg rfl rfl rfl rfl) rfl rfl (y_binop rfl rfl rfl (r_eql_t h50)) ?_
       refine wL_val (wn rfl) rfl rfl (y_pick_f rfl rfl rfl) ?_
       refine wL_nil (wQ_sub (l' := [(2, _), (3, _), (4, _), (5, _), (6, _), (7, _), (9, _), (48, _)]) ⟨rfl, rfl, rfl, rfl, rfl, rfl, rfl, rfl, trivial⟩ (wQ_then (wC_cond_t rfl (wC_seq (wC_region (wL_val (wn rfl) rfl rfl (y_load rfl rfl (r_load_row 0 S35 rfl Try.underlying108 rfl inf108 rfl)) ?_))))))
       refine wL_val (v := .agg #[.int .i64 7, .int .i64 0, .int .i64 0, .int .i64 0]) (wn rfl) rfl rfl (y_build (vs := [(0, .int .i64 7)]) rfl ⟨rfl, rfl, trivial⟩ (by kernel_rfl)) ?_
       refine wL_st (fs' := [_, _, _, _, _, _, _]) 3 S35 (wn rfl) rfl rfl rfl rfl rfl rfl inf108 rfl (oneAll rfl) (Nat.le_of_ble_eq_true rfl) (setAll_all rfl) rfl ?_; intro w51 S52; clear S35
       refine wL_st (fs' := [_, _, _, _, _, _, _]) 2 S52 (wn rfl) rfl rfl rfl rfl rfl rfl inf93 rfl (oneAll rfl) (Nat.le_of_ble_eq_true rfl) (setAll_all rfl) rfl ?_; intro w53 S54; clear S52
       refine wL_val (wn rfl) rfl rfl (y_assign rfl rfl) ?_
       refine wL_val (wn rfl) rfl rfl (y_assign rfl rfl) ?_
       refine wL_nil (wQ_sub (l' := [(4, _), (5, _), (6, _), (7, _)]) ⟨rfl, rfl, rfl, rfl, trivial⟩ (wQ_then (wC_ret (wQ_then_ret (wQ_post (rs := [.cell 4 108, .cell 5 93, .tmp 6, .tmp 7]) (vs := [.agg #[.int .i64 ro, .int .i64 ep, .int .i64 fr, .int .i64 tg, .int .i64 rd, .slice A26 l.length c27], .agg #[.int .i64 7, .int .i64 0, .int .i64 0, .int .i64 0], .bool false, .int .i64 0]) rfl ⟨⟨_, rfl, res_row 3 S54 rfl Try.underlying108 rfl inf108⟩, ⟨_, rfl, res_row 2 S54 rfl Try.underlying93 rfl inf93⟩, rfl, rfl, trivial⟩ ?_)))))
       have S55 : St w.heap.size w w53 [_] := (St.del 0 (St.del 2 (St.del 3 (St.del 4 (St.del 5 (St.del 6 S54)))))); clear S54
       have S56 := S55.sealAll 0 rfl; clear S55
       change St _ _ _ [.rdo 6 A26 l.length ((l).flatMap Ev.cells)] at S56
       rw [show serveM ⟨ro, ep, fr, tg, rd, l⟩ x = (⟨ro, ep, fr, tg, rd, l⟩, ⟨7, 0, 0, 0⟩, false, 0) from by unfold serveM; (try dsimp only); (repeat' (first | rfl | omega | split)) <;> (simp only [Prod.mk.injEq, Brt.mk.injEq, and_true, true_and, and_self]; omega)]
       exact ⟨A26, c27, rfl, S56⟩
      ·refine wL_val (v := .bool false) (wg rfl rfl rfl rfl) rfl rfl (y_binop rfl rfl rfl (r_eql_f h50)) ?_
       refine wL_val (wn rfl) rfl rfl (y_pick_f rfl rfl rfl) ?_
       refine wL_nil (wQ_sub (l' := [(2, _), (3, _), (4, _), (5, _), (6, _), (7, _), (9, _), (48, _)]) ⟨rfl, rfl, rfl, rfl, rfl, rfl, rfl, rfl, trivial⟩ (wQ_then (wC_cond_f rfl (wC_skip (wQ_then (wC_seq (wC_region (wL_val (v := .pointer (some ⟨b1, 5, none⟩)) (wn rfl) rfl rfl (y_fieldAddr rfl rfl (fa108_5 _ _ _)) ?_))))))))
       refine wL_val (wn rfl) rfl rfl (y_load rfl rfl (r_load Try.underlying57 rfl (St.cl 5 S35 rfl rfl))) ?_
       refine wL_call (vs := [.slice A l.length c]) (wn rfl) rfl rfl (e_call (vs := [.slice A l.length c]) rfl en71 ⟨rfl, trivial⟩) (Replayed_calls A c l _ (St.rd 6 S35 rfl) (by omega)) ?_
       rintro _ w61 ⟨A57, c58, A59, c60, rfl, T63⟩
       refine ⟨_, rfl, ?_⟩
       have S62 := S35.ext T63 rfl; clear T63 S35
       change St _ _ _ [.rdo 2 A57 ((tellM l).1.ready.length) (((tellM l).1.ready).flatMap Msg.cells), .rdo 4 A59 ((tellM l).1.leases.length) (((tellM l).1.leases).flatMap Ls.cells), _, _, _, _, _, _, _] at S62
       refine wL_val (wn rfl) rfl rfl (y_move rfl rfl) ?_
       refine wL_val (wn rfl) rfl rfl (y_extract rfl rfl rfl) ?_
       refine wL_val (wn rfl) rfl rfl (y_extract rfl rfl rfl) ?_
       refine wL_new (V := fun b => .pointer (some ⟨b, 0, none⟩)) (row := qRow 0 0 0 (.slice none 0 0) (.slice none 0 0) zeroWs) (t := 29) S62 (wn rfl) rfl rfl (d_alloc rfl (Try.zeroValue29 _) rfl) ?_; intro b64 w65 S66; clear S62
       refine wL_st (fs' := [_, _, _, _, _, _, _, _, _, _]) 0 S66 (wn rfl) rfl rfl rfl rfl rfl rfl inf29 rfl (qRow_one rfl rfl) (Nat.le_of_ble_eq_true rfl) (setAll_all rfl) rfl ?_; intro w67 S68; clear S66
       refine wL_val (wn rfl) rfl rfl (y_assign rfl rfl) ?_
       refine wL_nil (wQ_sub (l' := [(2, _), (3, _), (4, _), (5, _), (6, _), (7, _), (9, _), (10, _)]) ⟨rfl, rfl, rfl, rfl, rfl, rfl, rfl, rfl, trivial⟩ (wQ_then (wC_seq (wC_region (wL_val (wn rfl) rfl rfl (y_load rfl rfl (r_load_row 0 S68 rfl Try.underlying29 rfl inf29 rfl)) ?_)))))
       refine wL_val (wn rfl) rfl rfl (y_load rfl rfl (r_load_row 7 S68 rfl Try.underlying37 rfl inf37 rfl)) ?_
       obtain ⟨R, hR⟩ : ∃ R, doM (tellM l).1 x = R := ⟨_, rfl⟩
       have hql := tellM_qlen (l := l)
       have HD := fun A1 A2 c1 c2 w h1 h2 => QueueDone_calls (tellM l).1.ep (tellM l).1.nx (tellM l).1.gv x.kind x.producer x.id x.body x.hepoch x.hno A1 A2 c1 c2 (tellM l).1.ready (tellM l).1.leases (tellM l).1.ws w h1 h2 (by unfold reachBytes; omega) (by unfold reachBytes; omega)
       rw [show doM ⟨(tellM l).1.ep, (tellM l).1.nx, (tellM l).1.gv, (tellM l).1.ready, (tellM l).1.leases, (tellM l).1.ws⟩ ⟨x.kind, x.producer, x.id, x.body, x.hepoch, x.hno⟩ = R from hR] at HD
       refine wL_call (vs := [.agg (qRow ((tellM l).1.ep) ((tellM l).1.nx) ((tellM l).1.gv) (.slice A57 ((tellM l).1.ready.length) c58) (.slice A59 ((tellM l).1.leases.length) c60) ((tellM l).1.ws)), .agg #[.int .i64 x.kind, .int .i64 x.producer, .int .i64 x.id, .int .i64 x.body, .int .i64 x.hepoch, .int .i64 x.hno]]) (wn rfl) rfl rfl (e_call (vs := [.agg (qRow ((tellM l).1.ep) ((tellM l).1.nx) ((tellM l).1.gv) (.slice A57 ((tellM l).1.ready.length) c58) (.slice A59 ((tellM l).1.leases.length) c60) ((tellM l).1.ws)), .agg #[.int .i64 x.kind, .int .i64 x.producer, .int .i64 x.id, .int .i64 x.body, .int .i64 x.hepoch, .int .i64 x.hno]]) rfl en67 ⟨rfl, rfl, trivial⟩) (HD A57 A59 c58 c60 _ (St.rdo 1 S68 rfl) (St.rdo 2 S68 rfl)) ?_
       rintro _ w73 ⟨A69, c70, A71, c72, rfl, T75⟩
       refine ⟨_, rfl, ?_⟩
       have S74 := S68.ext T75 rfl; clear T75 S68
       change St _ _ _ [.rdo 2 A69 R.1.ready.length ((R.1.ready).flatMap Msg.cells), .rdo 4 A71 R.1.leases.length ((R.1.leases).flatMap Ls.cells), _, _, _, _, _, _, _, _, _, _] at S74; clear HD
       refine wL_val (wn rfl) rfl rfl (y_move rfl rfl) ?_
       refine wL_val (wn rfl) rfl rfl (y_extract rfl rfl rfl) ?_
       refine wL_val (wn rfl) rfl rfl (y_extract rfl rfl rfl) ?_
       refine wL_val (wn rfl) rfl rfl (y_extract rfl rfl rfl) ?_
       refine wL_val (wn rfl) rfl rfl (y_extract rfl rfl rfl) ?_
       refine wL_new (V := fun b => .pointer (some ⟨b, 0, none⟩)) (row := qRow 0 0 0 (.slice none 0 0) (.slice none 0 0) zeroWs) (t := 29) S74 (wn rfl) rfl rfl (d_alloc rfl (Try.zeroValue29 _) rfl) ?_; intro b76 w77 S78; clear S74
       refine wL_new (V := fun b => .pointer (some ⟨b, 0, none⟩)) (row := #[.int .i64 0, .int .i64 0, .int .i64 0, .int .i64 0]) (t := 93) S78 (wn rfl) rfl rfl (d_alloc rfl (Try.zeroValue93 _) rfl) ?_; intro b79 w80 S81; clear S78
       refine wL_st (fs' := [_, _, _, _, _, _, _, _, _, _, _, _, _, _]) 1 S81 (wn rfl) rfl rfl rfl rfl rfl rfl inf29 rfl (qRow_one rfl rfl) (Nat.le_of_ble_eq_true rfl) (setAll_all rfl) rfl ?_; intro w82 S83; clear S81
       refine wL_st (fs' := [_, _, _, _, _, _, _, _, _, _, _, _, _, _]) 0 S83 (wn rfl) rfl rfl rfl rfl rfl rfl inf93 rfl (oneAll rfl) (Nat.le_of_ble_eq_true rfl) (setAll_all rfl) rfl ?_; intro w84 S85; clear S83
       refine wL_val (wn rfl) rfl rfl (y_assign rfl rfl) ?_
       refine wL_val (wn rfl) rfl rfl (y_assign rfl rfl) ?_
       refine wL_nil (wQ_sub (l' := [(2, _), (3, _), (4, _), (5, _), (6, _), (7, _), (9, _), (13, _), (14, _)]) ⟨rfl, rfl, rfl, rfl, rfl, rfl, rfl, rfl, rfl, trivial⟩ (wQ_then (wC_seq (wC_seq (wC_region (wL_val (wn rfl) rfl rfl (y_move rfl rfl) ?_))))))
       cases hch : R.2.2.1
       ·refine wL_val (v := .bool false) (wn rfl) rfl rfl (y_move rfl rfl) ?_
        refine wL_skip (wg rfl rfl rfl rfl) rfl rfl ?_
        refine wL_skip (wg rfl rfl rfl rfl) rfl rfl ?_
        refine wL_skip (wg rfl rfl rfl rfl) rfl rfl ?_
        refine wL_skip (wg rfl rfl rfl rfl) rfl rfl ?_
        refine wL_skip (wg rfl rfl rfl rfl) rfl rfl ?_
        refine wL_val (wn rfl) rfl rfl (y_pick_f rfl rfl rfl) ?_
        refine wL_nil (wQ_sub (l' := [(3, _), (4, _), (5, _), (6, _), (7, _), (9, _), (13, _), (14, _), (72, _)]) ⟨rfl, rfl, rfl, rfl, rfl, rfl, rfl, rfl, rfl, trivial⟩ (wQ_then (wC_cond_f rfl (wC_skip (wQ_then (wC_seq (wC_seq (wC_region (wL_val (wn rfl) rfl rfl (y_move rfl rfl) ?_)))))))))
        refine wL_nil (wQ_sub (l' := [(3, _), (4, _), (5, _), (6, _), (7, _), (9, _), (13, _), (14, _), (75, _)]) ⟨rfl, rfl, rfl, rfl, rfl, rfl, rfl, rfl, rfl, trivial⟩ (wQ_then (wC_cond_f rfl (wC_skip (wQ_then (wC_seq ?_))))))
        have S86 := S85.drew; clear S85
        refine wC_any_ (C := fun w' => St w.heap.size w w' [.blk b79 #[.int .i64 R.2.1.code, .int .i64 R.2.1.hep, .int .i64 R.2.1.hno, .int .i64 R.2.1.body] 93, .blk b76 (qRow R.1.ep R.1.nx R.1.gv (.slice A69 R.1.ready.length c70) (.slice A71 R.1.leases.length c72) R.1.ws) 29, .rdo 2 A69 R.1.ready.length ((R.1.ready).flatMap Msg.cells), .rdo 4 A71 R.1.leases.length ((R.1.leases).flatMap Ls.cells), .blk b64 (qRow ((tellM l).1.ep) ((tellM l).1.nx) ((tellM l).1.gv) (.slice A57 ((tellM l).1.ready.length) c58) (.slice A59 ((tellM l).1.leases.length) c60) ((tellM l).1.ws)) 29, .rdo 2 A57 ((tellM l).1.ready.length) (((tellM l).1.ready).flatMap Msg.cells), .rdo 4 A59 ((tellM l).1.leases.length) (((tellM l).1.leases).flatMap Ls.cells), .blk b31 #[.int .i64 ro, .int .i64 ep, .int .i64 fr, .int .i64 tg, .int .i64 rd, .slice A26 l.length c27] 108, .own 37 6 (.slice A26 l.length c27) l.length ((l).flatMap Ev.cells), .blk b4 #[.int .i64 x.kind, .int .i64 x.producer, .int .i64 x.id, .int .i64 x.body, .int .i64 x.hepoch, .int .i64 x.hno] 37, .blk b1 #[.int .i64 ro, .int .i64 ep, .int .i64 fr, .int .i64 tg, .int .i64 rd, .slice A l.length c] 108, .rd 6 A l.length ((l).flatMap Ev.cells)]) (n := 7) (listed := #[false, false, false, false, false, false, false]) mixed rfl rfl ?_
        refine wA_take (v := .agg #[.int .i64 ro, .int .i64 ep, .int .i64 fr, .int .i64 tg, .int .i64 rd, .slice A26 l.length c27]) (i := 0) (n := 6) (listed' := #[true, false, false, false, false, false, false]) rfl (by kernel_rfl) (by kernel_rfl) (by kernel_rfl) (St.del 9 (St.del 10 S86)) rfl (wn rfl) rfl rfl (fun _ Sx87 => (y_load rfl rfl (r_load_row 7 Sx87 rfl Try.underlying108 rfl inf108 rfl))) ?_
        refine wA_take (v := .agg #[.int .i64 R.2.1.code, .int .i64 R.2.1.hep, .int .i64 R.2.1.hno, .int .i64 R.2.1.body]) (i := 1) (n := 5) (listed' := #[true, true, false, false, false, false, false]) rfl (by kernel_rfl) (by kernel_rfl) (by kernel_rfl) (St.del 9 (St.del 10 S86)) rfl (wn rfl) rfl rfl (fun _ Sx88 => (y_load rfl rfl (r_load_row 0 Sx88 rfl Try.underlying93 rfl inf93 rfl))) ?_
        refine wA_take (v := .bool false) (i := 2) (n := 4) (listed' := #[true, true, true, false, false, false, false]) rfl (by kernel_rfl) (by kernel_rfl) (by kernel_rfl) (St.del 9 (St.del 10 S86)) rfl (wn rfl) rfl rfl (fun _ _ => (y_move rfl rfl)) ?_
        refine wA_one (n := 3) (r := 3) (by kernel_rfl) ?_
        refine wN_st (i := 3) (listed' := #[true, true, true, true, false, false, false]) rfl rfl (fs' := [_, _, _, _, _, _, _, _, _, _, _, _, _, _]) 10 S86 (wn rfl) rfl rfl rfl rfl rfl rfl inf108 rfl (oneAll rfl) (Nat.le_of_ble_eq_true rfl) (setAll_all rfl) rfl ?_; intro w90 S91; clear S86
        refine ⟨(St.del 9 (St.del 10 S91)), ?_⟩
        refine wA_one (n := 2) (r := 4) (by kernel_rfl) ?_
        refine wN_st (i := 4) (listed' := #[true, true, true, true, true, false, false]) rfl rfl (fs' := [_, _, _, _, _, _, _, _, _, _, _, _, _, _]) 9 S91 (wn rfl) rfl rfl rfl rfl rfl rfl inf93 rfl (oneAll rfl) (Nat.le_of_ble_eq_true rfl) (setAll_all rfl) rfl ?_; intro w92 S93; clear S91
        refine ⟨(St.del 9 (St.del 10 S93)), ?_⟩
        refine wA_take (v := .bool false) (i := 5) (n := 1) (listed' := #[true, true, true, true, true, true, false]) rfl (by kernel_rfl) (by kernel_rfl) (by kernel_rfl) (St.del 9 (St.del 10 S93)) rfl (wn rfl) rfl rfl (fun _ _ => (y_assign rfl rfl)) ?_
        refine wA_take (v := .int .i64 0) (i := 6) (n := 0) (listed' := #[true, true, true, true, true, true, true]) rfl (by kernel_rfl) (by kernel_rfl) (by kernel_rfl) (St.del 9 (St.del 10 S93)) rfl (wn rfl) rfl rfl (fun _ _ => (y_assign rfl rfl)) ?_
        refine wA_done (by kernel_rfl) ?_
        refine wQ_sub (l' := [(4, _), (5, _), (6, _), (7, _)]) ⟨rfl, rfl, rfl, rfl, trivial⟩ (wQ_then (wC_ret (wQ_post (rs := [.cell 4 108, .cell 5 93, .tmp 6, .tmp 7]) (vs := [.agg #[.int .i64 ro, .int .i64 ep, .int .i64 fr, .int .i64 tg, .int .i64 rd, .slice A26 l.length c27], .agg #[.int .i64 R.2.1.code, .int .i64 R.2.1.hep, .int .i64 R.2.1.hno, .int .i64 R.2.1.body], .bool false, .int .i64 0]) rfl ⟨⟨_, rfl, res_row 10 S93 rfl Try.underlying108 rfl inf108⟩, ⟨_, rfl, res_row 9 S93 rfl Try.underlying93 rfl inf93⟩, rfl, rfl, trivial⟩ ?_)))
        have S96 : St w.heap.size w w92 [_] := (St.del 0 (St.del 1 (St.del 2 (St.del 3 (St.del 4 (St.del 5 (St.del 6 (St.del 7 (St.del 9 (St.del 10 (St.del 11 (St.del 12 (St.del 13 S93))))))))))))); clear S93
        have S97 := S96.sealAll 0 rfl; clear S96
        change St _ _ _ [.rdo 6 A26 l.length ((l).flatMap Ev.cells)] at S97
        rw [serve_go (b := ⟨ro, ep, fr, tg, rd, l⟩) (e := x) h16 h20 hk4 (by dsimp only; omega), hR]
        rw [if_pos hch]
        refine ⟨A26, c27, ?_, S97⟩
        first | rfl | (rw [hch]; rfl)
       ·refine wL_val (wn rfl) rfl rfl (y_move rfl rfl) ?_
        refine wL_val (v := .pointer (some ⟨b1, 5, none⟩)) (wg rfl rfl rfl rfl) rfl rfl (y_fieldAddr rfl rfl (fa108_5 _ _ _)) ?_
        refine wL_val (wg rfl rfl rfl rfl) rfl rfl (y_load rfl rfl (r_load Try.underlying57 rfl (St.cl 12 S85 rfl rfl))) ?_
        refine wL_val (v := .int .i64 ((l.length : Nat) : Int)) (wg rfl rfl rfl rfl) rfl rfl (y_builtin (vs := [.slice A l.length c]) rfl ⟨rfl, trivial⟩ fun _ => r_len rfl Try.underlying57) ?_
        refine wL_val (v := .int .i64 ((l.length + 2 : Nat) : Int)) (wg rfl rfl rfl rfl) rfl rfl (y_binop rfl rfl rfl (r_add (by omega) (by omega))) ?_
        by_cases hful : 1999 ≤ l.length
        ·refine wL_val (v := .bool true) (wg rfl rfl rfl rfl) rfl rfl (y_binop rfl rfl rfl (r_gtr_t (by omega))) ?_
         refine wL_val (wn rfl) rfl rfl (y_pick_t rfl rfl rfl) ?_
         refine wL_nil (wQ_sub (l' := [(3, _), (4, _), (5, _), (6, _), (7, _), (9, _), (13, _), (14, _), (72, _)]) ⟨rfl, rfl, rfl, rfl, rfl, rfl, rfl, rfl, rfl, trivial⟩ (wQ_then (wC_cond_t rfl (wC_seq (wC_region (wL_val (wn rfl) rfl rfl (y_load rfl rfl (r_load_row 7 S85 rfl Try.underlying108 rfl inf108 rfl)) ?_))))))
         refine wL_val (v := .agg #[.int .i64 14, .int .i64 0, .int .i64 0, .int .i64 0]) (wn rfl) rfl rfl (y_build (vs := [(0, .int .i64 14)]) rfl ⟨rfl, rfl, trivial⟩ (by kernel_rfl)) ?_
         refine wL_st (fs' := [_, _, _, _, _, _, _, _, _, _, _, _, _, _]) 10 S85 (wn rfl) rfl rfl rfl rfl rfl rfl inf108 rfl (oneAll rfl) (Nat.le_of_ble_eq_true rfl) (setAll_all rfl) rfl ?_; intro w98 S99; clear S85
         refine wL_st (fs' := [_, _, _, _, _, _, _, _, _, _, _, _, _, _]) 9 S99 (wn rfl) rfl rfl rfl rfl rfl rfl inf93 rfl (oneAll rfl) (Nat.le_of_ble_eq_true rfl) (setAll_all rfl) rfl ?_; intro w100 S101; clear S99
         refine wL_val (wn rfl) rfl rfl (y_assign rfl rfl) ?_
         refine wL_val (wn rfl) rfl rfl (y_assign rfl rfl) ?_
         refine wL_nil (wQ_sub (l' := [(4, _), (5, _), (6, _), (7, _)]) ⟨rfl, rfl, rfl, rfl, trivial⟩ (wQ_then (wC_ret (wQ_then_ret (wQ_post (rs := [.cell 4 108, .cell 5 93, .tmp 6, .tmp 7]) (vs := [.agg #[.int .i64 ro, .int .i64 ep, .int .i64 fr, .int .i64 tg, .int .i64 rd, .slice A26 l.length c27], .agg #[.int .i64 14, .int .i64 0, .int .i64 0, .int .i64 0], .bool false, .int .i64 0]) rfl ⟨⟨_, rfl, res_row 10 S101 rfl Try.underlying108 rfl inf108⟩, ⟨_, rfl, res_row 9 S101 rfl Try.underlying93 rfl inf93⟩, rfl, rfl, trivial⟩ ?_)))))
         have S102 : St w.heap.size w w100 [_] := (St.del 0 (St.del 1 (St.del 2 (St.del 3 (St.del 4 (St.del 5 (St.del 6 (St.del 7 (St.del 9 (St.del 10 (St.del 11 (St.del 12 (St.del 13 S101))))))))))))); clear S101
         have S103 := S102.sealAll 0 rfl; clear S102
         change St _ _ _ [.rdo 6 A26 l.length ((l).flatMap Ev.cells)] at S103
         rw [serve_go (b := ⟨ro, ep, fr, tg, rd, l⟩) (e := x) h16 h20 hk4 (by dsimp only; omega), hR]
         rw [if_neg (by rw [hch]; simp), if_pos hful]
         refine ⟨A26, c27, ?_, S103⟩
         first | rfl | (rw [hch]; rfl)
        ·refine wL_val (v := .bool false) (wg rfl rfl rfl rfl) rfl rfl (y_binop rfl rfl rfl (r_gtr_f (by omega))) ?_
         refine wL_val (wn rfl) rfl rfl (y_pick_t rfl rfl rfl) ?_
         refine wL_nil (wQ_sub (l' := [(3, _), (4, _), (5, _), (6, _), (7, _), (9, _), (13, _), (14, _), (72, _)]) ⟨rfl, rfl, rfl, rfl, rfl, rfl, rfl, rfl, rfl, trivial⟩ (wQ_then (wC_cond_f rfl (wC_skip (wQ_then (wC_seq (wC_seq (wC_region (wL_val (wn rfl) rfl rfl (y_move rfl rfl) ?_)))))))))
         refine wL_nil (wQ_sub (l' := [(3, _), (4, _), (5, _), (6, _), (7, _), (9, _), (13, _), (14, _), (75, _)]) ⟨rfl, rfl, rfl, rfl, rfl, rfl, rfl, rfl, rfl, trivial⟩ (wQ_then (wC_cond_t rfl (wC_region (wL_val (v := .pointer (some ⟨b31, 5, none⟩)) (wn rfl) rfl rfl (y_fieldAddr rfl rfl (fa108_5 _ _ _)) ?_)))))
         refine wL_val (wn rfl) rfl rfl (y_load rfl rfl (r_load Try.underlying57 rfl (St.cl 7 S85 rfl rfl))) ?_
         refine wL_val (wn rfl) rfl rfl (y_load rfl rfl (r_load_row 11 S85 rfl Try.underlying37 rfl inf37 rfl)) ?_
         refine wL_new (V := fun b => .slice (some ⟨b, 0, none⟩) 1 1) (row := #[.int .i64 x.kind, .int .i64 x.producer, .int .i64 x.id, .int .i64 x.body, .int .i64 x.hepoch, .int .i64 x.hno]) (t := 37) S85 (wn rfl) rfl rfl (d_buildSlice (vs := [(0, .agg #[.int .i64 x.kind, .int .i64 x.producer, .int .i64 x.id, .int .i64 x.body, .int .i64 x.hepoch, .int .i64 x.hno])]) rfl ⟨rfl, rfl, trivial⟩ (by kernel_rfl)) ?_; intro b104 w105 S106; clear S85
         refine wL_append (news := [.int .i64 x.kind, .int .i64 x.producer, .int .i64 x.id, .int .i64 x.body, .int .i64 x.hepoch, .int .i64 x.hno]) (xs' := (l ++ [x]).flatMap Ev.cells) 9 S106 (wn rfl) rfl rfl rfl rfl rfl rfl (St.bld (xs := [.int .i64 x.kind, .int .i64 x.producer, .int .i64 x.id, .int .i64 x.body, .int .i64 x.hepoch, .int .i64 x.hno]) 0 S106 rfl rfl rfl) Try.underlying57 infz37 rfl (by decide) (oneAll rfl) (by simp only [maxLen]; omega) (by omega) (fm_snoc (enc := Ev.cells) rfl rfl) ?_; intro A107 c108 w109 hc111 hm112 S110; clear S106
         change St _ _ _ [_, _, _, _, _, _, _, _, _, .own 37 6 (.slice A107 (l.length + 1) c108) (l.length + 1) ((l ++ [x]).flatMap Ev.cells), _, _, _, _, _] at S110
         refine wL_val (v := .pointer (some ⟨b31, 5, none⟩)) (wn rfl) rfl rfl (y_fieldAddr rfl rfl (fa108_5 _ _ _)) ?_
         refine wL_st (cs := #[.slice A107 (l.length + 1) c108]) (row' := #[.int .i64 ro, .int .i64 ep, .int .i64 fr, .int .i64 tg, .int .i64 rd, .slice A107 (l.length + 1) c108]) (fs' := [_, _, _, _, _, _, _, _, .blk b31 #[.int .i64 ro, .int .i64 ep, .int .i64 fr, .int .i64 tg, .int .i64 rd, .slice A107 (l.length + 1) c108] 108, _, _, _, _, _, _]) 8 S110 (wn rfl) rfl rfl rfl rfl rfl rfl inf57 rfl (oneAll rfl) (Nat.le_of_ble_eq_true rfl) rfl rfl ?_; intro w113 S114; clear S110
         refine wL_nil (wQ_sub (l' := [(4, _), (5, _), (6, _), (7, _), (9, _), (13, _), (14, _)]) ⟨rfl, rfl, rfl, rfl, rfl, rfl, rfl, trivial⟩ (wQ_then (wC_seq ?_)))
         have S115 := S114.drew; clear S114
         refine wC_any_ (C := fun w' => St w.heap.size w w' [.blk b104 #[.int .i64 x.kind, .int .i64 x.producer, .int .i64 x.id, .int .i64 x.body, .int .i64 x.hepoch, .int .i64 x.hno] 37, .blk b79 #[.int .i64 R.2.1.code, .int .i64 R.2.1.hep, .int .i64 R.2.1.hno, .int .i64 R.2.1.body] 93, .blk b76 (qRow R.1.ep R.1.nx R.1.gv (.slice A69 R.1.ready.length c70) (.slice A71 R.1.leases.length c72) R.1.ws) 29, .rdo 2 A69 R.1.ready.length ((R.1.ready).flatMap Msg.cells), .rdo 4 A71 R.1.leases.length ((R.1.leases).flatMap Ls.cells), .blk b64 (qRow ((tellM l).1.ep) ((tellM l).1.nx) ((tellM l).1.gv) (.slice A57 ((tellM l).1.ready.length) c58) (.slice A59 ((tellM l).1.leases.length) c60) ((tellM l).1.ws)) 29, .rdo 2 A57 ((tellM l).1.ready.length) (((tellM l).1.ready).flatMap Msg.cells), .rdo 4 A59 ((tellM l).1.leases.length) (((tellM l).1.leases).flatMap Ls.cells), .blk b31 #[.int .i64 ro, .int .i64 ep, .int .i64 fr, .int .i64 tg, .int .i64 rd, .slice A107 (l.length + 1) c108] 108, .own 37 6 (.slice A107 (l.length + 1) c108) (l.length + 1) ((l ++ [x]).flatMap Ev.cells), .blk b4 #[.int .i64 x.kind, .int .i64 x.producer, .int .i64 x.id, .int .i64 x.body, .int .i64 x.hepoch, .int .i64 x.hno] 37, .blk b1 #[.int .i64 ro, .int .i64 ep, .int .i64 fr, .int .i64 tg, .int .i64 rd, .slice A l.length c] 108, .rd 6 A l.length ((l).flatMap Ev.cells)]) (n := 7) (listed := #[false, false, false, false, false, false, false]) mixed rfl rfl ?_
         refine wA_take (v := .agg #[.int .i64 ro, .int .i64 ep, .int .i64 fr, .int .i64 tg, .int .i64 rd, .slice A107 (l.length + 1) c108]) (i := 0) (n := 6) (listed' := #[true, false, false, false, false, false, false]) rfl (by kernel_rfl) (by kernel_rfl) (by kernel_rfl) (St.del 10 (St.del 11 S115)) rfl (wn rfl) rfl rfl (fun _ Sx116 => (y_load rfl rfl (r_load_row 8 Sx116 rfl Try.underlying108 rfl inf108 rfl))) ?_
         refine wA_take (v := .agg #[.int .i64 R.2.1.code, .int .i64 R.2.1.hep, .int .i64 R.2.1.hno, .int .i64 R.2.1.body]) (i := 1) (n := 5) (listed' := #[true, true, false, false, false, false, false]) rfl (by kernel_rfl) (by kernel_rfl) (by kernel_rfl) (St.del 10 (St.del 11 S115)) rfl (wn rfl) rfl rfl (fun _ Sx117 => (y_load rfl rfl (r_load_row 1 Sx117 rfl Try.underlying93 rfl inf93 rfl))) ?_
         refine wA_take (v := .bool true) (i := 2) (n := 4) (listed' := #[true, true, true, false, false, false, false]) rfl (by kernel_rfl) (by kernel_rfl) (by kernel_rfl) (St.del 10 (St.del 11 S115)) rfl (wn rfl) rfl rfl (fun _ _ => (y_move rfl rfl)) ?_
         refine wA_one (n := 3) (r := 3) (by kernel_rfl) ?_
         refine wN_st (i := 3) (listed' := #[true, true, true, true, false, false, false]) rfl rfl (fs' := [_, _, _, _, _, _, _, _, _, _, _, _, _, _, _]) 11 S115 (wn rfl) rfl rfl rfl rfl rfl rfl inf108 rfl (oneAll rfl) (Nat.le_of_ble_eq_true rfl) (setAll_all rfl) rfl ?_; intro w119 S120; clear S115
         refine ⟨(St.del 10 (St.del 11 S120)), ?_⟩
         refine wA_one (n := 2) (r := 4) (by kernel_rfl) ?_
         refine wN_st (i := 4) (listed' := #[true, true, true, true, true, false, false]) rfl rfl (fs' := [_, _, _, _, _, _, _, _, _, _, _, _, _, _, _]) 10 S120 (wn rfl) rfl rfl rfl rfl rfl rfl inf93 rfl (oneAll rfl) (Nat.le_of_ble_eq_true rfl) (setAll_all rfl) rfl ?_; intro w121 S122; clear S120
         refine ⟨(St.del 10 (St.del 11 S122)), ?_⟩
         refine wA_take (v := .bool true) (i := 5) (n := 1) (listed' := #[true, true, true, true, true, true, false]) rfl (by kernel_rfl) (by kernel_rfl) (by kernel_rfl) (St.del 10 (St.del 11 S122)) rfl (wn rfl) rfl rfl (fun _ _ => (y_assign rfl rfl)) ?_
         refine wA_take (v := .int .i64 0) (i := 6) (n := 0) (listed' := #[true, true, true, true, true, true, true]) rfl (by kernel_rfl) (by kernel_rfl) (by kernel_rfl) (St.del 10 (St.del 11 S122)) rfl (wn rfl) rfl rfl (fun _ _ => (y_assign rfl rfl)) ?_
         refine wA_done (by kernel_rfl) ?_
         refine wQ_sub (l' := [(4, _), (5, _), (6, _), (7, _)]) ⟨rfl, rfl, rfl, rfl, trivial⟩ (wQ_then (wC_ret (wQ_post (rs := [.cell 4 108, .cell 5 93, .tmp 6, .tmp 7]) (vs := [.agg #[.int .i64 ro, .int .i64 ep, .int .i64 fr, .int .i64 tg, .int .i64 rd, .slice A107 (l.length + 1) c108], .agg #[.int .i64 R.2.1.code, .int .i64 R.2.1.hep, .int .i64 R.2.1.hno, .int .i64 R.2.1.body], .bool true, .int .i64 0]) rfl ⟨⟨_, rfl, res_row 11 S122 rfl Try.underlying108 rfl inf108⟩, ⟨_, rfl, res_row 10 S122 rfl Try.underlying93 rfl inf93⟩, rfl, rfl, trivial⟩ ?_)))
         have S125 : St w.heap.size w w121 [_] := (St.del 0 (St.del 1 (St.del 2 (St.del 3 (St.del 4 (St.del 5 (St.del 6 (St.del 7 (St.del 8 (St.del 10 (St.del 11 (St.del 12 (St.del 13 (St.del 14 S122)))))))))))))); clear S122
         have S126 := S125.sealAll 0 rfl; clear S125
         change St _ _ _ [.rdo 6 A107 (l.length + 1) ((l ++ [x]).flatMap Ev.cells)] at S126
         rw [serve_go (b := ⟨ro, ep, fr, tg, rd, l⟩) (e := x) h16 h20 hk4 (by dsimp only; omega), hR]
         rw [if_neg (by rw [hch]; simp), if_neg hful]
         have hal : (l ++ [x]).length = l.length + 1 := by simp
         refine ⟨A107, c108, ?_, ?_⟩
         · dsimp only; rw [hal]; rfl
         · dsimp only; rw [hal]; exact S126
  ·refine wL_val (v := .bool false) (wn rfl) rfl rfl (y_binop rfl rfl rfl (r_eql_f h20)) ?_
   refine wL_val (wn rfl) rfl rfl (y_move rfl rfl) ?_
   refine wL_skip (wg rfl rfl rfl rfl) rfl rfl ?_
   refine wL_skip (wg rfl rfl rfl rfl) rfl rfl ?_
   refine wL_skip (wg rfl rfl rfl rfl) rfl rfl ?_
   refine wL_val (wn rfl) rfl rfl (y_pick_f rfl rfl rfl) ?_
   refine wL_nil (wQ_sub (l' := [(2, _), (3, _), (4, _), (5, _), (6, _), (7, _), (8, _), (28, _)]) ⟨rfl, rfl, rfl, rfl, rfl, rfl, rfl, rfl, trivial⟩ (wQ_then (wC_cond_f rfl (wC_skip (wQ_then (wC_seq (wC_seq (wC_region (wL_val (wn rfl) rfl rfl (y_move rfl rfl) ?_)))))))))
   refine wL_val (v := .bool true) (wn rfl) rfl rfl (y_binop rfl rfl rfl (r_neq_t h20)) ?_
   refine wL_nil (wQ_sub (l' := [(2, _), (3, _), (4, _), (5, _), (6, _), (7, _), (8, _), (30, _)]) ⟨rfl, rfl, rfl, rfl, rfl, rfl, rfl, rfl, trivial⟩ (wQ_then (wC_cond_t rfl (wC_seq (wC_region (wL_val (v := .agg #[.int .i64 0, .int .i64 0, .int .i64 0, .int .i64 0, .int .i64 0, .slice none 0 0]) (wn rfl) rfl rfl (y_build (vs := []) rfl trivial (by kernel_rfl)) ?_))))))
   refine wL_val (v := .agg #[.int .i64 0, .int .i64 0, .int .i64 0, .int .i64 0]) (wn rfl) rfl rfl (y_build (vs := []) rfl trivial (by kernel_rfl)) ?_
   refine wL_val (wn rfl) rfl rfl (y_move rfl rfl) ?_
   refine wL_st (fs' := [_, _, _, _, _]) 1 S18 (wn rfl) rfl rfl rfl rfl rfl rfl inf108 rfl (oneAll rfl) (Nat.le_of_ble_eq_true rfl) (setAll_all rfl) rfl ?_; intro w127 S128; clear S18
   refine wL_st (fs' := [_, _, _, _, _]) 0 S128 (wn rfl) rfl rfl rfl rfl rfl rfl inf93 rfl (oneAll rfl) (Nat.le_of_ble_eq_true rfl) (setAll_all rfl) rfl ?_; intro w129 S130; clear S128
   refine wL_val (wn rfl) rfl rfl (y_assign rfl rfl) ?_
   refine wL_val (wn rfl) rfl rfl (y_assign rfl rfl) ?_
   refine wL_nil (wQ_sub (l' := [(4, _), (5, _), (6, _), (7, _)]) ⟨rfl, rfl, rfl, rfl, trivial⟩ (wQ_then (wC_ret (wQ_then_ret (wQ_post (rs := [.cell 4 108, .cell 5 93, .tmp 6, .tmp 7]) (vs := [.agg #[.int .i64 0, .int .i64 0, .int .i64 0, .int .i64 0, .int .i64 0, .slice none 0 0], .agg #[.int .i64 0, .int .i64 0, .int .i64 0, .int .i64 0], .bool false, .int .i64 (evFault x)]) rfl ⟨⟨_, rfl, res_row 1 S130 rfl Try.underlying108 rfl inf108⟩, ⟨_, rfl, res_row 0 S130 rfl Try.underlying93 rfl inf93⟩, rfl, rfl, trivial⟩ ?_)))))
   have S131 : St w.heap.size w w129 [] := (St.del 0 (St.del 1 (St.del 2 (St.del 3 (St.del 4 S130))))); clear S130
   rw [show serveM ⟨ro, ep, fr, tg, rd, l⟩ x = (⟨0, 0, 0, 0, 0, []⟩, ⟨0, 0, 0, 0⟩, false, evFault x) from by unfold serveM; (try dsimp only); (repeat' (first | rfl | omega | split)) <;> (simp only [Prod.mk.injEq, Brt.mk.injEq, and_true, true_and, and_self]; omega)]
   exact ⟨none, 0, rfl, rdo_nil S131⟩
 ·refine wL_val (v := .bool false) (wn rfl) rfl rfl (y_binop rfl rfl rfl (r_eql_f h16)) ?_
  refine wL_nil (wQ_sub (l' := [(2, _), (3, _), (4, _), (5, _), (6, _), (7, _), (8, _), (19, _)]) ⟨rfl, rfl, rfl, rfl, rfl, rfl, rfl, rfl, trivial⟩ (wQ_then (wC_cond_f rfl (wC_skip (wQ_then (wC_seq (wC_seq (wC_region (wL_val (wn rfl) rfl rfl (y_move rfl rfl) ?_)))))))))
  refine wL_val (v := .bool false) (wn rfl) rfl rfl (y_binop rfl rfl rfl (r_eql_f h16)) ?_
  refine wL_val (wn rfl) rfl rfl (y_move rfl rfl) ?_
  refine wL_skip (wg rfl rfl rfl rfl) rfl rfl ?_
  refine wL_skip (wg rfl rfl rfl rfl) rfl rfl ?_
  refine wL_skip (wg rfl rfl rfl rfl) rfl rfl ?_
  refine wL_val (wn rfl) rfl rfl (y_pick_f rfl rfl rfl) ?_
  refine wL_nil (wQ_sub (l' := [(2, _), (3, _), (4, _), (5, _), (6, _), (7, _), (8, _), (28, _)]) ⟨rfl, rfl, rfl, rfl, rfl, rfl, rfl, rfl, trivial⟩ (wQ_then (wC_cond_f rfl (wC_skip (wQ_then (wC_seq (wC_seq (wC_region (wL_val (wn rfl) rfl rfl (y_move rfl rfl) ?_)))))))))
  refine wL_val (v := .bool true) (wn rfl) rfl rfl (y_binop rfl rfl rfl (r_neq_t h16)) ?_
  refine wL_nil (wQ_sub (l' := [(2, _), (3, _), (4, _), (5, _), (6, _), (7, _), (8, _), (30, _)]) ⟨rfl, rfl, rfl, rfl, rfl, rfl, rfl, rfl, trivial⟩ (wQ_then (wC_cond_t rfl (wC_seq (wC_region (wL_val (v := .agg #[.int .i64 0, .int .i64 0, .int .i64 0, .int .i64 0, .int .i64 0, .slice none 0 0]) (wn rfl) rfl rfl (y_build (vs := []) rfl trivial (by kernel_rfl)) ?_))))))
  refine wL_val (v := .agg #[.int .i64 0, .int .i64 0, .int .i64 0, .int .i64 0]) (wn rfl) rfl rfl (y_build (vs := []) rfl trivial (by kernel_rfl)) ?_
  refine wL_val (wn rfl) rfl rfl (y_move rfl rfl) ?_
  refine wL_st (fs' := [_, _, _, _, _]) 1 S14 (wn rfl) rfl rfl rfl rfl rfl rfl inf108 rfl (oneAll rfl) (Nat.le_of_ble_eq_true rfl) (setAll_all rfl) rfl ?_; intro w132 S133; clear S14
  refine wL_st (fs' := [_, _, _, _, _]) 0 S133 (wn rfl) rfl rfl rfl rfl rfl rfl inf93 rfl (oneAll rfl) (Nat.le_of_ble_eq_true rfl) (setAll_all rfl) rfl ?_; intro w134 S135; clear S133
  refine wL_val (wn rfl) rfl rfl (y_assign rfl rfl) ?_
  refine wL_val (wn rfl) rfl rfl (y_assign rfl rfl) ?_
  refine wL_nil (wQ_sub (l' := [(4, _), (5, _), (6, _), (7, _)]) ⟨rfl, rfl, rfl, rfl, trivial⟩ (wQ_then (wC_ret (wQ_then_ret (wQ_post (rs := [.cell 4 108, .cell 5 93, .tmp 6, .tmp 7]) (vs := [.agg #[.int .i64 0, .int .i64 0, .int .i64 0, .int .i64 0, .int .i64 0, .slice none 0 0], .agg #[.int .i64 0, .int .i64 0, .int .i64 0, .int .i64 0], .bool false, .int .i64 (brtFault ⟨ro, ep, fr, tg, rd, l⟩)]) rfl ⟨⟨_, rfl, res_row 1 S135 rfl Try.underlying108 rfl inf108⟩, ⟨_, rfl, res_row 0 S135 rfl Try.underlying93 rfl inf93⟩, rfl, rfl, trivial⟩ ?_)))))
  have S136 : St w.heap.size w w134 [] := (St.del 0 (St.del 1 (St.del 2 (St.del 3 (St.del 4 S135))))); clear S135
  rw [show serveM ⟨ro, ep, fr, tg, rd, l⟩ x = (⟨0, 0, 0, 0, 0, []⟩, ⟨0, 0, 0, 0⟩, false, brtFault ⟨ro, ep, fr, tg, rd, l⟩) from by unfold serveM; (try dsimp only); (repeat' (first | rfl | omega | split)) <;> (simp only [Prod.mk.injEq, Brt.mk.injEq, and_true, true_and, and_self]; omega)]
  exact ⟨none, 0, rfl, rdo_nil S136⟩

end Go.Proofs.Ytkjlafpafmihaaa

namespace Go.Proofs.Ytkjlafpafmihaaa
open Go.ChangeShapes Go.WideShapes Go.RowKit

theorem serveM_len {b : Brt} {x : Ev} : (serveM b x).1.evs.length ≤ b.evs.length + 1 := by
  unfold serveM
  (repeat' split) <;> (try simp [zeroB]) <;> (try omega)

set_option maxRecDepth 100000 in
set_option maxHeartbeats 2000000 in
theorem berthServes_calls (ro ep fr tg rd : Int) (A : Option Addr) (c : Nat) (l : List Ev) (x : Ev) (hlc : l.length ≤ c) (w : World) (h : Rd w w.heap.size 6 A l.length (evCells l)) (hb : l.length * 48 ≤ reachBytes) :
    Calls Try.prog 26 #[.agg #[.int .i64 ro, .int .i64 ep, .int .i64 fr, .int .i64 tg, .int .i64 rd, .slice A l.length c], .agg #[.int .i64 x.kind, .int .i64 x.producer, .int .i64 x.id, .int .i64 x.body, .int .i64 x.hepoch, .int .i64 x.hno]] w fun e w' => e = .returned (.bool true) ∧ Below w.heap.size w w' := by
 have S := (St.start w).addRd h; clear h
 have hb2 := hb
 unfold reachBytes at hb2
 have HP := fun A c w h => Serve_calls ro ep fr tg rd A c l x w h hb
 have HR := fun A c w h => ServedBy_calls ro ep fr tg rd A c l x w h hb
 have hlen := serveM_len (b := ⟨ro, ep, fr, tg, rd, l⟩) (x := x)
 generalize serveM ⟨ro, ep, fr, tg, rd, l⟩ x = R at HP HR hlen
 dsimp only at hlen
 refine calls_of_wC (N := 55) (vs := [.agg #[.int .i64 ro, .int .i64 ep, .int .i64 fr, .int .i64 tg, .int .i64 rd, .slice A l.length c], .agg #[.int .i64 x.kind, .int .i64 x.producer, .int .i64 x.id, .int .i64 x.body, .int .i64 x.hepoch, .int .i64 x.hno]]) Try.func26 rfl rfl rfl ?_
 refine wC_sub (l' := [(0, .agg #[.int .i64 ro, .int .i64 ep, .int .i64 fr, .int .i64 tg, .int .i64 rd, .slice A l.length c]), (1, .agg #[.int .i64 x.kind, .int .i64 x.producer, .int .i64 x.id, .int .i64 x.body, .int .i64 x.hepoch, .int .i64 x.hno])]) ⟨rfl, rfl, trivial⟩ (wC_seq (wC_region (wL_new (V := fun b => .pointer (some ⟨b, 0, none⟩)) (row := #[.int .i64 ro, .int .i64 ep, .int .i64 fr, .int .i64 tg, .int .i64 rd, .slice A l.length c]) (t := 108) S (wn rfl) rfl rfl (d_box rfl rfl rfl) ?_))); intro b1 w2 S3; clear S
 refine wL_new (V := fun b => .pointer (some ⟨b, 0, none⟩)) (row := #[.int .i64 x.kind, .int .i64 x.producer, .int .i64 x.id, .int .i64 x.body, .int .i64 x.hepoch, .int .i64 x.hno]) (t := 37) S3 (wn rfl) rfl rfl (d_box rfl rfl rfl) ?_; intro b4 w5 S6; clear S3
 refine wL_val (wn rfl) rfl rfl (y_assign rfl rfl) ?_
 refine wL_nil (wQ_sub (l' := [(2, _), (3, _), (4, _)]) ⟨rfl, rfl, rfl, trivial⟩ (wQ_then (wC_seq (wC_region (wL_val (wn rfl) rfl rfl (y_load rfl rfl (r_load_row 1 S6 rfl Try.underlying108 rfl inf108 rfl)) ?_)))))
 refine wL_call (vs := [.agg #[.int .i64 ro, .int .i64 ep, .int .i64 fr, .int .i64 tg, .int .i64 rd, .slice A l.length c]]) (wn rfl) rfl rfl (e_call (vs := [.agg #[.int .i64 ro, .int .i64 ep, .int .i64 fr, .int .i64 tg, .int .i64 rd, .slice A l.length c]]) rfl en77 ⟨rfl, trivial⟩) (berths_calls ro ep fr tg rd A c l _ (St.rd 2 S6 rfl) hb) ?_
 rintro _ w9 ⟨A7, c8, rfl, T11⟩
 refine ⟨_, rfl, ?_⟩
 have S10 := S6.ext T11 rfl; clear T11 S6
 change St _ _ _ [.own 37 6 (.slice A7 l.length c8) l.length ((l).flatMap Ev.cells), _, _, _] at S10
 refine wL_new (V := fun b => .pointer (some ⟨b, 0, none⟩)) (row := #[.int .i64 0, .int .i64 0, .int .i64 0, .int .i64 0, .int .i64 0, .slice none 0 0]) (t := 108) S10 (wn rfl) rfl rfl (d_alloc rfl (Try.zeroValue108 _) rfl) ?_; intro b12 w13 S14; clear S10
 refine wL_st (fs' := [_, _, _, _, _]) 0 S14 (wn rfl) rfl rfl rfl rfl rfl rfl inf108 rfl (oneAll rfl) (Nat.le_of_ble_eq_true rfl) (setAll_all rfl) rfl ?_; intro w15 S16; clear S14
 refine wL_nil (wQ_sub (l' := [(2, _), (3, _), (4, _), (5, _)]) ⟨rfl, rfl, rfl, rfl, trivial⟩ (wQ_then (wC_seq (wC_region (wL_val (wn rfl) rfl rfl (y_load rfl rfl (r_load_row 0 S16 rfl Try.underlying108 rfl inf108 rfl)) ?_)))))
 refine wL_val (wn rfl) rfl rfl (y_load rfl rfl (r_load_row 2 S16 rfl Try.underlying37 rfl inf37 rfl)) ?_
 refine wL_call (vs := [.agg #[.int .i64 ro, .int .i64 ep, .int .i64 fr, .int .i64 tg, .int .i64 rd, .slice A7 l.length c8], .agg #[.int .i64 x.kind, .int .i64 x.producer, .int .i64 x.id, .int .i64 x.body, .int .i64 x.hepoch, .int .i64 x.hno]]) (wn rfl) rfl rfl (e_call (vs := [.agg #[.int .i64 ro, .int .i64 ep, .int .i64 fr, .int .i64 tg, .int .i64 rd, .slice A7 l.length c8], .agg #[.int .i64 x.kind, .int .i64 x.producer, .int .i64 x.id, .int .i64 x.body, .int .i64 x.hepoch, .int .i64 x.hno]]) rfl en94 ⟨rfl, rfl, trivial⟩) (HP A7 c8 _ (St.ord 1 S16 rfl)) ?_
 rintro _ w19 ⟨A17, c18, rfl, T21⟩
 refine ⟨_, rfl, ?_⟩
 have S20 := S16.ext T21 rfl; clear T21 S16
 change St _ _ _ [.rdo 6 A17 R.1.evs.length ((R.1.evs).flatMap Ev.cells), _, _, _, _, _] at S20
 refine wL_val (wn rfl) rfl rfl (y_move rfl rfl) ?_
 refine wL_val (wn rfl) rfl rfl (y_extract rfl rfl rfl) ?_
 refine wL_val (wn rfl) rfl rfl (y_extract rfl rfl rfl) ?_
 refine wL_val (wn rfl) rfl rfl (y_extract rfl rfl rfl) ?_
 refine wL_val (wn rfl) rfl rfl (y_extract rfl rfl rfl) ?_
 refine wL_new (V := fun b => .pointer (some ⟨b, 0, none⟩)) (row := #[.int .i64 0, .int .i64 0, .int .i64 0, .int .i64 0, .int .i64 0, .slice none 0 0]) (t := 108) S20 (wn rfl) rfl rfl (d_alloc rfl (Try.zeroValue108 _) rfl) ?_; intro b22 w23 S24; clear S20
 refine wL_new (V := fun b => .pointer (some ⟨b, 0, none⟩)) (row := #[.int .i64 0, .int .i64 0, .int .i64 0, .int .i64 0]) (t := 93) S24 (wn rfl) rfl rfl (d_alloc rfl (Try.zeroValue93 _) rfl) ?_; intro b25 w26 S27; clear S24
 refine wL_st (fs' := [_, _, _, _, _, _, _, _]) 1 S27 (wn rfl) rfl rfl rfl rfl rfl rfl inf108 rfl (oneAll rfl) (Nat.le_of_ble_eq_true rfl) (setAll_all rfl) rfl ?_; intro w28 S29; clear S27
 refine wL_st (fs' := [_, _, _, _, _, _, _, _]) 0 S29 (wn rfl) rfl rfl rfl rfl rfl rfl inf93 rfl (oneAll rfl) (Nat.le_of_ble_eq_true rfl) (setAll_all rfl) rfl ?_; intro w30 S31; clear S29
 refine wL_val (wn rfl) rfl rfl (y_assign rfl rfl) ?_
 refine wL_val (wn rfl) rfl rfl (y_assign rfl rfl) ?_
 refine wL_nil (wQ_sub (l' := [(2, _), (3, _), (4, _), (5, _), (6, _), (7, _), (8, _), (9, _)]) ⟨rfl, rfl, rfl, rfl, rfl, rfl, rfl, rfl, trivial⟩ (wQ_then (wC_seq (wC_region (wL_val (wn rfl) rfl rfl (y_load rfl rfl (r_load_row 6 S31 rfl Try.underlying108 rfl inf108 rfl)) ?_)))))
 refine wL_val (wn rfl) rfl rfl (y_load rfl rfl (r_load_row 5 S31 rfl Try.underlying37 rfl inf37 rfl)) ?_
 refine wL_call (vs := [.agg #[.int .i64 ro, .int .i64 ep, .int .i64 fr, .int .i64 tg, .int .i64 rd, .slice A l.length c], .agg #[.int .i64 x.kind, .int .i64 x.producer, .int .i64 x.id, .int .i64 x.body, .int .i64 x.hepoch, .int .i64 x.hno]]) (wn rfl) rfl rfl (e_call (vs := [.agg #[.int .i64 ro, .int .i64 ep, .int .i64 fr, .int .i64 tg, .int .i64 rd, .slice A l.length c], .agg #[.int .i64 x.kind, .int .i64 x.producer, .int .i64 x.id, .int .i64 x.body, .int .i64 x.hepoch, .int .i64 x.hno]]) rfl en95 ⟨rfl, rfl, trivial⟩) (HR A c _ (St.rd 7 S31 rfl)) ?_
 rintro _ w34 ⟨A32, c33, rfl, T36⟩
 refine ⟨_, rfl, ?_⟩
 have S35 := S31.ext T36 rfl; clear T36 S31
 change St _ _ _ [.rdo 6 A32 R.1.evs.length ((R.1.evs).flatMap Ev.cells), _, _, _, _, _, _, _, _] at S35
 refine wL_val (wn rfl) rfl rfl (y_move rfl rfl) ?_
 refine wL_val (wn rfl) rfl rfl (y_extract rfl rfl rfl) ?_
 refine wL_val (wn rfl) rfl rfl (y_extract rfl rfl rfl) ?_
 refine wL_val (wn rfl) rfl rfl (y_extract rfl rfl rfl) ?_
 refine wL_val (wn rfl) rfl rfl (y_extract rfl rfl rfl) ?_
 refine wL_new (V := fun b => .pointer (some ⟨b, 0, none⟩)) (row := #[.int .i64 0, .int .i64 0, .int .i64 0, .int .i64 0, .int .i64 0, .slice none 0 0]) (t := 108) S35 (wn rfl) rfl rfl (d_alloc rfl (Try.zeroValue108 _) rfl) ?_; intro b37 w38 S39; clear S35
 refine wL_new (V := fun b => .pointer (some ⟨b, 0, none⟩)) (row := #[.int .i64 0, .int .i64 0, .int .i64 0, .int .i64 0]) (t := 93) S39 (wn rfl) rfl rfl (d_alloc rfl (Try.zeroValue93 _) rfl) ?_; intro b40 w41 S42; clear S39
 refine wL_st (fs' := [_, _, _, _, _, _, _, _, _, _, _]) 1 S42 (wn rfl) rfl rfl rfl rfl rfl rfl inf108 rfl (oneAll rfl) (Nat.le_of_ble_eq_true rfl) (setAll_all rfl) rfl ?_; intro w43 S44; clear S42
 refine wL_st (fs' := [_, _, _, _, _, _, _, _, _, _, _]) 0 S44 (wn rfl) rfl rfl rfl rfl rfl rfl inf93 rfl (oneAll rfl) (Nat.le_of_ble_eq_true rfl) (setAll_all rfl) rfl ?_; intro w45 S46; clear S44
 refine wL_val (wn rfl) rfl rfl (y_assign rfl rfl) ?_
 refine wL_val (wn rfl) rfl rfl (y_assign rfl rfl) ?_
 refine wL_nil (wQ_sub (l' := [(2, _), (4, _), (5, _), (6, _), (7, _), (8, _), (9, _), (10, _), (11, _), (12, _), (13, _)]) ⟨rfl, rfl, rfl, rfl, rfl, rfl, rfl, rfl, rfl, rfl, rfl, trivial⟩ (wQ_then (wC_seq (wC_region (wL_val (wn rfl) rfl rfl (y_load rfl rfl (r_load_row 3 S46 rfl Try.underlying93 rfl inf93 rfl)) ?_)))))
 refine wL_val (wn rfl) rfl rfl (y_load rfl rfl (r_load_row 0 S46 rfl Try.underlying93 rfl inf93 rfl)) ?_
 refine wL_val (v := .bool true) (wn rfl) rfl rfl (y_binop rfl rfl rfl (r_eqg (by kernel_rfl) (ans_eql R.2.1 _))) ?_
 refine wL_val (wn rfl) rfl rfl (y_move rfl rfl) ?_
 refine wL_val (wg rfl rfl rfl rfl) rfl rfl (y_move rfl rfl) ?_
 refine wL_val (wg rfl rfl rfl rfl) rfl rfl (y_move rfl rfl) ?_
 refine wL_val (v := .bool true) (wg rfl rfl rfl rfl) rfl rfl (y_binop rfl rfl rfl (r_beq_self Try.underlying4)) ?_
 refine wL_val (wn rfl) rfl rfl (y_pick_t rfl rfl rfl) ?_
 refine wL_val (wn rfl) rfl rfl (y_move rfl rfl) ?_
 refine wL_val (wg rfl rfl rfl rfl) rfl rfl (y_move rfl rfl) ?_
 refine wL_val (wg rfl rfl rfl rfl) rfl rfl (y_move rfl rfl) ?_
 refine wL_val (v := .bool true) (wg rfl rfl rfl rfl) rfl rfl (y_binop rfl rfl rfl (r_eql_t rfl)) ?_
 refine wL_val (wn rfl) rfl rfl (y_pick_t rfl rfl rfl) ?_
 refine wL_val (wn rfl) rfl rfl (y_move rfl rfl) ?_
 refine wL_val (wg rfl rfl rfl rfl) rfl rfl (y_load rfl rfl (r_load_row 4 S46 rfl Try.underlying108 rfl inf108 rfl)) ?_
 refine wL_val (wg rfl rfl rfl rfl) rfl rfl (y_load rfl rfl (r_load_row 1 S46 rfl Try.underlying108 rfl inf108 rfl)) ?_
 refine wL_call (vs := [.agg #[.int .i64 R.1.role, .int .i64 R.1.ep, .int .i64 R.1.fr, .int .i64 R.1.tg, .int .i64 R.1.rd, .slice A17 R.1.evs.length c18], .agg #[.int .i64 R.1.role, .int .i64 R.1.ep, .int .i64 R.1.fr, .int .i64 R.1.tg, .int .i64 R.1.rd, .slice A32 R.1.evs.length c33]]) (wg rfl rfl rfl rfl) rfl rfl (e_call (vs := [.agg #[.int .i64 R.1.role, .int .i64 R.1.ep, .int .i64 R.1.fr, .int .i64 R.1.tg, .int .i64 R.1.rd, .slice A17 R.1.evs.length c18], .agg #[.int .i64 R.1.role, .int .i64 R.1.ep, .int .i64 R.1.fr, .int .i64 R.1.tg, .int .i64 R.1.rd, .slice A32 R.1.evs.length c33]]) rfl en81 ⟨rfl, rfl, trivial⟩) (sameBerth_calls R.1.role R.1.ep R.1.fr R.1.tg R.1.rd A17 c18 A32 c33 R.1.evs _ (St.rdo 5 S46 rfl) (St.rdo 2 S46 rfl) (by omega)) ?_
 rintro _ w47 ⟨rfl, hb49⟩
 refine ⟨_, rfl, ?_⟩
 have S48 := S46.on hb49; clear hb49 S46
 refine wL_val (wn rfl) rfl rfl (y_pick_t rfl rfl rfl) ?_
 refine wL_val (wn rfl) rfl rfl (y_move rfl rfl) ?_
 refine wL_val (wg rfl rfl rfl rfl) rfl rfl (y_load rfl rfl (r_load_row 6 S48 rfl Try.underlying108 rfl inf108 rfl)) ?_
 refine wL_val (wg rfl rfl rfl rfl) rfl rfl (y_load rfl rfl (r_load_row 9 S48 rfl Try.underlying108 rfl inf108 rfl)) ?_
 refine wL_call (vs := [.agg #[.int .i64 ro, .int .i64 ep, .int .i64 fr, .int .i64 tg, .int .i64 rd, .slice A7 l.length c8], .agg #[.int .i64 ro, .int .i64 ep, .int .i64 fr, .int .i64 tg, .int .i64 rd, .slice A l.length c]]) (wg rfl rfl rfl rfl) rfl rfl (e_call (vs := [.agg #[.int .i64 ro, .int .i64 ep, .int .i64 fr, .int .i64 tg, .int .i64 rd, .slice A7 l.length c8], .agg #[.int .i64 ro, .int .i64 ep, .int .i64 fr, .int .i64 tg, .int .i64 rd, .slice A l.length c]]) rfl en81 ⟨rfl, rfl, trivial⟩) (sameBerth_calls ro ep fr tg rd A7 c8 A c l _ (St.ord 7 S48 rfl) (St.rd 10 S48 rfl) (by omega)) ?_
 rintro _ w50 ⟨rfl, hb52⟩
 refine ⟨_, rfl, ?_⟩
 have S51 := S48.on hb52; clear hb52 S48
 refine wL_val (wn rfl) rfl rfl (y_pick_t rfl rfl rfl) ?_
 refine wL_val (wn rfl) rfl rfl (y_assign rfl rfl) ?_
 refine wL_nil (wQ_sub (l' := [(4, _)]) ⟨rfl, trivial⟩ (wQ_then (wC_ret (wQ_post (rs := [.tmp 4]) (vs := [.bool true]) rfl ⟨rfl, trivial⟩ ?_))))
 exact ⟨rfl, S51.low⟩

set_option maxRecDepth 100000 in
theorem berthServes_walk (W : World) (args : Array Value) (h : All2 (ArgOk Try.prog W) args.toList Try.f26.params.toList) :
    Calls Try.prog 26 args W fun e W' => e = .returned (.bool true) ∧ Below W.heap.size W W' := by
  rw [Try.params26] at h
  obtain ⟨v0, l0, hv0, h0, g0⟩ := All2.cons_ h
  obtain ⟨v1, l1, hv1, h1, g1⟩ := All2.cons_ g0
  have h9 := All2.nil_ g1
  subst h9
  obtain rfl : args = #[v0, v1] := by cases args; simp_all
  obtain ⟨ro, ep, fr, tg, rd, A, c, l, rfl, hr, hn, hc, hb⟩ := arg_berth h0
  obtain ⟨x, rfl⟩ := arg_event h1
  exact berthServes_calls ro ep fr tg rd A c l x hn W hr hb
end Go.Proofs.Ytkjlafpafmihaaa

