/- Parts of proofs: lemmas on memory, on single functions and on the plain models; no condition of their own. -/
import Derived.Test.YtkjlafpafmihaaaRows
import Derived.WalkKit
import Derived.ProofKit
import Derived.OpenShut
import Derived.SizedLaws
import Derived.WalkSpells
import Derived.WalkLawsBesides
import Derived.Handy
import Derived.Deep.QuietTactic
import Derived.BigQuiet
import Derived.Lib.Hide
import Derived.Maps.AppendAt
import Derived.Deep.AppendLies
import Derived.RegionTactic
import Derived.OwnWalk
import Derived.Laws.Tables
import Derived.Deep.MidRow
import Derived.StillTailTactics
import Derived.OrdersHeld
import Derived.Deep.RegionHeld3
import Derived.Laws.IdiomCopy
import Derived.ChangeKeysEq
import Derived.Laws.BitsAllLaws
import Derived.Deep.DeepCutAuto
import Derived.Deep.CutRange
import Derived.Shelf.SlSortCmp.WholeK
import Derived.Shelf.SlSortCmp.NoneTotal
import Derived.Shelf.SlicesG.Cmp
import Derived.Shelf.SlGeneric
import Derived.Ground.SlsfProg
import Derived.Ground.SlgcProg
import Derived.Maps.OwnSet
import Derived.Lib.SliceRun
import Derived.Deep.RegionLaw
import Derived.Test.YtkjlafpafmihaaaG10bc09417b62
import Derived.Test.YtkjlafpafmihaaaG19e1afd8d7e3
import Derived.Test.YtkjlafpafmihaaaG3266bb5701e5
import Derived.Test.YtkjlafpafmihaaaG53d9860cd554
import Derived.Test.YtkjlafpafmihaaaG5a4470397ed8
import Derived.Test.YtkjlafpafmihaaaG5e9429b7852d
import Derived.Test.YtkjlafpafmihaaaG6c7d926bdf1e
import Derived.Test.YtkjlafpafmihaaaG8c8ada4b342a
import Derived.Test.YtkjlafpafmihaaaG90f7600ce72e
import Derived.Test.YtkjlafpafmihaaaG9b85a56455eb
import Derived.Test.YtkjlafpafmihaaaGbea5e349a2aa
import Derived.Test.YtkjlafpafmihaaaGc91015c24562
import Derived.Test.YtkjlafpafmihaaaGcd1d2a0662d0
import Derived.Test.YtkjlafpafmihaaaGd7f7ec5356a9
import Derived.Test.YtkjlafpafmihaaaGdb62e807c2bc
import Derived.Test.YtkjlafpafmihaaaGdfd0431d9162
set_option linter.unusedVariables false
set_option linter.unusedSimpArgs false

namespace Go.Proofs.Ytkjlafpafmihaaa
open Go.ChangeShapes Go.WideShapes Go.RowKit

def ReplayPost (w : World) (r : Qd × List Ans × Int) (e : Ending) (w' : World) : Prop := ∃ A1 c1 A2 c2,
  e = .returned (.tuple #[.agg (qRow r.1.ep r.1.nx r.1.gv (.slice A1 r.1.ready.length c1) (.slice A2 r.1.leases.length c2) r.1.ws), .int .i64 r.2.2]) ∧
  St w.heap.size w w' [.rdo 2 A1 r.1.ready.length (r.1.ready.flatMap Msg.cells), .rdo 4 A2 r.1.leases.length (r.1.leases.flatMap Ls.cells)]
set_option maxRecDepth 100000 in
set_option maxHeartbeats 1000000 in
theorem Replay_calls (A : Option Addr) (c : Nat) (l : List Ev) (w : World) (h : Rd w w.heap.size 6 A l.length (evCells l)) (hl : l.length ≤ 1152921504606846976) :
    Calls Try.prog 70 #[.slice A l.length c] w (ReplayPost w (tellM l)) := by
 have S := (St.start w).addRd h; clear h
 refine calls_of_wC (N := 19) (vs := [.slice A l.length c]) Try.func70 rfl rfl rfl ?_
 refine wC_sub (l' := [(0, .slice A l.length c)]) ⟨rfl, trivial⟩ (wC_seq (wC_region (wL_new (V := fun b => .pointer (some ⟨b, 0, none⟩)) (row := qRow 0 0 0 (.slice none 0 0) (.slice none 0 0) zeroWs) (t := 29) S (wn rfl) rfl rfl (d_alloc rfl (Try.zeroValue29 _) rfl) ?_))); intro b1 w2 S3; clear S
 refine wL_val (wn rfl) rfl rfl (y_assign rfl rfl) ?_
 refine wL_nil (wQ_then (wC_seq (wC_region (wL_val (wn rfl) rfl rfl (y_move rfl rfl) ?_))))
 have HT := fun w h => tell_calls A c l w h hl
 by_cases ht : (tellM l).2.2 = 0
 ·refine wL_call (vs := [.slice A l.length c]) (wn rfl) rfl rfl (e_call (vs := [.slice A l.length c]) rfl en153 ⟨rfl, trivial⟩) ((HT _ (St.rd 1 S3 rfl)).mono fun _ _ h => h.1 ht) ?_
  rintro _ w4 ⟨b7, A8, c9, A10, c11, A12, c13, rfl, T6⟩
  refine ⟨_, rfl, ?_⟩
  unfold tellFacts at T6
  have S5 := S3.ext T6 rfl; clear HT T6 S3
  change St _ _ _ [.blk b7 (tRow ((tellM l).1.ep) ((tellM l).1.nx) ((tellM l).1.gv) (.slice A8 ((tellM l).1.ready.length) c9) (.slice A10 ((tellM l).1.leases.length) c11) ((tellM l).1.ws) (.slice A12 ((tellM l).2.1.length) c13)) 203, .rdo 2 A8 ((tellM l).1.ready.length) (((tellM l).1.ready).flatMap Msg.cells), .rdo 4 A10 ((tellM l).1.leases.length) (((tellM l).1.leases).flatMap Ls.cells), .own 93 4 (.slice A12 ((tellM l).2.1.length) c13) ((tellM l).2.1.length) (((tellM l).2.1).flatMap Ans.cells), .blk b1 (qRow 0 0 0 (.slice none 0 0) (.slice none 0 0) zeroWs) 29, .rd 6 A l.length ((l).flatMap Ev.cells)] at S5
  refine wL_val (wn rfl) rfl rfl (y_move rfl rfl) ?_
  refine wL_val (wn rfl) rfl rfl (y_extract rfl rfl rfl) ?_
  refine wL_val (wn rfl) rfl rfl (y_extract rfl rfl rfl) ?_
  refine wL_val (wn rfl) rfl rfl (y_assign rfl rfl) ?_
  refine wL_val (wn rfl) rfl rfl (y_assign rfl rfl) ?_
  refine wL_nil (wQ_sub (l' := [(2, _), (3, _), (4, _), (5, _)]) ⟨rfl, rfl, rfl, rfl, trivial⟩ (wQ_then (wC_seq (wC_seq (wC_region (wL_val (wn rfl) rfl rfl (y_move rfl rfl) ?_))))))
  refine wL_val (v := .bool false) (wn rfl) rfl rfl (y_binop rfl rfl rfl (r_neq_f rfl)) ?_
  refine wL_nil (wQ_sub (l' := [(2, _), (3, _), (4, _), (5, _), (12, _)]) ⟨rfl, rfl, rfl, rfl, rfl, trivial⟩ (wQ_then (wC_cond_f rfl (wC_skip (wQ_then (wC_seq (wC_region (wL_val (wn rfl) rfl rfl (y_move rfl rfl) ?_))))))))
  refine wL_val (wn rfl) rfl rfl (y_nil rfl rfl trivial) ?_
  refine wL_val (v := .pointer (some ⟨b7, 0, none⟩)) (wn rfl) rfl rfl (y_fieldAddr rfl rfl (fa203_0 _ _ _)) ?_
  refine wL_val (wn rfl) rfl rfl (y_load rfl rfl (r_load_agg (cs := (qRow ((tellM l).1.ep) ((tellM l).1.nx) ((tellM l).1.gv) (.slice A8 ((tellM l).1.ready.length) c9) (.slice A10 ((tellM l).1.leases.length) c11) ((tellM l).1.ws)).toList) Try.underlying29 rfl inf29 rfl (St.rg 0 S5 rfl (tRow_q)))) ?_
  refine wL_st (fs' := [_, _, _, _, _, _]) 4 S5 (wn rfl) rfl rfl rfl rfl rfl rfl inf29 rfl (qRow_one rfl rfl) (Nat.le_of_ble_eq_true rfl) (setAll_all rfl) rfl ?_; intro w14 S15; clear S5
  refine wL_val (wn rfl) rfl rfl (y_assign rfl rfl) ?_
  refine wL_nil (wQ_sub (l' := [(2, _), (3, _)]) ⟨rfl, rfl, trivial⟩ (wQ_then (wC_ret (wQ_post (rs := [.cell 2 29, .tmp 3]) (vs := [.agg (qRow ((tellM l).1.ep) ((tellM l).1.nx) ((tellM l).1.gv) (.slice A8 ((tellM l).1.ready.length) c9) (.slice A10 ((tellM l).1.leases.length) c11) ((tellM l).1.ws)), .int .i64 0]) rfl ⟨⟨_, rfl, res_row 4 S15 rfl Try.underlying29 rfl inf29⟩, rfl, trivial⟩ ?_))))
  have S16 : St w.heap.size w w14 [_, _] := S15.re [1, 2] (by decide); clear S15
  refine ⟨A8, c9, A10, c11, ?_, S16⟩
  rw [ht]; rfl
 ·refine wL_call (vs := [.slice A l.length c]) (wn rfl) rfl rfl (e_call (vs := [.slice A l.length c]) rfl en153 ⟨rfl, trivial⟩) ((HT _ (St.rd 1 S3 rfl)).mono fun _ _ h => h.2 ht) ?_
  rintro _ w17 ⟨rfl, T19⟩
  refine ⟨_, rfl, ?_⟩
  have S18 := S3.on T19; clear HT T19 S3
  change St _ _ _ [.blk b1 (qRow 0 0 0 (.slice none 0 0) (.slice none 0 0) zeroWs) 29, .rd 6 A l.length ((l).flatMap Ev.cells)] at S18
  refine wL_val (wn rfl) rfl rfl (y_move rfl rfl) ?_
  refine wL_val (wn rfl) rfl rfl (y_extract rfl rfl rfl) ?_
  refine wL_val (wn rfl) rfl rfl (y_extract rfl rfl rfl) ?_
  refine wL_val (wn rfl) rfl rfl (y_assign rfl rfl) ?_
  refine wL_val (wn rfl) rfl rfl (y_assign rfl rfl) ?_
  refine wL_nil (wQ_sub (l' := [(2, _), (3, _), (4, _), (5, _)]) ⟨rfl, rfl, rfl, rfl, trivial⟩ (wQ_then (wC_seq (wC_seq (wC_region (wL_val (wn rfl) rfl rfl (y_move rfl rfl) ?_))))))
  refine wL_val (v := .bool true) (wn rfl) rfl rfl (y_binop rfl rfl rfl (r_neq_t ht)) ?_
  refine wL_nil (wQ_sub (l' := [(2, _), (3, _), (4, _), (5, _), (12, _)]) ⟨rfl, rfl, rfl, rfl, rfl, trivial⟩ (wQ_then (wC_cond_t rfl (wC_seq (wC_region (wL_val (v := .agg (qRow 0 0 0 (.slice none 0 0) (.slice none 0 0) zeroWs)) (wn rfl) rfl rfl (y_build (vs := []) rfl trivial (by kernel_rfl)) ?_))))))
  refine wL_val (wn rfl) rfl rfl (y_move rfl rfl) ?_
  refine wL_st (fs' := [_, _]) 0 S18 (wn rfl) rfl rfl rfl rfl rfl rfl inf29 rfl (qRow_one rfl rfl) (Nat.le_of_ble_eq_true rfl) (setAll_all rfl) rfl ?_; intro w20 S21; clear S18
  refine wL_val (wn rfl) rfl rfl (y_assign rfl rfl) ?_
  refine wL_nil (wQ_sub (l' := [(2, _), (3, _)]) ⟨rfl, rfl, trivial⟩ (wQ_then (wC_ret (wQ_then_ret (wQ_post (rs := [.cell 2 29, .tmp 3]) (vs := [.agg (qRow 0 0 0 (.slice none 0 0) (.slice none 0 0) zeroWs), .int .i64 ((tellM l).2.2)]) rfl ⟨⟨_, rfl, res_row 0 S21 rfl Try.underlying29 rfl inf29⟩, rfl, trivial⟩ ?_)))))
  have S22 : St w.heap.size w w20 [] := (St.del 0 (St.del 1 S21)); clear S21
  have hz := tellM_zero ht
  refine ⟨none, 0, none, 0, ?_, ?_⟩
  · rw [hz.1]; rfl
  · rw [hz.1]; exact rdo_nil2 S22

set_option maxRecDepth 100000 in
set_option maxHeartbeats 1000000 in
theorem Replayed_calls (A : Option Addr) (c : Nat) (l : List Ev) (w : World) (h : Rd w w.heap.size 6 A l.length (evCells l)) (hl : l.length ≤ 1152921504606846976) :
    Calls Try.prog 71 #[.slice A l.length c] w (ReplayPost w (tellM l)) := by
 have S := (St.start w).addRd h; clear h
 refine calls_of_wC (N := 15) (vs := [.slice A l.length c]) Try.func71 rfl rfl rfl ?_
 refine wC_sub (l' := [(0, .slice A l.length c)]) ⟨rfl, trivial⟩ (wC_seq (wC_region (wL_new (V := fun b => .pointer (some ⟨b, 0, none⟩)) (row := qRow 0 0 0 (.slice none 0 0) (.slice none 0 0) zeroWs) (t := 29) S (wn rfl) rfl rfl (d_alloc rfl (Try.zeroValue29 _) rfl) ?_))); intro b1 w2 S3; clear S
 refine wL_val (wn rfl) rfl rfl (y_assign rfl rfl) ?_
 refine wL_nil (wQ_then (wC_seq (wC_region (wL_val (wn rfl) rfl rfl (y_move rfl rfl) ?_))))
 refine wL_call (vs := [.slice A l.length c]) (wn rfl) rfl rfl (e_call (vs := [.slice A l.length c]) rfl en154 ⟨rfl, trivial⟩) (Told_calls A c l _ (St.rd 1 S3 rfl) hl) ?_
 rintro _ w10 ⟨A4, c5, A6, c7, A8, c9, rfl, T12⟩
 refine ⟨_, rfl, ?_⟩
 have S11 := S3.ext T12 rfl; clear T12 S3
 change St _ _ _ [.rdo 2 A4 ((tellM l).1.ready.length) (((tellM l).1.ready).flatMap Msg.cells), .rdo 4 A6 ((tellM l).1.leases.length) (((tellM l).1.leases).flatMap Ls.cells), .rdo 4 A8 ((tellM l).2.1.length) (((tellM l).2.1).flatMap Ans.cells), _, _] at S11
 refine wL_val (wn rfl) rfl rfl (y_move rfl rfl) ?_
 refine wL_val (wn rfl) rfl rfl (y_extract rfl rfl rfl) ?_
 refine wL_val (wn rfl) rfl rfl (y_extract rfl rfl rfl) ?_
 refine wL_val (wn rfl) rfl rfl (y_extract rfl rfl rfl) ?_
 refine wL_new (V := fun b => .pointer (some ⟨b, 0, none⟩)) (row := qRow 0 0 0 (.slice none 0 0) (.slice none 0 0) zeroWs) (t := 29) S11 (wn rfl) rfl rfl (d_alloc rfl (Try.zeroValue29 _) rfl) ?_; intro b13 w14 S15; clear S11
 refine wL_st (fs' := [_, _, _, _, _, _]) 0 S15 (wn rfl) rfl rfl rfl rfl rfl rfl inf29 rfl (qRow_one rfl rfl) (Nat.le_of_ble_eq_true rfl) (setAll_all rfl) rfl ?_; intro w16 S17; clear S15
 refine wL_val (wn rfl) rfl rfl (y_assign rfl rfl) ?_
 refine wL_val (wn rfl) rfl rfl (y_assign rfl rfl) ?_
 refine wL_nil (wQ_sub (l' := [(2, _), (3, _), (4, _), (6, _)]) ⟨rfl, rfl, rfl, rfl, trivial⟩ (wQ_then (wC_seq (wC_region (wL_val (wn rfl) rfl rfl (y_load rfl rfl (r_load_row 0 S17 rfl Try.underlying29 rfl inf29 rfl)) ?_)))))
 refine wL_val (wn rfl) rfl rfl (y_move rfl rfl) ?_
 refine wL_st (fs' := [_, _, _, _, _, _]) 4 S17 (wn rfl) rfl rfl rfl rfl rfl rfl inf29 rfl (qRow_one rfl rfl) (Nat.le_of_ble_eq_true rfl) (setAll_all rfl) rfl ?_; intro w18 S19; clear S17
 refine wL_val (wn rfl) rfl rfl (y_assign rfl rfl) ?_
 refine wL_nil (wQ_sub (l' := [(2, _), (3, _)]) ⟨rfl, rfl, trivial⟩ (wQ_then (wC_ret (wQ_post (rs := [.cell 2 29, .tmp 3]) (vs := [.agg (qRow ((tellM l).1.ep) ((tellM l).1.nx) ((tellM l).1.gv) (.slice A4 ((tellM l).1.ready.length) c5) (.slice A6 ((tellM l).1.leases.length) c7) ((tellM l).1.ws)), .int .i64 ((tellM l).2.2)]) rfl ⟨⟨_, rfl, res_row 4 S19 rfl Try.underlying29 rfl inf29⟩, rfl, trivial⟩ ?_))))
 have S20 : St w.heap.size w w18 [_, _] := S19.re [1, 2] (by decide); clear S19
 exact ⟨A4, c5, A6, c7, rfl, S20⟩

end Go.Proofs.Ytkjlafpafmihaaa

