/- Parts of proofs: lemmas on memory, on single functions and on the plain models; no condition of their own. -/
import Derived.Test.YtkjlafpafmihaaaRows
import Derived.WalkKit
import Derived.ProofKit
import Derived.OpenShut
import Derived.SizedLaws
import Derived.WalkSpells
import Derived.WalkLawsBesides
import Derived.Handy
import Derived.Deep.QuietTactic
import Derived.BigQuiet
import Derived.Lib.Hide
import Derived.Maps.AppendAt
import Derived.Deep.AppendLies
import Derived.RegionTactic
import Derived.OwnWalk
import Derived.Laws.Tables
import Derived.Deep.MidRow
import Derived.StillTailTactics
import Derived.OrdersHeld
import Derived.Deep.RegionHeld3
import Derived.Laws.IdiomCopy
import Derived.ChangeKeysEq
import Derived.Laws.BitsAllLaws
import Derived.Deep.DeepCutAuto
import Derived.Deep.CutRange
import Derived.Shelf.SlSortCmp.WholeK
import Derived.Shelf.SlSortCmp.NoneTotal
import Derived.Shelf.SlicesG.Cmp
import Derived.Shelf.SlGeneric
import Derived.Ground.SlsfProg
import Derived.Ground.SlgcProg
import Derived.Maps.OwnSet
import Derived.Lib.SliceRun
import Derived.Deep.RegionLaw
import Derived.Test.YtkjlafpafmihaaaG0e35ec4e0bdc
import Derived.Test.YtkjlafpafmihaaaG2143c9b0b786
import Derived.Test.YtkjlafpafmihaaaG371410bb1a9a
import Derived.Test.YtkjlafpafmihaaaG3cad135f796d
import Derived.Test.YtkjlafpafmihaaaG639fd641cb7f
import Derived.Test.YtkjlafpafmihaaaG668153da7687
import Derived.Test.YtkjlafpafmihaaaG7d077057f4b7
import Derived.Test.YtkjlafpafmihaaaG95288c2830db
import Derived.Test.YtkjlafpafmihaaaG9d6a0cc61d66
import Derived.Test.YtkjlafpafmihaaaGa89c1a6f9966
import Derived.Test.YtkjlafpafmihaaaGa956530333d6
import Derived.Test.YtkjlafpafmihaaaGad4fca606e19
import Derived.Test.YtkjlafpafmihaaaGb705d1f06a25
import Derived.Test.YtkjlafpafmihaaaGc78e27da6ed6
import Derived.Test.YtkjlafpafmihaaaGd3dd665860e0
import Derived.Test.YtkjlafpafmihaaaGe3070c7ed4e5
import Derived.Test.YtkjlafpafmihaaaGe49d3faae9e4
import Derived.Test.YtkjlafpafmihaaaGf3cc171333c0
import Derived.Test.YtkjlafpafmihaaaGfb91239d21d5
import Derived.Test.YtkjlafpafmihaaaGfbe38c0473d2
import Derived.Test.YtkjlafpafmihaaaGfcc1908193e9
import Derived.Test.YtkjlafpafmihaaaGfed51b8f206e
set_option linter.unusedVariables false
set_option linter.unusedSimpArgs false

namespace Go.Proofs.Ytkjlafpafmihaaa
open Go.ChangeShapes Go.WideShapes Go.RowKit

def AnswersPost (w : World) (r : Qd × List Ans × Int) (e : Ending) (w' : World) : Prop := ∃ A c,
  e = .returned (.tuple #[.slice A r.2.1.length c, .int .i64 r.2.2]) ∧ St w.heap.size w w' [.rdo 4 A r.2.1.length (r.2.1.flatMap Ans.cells)]

set_option maxRecDepth 100000 in
set_option maxHeartbeats 1000000 in
theorem Answers_calls (A : Option Addr) (c : Nat) (l : List Ev) (w : World) (h : Rd w w.heap.size 6 A l.length (evCells l)) (hl : l.length ≤ 1152921504606846976) :
    Calls Try.prog 73 #[.slice A l.length c] w (AnswersPost w (tellM l)) := by
 have S := (St.start w).addRd h; clear h
 refine calls_of_wC (N := 18) (vs := [.slice A l.length c]) Try.func73 rfl rfl rfl ?_
 refine wC_sub (l' := [(0, .slice A l.length c)]) ⟨rfl, trivial⟩ (wC_seq (wC_region (wL_val (wn rfl) rfl rfl (y_assign rfl rfl) ?_)))
 refine wL_val (wn rfl) rfl rfl (y_assign rfl rfl) ?_
 refine wL_nil (wQ_then (wC_seq (wC_region (wL_val (wn rfl) rfl rfl (y_move rfl rfl) ?_))))
 have HT := fun w h => tell_calls A c l w h hl
 by_cases ht : (tellM l).2.2 = 0
 ·refine wL_call (vs := [.slice A l.length c]) (wn rfl) rfl rfl (e_call (vs := [.slice A l.length c]) rfl en153 ⟨rfl, trivial⟩) ((HT _ (St.rd 0 S rfl)).mono fun _ _ h => h.1 ht) ?_
  rintro _ w1 ⟨b4, A5, c6, A7, c8, A9, c10, rfl, T3⟩
  refine ⟨_, rfl, ?_⟩
  unfold tellFacts at T3
  have S2 := S.ext T3 rfl; clear HT T3 S
  change St _ _ _ [.blk b4 (tRow ((tellM l).1.ep) ((tellM l).1.nx) ((tellM l).1.gv) (.slice A5 ((tellM l).1.ready.length) c6) (.slice A7 ((tellM l).1.leases.length) c8) ((tellM l).1.ws) (.slice A9 ((tellM l).2.1.length) c10)) 203, .rdo 2 A5 ((tellM l).1.ready.length) (((tellM l).1.ready).flatMap Msg.cells), .rdo 4 A7 ((tellM l).1.leases.length) (((tellM l).1.leases).flatMap Ls.cells), .own 93 4 (.slice A9 ((tellM l).2.1.length) c10) ((tellM l).2.1.length) (((tellM l).2.1).flatMap Ans.cells), .rd 6 A l.length ((l).flatMap Ev.cells)] at S2
  refine wL_val (wn rfl) rfl rfl (y_move rfl rfl) ?_
  refine wL_val (wn rfl) rfl rfl (y_extract rfl rfl rfl) ?_
  refine wL_val (wn rfl) rfl rfl (y_extract rfl rfl rfl) ?_
  refine wL_val (wn rfl) rfl rfl (y_assign rfl rfl) ?_
  refine wL_val (wn rfl) rfl rfl (y_assign rfl rfl) ?_
  refine wL_nil (wQ_sub (l' := [(2, _), (3, _), (4, _), (5, _)]) ⟨rfl, rfl, rfl, rfl, trivial⟩ (wQ_then (wC_seq (wC_seq (wC_region (wL_val (wn rfl) rfl rfl (y_move rfl rfl) ?_))))))
  refine wL_val (v := .bool false) (wn rfl) rfl rfl (y_binop rfl rfl rfl (r_neq_f rfl)) ?_
  refine wL_nil (wQ_sub (l' := [(2, _), (3, _), (4, _), (5, _), (12, _)]) ⟨rfl, rfl, rfl, rfl, rfl, trivial⟩ (wQ_then (wC_cond_f rfl (wC_skip (wQ_then (wC_seq (wC_region (wL_val (wn rfl) rfl rfl (y_move rfl rfl) ?_))))))))
  refine wL_val (wn rfl) rfl rfl (y_nil rfl rfl trivial) ?_
  refine wL_val (v := .pointer (some ⟨b4, 41, none⟩)) (wn rfl) rfl rfl (y_fieldAddr rfl rfl (fa203_1 _ _ _)) ?_
  refine wL_val (wn rfl) rfl rfl (y_load rfl rfl (r_load Try.underlying103 rfl (St.cl 0 S2 rfl rfl))) ?_
  refine wL_val (wn rfl) rfl rfl (y_assign rfl rfl) ?_
  refine wL_val (wn rfl) rfl rfl (y_assign rfl rfl) ?_
  refine wL_nil (wQ_sub (l' := [(2, _), (3, _)]) ⟨rfl, rfl, trivial⟩ (wQ_then (wC_ret (wQ_post (rs := [.tmp 2, .tmp 3]) (vs := [.slice A9 ((tellM l).2.1.length) c10, .int .i64 0]) rfl ⟨rfl, rfl, trivial⟩ ?_))))
  have S11 : St w.heap.size w w1 [_] := S2.re [3] (by decide); clear S2
  have S12 := S11.sealAll 0 rfl; clear S11
  change St _ _ _ [.rdo 4 A9 ((tellM l).2.1.length) (((tellM l).2.1).flatMap Ans.cells)] at S12
  refine ⟨A9, c10, ?_, S12⟩
  rw [ht]; rfl
 ·refine wL_call (vs := [.slice A l.length c]) (wn rfl) rfl rfl (e_call (vs := [.slice A l.length c]) rfl en153 ⟨rfl, trivial⟩) ((HT _ (St.rd 0 S rfl)).mono fun _ _ h => h.2 ht) ?_
  rintro _ w13 ⟨rfl, T15⟩
  refine ⟨_, rfl, ?_⟩
  have S14 := S.on T15; clear HT T15 S
  change St _ _ _ [.rd 6 A l.length ((l).flatMap Ev.cells)] at S14
  refine wL_val (wn rfl) rfl rfl (y_move rfl rfl) ?_
  refine wL_val (wn rfl) rfl rfl (y_extract rfl rfl rfl) ?_
  refine wL_val (wn rfl) rfl rfl (y_extract rfl rfl rfl) ?_
  refine wL_val (wn rfl) rfl rfl (y_assign rfl rfl) ?_
  refine wL_val (wn rfl) rfl rfl (y_assign rfl rfl) ?_
  refine wL_nil (wQ_sub (l' := [(2, _), (3, _), (4, _), (5, _)]) ⟨rfl, rfl, rfl, rfl, trivial⟩ (wQ_then (wC_seq (wC_seq (wC_region (wL_val (wn rfl) rfl rfl (y_move rfl rfl) ?_))))))
  refine wL_val (v := .bool true) (wn rfl) rfl rfl (y_binop rfl rfl rfl (r_neq_t ht)) ?_
  refine wL_nil (wQ_sub (l' := [(2, _), (3, _), (4, _), (5, _), (12, _)]) ⟨rfl, rfl, rfl, rfl, rfl, trivial⟩ (wQ_then (wC_cond_t rfl (wC_seq (wC_region (wL_val (wn rfl) rfl rfl (y_move rfl rfl) ?_))))))
  refine wL_val (wn rfl) rfl rfl (y_assign rfl rfl) ?_
  refine wL_val (wn rfl) rfl rfl (y_assign rfl rfl) ?_
  refine wL_nil (wQ_sub (l' := [(2, _), (3, _)]) ⟨rfl, rfl, trivial⟩ (wQ_then (wC_ret (wQ_then_ret (wQ_post (rs := [.tmp 2, .tmp 3]) (vs := [.slice none 0 0, .int .i64 ((tellM l).2.2)]) rfl ⟨rfl, rfl, trivial⟩ ?_)))))
  have S16 : St w.heap.size w w13 [] := (St.del 0 S14); clear S14
  have hz := tellM_zero ht
  refine ⟨none, 0, ?_, ?_⟩
  · rw [hz.2]; rfl
  · rw [hz.2]; exact rdo_nil S16

set_option maxRecDepth 100000 in
set_option maxHeartbeats 1000000 in
theorem AnswersOf_calls (A : Option Addr) (c : Nat) (l : List Ev) (w : World) (h : Rd w w.heap.size 6 A l.length (evCells l)) (hl : l.length ≤ 1152921504606846976) :
    Calls Try.prog 74 #[.slice A l.length c] w (AnswersPost w (tellM l)) := by
 have S := (St.start w).addRd h; clear h
 refine calls_of_wC (N := 15) (vs := [.slice A l.length c]) Try.func74 rfl rfl rfl ?_
 refine wC_sub (l' := [(0, .slice A l.length c)]) ⟨rfl, trivial⟩ (wC_seq (wC_region (wL_val (wn rfl) rfl rfl (y_assign rfl rfl) ?_)))
 refine wL_val (wn rfl) rfl rfl (y_assign rfl rfl) ?_
 refine wL_nil (wQ_then (wC_seq (wC_region (wL_val (wn rfl) rfl rfl (y_move rfl rfl) ?_))))
 refine wL_call (vs := [.slice A l.length c]) (wn rfl) rfl rfl (e_call (vs := [.slice A l.length c]) rfl en154 ⟨rfl, trivial⟩) (Told_calls A c l _ (St.rd 0 S rfl) hl) ?_
 rintro _ w7 ⟨A1, c2, A3, c4, A5, c6, rfl, T9⟩
 refine ⟨_, rfl, ?_⟩
 have S8 := S.ext T9 rfl; clear T9 S
 change St _ _ _ [.rdo 2 A1 ((tellM l).1.ready.length) (((tellM l).1.ready).flatMap Msg.cells), .rdo 4 A3 ((tellM l).1.leases.length) (((tellM l).1.leases).flatMap Ls.cells), .rdo 4 A5 ((tellM l).2.1.length) (((tellM l).2.1).flatMap Ans.cells), _] at S8
 refine wL_val (wn rfl) rfl rfl (y_move rfl rfl) ?_
 refine wL_val (wn rfl) rfl rfl (y_extract rfl rfl rfl) ?_
 refine wL_val (wn rfl) rfl rfl (y_extract rfl rfl rfl) ?_
 refine wL_val (wn rfl) rfl rfl (y_extract rfl rfl rfl) ?_
 refine wL_new (V := fun b => .pointer (some ⟨b, 0, none⟩)) (row := qRow 0 0 0 (.slice none 0 0) (.slice none 0 0) zeroWs) (t := 29) S8 (wn rfl) rfl rfl (d_alloc rfl (Try.zeroValue29 _) rfl) ?_; intro b10 w11 S12; clear S8
 refine wL_st (fs' := [_, _, _, _, _]) 0 S12 (wn rfl) rfl rfl rfl rfl rfl rfl inf29 rfl (qRow_one rfl rfl) (Nat.le_of_ble_eq_true rfl) (setAll_all rfl) rfl ?_; intro w13 S14; clear S12
 refine wL_val (wn rfl) rfl rfl (y_assign rfl rfl) ?_
 refine wL_val (wn rfl) rfl rfl (y_assign rfl rfl) ?_
 refine wL_nil (wQ_sub (l' := [(2, _), (3, _), (5, _), (6, _)]) ⟨rfl, rfl, rfl, rfl, trivial⟩ (wQ_then (wC_seq (wC_region (wL_val (wn rfl) rfl rfl (y_move rfl rfl) ?_)))))
 refine wL_val (wn rfl) rfl rfl (y_move rfl rfl) ?_
 refine wL_val (wn rfl) rfl rfl (y_assign rfl rfl) ?_
 refine wL_val (wn rfl) rfl rfl (y_assign rfl rfl) ?_
 refine wL_nil (wQ_sub (l' := [(2, _), (3, _)]) ⟨rfl, rfl, trivial⟩ (wQ_then (wC_ret (wQ_post (rs := [.tmp 2, .tmp 3]) (vs := [.slice A5 ((tellM l).2.1.length) c6, .int .i64 ((tellM l).2.2)]) rfl ⟨rfl, rfl, trivial⟩ ?_))))
 have S15 : St w.heap.size w w13 [_] := S14.re [3] (by decide); clear S14
 exact ⟨A5, c6, rfl, S15⟩
end Go.Proofs.Ytkjlafpafmihaaa

namespace Go.Proofs.Ytkjlafpafmihaaa
open Go.ChangeShapes Go.WideShapes Go.RowKit

set_option maxRecDepth 100000 in
theorem ans_neq (x : Ans) (w : World) : (binOp .neq 93 (.agg (x.cells).toArray) (.agg (x.cells).toArray)).run Try.prog w = .ok (.bool false) w :=
  run_neq_self w (l := (.at_ (.int .i64) :: .at_ (.int .i64) :: .at_ (.int .i64) :: .at_ (.int .i64) :: [])) (by kernel_rfl) (by kernel_rfl) (fun xs => by unfold mkV; rw [Try.underlying93]) ⟨⟨_, rfl⟩, ⟨_, rfl⟩, ⟨_, rfl⟩, ⟨_, rfl⟩, trivial⟩

set_option maxRecDepth 100000 in
set_option maxHeartbeats 2000000 in
theorem sameAnswers_calls (A A' : Option Addr) (c c' : Nat) (l : List Ans) (w : World) (h : Rd w w.heap.size 4 A l.length ((l).flatMap Ans.cells)) (h' : Rd w w.heap.size 4 A' l.length ((l).flatMap Ans.cells)) (hl : l.length ≤ 1152921504606846976) :
    Calls Try.prog 75 #[.slice A l.length c, .slice A' l.length c'] w (BoolB w true) := by
 have S := ((St.start w).addRd h').addRd h
 refine calls_of_wC (N := 26) (vs := [.slice A l.length c, .slice A' l.length c']) Try.func75 rfl rfl rfl ?_
 refine wC_sub (l' := [(0, .slice A l.length c), (1, .slice A' l.length c')]) ⟨rfl, rfl, trivial⟩ (wC_seq (wC_region (wL_val (wn rfl) rfl rfl (y_assign rfl rfl) ?_)))
 refine wL_nil (wQ_then (wC_seq (wC_seq (wC_region (wL_val (wn rfl) rfl rfl (y_move rfl rfl) ?_)))))
 refine wL_val (v := .int .i64 ((l.length : Nat) : Int)) (wn rfl) rfl rfl (y_builtin (vs := [.slice A l.length c]) rfl ⟨rfl, trivial⟩ fun _ => r_len rfl Try.underlying103) ?_
 refine wL_val (wn rfl) rfl rfl (y_move rfl rfl) ?_
 refine wL_val (v := .int .i64 ((l.length : Nat) : Int)) (wn rfl) rfl rfl (y_builtin (vs := [.slice A' l.length c']) rfl ⟨rfl, trivial⟩ fun _ => r_len rfl Try.underlying103) ?_
 refine wL_val (v := .bool false) (wn rfl) rfl rfl (y_binop rfl rfl rfl (r_neq_f rfl)) ?_
 refine wL_nil (wQ_sub (l' := [(0, _), (1, _), (4, _), (10, _)]) ⟨rfl, rfl, rfl, rfl, trivial⟩ (wQ_then (wC_cond_f rfl (wC_skip (wQ_then (wC_seq (wC_seq (wC_region (wL_val (wn rfl) rfl rfl (y_assign rfl rfl) ?_)))))))))
 refine wL_nil (wQ_sub (l' := [(0, _), (1, _), (4, _), (5, _)]) ⟨rfl, rfl, rfl, rfl, trivial⟩ (wQ_then (wC_block (wC_loop (X := Nat) (fun xv => [(0, .slice A l.length c), (1, .slice A' l.length c'), (4, .bool false), (5, .int .i64 ((xv : Nat) : Int))]) (fun xv wr => (xv ≤ l.length) ∧ St w.heap.size w wr [.rd 4 A l.length ((l).flatMap Ans.cells), .rd 4 A' l.length ((l).flatMap Ans.cells)]) (fun xv => l.length - xv) (0) ?_ ?_ ?_))))
 ·exact ⟨Nat.zero_le _, S⟩
 ·exact ⟨rfl, rfl, rfl, rfl, trivial⟩
 ·rintro k w1 ⟨hi3, S2⟩
  try dsimp only at hi3 S2; clear S
  refine wC_sub (l' := [(0, .slice A l.length c), (1, .slice A' l.length c'), (4, .bool false), (5, .int .i64 ((k : Nat) : Int))]) ⟨rfl, rfl, rfl, rfl, trivial⟩ (wC_seq (wC_seq (wC_region (wL_val (wn rfl) rfl rfl (y_move rfl rfl) ?_))))
  refine wL_val (wn rfl) rfl rfl (y_move rfl rfl) ?_
  refine wL_val (v := .int .i64 ((l.length : Nat) : Int)) (wn rfl) rfl rfl (y_builtin (vs := [.slice A l.length c]) rfl ⟨rfl, trivial⟩ fun _ => r_len rfl Try.underlying103) ?_
  by_cases h4 : ((k : Nat) : Int) < ((l.length : Nat) : Int)
  ·refine wL_val (v := .bool true) (wn rfl) rfl rfl (y_binop rfl rfl rfl (r_lss_t h4)) ?_
   refine wL_nil (wQ_sub (l' := [(0, _), (1, _), (4, _), (5, _), (14, _)]) ⟨rfl, rfl, rfl, rfl, rfl, trivial⟩ (wQ_then (wC_cond_t rfl (wC_skip (wQ_then (wC_seq (wC_block (wC_seq (wC_quiet S2 mixed (by kernel_rfl) ?_)))))))))
   refine wU_val (v := .slice A l.length c) (wn rfl) rfl rfl (fun _ _ => (y_move rfl rfl)) ?_
   refine wU_val (v := .int .i64 ((k : Nat) : Int)) (wn rfl) rfl rfl (fun _ _ => (y_move rfl rfl)) ?_
   obtain ⟨b7, o8, rfl⟩ := Rd.addr (St.rd 0 S2 rfl) (by omega)
   obtain ⟨x9, hx10⟩ : ∃ x, (l)[k]? = some x := ⟨_, List.getElem?_eq_getElem (by have := (St.rd 0 S2 rfl).1; rw [fm_len (sz := 4) (fun _ => rfl)] at this; omega)⟩
   refine wU_val (v := .pointer (some ⟨b7, o8 + k * 4, none⟩)) (wn rfl) rfl rfl (fun _ _ => (y_indexAddr rfl rfl rfl (r_indexAddr k Try.underlying103 inf93 (by omega) (by omega)))) ?_
   refine wU_val (v := .agg #[.int .i64 x9.code, .int .i64 x9.hep, .int .i64 x9.hno, .int .i64 x9.body]) (wn rfl) rfl rfl (fun _ Sx12 => (y_load rfl rfl (r_load_agg (cs := Ans.cells x9) Try.underlying93 rfl inf93 rfl (Rd.rg2 (St.rd 0 Sx12 rfl) (fun _ _ h => fm_get (enc := Ans.cells) (sz := 4) (fun _ => rfl) hx10 h))))) ?_
   refine wU_val (v := .slice A' l.length c') (wn rfl) rfl rfl (fun _ _ => (y_move rfl rfl)) ?_
   refine wU_val (v := .int .i64 ((k : Nat) : Int)) (wn rfl) rfl rfl (fun _ _ => (y_move rfl rfl)) ?_
   obtain ⟨b15, o16, rfl⟩ := Rd.addr (St.rd 1 S2 rfl) (by omega)
   refine wU_val (v := .pointer (some ⟨b15, o16 + k * 4, none⟩)) (wn rfl) rfl rfl (fun _ _ => (y_indexAddr rfl rfl rfl (r_indexAddr k Try.underlying103 inf93 (by omega) (by omega)))) ?_
   refine wU_val (v := .agg #[.int .i64 x9.code, .int .i64 x9.hep, .int .i64 x9.hno, .int .i64 x9.body]) (wn rfl) rfl rfl (fun _ Sx18 => (y_load rfl rfl (r_load_agg (cs := Ans.cells x9) Try.underlying93 rfl inf93 rfl (Rd.rg2 (St.rd 1 Sx18 rfl) (fun _ _ h => fm_get (enc := Ans.cells) (sz := 4) (fun _ => rfl) hx10 h))))) ?_
   refine wU_val (v := .bool false) (wn rfl) rfl rfl (fun _ _ => (y_binop rfl rfl rfl (r_eqg (by kernel_rfl) (ans_neq x9  _)))) ?_
   refine wU_nil fun w20 S21 => ?_; clear S2
   refine wQ_sub (l' := [(0, _), (1, _), (4, _), (5, _), (25, _)]) ⟨rfl, rfl, rfl, rfl, rfl, trivial⟩ (wQ_then (wC_cond_f rfl (wC_skip (wQ_blk_n (wQ_then (wC_region (wL_val (wn rfl) rfl rfl (y_move rfl rfl) ?_)))))))
   refine wL_val (v := .int .i64 ((k + 1 : Nat) : Int)) (wn rfl) rfl rfl (y_binop rfl rfl rfl (r_add (by omega) (by omega))) ?_
   refine wL_val (wn rfl) rfl rfl (y_assign rfl rfl) ?_
   refine wL_nil (wQ_sub (l' := [(0, _), (1, _), (4, _), (5, _)]) ⟨rfl, rfl, rfl, rfl, trivial⟩ (wQ_round (k + 1) ?_ ⟨rfl, rfl, rfl, rfl, trivial⟩ (by first | omega | (dsimp only; omega))))
   exact ⟨(by omega), S21⟩
  ·refine wL_val (v := .bool false) (wn rfl) rfl rfl (y_binop rfl rfl rfl (r_lss_f h4)) ?_
   refine wL_nil (wQ_sub (l' := [(0, _), (1, _), (4, _), (5, _), (14, _)]) ⟨rfl, rfl, rfl, rfl, rfl, trivial⟩ (wQ_then (wC_cond_f rfl (wC_exit (wQ_then_exit (wQ_then_exit (wQ_blk_same (wQ_then (wC_seq (wC_region (wL_val (wn rfl) rfl rfl (y_assign rfl rfl) ?_)))))))))))
   refine wL_nil (wQ_sub (l' := [(4, _)]) ⟨rfl, trivial⟩ (wQ_then (wC_ret (wQ_post (rs := [.tmp 4]) (vs := [.bool true]) rfl ⟨rfl, trivial⟩ ?_))))
   exact ⟨rfl, S2.low⟩

set_option maxRecDepth 100000 in
set_option maxHeartbeats 1000000 in
theorem historyAnswers_calls (A : Option Addr) (c : Nat) (l : List Ev) (w : World) (h : Rd w w.heap.size 6 A l.length (evCells l)) (hb : l.length * 48 ≤ reachBytes) :
    Calls Try.prog 17 #[.slice A l.length c] w fun e w' => e = .returned (.bool true) ∧ Below w.heap.size w w' := by
 have S := (St.start w).addRd h; clear h
 have hl : l.length ≤ 1152921504606846976 := by unfold reachBytes at hb; omega
 have hq := tellM_qlen (l := l)
 have ha := tellM_alen (l := l)
 have hb2 := hb
 unfold reachBytes at hb2
 refine calls_of_wC (N := 26) (vs := [.slice A l.length c]) Try.func17 rfl rfl rfl ?_
 refine wC_sub (l' := [(0, .slice A l.length c)]) ⟨rfl, trivial⟩ (wC_seq (wC_region (wL_val (wn rfl) rfl rfl (y_assign rfl rfl) ?_)))
 refine wL_nil (wQ_then (wC_seq (wC_region (wL_val (wn rfl) rfl rfl (y_move rfl rfl) ?_))))
 refine wL_call (vs := [.slice A l.length c]) (wn rfl) rfl rfl (e_call (vs := [.slice A l.length c]) rfl en69 ⟨rfl, trivial⟩) (events_calls A c l _ (St.rd 0 S rfl) hb) ?_
 rintro _ w5 ⟨A1, c2, rfl, hb3, ho4⟩
 refine ⟨_, rfl, ?_⟩
 have S6 := S.onOwn hb3 ho4; clear hb3 ho4 S
 change St _ _ _ [.own 37 6 (.slice A1 l.length c2) l.length ((l).flatMap Ev.cells), _] at S6
 refine wL_call (vs := [.slice A1 l.length c2]) (wn rfl) rfl rfl (e_call (vs := [.slice A1 l.length c2]) rfl en73 ⟨rfl, trivial⟩) (Answers_calls A1 c2 l _ (St.ord 0 S6 rfl) hl) ?_
 rintro _ w9 ⟨A7, c8, rfl, T11⟩
 refine ⟨_, rfl, ?_⟩
 have S10 := S6.ext T11 rfl; clear T11 S6
 change St _ _ _ [.rdo 4 A7 ((tellM l).2.1.length) (((tellM l).2.1).flatMap Ans.cells), _, _] at S10
 refine wL_val (wn rfl) rfl rfl (y_move rfl rfl) ?_
 refine wL_val (wn rfl) rfl rfl (y_extract rfl rfl rfl) ?_
 refine wL_val (wn rfl) rfl rfl (y_extract rfl rfl rfl) ?_
 refine wL_val (wn rfl) rfl rfl (y_assign rfl rfl) ?_
 refine wL_val (wn rfl) rfl rfl (y_assign rfl rfl) ?_
 refine wL_nil (wQ_sub (l' := [(0, _), (2, _), (3, _), (4, _)]) ⟨rfl, rfl, rfl, rfl, trivial⟩ (wQ_then (wC_seq (wC_region (wL_val (wn rfl) rfl rfl (y_move rfl rfl) ?_)))))
 refine wL_call (vs := [.slice A l.length c]) (wn rfl) rfl rfl (e_call (vs := [.slice A l.length c]) rfl en74 ⟨rfl, trivial⟩) (AnswersOf_calls A c l _ (St.rd 2 S10 rfl) hl) ?_
 rintro _ w14 ⟨A12, c13, rfl, T16⟩
 refine ⟨_, rfl, ?_⟩
 have S15 := S10.ext T16 rfl; clear T16 S10
 change St _ _ _ [.rdo 4 A12 ((tellM l).2.1.length) (((tellM l).2.1).flatMap Ans.cells), _, _, _] at S15
 refine wL_val (wn rfl) rfl rfl (y_move rfl rfl) ?_
 refine wL_val (wn rfl) rfl rfl (y_extract rfl rfl rfl) ?_
 refine wL_val (wn rfl) rfl rfl (y_extract rfl rfl rfl) ?_
 refine wL_val (wn rfl) rfl rfl (y_assign rfl rfl) ?_
 refine wL_val (wn rfl) rfl rfl (y_assign rfl rfl) ?_
 refine wL_nil (wQ_sub (l' := [(2, _), (3, _), (4, _), (5, _), (6, _)]) ⟨rfl, rfl, rfl, rfl, rfl, trivial⟩ (wQ_then (wC_seq (wC_region (wL_val (wn rfl) rfl rfl (y_move rfl rfl) ?_)))))
 refine wL_val (wn rfl) rfl rfl (y_move rfl rfl) ?_
 refine wL_val (v := .bool true) (wn rfl) rfl rfl (y_binop rfl rfl rfl (r_eql_t rfl)) ?_
 refine wL_val (wn rfl) rfl rfl (y_move rfl rfl) ?_
 refine wL_val (wg rfl rfl rfl rfl) rfl rfl (y_move rfl rfl) ?_
 refine wL_val (wg rfl rfl rfl rfl) rfl rfl (y_move rfl rfl) ?_
 refine wL_call (vs := [.slice A7 ((tellM l).2.1.length) c8, .slice A12 ((tellM l).2.1.length) c13]) (wg rfl rfl rfl rfl) rfl rfl (e_call (vs := [.slice A7 ((tellM l).2.1.length) c8, .slice A12 ((tellM l).2.1.length) c13]) rfl en75 ⟨rfl, rfl, trivial⟩) (sameAnswers_calls A7 A12 c8 c13 _ _ (St.rdo 1 S15 rfl) (St.rdo 0 S15 rfl) (by omega)) ?_
 rintro _ w17 ⟨rfl, hb19⟩
 refine ⟨_, rfl, ?_⟩
 have S18 := S15.on hb19; clear hb19 S15
 refine wL_val (wn rfl) rfl rfl (y_pick_t rfl rfl rfl) ?_
 refine wL_val (wn rfl) rfl rfl (y_assign rfl rfl) ?_
 refine wL_nil (wQ_sub (l' := [(2, _)]) ⟨rfl, trivial⟩ (wQ_then (wC_ret (wQ_post (rs := [.tmp 2]) (vs := [.bool true]) rfl ⟨rfl, trivial⟩ ?_))))
 exact ⟨rfl, S18.low⟩

set_option maxRecDepth 100000 in
theorem historyAnswers_walk (W : World) (args : Array Value) (h : All2 (ArgOk Try.prog W) args.toList Try.f17.params.toList) :
    Calls Try.prog 17 args W fun e W' => e = .returned (.bool true) ∧ Below W.heap.size W W' := by
  rw [Try.params17] at h
  obtain ⟨v, l1, hv, h1, h0⟩ := All2.cons_ h
  have h4 := All2.nil_ h0
  subst h4
  obtain rfl : args = #[v] := by cases args; simp_all
  obtain ⟨A, n, c, l, rfl, hr, hn, hc, hb, _⟩ := arg_events h1
  obtain rfl := hr.ev_len
  exact historyAnswers_calls A c l W hr (by omega)
end Go.Proofs.Ytkjlafpafmihaaa

