/- Parts of proofs: lemmas on memory, on single functions and on the plain models; no condition of their own. -/
import Derived.Test.YtkjlafpafmihaaaRows
import Derived.WalkKit
import Derived.ProofKit
import Derived.OpenShut
import Derived.SizedLaws
import Derived.WalkSpells
import Derived.WalkLawsBesides
import Derived.Handy
import Derived.Deep.QuietTactic
import Derived.BigQuiet
import Derived.Lib.Hide
import Derived.Maps.AppendAt
import Derived.Deep.AppendLies
import Derived.RegionTactic
import Derived.OwnWalk
import Derived.Laws.Tables
import Derived.Deep.MidRow
import Derived.StillTailTactics
import Derived.OrdersHeld
import Derived.Deep.RegionHeld3
import Derived.Laws.IdiomCopy
import Derived.ChangeKeysEq
import Derived.Laws.BitsAllLaws
import Derived.Deep.DeepCutAuto
import Derived.Deep.CutRange
import Derived.Shelf.SlSortCmp.WholeK
import Derived.Shelf.SlSortCmp.NoneTotal
import Derived.Shelf.SlicesG.Cmp
import Derived.Shelf.SlGeneric
import Derived.Ground.SlsfProg
import Derived.Ground.SlgcProg
import Derived.Maps.OwnSet
import Derived.Lib.SliceRun
import Derived.Deep.RegionLaw
import Derived.Test.YtkjlafpafmihaaaG0e35ec4e0bdc
import Derived.Test.YtkjlafpafmihaaaG1ad51a58616a
import Derived.Test.YtkjlafpafmihaaaG2143c9b0b786
import Derived.Test.YtkjlafpafmihaaaG28cc7d8f5c78
import Derived.Test.YtkjlafpafmihaaaG371410bb1a9a
import Derived.Test.YtkjlafpafmihaaaG3c0105795df2
import Derived.Test.YtkjlafpafmihaaaG3cad135f796d
import Derived.Test.YtkjlafpafmihaaaG49c3e225c496
import Derived.Test.YtkjlafpafmihaaaG639fd641cb7f
import Derived.Test.YtkjlafpafmihaaaG668153da7687
import Derived.Test.YtkjlafpafmihaaaG728b59412085
import Derived.Test.YtkjlafpafmihaaaG7d077057f4b7
import Derived.Test.YtkjlafpafmihaaaG95288c2830db
import Derived.Test.YtkjlafpafmihaaaG9d6a0cc61d66
import Derived.Test.YtkjlafpafmihaaaGa89c1a6f9966
import Derived.Test.YtkjlafpafmihaaaGa956530333d6
import Derived.Test.YtkjlafpafmihaaaGad4fca606e19
import Derived.Test.YtkjlafpafmihaaaGb705d1f06a25
import Derived.Test.YtkjlafpafmihaaaGc78e27da6ed6
import Derived.Test.YtkjlafpafmihaaaGe3070c7ed4e5
import Derived.Test.YtkjlafpafmihaaaGe49d3faae9e4
import Derived.Test.YtkjlafpafmihaaaGedeed8e41c13
import Derived.Test.YtkjlafpafmihaaaGf3cc171333c0
import Derived.Test.YtkjlafpafmihaaaGfed51b8f206e
set_option linter.unusedVariables false
set_option linter.unusedSimpArgs false

namespace Go.Proofs.Ytkjlafpafmihaaa
open Go.ChangeShapes Go.WideShapes Go.RowKit

set_option maxRecDepth 100000 in
set_option maxHeartbeats 1000000 in
theorem historyReplays_calls (A : Option Addr) (c : Nat) (l : List Ev) (w : World) (h : Rd w w.heap.size 6 A l.length (evCells l)) (hb : l.length * 48 ≤ reachBytes) :
    Calls Try.prog 16 #[.slice A l.length c] w fun e w' => e = .returned (.bool true) ∧ Below w.heap.size w w' := by
 have S := (St.start w).addRd h; clear h
 have hl : l.length ≤ 1152921504606846976 := by unfold reachBytes at hb; omega
 have hq := tellM_qlen (l := l)
 have ha := tellM_alen (l := l)
 have hb2 := hb
 unfold reachBytes at hb2
 refine calls_of_wC (N := 33) (vs := [.slice A l.length c]) Try.func16 rfl rfl rfl ?_
 refine wC_sub (l' := [(0, .slice A l.length c)]) ⟨rfl, trivial⟩ (wC_seq (wC_region (wL_val (wn rfl) rfl rfl (y_assign rfl rfl) ?_)))
 refine wL_nil (wQ_then (wC_seq (wC_region (wL_val (wn rfl) rfl rfl (y_move rfl rfl) ?_))))
 refine wL_call (vs := [.slice A l.length c]) (wn rfl) rfl rfl (e_call (vs := [.slice A l.length c]) rfl en69 ⟨rfl, trivial⟩) (events_calls A c l _ (St.rd 0 S rfl) hb) ?_
 rintro _ w5 ⟨A1, c2, rfl, hb3, ho4⟩
 refine ⟨_, rfl, ?_⟩
 have S6 := S.onOwn hb3 ho4; clear hb3 ho4 S
 change St _ _ _ [.own 37 6 (.slice A1 l.length c2) l.length ((l).flatMap Ev.cells), _] at S6
 refine wL_val (wn rfl) rfl rfl (y_assign rfl rfl) ?_
 refine wL_nil (wQ_sub (l' := [(0, _), (2, _), (3, _)]) ⟨rfl, rfl, rfl, trivial⟩ (wQ_then (wC_seq (wC_region (wL_val (wn rfl) rfl rfl (y_move rfl rfl) ?_)))))
 refine wL_call (vs := [.slice A1 l.length c2]) (wn rfl) rfl rfl (e_call (vs := [.slice A1 l.length c2]) rfl en70 ⟨rfl, trivial⟩) (Replay_calls A1 c2 l _ (St.ord 0 S6 rfl) hl) ?_
 rintro _ w11 ⟨A7, c8, A9, c10, rfl, T13⟩
 refine ⟨_, rfl, ?_⟩
 have S12 := S6.ext T13 rfl; clear T13 S6
 change St _ _ _ [.rdo 2 A7 ((tellM l).1.ready.length) (((tellM l).1.ready).flatMap Msg.cells), .rdo 4 A9 ((tellM l).1.leases.length) (((tellM l).1.leases).flatMap Ls.cells), _, _] at S12
 refine wL_val (wn rfl) rfl rfl (y_move rfl rfl) ?_
 refine wL_val (wn rfl) rfl rfl (y_extract rfl rfl rfl) ?_
 refine wL_val (wn rfl) rfl rfl (y_extract rfl rfl rfl) ?_
 refine wL_new (V := fun b => .pointer (some ⟨b, 0, none⟩)) (row := qRow 0 0 0 (.slice none 0 0) (.slice none 0 0) zeroWs) (t := 29) S12 (wn rfl) rfl rfl (d_alloc rfl (Try.zeroValue29 _) rfl) ?_; intro b14 w15 S16; clear S12
 refine wL_st (fs' := [_, _, _, _, _]) 0 S16 (wn rfl) rfl rfl rfl rfl rfl rfl inf29 rfl (qRow_one rfl rfl) (Nat.le_of_ble_eq_true rfl) (setAll_all rfl) rfl ?_; intro w17 S18; clear S16
 refine wL_val (wn rfl) rfl rfl (y_assign rfl rfl) ?_
 refine wL_nil (wQ_sub (l' := [(0, _), (2, _), (3, _), (4, _), (5, _)]) ⟨rfl, rfl, rfl, rfl, rfl, trivial⟩ (wQ_then (wC_seq (wC_region (wL_val (wn rfl) rfl rfl (y_move rfl rfl) ?_)))))
 refine wL_call (vs := [.slice A l.length c]) (wn rfl) rfl rfl (e_call (vs := [.slice A l.length c]) rfl en71 ⟨rfl, trivial⟩) (Replayed_calls A c l _ (St.rd 4 S18 rfl) hl) ?_
 rintro _ w23 ⟨A19, c20, A21, c22, rfl, T25⟩
 refine ⟨_, rfl, ?_⟩
 have S24 := S18.ext T25 rfl; clear T25 S18
 change St _ _ _ [.rdo 2 A19 ((tellM l).1.ready.length) (((tellM l).1.ready).flatMap Msg.cells), .rdo 4 A21 ((tellM l).1.leases.length) (((tellM l).1.leases).flatMap Ls.cells), _, _, _, _, _] at S24
 refine wL_val (wn rfl) rfl rfl (y_move rfl rfl) ?_
 refine wL_val (wn rfl) rfl rfl (y_extract rfl rfl rfl) ?_
 refine wL_val (wn rfl) rfl rfl (y_extract rfl rfl rfl) ?_
 refine wL_new (V := fun b => .pointer (some ⟨b, 0, none⟩)) (row := qRow 0 0 0 (.slice none 0 0) (.slice none 0 0) zeroWs) (t := 29) S24 (wn rfl) rfl rfl (d_alloc rfl (Try.zeroValue29 _) rfl) ?_; intro b26 w27 S28; clear S24
 refine wL_st (fs' := [_, _, _, _, _, _, _, _]) 0 S28 (wn rfl) rfl rfl rfl rfl rfl rfl inf29 rfl (qRow_one rfl rfl) (Nat.le_of_ble_eq_true rfl) (setAll_all rfl) rfl ?_; intro w29 S30; clear S28
 refine wL_val (wn rfl) rfl rfl (y_assign rfl rfl) ?_
 refine wL_nil (wQ_sub (l' := [(0, _), (2, _), (3, _), (4, _), (5, _), (6, _), (7, _)]) ⟨rfl, rfl, rfl, rfl, rfl, rfl, rfl, trivial⟩ (wQ_then (wC_seq (wC_region (wL_val (wn rfl) rfl rfl (y_move rfl rfl) ?_)))))
 refine wL_val (wn rfl) rfl rfl (y_move rfl rfl) ?_
 refine wL_val (v := .bool true) (wn rfl) rfl rfl (y_binop rfl rfl rfl (r_eql_t rfl)) ?_
 refine wL_val (wn rfl) rfl rfl (y_move rfl rfl) ?_
 refine wL_val (wg rfl rfl rfl rfl) rfl rfl (y_load rfl rfl (r_load_row 3 S30 rfl Try.underlying29 rfl inf29 rfl)) ?_
 refine wL_val (wg rfl rfl rfl rfl) rfl rfl (y_load rfl rfl (r_load_row 0 S30 rfl Try.underlying29 rfl inf29 rfl)) ?_
 refine wL_call (vs := [.agg (qRow ((tellM l).1.ep) ((tellM l).1.nx) ((tellM l).1.gv) (.slice A7 ((tellM l).1.ready.length) c8) (.slice A9 ((tellM l).1.leases.length) c10) ((tellM l).1.ws)), .agg (qRow ((tellM l).1.ep) ((tellM l).1.nx) ((tellM l).1.gv) (.slice A19 ((tellM l).1.ready.length) c20) (.slice A21 ((tellM l).1.leases.length) c22) ((tellM l).1.ws))]) (wg rfl rfl rfl rfl) rfl rfl (e_call (vs := [.agg (qRow ((tellM l).1.ep) ((tellM l).1.nx) ((tellM l).1.gv) (.slice A7 ((tellM l).1.ready.length) c8) (.slice A9 ((tellM l).1.leases.length) c10) ((tellM l).1.ws)), .agg (qRow ((tellM l).1.ep) ((tellM l).1.nx) ((tellM l).1.gv) (.slice A19 ((tellM l).1.ready.length) c20) (.slice A21 ((tellM l).1.leases.length) c22) ((tellM l).1.ws))]) rfl en68 ⟨rfl, rfl, trivial⟩) (sameQueue_calls (tellM l).1.ep (tellM l).1.nx (tellM l).1.gv A7 A9 A19 A21 c8 c10 c20 c22 (tellM l).1.ready (tellM l).1.leases (tellM l).1.ws _ (St.rdo 4 S30 rfl) (St.rdo 5 S30 rfl) (St.rdo 1 S30 rfl) (St.rdo 2 S30 rfl) (by omega) (by omega)) ?_
 rintro _ w31 ⟨rfl, hb33⟩
 refine ⟨_, rfl, ?_⟩
 have S32 := S30.on hb33; clear hb33 S30
 refine wL_val (wn rfl) rfl rfl (y_pick_t rfl rfl rfl) ?_
 refine wL_val (wn rfl) rfl rfl (y_move rfl rfl) ?_
 refine wL_val (wg rfl rfl rfl rfl) rfl rfl (y_move rfl rfl) ?_
 refine wL_val (wg rfl rfl rfl rfl) rfl rfl (y_move rfl rfl) ?_
 refine wL_call (vs := [.slice A1 l.length c2, .slice A l.length c]) (wg rfl rfl rfl rfl) rfl rfl (e_call (vs := [.slice A1 l.length c2, .slice A l.length c]) rfl en72 ⟨rfl, rfl, trivial⟩) (sameEvents_t (St.ord 6 S32 rfl) (St.rd 7 S32 rfl) (by simp only [maxLen]; omega) (by simp only [maxLen]; omega)) ?_
 rintro _ w34 ⟨rfl, hb36⟩
 refine ⟨_, rfl, ?_⟩
 have S35 := S32.on hb36; clear hb36 S32
 refine wL_val (wn rfl) rfl rfl (y_pick_t rfl rfl rfl) ?_
 refine wL_val (wn rfl) rfl rfl (y_assign rfl rfl) ?_
 refine wL_nil (wQ_sub (l' := [(2, _)]) ⟨rfl, trivial⟩ (wQ_then (wC_ret (wQ_post (rs := [.tmp 2]) (vs := [.bool true]) rfl ⟨rfl, trivial⟩ ?_))))
 exact ⟨rfl, S35.low⟩

set_option maxRecDepth 100000 in
theorem historyReplays_walk (W : World) (args : Array Value) (h : All2 (ArgOk Try.prog W) args.toList Try.f16.params.toList) :
    Calls Try.prog 16 args W fun e W' => e = .returned (.bool true) ∧ Below W.heap.size W W' := by
  rw [Try.params16] at h
  obtain ⟨v, l1, hv, h1, h0⟩ := All2.cons_ h
  have h4 := All2.nil_ h0
  subst h4
  obtain rfl : args = #[v] := by cases args; simp_all
  obtain ⟨A, n, c, l, rfl, hr, hn, hc, hb, _⟩ := arg_events h1
  obtain rfl := hr.ev_len
  exact historyReplays_calls A c l W hr (by omega)
end Go.Proofs.Ytkjlafpafmihaaa

