/- Parts of proofs: lemmas on memory, on single functions and on the plain models; no condition of their own. -/
import Derived.Test.YtkjlafpafmihaaaRows
import Derived.WalkKit
import Derived.ProofKit
import Derived.OpenShut
import Derived.SizedLaws
import Derived.WalkSpells
import Derived.WalkLawsBesides
import Derived.Handy
import Derived.Deep.QuietTactic
import Derived.BigQuiet
import Derived.Lib.Hide
import Derived.Maps.AppendAt
import Derived.Deep.AppendLies
import Derived.RegionTactic
import Derived.OwnWalk
import Derived.Laws.Tables
import Derived.Deep.MidRow
import Derived.StillTailTactics
import Derived.OrdersHeld
import Derived.Deep.RegionHeld3
import Derived.Laws.IdiomCopy
import Derived.ChangeKeysEq
import Derived.Laws.BitsAllLaws
import Derived.Deep.DeepCutAuto
import Derived.Deep.CutRange
import Derived.Shelf.SlSortCmp.WholeK
import Derived.Shelf.SlSortCmp.NoneTotal
import Derived.Shelf.SlicesG.Cmp
import Derived.Shelf.SlGeneric
import Derived.Ground.SlsfProg
import Derived.Ground.SlgcProg
import Derived.Maps.OwnSet
import Derived.Lib.SliceRun
import Derived.Deep.RegionLaw
import Derived.Test.YtkjlafpafmihaaaG0768a3dac2e7
import Derived.Test.YtkjlafpafmihaaaG235dffc219c5
import Derived.Test.YtkjlafpafmihaaaG3a09ee29adfd
import Derived.Test.YtkjlafpafmihaaaG53d9860cd554
import Derived.Test.YtkjlafpafmihaaaG5a4470397ed8
import Derived.Test.YtkjlafpafmihaaaG6c7d926bdf1e
import Derived.Test.YtkjlafpafmihaaaG81ad69197681
import Derived.Test.YtkjlafpafmihaaaG8c8ada4b342a
import Derived.Test.YtkjlafpafmihaaaG90f7600ce72e
import Derived.Test.YtkjlafpafmihaaaG9b85a56455eb
import Derived.Test.YtkjlafpafmihaaaGbea5e349a2aa
import Derived.Test.YtkjlafpafmihaaaGc91015c24562
import Derived.Test.YtkjlafpafmihaaaGcd1d2a0662d0
import Derived.Test.YtkjlafpafmihaaaGd5358a42e1a9
import Derived.Test.YtkjlafpafmihaaaGd7f7ec5356a9
import Derived.Test.YtkjlafpafmihaaaGdb62e807c2bc
set_option linter.unusedVariables false
set_option linter.unusedSimpArgs false

namespace Go.Proofs.Ytkjlafpafmihaaa
open Go.ChangeShapes Go.WideShapes Go.RowKit

theorem fm_app {l k : List Ev} : l.flatMap Ev.cells ++ k.flatMap Ev.cells = (l ++ k).flatMap Ev.cells := by simp

set_option maxRecDepth 100000 in
set_option maxHeartbeats 1000000 in
theorem with_calls (ro ep fr tg rd : Int) (A : Option Addr) (c : Nat) (l : List Ev) (A' : Option Addr) (c' : Nat) (k : List Ev) (w : World) (h : Rd w w.heap.size 6 A l.length (evCells l)) (h' : Rd w w.heap.size 6 A' k.length (evCells k)) (hb : (l.length + k.length) * 48 ≤ reachBytes) :
    Calls Try.prog 160 #[.agg #[.int .i64 ro, .int .i64 ep, .int .i64 fr, .int .i64 tg, .int .i64 rd, .slice A l.length c], .slice A' k.length c'] w (WithPost w ro ep fr tg rd (l ++ k)) := by
 have S := ((St.start w).addRd h').addRd h; clear h h'
 unfold reachBytes at hb
 refine calls_of_wC (N := 12) (vs := [.agg #[.int .i64 ro, .int .i64 ep, .int .i64 fr, .int .i64 tg, .int .i64 rd, .slice A l.length c], .slice A' k.length c']) Try.func160 rfl rfl rfl ?_
 refine wC_sub (l' := [(0, .agg #[.int .i64 ro, .int .i64 ep, .int .i64 fr, .int .i64 tg, .int .i64 rd, .slice A l.length c]), (1, .slice A' k.length c')]) ⟨rfl, rfl, trivial⟩ (wC_seq (wC_region (wL_new (V := fun b => .pointer (some ⟨b, 0, none⟩)) (row := #[.int .i64 ro, .int .i64 ep, .int .i64 fr, .int .i64 tg, .int .i64 rd, .slice A l.length c]) (t := 108) S (wn rfl) rfl rfl (d_box rfl rfl rfl) ?_))); intro b1 w2 S3; clear S
 refine wL_new (V := fun b => .pointer (some ⟨b, 0, none⟩)) (row := #[.int .i64 0, .int .i64 0, .int .i64 0, .int .i64 0, .int .i64 0, .slice none 0 0]) (t := 108) S3 (wn rfl) rfl rfl (d_alloc rfl (Try.zeroValue108 _) rfl) ?_; intro b4 w5 S6; clear S3
 refine wL_nil (wQ_sub (l' := [(1, _), (2, _), (4, _)]) ⟨rfl, rfl, rfl, trivial⟩ (wQ_then (wC_seq (wC_region (wL_val (v := .pointer (some ⟨b1, 5, none⟩)) (wn rfl) rfl rfl (y_fieldAddr rfl rfl (fa108_5 _ _ _)) ?_)))))
 refine wL_val (wn rfl) rfl rfl (y_load rfl rfl (r_load Try.underlying57 rfl (St.cl 1 S6 rfl rfl))) ?_
 refine wL_call (vs := [.slice A l.length c]) (wn rfl) rfl rfl (e_call (vs := [.slice A l.length c]) rfl en157 ⟨rfl, trivial⟩) (CloneV_calls A l.length c _ _ (St.rd 2 S6 rfl) (evCells_one l) (by unfold reachBytes; omega)) ?_
 rintro _ w11 ⟨A7, c8, rfl, hb9, ho10⟩
 refine ⟨_, rfl, ?_⟩
 have S12 := S6.onOwn hb9 ho10; clear hb9 ho10 S6
 change St _ _ _ [.own 37 6 (.slice A7 l.length c8) l.length ((l).flatMap Ev.cells), _, _, _, _] at S12
 refine wL_val (wn rfl) rfl rfl (y_move rfl rfl) ?_
 refine wL_append (news := (k).flatMap Ev.cells) (xs' := (l ++ k).flatMap Ev.cells) 0 S12 (wn rfl) rfl rfl rfl rfl rfl rfl (St.rd 4 S12 rfl) Try.underlying57 infz37 rfl (by decide) (evCells_one _) (by simp only [maxLen]; omega) (by omega) (fm_app) ?_; intro A13 c14 w15 hc17 hm18 S16; clear S12
 change St _ _ _ [.own 37 6 (.slice A13 (l.length + k.length) c14) (l.length + k.length) ((l ++ k).flatMap Ev.cells), _, _, _, _] at S16
 refine wL_val (v := .pointer (some ⟨b1, 5, none⟩)) (wn rfl) rfl rfl (y_fieldAddr rfl rfl (fa108_5 _ _ _)) ?_
 refine wL_st (cs := #[.slice A13 (l.length + k.length) c14]) (row' := #[.int .i64 ro, .int .i64 ep, .int .i64 fr, .int .i64 tg, .int .i64 rd, .slice A13 (l.length + k.length) c14]) (fs' := [_, _, .blk b1 #[.int .i64 ro, .int .i64 ep, .int .i64 fr, .int .i64 tg, .int .i64 rd, .slice A13 (l.length + k.length) c14] 108, _, _]) 2 S16 (wn rfl) rfl rfl rfl rfl rfl rfl inf57 rfl (oneAll rfl) (Nat.le_of_ble_eq_true rfl) rfl rfl ?_; intro w19 S20; clear S16
 refine wL_nil (wQ_sub (l' := [(2, _), (4, _)]) ⟨rfl, rfl, trivial⟩ (wQ_then (wC_seq (wC_region (wL_val (wn rfl) rfl rfl (y_load rfl rfl (r_load_row 2 S20 rfl Try.underlying108 rfl inf108 rfl)) ?_)))))
 refine wL_st (fs' := [_, _, _, _, _]) 1 S20 (wn rfl) rfl rfl rfl rfl rfl rfl inf108 rfl (oneAll rfl) (Nat.le_of_ble_eq_true rfl) (setAll_all rfl) rfl ?_; intro w21 S22; clear S20
 refine wL_nil (wQ_sub (l' := [(4, _)]) ⟨rfl, trivial⟩ (wQ_then (wC_ret (wQ_post (rs := [.cell 4 108]) (vs := [.agg #[.int .i64 ro, .int .i64 ep, .int .i64 fr, .int .i64 tg, .int .i64 rd, .slice A13 (l.length + k.length) c14]]) rfl ⟨⟨_, rfl, res_row 1 S22 rfl Try.underlying108 rfl inf108⟩, trivial⟩ ?_))))
 have S23 : St w.heap.size w w21 [_] := (St.del 1 (St.del 2 (St.del 3 (St.del 4 S22)))); clear S22
 have hl : (l ++ k).length = l.length + k.length := List.length_append
 rw [← hl] at S23
 exact ⟨A13, c14, by rw [hl]; rfl, S23⟩

end Go.Proofs.Ytkjlafpafmihaaa

