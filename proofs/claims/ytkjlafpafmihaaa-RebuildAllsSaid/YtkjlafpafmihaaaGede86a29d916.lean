/- Parts of proofs: lemmas on memory, on single functions and on the plain models; no condition of their own. -/
import Derived.Test.YtkjlafpafmihaaaRows
import Derived.WalkKit
import Derived.ProofKit
import Derived.OpenShut
import Derived.SizedLaws
import Derived.WalkSpells
import Derived.WalkLawsBesides
import Derived.Handy
import Derived.Deep.QuietTactic
import Derived.BigQuiet
import Derived.Lib.Hide
import Derived.Maps.AppendAt
import Derived.Deep.AppendLies
import Derived.RegionTactic
import Derived.OwnWalk
import Derived.Laws.Tables
import Derived.Deep.MidRow
import Derived.StillTailTactics
import Derived.OrdersHeld
import Derived.Deep.RegionHeld3
import Derived.Laws.IdiomCopy
import Derived.ChangeKeysEq
import Derived.Laws.BitsAllLaws
import Derived.Deep.DeepCutAuto
import Derived.Deep.CutRange
import Derived.Shelf.SlSortCmp.WholeK
import Derived.Shelf.SlSortCmp.NoneTotal
import Derived.Shelf.SlicesG.Cmp
import Derived.Shelf.SlGeneric
import Derived.Ground.SlsfProg
import Derived.Ground.SlgcProg
import Derived.Maps.OwnSet
import Derived.Lib.SliceRun
import Derived.Deep.RegionLaw
import Derived.Test.YtkjlafpafmihaaaG411632d36699
import Derived.Test.YtkjlafpafmihaaaG48f6c12ab48d
import Derived.Test.YtkjlafpafmihaaaG497b255c2441
import Derived.Test.YtkjlafpafmihaaaG4e172fb27d17
import Derived.Test.YtkjlafpafmihaaaG4eaabf97d977
import Derived.Test.YtkjlafpafmihaaaG562c23b89bb4
import Derived.Test.YtkjlafpafmihaaaG570539d87647
import Derived.Test.YtkjlafpafmihaaaG7ff4c8feaa3c
import Derived.Test.YtkjlafpafmihaaaG809794e4b789
import Derived.Test.YtkjlafpafmihaaaG924ec51911fe
import Derived.Test.YtkjlafpafmihaaaGaccd88af86f3
import Derived.Test.YtkjlafpafmihaaaGc8683f30ddc5
import Derived.Test.YtkjlafpafmihaaaGc89f12b5a777
import Derived.Test.YtkjlafpafmihaaaGf428e9c8a46a
import Derived.Test.YtkjlafpafmihaaaGfa570c25a005
set_option linter.unusedVariables false
set_option linter.unusedSimpArgs false

namespace Go.Proofs.Ytkjlafpafmihaaa
open Go.ChangeShapes Go.WideShapes Go.RowKit

set_option maxRecDepth 100000 in
set_option maxHeartbeats 8000000 in
theorem Applied_k1 (ro ep fr tg rd : Int) (A : Option Addr) (c : Nat) (l : List Ev) (qu e pe : Int) (x : Ev) (w : World) (h : Rd w w.heap.size 6 A l.length (evCells l)) (hb : l.length * 48 ≤ reachBytes) :
    Calls Try.prog 99 #[.agg #[.int .i64 ro, .int .i64 ep, .int .i64 fr, .int .i64 tg, .int .i64 rd, .slice A l.length c], .agg #[.int .i64 1, .int .i64 qu, .int .i64 e, .int .i64 pe, .int .i64 x.kind, .int .i64 x.producer, .int .i64 x.id, .int .i64 x.body, .int .i64 x.hepoch, .int .i64 x.hno]] w (BrtPost w (applyM ⟨ro, ep, fr, tg, rd, l⟩ ⟨1, qu, e, pe, x⟩)) := by
 have S := (St.start w).addRd h; clear h
 have hb2 := hb
 unfold reachBytes at hb2
 refine fnw 175 Try.func99 ?_
 refine cw [0, 1] ?_
 refine x_sr (nb (row := #[.int .i64 ro, .int .i64 ep, .int .i64 fr, .int .i64 tg, .int .i64 rd, .slice A l.length c]) S ?_); intro b1 w2 S3; clear S
 refine nb (row := #[.int .i64 1, .int .i64 qu, .int .i64 e, .int .i64 pe, .int .i64 x.kind, .int .i64 x.producer, .int .i64 x.id, .int .i64 x.body, .int .i64 x.hepoch, .int .i64 x.hno]) S3 ?_; intro b4 w5 S6; clear S3
 refine naB S6 Try.zeroValue108 ?_; intro b7 w8 S9; clear S6
 refine va ?_
 refine qk [2, 3, 4, 5] ?_
 refine x_tsr (vv (ylr 2 S9 Try.underlying108 inf108) ?_)
 refine cab en78 S9 (BerthFault_calls ro ep fr tg rd A c l _ (St.rd 3 S9 rfl) (by omega)) ?_; intro w10 S11; clear S9
 refine va ?_
 refine qk [2, 3, 4, 5, 6] ?_
 refine x_tssr (vm ?_)
 by_cases h13 : brtFault ⟨ro, ep, fr, tg, rd, l⟩ = 0
 ·have hln := tellM_len (bf_zero h13).2
  dsimp only at hln
  refine vv (yeqlT h13) ?_
  refine qk [2, 3, 4, 5, 6, 15] ?_
  refine wQ_then (wC_cond_t rfl (wC_region (vv (ylr 1 S11 Try.underlying51 inf51) ?_)))
  refine cab en122 S11 (RecordFault_calls ⟨1, qu, e, pe, x⟩ _) ?_; intro w14 S15; clear S11
  refine va ?_
  refine qk [2, 3, 4, 5, 6] ?_
  refine x_tssr (vm ?_)
  by_cases h17 : recFault ⟨1, qu, e, pe, x⟩ = 0
  ·have hrz := rec_zero h17
   dsimp only at hrz
   refine vv (yneqF h17) ?_
   refine qk [2, 3, 4, 5, 6, 19] ?_
   refine x_tnktsr (vv (ylr 2 S15 Try.underlying108 inf108) ?_)
   refine cal en156 (BerthCopy_calls ro ep fr tg rd A c l _ (St.rd 3 S15 rfl) hb) ?_
   rintro _ w20 ⟨A18, c19, rfl, T22⟩
   refine ⟨_, rfl, ?_⟩
   have S21 := S15.ext T22 rfl; clear T22 S15
   change St _ _ _ [.own 37 6 (.slice A18 l.length c19) l.length ((l).flatMap Ev.cells), _, _, _, _] at S21
   refine naB S21 Try.zeroValue108 ?_; intro b23 w24 S25; clear S21
   refine sa 0 S25 inf108 ?_; intro w26 S27; clear S25
   refine qk [2, 3, 4, 5, 7] ?_
   refine x_tsr (vv (yfa 1 fa108_1) ?_)
   refine vv (ylc 4 S27 Try.underlying3) ?_
   refine vv (yfa 2 fa51_2) ?_
   refine vv (ylc 3 S27 Try.underlying3) ?_
   by_cases h28 : ep = e
   ·refine vv (yeqlT h28) ?_
    refine va ?_
    refine qk [2, 3, 4, 5, 7, 8] ?_
    refine x_tsr (vv (yfa 3 fa51_3) ?_)
    refine vv (ylc 3 S27 Try.underlying3) ?_
    by_cases h29 : pe = 0
    ·refine vv (yeqlT h29) ?_
     refine vm ?_
     iterate 3 refine vs ?_
     refine vv ypT ?_
     refine vm ?_
     iterate 3 refine vs ?_
     refine vv ypT ?_
     refine va ?_
     refine qk [2, 3, 4, 5, 7, 8, 9] ?_
     refine x_tssr (vv (yfa 0 fa51_0) ?_)
     refine vv (ylc 3 S27 Try.underlying3) ?_
     refine qk [2, 3, 4, 5, 7, 8, 9, 43] ?_
     refine x_tbsr (vv deqlT ?_)
     refine va ?_
     refine qk [2, 3, 4, 5, 7, 8, 9, 43, 56] ?_
     refine x_tysr (vm ?_)
     refine vm ?_
     refine vg (yfa 0 fa108_0) ?_
     refine vg (ylc 4 S27 Try.underlying3) ?_
     by_cases h30 : ro = 0
     ·refine vg (yeqlT h30) ?_
      refine vv ypT ?_
      refine vm ?_
      refine vg (yfa 2 fa51_2) ?_
      refine vg (ylc 3 S27 Try.underlying3) ?_
      refine vg (yfa 1 fa108_1) ?_
      refine vg (ylc 4 S27 Try.underlying3) ?_
      by_cases h31 : ep < e
      ·refine vg (ygtrT h31) ?_
       refine vv ypT ?_
       refine va ?_
       refine qk [2, 3, 4, 5, 7, 9] ?_
       refine x_tr (vv (yfa 2 fa51_2) ?_)
       refine vv (ylc 3 S27 Try.underlying3) ?_
       refine vv (v := .agg #[.int .i64 1, .int .i64 e, .int .i64 0, .int .i64 0, .int .i64 0, .slice none 0 0]) (y_build (vs := [(0, .int .i64 1), (1, .int .i64 e)]) rfl ⟨rfl, rfl, rfl, rfl, trivial⟩ (by kernel_rfl)) ?_
       refine sa 0 S27 inf108 ?_; intro w32 S33; clear S27
       refine qk [2, 4, 5, 7, 9] ?_
       refine x_utssr (vm ?_)
       refine vv (v := .bool false) yno ?_
       refine vm ?_
       refine vg (yfa 0 fa108_0) ?_
       refine vg (ylc 4 S33 Try.underlying3) ?_
       refine vg (deqlF (h := by omega)) ?_
       refine vv ypF ?_
       refine vm ?_
       refine vg (ylr 0 S33 Try.underlying108 inf108) ?_
       refine calg en78 (BerthFault_calls 1 e 0 0 0 none 0 ([] : List Ev) _ Rd.none_ (by simp)) ?_
       rintro _ w34 ⟨rfl, hb36⟩
       refine ⟨_, rfl, ?_⟩
       have S35 := S33.on hb36; clear hb36 S33
       by_cases h37 : brtFault ⟨1, e, 0, 0, 0, []⟩ = 0
       ·refine vg (yneqF h37) ?_
        refine vv ypF ?_
        refine qk [4, 5, 7, 172] ?_
        refine x_tnktsr (vv (ylr 0 S35 Try.underlying108 inf108) ?_)
        refine sa 2 S35 inf108 ?_; intro w38 S39; clear S35
        refine va ?_
        refine qk [4, 5] ?_
        refine x_te (pc 2 S39 Try.underlying108 inf108 ?_)
        have S40 : St _ _ _ [] := S39.dels [5, 4, 3, 2, 1, 0]; clear S39
        rw [applied_1 h13 h17, if_pos (by (try dsimp only); omega)]
        try dsimp only
        exact ⟨none, 0, rfl, rdo_nil S40⟩
       ·refine vg (yneqT h37) ?_
        refine vv ypF ?_
        refine qk [4, 5, 7, 172] ?_
        refine x_tysr (vv yzB ?_)
        refine sa 2 S35 inf108 ?_; intro w41 S42; clear S35
        refine va ?_
        refine qk [4, 5] ?_
        refine x_teh (pc 2 S42 Try.underlying108 inf108 ?_)
        have S43 : St _ _ _ [] := S42.dels [5, 4, 3, 2, 1, 0]; clear S42
        rw [applied_1 h13 h17, if_neg (by (try dsimp only); omega)]
        exact ⟨none, 0, rfl, rdo_nil S43⟩
      ·refine vg (ygtrF h31) ?_
       refine vv ypT ?_
       refine va ?_
       refine qk [2, 3, 4, 5, 7, 9] ?_
       refine x_tr (vv (yfa 2 fa51_2) ?_)
       refine vv (ylc 3 S27 Try.underlying3) ?_
       refine vv (v := .agg #[.int .i64 1, .int .i64 e, .int .i64 0, .int .i64 0, .int .i64 0, .slice none 0 0]) (y_build (vs := [(0, .int .i64 1), (1, .int .i64 e)]) rfl ⟨rfl, rfl, rfl, rfl, trivial⟩ (by kernel_rfl)) ?_
       refine sa 0 S27 inf108 ?_; intro w44 S45; clear S27
       refine qk [2, 4, 5, 7, 9] ?_
       refine x_utssr (vm ?_)
       refine vv (v := .bool true) yno ?_
       refine vm ?_
       iterate 3 refine vs ?_
       refine vv ypT ?_
       refine vm ?_
       iterate 3 refine vs ?_
       refine vv ypT ?_
       refine qk [4, 5, 7, 172] ?_
       refine x_tysr (vv yzB ?_)
       refine sa 2 S45 inf108 ?_; intro w46 S47; clear S45
       refine va ?_
       refine qk [4, 5] ?_
       refine x_teh (pc 2 S47 Try.underlying108 inf108 ?_)
       have S48 : St _ _ _ [] := S47.dels [5, 4, 3, 2, 1, 0]; clear S47
       rw [applied_1 h13 h17, if_neg (by (try dsimp only); omega)]
       exact ⟨none, 0, rfl, rdo_nil S48⟩
     ·refine vg (yeqlF h30) ?_
      refine vv ypT ?_
      refine vm ?_
      iterate 5 refine vs ?_
      refine vv ypF ?_
      refine va ?_
      refine qk [2, 3, 4, 5, 7, 9] ?_
      refine x_tr (vv (yfa 2 fa51_2) ?_)
      refine vv (ylc 3 S27 Try.underlying3) ?_
      refine vv (v := .agg #[.int .i64 1, .int .i64 e, .int .i64 0, .int .i64 0, .int .i64 0, .slice none 0 0]) (y_build (vs := [(0, .int .i64 1), (1, .int .i64 e)]) rfl ⟨rfl, rfl, rfl, rfl, trivial⟩ (by kernel_rfl)) ?_
      refine sa 0 S27 inf108 ?_; intro w49 S50; clear S27
      refine qk [2, 4, 5, 7, 9] ?_
      refine x_utssr (vm ?_)
      refine vv (v := .bool true) yno ?_
      refine vm ?_
      iterate 3 refine vs ?_
      refine vv ypT ?_
      refine vm ?_
      iterate 3 refine vs ?_
      refine vv ypT ?_
      refine qk [4, 5, 7, 172] ?_
      refine x_tysr (vv yzB ?_)
      refine sa 2 S50 inf108 ?_; intro w51 S52; clear S50
      refine va ?_
      refine qk [4, 5] ?_
      refine x_teh (pc 2 S52 Try.underlying108 inf108 ?_)
      have S53 : St _ _ _ [] := S52.dels [5, 4, 3, 2, 1, 0]; clear S52
      rw [applied_1 h13 h17, if_neg (by (try dsimp only); omega)]
      exact ⟨none, 0, rfl, rdo_nil S53⟩
    ·refine vv (yeqlF h29) ?_
     refine vm ?_
     refine vg (yfa 0 fa51_0) ?_
     refine vg (ylc 3 S27 Try.underlying3) ?_
     refine vg deqlF ?_
     refine vv ypF ?_
     refine vm ?_
     refine vg (yfa 0 fa51_0) ?_
     refine vg (ylc 3 S27 Try.underlying3) ?_
     refine vg deqlF ?_
     refine vv ypF ?_
     refine va ?_
     refine qk [2, 3, 4, 5, 7, 8, 9] ?_
     refine x_tssr (vv (yfa 0 fa51_0) ?_)
     refine vv (ylc 3 S27 Try.underlying3) ?_
     refine qk [2, 3, 4, 5, 7, 8, 9, 43] ?_
     refine x_tbsr (vv deqlT ?_)
     refine va ?_
     refine qk [2, 3, 4, 5, 7, 8, 9, 43, 56] ?_
     refine x_tysr (vm ?_)
     refine vm ?_
     iterate 3 refine vs ?_
     refine vv ypF ?_
     refine vm ?_
     iterate 5 refine vs ?_
     refine vv ypF ?_
     refine va ?_
     refine qk [2, 3, 4, 5, 7, 9] ?_
     refine x_tr (vv (yfa 2 fa51_2) ?_)
     refine vv (ylc 3 S27 Try.underlying3) ?_
     refine vv (v := .agg #[.int .i64 1, .int .i64 e, .int .i64 0, .int .i64 0, .int .i64 0, .slice none 0 0]) (y_build (vs := [(0, .int .i64 1), (1, .int .i64 e)]) rfl ⟨rfl, rfl, rfl, rfl, trivial⟩ (by kernel_rfl)) ?_
     refine sa 0 S27 inf108 ?_; intro w54 S55; clear S27
     refine qk [2, 4, 5, 7, 9] ?_
     refine x_utssr (vm ?_)
     refine vv (v := .bool true) yno ?_
     refine vm ?_
     iterate 3 refine vs ?_
     refine vv ypT ?_
     refine vm ?_
     iterate 3 refine vs ?_
     refine vv ypT ?_
     refine qk [4, 5, 7, 172] ?_
     refine x_tysr (vv yzB ?_)
     refine sa 2 S55 inf108 ?_; intro w56 S57; clear S55
     refine va ?_
     refine qk [4, 5] ?_
     refine x_teh (pc 2 S57 Try.underlying108 inf108 ?_)
     have S58 : St _ _ _ [] := S57.dels [5, 4, 3, 2, 1, 0]; clear S57
     rw [applied_1 h13 h17, if_neg (by (try dsimp only); omega)]
     exact ⟨none, 0, rfl, rdo_nil S58⟩
   ·refine vv (yeqlF h28) ?_
    refine va ?_
    refine qk [2, 3, 4, 5, 7, 8] ?_
    refine x_tsr (vv (yfa 3 fa51_3) ?_)
    refine vv (ylc 3 S27 Try.underlying3) ?_
    by_cases h59 : pe = 0
    ·refine vv (yeqlT h59) ?_
     refine vm ?_
     iterate 3 refine vs ?_
     refine vv ypT ?_
     refine vm ?_
     iterate 3 refine vs ?_
     refine vv ypT ?_
     refine va ?_
     refine qk [2, 3, 4, 5, 7, 8, 9] ?_
     refine x_tssr (vv (yfa 0 fa51_0) ?_)
     refine vv (ylc 3 S27 Try.underlying3) ?_
     refine qk [2, 3, 4, 5, 7, 8, 9, 43] ?_
     refine x_tbsr (vv deqlT ?_)
     refine va ?_
     refine qk [2, 3, 4, 5, 7, 8, 9, 43, 56] ?_
     refine x_tysr (vm ?_)
     refine vm ?_
     refine vg (yfa 0 fa108_0) ?_
     refine vg (ylc 4 S27 Try.underlying3) ?_
     by_cases h60 : ro = 0
     ·refine vg (yeqlT h60) ?_
      refine vv ypT ?_
      refine vm ?_
      refine vg (yfa 2 fa51_2) ?_
      refine vg (ylc 3 S27 Try.underlying3) ?_
      refine vg (yfa 1 fa108_1) ?_
      refine vg (ylc 4 S27 Try.underlying3) ?_
      by_cases h61 : ep < e
      ·refine vg (ygtrT h61) ?_
       refine vv ypT ?_
       refine va ?_
       refine qk [2, 3, 4, 5, 7, 9] ?_
       refine x_tr (vv (yfa 2 fa51_2) ?_)
       refine vv (ylc 3 S27 Try.underlying3) ?_
       refine vv (v := .agg #[.int .i64 1, .int .i64 e, .int .i64 0, .int .i64 0, .int .i64 0, .slice none 0 0]) (y_build (vs := [(0, .int .i64 1), (1, .int .i64 e)]) rfl ⟨rfl, rfl, rfl, rfl, trivial⟩ (by kernel_rfl)) ?_
       refine sa 0 S27 inf108 ?_; intro w62 S63; clear S27
       refine qk [2, 4, 5, 7, 9] ?_
       refine x_utssr (vm ?_)
       refine vv (v := .bool false) yno ?_
       refine vm ?_
       refine vg (yfa 0 fa108_0) ?_
       refine vg (ylc 4 S63 Try.underlying3) ?_
       refine vg (deqlF (h := by omega)) ?_
       refine vv ypF ?_
       refine vm ?_
       refine vg (ylr 0 S63 Try.underlying108 inf108) ?_
       refine calg en78 (BerthFault_calls 1 e 0 0 0 none 0 ([] : List Ev) _ Rd.none_ (by simp)) ?_
       rintro _ w64 ⟨rfl, hb66⟩
       refine ⟨_, rfl, ?_⟩
       have S65 := S63.on hb66; clear hb66 S63
       by_cases h67 : brtFault ⟨1, e, 0, 0, 0, []⟩ = 0
       ·refine vg (yneqF h67) ?_
        refine vv ypF ?_
        refine qk [4, 5, 7, 172] ?_
        refine x_tnktsr (vv (ylr 0 S65 Try.underlying108 inf108) ?_)
        refine sa 2 S65 inf108 ?_; intro w68 S69; clear S65
        refine va ?_
        refine qk [4, 5] ?_
        refine x_te (pc 2 S69 Try.underlying108 inf108 ?_)
        have S70 : St _ _ _ [] := S69.dels [5, 4, 3, 2, 1, 0]; clear S69
        rw [applied_1 h13 h17, if_pos (by (try dsimp only); omega)]
        try dsimp only
        exact ⟨none, 0, rfl, rdo_nil S70⟩
       ·refine vg (yneqT h67) ?_
        refine vv ypF ?_
        refine qk [4, 5, 7, 172] ?_
        refine x_tysr (vv yzB ?_)
        refine sa 2 S65 inf108 ?_; intro w71 S72; clear S65
        refine va ?_
        refine qk [4, 5] ?_
        refine x_teh (pc 2 S72 Try.underlying108 inf108 ?_)
        have S73 : St _ _ _ [] := S72.dels [5, 4, 3, 2, 1, 0]; clear S72
        rw [applied_1 h13 h17, if_neg (by (try dsimp only); omega)]
        exact ⟨none, 0, rfl, rdo_nil S73⟩
      ·refine vg (ygtrF h61) ?_
       refine vv ypT ?_
       refine va ?_
       refine qk [2, 3, 4, 5, 7, 9] ?_
       refine x_tr (vv (yfa 2 fa51_2) ?_)
       refine vv (ylc 3 S27 Try.underlying3) ?_
       refine vv (v := .agg #[.int .i64 1, .int .i64 e, .int .i64 0, .int .i64 0, .int .i64 0, .slice none 0 0]) (y_build (vs := [(0, .int .i64 1), (1, .int .i64 e)]) rfl ⟨rfl, rfl, rfl, rfl, trivial⟩ (by kernel_rfl)) ?_
       refine sa 0 S27 inf108 ?_; intro w74 S75; clear S27
       refine qk [2, 4, 5, 7, 9] ?_
       refine x_utssr (vm ?_)
       refine vv (v := .bool true) yno ?_
       refine vm ?_
       iterate 3 refine vs ?_
       refine vv ypT ?_
       refine vm ?_
       iterate 3 refine vs ?_
       refine vv ypT ?_
       refine qk [4, 5, 7, 172] ?_
       refine x_tysr (vv yzB ?_)
       refine sa 2 S75 inf108 ?_; intro w76 S77; clear S75
       refine va ?_
       refine qk [4, 5] ?_
       refine x_teh (pc 2 S77 Try.underlying108 inf108 ?_)
       have S78 : St _ _ _ [] := S77.dels [5, 4, 3, 2, 1, 0]; clear S77
       rw [applied_1 h13 h17, if_neg (by (try dsimp only); omega)]
       exact ⟨none, 0, rfl, rdo_nil S78⟩
     ·refine vg (yeqlF h60) ?_
      refine vv ypT ?_
      refine vm ?_
      iterate 5 refine vs ?_
      refine vv ypF ?_
      refine va ?_
      refine qk [2, 3, 4, 5, 7, 9] ?_
      refine x_tr (vv (yfa 2 fa51_2) ?_)
      refine vv (ylc 3 S27 Try.underlying3) ?_
      refine vv (v := .agg #[.int .i64 1, .int .i64 e, .int .i64 0, .int .i64 0, .int .i64 0, .slice none 0 0]) (y_build (vs := [(0, .int .i64 1), (1, .int .i64 e)]) rfl ⟨rfl, rfl, rfl, rfl, trivial⟩ (by kernel_rfl)) ?_
      refine sa 0 S27 inf108 ?_; intro w79 S80; clear S27
      refine qk [2, 4, 5, 7, 9] ?_
      refine x_utssr (vm ?_)
      refine vv (v := .bool true) yno ?_
      refine vm ?_
      iterate 3 refine vs ?_
      refine vv ypT ?_
      refine vm ?_
      iterate 3 refine vs ?_
      refine vv ypT ?_
      refine qk [4, 5, 7, 172] ?_
      refine x_tysr (vv yzB ?_)
      refine sa 2 S80 inf108 ?_; intro w81 S82; clear S80
      refine va ?_
      refine qk [4, 5] ?_
      refine x_teh (pc 2 S82 Try.underlying108 inf108 ?_)
      have S83 : St _ _ _ [] := S82.dels [5, 4, 3, 2, 1, 0]; clear S82
      rw [applied_1 h13 h17, if_neg (by (try dsimp only); omega)]
      exact ⟨none, 0, rfl, rdo_nil S83⟩
    ·refine vv (yeqlF h59) ?_
     refine vm ?_
     refine vg (yfa 0 fa51_0) ?_
     refine vg (ylc 3 S27 Try.underlying3) ?_
     refine vg deqlF ?_
     refine vv ypF ?_
     refine vm ?_
     refine vg (yfa 0 fa51_0) ?_
     refine vg (ylc 3 S27 Try.underlying3) ?_
     refine vg deqlF ?_
     refine vv ypF ?_
     refine va ?_
     refine qk [2, 3, 4, 5, 7, 8, 9] ?_
     refine x_tssr (vv (yfa 0 fa51_0) ?_)
     refine vv (ylc 3 S27 Try.underlying3) ?_
     refine qk [2, 3, 4, 5, 7, 8, 9, 43] ?_
     refine x_tbsr (vv deqlT ?_)
     refine va ?_
     refine qk [2, 3, 4, 5, 7, 8, 9, 43, 56] ?_
     refine x_tysr (vm ?_)
     refine vm ?_
     iterate 3 refine vs ?_
     refine vv ypF ?_
     refine vm ?_
     iterate 5 refine vs ?_
     refine vv ypF ?_
     refine va ?_
     refine qk [2, 3, 4, 5, 7, 9] ?_
     refine x_tr (vv (yfa 2 fa51_2) ?_)
     refine vv (ylc 3 S27 Try.underlying3) ?_
     refine vv (v := .agg #[.int .i64 1, .int .i64 e, .int .i64 0, .int .i64 0, .int .i64 0, .slice none 0 0]) (y_build (vs := [(0, .int .i64 1), (1, .int .i64 e)]) rfl ⟨rfl, rfl, rfl, rfl, trivial⟩ (by kernel_rfl)) ?_
     refine sa 0 S27 inf108 ?_; intro w84 S85; clear S27
     refine qk [2, 4, 5, 7, 9] ?_
     refine x_utssr (vm ?_)
     refine vv (v := .bool true) yno ?_
     refine vm ?_
     iterate 3 refine vs ?_
     refine vv ypT ?_
     refine vm ?_
     iterate 3 refine vs ?_
     refine vv ypT ?_
     refine qk [4, 5, 7, 172] ?_
     refine x_tysr (vv yzB ?_)
     refine sa 2 S85 inf108 ?_; intro w86 S87; clear S85
     refine va ?_
     refine qk [4, 5] ?_
     refine x_teh (pc 2 S87 Try.underlying108 inf108 ?_)
     have S88 : St _ _ _ [] := S87.dels [5, 4, 3, 2, 1, 0]; clear S87
     rw [applied_1 h13 h17, if_neg (by (try dsimp only); omega)]
     exact ⟨none, 0, rfl, rdo_nil S88⟩
  ·refine vv (yneqT h17) ?_
   refine qk [2, 3, 4, 5, 6, 19] ?_
   refine x_tysr (vv yzB ?_)
   refine vm ?_
   refine sa 0 S15 inf108 ?_; intro w89 S90; clear S15
   refine va ?_
   refine qk [4, 5] ?_
   refine x_teh (pc 0 S90 Try.underlying108 inf108 ?_)
   have S91 : St _ _ _ [] := S90.dels [3, 2, 1, 0]; clear S90
   rw [apply_rf h13 h17]
   exact ⟨none, 0, rfl, rdo_nil S91⟩
 ·refine vv (yeqlF h13) ?_
  refine qk [2, 3, 4, 5, 6, 15] ?_
  refine x_tnktssr (vm ?_)
  refine vv (yneqT h13) ?_
  refine qk [2, 3, 4, 5, 6, 19] ?_
  refine x_tysr (vv yzB ?_)
  refine vm ?_
  refine sa 0 S11 inf108 ?_; intro w92 S93; clear S11
  refine va ?_
  refine qk [4, 5] ?_
  refine x_teh (pc 0 S93 Try.underlying108 inf108 ?_)
  have S94 : St _ _ _ [] := S93.dels [3, 2, 1, 0]; clear S93
  rw [apply_bf h13]
  exact ⟨none, 0, rfl, rdo_nil S94⟩
end Go.Proofs.Ytkjlafpafmihaaa

namespace Go.Proofs.Ytkjlafpafmihaaa
open Go.ChangeShapes Go.WideShapes Go.RowKit

set_option maxRecDepth 100000 in
set_option maxHeartbeats 8000000 in
theorem Applied_k2 (ro ep fr tg rd : Int) (A : Option Addr) (c : Nat) (l : List Ev) (qu e pe : Int) (x : Ev) (w : World) (h : Rd w w.heap.size 6 A l.length (evCells l)) (hb : l.length * 48 ≤ reachBytes) :
    Calls Try.prog 99 #[.agg #[.int .i64 ro, .int .i64 ep, .int .i64 fr, .int .i64 tg, .int .i64 rd, .slice A l.length c], .agg #[.int .i64 2, .int .i64 qu, .int .i64 e, .int .i64 pe, .int .i64 x.kind, .int .i64 x.producer, .int .i64 x.id, .int .i64 x.body, .int .i64 x.hepoch, .int .i64 x.hno]] w (BrtPost w (applyM ⟨ro, ep, fr, tg, rd, l⟩ ⟨2, qu, e, pe, x⟩)) := by
 have S := (St.start w).addRd h; clear h
 have hb2 := hb
 unfold reachBytes at hb2
 refine fnw 175 Try.func99 ?_
 refine cw [0, 1] ?_
 refine x_sr (nb (row := #[.int .i64 ro, .int .i64 ep, .int .i64 fr, .int .i64 tg, .int .i64 rd, .slice A l.length c]) S ?_); intro b1 w2 S3; clear S
 refine nb (row := #[.int .i64 2, .int .i64 qu, .int .i64 e, .int .i64 pe, .int .i64 x.kind, .int .i64 x.producer, .int .i64 x.id, .int .i64 x.body, .int .i64 x.hepoch, .int .i64 x.hno]) S3 ?_; intro b4 w5 S6; clear S3
 refine naB S6 Try.zeroValue108 ?_; intro b7 w8 S9; clear S6
 refine va ?_
 refine qk [2, 3, 4, 5] ?_
 refine x_tsr (vv (ylr 2 S9 Try.underlying108 inf108) ?_)
 refine cab en78 S9 (BerthFault_calls ro ep fr tg rd A c l _ (St.rd 3 S9 rfl) (by omega)) ?_; intro w10 S11; clear S9
 refine va ?_
 refine qk [2, 3, 4, 5, 6] ?_
 refine x_tssr (vm ?_)
 by_cases h13 : brtFault ⟨ro, ep, fr, tg, rd, l⟩ = 0
 ·have hln := tellM_len (bf_zero h13).2
  dsimp only at hln
  refine vv (yeqlT h13) ?_
  refine qk [2, 3, 4, 5, 6, 15] ?_
  refine wQ_then (wC_cond_t rfl (wC_region (vv (ylr 1 S11 Try.underlying51 inf51) ?_)))
  refine cab en122 S11 (RecordFault_calls ⟨2, qu, e, pe, x⟩ _) ?_; intro w14 S15; clear S11
  refine va ?_
  refine qk [2, 3, 4, 5, 6] ?_
  refine x_tssr (vm ?_)
  by_cases h17 : recFault ⟨2, qu, e, pe, x⟩ = 0
  ·have hrz := rec_zero h17
   dsimp only at hrz
   refine vv (yneqF h17) ?_
   refine qk [2, 3, 4, 5, 6, 19] ?_
   refine x_tnktsr (vv (ylr 2 S15 Try.underlying108 inf108) ?_)
   refine cal en156 (BerthCopy_calls ro ep fr tg rd A c l _ (St.rd 3 S15 rfl) hb) ?_
   rintro _ w20 ⟨A18, c19, rfl, T22⟩
   refine ⟨_, rfl, ?_⟩
   have S21 := S15.ext T22 rfl; clear T22 S15
   change St _ _ _ [.own 37 6 (.slice A18 l.length c19) l.length ((l).flatMap Ev.cells), _, _, _, _] at S21
   refine naB S21 Try.zeroValue108 ?_; intro b23 w24 S25; clear S21
   refine sa 0 S25 inf108 ?_; intro w26 S27; clear S25
   refine qk [2, 3, 4, 5, 7] ?_
   refine x_tsr (vv (yfa 1 fa108_1) ?_)
   refine vv (ylc 4 S27 Try.underlying3) ?_
   refine vv (yfa 2 fa51_2) ?_
   refine vv (ylc 3 S27 Try.underlying3) ?_
   by_cases h28 : ep = e
   ·refine vv (yeqlT h28) ?_
    refine va ?_
    refine qk [2, 3, 4, 5, 7, 8] ?_
    refine x_tsr (vv (yfa 3 fa51_3) ?_)
    refine vv (ylc 3 S27 Try.underlying3) ?_
    by_cases h29 : pe = 0
    ·refine vv (yeqlT h29) ?_
     refine vm ?_
     iterate 3 refine vs ?_
     refine vv ypT ?_
     refine vm ?_
     iterate 3 refine vs ?_
     refine vv ypT ?_
     refine va ?_
     refine qk [2, 3, 4, 5, 7, 8, 9] ?_
     refine x_tssr (vv (yfa 0 fa51_0) ?_)
     refine vv (ylc 3 S27 Try.underlying3) ?_
     refine qk [2, 3, 4, 5, 7, 8, 9, 43] ?_
     refine x_tbsr (vv deqlF ?_)
     refine va ?_
     refine qk [2, 3, 4, 5, 7, 8, 9, 43, 56] ?_
     refine x_tnsr (vv deqlT ?_)
     refine va ?_
     refine qk [2, 3, 4, 5, 7, 8, 9, 43, 74] ?_
     refine x_tysr (vm ?_)
     refine vm ?_
     refine vg ym ?_
     refine vv ypT ?_
     refine vm ?_
     refine vg (yfa 0 fa108_0) ?_
     refine vg (ylc 4 S27 Try.underlying3) ?_
     by_cases h30 : ro = 1
     ·refine vg (yeqlT h30) ?_
      refine vv ypT ?_
      refine va ?_
      refine qk [2, 3, 4, 5, 7, 9] ?_
      refine x_tr (vv (yfa 5 fa108_5) ?_)
      refine vv (ylc 0 S27 Try.underlying57) ?_
      refine vv (yfa 4 fa51_4) ?_
      refine vv (y_load rfl rfl (r_load_agg (cs := [.int .i64 x.kind, .int .i64 x.producer, .int .i64 x.id, .int .i64 x.body, .int .i64 x.hepoch, .int .i64 x.hno]) Try.underlying37 rfl inf37 rfl (St.rg 3 S27 rfl (sub_row (x := 4) (m := 6) rfl)))) ?_
      refine wL_new (V := fun b => .slice (some ⟨b, 0, none⟩) 1 1) (row := #[.int .i64 x.kind, .int .i64 x.producer, .int .i64 x.id, .int .i64 x.body, .int .i64 x.hepoch, .int .i64 x.hno]) (t := 37) S27 (wn rfl) rfl rfl (d_buildSlice (vs := [(0, .agg #[.int .i64 x.kind, .int .i64 x.producer, .int .i64 x.id, .int .i64 x.body, .int .i64 x.hepoch, .int .i64 x.hno])]) rfl ⟨rfl, rfl, trivial⟩ (by kernel_rfl)) ?_; intro b31 w32 S33; clear S27
      refine wL_append (news := [.int .i64 x.kind, .int .i64 x.producer, .int .i64 x.id, .int .i64 x.body, .int .i64 x.hepoch, .int .i64 x.hno]) (xs' := (l ++ [x]).flatMap Ev.cells) 2 S33 (wn rfl) rfl rfl rfl rfl rfl rfl (St.bld (xs := [.int .i64 x.kind, .int .i64 x.producer, .int .i64 x.id, .int .i64 x.body, .int .i64 x.hepoch, .int .i64 x.hno]) 0 S33 rfl rfl rfl) Try.underlying57 infz37 rfl (by decide) (oneAll rfl) (by simp only [maxLen]; omega) (by omega) (fm_snoc (enc := Ev.cells) rfl rfl) ?_; intro A34 c35 w36 hc38 hm39 S37; clear S33
      change St _ _ _ [_, _, .own 37 6 (.slice A34 (l.length + 1) c35) (l.length + 1) ((l ++ [x]).flatMap Ev.cells), _, _, _, _] at S37
      refine vv (yfa 5 fa108_5) ?_
      refine sr (row' := #[.int .i64 ro, .int .i64 ep, .int .i64 fr, .int .i64 tg, .int .i64 rd, .slice A34 (l.length + 1) c35]) 1 S37 inf57 ?_; intro w40 S41; clear S37
      refine qk [2, 4, 5, 7, 9] ?_
      refine x_utssr (vm ?_)
      refine vv (v := .bool false) yno ?_
      refine vm ?_
      refine vg (yfa 0 fa108_0) ?_
      refine vg (ylc 5 S41 Try.underlying3) ?_
      refine vg (deqlF (h := by omega)) ?_
      refine vv ypF ?_
      refine vm ?_
      refine vg (ylr 1 S41 Try.underlying108 inf108) ?_
      have hal : (l ++ [x]).length = l.length + 1 := by simp only [List.length_append, List.length_cons, List.length_nil, List.length_drop]
      have HC42 := fun (w : World) (h : Rd w w.heap.size 6 A34 ((l ++ [x]).length) (evCells (l ++ [x]))) => BerthFault_calls ro ep fr tg rd A34 c35 (l ++ [x]) w h (by omega)
      rw [hal] at HC42
      refine calg en78 (HC42 _ (St.ord 2 S41 rfl)) ?_
      rintro _ w43 ⟨rfl, hb45⟩
      refine ⟨_, rfl, ?_⟩
      have S44 := S41.on hb45; clear hb45 S41; clear HC42
      by_cases h46 : brtFault ⟨ro, ep, fr, tg, rd, l ++ [x]⟩ = 0
      ·refine vg (yneqF h46) ?_
       refine vv ypF ?_
       refine qk [4, 5, 7, 172] ?_
       refine x_tnktsr (vv (ylr 1 S44 Try.underlying108 inf108) ?_)
       refine sa 3 S44 inf108 ?_; intro w47 S48; clear S44
       refine va ?_
       refine qk [4, 5] ?_
       refine x_te (pc 3 S48 Try.underlying108 inf108 ?_)
       have S49 : St _ _ _ [_] := S48.dels [6, 5, 4, 3, 1, 0]; clear S48
       have S50 := S49.sealAll 0 rfl; clear S49
       change St _ _ _ [.rdo 6 A34 (l.length + 1) ((l ++ [x]).flatMap Ev.cells)] at S50
       rw [applied_add (.inl ⟨rfl, rfl⟩) h13 h17, if_pos (by (try dsimp only); omega)]
       try dsimp only
       refine ⟨A34, c35, ?_, ?_⟩
       · dsimp only; rw [hal]; rfl
       · dsimp only; rw [hal]; exact S50
      ·refine vg (yneqT h46) ?_
       refine vv ypF ?_
       refine qk [4, 5, 7, 172] ?_
       refine x_tysr (vv yzB ?_)
       refine sa 3 S44 inf108 ?_; intro w51 S52; clear S44
       refine va ?_
       refine qk [4, 5] ?_
       refine x_teh (pc 3 S52 Try.underlying108 inf108 ?_)
       have S53 : St _ _ _ [] := S52.dels [6, 5, 4, 3, 2, 1, 0]; clear S52
       rw [applied_add (.inl ⟨rfl, rfl⟩) h13 h17, if_neg (by (try dsimp only); omega)]
       exact ⟨none, 0, rfl, rdo_nil S53⟩
     ·refine vg (yeqlF h30) ?_
      refine vv ypT ?_
      refine va ?_
      refine qk [2, 3, 4, 5, 7, 9] ?_
      refine x_tr (vv (yfa 5 fa108_5) ?_)
      refine vv (ylc 0 S27 Try.underlying57) ?_
      refine vv (yfa 4 fa51_4) ?_
      refine vv (y_load rfl rfl (r_load_agg (cs := [.int .i64 x.kind, .int .i64 x.producer, .int .i64 x.id, .int .i64 x.body, .int .i64 x.hepoch, .int .i64 x.hno]) Try.underlying37 rfl inf37 rfl (St.rg 3 S27 rfl (sub_row (x := 4) (m := 6) rfl)))) ?_
      refine wL_new (V := fun b => .slice (some ⟨b, 0, none⟩) 1 1) (row := #[.int .i64 x.kind, .int .i64 x.producer, .int .i64 x.id, .int .i64 x.body, .int .i64 x.hepoch, .int .i64 x.hno]) (t := 37) S27 (wn rfl) rfl rfl (d_buildSlice (vs := [(0, .agg #[.int .i64 x.kind, .int .i64 x.producer, .int .i64 x.id, .int .i64 x.body, .int .i64 x.hepoch, .int .i64 x.hno])]) rfl ⟨rfl, rfl, trivial⟩ (by kernel_rfl)) ?_; intro b54 w55 S56; clear S27
      refine wL_append (news := [.int .i64 x.kind, .int .i64 x.producer, .int .i64 x.id, .int .i64 x.body, .int .i64 x.hepoch, .int .i64 x.hno]) (xs' := (l ++ [x]).flatMap Ev.cells) 2 S56 (wn rfl) rfl rfl rfl rfl rfl rfl (St.bld (xs := [.int .i64 x.kind, .int .i64 x.producer, .int .i64 x.id, .int .i64 x.body, .int .i64 x.hepoch, .int .i64 x.hno]) 0 S56 rfl rfl rfl) Try.underlying57 infz37 rfl (by decide) (oneAll rfl) (by simp only [maxLen]; omega) (by omega) (fm_snoc (enc := Ev.cells) rfl rfl) ?_; intro A57 c58 w59 hc61 hm62 S60; clear S56
      change St _ _ _ [_, _, .own 37 6 (.slice A57 (l.length + 1) c58) (l.length + 1) ((l ++ [x]).flatMap Ev.cells), _, _, _, _] at S60
      refine vv (yfa 5 fa108_5) ?_
      refine sr (row' := #[.int .i64 ro, .int .i64 ep, .int .i64 fr, .int .i64 tg, .int .i64 rd, .slice A57 (l.length + 1) c58]) 1 S60 inf57 ?_; intro w63 S64; clear S60
      refine qk [2, 4, 5, 7, 9] ?_
      refine x_utssr (vm ?_)
      refine vv (v := .bool true) yno ?_
      refine vm ?_
      iterate 3 refine vs ?_
      refine vv ypT ?_
      refine vm ?_
      iterate 3 refine vs ?_
      refine vv ypT ?_
      refine qk [4, 5, 7, 172] ?_
      refine x_tysr (vv yzB ?_)
      refine sa 3 S64 inf108 ?_; intro w65 S66; clear S64
      refine va ?_
      refine qk [4, 5] ?_
      refine x_teh (pc 3 S66 Try.underlying108 inf108 ?_)
      have S67 : St _ _ _ [] := S66.dels [6, 5, 4, 3, 2, 1, 0]; clear S66
      rw [applied_add (.inl ⟨rfl, rfl⟩) h13 h17, if_neg (by (try dsimp only); omega)]
      exact ⟨none, 0, rfl, rdo_nil S67⟩
    ·refine vv (yeqlF h29) ?_
     refine vm ?_
     refine vg (yfa 0 fa51_0) ?_
     refine vg (ylc 3 S27 Try.underlying3) ?_
     refine vg deqlF ?_
     refine vv ypF ?_
     refine vm ?_
     refine vg (yfa 0 fa51_0) ?_
     refine vg (ylc 3 S27 Try.underlying3) ?_
     refine vg deqlF ?_
     refine vv ypF ?_
     refine va ?_
     refine qk [2, 3, 4, 5, 7, 8, 9] ?_
     refine x_tssr (vv (yfa 0 fa51_0) ?_)
     refine vv (ylc 3 S27 Try.underlying3) ?_
     refine qk [2, 3, 4, 5, 7, 8, 9, 43] ?_
     refine x_tbsr (vv deqlF ?_)
     refine va ?_
     refine qk [2, 3, 4, 5, 7, 8, 9, 43, 56] ?_
     refine x_tnsr (vv deqlT ?_)
     refine va ?_
     refine qk [2, 3, 4, 5, 7, 8, 9, 43, 74] ?_
     refine x_tysr (vm ?_)
     refine vm ?_
     refine vs ?_
     refine vv ypF ?_
     refine vm ?_
     iterate 3 refine vs ?_
     refine vv ypF ?_
     refine va ?_
     refine qk [2, 3, 4, 5, 7, 9] ?_
     refine x_tr (vv (yfa 5 fa108_5) ?_)
     refine vv (ylc 0 S27 Try.underlying57) ?_
     refine vv (yfa 4 fa51_4) ?_
     refine vv (y_load rfl rfl (r_load_agg (cs := [.int .i64 x.kind, .int .i64 x.producer, .int .i64 x.id, .int .i64 x.body, .int .i64 x.hepoch, .int .i64 x.hno]) Try.underlying37 rfl inf37 rfl (St.rg 3 S27 rfl (sub_row (x := 4) (m := 6) rfl)))) ?_
     refine wL_new (V := fun b => .slice (some ⟨b, 0, none⟩) 1 1) (row := #[.int .i64 x.kind, .int .i64 x.producer, .int .i64 x.id, .int .i64 x.body, .int .i64 x.hepoch, .int .i64 x.hno]) (t := 37) S27 (wn rfl) rfl rfl (d_buildSlice (vs := [(0, .agg #[.int .i64 x.kind, .int .i64 x.producer, .int .i64 x.id, .int .i64 x.body, .int .i64 x.hepoch, .int .i64 x.hno])]) rfl ⟨rfl, rfl, trivial⟩ (by kernel_rfl)) ?_; intro b68 w69 S70; clear S27
     refine wL_append (news := [.int .i64 x.kind, .int .i64 x.producer, .int .i64 x.id, .int .i64 x.body, .int .i64 x.hepoch, .int .i64 x.hno]) (xs' := (l ++ [x]).flatMap Ev.cells) 2 S70 (wn rfl) rfl rfl rfl rfl rfl rfl (St.bld (xs := [.int .i64 x.kind, .int .i64 x.producer, .int .i64 x.id, .int .i64 x.body, .int .i64 x.hepoch, .int .i64 x.hno]) 0 S70 rfl rfl rfl) Try.underlying57 infz37 rfl (by decide) (oneAll rfl) (by simp only [maxLen]; omega) (by omega) (fm_snoc (enc := Ev.cells) rfl rfl) ?_; intro A71 c72 w73 hc75 hm76 S74; clear S70
     change St _ _ _ [_, _, .own 37 6 (.slice A71 (l.length + 1) c72) (l.length + 1) ((l ++ [x]).flatMap Ev.cells), _, _, _, _] at S74
     refine vv (yfa 5 fa108_5) ?_
     refine sr (row' := #[.int .i64 ro, .int .i64 ep, .int .i64 fr, .int .i64 tg, .int .i64 rd, .slice A71 (l.length + 1) c72]) 1 S74 inf57 ?_; intro w77 S78; clear S74
     refine qk [2, 4, 5, 7, 9] ?_
     refine x_utssr (vm ?_)
     refine vv (v := .bool true) yno ?_
     refine vm ?_
     iterate 3 refine vs ?_
     refine vv ypT ?_
     refine vm ?_
     iterate 3 refine vs ?_
     refine vv ypT ?_
     refine qk [4, 5, 7, 172] ?_
     refine x_tysr (vv yzB ?_)
     refine sa 3 S78 inf108 ?_; intro w79 S80; clear S78
     refine va ?_
     refine qk [4, 5] ?_
     refine x_teh (pc 3 S80 Try.underlying108 inf108 ?_)
     have S81 : St _ _ _ [] := S80.dels [6, 5, 4, 3, 2, 1, 0]; clear S80
     rw [applied_add (.inl ⟨rfl, rfl⟩) h13 h17, if_neg (by (try dsimp only); omega)]
     exact ⟨none, 0, rfl, rdo_nil S81⟩
   ·refine vv (yeqlF h28) ?_
    refine va ?_
    refine qk [2, 3, 4, 5, 7, 8] ?_
    refine x_tsr (vv (yfa 3 fa51_3) ?_)
    refine vv (ylc 3 S27 Try.underlying3) ?_
    by_cases h82 : pe = 0
    ·refine vv (yeqlT h82) ?_
     refine vm ?_
     iterate 3 refine vs ?_
     refine vv ypT ?_
     refine vm ?_
     iterate 3 refine vs ?_
     refine vv ypT ?_
     refine va ?_
     refine qk [2, 3, 4, 5, 7, 8, 9] ?_
     refine x_tssr (vv (yfa 0 fa51_0) ?_)
     refine vv (ylc 3 S27 Try.underlying3) ?_
     refine qk [2, 3, 4, 5, 7, 8, 9, 43] ?_
     refine x_tbsr (vv deqlF ?_)
     refine va ?_
     refine qk [2, 3, 4, 5, 7, 8, 9, 43, 56] ?_
     refine x_tnsr (vv deqlT ?_)
     refine va ?_
     refine qk [2, 3, 4, 5, 7, 8, 9, 43, 74] ?_
     refine x_tysr (vm ?_)
     refine vm ?_
     refine vg ym ?_
     refine vv ypT ?_
     refine vm ?_
     iterate 3 refine vs ?_
     refine vv ypF ?_
     refine va ?_
     refine qk [2, 3, 4, 5, 7, 9] ?_
     refine x_tr (vv (yfa 5 fa108_5) ?_)
     refine vv (ylc 0 S27 Try.underlying57) ?_
     refine vv (yfa 4 fa51_4) ?_
     refine vv (y_load rfl rfl (r_load_agg (cs := [.int .i64 x.kind, .int .i64 x.producer, .int .i64 x.id, .int .i64 x.body, .int .i64 x.hepoch, .int .i64 x.hno]) Try.underlying37 rfl inf37 rfl (St.rg 3 S27 rfl (sub_row (x := 4) (m := 6) rfl)))) ?_
     refine wL_new (V := fun b => .slice (some ⟨b, 0, none⟩) 1 1) (row := #[.int .i64 x.kind, .int .i64 x.producer, .int .i64 x.id, .int .i64 x.body, .int .i64 x.hepoch, .int .i64 x.hno]) (t := 37) S27 (wn rfl) rfl rfl (d_buildSlice (vs := [(0, .agg #[.int .i64 x.kind, .int .i64 x.producer, .int .i64 x.id, .int .i64 x.body, .int .i64 x.hepoch, .int .i64 x.hno])]) rfl ⟨rfl, rfl, trivial⟩ (by kernel_rfl)) ?_; intro b83 w84 S85; clear S27
     refine wL_append (news := [.int .i64 x.kind, .int .i64 x.producer, .int .i64 x.id, .int .i64 x.body, .int .i64 x.hepoch, .int .i64 x.hno]) (xs' := (l ++ [x]).flatMap Ev.cells) 2 S85 (wn rfl) rfl rfl rfl rfl rfl rfl (St.bld (xs := [.int .i64 x.kind, .int .i64 x.producer, .int .i64 x.id, .int .i64 x.body, .int .i64 x.hepoch, .int .i64 x.hno]) 0 S85 rfl rfl rfl) Try.underlying57 infz37 rfl (by decide) (oneAll rfl) (by simp only [maxLen]; omega) (by omega) (fm_snoc (enc := Ev.cells) rfl rfl) ?_; intro A86 c87 w88 hc90 hm91 S89; clear S85
     change St _ _ _ [_, _, .own 37 6 (.slice A86 (l.length + 1) c87) (l.length + 1) ((l ++ [x]).flatMap Ev.cells), _, _, _, _] at S89
     refine vv (yfa 5 fa108_5) ?_
     refine sr (row' := #[.int .i64 ro, .int .i64 ep, .int .i64 fr, .int .i64 tg, .int .i64 rd, .slice A86 (l.length + 1) c87]) 1 S89 inf57 ?_; intro w92 S93; clear S89
     refine qk [2, 4, 5, 7, 9] ?_
     refine x_utssr (vm ?_)
     refine vv (v := .bool true) yno ?_
     refine vm ?_
     iterate 3 refine vs ?_
     refine vv ypT ?_
     refine vm ?_
     iterate 3 refine vs ?_
     refine vv ypT ?_
     refine qk [4, 5, 7, 172] ?_
     refine x_tysr (vv yzB ?_)
     refine sa 3 S93 inf108 ?_; intro w94 S95; clear S93
     refine va ?_
     refine qk [4, 5] ?_
     refine x_teh (pc 3 S95 Try.underlying108 inf108 ?_)
     have S96 : St _ _ _ [] := S95.dels [6, 5, 4, 3, 2, 1, 0]; clear S95
     rw [applied_add (.inl ⟨rfl, rfl⟩) h13 h17, if_neg (by (try dsimp only); omega)]
     exact ⟨none, 0, rfl, rdo_nil S96⟩
    ·refine vv (yeqlF h82) ?_
     refine vm ?_
     refine vg (yfa 0 fa51_0) ?_
     refine vg (ylc 3 S27 Try.underlying3) ?_
     refine vg deqlF ?_
     refine vv ypF ?_
     refine vm ?_
     refine vg (yfa 0 fa51_0) ?_
     refine vg (ylc 3 S27 Try.underlying3) ?_
     refine vg deqlF ?_
     refine vv ypF ?_
     refine va ?_
     refine qk [2, 3, 4, 5, 7, 8, 9] ?_
     refine x_tssr (vv (yfa 0 fa51_0) ?_)
     refine vv (ylc 3 S27 Try.underlying3) ?_
     refine qk [2, 3, 4, 5, 7, 8, 9, 43] ?_
     refine x_tbsr (vv deqlF ?_)
     refine va ?_
     refine qk [2, 3, 4, 5, 7, 8, 9, 43, 56] ?_
     refine x_tnsr (vv deqlT ?_)
     refine va ?_
     refine qk [2, 3, 4, 5, 7, 8, 9, 43, 74] ?_
     refine x_tysr (vm ?_)
     refine vm ?_
     refine vs ?_
     refine vv ypF ?_
     refine vm ?_
     iterate 3 refine vs ?_
     refine vv ypF ?_
     refine va ?_
     refine qk [2, 3, 4, 5, 7, 9] ?_
     refine x_tr (vv (yfa 5 fa108_5) ?_)
     refine vv (ylc 0 S27 Try.underlying57) ?_
     refine vv (yfa 4 fa51_4) ?_
     refine vv (y_load rfl rfl (r_load_agg (cs := [.int .i64 x.kind, .int .i64 x.producer, .int .i64 x.id, .int .i64 x.body, .int .i64 x.hepoch, .int .i64 x.hno]) Try.underlying37 rfl inf37 rfl (St.rg 3 S27 rfl (sub_row (x := 4) (m := 6) rfl)))) ?_
     refine wL_new (V := fun b => .slice (some ⟨b, 0, none⟩) 1 1) (row := #[.int .i64 x.kind, .int .i64 x.producer, .int .i64 x.id, .int .i64 x.body, .int .i64 x.hepoch, .int .i64 x.hno]) (t := 37) S27 (wn rfl) rfl rfl (d_buildSlice (vs := [(0, .agg #[.int .i64 x.kind, .int .i64 x.producer, .int .i64 x.id, .int .i64 x.body, .int .i64 x.hepoch, .int .i64 x.hno])]) rfl ⟨rfl, rfl, trivial⟩ (by kernel_rfl)) ?_; intro b97 w98 S99; clear S27
     refine wL_append (news := [.int .i64 x.kind, .int .i64 x.producer, .int .i64 x.id, .int .i64 x.body, .int .i64 x.hepoch, .int .i64 x.hno]) (xs' := (l ++ [x]).flatMap Ev.cells) 2 S99 (wn rfl) rfl rfl rfl rfl rfl rfl (St.bld (xs := [.int .i64 x.kind, .int .i64 x.producer, .int .i64 x.id, .int .i64 x.body, .int .i64 x.hepoch, .int .i64 x.hno]) 0 S99 rfl rfl rfl) Try.underlying57 infz37 rfl (by decide) (oneAll rfl) (by simp only [maxLen]; omega) (by omega) (fm_snoc (enc := Ev.cells) rfl rfl) ?_; intro A100 c101 w102 hc104 hm105 S103; clear S99
     change St _ _ _ [_, _, .own 37 6 (.slice A100 (l.length + 1) c101) (l.length + 1) ((l ++ [x]).flatMap Ev.cells), _, _, _, _] at S103
     refine vv (yfa 5 fa108_5) ?_
     refine sr (row' := #[.int .i64 ro, .int .i64 ep, .int .i64 fr, .int .i64 tg, .int .i64 rd, .slice A100 (l.length + 1) c101]) 1 S103 inf57 ?_; intro w106 S107; clear S103
     refine qk [2, 4, 5, 7, 9] ?_
     refine x_utssr (vm ?_)
     refine vv (v := .bool true) yno ?_
     refine vm ?_
     iterate 3 refine vs ?_
     refine vv ypT ?_
     refine vm ?_
     iterate 3 refine vs ?_
     refine vv ypT ?_
     refine qk [4, 5, 7, 172] ?_
     refine x_tysr (vv yzB ?_)
     refine sa 3 S107 inf108 ?_; intro w108 S109; clear S107
     refine va ?_
     refine qk [4, 5] ?_
     refine x_teh (pc 3 S109 Try.underlying108 inf108 ?_)
     have S110 : St _ _ _ [] := S109.dels [6, 5, 4, 3, 2, 1, 0]; clear S109
     rw [applied_add (.inl ⟨rfl, rfl⟩) h13 h17, if_neg (by (try dsimp only); omega)]
     exact ⟨none, 0, rfl, rdo_nil S110⟩
  ·refine vv (yneqT h17) ?_
   refine qk [2, 3, 4, 5, 6, 19] ?_
   refine x_tysr (vv yzB ?_)
   refine vm ?_
   refine sa 0 S15 inf108 ?_; intro w111 S112; clear S15
   refine va ?_
   refine qk [4, 5] ?_
   refine x_teh (pc 0 S112 Try.underlying108 inf108 ?_)
   have S113 : St _ _ _ [] := S112.dels [3, 2, 1, 0]; clear S112
   rw [apply_rf h13 h17]
   exact ⟨none, 0, rfl, rdo_nil S113⟩
 ·refine vv (yeqlF h13) ?_
  refine qk [2, 3, 4, 5, 6, 15] ?_
  refine x_tnktssr (vm ?_)
  refine vv (yneqT h13) ?_
  refine qk [2, 3, 4, 5, 6, 19] ?_
  refine x_tysr (vv yzB ?_)
  refine vm ?_
  refine sa 0 S11 inf108 ?_; intro w114 S115; clear S11
  refine va ?_
  refine qk [4, 5] ?_
  refine x_teh (pc 0 S115 Try.underlying108 inf108 ?_)
  have S116 : St _ _ _ [] := S115.dels [3, 2, 1, 0]; clear S115
  rw [apply_bf h13]
  exact ⟨none, 0, rfl, rdo_nil S116⟩
end Go.Proofs.Ytkjlafpafmihaaa

namespace Go.Proofs.Ytkjlafpafmihaaa
open Go.ChangeShapes Go.WideShapes Go.RowKit

set_option maxRecDepth 100000 in
set_option maxHeartbeats 8000000 in
theorem Applied_k3 (ro ep fr tg rd : Int) (A : Option Addr) (c : Nat) (l : List Ev) (qu e pe : Int) (x : Ev) (w : World) (h : Rd w w.heap.size 6 A l.length (evCells l)) (hb : l.length * 48 ≤ reachBytes) :
    Calls Try.prog 99 #[.agg #[.int .i64 ro, .int .i64 ep, .int .i64 fr, .int .i64 tg, .int .i64 rd, .slice A l.length c], .agg #[.int .i64 3, .int .i64 qu, .int .i64 e, .int .i64 pe, .int .i64 x.kind, .int .i64 x.producer, .int .i64 x.id, .int .i64 x.body, .int .i64 x.hepoch, .int .i64 x.hno]] w (BrtPost w (applyM ⟨ro, ep, fr, tg, rd, l⟩ ⟨3, qu, e, pe, x⟩)) := by
 have S := (St.start w).addRd h; clear h
 have hb2 := hb
 unfold reachBytes at hb2
 refine fnw 175 Try.func99 ?_
 refine cw [0, 1] ?_
 refine x_sr (nb (row := #[.int .i64 ro, .int .i64 ep, .int .i64 fr, .int .i64 tg, .int .i64 rd, .slice A l.length c]) S ?_); intro b1 w2 S3; clear S
 refine nb (row := #[.int .i64 3, .int .i64 qu, .int .i64 e, .int .i64 pe, .int .i64 x.kind, .int .i64 x.producer, .int .i64 x.id, .int .i64 x.body, .int .i64 x.hepoch, .int .i64 x.hno]) S3 ?_; intro b4 w5 S6; clear S3
 refine naB S6 Try.zeroValue108 ?_; intro b7 w8 S9; clear S6
 refine va ?_
 refine qk [2, 3, 4, 5] ?_
 refine x_tsr (vv (ylr 2 S9 Try.underlying108 inf108) ?_)
 refine cab en78 S9 (BerthFault_calls ro ep fr tg rd A c l _ (St.rd 3 S9 rfl) (by omega)) ?_; intro w10 S11; clear S9
 refine va ?_
 refine qk [2, 3, 4, 5, 6] ?_
 refine x_tssr (vm ?_)
 by_cases h13 : brtFault ⟨ro, ep, fr, tg, rd, l⟩ = 0
 ·have hln := tellM_len (bf_zero h13).2
  dsimp only at hln
  refine vv (yeqlT h13) ?_
  refine qk [2, 3, 4, 5, 6, 15] ?_
  refine wQ_then (wC_cond_t rfl (wC_region (vv (ylr 1 S11 Try.underlying51 inf51) ?_)))
  refine cab en122 S11 (RecordFault_calls ⟨3, qu, e, pe, x⟩ _) ?_; intro w14 S15; clear S11
  refine va ?_
  refine qk [2, 3, 4, 5, 6] ?_
  refine x_tssr (vm ?_)
  by_cases h17 : recFault ⟨3, qu, e, pe, x⟩ = 0
  ·have hrz := rec_zero h17
   dsimp only at hrz
   refine vv (yneqF h17) ?_
   refine qk [2, 3, 4, 5, 6, 19] ?_
   refine x_tnktsr (vv (ylr 2 S15 Try.underlying108 inf108) ?_)
   refine cal en156 (BerthCopy_calls ro ep fr tg rd A c l _ (St.rd 3 S15 rfl) hb) ?_
   rintro _ w20 ⟨A18, c19, rfl, T22⟩
   refine ⟨_, rfl, ?_⟩
   have S21 := S15.ext T22 rfl; clear T22 S15
   change St _ _ _ [.own 37 6 (.slice A18 l.length c19) l.length ((l).flatMap Ev.cells), _, _, _, _] at S21
   refine naB S21 Try.zeroValue108 ?_; intro b23 w24 S25; clear S21
   refine sa 0 S25 inf108 ?_; intro w26 S27; clear S25
   refine qk [2, 3, 4, 5, 7] ?_
   refine x_tsr (vv (yfa 1 fa108_1) ?_)
   refine vv (ylc 4 S27 Try.underlying3) ?_
   refine vv (yfa 2 fa51_2) ?_
   refine vv (ylc 3 S27 Try.underlying3) ?_
   by_cases h28 : ep = e
   ·refine vv (yeqlT h28) ?_
    refine va ?_
    refine qk [2, 3, 4, 5, 7, 8] ?_
    refine x_tsr (vv (yfa 3 fa51_3) ?_)
    refine vv (ylc 3 S27 Try.underlying3) ?_
    by_cases h29 : pe = 0
    ·refine vv (yeqlT h29) ?_
     refine vm ?_
     iterate 3 refine vs ?_
     refine vv ypT ?_
     refine vm ?_
     iterate 3 refine vs ?_
     refine vv ypT ?_
     refine va ?_
     refine qk [2, 3, 4, 5, 7, 8, 9] ?_
     refine x_tssr (vv (yfa 0 fa51_0) ?_)
     refine vv (ylc 3 S27 Try.underlying3) ?_
     refine qk [2, 3, 4, 5, 7, 8, 9, 43] ?_
     refine x_tbsr (vv deqlF ?_)
     refine va ?_
     refine qk [2, 3, 4, 5, 7, 8, 9, 43, 56] ?_
     refine x_tnsr (vv deqlF ?_)
     refine va ?_
     refine qk [2, 3, 4, 5, 7, 8, 9, 43, 74] ?_
     refine x_tnsr (vv deqlT ?_)
     refine va ?_
     refine qk [2, 3, 4, 5, 7, 8, 9, 43, 92] ?_
     refine x_tysr (vm ?_)
     refine vm ?_
     refine vg ym ?_
     refine vv ypT ?_
     refine vm ?_
     refine vg (yfa 0 fa108_0) ?_
     refine vg (ylc 4 S27 Try.underlying3) ?_
     by_cases h30 : ro = 1
     ·refine vg (yeqlT h30) ?_
      refine vv ypT ?_
      refine va ?_
      refine qk [2, 3, 4, 5, 7, 9] ?_
      refine x_tsr (vv (yfa 0 fa108_0) ?_)
      refine sr (row' := #[.int .i64 3, .int .i64 ep, .int .i64 fr, .int .i64 tg, .int .i64 rd, .slice A18 l.length c19]) 0 S27 inf3 ?_; intro w31 S32; clear S27
      refine qk [2, 3, 4, 5, 7, 9] ?_
      refine x_tr (vv (yfa 3 fa51_3) ?_)
      refine vv (ylc 3 S32 Try.underlying3) ?_
      refine vv (yfa 3 fa108_3) ?_
      refine sr (row' := #[.int .i64 3, .int .i64 ep, .int .i64 fr, .int .i64 pe, .int .i64 rd, .slice A18 l.length c19]) 0 S32 inf3 ?_; intro w33 S34; clear S32
      refine qk [2, 4, 5, 7, 9] ?_
      refine x_utssr (vm ?_)
      refine vv (v := .bool false) yno ?_
      refine vm ?_
      refine vg (yfa 0 fa108_0) ?_
      refine vg (ylc 4 S34 Try.underlying3) ?_
      refine vg (deqlF (h := by omega)) ?_
      refine vv ypF ?_
      refine vm ?_
      refine vg (ylr 0 S34 Try.underlying108 inf108) ?_
      refine calg en78 (BerthFault_calls 3 ep fr pe rd A18 c19 l _ (St.ord 1 S34 rfl) (by omega)) ?_
      rintro _ w35 ⟨rfl, hb37⟩
      refine ⟨_, rfl, ?_⟩
      have S36 := S34.on hb37; clear hb37 S34
      by_cases h38 : brtFault ⟨3, ep, fr, pe, rd, l⟩ = 0
      ·refine vg (yneqF h38) ?_
       refine vv ypF ?_
       refine qk [4, 5, 7, 172] ?_
       refine x_tnktsr (vv (ylr 0 S36 Try.underlying108 inf108) ?_)
       refine sa 2 S36 inf108 ?_; intro w39 S40; clear S36
       refine va ?_
       refine qk [4, 5] ?_
       refine x_te (pc 2 S40 Try.underlying108 inf108 ?_)
       have S41 : St _ _ _ [_] := S40.dels [5, 4, 3, 2, 0]; clear S40
       have S42 := S41.sealAll 0 rfl; clear S41
       change St _ _ _ [.rdo 6 A18 l.length ((l).flatMap Ev.cells)] at S42
       rw [applied_3 h13 h17, if_pos (by (try dsimp only); omega)]
       try dsimp only
       exact ⟨A18, c19, rfl, S42⟩
      ·refine vg (yneqT h38) ?_
       refine vv ypF ?_
       refine qk [4, 5, 7, 172] ?_
       refine x_tysr (vv yzB ?_)
       refine sa 2 S36 inf108 ?_; intro w43 S44; clear S36
       refine va ?_
       refine qk [4, 5] ?_
       refine x_teh (pc 2 S44 Try.underlying108 inf108 ?_)
       have S45 : St _ _ _ [] := S44.dels [5, 4, 3, 2, 1, 0]; clear S44
       rw [applied_3 h13 h17, if_neg (by (try dsimp only); omega)]
       exact ⟨none, 0, rfl, rdo_nil S45⟩
     ·refine vg (yeqlF h30) ?_
      refine vv ypT ?_
      refine va ?_
      refine qk [2, 3, 4, 5, 7, 9] ?_
      refine x_tsr (vv (yfa 0 fa108_0) ?_)
      refine sr (row' := #[.int .i64 3, .int .i64 ep, .int .i64 fr, .int .i64 tg, .int .i64 rd, .slice A18 l.length c19]) 0 S27 inf3 ?_; intro w46 S47; clear S27
      refine qk [2, 3, 4, 5, 7, 9] ?_
      refine x_tr (vv (yfa 3 fa51_3) ?_)
      refine vv (ylc 3 S47 Try.underlying3) ?_
      refine vv (yfa 3 fa108_3) ?_
      refine sr (row' := #[.int .i64 3, .int .i64 ep, .int .i64 fr, .int .i64 pe, .int .i64 rd, .slice A18 l.length c19]) 0 S47 inf3 ?_; intro w48 S49; clear S47
      refine qk [2, 4, 5, 7, 9] ?_
      refine x_utssr (vm ?_)
      refine vv (v := .bool true) yno ?_
      refine vm ?_
      iterate 3 refine vs ?_
      refine vv ypT ?_
      refine vm ?_
      iterate 3 refine vs ?_
      refine vv ypT ?_
      refine qk [4, 5, 7, 172] ?_
      refine x_tysr (vv yzB ?_)
      refine sa 2 S49 inf108 ?_; intro w50 S51; clear S49
      refine va ?_
      refine qk [4, 5] ?_
      refine x_teh (pc 2 S51 Try.underlying108 inf108 ?_)
      have S52 : St _ _ _ [] := S51.dels [5, 4, 3, 2, 1, 0]; clear S51
      rw [applied_3 h13 h17, if_neg (by (try dsimp only); omega)]
      exact ⟨none, 0, rfl, rdo_nil S52⟩
    ·refine vv (yeqlF h29) ?_
     refine vm ?_
     refine vg (yfa 0 fa51_0) ?_
     refine vg (ylc 3 S27 Try.underlying3) ?_
     refine vg deqlT ?_
     refine vv ypF ?_
     refine vm ?_
     iterate 3 refine vs ?_
     refine vv ypT ?_
     refine va ?_
     refine qk [2, 3, 4, 5, 7, 8, 9] ?_
     refine x_tssr (vv (yfa 0 fa51_0) ?_)
     refine vv (ylc 3 S27 Try.underlying3) ?_
     refine qk [2, 3, 4, 5, 7, 8, 9, 43] ?_
     refine x_tbsr (vv deqlF ?_)
     refine va ?_
     refine qk [2, 3, 4, 5, 7, 8, 9, 43, 56] ?_
     refine x_tnsr (vv deqlF ?_)
     refine va ?_
     refine qk [2, 3, 4, 5, 7, 8, 9, 43, 74] ?_
     refine x_tnsr (vv deqlT ?_)
     refine va ?_
     refine qk [2, 3, 4, 5, 7, 8, 9, 43, 92] ?_
     refine x_tysr (vm ?_)
     refine vm ?_
     refine vg ym ?_
     refine vv ypT ?_
     refine vm ?_
     refine vg (yfa 0 fa108_0) ?_
     refine vg (ylc 4 S27 Try.underlying3) ?_
     by_cases h53 : ro = 1
     ·refine vg (yeqlT h53) ?_
      refine vv ypT ?_
      refine va ?_
      refine qk [2, 3, 4, 5, 7, 9] ?_
      refine x_tsr (vv (yfa 0 fa108_0) ?_)
      refine sr (row' := #[.int .i64 3, .int .i64 ep, .int .i64 fr, .int .i64 tg, .int .i64 rd, .slice A18 l.length c19]) 0 S27 inf3 ?_; intro w54 S55; clear S27
      refine qk [2, 3, 4, 5, 7, 9] ?_
      refine x_tr (vv (yfa 3 fa51_3) ?_)
      refine vv (ylc 3 S55 Try.underlying3) ?_
      refine vv (yfa 3 fa108_3) ?_
      refine sr (row' := #[.int .i64 3, .int .i64 ep, .int .i64 fr, .int .i64 pe, .int .i64 rd, .slice A18 l.length c19]) 0 S55 inf3 ?_; intro w56 S57; clear S55
      refine qk [2, 4, 5, 7, 9] ?_
      refine x_utssr (vm ?_)
      refine vv (v := .bool false) yno ?_
      refine vm ?_
      refine vg (yfa 0 fa108_0) ?_
      refine vg (ylc 4 S57 Try.underlying3) ?_
      refine vg (deqlF (h := by omega)) ?_
      refine vv ypF ?_
      refine vm ?_
      refine vg (ylr 0 S57 Try.underlying108 inf108) ?_
      refine calg en78 (BerthFault_calls 3 ep fr pe rd A18 c19 l _ (St.ord 1 S57 rfl) (by omega)) ?_
      rintro _ w58 ⟨rfl, hb60⟩
      refine ⟨_, rfl, ?_⟩
      have S59 := S57.on hb60; clear hb60 S57
      by_cases h61 : brtFault ⟨3, ep, fr, pe, rd, l⟩ = 0
      ·refine vg (yneqF h61) ?_
       refine vv ypF ?_
       refine qk [4, 5, 7, 172] ?_
       refine x_tnktsr (vv (ylr 0 S59 Try.underlying108 inf108) ?_)
       refine sa 2 S59 inf108 ?_; intro w62 S63; clear S59
       refine va ?_
       refine qk [4, 5] ?_
       refine x_te (pc 2 S63 Try.underlying108 inf108 ?_)
       have S64 : St _ _ _ [_] := S63.dels [5, 4, 3, 2, 0]; clear S63
       have S65 := S64.sealAll 0 rfl; clear S64
       change St _ _ _ [.rdo 6 A18 l.length ((l).flatMap Ev.cells)] at S65
       rw [applied_3 h13 h17, if_pos (by (try dsimp only); omega)]
       try dsimp only
       exact ⟨A18, c19, rfl, S65⟩
      ·refine vg (yneqT h61) ?_
       refine vv ypF ?_
       refine qk [4, 5, 7, 172] ?_
       refine x_tysr (vv yzB ?_)
       refine sa 2 S59 inf108 ?_; intro w66 S67; clear S59
       refine va ?_
       refine qk [4, 5] ?_
       refine x_teh (pc 2 S67 Try.underlying108 inf108 ?_)
       have S68 : St _ _ _ [] := S67.dels [5, 4, 3, 2, 1, 0]; clear S67
       rw [applied_3 h13 h17, if_neg (by (try dsimp only); omega)]
       exact ⟨none, 0, rfl, rdo_nil S68⟩
     ·refine vg (yeqlF h53) ?_
      refine vv ypT ?_
      refine va ?_
      refine qk [2, 3, 4, 5, 7, 9] ?_
      refine x_tsr (vv (yfa 0 fa108_0) ?_)
      refine sr (row' := #[.int .i64 3, .int .i64 ep, .int .i64 fr, .int .i64 tg, .int .i64 rd, .slice A18 l.length c19]) 0 S27 inf3 ?_; intro w69 S70; clear S27
      refine qk [2, 3, 4, 5, 7, 9] ?_
      refine x_tr (vv (yfa 3 fa51_3) ?_)
      refine vv (ylc 3 S70 Try.underlying3) ?_
      refine vv (yfa 3 fa108_3) ?_
      refine sr (row' := #[.int .i64 3, .int .i64 ep, .int .i64 fr, .int .i64 pe, .int .i64 rd, .slice A18 l.length c19]) 0 S70 inf3 ?_; intro w71 S72; clear S70
      refine qk [2, 4, 5, 7, 9] ?_
      refine x_utssr (vm ?_)
      refine vv (v := .bool true) yno ?_
      refine vm ?_
      iterate 3 refine vs ?_
      refine vv ypT ?_
      refine vm ?_
      iterate 3 refine vs ?_
      refine vv ypT ?_
      refine qk [4, 5, 7, 172] ?_
      refine x_tysr (vv yzB ?_)
      refine sa 2 S72 inf108 ?_; intro w73 S74; clear S72
      refine va ?_
      refine qk [4, 5] ?_
      refine x_teh (pc 2 S74 Try.underlying108 inf108 ?_)
      have S75 : St _ _ _ [] := S74.dels [5, 4, 3, 2, 1, 0]; clear S74
      rw [applied_3 h13 h17, if_neg (by (try dsimp only); omega)]
      exact ⟨none, 0, rfl, rdo_nil S75⟩
   ·refine vv (yeqlF h28) ?_
    refine va ?_
    refine qk [2, 3, 4, 5, 7, 8] ?_
    refine x_tsr (vv (yfa 3 fa51_3) ?_)
    refine vv (ylc 3 S27 Try.underlying3) ?_
    by_cases h76 : pe = 0
    ·refine vv (yeqlT h76) ?_
     refine vm ?_
     iterate 3 refine vs ?_
     refine vv ypT ?_
     refine vm ?_
     iterate 3 refine vs ?_
     refine vv ypT ?_
     refine va ?_
     refine qk [2, 3, 4, 5, 7, 8, 9] ?_
     refine x_tssr (vv (yfa 0 fa51_0) ?_)
     refine vv (ylc 3 S27 Try.underlying3) ?_
     refine qk [2, 3, 4, 5, 7, 8, 9, 43] ?_
     refine x_tbsr (vv deqlF ?_)
     refine va ?_
     refine qk [2, 3, 4, 5, 7, 8, 9, 43, 56] ?_
     refine x_tnsr (vv deqlF ?_)
     refine va ?_
     refine qk [2, 3, 4, 5, 7, 8, 9, 43, 74] ?_
     refine x_tnsr (vv deqlT ?_)
     refine va ?_
     refine qk [2, 3, 4, 5, 7, 8, 9, 43, 92] ?_
     refine x_tysr (vm ?_)
     refine vm ?_
     refine vg ym ?_
     refine vv ypT ?_
     refine vm ?_
     iterate 3 refine vs ?_
     refine vv ypF ?_
     refine va ?_
     refine qk [2, 3, 4, 5, 7, 9] ?_
     refine x_tsr (vv (yfa 0 fa108_0) ?_)
     refine sr (row' := #[.int .i64 3, .int .i64 ep, .int .i64 fr, .int .i64 tg, .int .i64 rd, .slice A18 l.length c19]) 0 S27 inf3 ?_; intro w77 S78; clear S27
     refine qk [2, 3, 4, 5, 7, 9] ?_
     refine x_tr (vv (yfa 3 fa51_3) ?_)
     refine vv (ylc 3 S78 Try.underlying3) ?_
     refine vv (yfa 3 fa108_3) ?_
     refine sr (row' := #[.int .i64 3, .int .i64 ep, .int .i64 fr, .int .i64 pe, .int .i64 rd, .slice A18 l.length c19]) 0 S78 inf3 ?_; intro w79 S80; clear S78
     refine qk [2, 4, 5, 7, 9] ?_
     refine x_utssr (vm ?_)
     refine vv (v := .bool true) yno ?_
     refine vm ?_
     iterate 3 refine vs ?_
     refine vv ypT ?_
     refine vm ?_
     iterate 3 refine vs ?_
     refine vv ypT ?_
     refine qk [4, 5, 7, 172] ?_
     refine x_tysr (vv yzB ?_)
     refine sa 2 S80 inf108 ?_; intro w81 S82; clear S80
     refine va ?_
     refine qk [4, 5] ?_
     refine x_teh (pc 2 S82 Try.underlying108 inf108 ?_)
     have S83 : St _ _ _ [] := S82.dels [5, 4, 3, 2, 1, 0]; clear S82
     rw [applied_3 h13 h17, if_neg (by (try dsimp only); omega)]
     exact ⟨none, 0, rfl, rdo_nil S83⟩
    ·refine vv (yeqlF h76) ?_
     refine vm ?_
     refine vg (yfa 0 fa51_0) ?_
     refine vg (ylc 3 S27 Try.underlying3) ?_
     refine vg deqlT ?_
     refine vv ypF ?_
     refine vm ?_
     iterate 3 refine vs ?_
     refine vv ypT ?_
     refine va ?_
     refine qk [2, 3, 4, 5, 7, 8, 9] ?_
     refine x_tssr (vv (yfa 0 fa51_0) ?_)
     refine vv (ylc 3 S27 Try.underlying3) ?_
     refine qk [2, 3, 4, 5, 7, 8, 9, 43] ?_
     refine x_tbsr (vv deqlF ?_)
     refine va ?_
     refine qk [2, 3, 4, 5, 7, 8, 9, 43, 56] ?_
     refine x_tnsr (vv deqlF ?_)
     refine va ?_
     refine qk [2, 3, 4, 5, 7, 8, 9, 43, 74] ?_
     refine x_tnsr (vv deqlT ?_)
     refine va ?_
     refine qk [2, 3, 4, 5, 7, 8, 9, 43, 92] ?_
     refine x_tysr (vm ?_)
     refine vm ?_
     refine vg ym ?_
     refine vv ypT ?_
     refine vm ?_
     iterate 3 refine vs ?_
     refine vv ypF ?_
     refine va ?_
     refine qk [2, 3, 4, 5, 7, 9] ?_
     refine x_tsr (vv (yfa 0 fa108_0) ?_)
     refine sr (row' := #[.int .i64 3, .int .i64 ep, .int .i64 fr, .int .i64 tg, .int .i64 rd, .slice A18 l.length c19]) 0 S27 inf3 ?_; intro w84 S85; clear S27
     refine qk [2, 3, 4, 5, 7, 9] ?_
     refine x_tr (vv (yfa 3 fa51_3) ?_)
     refine vv (ylc 3 S85 Try.underlying3) ?_
     refine vv (yfa 3 fa108_3) ?_
     refine sr (row' := #[.int .i64 3, .int .i64 ep, .int .i64 fr, .int .i64 pe, .int .i64 rd, .slice A18 l.length c19]) 0 S85 inf3 ?_; intro w86 S87; clear S85
     refine qk [2, 4, 5, 7, 9] ?_
     refine x_utssr (vm ?_)
     refine vv (v := .bool true) yno ?_
     refine vm ?_
     iterate 3 refine vs ?_
     refine vv ypT ?_
     refine vm ?_
     iterate 3 refine vs ?_
     refine vv ypT ?_
     refine qk [4, 5, 7, 172] ?_
     refine x_tysr (vv yzB ?_)
     refine sa 2 S87 inf108 ?_; intro w88 S89; clear S87
     refine va ?_
     refine qk [4, 5] ?_
     refine x_teh (pc 2 S89 Try.underlying108 inf108 ?_)
     have S90 : St _ _ _ [] := S89.dels [5, 4, 3, 2, 1, 0]; clear S89
     rw [applied_3 h13 h17, if_neg (by (try dsimp only); omega)]
     exact ⟨none, 0, rfl, rdo_nil S90⟩
  ·refine vv (yneqT h17) ?_
   refine qk [2, 3, 4, 5, 6, 19] ?_
   refine x_tysr (vv yzB ?_)
   refine vm ?_
   refine sa 0 S15 inf108 ?_; intro w91 S92; clear S15
   refine va ?_
   refine qk [4, 5] ?_
   refine x_teh (pc 0 S92 Try.underlying108 inf108 ?_)
   have S93 : St _ _ _ [] := S92.dels [3, 2, 1, 0]; clear S92
   rw [apply_rf h13 h17]
   exact ⟨none, 0, rfl, rdo_nil S93⟩
 ·refine vv (yeqlF h13) ?_
  refine qk [2, 3, 4, 5, 6, 15] ?_
  refine x_tnktssr (vm ?_)
  refine vv (yneqT h13) ?_
  refine qk [2, 3, 4, 5, 6, 19] ?_
  refine x_tysr (vv yzB ?_)
  refine vm ?_
  refine sa 0 S11 inf108 ?_; intro w94 S95; clear S11
  refine va ?_
  refine qk [4, 5] ?_
  refine x_teh (pc 0 S95 Try.underlying108 inf108 ?_)
  have S96 : St _ _ _ [] := S95.dels [3, 2, 1, 0]; clear S95
  rw [apply_bf h13]
  exact ⟨none, 0, rfl, rdo_nil S96⟩
end Go.Proofs.Ytkjlafpafmihaaa

namespace Go.Proofs.Ytkjlafpafmihaaa
open Go.ChangeShapes Go.WideShapes Go.RowKit

set_option maxRecDepth 100000 in
set_option maxHeartbeats 8000000 in
theorem Applied_k4 (ro ep fr tg rd : Int) (A : Option Addr) (c : Nat) (l : List Ev) (qu e pe : Int) (x : Ev) (w : World) (h : Rd w w.heap.size 6 A l.length (evCells l)) (hb : l.length * 48 ≤ reachBytes) :
    Calls Try.prog 99 #[.agg #[.int .i64 ro, .int .i64 ep, .int .i64 fr, .int .i64 tg, .int .i64 rd, .slice A l.length c], .agg #[.int .i64 4, .int .i64 qu, .int .i64 e, .int .i64 pe, .int .i64 x.kind, .int .i64 x.producer, .int .i64 x.id, .int .i64 x.body, .int .i64 x.hepoch, .int .i64 x.hno]] w (BrtPost w (applyM ⟨ro, ep, fr, tg, rd, l⟩ ⟨4, qu, e, pe, x⟩)) := by
 have S := (St.start w).addRd h; clear h
 have hb2 := hb
 unfold reachBytes at hb2
 obtain ⟨R, hR⟩ : ∃ R, beginM ⟨ro, ep, fr, tg, rd, l⟩ e pe = R := ⟨_, rfl⟩
 have hlenR : R.1.evs.length ≤ l.length := by rw [← hR]; unfold beginM; (repeat' split) <;> simp [zeroB]
 refine fnw 175 Try.func99 ?_
 refine cw [0, 1] ?_
 refine x_sr (nb (row := #[.int .i64 ro, .int .i64 ep, .int .i64 fr, .int .i64 tg, .int .i64 rd, .slice A l.length c]) S ?_); intro b1 w2 S3; clear S
 refine nb (row := #[.int .i64 4, .int .i64 qu, .int .i64 e, .int .i64 pe, .int .i64 x.kind, .int .i64 x.producer, .int .i64 x.id, .int .i64 x.body, .int .i64 x.hepoch, .int .i64 x.hno]) S3 ?_; intro b4 w5 S6; clear S3
 refine naB S6 Try.zeroValue108 ?_; intro b7 w8 S9; clear S6
 refine va ?_
 refine qk [2, 3, 4, 5] ?_
 refine x_tsr (vv (ylr 2 S9 Try.underlying108 inf108) ?_)
 refine cab en78 S9 (BerthFault_calls ro ep fr tg rd A c l _ (St.rd 3 S9 rfl) (by omega)) ?_; intro w10 S11; clear S9
 refine va ?_
 refine qk [2, 3, 4, 5, 6] ?_
 refine x_tssr (vm ?_)
 by_cases h13 : brtFault ⟨ro, ep, fr, tg, rd, l⟩ = 0
 ·have hln := tellM_len (bf_zero h13).2
  dsimp only at hln
  refine vv (yeqlT h13) ?_
  refine qk [2, 3, 4, 5, 6, 15] ?_
  refine wQ_then (wC_cond_t rfl (wC_region (vv (ylr 1 S11 Try.underlying51 inf51) ?_)))
  refine cab en122 S11 (RecordFault_calls ⟨4, qu, e, pe, x⟩ _) ?_; intro w14 S15; clear S11
  refine va ?_
  refine qk [2, 3, 4, 5, 6] ?_
  refine x_tssr (vm ?_)
  by_cases h17 : recFault ⟨4, qu, e, pe, x⟩ = 0
  ·have hrz := rec_zero h17
   dsimp only at hrz
   refine vv (yneqF h17) ?_
   refine qk [2, 3, 4, 5, 6, 19] ?_
   refine x_tnktsr (vv (ylr 2 S15 Try.underlying108 inf108) ?_)
   refine cal en156 (BerthCopy_calls ro ep fr tg rd A c l _ (St.rd 3 S15 rfl) hb) ?_
   rintro _ w20 ⟨A18, c19, rfl, T22⟩
   refine ⟨_, rfl, ?_⟩
   have S21 := S15.ext T22 rfl; clear T22 S15
   change St _ _ _ [.own 37 6 (.slice A18 l.length c19) l.length ((l).flatMap Ev.cells), _, _, _, _] at S21
   refine naB S21 Try.zeroValue108 ?_; intro b23 w24 S25; clear S21
   refine sa 0 S25 inf108 ?_; intro w26 S27; clear S25
   refine qk [2, 3, 4, 5, 7] ?_
   refine x_tsr (vv (yfa 1 fa108_1) ?_)
   refine vv (ylc 4 S27 Try.underlying3) ?_
   refine vv (yfa 2 fa51_2) ?_
   refine vv (ylc 3 S27 Try.underlying3) ?_
   by_cases h28 : ep = e
   ·refine vv (yeqlT h28) ?_
    refine va ?_
    refine qk [2, 3, 4, 5, 7, 8] ?_
    refine x_tsr (vv (yfa 3 fa51_3) ?_)
    refine vv (ylc 3 S27 Try.underlying3) ?_
    by_cases h29 : pe = 0
    ·refine vv (yeqlT h29) ?_
     refine vm ?_
     iterate 3 refine vs ?_
     refine vv ypT ?_
     refine vm ?_
     iterate 3 refine vs ?_
     refine vv ypT ?_
     refine va ?_
     refine qk [2, 3, 4, 5, 7, 8, 9] ?_
     refine x_tssr (vv (yfa 0 fa51_0) ?_)
     refine vv (ylc 3 S27 Try.underlying3) ?_
     refine qk [2, 3, 4, 5, 7, 8, 9, 43] ?_
     refine x_tbsr (vv deqlF ?_)
     refine va ?_
     refine qk [2, 3, 4, 5, 7, 8, 9, 43, 56] ?_
     refine x_tnsr (vv deqlF ?_)
     refine va ?_
     refine qk [2, 3, 4, 5, 7, 8, 9, 43, 74] ?_
     refine x_tnsr (vv deqlF ?_)
     refine va ?_
     refine qk [2, 3, 4, 5, 7, 8, 9, 43, 92] ?_
     refine x_tnsr (vv deqlT ?_)
     refine va ?_
     refine qk [2, 3, 4, 5, 7, 8, 9, 43, 107] ?_
     refine x_tysr (vv (ylr 4 S27 Try.underlying108 inf108) ?_)
     refine vv (yfa 2 fa51_2) ?_
     refine vv (ylc 3 S27 Try.underlying3) ?_
     refine vv (yfa 3 fa51_3) ?_
     refine vv (ylc 3 S27 Try.underlying3) ?_
     refine cal en89 ((hR ▸ Begun_calls ro ep fr tg rd A c l e pe _ (St.rd 5 S27 rfl) hb)) ?_
     rintro _ w32 ⟨A30, c31, rfl, T34⟩
     refine ⟨_, rfl, ?_⟩
     have S33 := S27.ext T34 rfl; clear T34 S27
     change St _ _ _ [.rdo 6 A30 R.1.evs.length ((R.1.evs).flatMap Ev.cells), _, _, _, _, _, _] at S33
     refine vm ?_
     refine vv yx ?_
     refine vv yx ?_
     refine naB S33 Try.zeroValue108 ?_; intro b35 w36 S37; clear S33
     refine sa 0 S37 inf108 ?_; intro w38 S39; clear S37
     refine va ?_
     refine qk [2, 4, 5, 7, 9, 10, 11] ?_
     refine x_tsr (vm ?_)
     refine vm ?_
     refine vg ym ?_
     by_cases h40 : R.2 = 0
     ·refine vg (yeqlT h40) ?_
      refine vv ypT ?_
      refine va ?_
      refine qk [2, 4, 5, 7, 9, 10] ?_
      refine x_tr (vv (ylr 0 S39 Try.underlying108 inf108) ?_)
      refine sa 2 S39 inf108 ?_; intro w41 S42; clear S39
      refine qk [2, 4, 5, 7, 9] ?_
      refine x_utssr (vm ?_)
      refine vv (v := .bool false) yno ?_
      refine vm ?_
      refine vg (yfa 0 fa108_0) ?_
      refine vg (ylc 6 S42 Try.underlying3) ?_
      by_cases h43 : ro = 2
      ·refine vg (yeqlT h43) ?_
       refine vv ypF ?_
       refine vm ?_
       iterate 3 refine vs ?_
       refine vv ypT ?_
       refine qk [4, 5, 7, 172] ?_
       refine x_tysr (vv yzB ?_)
       refine sa 4 S42 inf108 ?_; intro w44 S45; clear S42
       refine va ?_
       refine qk [4, 5] ?_
       refine x_teh (pc 4 S45 Try.underlying108 inf108 ?_)
       have S46 : St _ _ _ [] := S45.dels [7, 6, 5, 4, 3, 2, 1, 0]; clear S45
       rw [applied_4 hR h13 h17, if_neg (by (try dsimp only); omega)]
       exact ⟨none, 0, rfl, rdo_nil S46⟩
      ·refine vg (yeqlF h43) ?_
       refine vv ypF ?_
       refine vm ?_
       refine vg (ylr 2 S42 Try.underlying108 inf108) ?_
       refine calg en78 (BerthFault_calls R.1.role R.1.ep R.1.fr R.1.tg R.1.rd A30 c31 R.1.evs _ (St.rdo 1 S42 rfl) (by omega)) ?_
       rintro _ w47 ⟨rfl, hb49⟩
       refine ⟨_, rfl, ?_⟩
       have S48 := S42.on hb49; clear hb49 S42
       by_cases h50 : brtFault ⟨R.1.role, R.1.ep, R.1.fr, R.1.tg, R.1.rd, R.1.evs⟩ = 0
       ·refine vg (yneqF h50) ?_
        refine vv ypF ?_
        refine qk [4, 5, 7, 172] ?_
        refine x_tnktsr (vv (ylr 2 S48 Try.underlying108 inf108) ?_)
        refine sa 4 S48 inf108 ?_; intro w51 S52; clear S48
        refine va ?_
        refine qk [4, 5] ?_
        refine x_te (pc 4 S52 Try.underlying108 inf108 ?_)
        have S53 : St _ _ _ [_] := S52.dels [7, 6, 5, 4, 3, 2, 0]; clear S52
        rw [applied_4 hR h13 h17, if_pos (by (try dsimp only); omega)]
        try dsimp only
        exact ⟨A30, c31, rfl, S53⟩
       ·refine vg (yneqT h50) ?_
        refine vv ypF ?_
        refine qk [4, 5, 7, 172] ?_
        refine x_tysr (vv yzB ?_)
        refine sa 4 S48 inf108 ?_; intro w54 S55; clear S48
        refine va ?_
        refine qk [4, 5] ?_
        refine x_teh (pc 4 S55 Try.underlying108 inf108 ?_)
        have S56 : St _ _ _ [] := S55.dels [7, 6, 5, 4, 3, 2, 1, 0]; clear S55
        rw [applied_4 hR h13 h17, if_neg (by (try dsimp only); omega)]
        exact ⟨none, 0, rfl, rdo_nil S56⟩
     ·refine vg (yeqlF h40) ?_
      refine vv ypT ?_
      refine va ?_
      refine qk [2, 4, 5, 7, 9, 10] ?_
      refine x_tr (vv (ylr 0 S39 Try.underlying108 inf108) ?_)
      refine sa 2 S39 inf108 ?_; intro w57 S58; clear S39
      refine qk [2, 4, 5, 7, 9] ?_
      refine x_utssr (vm ?_)
      refine vv (v := .bool true) yno ?_
      refine vm ?_
      iterate 3 refine vs ?_
      refine vv ypT ?_
      refine vm ?_
      iterate 3 refine vs ?_
      refine vv ypT ?_
      refine qk [4, 5, 7, 172] ?_
      refine x_tysr (vv yzB ?_)
      refine sa 4 S58 inf108 ?_; intro w59 S60; clear S58
      refine va ?_
      refine qk [4, 5] ?_
      refine x_teh (pc 4 S60 Try.underlying108 inf108 ?_)
      have S61 : St _ _ _ [] := S60.dels [7, 6, 5, 4, 3, 2, 1, 0]; clear S60
      rw [applied_4 hR h13 h17, if_neg (by (try dsimp only); omega)]
      exact ⟨none, 0, rfl, rdo_nil S61⟩
    ·refine vv (yeqlF h29) ?_
     refine vm ?_
     refine vg (yfa 0 fa51_0) ?_
     refine vg (ylc 3 S27 Try.underlying3) ?_
     refine vg deqlF ?_
     refine vv ypF ?_
     refine vm ?_
     refine vg (yfa 0 fa51_0) ?_
     refine vg (ylc 3 S27 Try.underlying3) ?_
     refine vg deqlT ?_
     refine vv ypF ?_
     refine va ?_
     refine qk [2, 3, 4, 5, 7, 8, 9] ?_
     refine x_tssr (vv (yfa 0 fa51_0) ?_)
     refine vv (ylc 3 S27 Try.underlying3) ?_
     refine qk [2, 3, 4, 5, 7, 8, 9, 43] ?_
     refine x_tbsr (vv deqlF ?_)
     refine va ?_
     refine qk [2, 3, 4, 5, 7, 8, 9, 43, 56] ?_
     refine x_tnsr (vv deqlF ?_)
     refine va ?_
     refine qk [2, 3, 4, 5, 7, 8, 9, 43, 74] ?_
     refine x_tnsr (vv deqlF ?_)
     refine va ?_
     refine qk [2, 3, 4, 5, 7, 8, 9, 43, 92] ?_
     refine x_tnsr (vv deqlT ?_)
     refine va ?_
     refine qk [2, 3, 4, 5, 7, 8, 9, 43, 107] ?_
     refine x_tysr (vv (ylr 4 S27 Try.underlying108 inf108) ?_)
     refine vv (yfa 2 fa51_2) ?_
     refine vv (ylc 3 S27 Try.underlying3) ?_
     refine vv (yfa 3 fa51_3) ?_
     refine vv (ylc 3 S27 Try.underlying3) ?_
     refine cal en89 ((hR ▸ Begun_calls ro ep fr tg rd A c l e pe _ (St.rd 5 S27 rfl) hb)) ?_
     rintro _ w64 ⟨A62, c63, rfl, T66⟩
     refine ⟨_, rfl, ?_⟩
     have S65 := S27.ext T66 rfl; clear T66 S27
     change St _ _ _ [.rdo 6 A62 R.1.evs.length ((R.1.evs).flatMap Ev.cells), _, _, _, _, _, _] at S65
     refine vm ?_
     refine vv yx ?_
     refine vv yx ?_
     refine naB S65 Try.zeroValue108 ?_; intro b67 w68 S69; clear S65
     refine sa 0 S69 inf108 ?_; intro w70 S71; clear S69
     refine va ?_
     refine qk [2, 4, 5, 7, 9, 10, 11] ?_
     refine x_tsr (vm ?_)
     refine vm ?_
     refine vg ym ?_
     by_cases h72 : R.2 = 0
     ·refine vg (yeqlT h72) ?_
      refine vv ypT ?_
      refine va ?_
      refine qk [2, 4, 5, 7, 9, 10] ?_
      refine x_tr (vv (ylr 0 S71 Try.underlying108 inf108) ?_)
      refine sa 2 S71 inf108 ?_; intro w73 S74; clear S71
      refine qk [2, 4, 5, 7, 9] ?_
      refine x_utssr (vm ?_)
      refine vv (v := .bool false) yno ?_
      refine vm ?_
      refine vg (yfa 0 fa108_0) ?_
      refine vg (ylc 6 S74 Try.underlying3) ?_
      by_cases h75 : ro = 2
      ·refine vg (yeqlT h75) ?_
       refine vv ypF ?_
       refine vm ?_
       iterate 3 refine vs ?_
       refine vv ypT ?_
       refine qk [4, 5, 7, 172] ?_
       refine x_tysr (vv yzB ?_)
       refine sa 4 S74 inf108 ?_; intro w76 S77; clear S74
       refine va ?_
       refine qk [4, 5] ?_
       refine x_teh (pc 4 S77 Try.underlying108 inf108 ?_)
       have S78 : St _ _ _ [] := S77.dels [7, 6, 5, 4, 3, 2, 1, 0]; clear S77
       rw [applied_4 hR h13 h17, if_neg (by (try dsimp only); omega)]
       exact ⟨none, 0, rfl, rdo_nil S78⟩
      ·refine vg (yeqlF h75) ?_
       refine vv ypF ?_
       refine vm ?_
       refine vg (ylr 2 S74 Try.underlying108 inf108) ?_
       refine calg en78 (BerthFault_calls R.1.role R.1.ep R.1.fr R.1.tg R.1.rd A62 c63 R.1.evs _ (St.rdo 1 S74 rfl) (by omega)) ?_
       rintro _ w79 ⟨rfl, hb81⟩
       refine ⟨_, rfl, ?_⟩
       have S80 := S74.on hb81; clear hb81 S74
       by_cases h82 : brtFault ⟨R.1.role, R.1.ep, R.1.fr, R.1.tg, R.1.rd, R.1.evs⟩ = 0
       ·refine vg (yneqF h82) ?_
        refine vv ypF ?_
        refine qk [4, 5, 7, 172] ?_
        refine x_tnktsr (vv (ylr 2 S80 Try.underlying108 inf108) ?_)
        refine sa 4 S80 inf108 ?_; intro w83 S84; clear S80
        refine va ?_
        refine qk [4, 5] ?_
        refine x_te (pc 4 S84 Try.underlying108 inf108 ?_)
        have S85 : St _ _ _ [_] := S84.dels [7, 6, 5, 4, 3, 2, 0]; clear S84
        rw [applied_4 hR h13 h17, if_pos (by (try dsimp only); omega)]
        try dsimp only
        exact ⟨A62, c63, rfl, S85⟩
       ·refine vg (yneqT h82) ?_
        refine vv ypF ?_
        refine qk [4, 5, 7, 172] ?_
        refine x_tysr (vv yzB ?_)
        refine sa 4 S80 inf108 ?_; intro w86 S87; clear S80
        refine va ?_
        refine qk [4, 5] ?_
        refine x_teh (pc 4 S87 Try.underlying108 inf108 ?_)
        have S88 : St _ _ _ [] := S87.dels [7, 6, 5, 4, 3, 2, 1, 0]; clear S87
        rw [applied_4 hR h13 h17, if_neg (by (try dsimp only); omega)]
        exact ⟨none, 0, rfl, rdo_nil S88⟩
     ·refine vg (yeqlF h72) ?_
      refine vv ypT ?_
      refine va ?_
      refine qk [2, 4, 5, 7, 9, 10] ?_
      refine x_tr (vv (ylr 0 S71 Try.underlying108 inf108) ?_)
      refine sa 2 S71 inf108 ?_; intro w89 S90; clear S71
      refine qk [2, 4, 5, 7, 9] ?_
      refine x_utssr (vm ?_)
      refine vv (v := .bool true) yno ?_
      refine vm ?_
      iterate 3 refine vs ?_
      refine vv ypT ?_
      refine vm ?_
      iterate 3 refine vs ?_
      refine vv ypT ?_
      refine qk [4, 5, 7, 172] ?_
      refine x_tysr (vv yzB ?_)
      refine sa 4 S90 inf108 ?_; intro w91 S92; clear S90
      refine va ?_
      refine qk [4, 5] ?_
      refine x_teh (pc 4 S92 Try.underlying108 inf108 ?_)
      have S93 : St _ _ _ [] := S92.dels [7, 6, 5, 4, 3, 2, 1, 0]; clear S92
      rw [applied_4 hR h13 h17, if_neg (by (try dsimp only); omega)]
      exact ⟨none, 0, rfl, rdo_nil S93⟩
   ·refine vv (yeqlF h28) ?_
    refine va ?_
    refine qk [2, 3, 4, 5, 7, 8] ?_
    refine x_tsr (vv (yfa 3 fa51_3) ?_)
    refine vv (ylc 3 S27 Try.underlying3) ?_
    by_cases h94 : pe = 0
    ·refine vv (yeqlT h94) ?_
     refine vm ?_
     iterate 3 refine vs ?_
     refine vv ypT ?_
     refine vm ?_
     iterate 3 refine vs ?_
     refine vv ypT ?_
     refine va ?_
     refine qk [2, 3, 4, 5, 7, 8, 9] ?_
     refine x_tssr (vv (yfa 0 fa51_0) ?_)
     refine vv (ylc 3 S27 Try.underlying3) ?_
     refine qk [2, 3, 4, 5, 7, 8, 9, 43] ?_
     refine x_tbsr (vv deqlF ?_)
     refine va ?_
     refine qk [2, 3, 4, 5, 7, 8, 9, 43, 56] ?_
     refine x_tnsr (vv deqlF ?_)
     refine va ?_
     refine qk [2, 3, 4, 5, 7, 8, 9, 43, 74] ?_
     refine x_tnsr (vv deqlF ?_)
     refine va ?_
     refine qk [2, 3, 4, 5, 7, 8, 9, 43, 92] ?_
     refine x_tnsr (vv deqlT ?_)
     refine va ?_
     refine qk [2, 3, 4, 5, 7, 8, 9, 43, 107] ?_
     refine x_tysr (vv (ylr 4 S27 Try.underlying108 inf108) ?_)
     refine vv (yfa 2 fa51_2) ?_
     refine vv (ylc 3 S27 Try.underlying3) ?_
     refine vv (yfa 3 fa51_3) ?_
     refine vv (ylc 3 S27 Try.underlying3) ?_
     refine cal en89 ((hR ▸ Begun_calls ro ep fr tg rd A c l e pe _ (St.rd 5 S27 rfl) hb)) ?_
     rintro _ w97 ⟨A95, c96, rfl, T99⟩
     refine ⟨_, rfl, ?_⟩
     have S98 := S27.ext T99 rfl; clear T99 S27
     change St _ _ _ [.rdo 6 A95 R.1.evs.length ((R.1.evs).flatMap Ev.cells), _, _, _, _, _, _] at S98
     refine vm ?_
     refine vv yx ?_
     refine vv yx ?_
     refine naB S98 Try.zeroValue108 ?_; intro b100 w101 S102; clear S98
     refine sa 0 S102 inf108 ?_; intro w103 S104; clear S102
     refine va ?_
     refine qk [2, 4, 5, 7, 9, 10, 11] ?_
     refine x_tsr (vm ?_)
     refine vm ?_
     refine vg ym ?_
     by_cases h105 : R.2 = 0
     ·refine vg (yeqlT h105) ?_
      refine vv ypT ?_
      refine va ?_
      refine qk [2, 4, 5, 7, 9, 10] ?_
      refine x_tr (vv (ylr 0 S104 Try.underlying108 inf108) ?_)
      refine sa 2 S104 inf108 ?_; intro w106 S107; clear S104
      refine qk [2, 4, 5, 7, 9] ?_
      refine x_utssr (vm ?_)
      refine vv (v := .bool false) yno ?_
      refine vm ?_
      refine vg (yfa 0 fa108_0) ?_
      refine vg (ylc 6 S107 Try.underlying3) ?_
      by_cases h108 : ro = 2
      ·refine vg (yeqlT h108) ?_
       refine vv ypF ?_
       refine vm ?_
       iterate 3 refine vs ?_
       refine vv ypT ?_
       refine qk [4, 5, 7, 172] ?_
       refine x_tysr (vv yzB ?_)
       refine sa 4 S107 inf108 ?_; intro w109 S110; clear S107
       refine va ?_
       refine qk [4, 5] ?_
       refine x_teh (pc 4 S110 Try.underlying108 inf108 ?_)
       have S111 : St _ _ _ [] := S110.dels [7, 6, 5, 4, 3, 2, 1, 0]; clear S110
       rw [applied_4 hR h13 h17, if_neg (by (try dsimp only); omega)]
       exact ⟨none, 0, rfl, rdo_nil S111⟩
      ·refine vg (yeqlF h108) ?_
       refine vv ypF ?_
       refine vm ?_
       refine vg (ylr 2 S107 Try.underlying108 inf108) ?_
       refine calg en78 (BerthFault_calls R.1.role R.1.ep R.1.fr R.1.tg R.1.rd A95 c96 R.1.evs _ (St.rdo 1 S107 rfl) (by omega)) ?_
       rintro _ w112 ⟨rfl, hb114⟩
       refine ⟨_, rfl, ?_⟩
       have S113 := S107.on hb114; clear hb114 S107
       by_cases h115 : brtFault ⟨R.1.role, R.1.ep, R.1.fr, R.1.tg, R.1.rd, R.1.evs⟩ = 0
       ·refine vg (yneqF h115) ?_
        refine vv ypF ?_
        refine qk [4, 5, 7, 172] ?_
        refine x_tnktsr (vv (ylr 2 S113 Try.underlying108 inf108) ?_)
        refine sa 4 S113 inf108 ?_; intro w116 S117; clear S113
        refine va ?_
        refine qk [4, 5] ?_
        refine x_te (pc 4 S117 Try.underlying108 inf108 ?_)
        have S118 : St _ _ _ [_] := S117.dels [7, 6, 5, 4, 3, 2, 0]; clear S117
        rw [applied_4 hR h13 h17, if_pos (by (try dsimp only); omega)]
        try dsimp only
        exact ⟨A95, c96, rfl, S118⟩
       ·refine vg (yneqT h115) ?_
        refine vv ypF ?_
        refine qk [4, 5, 7, 172] ?_
        refine x_tysr (vv yzB ?_)
        refine sa 4 S113 inf108 ?_; intro w119 S120; clear S113
        refine va ?_
        refine qk [4, 5] ?_
        refine x_teh (pc 4 S120 Try.underlying108 inf108 ?_)
        have S121 : St _ _ _ [] := S120.dels [7, 6, 5, 4, 3, 2, 1, 0]; clear S120
        rw [applied_4 hR h13 h17, if_neg (by (try dsimp only); omega)]
        exact ⟨none, 0, rfl, rdo_nil S121⟩
     ·refine vg (yeqlF h105) ?_
      refine vv ypT ?_
      refine va ?_
      refine qk [2, 4, 5, 7, 9, 10] ?_
      refine x_tr (vv (ylr 0 S104 Try.underlying108 inf108) ?_)
      refine sa 2 S104 inf108 ?_; intro w122 S123; clear S104
      refine qk [2, 4, 5, 7, 9] ?_
      refine x_utssr (vm ?_)
      refine vv (v := .bool true) yno ?_
      refine vm ?_
      iterate 3 refine vs ?_
      refine vv ypT ?_
      refine vm ?_
      iterate 3 refine vs ?_
      refine vv ypT ?_
      refine qk [4, 5, 7, 172] ?_
      refine x_tysr (vv yzB ?_)
      refine sa 4 S123 inf108 ?_; intro w124 S125; clear S123
      refine va ?_
      refine qk [4, 5] ?_
      refine x_teh (pc 4 S125 Try.underlying108 inf108 ?_)
      have S126 : St _ _ _ [] := S125.dels [7, 6, 5, 4, 3, 2, 1, 0]; clear S125
      rw [applied_4 hR h13 h17, if_neg (by (try dsimp only); omega)]
      exact ⟨none, 0, rfl, rdo_nil S126⟩
    ·refine vv (yeqlF h94) ?_
     refine vm ?_
     refine vg (yfa 0 fa51_0) ?_
     refine vg (ylc 3 S27 Try.underlying3) ?_
     refine vg deqlF ?_
     refine vv ypF ?_
     refine vm ?_
     refine vg (yfa 0 fa51_0) ?_
     refine vg (ylc 3 S27 Try.underlying3) ?_
     refine vg deqlT ?_
     refine vv ypF ?_
     refine va ?_
     refine qk [2, 3, 4, 5, 7, 8, 9] ?_
     refine x_tssr (vv (yfa 0 fa51_0) ?_)
     refine vv (ylc 3 S27 Try.underlying3) ?_
     refine qk [2, 3, 4, 5, 7, 8, 9, 43] ?_
     refine x_tbsr (vv deqlF ?_)
     refine va ?_
     refine qk [2, 3, 4, 5, 7, 8, 9, 43, 56] ?_
     refine x_tnsr (vv deqlF ?_)
     refine va ?_
     refine qk [2, 3, 4, 5, 7, 8, 9, 43, 74] ?_
     refine x_tnsr (vv deqlF ?_)
     refine va ?_
     refine qk [2, 3, 4, 5, 7, 8, 9, 43, 92] ?_
     refine x_tnsr (vv deqlT ?_)
     refine va ?_
     refine qk [2, 3, 4, 5, 7, 8, 9, 43, 107] ?_
     refine x_tysr (vv (ylr 4 S27 Try.underlying108 inf108) ?_)
     refine vv (yfa 2 fa51_2) ?_
     refine vv (ylc 3 S27 Try.underlying3) ?_
     refine vv (yfa 3 fa51_3) ?_
     refine vv (ylc 3 S27 Try.underlying3) ?_
     refine cal en89 ((hR ▸ Begun_calls ro ep fr tg rd A c l e pe _ (St.rd 5 S27 rfl) hb)) ?_
     rintro _ w129 ⟨A127, c128, rfl, T131⟩
     refine ⟨_, rfl, ?_⟩
     have S130 := S27.ext T131 rfl; clear T131 S27
     change St _ _ _ [.rdo 6 A127 R.1.evs.length ((R.1.evs).flatMap Ev.cells), _, _, _, _, _, _] at S130
     refine vm ?_
     refine vv yx ?_
     refine vv yx ?_
     refine naB S130 Try.zeroValue108 ?_; intro b132 w133 S134; clear S130
     refine sa 0 S134 inf108 ?_; intro w135 S136; clear S134
     refine va ?_
     refine qk [2, 4, 5, 7, 9, 10, 11] ?_
     refine x_tsr (vm ?_)
     refine vm ?_
     refine vg ym ?_
     by_cases h137 : R.2 = 0
     ·refine vg (yeqlT h137) ?_
      refine vv ypT ?_
      refine va ?_
      refine qk [2, 4, 5, 7, 9, 10] ?_
      refine x_tr (vv (ylr 0 S136 Try.underlying108 inf108) ?_)
      refine sa 2 S136 inf108 ?_; intro w138 S139; clear S136
      refine qk [2, 4, 5, 7, 9] ?_
      refine x_utssr (vm ?_)
      refine vv (v := .bool false) yno ?_
      refine vm ?_
      refine vg (yfa 0 fa108_0) ?_
      refine vg (ylc 6 S139 Try.underlying3) ?_
      by_cases h140 : ro = 2
      ·refine vg (yeqlT h140) ?_
       refine vv ypF ?_
       refine vm ?_
       iterate 3 refine vs ?_
       refine vv ypT ?_
       refine qk [4, 5, 7, 172] ?_
       refine x_tysr (vv yzB ?_)
       refine sa 4 S139 inf108 ?_; intro w141 S142; clear S139
       refine va ?_
       refine qk [4, 5] ?_
       refine x_teh (pc 4 S142 Try.underlying108 inf108 ?_)
       have S143 : St _ _ _ [] := S142.dels [7, 6, 5, 4, 3, 2, 1, 0]; clear S142
       rw [applied_4 hR h13 h17, if_neg (by (try dsimp only); omega)]
       exact ⟨none, 0, rfl, rdo_nil S143⟩
      ·refine vg (yeqlF h140) ?_
       refine vv ypF ?_
       refine vm ?_
       refine vg (ylr 2 S139 Try.underlying108 inf108) ?_
       refine calg en78 (BerthFault_calls R.1.role R.1.ep R.1.fr R.1.tg R.1.rd A127 c128 R.1.evs _ (St.rdo 1 S139 rfl) (by omega)) ?_
       rintro _ w144 ⟨rfl, hb146⟩
       refine ⟨_, rfl, ?_⟩
       have S145 := S139.on hb146; clear hb146 S139
       by_cases h147 : brtFault ⟨R.1.role, R.1.ep, R.1.fr, R.1.tg, R.1.rd, R.1.evs⟩ = 0
       ·refine vg (yneqF h147) ?_
        refine vv ypF ?_
        refine qk [4, 5, 7, 172] ?_
        refine x_tnktsr (vv (ylr 2 S145 Try.underlying108 inf108) ?_)
        refine sa 4 S145 inf108 ?_; intro w148 S149; clear S145
        refine va ?_
        refine qk [4, 5] ?_
        refine x_te (pc 4 S149 Try.underlying108 inf108 ?_)
        have S150 : St _ _ _ [_] := S149.dels [7, 6, 5, 4, 3, 2, 0]; clear S149
        rw [applied_4 hR h13 h17, if_pos (by (try dsimp only); omega)]
        try dsimp only
        exact ⟨A127, c128, rfl, S150⟩
       ·refine vg (yneqT h147) ?_
        refine vv ypF ?_
        refine qk [4, 5, 7, 172] ?_
        refine x_tysr (vv yzB ?_)
        refine sa 4 S145 inf108 ?_; intro w151 S152; clear S145
        refine va ?_
        refine qk [4, 5] ?_
        refine x_teh (pc 4 S152 Try.underlying108 inf108 ?_)
        have S153 : St _ _ _ [] := S152.dels [7, 6, 5, 4, 3, 2, 1, 0]; clear S152
        rw [applied_4 hR h13 h17, if_neg (by (try dsimp only); omega)]
        exact ⟨none, 0, rfl, rdo_nil S153⟩
     ·refine vg (yeqlF h137) ?_
      refine vv ypT ?_
      refine va ?_
      refine qk [2, 4, 5, 7, 9, 10] ?_
      refine x_tr (vv (ylr 0 S136 Try.underlying108 inf108) ?_)
      refine sa 2 S136 inf108 ?_; intro w154 S155; clear S136
      refine qk [2, 4, 5, 7, 9] ?_
      refine x_utssr (vm ?_)
      refine vv (v := .bool true) yno ?_
      refine vm ?_
      iterate 3 refine vs ?_
      refine vv ypT ?_
      refine vm ?_
      iterate 3 refine vs ?_
      refine vv ypT ?_
      refine qk [4, 5, 7, 172] ?_
      refine x_tysr (vv yzB ?_)
      refine sa 4 S155 inf108 ?_; intro w156 S157; clear S155
      refine va ?_
      refine qk [4, 5] ?_
      refine x_teh (pc 4 S157 Try.underlying108 inf108 ?_)
      have S158 : St _ _ _ [] := S157.dels [7, 6, 5, 4, 3, 2, 1, 0]; clear S157
      rw [applied_4 hR h13 h17, if_neg (by (try dsimp only); omega)]
      exact ⟨none, 0, rfl, rdo_nil S158⟩
  ·refine vv (yneqT h17) ?_
   refine qk [2, 3, 4, 5, 6, 19] ?_
   refine x_tysr (vv yzB ?_)
   refine vm ?_
   refine sa 0 S15 inf108 ?_; intro w159 S160; clear S15
   refine va ?_
   refine qk [4, 5] ?_
   refine x_teh (pc 0 S160 Try.underlying108 inf108 ?_)
   have S161 : St _ _ _ [] := S160.dels [3, 2, 1, 0]; clear S160
   rw [apply_rf h13 h17]
   exact ⟨none, 0, rfl, rdo_nil S161⟩
 ·refine vv (yeqlF h13) ?_
  refine qk [2, 3, 4, 5, 6, 15] ?_
  refine x_tnktssr (vm ?_)
  refine vv (yneqT h13) ?_
  refine qk [2, 3, 4, 5, 6, 19] ?_
  refine x_tysr (vv yzB ?_)
  refine vm ?_
  refine sa 0 S11 inf108 ?_; intro w162 S163; clear S11
  refine va ?_
  refine qk [4, 5] ?_
  refine x_teh (pc 0 S163 Try.underlying108 inf108 ?_)
  have S164 : St _ _ _ [] := S163.dels [3, 2, 1, 0]; clear S163
  rw [apply_bf h13]
  exact ⟨none, 0, rfl, rdo_nil S164⟩
end Go.Proofs.Ytkjlafpafmihaaa

namespace Go.Proofs.Ytkjlafpafmihaaa
open Go.ChangeShapes Go.WideShapes Go.RowKit

set_option maxRecDepth 100000 in
set_option maxHeartbeats 8000000 in
theorem Applied_k5 (ro ep fr tg rd : Int) (A : Option Addr) (c : Nat) (l : List Ev) (qu e pe : Int) (x : Ev) (w : World) (h : Rd w w.heap.size 6 A l.length (evCells l)) (hb : l.length * 48 ≤ reachBytes) :
    Calls Try.prog 99 #[.agg #[.int .i64 ro, .int .i64 ep, .int .i64 fr, .int .i64 tg, .int .i64 rd, .slice A l.length c], .agg #[.int .i64 5, .int .i64 qu, .int .i64 e, .int .i64 pe, .int .i64 x.kind, .int .i64 x.producer, .int .i64 x.id, .int .i64 x.body, .int .i64 x.hepoch, .int .i64 x.hno]] w (BrtPost w (applyM ⟨ro, ep, fr, tg, rd, l⟩ ⟨5, qu, e, pe, x⟩)) := by
 have S := (St.start w).addRd h; clear h
 have hb2 := hb
 unfold reachBytes at hb2
 refine fnw 175 Try.func99 ?_
 refine cw [0, 1] ?_
 refine x_sr (nb (row := #[.int .i64 ro, .int .i64 ep, .int .i64 fr, .int .i64 tg, .int .i64 rd, .slice A l.length c]) S ?_); intro b1 w2 S3; clear S
 refine nb (row := #[.int .i64 5, .int .i64 qu, .int .i64 e, .int .i64 pe, .int .i64 x.kind, .int .i64 x.producer, .int .i64 x.id, .int .i64 x.body, .int .i64 x.hepoch, .int .i64 x.hno]) S3 ?_; intro b4 w5 S6; clear S3
 refine naB S6 Try.zeroValue108 ?_; intro b7 w8 S9; clear S6
 refine va ?_
 refine qk [2, 3, 4, 5] ?_
 refine x_tsr (vv (ylr 2 S9 Try.underlying108 inf108) ?_)
 refine cab en78 S9 (BerthFault_calls ro ep fr tg rd A c l _ (St.rd 3 S9 rfl) (by omega)) ?_; intro w10 S11; clear S9
 refine va ?_
 refine qk [2, 3, 4, 5, 6] ?_
 refine x_tssr (vm ?_)
 by_cases h13 : brtFault ⟨ro, ep, fr, tg, rd, l⟩ = 0
 ·have hln := tellM_len (bf_zero h13).2
  dsimp only at hln
  refine vv (yeqlT h13) ?_
  refine qk [2, 3, 4, 5, 6, 15] ?_
  refine wQ_then (wC_cond_t rfl (wC_region (vv (ylr 1 S11 Try.underlying51 inf51) ?_)))
  refine cab en122 S11 (RecordFault_calls ⟨5, qu, e, pe, x⟩ _) ?_; intro w14 S15; clear S11
  refine va ?_
  refine qk [2, 3, 4, 5, 6] ?_
  refine x_tssr (vm ?_)
  by_cases h17 : recFault ⟨5, qu, e, pe, x⟩ = 0
  ·have hrz := rec_zero h17
   dsimp only at hrz
   refine vv (yneqF h17) ?_
   refine qk [2, 3, 4, 5, 6, 19] ?_
   refine x_tnktsr (vv (ylr 2 S15 Try.underlying108 inf108) ?_)
   refine cal en156 (BerthCopy_calls ro ep fr tg rd A c l _ (St.rd 3 S15 rfl) hb) ?_
   rintro _ w20 ⟨A18, c19, rfl, T22⟩
   refine ⟨_, rfl, ?_⟩
   have S21 := S15.ext T22 rfl; clear T22 S15
   change St _ _ _ [.own 37 6 (.slice A18 l.length c19) l.length ((l).flatMap Ev.cells), _, _, _, _] at S21
   refine naB S21 Try.zeroValue108 ?_; intro b23 w24 S25; clear S21
   refine sa 0 S25 inf108 ?_; intro w26 S27; clear S25
   refine qk [2, 3, 4, 5, 7] ?_
   refine x_tsr (vv (yfa 1 fa108_1) ?_)
   refine vv (ylc 4 S27 Try.underlying3) ?_
   refine vv (yfa 2 fa51_2) ?_
   refine vv (ylc 3 S27 Try.underlying3) ?_
   by_cases h28 : ep = e
   ·refine vv (yeqlT h28) ?_
    refine va ?_
    refine qk [2, 3, 4, 5, 7, 8] ?_
    refine x_tsr (vv (yfa 3 fa51_3) ?_)
    refine vv (ylc 3 S27 Try.underlying3) ?_
    by_cases h29 : pe = 0
    ·refine vv (yeqlT h29) ?_
     refine vm ?_
     iterate 3 refine vs ?_
     refine vv ypT ?_
     refine vm ?_
     iterate 3 refine vs ?_
     refine vv ypT ?_
     refine va ?_
     refine qk [2, 3, 4, 5, 7, 8, 9] ?_
     refine x_tssr (vv (yfa 0 fa51_0) ?_)
     refine vv (ylc 3 S27 Try.underlying3) ?_
     refine qk [2, 3, 4, 5, 7, 8, 9, 43] ?_
     refine x_tbsr (vv deqlF ?_)
     refine va ?_
     refine qk [2, 3, 4, 5, 7, 8, 9, 43, 56] ?_
     refine x_tnsr (vv deqlF ?_)
     refine va ?_
     refine qk [2, 3, 4, 5, 7, 8, 9, 43, 74] ?_
     refine x_tnsr (vv deqlF ?_)
     refine va ?_
     refine qk [2, 3, 4, 5, 7, 8, 9, 43, 92] ?_
     refine x_tnsr (vv deqlF ?_)
     refine va ?_
     refine qk [2, 3, 4, 5, 7, 8, 9, 43, 107] ?_
     refine x_tnsr (vv deqlT ?_)
     refine va ?_
     refine qk [2, 3, 4, 5, 7, 8, 9, 43, 124] ?_
     refine x_tysr (vm ?_)
     refine vm ?_
     refine vg ym ?_
     refine vv ypT ?_
     refine vm ?_
     refine vg (yfa 0 fa108_0) ?_
     refine vg (ylc 4 S27 Try.underlying3) ?_
     by_cases h30 : ro = 4
     ·refine vg (yeqlT h30) ?_
      refine vv ypT ?_
      refine va ?_
      refine qk [2, 3, 4, 5, 7, 9] ?_
      refine x_tr (vv (yfa 5 fa108_5) ?_)
      refine vv (ylc 0 S27 Try.underlying57) ?_
      refine vv (yfa 4 fa51_4) ?_
      refine vv (y_load rfl rfl (r_load_agg (cs := [.int .i64 x.kind, .int .i64 x.producer, .int .i64 x.id, .int .i64 x.body, .int .i64 x.hepoch, .int .i64 x.hno]) Try.underlying37 rfl inf37 rfl (St.rg 3 S27 rfl (sub_row (x := 4) (m := 6) rfl)))) ?_
      refine wL_new (V := fun b => .slice (some ⟨b, 0, none⟩) 1 1) (row := #[.int .i64 x.kind, .int .i64 x.producer, .int .i64 x.id, .int .i64 x.body, .int .i64 x.hepoch, .int .i64 x.hno]) (t := 37) S27 (wn rfl) rfl rfl (d_buildSlice (vs := [(0, .agg #[.int .i64 x.kind, .int .i64 x.producer, .int .i64 x.id, .int .i64 x.body, .int .i64 x.hepoch, .int .i64 x.hno])]) rfl ⟨rfl, rfl, trivial⟩ (by kernel_rfl)) ?_; intro b31 w32 S33; clear S27
      refine wL_append (news := [.int .i64 x.kind, .int .i64 x.producer, .int .i64 x.id, .int .i64 x.body, .int .i64 x.hepoch, .int .i64 x.hno]) (xs' := (l ++ [x]).flatMap Ev.cells) 2 S33 (wn rfl) rfl rfl rfl rfl rfl rfl (St.bld (xs := [.int .i64 x.kind, .int .i64 x.producer, .int .i64 x.id, .int .i64 x.body, .int .i64 x.hepoch, .int .i64 x.hno]) 0 S33 rfl rfl rfl) Try.underlying57 infz37 rfl (by decide) (oneAll rfl) (by simp only [maxLen]; omega) (by omega) (fm_snoc (enc := Ev.cells) rfl rfl) ?_; intro A34 c35 w36 hc38 hm39 S37; clear S33
      change St _ _ _ [_, _, .own 37 6 (.slice A34 (l.length + 1) c35) (l.length + 1) ((l ++ [x]).flatMap Ev.cells), _, _, _, _] at S37
      refine vv (yfa 5 fa108_5) ?_
      refine sr (row' := #[.int .i64 ro, .int .i64 ep, .int .i64 fr, .int .i64 tg, .int .i64 rd, .slice A34 (l.length + 1) c35]) 1 S37 inf57 ?_; intro w40 S41; clear S37
      refine qk [2, 4, 5, 7, 9] ?_
      refine x_utssr (vm ?_)
      refine vv (v := .bool false) yno ?_
      refine vm ?_
      refine vg (yfa 0 fa108_0) ?_
      refine vg (ylc 5 S41 Try.underlying3) ?_
      refine vg (deqlF (h := by omega)) ?_
      refine vv ypF ?_
      refine vm ?_
      refine vg (ylr 1 S41 Try.underlying108 inf108) ?_
      have hal : (l ++ [x]).length = l.length + 1 := by simp only [List.length_append, List.length_cons, List.length_nil, List.length_drop]
      have HC42 := fun (w : World) (h : Rd w w.heap.size 6 A34 ((l ++ [x]).length) (evCells (l ++ [x]))) => BerthFault_calls ro ep fr tg rd A34 c35 (l ++ [x]) w h (by omega)
      rw [hal] at HC42
      refine calg en78 (HC42 _ (St.ord 2 S41 rfl)) ?_
      rintro _ w43 ⟨rfl, hb45⟩
      refine ⟨_, rfl, ?_⟩
      have S44 := S41.on hb45; clear hb45 S41; clear HC42
      by_cases h46 : brtFault ⟨ro, ep, fr, tg, rd, l ++ [x]⟩ = 0
      ·refine vg (yneqF h46) ?_
       refine vv ypF ?_
       refine qk [4, 5, 7, 172] ?_
       refine x_tnktsr (vv (ylr 1 S44 Try.underlying108 inf108) ?_)
       refine sa 3 S44 inf108 ?_; intro w47 S48; clear S44
       refine va ?_
       refine qk [4, 5] ?_
       refine x_te (pc 3 S48 Try.underlying108 inf108 ?_)
       have S49 : St _ _ _ [_] := S48.dels [6, 5, 4, 3, 1, 0]; clear S48
       have S50 := S49.sealAll 0 rfl; clear S49
       change St _ _ _ [.rdo 6 A34 (l.length + 1) ((l ++ [x]).flatMap Ev.cells)] at S50
       rw [applied_add (.inr ⟨rfl, rfl⟩) h13 h17, if_pos (by (try dsimp only); omega)]
       try dsimp only
       refine ⟨A34, c35, ?_, ?_⟩
       · dsimp only; rw [hal]; rfl
       · dsimp only; rw [hal]; exact S50
      ·refine vg (yneqT h46) ?_
       refine vv ypF ?_
       refine qk [4, 5, 7, 172] ?_
       refine x_tysr (vv yzB ?_)
       refine sa 3 S44 inf108 ?_; intro w51 S52; clear S44
       refine va ?_
       refine qk [4, 5] ?_
       refine x_teh (pc 3 S52 Try.underlying108 inf108 ?_)
       have S53 : St _ _ _ [] := S52.dels [6, 5, 4, 3, 2, 1, 0]; clear S52
       rw [applied_add (.inr ⟨rfl, rfl⟩) h13 h17, if_neg (by (try dsimp only); omega)]
       exact ⟨none, 0, rfl, rdo_nil S53⟩
     ·refine vg (yeqlF h30) ?_
      refine vv ypT ?_
      refine va ?_
      refine qk [2, 3, 4, 5, 7, 9] ?_
      refine x_tr (vv (yfa 5 fa108_5) ?_)
      refine vv (ylc 0 S27 Try.underlying57) ?_
      refine vv (yfa 4 fa51_4) ?_
      refine vv (y_load rfl rfl (r_load_agg (cs := [.int .i64 x.kind, .int .i64 x.producer, .int .i64 x.id, .int .i64 x.body, .int .i64 x.hepoch, .int .i64 x.hno]) Try.underlying37 rfl inf37 rfl (St.rg 3 S27 rfl (sub_row (x := 4) (m := 6) rfl)))) ?_
      refine wL_new (V := fun b => .slice (some ⟨b, 0, none⟩) 1 1) (row := #[.int .i64 x.kind, .int .i64 x.producer, .int .i64 x.id, .int .i64 x.body, .int .i64 x.hepoch, .int .i64 x.hno]) (t := 37) S27 (wn rfl) rfl rfl (d_buildSlice (vs := [(0, .agg #[.int .i64 x.kind, .int .i64 x.producer, .int .i64 x.id, .int .i64 x.body, .int .i64 x.hepoch, .int .i64 x.hno])]) rfl ⟨rfl, rfl, trivial⟩ (by kernel_rfl)) ?_; intro b54 w55 S56; clear S27
      refine wL_append (news := [.int .i64 x.kind, .int .i64 x.producer, .int .i64 x.id, .int .i64 x.body, .int .i64 x.hepoch, .int .i64 x.hno]) (xs' := (l ++ [x]).flatMap Ev.cells) 2 S56 (wn rfl) rfl rfl rfl rfl rfl rfl (St.bld (xs := [.int .i64 x.kind, .int .i64 x.producer, .int .i64 x.id, .int .i64 x.body, .int .i64 x.hepoch, .int .i64 x.hno]) 0 S56 rfl rfl rfl) Try.underlying57 infz37 rfl (by decide) (oneAll rfl) (by simp only [maxLen]; omega) (by omega) (fm_snoc (enc := Ev.cells) rfl rfl) ?_; intro A57 c58 w59 hc61 hm62 S60; clear S56
      change St _ _ _ [_, _, .own 37 6 (.slice A57 (l.length + 1) c58) (l.length + 1) ((l ++ [x]).flatMap Ev.cells), _, _, _, _] at S60
      refine vv (yfa 5 fa108_5) ?_
      refine sr (row' := #[.int .i64 ro, .int .i64 ep, .int .i64 fr, .int .i64 tg, .int .i64 rd, .slice A57 (l.length + 1) c58]) 1 S60 inf57 ?_; intro w63 S64; clear S60
      refine qk [2, 4, 5, 7, 9] ?_
      refine x_utssr (vm ?_)
      refine vv (v := .bool true) yno ?_
      refine vm ?_
      iterate 3 refine vs ?_
      refine vv ypT ?_
      refine vm ?_
      iterate 3 refine vs ?_
      refine vv ypT ?_
      refine qk [4, 5, 7, 172] ?_
      refine x_tysr (vv yzB ?_)
      refine sa 3 S64 inf108 ?_; intro w65 S66; clear S64
      refine va ?_
      refine qk [4, 5] ?_
      refine x_teh (pc 3 S66 Try.underlying108 inf108 ?_)
      have S67 : St _ _ _ [] := S66.dels [6, 5, 4, 3, 2, 1, 0]; clear S66
      rw [applied_add (.inr ⟨rfl, rfl⟩) h13 h17, if_neg (by (try dsimp only); omega)]
      exact ⟨none, 0, rfl, rdo_nil S67⟩
    ·refine vv (yeqlF h29) ?_
     refine vm ?_
     refine vg (yfa 0 fa51_0) ?_
     refine vg (ylc 3 S27 Try.underlying3) ?_
     refine vg deqlF ?_
     refine vv ypF ?_
     refine vm ?_
     refine vg (yfa 0 fa51_0) ?_
     refine vg (ylc 3 S27 Try.underlying3) ?_
     refine vg deqlF ?_
     refine vv ypF ?_
     refine va ?_
     refine qk [2, 3, 4, 5, 7, 8, 9] ?_
     refine x_tssr (vv (yfa 0 fa51_0) ?_)
     refine vv (ylc 3 S27 Try.underlying3) ?_
     refine qk [2, 3, 4, 5, 7, 8, 9, 43] ?_
     refine x_tbsr (vv deqlF ?_)
     refine va ?_
     refine qk [2, 3, 4, 5, 7, 8, 9, 43, 56] ?_
     refine x_tnsr (vv deqlF ?_)
     refine va ?_
     refine qk [2, 3, 4, 5, 7, 8, 9, 43, 74] ?_
     refine x_tnsr (vv deqlF ?_)
     refine va ?_
     refine qk [2, 3, 4, 5, 7, 8, 9, 43, 92] ?_
     refine x_tnsr (vv deqlF ?_)
     refine va ?_
     refine qk [2, 3, 4, 5, 7, 8, 9, 43, 107] ?_
     refine x_tnsr (vv deqlT ?_)
     refine va ?_
     refine qk [2, 3, 4, 5, 7, 8, 9, 43, 124] ?_
     refine x_tysr (vm ?_)
     refine vm ?_
     refine vs ?_
     refine vv ypF ?_
     refine vm ?_
     iterate 3 refine vs ?_
     refine vv ypF ?_
     refine va ?_
     refine qk [2, 3, 4, 5, 7, 9] ?_
     refine x_tr (vv (yfa 5 fa108_5) ?_)
     refine vv (ylc 0 S27 Try.underlying57) ?_
     refine vv (yfa 4 fa51_4) ?_
     refine vv (y_load rfl rfl (r_load_agg (cs := [.int .i64 x.kind, .int .i64 x.producer, .int .i64 x.id, .int .i64 x.body, .int .i64 x.hepoch, .int .i64 x.hno]) Try.underlying37 rfl inf37 rfl (St.rg 3 S27 rfl (sub_row (x := 4) (m := 6) rfl)))) ?_
     refine wL_new (V := fun b => .slice (some ⟨b, 0, none⟩) 1 1) (row := #[.int .i64 x.kind, .int .i64 x.producer, .int .i64 x.id, .int .i64 x.body, .int .i64 x.hepoch, .int .i64 x.hno]) (t := 37) S27 (wn rfl) rfl rfl (d_buildSlice (vs := [(0, .agg #[.int .i64 x.kind, .int .i64 x.producer, .int .i64 x.id, .int .i64 x.body, .int .i64 x.hepoch, .int .i64 x.hno])]) rfl ⟨rfl, rfl, trivial⟩ (by kernel_rfl)) ?_; intro b68 w69 S70; clear S27
     refine wL_append (news := [.int .i64 x.kind, .int .i64 x.producer, .int .i64 x.id, .int .i64 x.body, .int .i64 x.hepoch, .int .i64 x.hno]) (xs' := (l ++ [x]).flatMap Ev.cells) 2 S70 (wn rfl) rfl rfl rfl rfl rfl rfl (St.bld (xs := [.int .i64 x.kind, .int .i64 x.producer, .int .i64 x.id, .int .i64 x.body, .int .i64 x.hepoch, .int .i64 x.hno]) 0 S70 rfl rfl rfl) Try.underlying57 infz37 rfl (by decide) (oneAll rfl) (by simp only [maxLen]; omega) (by omega) (fm_snoc (enc := Ev.cells) rfl rfl) ?_; intro A71 c72 w73 hc75 hm76 S74; clear S70
     change St _ _ _ [_, _, .own 37 6 (.slice A71 (l.length + 1) c72) (l.length + 1) ((l ++ [x]).flatMap Ev.cells), _, _, _, _] at S74
     refine vv (yfa 5 fa108_5) ?_
     refine sr (row' := #[.int .i64 ro, .int .i64 ep, .int .i64 fr, .int .i64 tg, .int .i64 rd, .slice A71 (l.length + 1) c72]) 1 S74 inf57 ?_; intro w77 S78; clear S74
     refine qk [2, 4, 5, 7, 9] ?_
     refine x_utssr (vm ?_)
     refine vv (v := .bool true) yno ?_
     refine vm ?_
     iterate 3 refine vs ?_
     refine vv ypT ?_
     refine vm ?_
     iterate 3 refine vs ?_
     refine vv ypT ?_
     refine qk [4, 5, 7, 172] ?_
     refine x_tysr (vv yzB ?_)
     refine sa 3 S78 inf108 ?_; intro w79 S80; clear S78
     refine va ?_
     refine qk [4, 5] ?_
     refine x_teh (pc 3 S80 Try.underlying108 inf108 ?_)
     have S81 : St _ _ _ [] := S80.dels [6, 5, 4, 3, 2, 1, 0]; clear S80
     rw [applied_add (.inr ⟨rfl, rfl⟩) h13 h17, if_neg (by (try dsimp only); omega)]
     exact ⟨none, 0, rfl, rdo_nil S81⟩
   ·refine vv (yeqlF h28) ?_
    refine va ?_
    refine qk [2, 3, 4, 5, 7, 8] ?_
    refine x_tsr (vv (yfa 3 fa51_3) ?_)
    refine vv (ylc 3 S27 Try.underlying3) ?_
    by_cases h82 : pe = 0
    ·refine vv (yeqlT h82) ?_
     refine vm ?_
     iterate 3 refine vs ?_
     refine vv ypT ?_
     refine vm ?_
     iterate 3 refine vs ?_
     refine vv ypT ?_
     refine va ?_
     refine qk [2, 3, 4, 5, 7, 8, 9] ?_
     refine x_tssr (vv (yfa 0 fa51_0) ?_)
     refine vv (ylc 3 S27 Try.underlying3) ?_
     refine qk [2, 3, 4, 5, 7, 8, 9, 43] ?_
     refine x_tbsr (vv deqlF ?_)
     refine va ?_
     refine qk [2, 3, 4, 5, 7, 8, 9, 43, 56] ?_
     refine x_tnsr (vv deqlF ?_)
     refine va ?_
     refine qk [2, 3, 4, 5, 7, 8, 9, 43, 74] ?_
     refine x_tnsr (vv deqlF ?_)
     refine va ?_
     refine qk [2, 3, 4, 5, 7, 8, 9, 43, 92] ?_
     refine x_tnsr (vv deqlF ?_)
     refine va ?_
     refine qk [2, 3, 4, 5, 7, 8, 9, 43, 107] ?_
     refine x_tnsr (vv deqlT ?_)
     refine va ?_
     refine qk [2, 3, 4, 5, 7, 8, 9, 43, 124] ?_
     refine x_tysr (vm ?_)
     refine vm ?_
     refine vg ym ?_
     refine vv ypT ?_
     refine vm ?_
     iterate 3 refine vs ?_
     refine vv ypF ?_
     refine va ?_
     refine qk [2, 3, 4, 5, 7, 9] ?_
     refine x_tr (vv (yfa 5 fa108_5) ?_)
     refine vv (ylc 0 S27 Try.underlying57) ?_
     refine vv (yfa 4 fa51_4) ?_
     refine vv (y_load rfl rfl (r_load_agg (cs := [.int .i64 x.kind, .int .i64 x.producer, .int .i64 x.id, .int .i64 x.body, .int .i64 x.hepoch, .int .i64 x.hno]) Try.underlying37 rfl inf37 rfl (St.rg 3 S27 rfl (sub_row (x := 4) (m := 6) rfl)))) ?_
     refine wL_new (V := fun b => .slice (some ⟨b, 0, none⟩) 1 1) (row := #[.int .i64 x.kind, .int .i64 x.producer, .int .i64 x.id, .int .i64 x.body, .int .i64 x.hepoch, .int .i64 x.hno]) (t := 37) S27 (wn rfl) rfl rfl (d_buildSlice (vs := [(0, .agg #[.int .i64 x.kind, .int .i64 x.producer, .int .i64 x.id, .int .i64 x.body, .int .i64 x.hepoch, .int .i64 x.hno])]) rfl ⟨rfl, rfl, trivial⟩ (by kernel_rfl)) ?_; intro b83 w84 S85; clear S27
     refine wL_append (news := [.int .i64 x.kind, .int .i64 x.producer, .int .i64 x.id, .int .i64 x.body, .int .i64 x.hepoch, .int .i64 x.hno]) (xs' := (l ++ [x]).flatMap Ev.cells) 2 S85 (wn rfl) rfl rfl rfl rfl rfl rfl (St.bld (xs := [.int .i64 x.kind, .int .i64 x.producer, .int .i64 x.id, .int .i64 x.body, .int .i64 x.hepoch, .int .i64 x.hno]) 0 S85 rfl rfl rfl) Try.underlying57 infz37 rfl (by decide) (oneAll rfl) (by simp only [maxLen]; omega) (by omega) (fm_snoc (enc := Ev.cells) rfl rfl) ?_; intro A86 c87 w88 hc90 hm91 S89; clear S85
     change St _ _ _ [_, _, .own 37 6 (.slice A86 (l.length + 1) c87) (l.length + 1) ((l ++ [x]).flatMap Ev.cells), _, _, _, _] at S89
     refine vv (yfa 5 fa108_5) ?_
     refine sr (row' := #[.int .i64 ro, .int .i64 ep, .int .i64 fr, .int .i64 tg, .int .i64 rd, .slice A86 (l.length + 1) c87]) 1 S89 inf57 ?_; intro w92 S93; clear S89
     refine qk [2, 4, 5, 7, 9] ?_
     refine x_utssr (vm ?_)
     refine vv (v := .bool true) yno ?_
     refine vm ?_
     iterate 3 refine vs ?_
     refine vv ypT ?_
     refine vm ?_
     iterate 3 refine vs ?_
     refine vv ypT ?_
     refine qk [4, 5, 7, 172] ?_
     refine x_tysr (vv yzB ?_)
     refine sa 3 S93 inf108 ?_; intro w94 S95; clear S93
     refine va ?_
     refine qk [4, 5] ?_
     refine x_teh (pc 3 S95 Try.underlying108 inf108 ?_)
     have S96 : St _ _ _ [] := S95.dels [6, 5, 4, 3, 2, 1, 0]; clear S95
     rw [applied_add (.inr ⟨rfl, rfl⟩) h13 h17, if_neg (by (try dsimp only); omega)]
     exact ⟨none, 0, rfl, rdo_nil S96⟩
    ·refine vv (yeqlF h82) ?_
     refine vm ?_
     refine vg (yfa 0 fa51_0) ?_
     refine vg (ylc 3 S27 Try.underlying3) ?_
     refine vg deqlF ?_
     refine vv ypF ?_
     refine vm ?_
     refine vg (yfa 0 fa51_0) ?_
     refine vg (ylc 3 S27 Try.underlying3) ?_
     refine vg deqlF ?_
     refine vv ypF ?_
     refine va ?_
     refine qk [2, 3, 4, 5, 7, 8, 9] ?_
     refine x_tssr (vv (yfa 0 fa51_0) ?_)
     refine vv (ylc 3 S27 Try.underlying3) ?_
     refine qk [2, 3, 4, 5, 7, 8, 9, 43] ?_
     refine x_tbsr (vv deqlF ?_)
     refine va ?_
     refine qk [2, 3, 4, 5, 7, 8, 9, 43, 56] ?_
     refine x_tnsr (vv deqlF ?_)
     refine va ?_
     refine qk [2, 3, 4, 5, 7, 8, 9, 43, 74] ?_
     refine x_tnsr (vv deqlF ?_)
     refine va ?_
     refine qk [2, 3, 4, 5, 7, 8, 9, 43, 92] ?_
     refine x_tnsr (vv deqlF ?_)
     refine va ?_
     refine qk [2, 3, 4, 5, 7, 8, 9, 43, 107] ?_
     refine x_tnsr (vv deqlT ?_)
     refine va ?_
     refine qk [2, 3, 4, 5, 7, 8, 9, 43, 124] ?_
     refine x_tysr (vm ?_)
     refine vm ?_
     refine vs ?_
     refine vv ypF ?_
     refine vm ?_
     iterate 3 refine vs ?_
     refine vv ypF ?_
     refine va ?_
     refine qk [2, 3, 4, 5, 7, 9] ?_
     refine x_tr (vv (yfa 5 fa108_5) ?_)
     refine vv (ylc 0 S27 Try.underlying57) ?_
     refine vv (yfa 4 fa51_4) ?_
     refine vv (y_load rfl rfl (r_load_agg (cs := [.int .i64 x.kind, .int .i64 x.producer, .int .i64 x.id, .int .i64 x.body, .int .i64 x.hepoch, .int .i64 x.hno]) Try.underlying37 rfl inf37 rfl (St.rg 3 S27 rfl (sub_row (x := 4) (m := 6) rfl)))) ?_
     refine wL_new (V := fun b => .slice (some ⟨b, 0, none⟩) 1 1) (row := #[.int .i64 x.kind, .int .i64 x.producer, .int .i64 x.id, .int .i64 x.body, .int .i64 x.hepoch, .int .i64 x.hno]) (t := 37) S27 (wn rfl) rfl rfl (d_buildSlice (vs := [(0, .agg #[.int .i64 x.kind, .int .i64 x.producer, .int .i64 x.id, .int .i64 x.body, .int .i64 x.hepoch, .int .i64 x.hno])]) rfl ⟨rfl, rfl, trivial⟩ (by kernel_rfl)) ?_; intro b97 w98 S99; clear S27
     refine wL_append (news := [.int .i64 x.kind, .int .i64 x.producer, .int .i64 x.id, .int .i64 x.body, .int .i64 x.hepoch, .int .i64 x.hno]) (xs' := (l ++ [x]).flatMap Ev.cells) 2 S99 (wn rfl) rfl rfl rfl rfl rfl rfl (St.bld (xs := [.int .i64 x.kind, .int .i64 x.producer, .int .i64 x.id, .int .i64 x.body, .int .i64 x.hepoch, .int .i64 x.hno]) 0 S99 rfl rfl rfl) Try.underlying57 infz37 rfl (by decide) (oneAll rfl) (by simp only [maxLen]; omega) (by omega) (fm_snoc (enc := Ev.cells) rfl rfl) ?_; intro A100 c101 w102 hc104 hm105 S103; clear S99
     change St _ _ _ [_, _, .own 37 6 (.slice A100 (l.length + 1) c101) (l.length + 1) ((l ++ [x]).flatMap Ev.cells), _, _, _, _] at S103
     refine vv (yfa 5 fa108_5) ?_
     refine sr (row' := #[.int .i64 ro, .int .i64 ep, .int .i64 fr, .int .i64 tg, .int .i64 rd, .slice A100 (l.length + 1) c101]) 1 S103 inf57 ?_; intro w106 S107; clear S103
     refine qk [2, 4, 5, 7, 9] ?_
     refine x_utssr (vm ?_)
     refine vv (v := .bool true) yno ?_
     refine vm ?_
     iterate 3 refine vs ?_
     refine vv ypT ?_
     refine vm ?_
     iterate 3 refine vs ?_
     refine vv ypT ?_
     refine qk [4, 5, 7, 172] ?_
     refine x_tysr (vv yzB ?_)
     refine sa 3 S107 inf108 ?_; intro w108 S109; clear S107
     refine va ?_
     refine qk [4, 5] ?_
     refine x_teh (pc 3 S109 Try.underlying108 inf108 ?_)
     have S110 : St _ _ _ [] := S109.dels [6, 5, 4, 3, 2, 1, 0]; clear S109
     rw [applied_add (.inr ⟨rfl, rfl⟩) h13 h17, if_neg (by (try dsimp only); omega)]
     exact ⟨none, 0, rfl, rdo_nil S110⟩
  ·refine vv (yneqT h17) ?_
   refine qk [2, 3, 4, 5, 6, 19] ?_
   refine x_tysr (vv yzB ?_)
   refine vm ?_
   refine sa 0 S15 inf108 ?_; intro w111 S112; clear S15
   refine va ?_
   refine qk [4, 5] ?_
   refine x_teh (pc 0 S112 Try.underlying108 inf108 ?_)
   have S113 : St _ _ _ [] := S112.dels [3, 2, 1, 0]; clear S112
   rw [apply_rf h13 h17]
   exact ⟨none, 0, rfl, rdo_nil S113⟩
 ·refine vv (yeqlF h13) ?_
  refine qk [2, 3, 4, 5, 6, 15] ?_
  refine x_tnktssr (vm ?_)
  refine vv (yneqT h13) ?_
  refine qk [2, 3, 4, 5, 6, 19] ?_
  refine x_tysr (vv yzB ?_)
  refine vm ?_
  refine sa 0 S11 inf108 ?_; intro w114 S115; clear S11
  refine va ?_
  refine qk [4, 5] ?_
  refine x_teh (pc 0 S115 Try.underlying108 inf108 ?_)
  have S116 : St _ _ _ [] := S115.dels [3, 2, 1, 0]; clear S115
  rw [apply_bf h13]
  exact ⟨none, 0, rfl, rdo_nil S116⟩
end Go.Proofs.Ytkjlafpafmihaaa

namespace Go.Proofs.Ytkjlafpafmihaaa
open Go.ChangeShapes Go.WideShapes Go.RowKit

set_option maxRecDepth 100000 in
set_option maxHeartbeats 8000000 in
theorem Applied_k6 (ro ep fr tg rd : Int) (A : Option Addr) (c : Nat) (l : List Ev) (qu e pe : Int) (x : Ev) (w : World) (h : Rd w w.heap.size 6 A l.length (evCells l)) (hb : l.length * 48 ≤ reachBytes) :
    Calls Try.prog 99 #[.agg #[.int .i64 ro, .int .i64 ep, .int .i64 fr, .int .i64 tg, .int .i64 rd, .slice A l.length c], .agg #[.int .i64 6, .int .i64 qu, .int .i64 e, .int .i64 pe, .int .i64 x.kind, .int .i64 x.producer, .int .i64 x.id, .int .i64 x.body, .int .i64 x.hepoch, .int .i64 x.hno]] w (BrtPost w (applyM ⟨ro, ep, fr, tg, rd, l⟩ ⟨6, qu, e, pe, x⟩)) := by
 have S := (St.start w).addRd h; clear h
 have hb2 := hb
 unfold reachBytes at hb2
 refine fnw 175 Try.func99 ?_
 refine cw [0, 1] ?_
 refine x_sr (nb (row := #[.int .i64 ro, .int .i64 ep, .int .i64 fr, .int .i64 tg, .int .i64 rd, .slice A l.length c]) S ?_); intro b1 w2 S3; clear S
 refine nb (row := #[.int .i64 6, .int .i64 qu, .int .i64 e, .int .i64 pe, .int .i64 x.kind, .int .i64 x.producer, .int .i64 x.id, .int .i64 x.body, .int .i64 x.hepoch, .int .i64 x.hno]) S3 ?_; intro b4 w5 S6; clear S3
 refine naB S6 Try.zeroValue108 ?_; intro b7 w8 S9; clear S6
 refine va ?_
 refine qk [2, 3, 4, 5] ?_
 refine x_tsr (vv (ylr 2 S9 Try.underlying108 inf108) ?_)
 refine cab en78 S9 (BerthFault_calls ro ep fr tg rd A c l _ (St.rd 3 S9 rfl) (by omega)) ?_; intro w10 S11; clear S9
 refine va ?_
 refine qk [2, 3, 4, 5, 6] ?_
 refine x_tssr (vm ?_)
 by_cases h13 : brtFault ⟨ro, ep, fr, tg, rd, l⟩ = 0
 ·have hln := tellM_len (bf_zero h13).2
  dsimp only at hln
  refine vv (yeqlT h13) ?_
  refine qk [2, 3, 4, 5, 6, 15] ?_
  refine wQ_then (wC_cond_t rfl (wC_region (vv (ylr 1 S11 Try.underlying51 inf51) ?_)))
  refine cab en122 S11 (RecordFault_calls ⟨6, qu, e, pe, x⟩ _) ?_; intro w14 S15; clear S11
  refine va ?_
  refine qk [2, 3, 4, 5, 6] ?_
  refine x_tssr (vm ?_)
  by_cases h17 : recFault ⟨6, qu, e, pe, x⟩ = 0
  ·have hrz := rec_zero h17
   dsimp only at hrz
   refine vv (yneqF h17) ?_
   refine qk [2, 3, 4, 5, 6, 19] ?_
   refine x_tnktsr (vv (ylr 2 S15 Try.underlying108 inf108) ?_)
   refine cal en156 (BerthCopy_calls ro ep fr tg rd A c l _ (St.rd 3 S15 rfl) hb) ?_
   rintro _ w20 ⟨A18, c19, rfl, T22⟩
   refine ⟨_, rfl, ?_⟩
   have S21 := S15.ext T22 rfl; clear T22 S15
   change St _ _ _ [.own 37 6 (.slice A18 l.length c19) l.length ((l).flatMap Ev.cells), _, _, _, _] at S21
   refine naB S21 Try.zeroValue108 ?_; intro b23 w24 S25; clear S21
   refine sa 0 S25 inf108 ?_; intro w26 S27; clear S25
   refine qk [2, 3, 4, 5, 7] ?_
   refine x_tsr (vv (yfa 1 fa108_1) ?_)
   refine vv (ylc 4 S27 Try.underlying3) ?_
   refine vv (yfa 2 fa51_2) ?_
   refine vv (ylc 3 S27 Try.underlying3) ?_
   by_cases h28 : ep = e
   ·refine vv (yeqlT h28) ?_
    refine va ?_
    refine qk [2, 3, 4, 5, 7, 8] ?_
    refine x_tsr (vv (yfa 3 fa51_3) ?_)
    refine vv (ylc 3 S27 Try.underlying3) ?_
    by_cases h29 : pe = 0
    ·refine vv (yeqlT h29) ?_
     refine vm ?_
     iterate 3 refine vs ?_
     refine vv ypT ?_
     refine vm ?_
     iterate 3 refine vs ?_
     refine vv ypT ?_
     refine va ?_
     refine qk [2, 3, 4, 5, 7, 8, 9] ?_
     refine x_tssr (vv (yfa 0 fa51_0) ?_)
     refine vv (ylc 3 S27 Try.underlying3) ?_
     refine qk [2, 3, 4, 5, 7, 8, 9, 43] ?_
     refine x_tbsr (vv deqlF ?_)
     refine va ?_
     refine qk [2, 3, 4, 5, 7, 8, 9, 43, 56] ?_
     refine x_tnsr (vv deqlF ?_)
     refine va ?_
     refine qk [2, 3, 4, 5, 7, 8, 9, 43, 74] ?_
     refine x_tnsr (vv deqlF ?_)
     refine va ?_
     refine qk [2, 3, 4, 5, 7, 8, 9, 43, 92] ?_
     refine x_tnsr (vv deqlF ?_)
     refine va ?_
     refine qk [2, 3, 4, 5, 7, 8, 9, 43, 107] ?_
     refine x_tnsr (vv deqlF ?_)
     refine va ?_
     refine qk [2, 3, 4, 5, 7, 8, 9, 43, 124] ?_
     refine x_tnsr (vv deqlT ?_)
     refine va ?_
     refine qk [2, 4, 5, 7, 8, 9, 142] ?_
     refine x_tysr (vm ?_)
     refine vm ?_
     refine vg ym ?_
     refine vv ypT ?_
     refine vm ?_
     refine vg (yfa 0 fa108_0) ?_
     refine vg (ylc 4 S27 Try.underlying3) ?_
     by_cases h30 : ro = 4
     ·refine vg (yeqlT h30) ?_
      refine vv ypT ?_
      refine va ?_
      refine qk [2, 4, 5, 7, 9] ?_
      refine x_tsr (vv (yfa 0 fa108_0) ?_)
      refine sr (row' := #[.int .i64 1, .int .i64 ep, .int .i64 fr, .int .i64 tg, .int .i64 rd, .slice A18 l.length c19]) 0 S27 inf3 ?_; intro w31 S32; clear S27
      refine qk [2, 4, 5, 7, 9] ?_
      refine x_tsr (vv (yfa 2 fa108_2) ?_)
      refine sr (row' := #[.int .i64 1, .int .i64 ep, .int .i64 0, .int .i64 tg, .int .i64 rd, .slice A18 l.length c19]) 0 S32 inf3 ?_; intro w33 S34; clear S32
      refine qk [2, 4, 5, 7, 9] ?_
      refine x_tr (vv (yfa 5 fa108_5) ?_)
      refine vv (ylc 0 S34 Try.underlying57) ?_
      refine vv (v := .agg #[.int .i64 4, .int .i64 0, .int .i64 0, .int .i64 0, .int .i64 0, .int .i64 0]) (y_build (vs := [(0, .int .i64 4)]) rfl ⟨rfl, rfl, trivial⟩ (by kernel_rfl)) ?_
      refine wL_new (V := fun b => .slice (some ⟨b, 0, none⟩) 1 1) (row := #[.int .i64 4, .int .i64 0, .int .i64 0, .int .i64 0, .int .i64 0, .int .i64 0]) (t := 37) S34 (wn rfl) rfl rfl (d_buildSlice (vs := [(0, .agg #[.int .i64 4, .int .i64 0, .int .i64 0, .int .i64 0, .int .i64 0, .int .i64 0])]) rfl ⟨rfl, rfl, trivial⟩ (by kernel_rfl)) ?_; intro b35 w36 S37; clear S34
      refine wL_append (news := [.int .i64 4, .int .i64 0, .int .i64 0, .int .i64 0, .int .i64 0, .int .i64 0]) (xs' := (l ++ [brkEv]).flatMap Ev.cells) 2 S37 (wn rfl) rfl rfl rfl rfl rfl rfl (St.bld (xs := [.int .i64 4, .int .i64 0, .int .i64 0, .int .i64 0, .int .i64 0, .int .i64 0]) 0 S37 rfl rfl rfl) Try.underlying57 infz37 rfl (by decide) (oneAll rfl) (by simp only [maxLen]; omega) (by omega) (fm_snoc (enc := Ev.cells) rfl rfl) ?_; intro A38 c39 w40 hc42 hm43 S41; clear S37
      change St _ _ _ [_, _, .own 37 6 (.slice A38 (l.length + 1) c39) (l.length + 1) ((l ++ [brkEv]).flatMap Ev.cells), _, _, _, _] at S41
      refine vv (yfa 5 fa108_5) ?_
      refine sr (row' := #[.int .i64 1, .int .i64 ep, .int .i64 0, .int .i64 tg, .int .i64 rd, .slice A38 (l.length + 1) c39]) 1 S41 inf57 ?_; intro w44 S45; clear S41
      refine qk [2, 4, 5, 7, 9] ?_
      refine x_utssr (vm ?_)
      refine vv (v := .bool false) yno ?_
      refine vm ?_
      refine vg (yfa 0 fa108_0) ?_
      refine vg (ylc 5 S45 Try.underlying3) ?_
      refine vg (deqlF (h := by omega)) ?_
      refine vv ypF ?_
      refine vm ?_
      refine vg (ylr 1 S45 Try.underlying108 inf108) ?_
      have hal : (l ++ [brkEv]).length = l.length + 1 := by simp only [List.length_append, List.length_cons, List.length_nil, List.length_drop]
      have HC46 := fun (w : World) (h : Rd w w.heap.size 6 A38 ((l ++ [brkEv]).length) (evCells (l ++ [brkEv]))) => BerthFault_calls 1 ep 0 tg rd A38 c39 (l ++ [brkEv]) w h (by omega)
      rw [hal] at HC46
      refine calg en78 (HC46 _ (St.ord 2 S45 rfl)) ?_
      rintro _ w47 ⟨rfl, hb49⟩
      refine ⟨_, rfl, ?_⟩
      have S48 := S45.on hb49; clear hb49 S45; clear HC46
      by_cases h50 : brtFault ⟨1, ep, 0, tg, rd, l ++ [brkEv]⟩ = 0
      ·refine vg (yneqF h50) ?_
       refine vv ypF ?_
       refine qk [4, 5, 7, 172] ?_
       refine x_tnktsr (vv (ylr 1 S48 Try.underlying108 inf108) ?_)
       refine sa 3 S48 inf108 ?_; intro w51 S52; clear S48
       refine va ?_
       refine qk [4, 5] ?_
       refine x_te (pc 3 S52 Try.underlying108 inf108 ?_)
       have S53 : St _ _ _ [_] := S52.dels [6, 5, 4, 3, 1, 0]; clear S52
       have S54 := S53.sealAll 0 rfl; clear S53
       change St _ _ _ [.rdo 6 A38 (l.length + 1) ((l ++ [brkEv]).flatMap Ev.cells)] at S54
       rw [applied_6 h13 h17, if_pos (by (try dsimp only); omega)]
       try dsimp only
       refine ⟨A38, c39, ?_, ?_⟩
       · dsimp only; rw [hal]; rfl
       · dsimp only; rw [hal]; exact S54
      ·refine vg (yneqT h50) ?_
       refine vv ypF ?_
       refine qk [4, 5, 7, 172] ?_
       refine x_tysr (vv yzB ?_)
       refine sa 3 S48 inf108 ?_; intro w55 S56; clear S48
       refine va ?_
       refine qk [4, 5] ?_
       refine x_teh (pc 3 S56 Try.underlying108 inf108 ?_)
       have S57 : St _ _ _ [] := S56.dels [6, 5, 4, 3, 2, 1, 0]; clear S56
       rw [applied_6 h13 h17, if_neg (by (try dsimp only); omega)]
       exact ⟨none, 0, rfl, rdo_nil S57⟩
     ·refine vg (yeqlF h30) ?_
      refine vv ypT ?_
      refine va ?_
      refine qk [2, 4, 5, 7, 9] ?_
      refine x_tsr (vv (yfa 0 fa108_0) ?_)
      refine sr (row' := #[.int .i64 1, .int .i64 ep, .int .i64 fr, .int .i64 tg, .int .i64 rd, .slice A18 l.length c19]) 0 S27 inf3 ?_; intro w58 S59; clear S27
      refine qk [2, 4, 5, 7, 9] ?_
      refine x_tsr (vv (yfa 2 fa108_2) ?_)
      refine sr (row' := #[.int .i64 1, .int .i64 ep, .int .i64 0, .int .i64 tg, .int .i64 rd, .slice A18 l.length c19]) 0 S59 inf3 ?_; intro w60 S61; clear S59
      refine qk [2, 4, 5, 7, 9] ?_
      refine x_tr (vv (yfa 5 fa108_5) ?_)
      refine vv (ylc 0 S61 Try.underlying57) ?_
      refine vv (v := .agg #[.int .i64 4, .int .i64 0, .int .i64 0, .int .i64 0, .int .i64 0, .int .i64 0]) (y_build (vs := [(0, .int .i64 4)]) rfl ⟨rfl, rfl, trivial⟩ (by kernel_rfl)) ?_
      refine wL_new (V := fun b => .slice (some ⟨b, 0, none⟩) 1 1) (row := #[.int .i64 4, .int .i64 0, .int .i64 0, .int .i64 0, .int .i64 0, .int .i64 0]) (t := 37) S61 (wn rfl) rfl rfl (d_buildSlice (vs := [(0, .agg #[.int .i64 4, .int .i64 0, .int .i64 0, .int .i64 0, .int .i64 0, .int .i64 0])]) rfl ⟨rfl, rfl, trivial⟩ (by kernel_rfl)) ?_; intro b62 w63 S64; clear S61
      refine wL_append (news := [.int .i64 4, .int .i64 0, .int .i64 0, .int .i64 0, .int .i64 0, .int .i64 0]) (xs' := (l ++ [brkEv]).flatMap Ev.cells) 2 S64 (wn rfl) rfl rfl rfl rfl rfl rfl (St.bld (xs := [.int .i64 4, .int .i64 0, .int .i64 0, .int .i64 0, .int .i64 0, .int .i64 0]) 0 S64 rfl rfl rfl) Try.underlying57 infz37 rfl (by decide) (oneAll rfl) (by simp only [maxLen]; omega) (by omega) (fm_snoc (enc := Ev.cells) rfl rfl) ?_; intro A65 c66 w67 hc69 hm70 S68; clear S64
      change St _ _ _ [_, _, .own 37 6 (.slice A65 (l.length + 1) c66) (l.length + 1) ((l ++ [brkEv]).flatMap Ev.cells), _, _, _, _] at S68
      refine vv (yfa 5 fa108_5) ?_
      refine sr (row' := #[.int .i64 1, .int .i64 ep, .int .i64 0, .int .i64 tg, .int .i64 rd, .slice A65 (l.length + 1) c66]) 1 S68 inf57 ?_; intro w71 S72; clear S68
      refine qk [2, 4, 5, 7, 9] ?_
      refine x_utssr (vm ?_)
      refine vv (v := .bool true) yno ?_
      refine vm ?_
      iterate 3 refine vs ?_
      refine vv ypT ?_
      refine vm ?_
      iterate 3 refine vs ?_
      refine vv ypT ?_
      refine qk [4, 5, 7, 172] ?_
      refine x_tysr (vv yzB ?_)
      refine sa 3 S72 inf108 ?_; intro w73 S74; clear S72
      refine va ?_
      refine qk [4, 5] ?_
      refine x_teh (pc 3 S74 Try.underlying108 inf108 ?_)
      have S75 : St _ _ _ [] := S74.dels [6, 5, 4, 3, 2, 1, 0]; clear S74
      rw [applied_6 h13 h17, if_neg (by (try dsimp only); omega)]
      exact ⟨none, 0, rfl, rdo_nil S75⟩
    ·refine vv (yeqlF h29) ?_
     refine vm ?_
     refine vg (yfa 0 fa51_0) ?_
     refine vg (ylc 3 S27 Try.underlying3) ?_
     refine vg deqlF ?_
     refine vv ypF ?_
     refine vm ?_
     refine vg (yfa 0 fa51_0) ?_
     refine vg (ylc 3 S27 Try.underlying3) ?_
     refine vg deqlF ?_
     refine vv ypF ?_
     refine va ?_
     refine qk [2, 3, 4, 5, 7, 8, 9] ?_
     refine x_tssr (vv (yfa 0 fa51_0) ?_)
     refine vv (ylc 3 S27 Try.underlying3) ?_
     refine qk [2, 3, 4, 5, 7, 8, 9, 43] ?_
     refine x_tbsr (vv deqlF ?_)
     refine va ?_
     refine qk [2, 3, 4, 5, 7, 8, 9, 43, 56] ?_
     refine x_tnsr (vv deqlF ?_)
     refine va ?_
     refine qk [2, 3, 4, 5, 7, 8, 9, 43, 74] ?_
     refine x_tnsr (vv deqlF ?_)
     refine va ?_
     refine qk [2, 3, 4, 5, 7, 8, 9, 43, 92] ?_
     refine x_tnsr (vv deqlF ?_)
     refine va ?_
     refine qk [2, 3, 4, 5, 7, 8, 9, 43, 107] ?_
     refine x_tnsr (vv deqlF ?_)
     refine va ?_
     refine qk [2, 3, 4, 5, 7, 8, 9, 43, 124] ?_
     refine x_tnsr (vv deqlT ?_)
     refine va ?_
     refine qk [2, 4, 5, 7, 8, 9, 142] ?_
     refine x_tysr (vm ?_)
     refine vm ?_
     refine vs ?_
     refine vv ypF ?_
     refine vm ?_
     iterate 3 refine vs ?_
     refine vv ypF ?_
     refine va ?_
     refine qk [2, 4, 5, 7, 9] ?_
     refine x_tsr (vv (yfa 0 fa108_0) ?_)
     refine sr (row' := #[.int .i64 1, .int .i64 ep, .int .i64 fr, .int .i64 tg, .int .i64 rd, .slice A18 l.length c19]) 0 S27 inf3 ?_; intro w76 S77; clear S27
     refine qk [2, 4, 5, 7, 9] ?_
     refine x_tsr (vv (yfa 2 fa108_2) ?_)
     refine sr (row' := #[.int .i64 1, .int .i64 ep, .int .i64 0, .int .i64 tg, .int .i64 rd, .slice A18 l.length c19]) 0 S77 inf3 ?_; intro w78 S79; clear S77
     refine qk [2, 4, 5, 7, 9] ?_
     refine x_tr (vv (yfa 5 fa108_5) ?_)
     refine vv (ylc 0 S79 Try.underlying57) ?_
     refine vv (v := .agg #[.int .i64 4, .int .i64 0, .int .i64 0, .int .i64 0, .int .i64 0, .int .i64 0]) (y_build (vs := [(0, .int .i64 4)]) rfl ⟨rfl, rfl, trivial⟩ (by kernel_rfl)) ?_
     refine wL_new (V := fun b => .slice (some ⟨b, 0, none⟩) 1 1) (row := #[.int .i64 4, .int .i64 0, .int .i64 0, .int .i64 0, .int .i64 0, .int .i64 0]) (t := 37) S79 (wn rfl) rfl rfl (d_buildSlice (vs := [(0, .agg #[.int .i64 4, .int .i64 0, .int .i64 0, .int .i64 0, .int .i64 0, .int .i64 0])]) rfl ⟨rfl, rfl, trivial⟩ (by kernel_rfl)) ?_; intro b80 w81 S82; clear S79
     refine wL_append (news := [.int .i64 4, .int .i64 0, .int .i64 0, .int .i64 0, .int .i64 0, .int .i64 0]) (xs' := (l ++ [brkEv]).flatMap Ev.cells) 2 S82 (wn rfl) rfl rfl rfl rfl rfl rfl (St.bld (xs := [.int .i64 4, .int .i64 0, .int .i64 0, .int .i64 0, .int .i64 0, .int .i64 0]) 0 S82 rfl rfl rfl) Try.underlying57 infz37 rfl (by decide) (oneAll rfl) (by simp only [maxLen]; omega) (by omega) (fm_snoc (enc := Ev.cells) rfl rfl) ?_; intro A83 c84 w85 hc87 hm88 S86; clear S82
     change St _ _ _ [_, _, .own 37 6 (.slice A83 (l.length + 1) c84) (l.length + 1) ((l ++ [brkEv]).flatMap Ev.cells), _, _, _, _] at S86
     refine vv (yfa 5 fa108_5) ?_
     refine sr (row' := #[.int .i64 1, .int .i64 ep, .int .i64 0, .int .i64 tg, .int .i64 rd, .slice A83 (l.length + 1) c84]) 1 S86 inf57 ?_; intro w89 S90; clear S86
     refine qk [2, 4, 5, 7, 9] ?_
     refine x_utssr (vm ?_)
     refine vv (v := .bool true) yno ?_
     refine vm ?_
     iterate 3 refine vs ?_
     refine vv ypT ?_
     refine vm ?_
     iterate 3 refine vs ?_
     refine vv ypT ?_
     refine qk [4, 5, 7, 172] ?_
     refine x_tysr (vv yzB ?_)
     refine sa 3 S90 inf108 ?_; intro w91 S92; clear S90
     refine va ?_
     refine qk [4, 5] ?_
     refine x_teh (pc 3 S92 Try.underlying108 inf108 ?_)
     have S93 : St _ _ _ [] := S92.dels [6, 5, 4, 3, 2, 1, 0]; clear S92
     rw [applied_6 h13 h17, if_neg (by (try dsimp only); omega)]
     exact ⟨none, 0, rfl, rdo_nil S93⟩
   ·refine vv (yeqlF h28) ?_
    refine va ?_
    refine qk [2, 3, 4, 5, 7, 8] ?_
    refine x_tsr (vv (yfa 3 fa51_3) ?_)
    refine vv (ylc 3 S27 Try.underlying3) ?_
    by_cases h94 : pe = 0
    ·refine vv (yeqlT h94) ?_
     refine vm ?_
     iterate 3 refine vs ?_
     refine vv ypT ?_
     refine vm ?_
     iterate 3 refine vs ?_
     refine vv ypT ?_
     refine va ?_
     refine qk [2, 3, 4, 5, 7, 8, 9] ?_
     refine x_tssr (vv (yfa 0 fa51_0) ?_)
     refine vv (ylc 3 S27 Try.underlying3) ?_
     refine qk [2, 3, 4, 5, 7, 8, 9, 43] ?_
     refine x_tbsr (vv deqlF ?_)
     refine va ?_
     refine qk [2, 3, 4, 5, 7, 8, 9, 43, 56] ?_
     refine x_tnsr (vv deqlF ?_)
     refine va ?_
     refine qk [2, 3, 4, 5, 7, 8, 9, 43, 74] ?_
     refine x_tnsr (vv deqlF ?_)
     refine va ?_
     refine qk [2, 3, 4, 5, 7, 8, 9, 43, 92] ?_
     refine x_tnsr (vv deqlF ?_)
     refine va ?_
     refine qk [2, 3, 4, 5, 7, 8, 9, 43, 107] ?_
     refine x_tnsr (vv deqlF ?_)
     refine va ?_
     refine qk [2, 3, 4, 5, 7, 8, 9, 43, 124] ?_
     refine x_tnsr (vv deqlT ?_)
     refine va ?_
     refine qk [2, 4, 5, 7, 8, 9, 142] ?_
     refine x_tysr (vm ?_)
     refine vm ?_
     refine vg ym ?_
     refine vv ypT ?_
     refine vm ?_
     iterate 3 refine vs ?_
     refine vv ypF ?_
     refine va ?_
     refine qk [2, 4, 5, 7, 9] ?_
     refine x_tsr (vv (yfa 0 fa108_0) ?_)
     refine sr (row' := #[.int .i64 1, .int .i64 ep, .int .i64 fr, .int .i64 tg, .int .i64 rd, .slice A18 l.length c19]) 0 S27 inf3 ?_; intro w95 S96; clear S27
     refine qk [2, 4, 5, 7, 9] ?_
     refine x_tsr (vv (yfa 2 fa108_2) ?_)
     refine sr (row' := #[.int .i64 1, .int .i64 ep, .int .i64 0, .int .i64 tg, .int .i64 rd, .slice A18 l.length c19]) 0 S96 inf3 ?_; intro w97 S98; clear S96
     refine qk [2, 4, 5, 7, 9] ?_
     refine x_tr (vv (yfa 5 fa108_5) ?_)
     refine vv (ylc 0 S98 Try.underlying57) ?_
     refine vv (v := .agg #[.int .i64 4, .int .i64 0, .int .i64 0, .int .i64 0, .int .i64 0, .int .i64 0]) (y_build (vs := [(0, .int .i64 4)]) rfl ⟨rfl, rfl, trivial⟩ (by kernel_rfl)) ?_
     refine wL_new (V := fun b => .slice (some ⟨b, 0, none⟩) 1 1) (row := #[.int .i64 4, .int .i64 0, .int .i64 0, .int .i64 0, .int .i64 0, .int .i64 0]) (t := 37) S98 (wn rfl) rfl rfl (d_buildSlice (vs := [(0, .agg #[.int .i64 4, .int .i64 0, .int .i64 0, .int .i64 0, .int .i64 0, .int .i64 0])]) rfl ⟨rfl, rfl, trivial⟩ (by kernel_rfl)) ?_; intro b99 w100 S101; clear S98
     refine wL_append (news := [.int .i64 4, .int .i64 0, .int .i64 0, .int .i64 0, .int .i64 0, .int .i64 0]) (xs' := (l ++ [brkEv]).flatMap Ev.cells) 2 S101 (wn rfl) rfl rfl rfl rfl rfl rfl (St.bld (xs := [.int .i64 4, .int .i64 0, .int .i64 0, .int .i64 0, .int .i64 0, .int .i64 0]) 0 S101 rfl rfl rfl) Try.underlying57 infz37 rfl (by decide) (oneAll rfl) (by simp only [maxLen]; omega) (by omega) (fm_snoc (enc := Ev.cells) rfl rfl) ?_; intro A102 c103 w104 hc106 hm107 S105; clear S101
     change St _ _ _ [_, _, .own 37 6 (.slice A102 (l.length + 1) c103) (l.length + 1) ((l ++ [brkEv]).flatMap Ev.cells), _, _, _, _] at S105
     refine vv (yfa 5 fa108_5) ?_
     refine sr (row' := #[.int .i64 1, .int .i64 ep, .int .i64 0, .int .i64 tg, .int .i64 rd, .slice A102 (l.length + 1) c103]) 1 S105 inf57 ?_; intro w108 S109; clear S105
     refine qk [2, 4, 5, 7, 9] ?_
     refine x_utssr (vm ?_)
     refine vv (v := .bool true) yno ?_
     refine vm ?_
     iterate 3 refine vs ?_
     refine vv ypT ?_
     refine vm ?_
     iterate 3 refine vs ?_
     refine vv ypT ?_
     refine qk [4, 5, 7, 172] ?_
     refine x_tysr (vv yzB ?_)
     refine sa 3 S109 inf108 ?_; intro w110 S111; clear S109
     refine va ?_
     refine qk [4, 5] ?_
     refine x_teh (pc 3 S111 Try.underlying108 inf108 ?_)
     have S112 : St _ _ _ [] := S111.dels [6, 5, 4, 3, 2, 1, 0]; clear S111
     rw [applied_6 h13 h17, if_neg (by (try dsimp only); omega)]
     exact ⟨none, 0, rfl, rdo_nil S112⟩
    ·refine vv (yeqlF h94) ?_
     refine vm ?_
     refine vg (yfa 0 fa51_0) ?_
     refine vg (ylc 3 S27 Try.underlying3) ?_
     refine vg deqlF ?_
     refine vv ypF ?_
     refine vm ?_
     refine vg (yfa 0 fa51_0) ?_
     refine vg (ylc 3 S27 Try.underlying3) ?_
     refine vg deqlF ?_
     refine vv ypF ?_
     refine va ?_
     refine qk [2, 3, 4, 5, 7, 8, 9] ?_
     refine x_tssr (vv (yfa 0 fa51_0) ?_)
     refine vv (ylc 3 S27 Try.underlying3) ?_
     refine qk [2, 3, 4, 5, 7, 8, 9, 43] ?_
     refine x_tbsr (vv deqlF ?_)
     refine va ?_
     refine qk [2, 3, 4, 5, 7, 8, 9, 43, 56] ?_
     refine x_tnsr (vv deqlF ?_)
     refine va ?_
     refine qk [2, 3, 4, 5, 7, 8, 9, 43, 74] ?_
     refine x_tnsr (vv deqlF ?_)
     refine va ?_
     refine qk [2, 3, 4, 5, 7, 8, 9, 43, 92] ?_
     refine x_tnsr (vv deqlF ?_)
     refine va ?_
     refine qk [2, 3, 4, 5, 7, 8, 9, 43, 107] ?_
     refine x_tnsr (vv deqlF ?_)
     refine va ?_
     refine qk [2, 3, 4, 5, 7, 8, 9, 43, 124] ?_
     refine x_tnsr (vv deqlT ?_)
     refine va ?_
     refine qk [2, 4, 5, 7, 8, 9, 142] ?_
     refine x_tysr (vm ?_)
     refine vm ?_
     refine vs ?_
     refine vv ypF ?_
     refine vm ?_
     iterate 3 refine vs ?_
     refine vv ypF ?_
     refine va ?_
     refine qk [2, 4, 5, 7, 9] ?_
     refine x_tsr (vv (yfa 0 fa108_0) ?_)
     refine sr (row' := #[.int .i64 1, .int .i64 ep, .int .i64 fr, .int .i64 tg, .int .i64 rd, .slice A18 l.length c19]) 0 S27 inf3 ?_; intro w113 S114; clear S27
     refine qk [2, 4, 5, 7, 9] ?_
     refine x_tsr (vv (yfa 2 fa108_2) ?_)
     refine sr (row' := #[.int .i64 1, .int .i64 ep, .int .i64 0, .int .i64 tg, .int .i64 rd, .slice A18 l.length c19]) 0 S114 inf3 ?_; intro w115 S116; clear S114
     refine qk [2, 4, 5, 7, 9] ?_
     refine x_tr (vv (yfa 5 fa108_5) ?_)
     refine vv (ylc 0 S116 Try.underlying57) ?_
     refine vv (v := .agg #[.int .i64 4, .int .i64 0, .int .i64 0, .int .i64 0, .int .i64 0, .int .i64 0]) (y_build (vs := [(0, .int .i64 4)]) rfl ⟨rfl, rfl, trivial⟩ (by kernel_rfl)) ?_
     refine wL_new (V := fun b => .slice (some ⟨b, 0, none⟩) 1 1) (row := #[.int .i64 4, .int .i64 0, .int .i64 0, .int .i64 0, .int .i64 0, .int .i64 0]) (t := 37) S116 (wn rfl) rfl rfl (d_buildSlice (vs := [(0, .agg #[.int .i64 4, .int .i64 0, .int .i64 0, .int .i64 0, .int .i64 0, .int .i64 0])]) rfl ⟨rfl, rfl, trivial⟩ (by kernel_rfl)) ?_; intro b117 w118 S119; clear S116
     refine wL_append (news := [.int .i64 4, .int .i64 0, .int .i64 0, .int .i64 0, .int .i64 0, .int .i64 0]) (xs' := (l ++ [brkEv]).flatMap Ev.cells) 2 S119 (wn rfl) rfl rfl rfl rfl rfl rfl (St.bld (xs := [.int .i64 4, .int .i64 0, .int .i64 0, .int .i64 0, .int .i64 0, .int .i64 0]) 0 S119 rfl rfl rfl) Try.underlying57 infz37 rfl (by decide) (oneAll rfl) (by simp only [maxLen]; omega) (by omega) (fm_snoc (enc := Ev.cells) rfl rfl) ?_; intro A120 c121 w122 hc124 hm125 S123; clear S119
     change St _ _ _ [_, _, .own 37 6 (.slice A120 (l.length + 1) c121) (l.length + 1) ((l ++ [brkEv]).flatMap Ev.cells), _, _, _, _] at S123
     refine vv (yfa 5 fa108_5) ?_
     refine sr (row' := #[.int .i64 1, .int .i64 ep, .int .i64 0, .int .i64 tg, .int .i64 rd, .slice A120 (l.length + 1) c121]) 1 S123 inf57 ?_; intro w126 S127; clear S123
     refine qk [2, 4, 5, 7, 9] ?_
     refine x_utssr (vm ?_)
     refine vv (v := .bool true) yno ?_
     refine vm ?_
     iterate 3 refine vs ?_
     refine vv ypT ?_
     refine vm ?_
     iterate 3 refine vs ?_
     refine vv ypT ?_
     refine qk [4, 5, 7, 172] ?_
     refine x_tysr (vv yzB ?_)
     refine sa 3 S127 inf108 ?_; intro w128 S129; clear S127
     refine va ?_
     refine qk [4, 5] ?_
     refine x_teh (pc 3 S129 Try.underlying108 inf108 ?_)
     have S130 : St _ _ _ [] := S129.dels [6, 5, 4, 3, 2, 1, 0]; clear S129
     rw [applied_6 h13 h17, if_neg (by (try dsimp only); omega)]
     exact ⟨none, 0, rfl, rdo_nil S130⟩
  ·refine vv (yneqT h17) ?_
   refine qk [2, 3, 4, 5, 6, 19] ?_
   refine x_tysr (vv yzB ?_)
   refine vm ?_
   refine sa 0 S15 inf108 ?_; intro w131 S132; clear S15
   refine va ?_
   refine qk [4, 5] ?_
   refine x_teh (pc 0 S132 Try.underlying108 inf108 ?_)
   have S133 : St _ _ _ [] := S132.dels [3, 2, 1, 0]; clear S132
   rw [apply_rf h13 h17]
   exact ⟨none, 0, rfl, rdo_nil S133⟩
 ·refine vv (yeqlF h13) ?_
  refine qk [2, 3, 4, 5, 6, 15] ?_
  refine x_tnktssr (vm ?_)
  refine vv (yneqT h13) ?_
  refine qk [2, 3, 4, 5, 6, 19] ?_
  refine x_tysr (vv yzB ?_)
  refine vm ?_
  refine sa 0 S11 inf108 ?_; intro w134 S135; clear S11
  refine va ?_
  refine qk [4, 5] ?_
  refine x_teh (pc 0 S135 Try.underlying108 inf108 ?_)
  have S136 : St _ _ _ [] := S135.dels [3, 2, 1, 0]; clear S135
  rw [apply_bf h13]
  exact ⟨none, 0, rfl, rdo_nil S136⟩
end Go.Proofs.Ytkjlafpafmihaaa

namespace Go.Proofs.Ytkjlafpafmihaaa
open Go.ChangeShapes Go.WideShapes Go.RowKit

set_option maxRecDepth 100000 in
set_option maxHeartbeats 8000000 in
theorem Applied_k7 (ro ep fr tg rd : Int) (A : Option Addr) (c : Nat) (l : List Ev) (qu e pe : Int) (x : Ev) (w : World) (h : Rd w w.heap.size 6 A l.length (evCells l)) (hb : l.length * 48 ≤ reachBytes) :
    Calls Try.prog 99 #[.agg #[.int .i64 ro, .int .i64 ep, .int .i64 fr, .int .i64 tg, .int .i64 rd, .slice A l.length c], .agg #[.int .i64 7, .int .i64 qu, .int .i64 e, .int .i64 pe, .int .i64 x.kind, .int .i64 x.producer, .int .i64 x.id, .int .i64 x.body, .int .i64 x.hepoch, .int .i64 x.hno]] w (BrtPost w (applyM ⟨ro, ep, fr, tg, rd, l⟩ ⟨7, qu, e, pe, x⟩)) := by
 have S := (St.start w).addRd h; clear h
 have hb2 := hb
 unfold reachBytes at hb2
 refine fnw 175 Try.func99 ?_
 refine cw [0, 1] ?_
 refine x_sr (nb (row := #[.int .i64 ro, .int .i64 ep, .int .i64 fr, .int .i64 tg, .int .i64 rd, .slice A l.length c]) S ?_); intro b1 w2 S3; clear S
 refine nb (row := #[.int .i64 7, .int .i64 qu, .int .i64 e, .int .i64 pe, .int .i64 x.kind, .int .i64 x.producer, .int .i64 x.id, .int .i64 x.body, .int .i64 x.hepoch, .int .i64 x.hno]) S3 ?_; intro b4 w5 S6; clear S3
 refine naB S6 Try.zeroValue108 ?_; intro b7 w8 S9; clear S6
 refine va ?_
 refine qk [2, 3, 4, 5] ?_
 refine x_tsr (vv (ylr 2 S9 Try.underlying108 inf108) ?_)
 refine cab en78 S9 (BerthFault_calls ro ep fr tg rd A c l _ (St.rd 3 S9 rfl) (by omega)) ?_; intro w10 S11; clear S9
 refine va ?_
 refine qk [2, 3, 4, 5, 6] ?_
 refine x_tssr (vm ?_)
 by_cases h13 : brtFault ⟨ro, ep, fr, tg, rd, l⟩ = 0
 ·have hln := tellM_len (bf_zero h13).2
  dsimp only at hln
  refine vv (yeqlT h13) ?_
  refine qk [2, 3, 4, 5, 6, 15] ?_
  refine wQ_then (wC_cond_t rfl (wC_region (vv (ylr 1 S11 Try.underlying51 inf51) ?_)))
  refine cab en122 S11 (RecordFault_calls ⟨7, qu, e, pe, x⟩ _) ?_; intro w14 S15; clear S11
  refine va ?_
  refine qk [2, 3, 4, 5, 6] ?_
  refine x_tssr (vm ?_)
  by_cases h17 : recFault ⟨7, qu, e, pe, x⟩ = 0
  ·have hrz := rec_zero h17
   dsimp only at hrz
   refine vv (yneqF h17) ?_
   refine qk [2, 3, 4, 5, 6, 19] ?_
   refine x_tnktsr (vv (ylr 2 S15 Try.underlying108 inf108) ?_)
   refine cal en156 (BerthCopy_calls ro ep fr tg rd A c l _ (St.rd 3 S15 rfl) hb) ?_
   rintro _ w20 ⟨A18, c19, rfl, T22⟩
   refine ⟨_, rfl, ?_⟩
   have S21 := S15.ext T22 rfl; clear T22 S15
   change St _ _ _ [.own 37 6 (.slice A18 l.length c19) l.length ((l).flatMap Ev.cells), _, _, _, _] at S21
   refine naB S21 Try.zeroValue108 ?_; intro b23 w24 S25; clear S21
   refine sa 0 S25 inf108 ?_; intro w26 S27; clear S25
   refine qk [2, 3, 4, 5, 7] ?_
   refine x_tsr (vv (yfa 1 fa108_1) ?_)
   refine vv (ylc 4 S27 Try.underlying3) ?_
   refine vv (yfa 2 fa51_2) ?_
   refine vv (ylc 3 S27 Try.underlying3) ?_
   by_cases h28 : ep = e
   ·refine vv (yeqlT h28) ?_
    refine va ?_
    refine qk [2, 3, 4, 5, 7, 8] ?_
    refine x_tsr (vv (yfa 3 fa51_3) ?_)
    refine vv (ylc 3 S27 Try.underlying3) ?_
    by_cases h29 : pe = 0
    ·refine vv (yeqlT h29) ?_
     refine vm ?_
     iterate 3 refine vs ?_
     refine vv ypT ?_
     refine vm ?_
     iterate 3 refine vs ?_
     refine vv ypT ?_
     refine va ?_
     refine qk [2, 3, 4, 5, 7, 8, 9] ?_
     refine x_tssr (vv (yfa 0 fa51_0) ?_)
     refine vv (ylc 3 S27 Try.underlying3) ?_
     refine qk [2, 3, 4, 5, 7, 8, 9, 43] ?_
     refine x_tbsr (vv deqlF ?_)
     refine va ?_
     refine qk [2, 3, 4, 5, 7, 8, 9, 43, 56] ?_
     refine x_tnsr (vv deqlF ?_)
     refine va ?_
     refine qk [2, 3, 4, 5, 7, 8, 9, 43, 74] ?_
     refine x_tnsr (vv deqlF ?_)
     refine va ?_
     refine qk [2, 3, 4, 5, 7, 8, 9, 43, 92] ?_
     refine x_tnsr (vv deqlF ?_)
     refine va ?_
     refine qk [2, 3, 4, 5, 7, 8, 9, 43, 107] ?_
     refine x_tnsr (vv deqlF ?_)
     refine va ?_
     refine qk [2, 3, 4, 5, 7, 8, 9, 43, 124] ?_
     refine x_tnsr (vv deqlF ?_)
     refine va ?_
     refine qk [2, 4, 5, 7, 8, 9, 142] ?_
     refine x_tnsr (vm ?_)
     refine vm ?_
     refine vg ym ?_
     refine vv ypT ?_
     refine vm ?_
     refine vg (yfa 0 fa108_0) ?_
     refine vg (ylc 4 S27 Try.underlying3) ?_
     by_cases h30 : ro = 3
     ·refine vg (yeqlT h30) ?_
      refine vv ypT ?_
      refine va ?_
      refine qk [2, 4, 5, 7, 9] ?_
      refine x_tr (vv (yfa 1 fa108_1) ?_)
      refine vv (ylc 4 S27 Try.underlying3) ?_
      refine vv (v := .agg #[.int .i64 0, .int .i64 ep, .int .i64 0, .int .i64 0, .int .i64 0, .slice none 0 0]) (y_build (vs := [(1, .int .i64 ep)]) rfl ⟨rfl, rfl, trivial⟩ (by kernel_rfl)) ?_
      refine sa 0 S27 inf108 ?_; intro w31 S32; clear S27
      refine qk [2, 4, 5, 7, 9] ?_
      refine x_utssr (vm ?_)
      refine vv (v := .bool false) yno ?_
      refine vm ?_
      refine vg (yfa 0 fa108_0) ?_
      refine vg (ylc 4 S32 Try.underlying3) ?_
      refine vg (deqlF (h := by omega)) ?_
      refine vv ypF ?_
      refine vm ?_
      refine vg (ylr 0 S32 Try.underlying108 inf108) ?_
      refine calg en78 (BerthFault_calls 0 ep 0 0 0 none 0 ([] : List Ev) _ Rd.none_ (by simp)) ?_
      rintro _ w33 ⟨rfl, hb35⟩
      refine ⟨_, rfl, ?_⟩
      have S34 := S32.on hb35; clear hb35 S32
      by_cases h36 : brtFault ⟨0, ep, 0, 0, 0, []⟩ = 0
      ·refine vg (yneqF h36) ?_
       refine vv ypF ?_
       refine qk [4, 5, 7, 172] ?_
       refine x_tnktsr (vv (ylr 0 S34 Try.underlying108 inf108) ?_)
       refine sa 2 S34 inf108 ?_; intro w37 S38; clear S34
       refine va ?_
       refine qk [4, 5] ?_
       refine x_te (pc 2 S38 Try.underlying108 inf108 ?_)
       have S39 : St _ _ _ [] := S38.dels [5, 4, 3, 2, 1, 0]; clear S38
       rw [applied_7 h13 h17, if_pos (by (try dsimp only); omega)]
       try dsimp only
       exact ⟨none, 0, rfl, rdo_nil S39⟩
      ·refine vg (yneqT h36) ?_
       refine vv ypF ?_
       refine qk [4, 5, 7, 172] ?_
       refine x_tysr (vv yzB ?_)
       refine sa 2 S34 inf108 ?_; intro w40 S41; clear S34
       refine va ?_
       refine qk [4, 5] ?_
       refine x_teh (pc 2 S41 Try.underlying108 inf108 ?_)
       have S42 : St _ _ _ [] := S41.dels [5, 4, 3, 2, 1, 0]; clear S41
       rw [applied_7 h13 h17, if_neg (by (try dsimp only); omega)]
       exact ⟨none, 0, rfl, rdo_nil S42⟩
     ·refine vg (yeqlF h30) ?_
      refine vv ypT ?_
      refine va ?_
      refine qk [2, 4, 5, 7, 9] ?_
      refine x_tr (vv (yfa 1 fa108_1) ?_)
      refine vv (ylc 4 S27 Try.underlying3) ?_
      refine vv (v := .agg #[.int .i64 0, .int .i64 ep, .int .i64 0, .int .i64 0, .int .i64 0, .slice none 0 0]) (y_build (vs := [(1, .int .i64 ep)]) rfl ⟨rfl, rfl, trivial⟩ (by kernel_rfl)) ?_
      refine sa 0 S27 inf108 ?_; intro w43 S44; clear S27
      refine qk [2, 4, 5, 7, 9] ?_
      refine x_utssr (vm ?_)
      refine vv (v := .bool true) yno ?_
      refine vm ?_
      iterate 3 refine vs ?_
      refine vv ypT ?_
      refine vm ?_
      iterate 3 refine vs ?_
      refine vv ypT ?_
      refine qk [4, 5, 7, 172] ?_
      refine x_tysr (vv yzB ?_)
      refine sa 2 S44 inf108 ?_; intro w45 S46; clear S44
      refine va ?_
      refine qk [4, 5] ?_
      refine x_teh (pc 2 S46 Try.underlying108 inf108 ?_)
      have S47 : St _ _ _ [] := S46.dels [5, 4, 3, 2, 1, 0]; clear S46
      rw [applied_7 h13 h17, if_neg (by (try dsimp only); omega)]
      exact ⟨none, 0, rfl, rdo_nil S47⟩
    ·refine vv (yeqlF h29) ?_
     refine vm ?_
     refine vg (yfa 0 fa51_0) ?_
     refine vg (ylc 3 S27 Try.underlying3) ?_
     refine vg deqlF ?_
     refine vv ypF ?_
     refine vm ?_
     refine vg (yfa 0 fa51_0) ?_
     refine vg (ylc 3 S27 Try.underlying3) ?_
     refine vg deqlF ?_
     refine vv ypF ?_
     refine va ?_
     refine qk [2, 3, 4, 5, 7, 8, 9] ?_
     refine x_tssr (vv (yfa 0 fa51_0) ?_)
     refine vv (ylc 3 S27 Try.underlying3) ?_
     refine qk [2, 3, 4, 5, 7, 8, 9, 43] ?_
     refine x_tbsr (vv deqlF ?_)
     refine va ?_
     refine qk [2, 3, 4, 5, 7, 8, 9, 43, 56] ?_
     refine x_tnsr (vv deqlF ?_)
     refine va ?_
     refine qk [2, 3, 4, 5, 7, 8, 9, 43, 74] ?_
     refine x_tnsr (vv deqlF ?_)
     refine va ?_
     refine qk [2, 3, 4, 5, 7, 8, 9, 43, 92] ?_
     refine x_tnsr (vv deqlF ?_)
     refine va ?_
     refine qk [2, 3, 4, 5, 7, 8, 9, 43, 107] ?_
     refine x_tnsr (vv deqlF ?_)
     refine va ?_
     refine qk [2, 3, 4, 5, 7, 8, 9, 43, 124] ?_
     refine x_tnsr (vv deqlF ?_)
     refine va ?_
     refine qk [2, 4, 5, 7, 8, 9, 142] ?_
     refine x_tnsr (vm ?_)
     refine vm ?_
     refine vs ?_
     refine vv ypF ?_
     refine vm ?_
     iterate 3 refine vs ?_
     refine vv ypF ?_
     refine va ?_
     refine qk [2, 4, 5, 7, 9] ?_
     refine x_tr (vv (yfa 1 fa108_1) ?_)
     refine vv (ylc 4 S27 Try.underlying3) ?_
     refine vv (v := .agg #[.int .i64 0, .int .i64 ep, .int .i64 0, .int .i64 0, .int .i64 0, .slice none 0 0]) (y_build (vs := [(1, .int .i64 ep)]) rfl ⟨rfl, rfl, trivial⟩ (by kernel_rfl)) ?_
     refine sa 0 S27 inf108 ?_; intro w48 S49; clear S27
     refine qk [2, 4, 5, 7, 9] ?_
     refine x_utssr (vm ?_)
     refine vv (v := .bool true) yno ?_
     refine vm ?_
     iterate 3 refine vs ?_
     refine vv ypT ?_
     refine vm ?_
     iterate 3 refine vs ?_
     refine vv ypT ?_
     refine qk [4, 5, 7, 172] ?_
     refine x_tysr (vv yzB ?_)
     refine sa 2 S49 inf108 ?_; intro w50 S51; clear S49
     refine va ?_
     refine qk [4, 5] ?_
     refine x_teh (pc 2 S51 Try.underlying108 inf108 ?_)
     have S52 : St _ _ _ [] := S51.dels [5, 4, 3, 2, 1, 0]; clear S51
     rw [applied_7 h13 h17, if_neg (by (try dsimp only); omega)]
     exact ⟨none, 0, rfl, rdo_nil S52⟩
   ·refine vv (yeqlF h28) ?_
    refine va ?_
    refine qk [2, 3, 4, 5, 7, 8] ?_
    refine x_tsr (vv (yfa 3 fa51_3) ?_)
    refine vv (ylc 3 S27 Try.underlying3) ?_
    by_cases h53 : pe = 0
    ·refine vv (yeqlT h53) ?_
     refine vm ?_
     iterate 3 refine vs ?_
     refine vv ypT ?_
     refine vm ?_
     iterate 3 refine vs ?_
     refine vv ypT ?_
     refine va ?_
     refine qk [2, 3, 4, 5, 7, 8, 9] ?_
     refine x_tssr (vv (yfa 0 fa51_0) ?_)
     refine vv (ylc 3 S27 Try.underlying3) ?_
     refine qk [2, 3, 4, 5, 7, 8, 9, 43] ?_
     refine x_tbsr (vv deqlF ?_)
     refine va ?_
     refine qk [2, 3, 4, 5, 7, 8, 9, 43, 56] ?_
     refine x_tnsr (vv deqlF ?_)
     refine va ?_
     refine qk [2, 3, 4, 5, 7, 8, 9, 43, 74] ?_
     refine x_tnsr (vv deqlF ?_)
     refine va ?_
     refine qk [2, 3, 4, 5, 7, 8, 9, 43, 92] ?_
     refine x_tnsr (vv deqlF ?_)
     refine va ?_
     refine qk [2, 3, 4, 5, 7, 8, 9, 43, 107] ?_
     refine x_tnsr (vv deqlF ?_)
     refine va ?_
     refine qk [2, 3, 4, 5, 7, 8, 9, 43, 124] ?_
     refine x_tnsr (vv deqlF ?_)
     refine va ?_
     refine qk [2, 4, 5, 7, 8, 9, 142] ?_
     refine x_tnsr (vm ?_)
     refine vm ?_
     refine vg ym ?_
     refine vv ypT ?_
     refine vm ?_
     iterate 3 refine vs ?_
     refine vv ypF ?_
     refine va ?_
     refine qk [2, 4, 5, 7, 9] ?_
     refine x_tr (vv (yfa 1 fa108_1) ?_)
     refine vv (ylc 4 S27 Try.underlying3) ?_
     refine vv (v := .agg #[.int .i64 0, .int .i64 ep, .int .i64 0, .int .i64 0, .int .i64 0, .slice none 0 0]) (y_build (vs := [(1, .int .i64 ep)]) rfl ⟨rfl, rfl, trivial⟩ (by kernel_rfl)) ?_
     refine sa 0 S27 inf108 ?_; intro w54 S55; clear S27
     refine qk [2, 4, 5, 7, 9] ?_
     refine x_utssr (vm ?_)
     refine vv (v := .bool true) yno ?_
     refine vm ?_
     iterate 3 refine vs ?_
     refine vv ypT ?_
     refine vm ?_
     iterate 3 refine vs ?_
     refine vv ypT ?_
     refine qk [4, 5, 7, 172] ?_
     refine x_tysr (vv yzB ?_)
     refine sa 2 S55 inf108 ?_; intro w56 S57; clear S55
     refine va ?_
     refine qk [4, 5] ?_
     refine x_teh (pc 2 S57 Try.underlying108 inf108 ?_)
     have S58 : St _ _ _ [] := S57.dels [5, 4, 3, 2, 1, 0]; clear S57
     rw [applied_7 h13 h17, if_neg (by (try dsimp only); omega)]
     exact ⟨none, 0, rfl, rdo_nil S58⟩
    ·refine vv (yeqlF h53) ?_
     refine vm ?_
     refine vg (yfa 0 fa51_0) ?_
     refine vg (ylc 3 S27 Try.underlying3) ?_
     refine vg deqlF ?_
     refine vv ypF ?_
     refine vm ?_
     refine vg (yfa 0 fa51_0) ?_
     refine vg (ylc 3 S27 Try.underlying3) ?_
     refine vg deqlF ?_
     refine vv ypF ?_
     refine va ?_
     refine qk [2, 3, 4, 5, 7, 8, 9] ?_
     refine x_tssr (vv (yfa 0 fa51_0) ?_)
     refine vv (ylc 3 S27 Try.underlying3) ?_
     refine qk [2, 3, 4, 5, 7, 8, 9, 43] ?_
     refine x_tbsr (vv deqlF ?_)
     refine va ?_
     refine qk [2, 3, 4, 5, 7, 8, 9, 43, 56] ?_
     refine x_tnsr (vv deqlF ?_)
     refine va ?_
     refine qk [2, 3, 4, 5, 7, 8, 9, 43, 74] ?_
     refine x_tnsr (vv deqlF ?_)
     refine va ?_
     refine qk [2, 3, 4, 5, 7, 8, 9, 43, 92] ?_
     refine x_tnsr (vv deqlF ?_)
     refine va ?_
     refine qk [2, 3, 4, 5, 7, 8, 9, 43, 107] ?_
     refine x_tnsr (vv deqlF ?_)
     refine va ?_
     refine qk [2, 3, 4, 5, 7, 8, 9, 43, 124] ?_
     refine x_tnsr (vv deqlF ?_)
     refine va ?_
     refine qk [2, 4, 5, 7, 8, 9, 142] ?_
     refine x_tnsr (vm ?_)
     refine vm ?_
     refine vs ?_
     refine vv ypF ?_
     refine vm ?_
     iterate 3 refine vs ?_
     refine vv ypF ?_
     refine va ?_
     refine qk [2, 4, 5, 7, 9] ?_
     refine x_tr (vv (yfa 1 fa108_1) ?_)
     refine vv (ylc 4 S27 Try.underlying3) ?_
     refine vv (v := .agg #[.int .i64 0, .int .i64 ep, .int .i64 0, .int .i64 0, .int .i64 0, .slice none 0 0]) (y_build (vs := [(1, .int .i64 ep)]) rfl ⟨rfl, rfl, trivial⟩ (by kernel_rfl)) ?_
     refine sa 0 S27 inf108 ?_; intro w59 S60; clear S27
     refine qk [2, 4, 5, 7, 9] ?_
     refine x_utssr (vm ?_)
     refine vv (v := .bool true) yno ?_
     refine vm ?_
     iterate 3 refine vs ?_
     refine vv ypT ?_
     refine vm ?_
     iterate 3 refine vs ?_
     refine vv ypT ?_
     refine qk [4, 5, 7, 172] ?_
     refine x_tysr (vv yzB ?_)
     refine sa 2 S60 inf108 ?_; intro w61 S62; clear S60
     refine va ?_
     refine qk [4, 5] ?_
     refine x_teh (pc 2 S62 Try.underlying108 inf108 ?_)
     have S63 : St _ _ _ [] := S62.dels [5, 4, 3, 2, 1, 0]; clear S62
     rw [applied_7 h13 h17, if_neg (by (try dsimp only); omega)]
     exact ⟨none, 0, rfl, rdo_nil S63⟩
  ·refine vv (yneqT h17) ?_
   refine qk [2, 3, 4, 5, 6, 19] ?_
   refine x_tysr (vv yzB ?_)
   refine vm ?_
   refine sa 0 S15 inf108 ?_; intro w64 S65; clear S15
   refine va ?_
   refine qk [4, 5] ?_
   refine x_teh (pc 0 S65 Try.underlying108 inf108 ?_)
   have S66 : St _ _ _ [] := S65.dels [3, 2, 1, 0]; clear S65
   rw [apply_rf h13 h17]
   exact ⟨none, 0, rfl, rdo_nil S66⟩
 ·refine vv (yeqlF h13) ?_
  refine qk [2, 3, 4, 5, 6, 15] ?_
  refine x_tnktssr (vm ?_)
  refine vv (yneqT h13) ?_
  refine qk [2, 3, 4, 5, 6, 19] ?_
  refine x_tysr (vv yzB ?_)
  refine vm ?_
  refine sa 0 S11 inf108 ?_; intro w67 S68; clear S11
  refine va ?_
  refine qk [4, 5] ?_
  refine x_teh (pc 0 S68 Try.underlying108 inf108 ?_)
  have S69 : St _ _ _ [] := S68.dels [3, 2, 1, 0]; clear S68
  rw [apply_bf h13]
  exact ⟨none, 0, rfl, rdo_nil S69⟩
end Go.Proofs.Ytkjlafpafmihaaa

namespace Go.Proofs.Ytkjlafpafmihaaa
open Go.ChangeShapes Go.WideShapes Go.RowKit

theorem Applied_calls (ro ep fr tg rd : Int) (A : Option Addr) (c : Nat) (l : List Ev) (kd qu e pe : Int) (x : Ev) (w : World) (h : Rd w w.heap.size 6 A l.length (evCells l)) (hb : l.length * 48 ≤ reachBytes) :
    Calls Try.prog 99 #[.agg #[.int .i64 ro, .int .i64 ep, .int .i64 fr, .int .i64 tg, .int .i64 rd, .slice A l.length c], .agg #[.int .i64 kd, .int .i64 qu, .int .i64 e, .int .i64 pe, .int .i64 x.kind, .int .i64 x.producer, .int .i64 x.id, .int .i64 x.body, .int .i64 x.hepoch, .int .i64 x.hno]] w (BrtPost w (applyM ⟨ro, ep, fr, tg, rd, l⟩ ⟨kd, qu, e, pe, x⟩)) := by
  by_cases hk : 1 ≤ kd ∧ kd ≤ 7
  · rcases (by omega : kd = 1 ∨ kd = 2 ∨ kd = 3 ∨ kd = 4 ∨ kd = 5 ∨ kd = 6 ∨ kd = 7) with rfl | rfl | rfl | rfl | rfl | rfl | rfl
    · exact Applied_k1 ro ep fr tg rd A c l qu e pe x w h hb
    · exact Applied_k2 ro ep fr tg rd A c l qu e pe x w h hb
    · exact Applied_k3 ro ep fr tg rd A c l qu e pe x w h hb
    · exact Applied_k4 ro ep fr tg rd A c l qu e pe x w h hb
    · exact Applied_k5 ro ep fr tg rd A c l qu e pe x w h hb
    · exact Applied_k6 ro ep fr tg rd A c l qu e pe x w h hb
    · exact Applied_k7 ro ep fr tg rd A c l qu e pe x w h hb
  · exact Applied_kx ro ep fr tg rd A c l kd qu e pe x hk w h hb
end Go.Proofs.Ytkjlafpafmihaaa

