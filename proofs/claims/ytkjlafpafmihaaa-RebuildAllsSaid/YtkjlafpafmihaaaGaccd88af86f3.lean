/- Parts of proofs: lemmas on memory, on single functions and on the plain models; no condition of their own. -/
import Derived.Test.YtkjlafpafmihaaaRows
import Derived.WalkKit
import Derived.ProofKit
import Derived.OpenShut
import Derived.SizedLaws
import Derived.WalkSpells
import Derived.WalkLawsBesides
import Derived.Handy
import Derived.Deep.QuietTactic
import Derived.BigQuiet
import Derived.Lib.Hide
import Derived.Maps.AppendAt
import Derived.Deep.AppendLies
import Derived.RegionTactic
import Derived.OwnWalk
import Derived.Laws.Tables
import Derived.Deep.MidRow
import Derived.StillTailTactics
import Derived.OrdersHeld
import Derived.Deep.RegionHeld3
import Derived.Laws.IdiomCopy
import Derived.ChangeKeysEq
import Derived.Laws.BitsAllLaws
import Derived.Deep.DeepCutAuto
import Derived.Deep.CutRange
import Derived.Shelf.SlSortCmp.WholeK
import Derived.Shelf.SlSortCmp.NoneTotal
import Derived.Shelf.SlicesG.Cmp
import Derived.Shelf.SlGeneric
import Derived.Ground.SlsfProg
import Derived.Ground.SlgcProg
import Derived.Maps.OwnSet
import Derived.Lib.SliceRun
import Derived.Deep.RegionLaw
import Derived.Test.YtkjlafpafmihaaaG0ec45aec84f4
import Derived.Test.YtkjlafpafmihaaaG411632d36699
import Derived.Test.YtkjlafpafmihaaaG48f6c12ab48d
import Derived.Test.YtkjlafpafmihaaaG497b255c2441
import Derived.Test.YtkjlafpafmihaaaG4e172fb27d17
import Derived.Test.YtkjlafpafmihaaaG4eaabf97d977
import Derived.Test.YtkjlafpafmihaaaG562c23b89bb4
import Derived.Test.YtkjlafpafmihaaaG570539d87647
import Derived.Test.YtkjlafpafmihaaaG7ff4c8feaa3c
import Derived.Test.YtkjlafpafmihaaaG809794e4b789
import Derived.Test.YtkjlafpafmihaaaG924ec51911fe
import Derived.Test.YtkjlafpafmihaaaGc8683f30ddc5
import Derived.Test.YtkjlafpafmihaaaGc89f12b5a777
import Derived.Test.YtkjlafpafmihaaaGf428e9c8a46a
import Derived.Test.YtkjlafpafmihaaaGfa570c25a005
set_option linter.unusedVariables false
set_option linter.unusedSimpArgs false

namespace Go.Proofs.Ytkjlafpafmihaaa
open Go.ChangeShapes Go.WideShapes Go.RowKit

set_option maxRecDepth 100000 in
set_option maxHeartbeats 1000000 in
theorem Forget_calls (ro ep fr tg rd : Int) (A : Option Addr) (c : Nat) (l : List Ev) (e : Int) (w : World) (h : Rd w w.heap.size 6 A l.length (evCells l)) (hb : l.length * 48 ≤ reachBytes) :
    Calls Try.prog 79 #[.agg #[.int .i64 ro, .int .i64 ep, .int .i64 fr, .int .i64 tg, .int .i64 rd, .slice A l.length c], .int .i64 e] w (BrtPost w (forgetM ⟨ro, ep, fr, tg, rd, l⟩ e)) := by
 have S := (St.start w).addRd h; clear h
 have hb2 := hb
 unfold reachBytes at hb2
 refine fnw 28 Try.func79 ?_
 refine cw [0, 1] ?_
 refine x_sr (nb (row := #[.int .i64 ro, .int .i64 ep, .int .i64 fr, .int .i64 tg, .int .i64 rd, .slice A l.length c]) S ?_); intro b1 w2 S3; clear S
 refine naB S3 Try.zeroValue108 ?_; intro b4 w5 S6; clear S3
 refine va ?_
 refine qk [1, 2, 4, 5] ?_
 refine x_tssr (vv (ylr 1 S6 Try.underlying108 inf108) ?_)
 refine cab en76 S6 (BCheck_calls ro ep fr tg rd A c l _ (St.rd 2 S6 rfl) (by omega)) ?_; intro w7 S8; clear S6
 refine va ?_
 refine qk [1, 2, 4, 5, 6] ?_
 refine x_tbsr (vm ?_)
 by_cases h10 : brtFault ⟨ro, ep, fr, tg, rd, l⟩ = 0
 ·have hsh := (bf_zero h10).1
  unfold shapeB at hsh
  have hln := tellM_len (bf_zero h10).2
  dsimp only at hsh hln
  refine vv (yneqF h10) ?_
  refine va ?_
  refine qk [1, 2, 4, 5, 6, 9] ?_
  refine x_tnsr (vv (yfa 0 fa108_0) ?_)
  refine vv (ylc 1 S8 Try.underlying3) ?_
  by_cases h11 : ro = 3
  ·refine vv (yneqF h11) ?_
   refine va ?_
   refine qk [1, 2, 4, 5, 14] ?_
   refine x_tnsr (vm ?_)
   refine vv (yfa 1 fa108_1) ?_
   refine vv (ylc 1 S8 Try.underlying3) ?_
   by_cases h12 : e ≤ ep
   ·refine vv (yleqT h12) ?_
    refine va ?_
    refine qk [2, 4, 5, 19] ?_
    refine x_tysr (vv yzB ?_)
    refine sa 0 S8 inf108 ?_; intro w13 S14; clear S8
    refine va ?_
    refine qk [4, 5] ?_
    refine x_tech (pc 0 S14 Try.underlying108 inf108 ?_)
    have S15 : St _ _ _ [] := S14.dels [2, 1, 0]; clear S14
    rw [show forgetM ⟨ro, ep, fr, tg, rd, l⟩ e = (⟨0, 0, 0, 0, 0, []⟩, 15) from by unfold forgetM; (try dsimp only); exact lfB]
    exact ⟨none, 0, rfl, rdo_nil S15⟩
   ·refine vv (yleqF h12) ?_
    refine va ?_
    refine qk [2, 4, 5, 19] ?_
    refine wQ_then (wC_cond_f rfl (wC_skip (wQ_blk_n (wQ_then (wC_seq (wC_region (vv (yfa 1 fa108_1) ?_)))))))
    refine vv (ylc 1 S8 Try.underlying3) ?_
    refine vv (v := .agg #[.int .i64 0, .int .i64 ep, .int .i64 0, .int .i64 0, .int .i64 0, .slice none 0 0]) (y_build (vs := [(1, .int .i64 ep)]) rfl ⟨rfl, rfl, trivial⟩ (by kernel_rfl)) ?_
    refine sa 0 S8 inf108 ?_; intro w16 S17; clear S8
    refine va ?_
    refine qk [4, 5] ?_
    refine x_te (pc 0 S17 Try.underlying108 inf108 ?_)
    have S18 : St _ _ _ [] := S17.dels [2, 1, 0]; clear S17
    rw [show forgetM ⟨ro, ep, fr, tg, rd, l⟩ e = (⟨0, ep, 0, 0, 0, []⟩, 0) from by unfold forgetM; (try dsimp only); exact lfB]
    exact ⟨none, 0, rfl, rdo_nil S18⟩
  ·refine vv (yneqT h11) ?_
   refine va ?_
   refine qk [1, 2, 4, 5, 14] ?_
   refine x_tysr (vv yzB ?_)
   refine sa 0 S8 inf108 ?_; intro w19 S20; clear S8
   refine va ?_
   refine qk [4, 5] ?_
   refine x_tech (pc 0 S20 Try.underlying108 inf108 ?_)
   have S21 : St _ _ _ [] := S20.dels [2, 1, 0]; clear S20
   rw [show forgetM ⟨ro, ep, fr, tg, rd, l⟩ e = (⟨0, 0, 0, 0, 0, []⟩, 7) from by unfold forgetM; (try dsimp only); exact lfB]
   exact ⟨none, 0, rfl, rdo_nil S21⟩
 ·refine vv (yneqT h10) ?_
  refine va ?_
  refine qk [1, 2, 4, 5, 6, 9] ?_
  refine x_tysr (vv yzB ?_)
  refine vm ?_
  refine sa 0 S8 inf108 ?_; intro w22 S23; clear S8
  refine va ?_
  refine qk [4, 5] ?_
  refine x_tech (pc 0 S23 Try.underlying108 inf108 ?_)
  have S24 : St _ _ _ [] := S23.dels [2, 1, 0]; clear S23
  rw [show forgetM ⟨ro, ep, fr, tg, rd, l⟩ e = (⟨0, 0, 0, 0, 0, []⟩, brtFault ⟨ro, ep, fr, tg, rd, l⟩) from by unfold forgetM; (try dsimp only); exact lfB]
  exact ⟨none, 0, rfl, rdo_nil S24⟩
end Go.Proofs.Ytkjlafpafmihaaa

namespace Go.Proofs.Ytkjlafpafmihaaa
open Go.ChangeShapes Go.WideShapes Go.RowKit

set_option maxRecDepth 100000 in
set_option maxHeartbeats 1000000 in
theorem Begun_calls (ro ep fr tg rd : Int) (A : Option Addr) (c : Nat) (l : List Ev) (e f : Int) (w : World) (h : Rd w w.heap.size 6 A l.length (evCells l)) (hb : l.length * 48 ≤ reachBytes) :
    Calls Try.prog 89 #[.agg #[.int .i64 ro, .int .i64 ep, .int .i64 fr, .int .i64 tg, .int .i64 rd, .slice A l.length c], .int .i64 e, .int .i64 f] w (BrtPost w (beginM ⟨ro, ep, fr, tg, rd, l⟩ e f)) := by
 have S := (St.start w).addRd h; clear h
 have hb2 := hb
 unfold reachBytes at hb2
 refine fnw 53 Try.func89 ?_
 refine cw [0, 1, 2] ?_
 refine x_sr (nb (row := #[.int .i64 ro, .int .i64 ep, .int .i64 fr, .int .i64 tg, .int .i64 rd, .slice A l.length c]) S ?_); intro b1 w2 S3; clear S
 refine naB S3 Try.zeroValue108 ?_; intro b4 w5 S6; clear S3
 refine va ?_
 refine qk [1, 2, 3, 6, 7] ?_
 refine x_tsr (vv (ylr 1 S6 Try.underlying108 inf108) ?_)
 refine cab en78 S6 (BerthFault_calls ro ep fr tg rd A c l _ (St.rd 2 S6 rfl) (by omega)) ?_; intro w7 S8; clear S6
 refine va ?_
 refine qk [1, 2, 3, 6, 7, 8] ?_
 refine x_tssr (vm ?_)
 by_cases h10 : brtFault ⟨ro, ep, fr, tg, rd, l⟩ = 0
 ·have hsh := (bf_zero h10).1
  unfold shapeB at hsh
  have hln := tellM_len (bf_zero h10).2
  dsimp only at hsh hln
  refine vv (yneqF h10) ?_
  refine qk [1, 2, 3, 6, 7, 8, 12] ?_
  refine x_tnktssr (vm ?_)
  by_cases hp11 : 1 ≤ e ∧ e ≤ 1048576
  ·refine cal en107 (In_t hp11 _) ?_
   rintro _ w12 ⟨rfl, rfl⟩
   refine ⟨_, rfl, ?_⟩
   refine vv (v := .bool false) yno ?_
   refine vm ?_
   refine vg ym ?_
   by_cases hp13 : 0 ≤ f ∧ f ≤ 4
   ·refine calg en107 (In_t hp13 _) ?_
    rintro _ w14 ⟨rfl, rfl⟩
    refine ⟨_, rfl, ?_⟩
    refine vg (v := .bool false) yno ?_
    refine vv ypF ?_
    refine qk [1, 2, 3, 6, 7, 22] ?_
    refine x_tnktssr (vv (yfa 0 fa108_0) ?_)
    refine vv (ylc 1 S8 Try.underlying3) ?_
    by_cases hp15 : 1 ≤ ro ∧ ro ≤ 3
    ·refine cal en107 (In_t hp15 _) ?_
     rintro _ w16 ⟨rfl, rfl⟩
     refine ⟨_, rfl, ?_⟩
     refine qk [1, 2, 3, 6, 7, 26] ?_
     refine x_tysr (vv yzB ?_)
     refine sa 0 S8 inf108 ?_; intro w17 S18; clear S8
     refine va ?_
     refine qk [6, 7] ?_
     refine x_teh (pc 0 S18 Try.underlying108 inf108 ?_)
     have S19 : St _ _ _ [] := S18.dels [2, 1, 0]; clear S18
     rw [show beginM ⟨ro, ep, fr, tg, rd, l⟩ e f = (⟨0, 0, 0, 0, 0, []⟩, 8) from by unfold beginM; (try dsimp only); exact lfB]
     exact ⟨none, 0, rfl, rdo_nil S19⟩
    ·refine cal en107 (In_f hp15 _) ?_
     rintro _ w20 ⟨rfl, rfl⟩
     refine ⟨_, rfl, ?_⟩
     refine qk [1, 2, 3, 6, 7, 26] ?_
     refine x_tnktssr (vm ?_)
     refine vv (yfa 1 fa108_1) ?_
     refine vv (ylc 1 S8 Try.underlying3) ?_
     by_cases h21 : ep < e
     ·refine vv (ygtrT h21) ?_
      refine qk [1, 2, 3, 6, 7, 31] ?_
      refine x_tysr (vm ?_)
      refine vm ?_
      refine vv (v := .agg #[.int .i64 4, .int .i64 e, .int .i64 f, .int .i64 0, .int .i64 0, .slice none 0 0]) (y_build (vs := [(0, .int .i64 4), (1, .int .i64 e), (2, .int .i64 f)]) rfl ⟨rfl, rfl, rfl, rfl, rfl, rfl, trivial⟩ (by kernel_rfl)) ?_
      refine sa 0 S8 inf108 ?_; intro w22 S23; clear S8
      refine va ?_
      refine qk [6, 7] ?_
      refine x_teh (pc 0 S23 Try.underlying108 inf108 ?_)
      have S24 : St _ _ _ [] := S23.dels [2, 1, 0]; clear S23
      rw [show beginM ⟨ro, ep, fr, tg, rd, l⟩ e f = (⟨4, e, f, 0, 0, []⟩, 0) from by unfold beginM; (try dsimp only); exact lfB]
      exact ⟨none, 0, rfl, rdo_nil S24⟩
     ·refine vv (ygtrF h21) ?_
      refine qk [1, 2, 3, 6, 7, 31] ?_
      refine x_tnktssr (vv (yfa 0 fa108_0) ?_)
      refine vv (ylc 1 S8 Try.underlying3) ?_
      by_cases h25 : ro = 4
      ·refine vv (yeqlT h25) ?_
       refine vm ?_
       refine vg ym ?_
       refine vg (yfa 1 fa108_1) ?_
       refine vg (ylc 1 S8 Try.underlying3) ?_
       by_cases h26 : e = ep
       ·refine vg (yeqlT h26) ?_
        refine vv ypT ?_
        refine vm ?_
        refine vg ym ?_
        refine vg (yfa 2 fa108_2) ?_
        refine vg (ylc 1 S8 Try.underlying3) ?_
        by_cases h27 : f = fr
        ·refine vg (yeqlT h27) ?_
         refine vv ypT ?_
         refine qk [3, 6, 7, 49] ?_
         refine x_tysr (vv (ylr 1 S8 Try.underlying108 inf108) ?_)
         refine cal en156 (BerthCopy_calls ro ep fr tg rd A c l _ (St.rd 2 S8 rfl) hb) ?_
         rintro _ w30 ⟨A28, c29, rfl, T32⟩
         refine ⟨_, rfl, ?_⟩
         have S31 := S8.ext T32 rfl; clear T32 S8
         change St _ _ _ [.own 37 6 (.slice A28 l.length c29) l.length ((l).flatMap Ev.cells), _, _, _] at S31
         refine sa 1 S31 inf108 ?_; intro w33 S34; clear S31
         refine va ?_
         refine qk [6, 7] ?_
         refine x_teh (pc 1 S34 Try.underlying108 inf108 ?_)
         have S35 : St _ _ _ [_] := S34.dels [3, 2, 1]; clear S34
         have S36 := S35.sealAll 0 rfl; clear S35
         change St _ _ _ [.rdo 6 A28 l.length ((l).flatMap Ev.cells)] at S36
         rw [show beginM ⟨ro, ep, fr, tg, rd, l⟩ e f = (⟨ro, ep, fr, tg, rd, l⟩, 0) from by unfold beginM; (try dsimp only); exact lfB]
         exact ⟨A28, c29, rfl, S36⟩
        ·refine vg (yeqlF h27) ?_
         refine vv ypT ?_
         refine qk [3, 6, 7, 49] ?_
         refine x_tnktsr (vv yzB ?_)
         refine sa 0 S8 inf108 ?_; intro w37 S38; clear S8
         refine va ?_
         refine qk [6, 7] ?_
         refine x_te (pc 0 S38 Try.underlying108 inf108 ?_)
         have S39 : St _ _ _ [] := S38.dels [2, 1, 0]; clear S38
         rw [show beginM ⟨ro, ep, fr, tg, rd, l⟩ e f = (⟨0, 0, 0, 0, 0, []⟩, 15) from by unfold beginM; (try dsimp only); exact lfB]
         exact ⟨none, 0, rfl, rdo_nil S39⟩
       ·refine vg (yeqlF h26) ?_
        refine vv ypT ?_
        refine vm ?_
        iterate 4 refine vs ?_
        refine vv ypF ?_
        refine qk [3, 6, 7, 49] ?_
        refine x_tnktsr (vv yzB ?_)
        refine sa 0 S8 inf108 ?_; intro w40 S41; clear S8
        refine va ?_
        refine qk [6, 7] ?_
        refine x_te (pc 0 S41 Try.underlying108 inf108 ?_)
        have S42 : St _ _ _ [] := S41.dels [2, 1, 0]; clear S41
        rw [show beginM ⟨ro, ep, fr, tg, rd, l⟩ e f = (⟨0, 0, 0, 0, 0, []⟩, 15) from by unfold beginM; (try dsimp only); exact lfB]
        exact ⟨none, 0, rfl, rdo_nil S42⟩
      ·refine vv (yeqlF h25) ?_
       refine vm ?_
       iterate 4 refine vs ?_
       refine vv ypF ?_
       refine vm ?_
       iterate 4 refine vs ?_
       refine vv ypF ?_
       refine qk [3, 6, 7, 49] ?_
       refine x_tnktsr (vv yzB ?_)
       refine sa 0 S8 inf108 ?_; intro w43 S44; clear S8
       refine va ?_
       refine qk [6, 7] ?_
       refine x_te (pc 0 S44 Try.underlying108 inf108 ?_)
       have S45 : St _ _ _ [] := S44.dels [2, 1, 0]; clear S44
       rw [show beginM ⟨ro, ep, fr, tg, rd, l⟩ e f = (⟨0, 0, 0, 0, 0, []⟩, 15) from by unfold beginM; (try dsimp only); exact lfB]
       exact ⟨none, 0, rfl, rdo_nil S45⟩
   ·refine calg en107 (In_f hp13 _) ?_
    rintro _ w46 ⟨rfl, rfl⟩
    refine ⟨_, rfl, ?_⟩
    refine vg (v := .bool true) yno ?_
    refine vv ypF ?_
    refine qk [1, 2, 3, 6, 7, 22] ?_
    refine x_tysr (vv yzB ?_)
    refine sa 0 S8 inf108 ?_; intro w47 S48; clear S8
    refine va ?_
    refine qk [6, 7] ?_
    refine x_teh (pc 0 S48 Try.underlying108 inf108 ?_)
    have S49 : St _ _ _ [] := S48.dels [2, 1, 0]; clear S48
    rw [show beginM ⟨ro, ep, fr, tg, rd, l⟩ e f = (⟨0, 0, 0, 0, 0, []⟩, 2) from by unfold beginM; (try dsimp only); exact lfB]
    exact ⟨none, 0, rfl, rdo_nil S49⟩
  ·refine cal en107 (In_f hp11 _) ?_
   rintro _ w50 ⟨rfl, rfl⟩
   refine ⟨_, rfl, ?_⟩
   refine vv (v := .bool true) yno ?_
   refine vm ?_
   iterate 3 refine vs ?_
   refine vv ypT ?_
   refine qk [1, 2, 3, 6, 7, 22] ?_
   refine x_tysr (vv yzB ?_)
   refine sa 0 S8 inf108 ?_; intro w51 S52; clear S8
   refine va ?_
   refine qk [6, 7] ?_
   refine x_teh (pc 0 S52 Try.underlying108 inf108 ?_)
   have S53 : St _ _ _ [] := S52.dels [2, 1, 0]; clear S52
   rw [show beginM ⟨ro, ep, fr, tg, rd, l⟩ e f = (⟨0, 0, 0, 0, 0, []⟩, 2) from by unfold beginM; (try dsimp only); exact lfB]
   exact ⟨none, 0, rfl, rdo_nil S53⟩
 ·refine vv (yneqT h10) ?_
  refine qk [1, 2, 3, 6, 7, 8, 12] ?_
  refine x_tysr (vv yzB ?_)
  refine vm ?_
  refine sa 0 S8 inf108 ?_; intro w54 S55; clear S8
  refine va ?_
  refine qk [6, 7] ?_
  refine x_teh (pc 0 S55 Try.underlying108 inf108 ?_)
  have S56 : St _ _ _ [] := S55.dels [2, 1, 0]; clear S55
  rw [show beginM ⟨ro, ep, fr, tg, rd, l⟩ e f = (⟨0, 0, 0, 0, 0, []⟩, brtFault ⟨ro, ep, fr, tg, rd, l⟩) from by unfold beginM; (try dsimp only); exact lfB]
  exact ⟨none, 0, rfl, rdo_nil S56⟩

end Go.Proofs.Ytkjlafpafmihaaa

namespace Go.Proofs.Ytkjlafpafmihaaa
open Go.ChangeShapes Go.WideShapes Go.RowKit

def impNew (b : Brt) (ep : Int) (d : Nat) (l : List Ev) (last : Bool) : Brt := if last = true then ⟨1, ep, 0, 0, 0, b.evs ++ l.drop d ++ [brkEv]⟩ else { b with evs := b.evs ++ l.drop d }
theorem impNew_t {b : Brt} {ep : Int} {d : Nat} {l : List Ev} : impNew b ep d l true = ⟨1, ep, 0, 0, 0, b.evs ++ l.drop d ++ [brkEv]⟩ := rfl
theorem impNew_f {b : Brt} {ep : Int} {d : Nat} {l : List Ev} : impNew b ep d l false = { b with evs := b.evs ++ l.drop d } := rfl
theorem imp_go {b : Brt} {ep : Int} {k : Nat} {K : List Ev} {last : Bool} (h : brtFault b = 0) (hr : b.role = 4) (he : b.ep = ep) (hk : k ≤ b.evs.length) : importM b ep k K last =
    if ¬ (b.evs.drop k).take K.length = K.take (b.evs.length - k) then (zeroB, 3) else if last = true ∧ k + K.length < b.evs.length then (zeroB, 3)
    else if brtFault (impNew b ep (b.evs.length - k) K last) ≠ 0 then (zeroB, 3) else (impNew b ep (b.evs.length - k) K last, 0) := by
  unfold importM impNew
  rw [if_neg (fun h1 => h1 h), if_neg (fun h1 => h1 hr), if_neg (fun h1 => h1 he), if_neg (by omega), Int.toNat_natCast]
section
variable {l K : List Ev} {k d p i : Nat}
theorem imp_iff (hd : l.length = k + d) (hp : min d K.length = p) : ((l.drop k).take K.length = K.take d) ↔ ((l.drop k).take p = K.take p) := by
  have e1 : (l.drop k).take K.length = (l.drop k).take p := by rw [List.take_eq_take_iff, List.length_drop]; omega
  have e2 : K.take d = K.take p := by rw [List.take_eq_take_iff]; omega
  rw [e1, e2]
theorem imp_drop (hp : min d K.length = p) : K.drop p = K.drop d := by
  rcases Nat.le_total d K.length with h | h
  · rw [show p = d by omega]
  · rw [List.drop_eq_nil_of_le h, List.drop_eq_nil_of_le (by omega)]
end
theorem evneq_f {a b : Ev} (h : a = b) (w : World) : (binOp .neq 37 (.agg #[.int .i64 a.kind, .int .i64 a.producer, .int .i64 a.id, .int .i64 a.body, .int .i64 a.hepoch, .int .i64 a.hno])
    (.agg #[.int .i64 b.kind, .int .i64 b.producer, .int .i64 b.id, .int .i64 b.body, .int .i64 b.hepoch, .int .i64 b.hno])).run Try.prog w = .ok (.bool false) w := by
  rw [run_neq_ev, decide_eq_true h]; rfl
theorem evneq_t {a b : Ev} (h : ¬ a = b) (w : World) : (binOp .neq 37 (.agg #[.int .i64 a.kind, .int .i64 a.producer, .int .i64 a.id, .int .i64 a.body, .int .i64 a.hepoch, .int .i64 a.hno])
    (.agg #[.int .i64 b.kind, .int .i64 b.producer, .int .i64 b.id, .int .i64 b.body, .int .i64 b.hepoch, .int .i64 b.hno])).run Try.prog w = .ok (.bool true) w := by
  rw [run_neq_ev, decide_eq_false h]; rfl
theorem evs_ne {x y : List Ev} {k : Nat} {a b : Ev} (ha : x[k]? = some a) (hb : y[k]? = some b) (h : ¬ a = b) : ¬ x = y := fun e => by
  rw [e, hb] at ha
  injection ha with h1
  exact h h1.symm

set_option maxRecDepth 100000 in
set_option maxHeartbeats 1000000 in
theorem EqualE_calls (A A' : Option Addr) (c c' n : Nat) (xs ys : List Ev) (w : World) (h : Rd w w.heap.size 6 A n (evCells xs)) (h' : Rd w w.heap.size 6 A' n (evCells ys)) (hx : xs.length = n) (hy : ys.length = n) (hn : n ≤ 1152921504606846976) :
    Calls Try.prog 162 #[.slice A n c, .slice A' n c'] w (BoolB w (decide (xs = ys))) := by
 have S := ((St.start w).addRd h').addRd h; clear h h'
 refine fnw 26 Try.func162 ?_
 refine cw [0, 1] ?_
 refine x_sr (va ?_)
 refine wL_nil (wQ_then (wC_seq (wC_seq (wC_region (vm ?_)))))
 refine vv (v := .int .i64 ((n : Nat) : Int)) (y_builtin (vs := [.slice A n c]) rfl ⟨rfl, trivial⟩ fun _ => r_len rfl Try.underlying57) ?_
 refine vm ?_
 refine vv (v := .int .i64 ((n : Nat) : Int)) (y_builtin (vs := [.slice A' n c']) rfl ⟨rfl, trivial⟩ fun _ => r_len rfl Try.underlying57) ?_
 refine vv (yneqF rfl) ?_
 refine qk [0, 1, 4, 10] ?_
 refine x_tnktssr (vm ?_)
 refine vv (v := .int .i64 ((n : Nat) : Int)) (y_builtin (vs := [.slice A n c]) rfl ⟨rfl, trivial⟩ fun _ => r_len rfl Try.underlying57) ?_
 refine vm ?_
 refine qk [0, 1, 4, 12, 13] ?_
 refine wQ_then (wC_block (wC_loop (X := Nat) (fun xv => [(0, .slice A n c), (1, .slice A' n c'), (4, .bool false), (12, .int .i64 ((n : Nat) : Int)), (13, .int .i64 ((xv : Nat) : Int))]) (fun xv wr => (xv ≤ n) ∧ (xs.take xv = ys.take xv) ∧ St w.heap.size w wr [.rd 6 A n ((xs).flatMap Ev.cells), .rd 6 A' n ((ys).flatMap Ev.cells)]) (fun xv => n - xv) (0) ?_ ?_ ?_))
 ·exact ⟨Nat.zero_le _, rfl, S⟩
 ·exact ⟨rfl, rfl, rfl, rfl, rfl, trivial⟩
 ·rintro k w1 ⟨hi3, hi4, S2⟩
  try dsimp only at hi3 hi4 S2; clear S
  refine cw [0, 1, 4, 12, 13] ?_
  refine x_sr ?_
  by_cases h5 : ((k : Nat) : Int) < ((n : Nat) : Int)
  ·refine vv (ylssT h5) ?_
   refine wL_nil (wQ_then (wC_seq (wC_cond_t rfl (wC_skip (wQ_then (wC_seq (wC_block (wC_seq (wC_region (vm ?_))))))))))
   refine va ?_
   refine qk [0, 1, 4, 12, 13, 5] ?_
   refine wQ_then (wC_seq (wC_quiet S2 mixed (by kernel_rfl) ?_))
   refine uv (v := .slice A n c) (fun _ _ => ym) ?_
   refine uv (v := .int .i64 ((k : Nat) : Int)) (fun _ _ => ym) ?_
   obtain ⟨b8, o9, rfl⟩ := Rd.addr (St.rd 0 S2 rfl) (by omega)
   obtain ⟨x10, hx11⟩ := elm k (St.rd 0 S2 rfl) (by omega)
   refine uv (v := .pointer (some ⟨b8, o9 + k * 6, none⟩)) (fun _ _ => (y_indexAddr rfl rfl rfl (r_indexAddr k Try.underlying57 inf37 (by omega) (by omega)))) ?_
   refine uv (v := .agg #[.int .i64 x10.kind, .int .i64 x10.producer, .int .i64 x10.id, .int .i64 x10.body, .int .i64 x10.hepoch, .int .i64 x10.hno]) (fun _ Sx13 => (y_load rfl rfl (r_load_agg (cs := Ev.cells x10) Try.underlying37 rfl inf37 rfl (Rd.rg2 (St.rd 0 Sx13 rfl) (fun _ _ h => fm_get (enc := Ev.cells) (sz := 6) (fun _ => rfl) hx11 h))))) ?_
   refine uv (v := .slice A' n c') (fun _ _ => ym) ?_
   refine uv (v := .int .i64 ((k : Nat) : Int)) (fun _ _ => ym) ?_
   obtain ⟨b16, o17, rfl⟩ := Rd.addr (St.rd 1 S2 rfl) (by omega)
   obtain ⟨x18, hx19⟩ := elm k (St.rd 1 S2 rfl) (by omega)
   refine uv (v := .pointer (some ⟨b16, o17 + k * 6, none⟩)) (fun _ _ => (y_indexAddr rfl rfl rfl (r_indexAddr k Try.underlying57 inf37 (by omega) (by omega)))) ?_
   refine uv (v := .agg #[.int .i64 x18.kind, .int .i64 x18.producer, .int .i64 x18.id, .int .i64 x18.body, .int .i64 x18.hepoch, .int .i64 x18.hno]) (fun _ Sx21 => (y_load rfl rfl (r_load_agg (cs := Ev.cells x18) Try.underlying37 rfl inf37 rfl (Rd.rg2 (St.rd 1 Sx21 rfl) (fun _ _ h => fm_get (enc := Ev.cells) (sz := 6) (fun _ => rfl) hx19 h))))) ?_
   by_cases hev : x10 = x18
   ·refine uv (v := .bool false) (fun _ _ => (y_binop rfl rfl rfl (r_eqg (by kernel_rfl) (evneq_f hev _)))) ?_
    refine wU_nil fun w23 S24 => ?_; clear S2
    refine pk [0, 1, 4, 12, 13, 24] ?_
    refine wQ_then (wC_cond_f rfl (wC_skip (wQ_blk_n (wQ_then (wC_region (vv (v := .int .i64 ((k + 1 : Nat) : Int)) (y_binop rfl rfl rfl (r_add (by omega) (by omega))) ?_))))))
    refine vm ?_
    refine qk [0, 1, 4, 12, 13] ?_
    refine wQ_round (k + 1) ?_ ⟨rfl, rfl, rfl, rfl, rfl, trivial⟩ (by first | omega | (dsimp only; omega))
    exact ⟨(by omega), (by rw [List.take_add_one, List.take_add_one, hi4, hx11, hx19, hev]), S24⟩
   ·refine uv (v := .bool true) (fun _ _ => (y_binop rfl rfl rfl (r_eqg (by kernel_rfl) (evneq_t hev _)))) ?_
    refine wU_nil fun w26 S27 => ?_; clear S2
    refine pk [0, 1, 4, 12, 13, 24] ?_
    refine x_tysr (va ?_)
    refine qk [4] ?_
    refine wQ_then (wC_ret (wQ_blk_ret (wQ_then_ret (wQ_then_ret (wQ_blk_ret (wQ_then_ret (pt ?_)))))))
    exact ⟨congrArg (fun b => Ending.returned (.bool b)) (decide_eq_false (evs_ne hx11 hx19 hev)).symm, S27.low⟩
  ·refine vv (ylssF h5) ?_
   refine wL_nil (wQ_then (wC_seq (wC_cond_f rfl (wC_exit (wQ_then_exit (wQ_then_exit (wQ_blk_same (wQ_then (wC_seq (wC_region (va ?_)))))))))))
   refine qk [4] ?_
   refine x_te (pt ?_)
   obtain rfl : n = k := by omega
   have he : xs = ys := by rw [← List.take_of_length_le (Nat.le_of_eq hx), ← List.take_of_length_le (l := ys) (Nat.le_of_eq hy)]; exact hi4
   exact ⟨congrArg (fun b => Ending.returned (.bool b)) (decide_eq_true he).symm, S2.low⟩

set_option maxRecDepth 100000 in
set_option maxHeartbeats 4000000 in
theorem Import_calls (ro ep fr tg rd : Int) (A : Option Addr) (c : Nat) (l : List Ev) (e at_ : Int) (A2 : Option Addr) (c2 : Nat) (K : List Ev) (last : Bool) (hlc : l.length ≤ c) (hkc : K.length ≤ c2) (w : World) (hK : Rd w w.heap.size 6 A2 K.length (evCells K)) (h : Rd w w.heap.size 6 A l.length (evCells l)) (hb : l.length * 48 ≤ reachBytes) (hbK : (K.length + 2001) * 48 ≤ reachBytes) :
    Calls Try.prog 96 #[.agg #[.int .i64 ro, .int .i64 ep, .int .i64 fr, .int .i64 tg, .int .i64 rd, .slice A l.length c], .int .i64 e, .int .i64 at_, .slice A2 K.length c2, .bool last] w (BrtPost w (importM ⟨ro, ep, fr, tg, rd, l⟩ e at_ K last)) := by
 have S := ((St.start w).addRd hK).addRd h; clear h hK
 have hb2 := hb
 unfold reachBytes at hb2
 refine fnw 101 Try.func96 ?_
 refine cw [0, 1, 2, 3, 4] ?_
 refine x_sr (nb (row := #[.int .i64 ro, .int .i64 ep, .int .i64 fr, .int .i64 tg, .int .i64 rd, .slice A l.length c]) S ?_); intro b1 w2 S3; clear S
 refine naB S3 Try.zeroValue108 ?_; intro b4 w5 S6; clear S3
 refine va ?_
 refine qk [1, 2, 3, 4, 5, 10, 11] ?_
 refine x_tssr (vv (ylr 1 S6 Try.underlying108 inf108) ?_)
 refine cab en76 S6 (BCheck_calls ro ep fr tg rd A c l _ (St.rd 2 S6 rfl) (by omega)) ?_; intro w7 S8; clear S6
 refine va ?_
 refine qk [1, 2, 3, 4, 5, 10, 11, 12] ?_
 refine x_tbsr (vm ?_)
 by_cases h10 : brtFault ⟨ro, ep, fr, tg, rd, l⟩ = 0
 ·have hsh := (bf_zero h10).1
  unfold shapeB at hsh
  have hln := tellM_len (bf_zero h10).2
  dsimp only at hsh hln
  refine vv (yneqF h10) ?_
  refine va ?_
  refine qk [1, 2, 3, 4, 5, 10, 11, 12, 17] ?_
  refine x_tnsr (vv (yfa 0 fa108_0) ?_)
  refine vv (ylc 1 S8 Try.underlying3) ?_
  by_cases h11 : ro = 4
  ·refine vv (yneqF h11) ?_
   refine va ?_
   refine qk [1, 2, 3, 4, 5, 10, 11, 22] ?_
   refine x_tnsr (vv (yfa 1 fa108_1) ?_)
   refine vv (ylc 1 S8 Try.underlying3) ?_
   refine vm ?_
   by_cases h12 : ep = e
   ·refine vv (yneqF h12) ?_
    refine va ?_
    refine qk [1, 2, 3, 4, 5, 10, 11, 27] ?_
    refine x_tnsr (vm ?_)
    by_cases h13 : at_ < 0
    ·refine vv (ylssT h13) ?_
     refine vm ?_
     iterate 5 refine vs ?_
     refine vv ypT ?_
     refine va ?_
     refine qk [1, 2, 3, 4, 5, 10, 11, 33] ?_
     refine x_tysr (vv yzB ?_)
     refine sa 0 S8 inf108 ?_; intro w14 S15; clear S8
     refine va ?_
     refine qk [10, 11] ?_
     refine x_tech (pc 0 S15 Try.underlying108 inf108 ?_)
     have S16 : St _ _ _ [] := S15.dels [3, 2, 1, 0]; clear S15
     rw [show importM ⟨ro, ep, fr, tg, rd, l⟩ e at_ K last = (zeroB, 2) from by unfold importM; (try dsimp only); exact lfB]
     exact ⟨none, 0, rfl, rdo_nil S16⟩
    ·refine vv (ylssF h13) ?_
     refine vm ?_
     refine vg ym ?_
     refine vg (yfa 5 fa108_5) ?_
     refine vg (ylc 1 S8 Try.underlying57) ?_
     refine vg (v := .int .i64 ((l.length : Nat) : Int)) (y_builtin (vs := [.slice A l.length c]) rfl ⟨rfl, trivial⟩ fun _ => r_len rfl Try.underlying57) ?_
     by_cases h17 : ((l.length : Nat) : Int) < at_
     ·refine vg (ygtrT h17) ?_
      refine vv ypF ?_
      refine va ?_
      refine qk [1, 2, 3, 4, 5, 10, 11, 33] ?_
      refine x_tysr (vv yzB ?_)
      refine sa 0 S8 inf108 ?_; intro w18 S19; clear S8
      refine va ?_
      refine qk [10, 11] ?_
      refine x_tech (pc 0 S19 Try.underlying108 inf108 ?_)
      have S20 : St _ _ _ [] := S19.dels [3, 2, 1, 0]; clear S19
      rw [show importM ⟨ro, ep, fr, tg, rd, l⟩ e at_ K last = (zeroB, 2) from by unfold importM; (try dsimp only); exact lfB]
      exact ⟨none, 0, rfl, rdo_nil S20⟩
     ·refine vg (ygtrF h17) ?_
      refine vv ypF ?_
      refine va ?_
      refine qk [1, 2, 3, 4, 5, 10, 11, 33] ?_
      refine wQ_then (wC_cond_f rfl (wC_skip (wQ_blk_n (wQ_then (wC_seq ?_)))))
      obtain rfl : ro = 4 := by omega
      obtain rfl : tg = 0 := by omega
      obtain rfl : rd = 0 := by omega
      obtain rfl : e = ep := by omega
      clear hsh
      have hbL : (l.length + K.length + 1) * 48 ≤ reachBytes := Nat.le_trans (Nat.mul_le_mul_right 48 (by omega)) hbK
      have hb3 := hbL
      unfold reachBytes at hb3
      obtain ⟨k, rfl⟩ : ∃ k : Nat, at_ = k := ⟨at_.toNat, by omega⟩
      obtain ⟨d, hd⟩ : ∃ d, l.length = k + d := ⟨l.length - k, by omega⟩
      obtain ⟨p, hp⟩ : ∃ p, min d K.length = p := ⟨_, rfl⟩
      have hqm := Lib.hid (imp_iff (l := l) (K := K) hd hp)
      refine wC_region (vv (yfa 5 fa108_5) ?_)
      refine vv (ylc 1 S8 Try.underlying57) ?_
      refine vv (v := .int .i64 ((l.length : Nat) : Int)) (y_builtin (vs := [.slice A l.length c]) rfl ⟨rfl, trivial⟩ fun _ => r_len rfl Try.underlying57) ?_
      refine vm ?_
      refine vv (v := .int .i64 ((d : Nat) : Int)) (y_binop rfl rfl rfl (r_sub (by omega) (by omega))) ?_
      refine vm ?_
      refine vv (v := .int .i64 ((K.length : Nat) : Int)) (y_builtin (vs := [.slice A2 K.length c2]) rfl ⟨rfl, trivial⟩ fun _ => r_len rfl Try.underlying57) ?_
      refine vv (v := .int .i64 ((p : Nat) : Int)) (y_builtin (vs := [.int .i64 ((d : Nat) : Int), .int .i64 ((K.length : Nat) : Int)]) rfl ⟨rfl, rfl, trivial⟩ fun _ => by rw [r_minN, hp]) ?_
      refine va ?_
      refine qk [1, 2, 3, 4, 5, 10, 11, 13] ?_
      refine wQ_then (wC_seq ?_)
      obtain ⟨A21, hs22, hr23, hk24⟩ := eslice (P := Try.prog) (t := 57) (enc := Ev.cells) (s := 6) (fun _ => rfl) (A := A) (b := l) (n := l.length) (c := c) (lo := (some (.int .i64 ((k : Nat) : Int)))) (hi := (some (.int .i64 ((k + p : Nat) : Int)))) (mx := (some (.int .i64 ((k + p : Nat) : Int)))) (l := k) (k := k + p) (q := k + p) (m := p) (c' := p) Try.underlying57 inf37 (sb_lhm k (k + p) (k + p) rfl rfl rfl (by omega) (by omega) (by omega)) (by omega) (by omega) (by omega) (by omega) (by omega)
      have S25 := S8.addRd (hr23 _ _ (S8.all 2 _ rfl)); clear S8
      change St _ _ _ [.rd 6 A21 p (((l.drop k).take p).flatMap Ev.cells), _, _, _, _] at S25
      obtain ⟨A26, hs27, hr28, hk29⟩ := eslice (P := Try.prog) (t := 57) (enc := Ev.cells) (s := 6) (fun _ => rfl) (A := A2) (b := K) (n := K.length) (c := c2) (lo := none) (hi := (some (.int .i64 ((p : Nat) : Int)))) (mx := (some (.int .i64 ((p : Nat) : Int)))) (l := 0) (k := p) (q := p) (m := p) (c' := p) Try.underlying57 inf37 (sb_hm p p rfl rfl (by omega) (by omega)) (by omega) (by omega) (by omega) (by omega) (by omega)
      have S30 := S25.addRd (hr28 _ _ (S25.all 4 _ rfl)); clear S25
      change St _ _ _ [.rd 6 A26 p (((K.drop 0).take p).flatMap Ev.cells), _, _, _, _, _] at S30
      have S31 := S30; clear S30
      rw [List.drop_zero] at S31
      change St _ _ _ [.rd 6 A26 p ((K.take p).flatMap Ev.cells), _, _, _, _, _] at S31
      refine wC_seq (wC_quiet S31 mixed (by kernel_rfl) ?_)
      refine uv (v := .pointer (some ⟨b1, 5, none⟩)) (fun _ _ => yfa _ fa108_5) ?_
      refine uv (v := .slice A l.length c) (fun _ Sx33 => ylc 3 Sx33 Try.underlying57) ?_
      refine uv (v := .int .i64 ((k : Nat) : Int)) (fun _ _ => ym) ?_
      refine uv (v := .int .i64 ((k : Nat) : Int)) (fun _ _ => ym) ?_
      refine uv (v := .int .i64 ((p : Nat) : Int)) (fun _ _ => ym) ?_
      refine uv (v := .int .i64 ((k + p : Nat) : Int)) (fun _ _ => (y_binop rfl rfl rfl (r_add (by omega) (by omega)))) ?_
      refine uv (v := .int .i64 ((k : Nat) : Int)) (fun _ _ => ym) ?_
      refine uv (v := .int .i64 ((p : Nat) : Int)) (fun _ _ => ym) ?_
      refine uv (v := .int .i64 ((k + p : Nat) : Int)) (fun _ _ => (y_binop rfl rfl rfl (r_add (by omega) (by omega)))) ?_
      refine uv (v := .slice A21 p p) (fun _ _ => (y_slice rfl rfl (evo_s rfl) (evo_s rfl) (evo_s rfl) (hs22 _))) ?_
      refine uv (v := .slice A2 K.length c2) (fun _ _ => ym) ?_
      refine uv (v := .int .i64 ((p : Nat) : Int)) (fun _ _ => ym) ?_
      refine uv (v := .int .i64 ((p : Nat) : Int)) (fun _ _ => ym) ?_
      refine uv (v := .slice A26 p p) (fun _ _ => (y_slice rfl rfl evo_n (evo_s rfl) (evo_s rfl) (hs27 _))) ?_
      have HE := fun (w : World) h h1 => EqualE_calls A21 A26 p p p ((l.drop k).take p) (K.take p) w h h1 (by rw [List.length_take, List.length_drop]; omega) (by rw [List.length_take]; omega) (by omega)
      by_cases hq : (l.drop k).take p = K.take p
      ·rw [decide_eq_true hq] at HE
       refine wU_call (v := .bool true) (wn rfl) rfl rfl (fun _ => (e_call (vs := [.slice A21 p p, .slice A26 p p]) rfl en162 ⟨rfl, rfl, trivial⟩)) (fun _ Sx46 => (HE _ (St.rd 1 Sx46 rfl) (St.rd 0 Sx46 rfl)).mono fun _ _ h => ⟨h.1, Sx46.on h.2⟩) ?_; clear HE
       refine uv (v := .bool false) (fun _ _ => yno) ?_
       refine wU_nil fun w48 S49 => ?_; clear S31
       refine pk [1, 2, 3, 4, 5, 10, 11, 13, 67] ?_
       refine wQ_then (wC_cond_f rfl (wC_skip (wQ_then ?_)))
       have hpd := imp_drop (K := K) hp
       obtain ⟨A50, hs51, hr52, hk53⟩ := eslice (P := Try.prog) (t := 57) (enc := Ev.cells) (s := 6) (fun _ => rfl) (A := A2) (b := K) (n := K.length) (c := c2) (lo := (some (.int .i64 ((p : Nat) : Int)))) (hi := none) (mx := none) (l := p) (k := K.length) (q := c2) (m := (K.drop d).length) (c' := c2 - p) Try.underlying57 inf37 (sb_l p rfl (by omega)) (by omega) (by omega) (by omega) (by rw [List.length_drop]; omega) (by omega)
       have S54 := S49.addRd (hr52 _ _ (S49.all 5 _ rfl)); clear S49
       change St _ _ _ [.rd 6 A50 ((K.drop d).length) (((K.drop p).take ((K.drop d).length)).flatMap Ev.cells), _, _, _, _, _, _] at S54
       have S55 := S54; clear S54
       rw [hpd, List.take_length] at S55
       change St _ _ _ [.rd 6 A50 ((K.drop d).length) ((K.drop d).flatMap Ev.cells), _, _, _, _, _, _] at S55
       have hlk : (l ++ (K.drop d)).length = l.length + (K.length - d) := by simp
       have hw2 : ((l ++ (K.drop d)).length + ([brkEv] : List Ev).length) * 48 ≤ reachBytes := by rw [hlk]; exact Nat.le_trans (Nat.mul_le_mul_right 48 (by simp only [List.length_cons, List.length_nil]; omega)) hbL
       refine wC_cut (X := Nat × (Option Addr) × Nat) (fun xv => [(1, .int .i64 e), (2, .int .i64 ((k : Nat) : Int)), (3, .slice A2 K.length c2), (4, .bool last), (5, .pointer (some ⟨b1, 0, none⟩)), (10, .pointer (some ⟨b4, 0, none⟩)), (11, .int .i64 0), (14, .pointer (some ⟨xv.1, 0, none⟩))]) (fun xv wr => St w.heap.size w wr [.blk xv.1 #[.int .i64 4, .int .i64 e, .int .i64 fr, .int .i64 0, .int .i64 0, .slice xv.2.1 ((l ++ (K.drop d)).length) xv.2.2] 108, .own 37 6 (.slice xv.2.1 ((l ++ (K.drop d)).length) xv.2.2) ((l ++ (K.drop d)).length) ((l ++ (K.drop d)).flatMap Ev.cells), .rd 6 A50 ((K.drop d).length) ((K.drop d).flatMap Ev.cells), .rd 6 A26 p ((K.take p).flatMap Ev.cells), .rd 6 A21 p (((l.drop k).take p).flatMap Ev.cells), .blk b4 #[.int .i64 0, .int .i64 0, .int .i64 0, .int .i64 0, .int .i64 0, .slice none 0 0] 108, .blk b1 #[.int .i64 4, .int .i64 e, .int .i64 fr, .int .i64 0, .int .i64 0, .slice A l.length c] 108, .rd 6 A l.length ((l).flatMap Ev.cells), .rd 6 A2 K.length ((K).flatMap Ev.cells)]) ?_ ?_
       ·have S56 := S55.drew; clear S55
        refine wC_head (C := fun w' => St w.heap.size w w' [.rd 6 A50 ((K.drop d).length) ((K.drop d).flatMap Ev.cells), .rd 6 A26 p ((K.take p).flatMap Ev.cells), .rd 6 A21 p (((l.drop k).take p).flatMap Ev.cells), .blk b4 #[.int .i64 0, .int .i64 0, .int .i64 0, .int .i64 0, .int .i64 0, .slice none 0 0] 108, .blk b1 #[.int .i64 4, .int .i64 e, .int .i64 fr, .int .i64 0, .int .i64 0, .slice A l.length c] 108, .rd 6 A l.length ((l).flatMap Ev.cells), .rd 6 A2 K.length ((K).flatMap Ev.cells)]) (m := 7) (listed := #[false, false, false, false, false, false, false]) 6 mixed rfl rfl ?_
        refine gk (v := .agg #[.int .i64 4, .int .i64 e, .int .i64 fr, .int .i64 0, .int .i64 0, .slice A l.length c]) 0 rfl S56 (fun _ Sx57 => ylr 4 Sx57 Try.underlying108 inf108) ?_
        refine gk (v := .slice A2 K.length c2) 1 rfl S56 (fun _ _ => ym) ?_
        refine gk (v := .int .i64 ((p : Nat) : Int)) 2 rfl S56 (fun _ _ => ym) ?_
        refine gk (v := .slice A50 ((K.drop d).length) (c2 - p)) 3 rfl S56 (fun _ _ => (y_slice rfl rfl (evo_s rfl) evo_n evo_n (hs51 _))) ?_
        refine wG_two (m := 2) (r := 4) (s := 5) (by kernel_rfl) ?_ ?_
        ·refine wH_call (i := 4) rfl rfl (wn rfl) rfl rfl (e_call (vs := [.agg #[.int .i64 4, .int .i64 e, .int .i64 fr, .int .i64 0, .int .i64 0, .slice A l.length c], .slice A50 ((K.drop d).length) (c2 - p)]) rfl en160 ⟨rfl, rfl, trivial⟩) (with_calls 4 e fr 0 0 A c l A50 (c2 - p) (K.drop d) _ (St.rd 5 S56 rfl) (St.rd 0 S56 rfl) (by rw [List.length_drop]; unfold reachBytes; omega)) ?_
         rintro _ w63 ⟨A61, c62, rfl, T65⟩
         refine ⟨_, rfl, ?_⟩
         have S64 := S56.ext T65 rfl; clear T65 S56
         change St _ _ _ [.own 37 6 (.slice A61 ((l ++ (K.drop d)).length) c62) ((l ++ (K.drop d)).length) ((l ++ (K.drop d)).flatMap Ev.cells), _, _, _, _, _, _, _] at S64
         refine ⟨(St.del 0 S64), ?_⟩
         refine wG_one (m := 1) (r := 5) (by kernel_rfl) ?_
         refine wH_new (i := 5) rfl rfl (V := fun b => .pointer (some ⟨b, 0, none⟩)) (row := #[.int .i64 0, .int .i64 0, .int .i64 0, .int .i64 0, .int .i64 0, .slice none 0 0]) (t := 108) S64 (wn rfl) rfl rfl (d_alloc rfl (Try.zeroValue108 _) rfl) ?_; intro b66 w67 S68; clear S64
         refine ⟨(S68.dels [1, 0]), ?_⟩
         refine wG_tail (by kernel_rfl) rfl rfl rfl ?_
         refine sa 0 S68 inf108 ?_; intro w69 S70; clear S68
         refine wL_nil (wQ_np ?_)
         refine pk [1, 2, 3, 4, 5, 10, 11, 14] ?_
         refine wQ_cut (b66, A61, c62) ?_ ⟨rfl, rfl, rfl, rfl, rfl, rfl, rfl, rfl, trivial⟩
         exact S70
        ·refine wH_new (i := 5) rfl rfl (V := fun b => .pointer (some ⟨b, 0, none⟩)) (row := #[.int .i64 0, .int .i64 0, .int .i64 0, .int .i64 0, .int .i64 0, .slice none 0 0]) (t := 108) S56 (wn rfl) rfl rfl (d_alloc rfl (Try.zeroValue108 _) rfl) ?_; intro b71 w72 S73; clear S56
         refine ⟨(St.del 0 S73), ?_⟩
         refine wG_one (m := 1) (r := 4) (by kernel_rfl) ?_
         refine wH_call (i := 4) rfl rfl (wn rfl) rfl rfl (e_call (vs := [.agg #[.int .i64 4, .int .i64 e, .int .i64 fr, .int .i64 0, .int .i64 0, .slice A l.length c], .slice A50 ((K.drop d).length) (c2 - p)]) rfl en160 ⟨rfl, rfl, trivial⟩) (with_calls 4 e fr 0 0 A c l A50 (c2 - p) (K.drop d) _ (St.rd 6 S73 rfl) (St.rd 1 S73 rfl) (by rw [List.length_drop]; unfold reachBytes; omega)) ?_
         rintro _ w76 ⟨A74, c75, rfl, T78⟩
         refine ⟨_, rfl, ?_⟩
         have S77 := S73.ext T78 rfl; clear T78 S73
         change St _ _ _ [.own 37 6 (.slice A74 ((l ++ (K.drop d)).length) c75) ((l ++ (K.drop d)).length) ((l ++ (K.drop d)).flatMap Ev.cells), _, _, _, _, _, _, _, _] at S77
         refine ⟨(S77.dels [1, 0]), ?_⟩
         refine wG_tail (by kernel_rfl) rfl rfl rfl ?_
         refine sa 1 S77 inf108 ?_; intro w79 S80; clear S77
         refine wL_nil (wQ_np ?_)
         refine pk [1, 2, 3, 4, 5, 10, 11, 14] ?_
         have S81 : St w.heap.size w w79 [_, _, _, _, _, _, _, _, _] := S80.re [1, 0, 2, 3, 4, 5, 6, 7, 8] (by decide); clear S80
         refine wQ_cut (b71, A74, c75) ?_ ⟨rfl, rfl, rfl, rfl, rfl, rfl, rfl, rfl, trivial⟩
         exact S81
       ·rintro ⟨b82, A83, c84⟩ w85 S86
        try dsimp only at S86; clear S55
        refine cw [1, 2, 3, 4, 5, 10, 11, 14] ?_
        refine wC_seq (wC_block (wC_seq (wC_region (vm ?_))))
        refine vm ?_
        cases hb87 : (last)
        ·refine vs ?_
         iterate 7 refine vs ?_
         refine vv ypF ?_
         refine va ?_
         refine qk [1, 4, 10, 11, 14, 74] ?_
         refine x_tnsr (vm ?_)
         refine va ?_
         refine qk [1, 10, 11, 14, 87] ?_
         refine wQ_then (wC_cond_f rfl (wC_skip (wQ_blk_n (wQ_then (wC_seq (wC_seq (wC_region (vv (ylr 0 S86 Try.underlying108 inf108) ?_))))))))
         refine cab en76 S86 (BCheck_calls 4 e fr 0 0 A83 c84 (l ++ (K.drop d)) _ (St.ord 1 S86 rfl) (by simp only [List.length_append, List.length_cons, List.length_nil, List.length_drop]; omega)) ?_; intro w88 S89; clear S86
         by_cases h91 : brtFault ⟨4, e, fr, 0, 0, l ++ (K.drop d)⟩ = 0
         ·refine vv (yneqF h91) ?_
          refine qk [10, 11, 14, 98] ?_
          refine x_tnktsr (vv (ylr 0 S89 Try.underlying108 inf108) ?_)
          refine sa 5 S89 inf108 ?_; intro w92 S93; clear S89
          refine va ?_
          refine qk [10, 11] ?_
          refine x_te (pc 5 S93 Try.underlying108 inf108 ?_)
          rw [imp_go (b := ⟨4, e, fr, 0, 0, l⟩) (k := k) h10 rfl rfl (by dsimp only; omega)]
          dsimp only
          rw [show l.length - k = d from by omega]
          rw [if_neg (fun h => h (hqm.out.2 hq))]
          rw [if_neg (by simp)]
          rw [impNew_f]
          dsimp only
          rw [if_neg (fun h => h h91)]
          have S94 : St _ _ _ [_] := S93.dels [8, 7, 6, 5, 4, 3, 2, 0]; clear S93
          have S95 := S94.sealAll 0 rfl; clear S94
          change St _ _ _ [.rdo 6 A83 ((l ++ (K.drop d)).length) ((l ++ (K.drop d)).flatMap Ev.cells)] at S95
          exact ⟨A83, c84, rfl, S95⟩
         ·refine vv (yneqT h91) ?_
          refine qk [10, 11, 14, 98] ?_
          refine x_tysr (vv yzB ?_)
          refine sa 5 S89 inf108 ?_; intro w96 S97; clear S89
          refine va ?_
          refine qk [10, 11] ?_
          refine x_teh (pc 5 S97 Try.underlying108 inf108 ?_)
          rw [imp_go (b := ⟨4, e, fr, 0, 0, l⟩) (k := k) h10 rfl rfl (by dsimp only; omega)]
          dsimp only
          rw [show l.length - k = d from by omega]
          rw [if_neg (fun h => h (hqm.out.2 hq))]
          rw [if_neg (by simp)]
          rw [impNew_f]
          dsimp only
          rw [if_pos h91]
          have S98 : St _ _ _ [] := S97.dels [8, 7, 6, 5, 4, 3, 2, 1, 0]; clear S97
          exact ⟨none, 0, rfl, rdo_nil S98⟩
        ·refine vg ym ?_
         refine vg ym ?_
         refine vg (v := .int .i64 ((K.length : Nat) : Int)) (y_builtin (vs := [.slice A2 K.length c2]) rfl ⟨rfl, trivial⟩ fun _ => r_len rfl Try.underlying57) ?_
         refine vg (v := .int .i64 ((k + K.length : Nat) : Int)) (y_binop rfl rfl rfl (r_add (by omega) (by omega))) ?_
         refine vg (yfa 5 fa108_5) ?_
         refine vg (ylc 6 S86 Try.underlying57) ?_
         refine vg (v := .int .i64 ((l.length : Nat) : Int)) (y_builtin (vs := [.slice A l.length c]) rfl ⟨rfl, trivial⟩ fun _ => r_len rfl Try.underlying57) ?_
         by_cases h99 : ((k + K.length : Nat) : Int) < ((l.length : Nat) : Int)
         ·refine vg (ylssT h99) ?_
          refine vv ypT ?_
          refine va ?_
          refine qk [1, 4, 10, 11, 14, 74] ?_
          refine x_tysr (vv yzB ?_)
          refine sa 5 S86 inf108 ?_; intro w100 S101; clear S86
          refine va ?_
          refine qk [10, 11] ?_
          refine x_tech (pc 5 S101 Try.underlying108 inf108 ?_)
          rw [imp_go (b := ⟨4, e, fr, 0, 0, l⟩) (k := k) h10 rfl rfl (by dsimp only; omega)]
          dsimp only
          rw [show l.length - k = d from by omega]
          rw [if_neg (fun h => h (hqm.out.2 hq))]
          rw [if_pos ⟨rfl, by omega⟩]
          have S102 : St _ _ _ [] := S101.dels [8, 7, 6, 5, 4, 3, 2, 1, 0]; clear S101
          exact ⟨none, 0, rfl, rdo_nil S102⟩
         ·refine vg (ylssF h99) ?_
          refine vv ypT ?_
          refine va ?_
          refine qk [1, 4, 10, 11, 14, 74] ?_
          refine x_tnsr (vm ?_)
          refine va ?_
          refine qk [1, 10, 11, 14, 87] ?_
          refine wQ_then (wC_cond_t rfl (wC_region (vm ?_)))
          refine vv (yfa 5 fa108_5) ?_
          refine vv (ylc 0 S86 Try.underlying57) ?_
          refine vv (v := .agg #[.int .i64 1, .int .i64 e, .int .i64 0, .int .i64 0, .int .i64 0, .slice A83 ((l ++ (K.drop d)).length) c84]) (y_build (vs := [(0, .int .i64 1), (1, .int .i64 e), (5, .slice A83 ((l ++ (K.drop d)).length) c84)]) rfl ⟨rfl, rfl, rfl, rfl, rfl, rfl, trivial⟩ (by kernel_rfl)) ?_
          refine vv (v := .agg #[.int .i64 4, .int .i64 0, .int .i64 0, .int .i64 0, .int .i64 0, .int .i64 0]) (y_build (vs := [(0, .int .i64 4)]) rfl ⟨rfl, rfl, trivial⟩ (by kernel_rfl)) ?_
          refine wL_new (V := fun b => .slice (some ⟨b, 0, none⟩) 1 1) (row := #[.int .i64 4, .int .i64 0, .int .i64 0, .int .i64 0, .int .i64 0, .int .i64 0]) (t := 37) S86 (wn rfl) rfl rfl (d_buildSlice (vs := [(0, .agg #[.int .i64 4, .int .i64 0, .int .i64 0, .int .i64 0, .int .i64 0, .int .i64 0])]) rfl ⟨rfl, rfl, trivial⟩ (by kernel_rfl)) ?_; intro b103 w104 S105; clear S86
          refine wL_call (wn rfl) rfl rfl (e_call (vs := [.agg #[.int .i64 1, .int .i64 e, .int .i64 0, .int .i64 0, .int .i64 0, .slice A83 ((l ++ (K.drop d)).length) c84], .slice (some ⟨b103, 0, none⟩) 1 1]) rfl en160 ⟨rfl, rfl, trivial⟩) (with_calls 1 e 0 0 0 A83 c84 (l ++ (K.drop d)) (some ⟨b103, 0, none⟩) 1 [brkEv] _ (St.ord 2 S105 rfl) (St.bld (xs := evCells [brkEv]) 0 S105 rfl rfl rfl) hw2) ?_
          rintro _ w108 ⟨A106, c107, rfl, T110⟩
          refine ⟨_, rfl, ?_⟩
          have S109 := S105.ext T110 rfl; clear T110 S105
          change St _ _ _ [.own 37 6 (.slice A106 ((l ++ (K.drop d) ++ [brkEv]).length) c107) ((l ++ (K.drop d) ++ [brkEv]).length) ((l ++ (K.drop d) ++ [brkEv]).flatMap Ev.cells), _, _, _, _, _, _, _, _, _, _] at S109
          refine sa 2 S109 inf108 ?_; intro w111 S112; clear S109
          refine qk [10, 11, 14] ?_
          refine x_utssr (vv (ylr 2 S112 Try.underlying108 inf108) ?_)
          refine cab en76 S112 (BCheck_calls 1 e 0 0 0 A106 c107 (l ++ (K.drop d) ++ [brkEv]) _ (St.ord 0 S112 rfl) (by simp only [List.length_append, List.length_cons, List.length_nil, List.length_drop]; omega)) ?_; intro w113 S114; clear S112
          by_cases h116 : brtFault ⟨1, e, 0, 0, 0, l ++ (K.drop d) ++ [brkEv]⟩ = 0
          ·refine vv (yneqF h116) ?_
           refine qk [10, 11, 14, 98] ?_
           refine x_tnktsr (vv (ylr 2 S114 Try.underlying108 inf108) ?_)
           refine sa 7 S114 inf108 ?_; intro w117 S118; clear S114
           refine va ?_
           refine qk [10, 11] ?_
           refine x_te (pc 7 S118 Try.underlying108 inf108 ?_)
           rw [imp_go (b := ⟨4, e, fr, 0, 0, l⟩) (k := k) h10 rfl rfl (by dsimp only; omega)]
           dsimp only
           rw [show l.length - k = d from by omega]
           rw [if_neg (fun h => h (hqm.out.2 hq))]
           rw [if_neg (by simp; omega)]
           rw [impNew_t]
           dsimp only
           rw [if_neg (fun h => h h116)]
           have S119 : St _ _ _ [_] := S118.dels [10, 9, 8, 7, 6, 5, 4, 3, 2, 1]; clear S118
           have S120 := S119.sealAll 0 rfl; clear S119
           change St _ _ _ [.rdo 6 A106 ((l ++ (K.drop d) ++ [brkEv]).length) ((l ++ (K.drop d) ++ [brkEv]).flatMap Ev.cells)] at S120
           exact ⟨A106, c107, rfl, S120⟩
          ·refine vv (yneqT h116) ?_
           refine qk [10, 11, 14, 98] ?_
           refine x_tysr (vv yzB ?_)
           refine sa 7 S114 inf108 ?_; intro w121 S122; clear S114
           refine va ?_
           refine qk [10, 11] ?_
           refine x_teh (pc 7 S122 Try.underlying108 inf108 ?_)
           rw [imp_go (b := ⟨4, e, fr, 0, 0, l⟩) (k := k) h10 rfl rfl (by dsimp only; omega)]
           dsimp only
           rw [show l.length - k = d from by omega]
           rw [if_neg (fun h => h (hqm.out.2 hq))]
           rw [if_neg (by simp; omega)]
           rw [impNew_t]
           dsimp only
           rw [if_pos h116]
           have S123 : St _ _ _ [] := S122.dels [10, 9, 8, 7, 6, 5, 4, 3, 2, 1, 0]; clear S122
           exact ⟨none, 0, rfl, rdo_nil S123⟩
      ·rw [decide_eq_false hq] at HE
       refine wU_call (v := .bool false) (wn rfl) rfl rfl (fun _ => (e_call (vs := [.slice A21 p p, .slice A26 p p]) rfl en162 ⟨rfl, rfl, trivial⟩)) (fun _ Sx124 => (HE _ (St.rd 1 Sx124 rfl) (St.rd 0 Sx124 rfl)).mono fun _ _ h => ⟨h.1, Sx124.on h.2⟩) ?_; clear HE
       refine uv (v := .bool true) (fun _ _ => yno) ?_
       refine wU_nil fun w126 S127 => ?_; clear S31
       refine pk [1, 2, 3, 4, 5, 10, 11, 13, 67] ?_
       refine x_tysr (vv yzB ?_)
       refine sa 2 S127 inf108 ?_; intro w128 S129; clear S127
       refine va ?_
       refine qk [10, 11] ?_
       refine x_teh (pc 2 S129 Try.underlying108 inf108 ?_)
       rw [imp_go (b := ⟨4, e, fr, 0, 0, l⟩) (k := k) h10 rfl rfl (by dsimp only; omega)]
       dsimp only
       rw [show l.length - k = d from by omega]
       rw [if_pos (fun h => hq (hqm.out.1 h))]
       have S130 : St _ _ _ [] := S129.dels [5, 4, 3, 2, 1, 0]; clear S129
       exact ⟨none, 0, rfl, rdo_nil S130⟩
   ·refine vv (yneqT h12) ?_
    refine va ?_
    refine qk [1, 2, 3, 4, 5, 10, 11, 27] ?_
    refine x_tysr (vv yzB ?_)
    refine sa 0 S8 inf108 ?_; intro w131 S132; clear S8
    refine va ?_
    refine qk [10, 11] ?_
    refine x_tech (pc 0 S132 Try.underlying108 inf108 ?_)
    have S133 : St _ _ _ [] := S132.dels [3, 2, 1, 0]; clear S132
    rw [show importM ⟨ro, ep, fr, tg, rd, l⟩ e at_ K last = (zeroB, 15) from by unfold importM; (try dsimp only); exact lfB]
    exact ⟨none, 0, rfl, rdo_nil S133⟩
  ·refine vv (yneqT h11) ?_
   refine va ?_
   refine qk [1, 2, 3, 4, 5, 10, 11, 22] ?_
   refine x_tysr (vv yzB ?_)
   refine sa 0 S8 inf108 ?_; intro w134 S135; clear S8
   refine va ?_
   refine qk [10, 11] ?_
   refine x_tech (pc 0 S135 Try.underlying108 inf108 ?_)
   have S136 : St _ _ _ [] := S135.dels [3, 2, 1, 0]; clear S135
   rw [show importM ⟨ro, ep, fr, tg, rd, l⟩ e at_ K last = (zeroB, 7) from by unfold importM; (try dsimp only); exact lfB]
   exact ⟨none, 0, rfl, rdo_nil S136⟩
 ·refine vv (yneqT h10) ?_
  refine va ?_
  refine qk [1, 2, 3, 4, 5, 10, 11, 12, 17] ?_
  refine x_tysr (vv yzB ?_)
  refine vm ?_
  refine sa 0 S8 inf108 ?_; intro w137 S138; clear S8
  refine va ?_
  refine qk [10, 11] ?_
  refine x_tech (pc 0 S138 Try.underlying108 inf108 ?_)
  have S139 : St _ _ _ [] := S138.dels [3, 2, 1, 0]; clear S138
  rw [show importM ⟨ro, ep, fr, tg, rd, l⟩ e at_ K last = (zeroB, brtFault ⟨ro, ep, fr, tg, rd, l⟩) from by unfold importM; (try dsimp only); exact lfB]
  exact ⟨none, 0, rfl, rdo_nil S139⟩
end Go.Proofs.Ytkjlafpafmihaaa

namespace Go.Proofs.Ytkjlafpafmihaaa
open Go.ChangeShapes Go.WideShapes Go.RowKit

/-- P8.1. -/
noncomputable def addM (b : Brt) (e : Ev) : Brt × Int := if brtFault ⟨b.role, b.ep, b.fr, b.tg, b.rd, b.evs ++ [e]⟩ ≠ 0 then (zeroB, 3) else (⟨b.role, b.ep, b.fr, b.tg, b.rd, b.evs ++ [e]⟩, 0)
def sealM (b : Brt) (pe : Int) : Brt × Int := (⟨3, b.ep, b.fr, pe, b.rd, b.evs⟩, 0)
noncomputable def actM (b : Brt) (r : Rcd) : Brt × Int :=
  if r.kind = 1 then makeM b r.epoch else if r.kind = 4 then beginM b r.epoch r.peer
  else if ¬ (b.role = (if r.kind = 2 ∨ r.kind = 3 then 1 else if r.kind = 7 then 3 else 4) ∧ b.ep = r.epoch) then (zeroB, 3)
  else if r.kind = 3 then sealM b r.peer else if r.kind = 6 then importM b r.epoch b.evs.length [] true else if r.kind = 7 then forgetM b (r.epoch + 1) else addM b r.ev
noncomputable def applyM (b : Brt) (r : Rcd) : Brt × Int :=
  if brtFault b ≠ 0 then (zeroB, brtFault b) else if recFault r ≠ 0 then (zeroB, recFault r)
  else if b.role = 2 ∨ (r.kind ≠ 3 ∧ r.kind ≠ 4 ∧ r.peer ≠ 0) then (zeroB, 3) else if (actM b r).2 ≠ 0 then (zeroB, 3) else ((actM b r).1, 0)

set_option maxRecDepth 100000 in
set_option maxHeartbeats 1000000 in
theorem acts1_calls (ro ep fr tg rd : Int) (A : Option Addr) (c : Nat) (l : List Ev) (kd qu e pe : Int) (x : Ev) (w : World) (h : Rd w w.heap.size 6 A l.length (evCells l)) (hb : l.length * 48 ≤ reachBytes) :
    Calls Try.prog 182 #[.agg #[.int .i64 ro, .int .i64 ep, .int .i64 fr, .int .i64 tg, .int .i64 rd, .slice A l.length c], .agg #[.int .i64 kd, .int .i64 qu, .int .i64 e, .int .i64 pe, .int .i64 x.kind, .int .i64 x.producer, .int .i64 x.id, .int .i64 x.body, .int .i64 x.hepoch, .int .i64 x.hno]] w (BrtPost w (makeM ⟨ro, ep, fr, tg, rd, l⟩ e)) := by
 have S := (St.start w).addRd h; clear h
 have hb2 := hb
 unfold reachBytes at hb2
 obtain ⟨R, hR⟩ : ∃ R, makeM ⟨ro, ep, fr, tg, rd, l⟩ e = R := ⟨_, rfl⟩
 rw [hR]
 refine fnw 12 Try.func182 ?_
 refine cw [0, 1] ?_
 refine x_sr (nb (row := #[.int .i64 ro, .int .i64 ep, .int .i64 fr, .int .i64 tg, .int .i64 rd, .slice A l.length c]) S ?_); intro b1 w2 S3; clear S
 refine nb (row := #[.int .i64 kd, .int .i64 qu, .int .i64 e, .int .i64 pe, .int .i64 x.kind, .int .i64 x.producer, .int .i64 x.id, .int .i64 x.body, .int .i64 x.hepoch, .int .i64 x.hno]) S3 ?_; intro b4 w5 S6; clear S3
 refine naB S6 Try.zeroValue108 ?_; intro b7 w8 S9; clear S6
 refine va ?_
 refine qk [2, 3, 4, 5] ?_
 refine x_tsr (vv (ylr 2 S9 Try.underlying108 inf108) ?_)
 refine vv (yfa 2 fa51_2) ?_
 refine vv (ylc 1 S9 Try.underlying3) ?_
 refine cal en82 ((hR ▸ Make_calls ro ep fr tg rd A c l e _ (St.rd 3 S9 rfl) hb)) ?_
 rintro _ w12 ⟨A10, c11, rfl, T14⟩
 refine ⟨_, rfl, ?_⟩
 have S13 := S9.ext T14 rfl; clear T14 S9
 change St _ _ _ [.rdo 6 A10 R.1.evs.length ((R.1.evs).flatMap Ev.cells), _, _, _, _] at S13
 refine vv yx ?_
 refine vv yx ?_
 refine sa 1 S13 inf108 ?_; intro w15 S16; clear S13
 refine va ?_
 refine qk [4, 5] ?_
 refine x_te (pc 1 S16 Try.underlying108 inf108 ?_)
 have S17 : St _ _ _ [_] := S16.dels [4, 3, 2, 1]; clear S16
 exact ⟨A10, c11, rfl, S17⟩

set_option maxRecDepth 100000 in
set_option maxHeartbeats 1000000 in
theorem acts3_calls (ro ep fr tg rd : Int) (A : Option Addr) (c : Nat) (l : List Ev) (kd qu e pe : Int) (x : Ev) (w : World) (h : Rd w w.heap.size 6 A l.length (evCells l)) (hb : l.length * 48 ≤ reachBytes) :
    Calls Try.prog 186 #[.agg #[.int .i64 ro, .int .i64 ep, .int .i64 fr, .int .i64 tg, .int .i64 rd, .slice A l.length c], .agg #[.int .i64 kd, .int .i64 qu, .int .i64 e, .int .i64 pe, .int .i64 x.kind, .int .i64 x.producer, .int .i64 x.id, .int .i64 x.body, .int .i64 x.hepoch, .int .i64 x.hno]] w (BrtPost w (beginM ⟨ro, ep, fr, tg, rd, l⟩ e pe)) := by
 have S := (St.start w).addRd h; clear h
 have hb2 := hb
 unfold reachBytes at hb2
 obtain ⟨R, hR⟩ : ∃ R, beginM ⟨ro, ep, fr, tg, rd, l⟩ e pe = R := ⟨_, rfl⟩
 rw [hR]
 refine fnw 14 Try.func186 ?_
 refine cw [0, 1] ?_
 refine x_sr (nb (row := #[.int .i64 ro, .int .i64 ep, .int .i64 fr, .int .i64 tg, .int .i64 rd, .slice A l.length c]) S ?_); intro b1 w2 S3; clear S
 refine nb (row := #[.int .i64 kd, .int .i64 qu, .int .i64 e, .int .i64 pe, .int .i64 x.kind, .int .i64 x.producer, .int .i64 x.id, .int .i64 x.body, .int .i64 x.hepoch, .int .i64 x.hno]) S3 ?_; intro b4 w5 S6; clear S3
 refine naB S6 Try.zeroValue108 ?_; intro b7 w8 S9; clear S6
 refine va ?_
 refine qk [2, 3, 4, 5] ?_
 refine x_tsr (vv (ylr 2 S9 Try.underlying108 inf108) ?_)
 refine vv (yfa 2 fa51_2) ?_
 refine vv (ylc 1 S9 Try.underlying3) ?_
 refine vv (yfa 3 fa51_3) ?_
 refine vv (ylc 1 S9 Try.underlying3) ?_
 refine cal en88 ((hR ▸ Begin_calls ro ep fr tg rd A c l e pe _ (St.rd 3 S9 rfl) hb)) ?_
 rintro _ w12 ⟨A10, c11, rfl, T14⟩
 refine ⟨_, rfl, ?_⟩
 have S13 := S9.ext T14 rfl; clear T14 S9
 change St _ _ _ [.rdo 6 A10 R.1.evs.length ((R.1.evs).flatMap Ev.cells), _, _, _, _] at S13
 refine vv yx ?_
 refine vv yx ?_
 refine sa 1 S13 inf108 ?_; intro w15 S16; clear S13
 refine va ?_
 refine qk [4, 5] ?_
 refine x_te (pc 1 S16 Try.underlying108 inf108 ?_)
 have S17 : St _ _ _ [_] := S16.dels [4, 3, 2, 1]; clear S16
 exact ⟨A10, c11, rfl, S17⟩

set_option maxRecDepth 100000 in
set_option maxHeartbeats 1000000 in
theorem acts4_calls (ro ep fr tg rd : Int) (A : Option Addr) (c : Nat) (l : List Ev) (kd qu e pe : Int) (x : Ev) (hlc : l.length ≤ c) (w : World) (h : Rd w w.heap.size 6 A l.length (evCells l)) (hb : l.length * 48 ≤ reachBytes) :
    Calls Try.prog 187 #[.agg #[.int .i64 ro, .int .i64 ep, .int .i64 fr, .int .i64 tg, .int .i64 rd, .slice A l.length c], .agg #[.int .i64 kd, .int .i64 qu, .int .i64 e, .int .i64 pe, .int .i64 x.kind, .int .i64 x.producer, .int .i64 x.id, .int .i64 x.body, .int .i64 x.hepoch, .int .i64 x.hno]] w (BrtPost w (importM ⟨ro, ep, fr, tg, rd, l⟩ e ((l.length : Nat) : Int) [] true)) := by
 have S := (St.start w).addRd h; clear h
 have hb2 := hb
 unfold reachBytes at hb2
 obtain ⟨R, hR⟩ : ∃ R, importM ⟨ro, ep, fr, tg, rd, l⟩ e ((l.length : Nat) : Int) [] true = R := ⟨_, rfl⟩
 rw [hR]
 refine fnw 15 Try.func187 ?_
 refine cw [0, 1] ?_
 refine x_sr (nb (row := #[.int .i64 ro, .int .i64 ep, .int .i64 fr, .int .i64 tg, .int .i64 rd, .slice A l.length c]) S ?_); intro b1 w2 S3; clear S
 refine nb (row := #[.int .i64 kd, .int .i64 qu, .int .i64 e, .int .i64 pe, .int .i64 x.kind, .int .i64 x.producer, .int .i64 x.id, .int .i64 x.body, .int .i64 x.hepoch, .int .i64 x.hno]) S3 ?_; intro b4 w5 S6; clear S3
 refine naB S6 Try.zeroValue108 ?_; intro b7 w8 S9; clear S6
 refine va ?_
 refine qk [2, 3, 4, 5] ?_
 refine x_tsr (vv (ylr 2 S9 Try.underlying108 inf108) ?_)
 refine vv (yfa 2 fa51_2) ?_
 refine vv (ylc 1 S9 Try.underlying3) ?_
 refine vv (yfa 5 fa108_5) ?_
 refine vv (ylc 2 S9 Try.underlying57) ?_
 refine vv (v := .int .i64 ((l.length : Nat) : Int)) (y_builtin (vs := [.slice A l.length c]) rfl ⟨rfl, trivial⟩ fun _ => r_len rfl Try.underlying57) ?_
 refine cal en96 ((hR ▸ Import_calls ro ep fr tg rd A c l e ((l.length : Nat) : Int) none 0 [] true hlc (Nat.le_refl 0) _ Rd.none_ (St.rd 3 S9 rfl) hb (by decide))) ?_
 rintro _ w12 ⟨A10, c11, rfl, T14⟩
 refine ⟨_, rfl, ?_⟩
 have S13 := S9.ext T14 rfl; clear T14 S9
 change St _ _ _ [.rdo 6 A10 R.1.evs.length ((R.1.evs).flatMap Ev.cells), _, _, _, _] at S13
 refine vv yx ?_
 refine vv yx ?_
 refine sa 1 S13 inf108 ?_; intro w15 S16; clear S13
 refine va ?_
 refine qk [4, 5] ?_
 refine x_te (pc 1 S16 Try.underlying108 inf108 ?_)
 have S17 : St _ _ _ [_] := S16.dels [4, 3, 2, 1]; clear S16
 exact ⟨A10, c11, rfl, S17⟩

set_option maxRecDepth 100000 in
set_option maxHeartbeats 1000000 in
theorem acts5_calls (ro ep fr tg rd : Int) (A : Option Addr) (c : Nat) (l : List Ev) (kd qu e pe : Int) (x : Ev) (he : 0 ≤ e ∧ e ≤ 1048576) (w : World) (h : Rd w w.heap.size 6 A l.length (evCells l)) (hb : l.length * 48 ≤ reachBytes) :
    Calls Try.prog 188 #[.agg #[.int .i64 ro, .int .i64 ep, .int .i64 fr, .int .i64 tg, .int .i64 rd, .slice A l.length c], .agg #[.int .i64 kd, .int .i64 qu, .int .i64 e, .int .i64 pe, .int .i64 x.kind, .int .i64 x.producer, .int .i64 x.id, .int .i64 x.body, .int .i64 x.hepoch, .int .i64 x.hno]] w (BrtPost w (forgetM ⟨ro, ep, fr, tg, rd, l⟩ (e + 1))) := by
 have S := (St.start w).addRd h; clear h
 have hb2 := hb
 unfold reachBytes at hb2
 obtain ⟨R, hR⟩ : ∃ R, forgetM ⟨ro, ep, fr, tg, rd, l⟩ (e + 1) = R := ⟨_, rfl⟩
 rw [hR]
 refine fnw 13 Try.func188 ?_
 refine cw [0, 1] ?_
 refine x_sr (nb (row := #[.int .i64 ro, .int .i64 ep, .int .i64 fr, .int .i64 tg, .int .i64 rd, .slice A l.length c]) S ?_); intro b1 w2 S3; clear S
 refine nb (row := #[.int .i64 kd, .int .i64 qu, .int .i64 e, .int .i64 pe, .int .i64 x.kind, .int .i64 x.producer, .int .i64 x.id, .int .i64 x.body, .int .i64 x.hepoch, .int .i64 x.hno]) S3 ?_; intro b4 w5 S6; clear S3
 refine naB S6 Try.zeroValue108 ?_; intro b7 w8 S9; clear S6
 refine va ?_
 refine qk [2, 3, 4, 5] ?_
 refine x_tsr (vv (ylr 2 S9 Try.underlying108 inf108) ?_)
 refine vv (yfa 2 fa51_2) ?_
 refine vv (ylc 1 S9 Try.underlying3) ?_
 refine vv (v := .int .i64 (e + 1)) (y_binop rfl rfl rfl (r_add (by omega) (by omega))) ?_
 refine cal en79 ((hR ▸ Forget_calls ro ep fr tg rd A c l (e + 1) _ (St.rd 3 S9 rfl) hb)) ?_
 rintro _ w12 ⟨A10, c11, rfl, T14⟩
 refine ⟨_, rfl, ?_⟩
 have S13 := S9.ext T14 rfl; clear T14 S9
 change St _ _ _ [.rdo 6 A10 R.1.evs.length ((R.1.evs).flatMap Ev.cells), _, _, _, _] at S13
 refine vv yx ?_
 refine vv yx ?_
 refine sa 1 S13 inf108 ?_; intro w15 S16; clear S13
 refine va ?_
 refine qk [4, 5] ?_
 refine x_te (pc 1 S16 Try.underlying108 inf108 ?_)
 have S17 : St _ _ _ [_] := S16.dels [4, 3, 2, 1]; clear S16
 exact ⟨A10, c11, rfl, S17⟩

set_option maxRecDepth 100000 in
set_option maxHeartbeats 1000000 in
theorem radd_calls (ro ep fr tg rd : Int) (A : Option Addr) (c : Nat) (l : List Ev) (kd qu e pe : Int) (x : Ev) (hl2 : l.length ≤ 2000) (w : World) (h : Rd w w.heap.size 6 A l.length (evCells l)) (hb : l.length * 48 ≤ reachBytes) :
    Calls Try.prog 184 #[.agg #[.int .i64 ro, .int .i64 ep, .int .i64 fr, .int .i64 tg, .int .i64 rd, .slice A l.length c], .agg #[.int .i64 kd, .int .i64 qu, .int .i64 e, .int .i64 pe, .int .i64 x.kind, .int .i64 x.producer, .int .i64 x.id, .int .i64 x.body, .int .i64 x.hepoch, .int .i64 x.hno]] w (BrtPost w (addM ⟨ro, ep, fr, tg, rd, l⟩ x)) := by
 have S := (St.start w).addRd h; clear h
 have hb2 := hb
 unfold reachBytes at hb2
 refine fnw 19 Try.func184 ?_
 refine cw [0, 1] ?_
 refine x_sr (nb (row := #[.int .i64 ro, .int .i64 ep, .int .i64 fr, .int .i64 tg, .int .i64 rd, .slice A l.length c]) S ?_); intro b1 w2 S3; clear S
 refine nb (row := #[.int .i64 kd, .int .i64 qu, .int .i64 e, .int .i64 pe, .int .i64 x.kind, .int .i64 x.producer, .int .i64 x.id, .int .i64 x.body, .int .i64 x.hepoch, .int .i64 x.hno]) S3 ?_; intro b4 w5 S6; clear S3
 refine naB S6 Try.zeroValue108 ?_; intro b7 w8 S9; clear S6
 refine va ?_
 refine qk [2, 3, 4, 5] ?_
 refine wQ_then ?_
 have S10 := S9.nil 37 6; clear S9
 change St _ _ _ [.own 37 6 (.slice none 0 0) 0 ((([] : List Ev)).flatMap Ev.cells), _, _, _, _] at S10
 refine wC_cut (X := Nat × (Option Addr) × Nat) (fun xv => [(2, .pointer (some ⟨b1, 0, none⟩)), (4, .pointer (some ⟨b7, 0, none⟩)), (5, .int .i64 0)]) (fun xv wr => St w.heap.size w wr [.blk xv.1 #[.int .i64 x.kind, .int .i64 x.producer, .int .i64 x.id, .int .i64 x.body, .int .i64 x.hepoch, .int .i64 x.hno] 37, .own 37 6 (.slice xv.2.1 ((0 + l.length) + 1) xv.2.2) ((0 + l.length) + 1) ((l ++ [x]).flatMap Ev.cells), .blk b7 #[.int .i64 0, .int .i64 0, .int .i64 0, .int .i64 0, .int .i64 0, .slice none 0 0] 108, .blk b4 #[.int .i64 kd, .int .i64 qu, .int .i64 e, .int .i64 pe, .int .i64 x.kind, .int .i64 x.producer, .int .i64 x.id, .int .i64 x.body, .int .i64 x.hepoch, .int .i64 x.hno] 51, .blk b1 #[.int .i64 ro, .int .i64 ep, .int .i64 fr, .int .i64 tg, .int .i64 rd, .slice xv.2.1 ((0 + l.length) + 1) xv.2.2] 108, .rd 6 A l.length ((l).flatMap Ev.cells)]) ?_ ?_
 ·have S11 := S10.drew; clear S10
  refine wC_head (C := fun w' => St w.heap.size w w' [.blk b7 #[.int .i64 0, .int .i64 0, .int .i64 0, .int .i64 0, .int .i64 0, .slice none 0 0] 108, .blk b4 #[.int .i64 kd, .int .i64 qu, .int .i64 e, .int .i64 pe, .int .i64 x.kind, .int .i64 x.producer, .int .i64 x.id, .int .i64 x.body, .int .i64 x.hepoch, .int .i64 x.hno] 51, .blk b1 #[.int .i64 ro, .int .i64 ep, .int .i64 fr, .int .i64 tg, .int .i64 rd, .slice A l.length c] 108, .rd 6 A l.length ((l).flatMap Ev.cells)]) (m := 9) (listed := #[false, false, false, false, false, false, false, false, false]) 7 mixed rfl rfl ?_
  refine gk (v := .pointer (some ⟨b1, 5, none⟩)) 0 rfl (St.del 0 S11) (fun _ _ => yfa _ fa108_5) ?_
  refine gk (v := .slice A l.length c) 1 rfl (St.del 0 S11) (fun _ Sx13 => ylc 2 Sx13 Try.underlying57) ?_
  refine gk (v := .pointer (some ⟨b4, 4, none⟩)) 3 rfl (St.del 0 S11) (fun _ _ => yfa _ fa51_4) ?_
  refine gk (v := .agg #[.int .i64 x.kind, .int .i64 x.producer, .int .i64 x.id, .int .i64 x.body, .int .i64 x.hepoch, .int .i64 x.hno]) 4 rfl (St.del 0 S11) (fun _ Sx15 => (y_load rfl rfl (r_load_agg (cs := [.int .i64 x.kind, .int .i64 x.producer, .int .i64 x.id, .int .i64 x.body, .int .i64 x.hepoch, .int .i64 x.hno]) Try.underlying37 rfl inf37 rfl (St.rg 1 Sx15 rfl (sub_row (x := 4) (m := 6) rfl))))) ?_
  refine wG_two (m := 4) (r := 2) (s := 5) (by kernel_rfl) ?_ ?_
  ·refine wH_append (i := 2) rfl rfl (news := (l).flatMap Ev.cells) (xs' := (l).flatMap Ev.cells) 0 S11 (wn rfl) rfl rfl rfl rfl rfl rfl (St.rd 4 S11 rfl) Try.underlying57 infz37 rfl (by decide) (evCells_one _) (by simp only [maxLen]; omega) (by omega) (rfl) ?_; intro A16 c17 w18 hc20 hm21 S19; clear S11
   change St _ _ _ [.own 37 6 (.slice A16 (0 + l.length) c17) (0 + l.length) ((l).flatMap Ev.cells), _, _, _, _] at S19
   refine ⟨(St.del 0 S19), ?_⟩
   refine wG_one (m := 3) (r := 5) (by kernel_rfl) ?_
   refine wH_new (i := 5) rfl rfl (V := fun b => .slice (some ⟨b, 0, none⟩) 1 1) (row := #[.int .i64 x.kind, .int .i64 x.producer, .int .i64 x.id, .int .i64 x.body, .int .i64 x.hepoch, .int .i64 x.hno]) (t := 37) S19 (wn rfl) rfl rfl (d_buildSlice (vs := [(0, .agg #[.int .i64 x.kind, .int .i64 x.producer, .int .i64 x.id, .int .i64 x.body, .int .i64 x.hepoch, .int .i64 x.hno])]) rfl ⟨rfl, rfl, trivial⟩ (by kernel_rfl)) ?_; intro b22 w23 S24; clear S19
   refine ⟨(S24.dels [1, 0]), ?_⟩
   refine wG_one (m := 2) (r := 6) (by kernel_rfl) ?_
   refine wH_append (i := 6) rfl rfl (news := [.int .i64 x.kind, .int .i64 x.producer, .int .i64 x.id, .int .i64 x.body, .int .i64 x.hepoch, .int .i64 x.hno]) (xs' := (l ++ [x]).flatMap Ev.cells) 1 S24 (wn rfl) rfl rfl rfl rfl rfl rfl (St.bld (xs := [.int .i64 x.kind, .int .i64 x.producer, .int .i64 x.id, .int .i64 x.body, .int .i64 x.hepoch, .int .i64 x.hno]) 0 S24 rfl rfl rfl) Try.underlying57 infz37 rfl (by decide) (oneAll rfl) (by simp only [maxLen]; omega) (by omega) (fm_snoc (enc := Ev.cells) rfl rfl) ?_; intro A25 c26 w27 hc29 hm30 S28; clear S24
   change St _ _ _ [_, .own 37 6 (.slice A25 ((0 + l.length) + 1) c26) ((0 + l.length) + 1) ((l ++ [x]).flatMap Ev.cells), _, _, _, _] at S28
   refine ⟨(S28.dels [1, 0]), ?_⟩
   refine wG_tail (by kernel_rfl) rfl rfl rfl ?_
   refine vv (yfa 5 fa108_5) ?_
   refine sr (row' := #[.int .i64 ro, .int .i64 ep, .int .i64 fr, .int .i64 tg, .int .i64 rd, .slice A25 ((0 + l.length) + 1) c26]) 4 S28 inf57 ?_; intro w31 S32; clear S28
   refine wL_nil (wQ_np ?_)
   refine pk [2, 4, 5] ?_
   refine wQ_cut (b22, A25, c26) ?_ ⟨rfl, rfl, rfl, trivial⟩
   exact S32
  ·refine wH_new (i := 5) rfl rfl (V := fun b => .slice (some ⟨b, 0, none⟩) 1 1) (row := #[.int .i64 x.kind, .int .i64 x.producer, .int .i64 x.id, .int .i64 x.body, .int .i64 x.hepoch, .int .i64 x.hno]) (t := 37) S11 (wn rfl) rfl rfl (d_buildSlice (vs := [(0, .agg #[.int .i64 x.kind, .int .i64 x.producer, .int .i64 x.id, .int .i64 x.body, .int .i64 x.hepoch, .int .i64 x.hno])]) rfl ⟨rfl, rfl, trivial⟩ (by kernel_rfl)) ?_; intro b33 w34 S35; clear S11
   refine ⟨(S35.dels [1, 0]), ?_⟩
   refine wG_one (m := 3) (r := 2) (by kernel_rfl) ?_
   refine wH_append (i := 2) rfl rfl (news := (l).flatMap Ev.cells) (xs' := (l).flatMap Ev.cells) 1 S35 (wn rfl) rfl rfl rfl rfl rfl rfl (St.rd 5 S35 rfl) Try.underlying57 infz37 rfl (by decide) (evCells_one _) (by simp only [maxLen]; omega) (by omega) (rfl) ?_; intro A36 c37 w38 hc40 hm41 S39; clear S35
   change St _ _ _ [_, .own 37 6 (.slice A36 (0 + l.length) c37) (0 + l.length) ((l).flatMap Ev.cells), _, _, _, _] at S39
   refine ⟨(S39.dels [1, 0]), ?_⟩
   refine wG_one (m := 2) (r := 6) (by kernel_rfl) ?_
   refine wH_append (i := 6) rfl rfl (news := [.int .i64 x.kind, .int .i64 x.producer, .int .i64 x.id, .int .i64 x.body, .int .i64 x.hepoch, .int .i64 x.hno]) (xs' := (l ++ [x]).flatMap Ev.cells) 1 S39 (wn rfl) rfl rfl rfl rfl rfl rfl (St.bld (xs := [.int .i64 x.kind, .int .i64 x.producer, .int .i64 x.id, .int .i64 x.body, .int .i64 x.hepoch, .int .i64 x.hno]) 0 S39 rfl rfl rfl) Try.underlying57 infz37 rfl (by decide) (oneAll rfl) (by simp only [maxLen]; omega) (by omega) (fm_snoc (enc := Ev.cells) rfl rfl) ?_; intro A42 c43 w44 hc46 hm47 S45; clear S39
   change St _ _ _ [_, .own 37 6 (.slice A42 ((0 + l.length) + 1) c43) ((0 + l.length) + 1) ((l ++ [x]).flatMap Ev.cells), _, _, _, _] at S45
   refine ⟨(S45.dels [1, 0]), ?_⟩
   refine wG_tail (by kernel_rfl) rfl rfl rfl ?_
   refine vv (yfa 5 fa108_5) ?_
   refine sr (row' := #[.int .i64 ro, .int .i64 ep, .int .i64 fr, .int .i64 tg, .int .i64 rd, .slice A42 ((0 + l.length) + 1) c43]) 4 S45 inf57 ?_; intro w48 S49; clear S45
   refine wL_nil (wQ_np ?_)
   refine pk [2, 4, 5] ?_
   refine wQ_cut (b33, A42, c43) ?_ ⟨rfl, rfl, rfl, trivial⟩
   exact S49
 ·rintro ⟨b50, A51, c52⟩ w53 S54
  try dsimp only at S54; clear S10
  refine cw [2, 4, 5] ?_
  refine x_ssr (vv (ylr 4 S54 Try.underlying108 inf108) ?_)
  have hal : (l ++ [x]).length = (0 + l.length) + 1 := by simp only [List.length_append, List.length_cons, List.length_nil, List.length_drop, Nat.zero_add]
  have HC55 := fun (w : World) (h : Rd w w.heap.size 6 A51 ((l ++ [x]).length) (evCells (l ++ [x]))) => BCheck_calls ro ep fr tg rd A51 c52 (l ++ [x]) w h (by omega)
  rw [hal] at HC55
  refine cal en76 (HC55 _ (St.ord 1 S54 rfl)) ?_
  rintro _ w56 ⟨rfl, hb58⟩
  refine ⟨_, rfl, ?_⟩
  have S57 := S54.on hb58; clear hb58 S54; clear HC55
  by_cases h59 : brtFault ⟨ro, ep, fr, tg, rd, l ++ [x]⟩ = 0
  ·have hsh := (bf_zero h59).1
   unfold shapeB at hsh
   have hln := tellM_len (bf_zero h59).2
   dsimp only at hsh hln
   refine vv (yneqF h59) ?_
   refine qk [2, 4, 5, 16] ?_
   refine x_tnktsr (vv (ylr 4 S57 Try.underlying108 inf108) ?_)
   refine sa 2 S57 inf108 ?_; intro w60 S61; clear S57
   refine va ?_
   refine qk [4, 5] ?_
   refine x_te (pc 2 S61 Try.underlying108 inf108 ?_)
   have S62 : St _ _ _ [_] := S61.dels [5, 4, 3, 2, 0]; clear S61
   have S63 := S62.sealAll 0 rfl; clear S62
   change St _ _ _ [.rdo 6 A51 ((0 + l.length) + 1) ((l ++ [x]).flatMap Ev.cells)] at S63
   rw [show addM ⟨ro, ep, fr, tg, rd, l⟩ x = (⟨ro, ep, fr, tg, rd, l ++ [x]⟩, 0) from by unfold addM; (try dsimp only); exact lfB]
   refine ⟨A51, c52, ?_, ?_⟩
   · dsimp only; rw [hal]; rfl
   · dsimp only; rw [hal]; exact S63
  ·refine vv (yneqT h59) ?_
   refine qk [2, 4, 5, 16] ?_
   refine x_tysr (vv yzB ?_)
   refine sa 2 S57 inf108 ?_; intro w64 S65; clear S57
   refine va ?_
   refine qk [4, 5] ?_
   refine x_teh (pc 2 S65 Try.underlying108 inf108 ?_)
   have S66 : St _ _ _ [] := S65.dels [5, 4, 3, 2, 1, 0]; clear S65
   rw [show addM ⟨ro, ep, fr, tg, rd, l⟩ x = (⟨0, 0, 0, 0, 0, []⟩, 3) from by unfold addM; (try dsimp only); exact lfB]
   exact ⟨none, 0, rfl, rdo_nil S66⟩

set_option maxRecDepth 100000 in
set_option maxHeartbeats 1000000 in
theorem acts2_calls (ro ep fr tg rd : Int) (A : Option Addr) (c : Nat) (l : List Ev) (kd qu e pe : Int) (x : Ev) (w : World) (h : Rd w w.heap.size 6 A l.length (evCells l)) (hb : l.length * 48 ≤ reachBytes) :
    Calls Try.prog 185 #[.agg #[.int .i64 ro, .int .i64 ep, .int .i64 fr, .int .i64 tg, .int .i64 rd, .slice A l.length c], .agg #[.int .i64 kd, .int .i64 qu, .int .i64 e, .int .i64 pe, .int .i64 x.kind, .int .i64 x.producer, .int .i64 x.id, .int .i64 x.body, .int .i64 x.hepoch, .int .i64 x.hno]] w fun e w' => e = .returned (.tuple #[.agg #[.int .i64 3, .int .i64 ep, .int .i64 fr, .int .i64 pe, .int .i64 rd, .slice A l.length c], .int .i64 0]) ∧ Below w.heap.size w w' := by
 have S := (St.start w).addRd h; clear h
 have hb2 := hb
 unfold reachBytes at hb2
 refine fnw 11 Try.func185 ?_
 refine cw [0, 1] ?_
 refine x_sr (nb (row := #[.int .i64 ro, .int .i64 ep, .int .i64 fr, .int .i64 tg, .int .i64 rd, .slice A l.length c]) S ?_); intro b1 w2 S3; clear S
 refine nb (row := #[.int .i64 kd, .int .i64 qu, .int .i64 e, .int .i64 pe, .int .i64 x.kind, .int .i64 x.producer, .int .i64 x.id, .int .i64 x.body, .int .i64 x.hepoch, .int .i64 x.hno]) S3 ?_; intro b4 w5 S6; clear S3
 refine naB S6 Try.zeroValue108 ?_; intro b7 w8 S9; clear S6
 refine va ?_
 refine qk [2, 3, 4, 5] ?_
 refine wQ_then (wC_seq ?_)
 have S10 := S9.drew; clear S9
 refine wC_any_ (C := fun w' => St w.heap.size w w' [.blk b7 #[.int .i64 0, .int .i64 0, .int .i64 0, .int .i64 0, .int .i64 0, .slice none 0 0] 108, .blk b4 #[.int .i64 kd, .int .i64 qu, .int .i64 e, .int .i64 pe, .int .i64 x.kind, .int .i64 x.producer, .int .i64 x.id, .int .i64 x.body, .int .i64 x.hepoch, .int .i64 x.hno] 51, .rd 6 A l.length ((l).flatMap Ev.cells)]) (n := 6) (listed := #[false, false, false, false, false, false]) mixed rfl rfl ?_
 refine ak (v := .pointer (some ⟨b4, 3, none⟩)) 0 rfl (St.del 2 S10) (fun _ _ => yfa _ fa51_3) ?_
 refine ak (v := .int .i64 pe) 1 rfl (St.del 2 S10) (fun _ Sx12 => ylc 1 Sx12 Try.underlying3) ?_
 refine ak (v := .pointer (some ⟨b1, 0, none⟩)) 2 rfl (St.del 2 S10) (fun _ _ => yfa _ fa108_0) ?_
 refine aq1 3 ?_
 refine wN_st (i := 3) rfl rfl (cs := #[.int .i64 3]) (row' := #[.int .i64 3, .int .i64 ep, .int .i64 fr, .int .i64 tg, .int .i64 rd, .slice A l.length c]) (fs' := [_, _, .blk b1 #[.int .i64 3, .int .i64 ep, .int .i64 fr, .int .i64 tg, .int .i64 rd, .slice A l.length c] 108, _]) 2 S10 (wn rfl) rfl rfl rfl rfl rfl rfl inf3 rfl (oneAll rfl) (Nat.le_of_ble_eq_true rfl) rfl rfl ?_; intro w14 S15; clear S10
 refine ⟨(St.del 2 S15), ?_⟩
 refine ak (v := .pointer (some ⟨b1, 3, none⟩)) 4 rfl (St.del 2 S15) (fun _ _ => yfa _ fa108_3) ?_
 refine aq1 5 ?_
 refine wN_st (i := 5) rfl rfl (cs := #[.int .i64 pe]) (row' := #[.int .i64 3, .int .i64 ep, .int .i64 fr, .int .i64 pe, .int .i64 rd, .slice A l.length c]) (fs' := [_, _, .blk b1 #[.int .i64 3, .int .i64 ep, .int .i64 fr, .int .i64 pe, .int .i64 rd, .slice A l.length c] 108, _]) 2 S15 (wn rfl) rfl rfl rfl rfl rfl rfl inf3 rfl (oneAll rfl) (Nat.le_of_ble_eq_true rfl) rfl rfl ?_; intro w17 S18; clear S15
 refine ⟨(St.del 2 S18), ?_⟩
 refine wA_done (by kernel_rfl) ?_
 refine pk [2, 4, 5] ?_
 refine x_tsr (vv (ylr 2 S18 Try.underlying108 inf108) ?_)
 refine sa 0 S18 inf108 ?_; intro w19 S20; clear S18
 refine va ?_
 refine qk [4, 5] ?_
 refine x_te (pc 0 S20 Try.underlying108 inf108 ?_)
 exact ⟨rfl, S20.low⟩
end Go.Proofs.Ytkjlafpafmihaaa

namespace Go.Proofs.Ytkjlafpafmihaaa
open Go.ChangeShapes Go.WideShapes Go.RowKit

set_option maxRecDepth 100000 in
set_option maxHeartbeats 1000000 in
theorem only_add (ro ep fr tg rd : Int) (A : Option Addr) (c : Nat) (l : List Ev) (kd qu e pe : Int) (x : Ev) (z : Int) (b1 b2 : Nat) (hl2 : l.length ≤ 2000) (w : World) (h : Rd w w.heap.size 6 A l.length (evCells l)) (hb : l.length * 48 ≤ reachBytes) (h1 : Rd w w.heap.size 1 (some ⟨b1, 0, none⟩) 1 [.int .i64 z]) (h2 : Rd w w.heap.size 1 (some ⟨b2, 0, none⟩) 1 [.func (.func 184) #[] #[]]) :
    Calls Try.prog 193 #[.agg #[.int .i64 ro, .int .i64 ep, .int .i64 fr, .int .i64 tg, .int .i64 rd, .slice A l.length c], .agg #[.int .i64 kd, .int .i64 qu, .int .i64 e, .int .i64 pe, .int .i64 x.kind, .int .i64 x.producer, .int .i64 x.id, .int .i64 x.body, .int .i64 x.hepoch, .int .i64 x.hno], .pointer (some ⟨b1, 0, none⟩), .pointer (some ⟨b2, 0, none⟩)] w (BrtPost w (if ¬ (ro = z ∧ ep = e) then (zeroB, 3) else addM ⟨ro, ep, fr, tg, rd, l⟩ x)) := by
 have S := (((St.start w).addRd h2).addRd h1).addRd h; clear h h1 h2
 have hb2 := hb
 unfold reachBytes at hb2
 obtain ⟨R, hR⟩ : ∃ R, addM ⟨ro, ep, fr, tg, rd, l⟩ x = R := ⟨_, rfl⟩
 rw [hR]
 refine calls_of_wC (N := 26) (vs := [.agg #[.int .i64 ro, .int .i64 ep, .int .i64 fr, .int .i64 tg, .int .i64 rd, .slice A l.length c], .agg #[.int .i64 kd, .int .i64 qu, .int .i64 e, .int .i64 pe, .int .i64 x.kind, .int .i64 x.producer, .int .i64 x.id, .int .i64 x.body, .int .i64 x.hepoch, .int .i64 x.hno], .pointer (some ⟨b1, 0, none⟩), .pointer (some ⟨b2, 0, none⟩)]) Try.func193 rfl rfl rfl ?_
 refine cw [0, 1, 2, 3] ?_
 refine x_sr (nb (row := #[.int .i64 ro, .int .i64 ep, .int .i64 fr, .int .i64 tg, .int .i64 rd, .slice A l.length c]) S ?_); intro b1 w2 S3; clear S
 refine nb (row := #[.int .i64 kd, .int .i64 qu, .int .i64 e, .int .i64 pe, .int .i64 x.kind, .int .i64 x.producer, .int .i64 x.id, .int .i64 x.body, .int .i64 x.hepoch, .int .i64 x.hno]) S3 ?_; intro b4 w5 S6; clear S3
 refine naB S6 Try.zeroValue108 ?_; intro b7 w8 S9; clear S6
 refine va ?_
 refine qk [2, 3, 4, 5, 6, 7] ?_
 refine x_tssr (vv (yfa 0 fa108_0) ?_)
 refine vv (ylc 2 S9 Try.underlying3) ?_
 refine vv (v := .int .i64 z) (y_load rfl rfl (r_load Try.underlying3 rfl (Rd.cl (j := 0) (St.rd 4 S9 rfl) rfl))) ?_
 by_cases h10 : ro = z
 ·refine vv (yneqF h10) ?_
  refine vm ?_
  refine vg (yfa 1 fa108_1) ?_
  refine vg (ylc 2 S9 Try.underlying3) ?_
  refine vg (yfa 2 fa51_2) ?_
  refine vg (ylc 1 S9 Try.underlying3) ?_
  by_cases h11 : ep = e
  ·refine vg (yneqF h11) ?_
   refine vv ypF ?_
   refine qk [3, 4, 5, 6, 7, 18] ?_
   refine x_tnktsr (vv (v := .func (.func 184) #[] #[]) (y_load rfl rfl (r_load Try.underlying208 rfl (Rd.cl (j := 0) (St.rd 5 S9 rfl) rfl))) ?_)
   refine vv (ylr 2 S9 Try.underlying108 inf108) ?_
   refine vv (ylr 1 S9 Try.underlying51 inf51) ?_
   refine wL_call (vs := [.agg #[.int .i64 ro, .int .i64 ep, .int .i64 fr, .int .i64 tg, .int .i64 rd, .slice A l.length c], .agg #[.int .i64 kd, .int .i64 qu, .int .i64 e, .int .i64 pe, .int .i64 x.kind, .int .i64 x.producer, .int .i64 x.id, .int .i64 x.body, .int .i64 x.hepoch, .int .i64 x.hno]]) (wn rfl) rfl rfl (e_callv (first := []) (cap := []) (vs := [.agg #[.int .i64 ro, .int .i64 ep, .int .i64 fr, .int .i64 tg, .int .i64 rd, .slice A l.length c], .agg #[.int .i64 kd, .int .i64 qu, .int .i64 e, .int .i64 pe, .int .i64 x.kind, .int .i64 x.producer, .int .i64 x.id, .int .i64 x.body, .int .i64 x.hepoch, .int .i64 x.hno]]) rfl rfl en184 ⟨rfl, rfl, trivial⟩ rfl) ((hR ▸ radd_calls ro ep fr tg rd A c l kd qu e pe x hl2 _ (St.rd 3 S9 rfl) hb)) ?_
   rintro _ w14 ⟨A12, c13, rfl, T16⟩
   refine ⟨_, rfl, ?_⟩
   have S15 := S9.ext T16 rfl; clear T16 S9
   change St _ _ _ [.rdo 6 A12 R.1.evs.length ((R.1.evs).flatMap Ev.cells), _, _, _, _, _, _] at S15
   refine vv yx ?_
   refine vv yx ?_
   refine sa 1 S15 inf108 ?_; intro w17 S18; clear S15
   refine va ?_
   refine qk [6, 7] ?_
   refine x_te (pc 1 S18 Try.underlying108 inf108 ?_)
   rw [if_neg (by omega)]
   have S19 : St _ _ _ [_] := S18.dels [6, 5, 4, 3, 2, 1]; clear S18
   exact ⟨A12, c13, rfl, S19⟩
  ·refine vg (yneqT h11) ?_
   refine vv ypF ?_
   refine qk [3, 4, 5, 6, 7, 18] ?_
   refine x_tysr (vv yzB ?_)
   refine sa 0 S9 inf108 ?_; intro w20 S21; clear S9
   refine va ?_
   refine qk [6, 7] ?_
   refine x_teh (pc 0 S21 Try.underlying108 inf108 ?_)
   have S22 : St _ _ _ [] := S21.dels [5, 4, 3, 2, 1, 0]; clear S21
   rw [if_pos (by omega)]
   exact ⟨none, 0, rfl, rdo_nil S22⟩
 ·refine vv (yneqT h10) ?_
  refine vm ?_
  iterate 5 refine vs ?_
  refine vv ypT ?_
  refine qk [3, 4, 5, 6, 7, 18] ?_
  refine x_tysr (vv yzB ?_)
  refine sa 0 S9 inf108 ?_; intro w23 S24; clear S9
  refine va ?_
  refine qk [6, 7] ?_
  refine x_teh (pc 0 S24 Try.underlying108 inf108 ?_)
  have S25 : St _ _ _ [] := S24.dels [5, 4, 3, 2, 1, 0]; clear S24
  rw [if_pos (by omega)]
  exact ⟨none, 0, rfl, rdo_nil S25⟩

set_option maxRecDepth 100000 in
set_option maxHeartbeats 1000000 in
theorem only_seal (ro ep fr tg rd : Int) (A : Option Addr) (c : Nat) (l : List Ev) (kd qu e pe : Int) (x : Ev) (z : Int) (b1 b2 : Nat) (w : World) (h : Rd w w.heap.size 6 A l.length (evCells l)) (hb : l.length * 48 ≤ reachBytes) (h1 : Rd w w.heap.size 1 (some ⟨b1, 0, none⟩) 1 [.int .i64 z]) (h2 : Rd w w.heap.size 1 (some ⟨b2, 0, none⟩) 1 [.func (.func 185) #[] #[]]) :
    Calls Try.prog 193 #[.agg #[.int .i64 ro, .int .i64 ep, .int .i64 fr, .int .i64 tg, .int .i64 rd, .slice A l.length c], .agg #[.int .i64 kd, .int .i64 qu, .int .i64 e, .int .i64 pe, .int .i64 x.kind, .int .i64 x.producer, .int .i64 x.id, .int .i64 x.body, .int .i64 x.hepoch, .int .i64 x.hno], .pointer (some ⟨b1, 0, none⟩), .pointer (some ⟨b2, 0, none⟩)] w fun e' w' => (¬ (ro = z ∧ ep = e) ∧ e' = .returned (.tuple #[.agg #[.int .i64 0, .int .i64 0, .int .i64 0, .int .i64 0, .int .i64 0, .slice none 0 0], .int .i64 3]) ∨ (ro = z ∧ ep = e) ∧ e' = .returned (.tuple #[.agg #[.int .i64 3, .int .i64 ep, .int .i64 fr, .int .i64 pe, .int .i64 rd, .slice A l.length c], .int .i64 0])) ∧ Below w.heap.size w w' := by
 have S := (((St.start w).addRd h2).addRd h1).addRd h; clear h h1 h2
 have hb2 := hb
 unfold reachBytes at hb2
 refine calls_of_wC (N := 26) (vs := [.agg #[.int .i64 ro, .int .i64 ep, .int .i64 fr, .int .i64 tg, .int .i64 rd, .slice A l.length c], .agg #[.int .i64 kd, .int .i64 qu, .int .i64 e, .int .i64 pe, .int .i64 x.kind, .int .i64 x.producer, .int .i64 x.id, .int .i64 x.body, .int .i64 x.hepoch, .int .i64 x.hno], .pointer (some ⟨b1, 0, none⟩), .pointer (some ⟨b2, 0, none⟩)]) Try.func193 rfl rfl rfl ?_
 refine cw [0, 1, 2, 3] ?_
 refine x_sr (nb (row := #[.int .i64 ro, .int .i64 ep, .int .i64 fr, .int .i64 tg, .int .i64 rd, .slice A l.length c]) S ?_); intro b1 w2 S3; clear S
 refine nb (row := #[.int .i64 kd, .int .i64 qu, .int .i64 e, .int .i64 pe, .int .i64 x.kind, .int .i64 x.producer, .int .i64 x.id, .int .i64 x.body, .int .i64 x.hepoch, .int .i64 x.hno]) S3 ?_; intro b4 w5 S6; clear S3
 refine naB S6 Try.zeroValue108 ?_; intro b7 w8 S9; clear S6
 refine va ?_
 refine qk [2, 3, 4, 5, 6, 7] ?_
 refine x_tssr (vv (yfa 0 fa108_0) ?_)
 refine vv (ylc 2 S9 Try.underlying3) ?_
 refine vv (v := .int .i64 z) (y_load rfl rfl (r_load Try.underlying3 rfl (Rd.cl (j := 0) (St.rd 4 S9 rfl) rfl))) ?_
 by_cases h10 : ro = z
 ·refine vv (yneqF h10) ?_
  refine vm ?_
  refine vg (yfa 1 fa108_1) ?_
  refine vg (ylc 2 S9 Try.underlying3) ?_
  refine vg (yfa 2 fa51_2) ?_
  refine vg (ylc 1 S9 Try.underlying3) ?_
  by_cases h11 : ep = e
  ·refine vg (yneqF h11) ?_
   refine vv ypF ?_
   refine qk [3, 4, 5, 6, 7, 18] ?_
   refine x_tnktsr (vv (v := .func (.func 185) #[] #[]) (y_load rfl rfl (r_load Try.underlying208 rfl (Rd.cl (j := 0) (St.rd 5 S9 rfl) rfl))) ?_)
   refine vv (ylr 2 S9 Try.underlying108 inf108) ?_
   refine vv (ylr 1 S9 Try.underlying51 inf51) ?_
   refine wL_call (vs := [.agg #[.int .i64 ro, .int .i64 ep, .int .i64 fr, .int .i64 tg, .int .i64 rd, .slice A l.length c], .agg #[.int .i64 kd, .int .i64 qu, .int .i64 e, .int .i64 pe, .int .i64 x.kind, .int .i64 x.producer, .int .i64 x.id, .int .i64 x.body, .int .i64 x.hepoch, .int .i64 x.hno]]) (wn rfl) rfl rfl (e_callv (first := []) (cap := []) (vs := [.agg #[.int .i64 ro, .int .i64 ep, .int .i64 fr, .int .i64 tg, .int .i64 rd, .slice A l.length c], .agg #[.int .i64 kd, .int .i64 qu, .int .i64 e, .int .i64 pe, .int .i64 x.kind, .int .i64 x.producer, .int .i64 x.id, .int .i64 x.body, .int .i64 x.hepoch, .int .i64 x.hno]]) rfl rfl en185 ⟨rfl, rfl, trivial⟩ rfl) (acts2_calls ro ep fr tg rd A c l kd qu e pe x _ (St.rd 3 S9 rfl) hb) ?_
   rintro _ w12 ⟨rfl, hb14⟩
   refine ⟨_, rfl, ?_⟩
   have S13 := S9.on hb14; clear hb14 S9
   refine vv yx ?_
   refine vv yx ?_
   refine sa 0 S13 inf108 ?_; intro w15 S16; clear S13
   refine va ?_
   refine qk [6, 7] ?_
   refine x_te (pc 0 S16 Try.underlying108 inf108 ?_)
   exact ⟨.inr ⟨by omega, rfl⟩, S16.low⟩
  ·refine vg (yneqT h11) ?_
   refine vv ypF ?_
   refine qk [3, 4, 5, 6, 7, 18] ?_
   refine x_tysr (vv yzB ?_)
   refine sa 0 S9 inf108 ?_; intro w17 S18; clear S9
   refine va ?_
   refine qk [6, 7] ?_
   refine x_teh (pc 0 S18 Try.underlying108 inf108 ?_)
   exact ⟨.inl ⟨by omega, rfl⟩, S18.low⟩
 ·refine vv (yneqT h10) ?_
  refine vm ?_
  iterate 5 refine vs ?_
  refine vv ypT ?_
  refine qk [3, 4, 5, 6, 7, 18] ?_
  refine x_tysr (vv yzB ?_)
  refine sa 0 S9 inf108 ?_; intro w19 S20; clear S9
  refine va ?_
  refine qk [6, 7] ?_
  refine x_teh (pc 0 S20 Try.underlying108 inf108 ?_)
  exact ⟨.inl ⟨by omega, rfl⟩, S20.low⟩

set_option maxRecDepth 100000 in
set_option maxHeartbeats 1000000 in
theorem only_imp (ro ep fr tg rd : Int) (A : Option Addr) (c : Nat) (l : List Ev) (kd qu e pe : Int) (x : Ev) (z : Int) (b1 b2 : Nat) (hlc : l.length ≤ c) (w : World) (h : Rd w w.heap.size 6 A l.length (evCells l)) (hb : l.length * 48 ≤ reachBytes) (h1 : Rd w w.heap.size 1 (some ⟨b1, 0, none⟩) 1 [.int .i64 z]) (h2 : Rd w w.heap.size 1 (some ⟨b2, 0, none⟩) 1 [.func (.func 187) #[] #[]]) :
    Calls Try.prog 193 #[.agg #[.int .i64 ro, .int .i64 ep, .int .i64 fr, .int .i64 tg, .int .i64 rd, .slice A l.length c], .agg #[.int .i64 kd, .int .i64 qu, .int .i64 e, .int .i64 pe, .int .i64 x.kind, .int .i64 x.producer, .int .i64 x.id, .int .i64 x.body, .int .i64 x.hepoch, .int .i64 x.hno], .pointer (some ⟨b1, 0, none⟩), .pointer (some ⟨b2, 0, none⟩)] w (BrtPost w (if ¬ (ro = z ∧ ep = e) then (zeroB, 3) else importM ⟨ro, ep, fr, tg, rd, l⟩ e ((l.length : Nat) : Int) [] true)) := by
 have S := (((St.start w).addRd h2).addRd h1).addRd h; clear h h1 h2
 have hb2 := hb
 unfold reachBytes at hb2
 obtain ⟨R, hR⟩ : ∃ R, importM ⟨ro, ep, fr, tg, rd, l⟩ e ((l.length : Nat) : Int) [] true = R := ⟨_, rfl⟩
 rw [hR]
 refine calls_of_wC (N := 26) (vs := [.agg #[.int .i64 ro, .int .i64 ep, .int .i64 fr, .int .i64 tg, .int .i64 rd, .slice A l.length c], .agg #[.int .i64 kd, .int .i64 qu, .int .i64 e, .int .i64 pe, .int .i64 x.kind, .int .i64 x.producer, .int .i64 x.id, .int .i64 x.body, .int .i64 x.hepoch, .int .i64 x.hno], .pointer (some ⟨b1, 0, none⟩), .pointer (some ⟨b2, 0, none⟩)]) Try.func193 rfl rfl rfl ?_
 refine cw [0, 1, 2, 3] ?_
 refine x_sr (nb (row := #[.int .i64 ro, .int .i64 ep, .int .i64 fr, .int .i64 tg, .int .i64 rd, .slice A l.length c]) S ?_); intro b1 w2 S3; clear S
 refine nb (row := #[.int .i64 kd, .int .i64 qu, .int .i64 e, .int .i64 pe, .int .i64 x.kind, .int .i64 x.producer, .int .i64 x.id, .int .i64 x.body, .int .i64 x.hepoch, .int .i64 x.hno]) S3 ?_; intro b4 w5 S6; clear S3
 refine naB S6 Try.zeroValue108 ?_; intro b7 w8 S9; clear S6
 refine va ?_
 refine qk [2, 3, 4, 5, 6, 7] ?_
 refine x_tssr (vv (yfa 0 fa108_0) ?_)
 refine vv (ylc 2 S9 Try.underlying3) ?_
 refine vv (v := .int .i64 z) (y_load rfl rfl (r_load Try.underlying3 rfl (Rd.cl (j := 0) (St.rd 4 S9 rfl) rfl))) ?_
 by_cases h10 : ro = z
 ·refine vv (yneqF h10) ?_
  refine vm ?_
  refine vg (yfa 1 fa108_1) ?_
  refine vg (ylc 2 S9 Try.underlying3) ?_
  refine vg (yfa 2 fa51_2) ?_
  refine vg (ylc 1 S9 Try.underlying3) ?_
  by_cases h11 : ep = e
  ·refine vg (yneqF h11) ?_
   refine vv ypF ?_
   refine qk [3, 4, 5, 6, 7, 18] ?_
   refine x_tnktsr (vv (v := .func (.func 187) #[] #[]) (y_load rfl rfl (r_load Try.underlying208 rfl (Rd.cl (j := 0) (St.rd 5 S9 rfl) rfl))) ?_)
   refine vv (ylr 2 S9 Try.underlying108 inf108) ?_
   refine vv (ylr 1 S9 Try.underlying51 inf51) ?_
   refine wL_call (vs := [.agg #[.int .i64 ro, .int .i64 ep, .int .i64 fr, .int .i64 tg, .int .i64 rd, .slice A l.length c], .agg #[.int .i64 kd, .int .i64 qu, .int .i64 e, .int .i64 pe, .int .i64 x.kind, .int .i64 x.producer, .int .i64 x.id, .int .i64 x.body, .int .i64 x.hepoch, .int .i64 x.hno]]) (wn rfl) rfl rfl (e_callv (first := []) (cap := []) (vs := [.agg #[.int .i64 ro, .int .i64 ep, .int .i64 fr, .int .i64 tg, .int .i64 rd, .slice A l.length c], .agg #[.int .i64 kd, .int .i64 qu, .int .i64 e, .int .i64 pe, .int .i64 x.kind, .int .i64 x.producer, .int .i64 x.id, .int .i64 x.body, .int .i64 x.hepoch, .int .i64 x.hno]]) rfl rfl en187 ⟨rfl, rfl, trivial⟩ rfl) ((hR ▸ acts4_calls ro ep fr tg rd A c l kd qu e pe x hlc _ (St.rd 3 S9 rfl) hb)) ?_
   rintro _ w14 ⟨A12, c13, rfl, T16⟩
   refine ⟨_, rfl, ?_⟩
   have S15 := S9.ext T16 rfl; clear T16 S9
   change St _ _ _ [.rdo 6 A12 R.1.evs.length ((R.1.evs).flatMap Ev.cells), _, _, _, _, _, _] at S15
   refine vv yx ?_
   refine vv yx ?_
   refine sa 1 S15 inf108 ?_; intro w17 S18; clear S15
   refine va ?_
   refine qk [6, 7] ?_
   refine x_te (pc 1 S18 Try.underlying108 inf108 ?_)
   rw [if_neg (by omega)]
   have S19 : St _ _ _ [_] := S18.dels [6, 5, 4, 3, 2, 1]; clear S18
   exact ⟨A12, c13, rfl, S19⟩
  ·refine vg (yneqT h11) ?_
   refine vv ypF ?_
   refine qk [3, 4, 5, 6, 7, 18] ?_
   refine x_tysr (vv yzB ?_)
   refine sa 0 S9 inf108 ?_; intro w20 S21; clear S9
   refine va ?_
   refine qk [6, 7] ?_
   refine x_teh (pc 0 S21 Try.underlying108 inf108 ?_)
   have S22 : St _ _ _ [] := S21.dels [5, 4, 3, 2, 1, 0]; clear S21
   rw [if_pos (by omega)]
   exact ⟨none, 0, rfl, rdo_nil S22⟩
 ·refine vv (yneqT h10) ?_
  refine vm ?_
  iterate 5 refine vs ?_
  refine vv ypT ?_
  refine qk [3, 4, 5, 6, 7, 18] ?_
  refine x_tysr (vv yzB ?_)
  refine sa 0 S9 inf108 ?_; intro w23 S24; clear S9
  refine va ?_
  refine qk [6, 7] ?_
  refine x_teh (pc 0 S24 Try.underlying108 inf108 ?_)
  have S25 : St _ _ _ [] := S24.dels [5, 4, 3, 2, 1, 0]; clear S24
  rw [if_pos (by omega)]
  exact ⟨none, 0, rfl, rdo_nil S25⟩

set_option maxRecDepth 100000 in
set_option maxHeartbeats 1000000 in
theorem only_fgt (ro ep fr tg rd : Int) (A : Option Addr) (c : Nat) (l : List Ev) (kd qu e pe : Int) (x : Ev) (z : Int) (b1 b2 : Nat) (he : 0 ≤ e ∧ e ≤ 1048576) (w : World) (h : Rd w w.heap.size 6 A l.length (evCells l)) (hb : l.length * 48 ≤ reachBytes) (h1 : Rd w w.heap.size 1 (some ⟨b1, 0, none⟩) 1 [.int .i64 z]) (h2 : Rd w w.heap.size 1 (some ⟨b2, 0, none⟩) 1 [.func (.func 188) #[] #[]]) :
    Calls Try.prog 193 #[.agg #[.int .i64 ro, .int .i64 ep, .int .i64 fr, .int .i64 tg, .int .i64 rd, .slice A l.length c], .agg #[.int .i64 kd, .int .i64 qu, .int .i64 e, .int .i64 pe, .int .i64 x.kind, .int .i64 x.producer, .int .i64 x.id, .int .i64 x.body, .int .i64 x.hepoch, .int .i64 x.hno], .pointer (some ⟨b1, 0, none⟩), .pointer (some ⟨b2, 0, none⟩)] w (BrtPost w (if ¬ (ro = z ∧ ep = e) then (zeroB, 3) else forgetM ⟨ro, ep, fr, tg, rd, l⟩ (e + 1))) := by
 have S := (((St.start w).addRd h2).addRd h1).addRd h; clear h h1 h2
 have hb2 := hb
 unfold reachBytes at hb2
 obtain ⟨R, hR⟩ : ∃ R, forgetM ⟨ro, ep, fr, tg, rd, l⟩ (e + 1) = R := ⟨_, rfl⟩
 rw [hR]
 refine calls_of_wC (N := 26) (vs := [.agg #[.int .i64 ro, .int .i64 ep, .int .i64 fr, .int .i64 tg, .int .i64 rd, .slice A l.length c], .agg #[.int .i64 kd, .int .i64 qu, .int .i64 e, .int .i64 pe, .int .i64 x.kind, .int .i64 x.producer, .int .i64 x.id, .int .i64 x.body, .int .i64 x.hepoch, .int .i64 x.hno], .pointer (some ⟨b1, 0, none⟩), .pointer (some ⟨b2, 0, none⟩)]) Try.func193 rfl rfl rfl ?_
 refine cw [0, 1, 2, 3] ?_
 refine x_sr (nb (row := #[.int .i64 ro, .int .i64 ep, .int .i64 fr, .int .i64 tg, .int .i64 rd, .slice A l.length c]) S ?_); intro b1 w2 S3; clear S
 refine nb (row := #[.int .i64 kd, .int .i64 qu, .int .i64 e, .int .i64 pe, .int .i64 x.kind, .int .i64 x.producer, .int .i64 x.id, .int .i64 x.body, .int .i64 x.hepoch, .int .i64 x.hno]) S3 ?_; intro b4 w5 S6; clear S3
 refine naB S6 Try.zeroValue108 ?_; intro b7 w8 S9; clear S6
 refine va ?_
 refine qk [2, 3, 4, 5, 6, 7] ?_
 refine x_tssr (vv (yfa 0 fa108_0) ?_)
 refine vv (ylc 2 S9 Try.underlying3) ?_
 refine vv (v := .int .i64 z) (y_load rfl rfl (r_load Try.underlying3 rfl (Rd.cl (j := 0) (St.rd 4 S9 rfl) rfl))) ?_
 by_cases h10 : ro = z
 ·refine vv (yneqF h10) ?_
  refine vm ?_
  refine vg (yfa 1 fa108_1) ?_
  refine vg (ylc 2 S9 Try.underlying3) ?_
  refine vg (yfa 2 fa51_2) ?_
  refine vg (ylc 1 S9 Try.underlying3) ?_
  by_cases h11 : ep = e
  ·refine vg (yneqF h11) ?_
   refine vv ypF ?_
   refine qk [3, 4, 5, 6, 7, 18] ?_
   refine x_tnktsr (vv (v := .func (.func 188) #[] #[]) (y_load rfl rfl (r_load Try.underlying208 rfl (Rd.cl (j := 0) (St.rd 5 S9 rfl) rfl))) ?_)
   refine vv (ylr 2 S9 Try.underlying108 inf108) ?_
   refine vv (ylr 1 S9 Try.underlying51 inf51) ?_
   refine wL_call (vs := [.agg #[.int .i64 ro, .int .i64 ep, .int .i64 fr, .int .i64 tg, .int .i64 rd, .slice A l.length c], .agg #[.int .i64 kd, .int .i64 qu, .int .i64 e, .int .i64 pe, .int .i64 x.kind, .int .i64 x.producer, .int .i64 x.id, .int .i64 x.body, .int .i64 x.hepoch, .int .i64 x.hno]]) (wn rfl) rfl rfl (e_callv (first := []) (cap := []) (vs := [.agg #[.int .i64 ro, .int .i64 ep, .int .i64 fr, .int .i64 tg, .int .i64 rd, .slice A l.length c], .agg #[.int .i64 kd, .int .i64 qu, .int .i64 e, .int .i64 pe, .int .i64 x.kind, .int .i64 x.producer, .int .i64 x.id, .int .i64 x.body, .int .i64 x.hepoch, .int .i64 x.hno]]) rfl rfl en188 ⟨rfl, rfl, trivial⟩ rfl) ((hR ▸ acts5_calls ro ep fr tg rd A c l kd qu e pe x he _ (St.rd 3 S9 rfl) hb)) ?_
   rintro _ w14 ⟨A12, c13, rfl, T16⟩
   refine ⟨_, rfl, ?_⟩
   have S15 := S9.ext T16 rfl; clear T16 S9
   change St _ _ _ [.rdo 6 A12 R.1.evs.length ((R.1.evs).flatMap Ev.cells), _, _, _, _, _, _] at S15
   refine vv yx ?_
   refine vv yx ?_
   refine sa 1 S15 inf108 ?_; intro w17 S18; clear S15
   refine va ?_
   refine qk [6, 7] ?_
   refine x_te (pc 1 S18 Try.underlying108 inf108 ?_)
   rw [if_neg (by omega)]
   have S19 : St _ _ _ [_] := S18.dels [6, 5, 4, 3, 2, 1]; clear S18
   exact ⟨A12, c13, rfl, S19⟩
  ·refine vg (yneqT h11) ?_
   refine vv ypF ?_
   refine qk [3, 4, 5, 6, 7, 18] ?_
   refine x_tysr (vv yzB ?_)
   refine sa 0 S9 inf108 ?_; intro w20 S21; clear S9
   refine va ?_
   refine qk [6, 7] ?_
   refine x_teh (pc 0 S21 Try.underlying108 inf108 ?_)
   have S22 : St _ _ _ [] := S21.dels [5, 4, 3, 2, 1, 0]; clear S21
   rw [if_pos (by omega)]
   exact ⟨none, 0, rfl, rdo_nil S22⟩
 ·refine vv (yneqT h10) ?_
  refine vm ?_
  iterate 5 refine vs ?_
  refine vv ypT ?_
  refine qk [3, 4, 5, 6, 7, 18] ?_
  refine x_tysr (vv yzB ?_)
  refine sa 0 S9 inf108 ?_; intro w23 S24; clear S9
  refine va ?_
  refine qk [6, 7] ?_
  refine x_teh (pc 0 S24 Try.underlying108 inf108 ?_)
  have S25 : St _ _ _ [] := S24.dels [5, 4, 3, 2, 1, 0]; clear S24
  rw [if_pos (by omega)]
  exact ⟨none, 0, rfl, rdo_nil S25⟩

set_option maxRecDepth 100000 in
set_option maxHeartbeats 1000000 in
theorem ronly_calls (z : Int) (n : FuncId) (w : World) :
    Calls Try.prog 183 #[.int .i64 z, .func (.func n) #[] #[]] w fun e w' => ∃ b1 b2, e = .returned (.func (.func 193) #[] #[.pointer (some ⟨b1, 0, none⟩), .pointer (some ⟨b2, 0, none⟩)]) ∧ St w.heap.size w w' [.blk b1 #[.int .i64 z] 3, .blk b2 #[.func (.func n) #[] #[]] 208] := by
 have S := St.start w
 refine fnw 6 Try.func183 ?_
 refine cw [0, 1] ?_
 refine x_sr (nb (row := #[.int .i64 z]) S ?_); intro b1 w2 S3; clear S
 refine nb (row := #[.func (.func n) #[] #[]]) S3 ?_; intro b4 w5 S6; clear S3
 refine va ?_
 refine qk [2, 3, 4] ?_
 refine x_tsr (vv (v := .func (.func 193) #[] #[.pointer (some ⟨b1, 0, none⟩), .pointer (some ⟨b4, 0, none⟩)]) (y_makeFunc (vs := []) (us := [.pointer (some ⟨b1, 0, none⟩), .pointer (some ⟨b4, 0, none⟩)]) rfl trivial ⟨rfl, rfl, trivial⟩) ?_)
 refine va ?_
 refine qk [2, 3, 4] ?_
 refine x_te (wQ_post (rs := [.tmp 4]) (vs := [.func (.func 193) #[] #[.pointer (some ⟨b1, 0, none⟩), .pointer (some ⟨b4, 0, none⟩)]]) rfl ⟨rfl, trivial⟩ ?_)
 have S7 : St w.heap.size w w5 [_, _] := S6.re [1, 0] (by decide); clear S6
 exact ⟨b1, b4, rfl, S7⟩

def ActsPost (w : World) (e : Ending) (w' : World) : Prop := ∃ m d1 g1 d2 g2 d3 g3 d4 g4 d5 g5, e = .returned (.map (some m)) ∧ St w.heap.size w w' [.blk d5 #[.int .i64 3] 3, .blk g5 #[.func (.func 188) #[] #[]] 208, .blk d4 #[.int .i64 4] 3, .blk g4 #[.func (.func 187) #[] #[]] 208, .blk d3 #[.int .i64 4] 3, .blk g3 #[.func (.func 184) #[] #[]] 208, .blk d2 #[.int .i64 1] 3, .blk g2 #[.func (.func 185) #[] #[]] 208, .blk d1 #[.int .i64 1] 3, .blk g1 #[.func (.func 184) #[] #[]] 208, .loc m (FMap Try.prog 3 (fun y => if y = 7 then some (.func (.func 193) #[] #[.pointer (some ⟨d5, 0, none⟩), .pointer (some ⟨g5, 0, none⟩)]) else (fun y => if y = 6 then some (.func (.func 193) #[] #[.pointer (some ⟨d4, 0, none⟩), .pointer (some ⟨g4, 0, none⟩)]) else (fun y => if y = 5 then some (.func (.func 193) #[] #[.pointer (some ⟨d3, 0, none⟩), .pointer (some ⟨g3, 0, none⟩)]) else (fun y => if y = 4 then some (.func (.func 186) #[] #[]) else (fun y => if y = 3 then some (.func (.func 193) #[] #[.pointer (some ⟨d2, 0, none⟩), .pointer (some ⟨g2, 0, none⟩)]) else (fun y => if y = 2 then some (.func (.func 193) #[] #[.pointer (some ⟨d1, 0, none⟩), .pointer (some ⟨g1, 0, none⟩)]) else (fun y => if y = 1 then some (.func (.func 182) #[] #[]) else (fun _ => none) y) y) y) y) y) y) y) 7)]

set_option maxRecDepth 100000 in
set_option maxHeartbeats 1000000 in
theorem racts_calls (w : World) :
    Calls Try.prog 164 #[] w (ActsPost w) := by
 have S := St.start w
 refine fnw 8 Try.func164 ?_
 refine wC_sub (l' := []) trivial (wC_seq (wC_region (va ?_)))
 refine wL_nil (wQ_then (wC_seq (wC_region (wL_makeF (k := 3) S (wn rfl) rfl rfl rfl ?_)))); intro b1 w2 S3; clear S
 refine wL_insF (e := 208) 0 S3 (wn rfl) rfl rfl rfl rfl rfl rfl Try.underlying3 Try.underlying209 (by decide) (by decide) ?_; intro w4 S5; clear S3
 change St _ _ _ [.loc b1 (FMap Try.prog 3 (fun y => if y = 1 then some (.func (.func 182) #[] #[]) else (fun _ => none) y) 1)] at S5
 refine cal en183 (ronly_calls 1 184 _) ?_
 rintro _ w8 ⟨b6, b7, rfl, T10⟩
 refine ⟨_, rfl, ?_⟩
 have S9 := S5.ext T10 rfl; clear T10 S5
 change St _ _ _ [.blk b6 #[.int .i64 1] 3, .blk b7 #[.func (.func 184) #[] #[]] 208, _] at S9
 refine wL_insF (e := 208) 2 S9 (wn rfl) rfl rfl rfl rfl rfl rfl Try.underlying3 Try.underlying209 (by decide) (by decide) ?_; intro w11 S12; clear S9
 change St _ _ _ [.blk b6 #[.int .i64 1] 3, .blk b7 #[.func (.func 184) #[] #[]] 208, .loc b1 (FMap Try.prog 3 (fun y => if y = 2 then some (.func (.func 193) #[] #[.pointer (some ⟨b6, 0, none⟩), .pointer (some ⟨b7, 0, none⟩)]) else (fun y => if y = 1 then some (.func (.func 182) #[] #[]) else (fun _ => none) y) y) 2)] at S12
 refine cal en183 (ronly_calls 1 185 _) ?_
 rintro _ w15 ⟨b13, b14, rfl, T17⟩
 refine ⟨_, rfl, ?_⟩
 have S16 := S12.ext T17 rfl; clear T17 S12
 change St _ _ _ [.blk b13 #[.int .i64 1] 3, .blk b14 #[.func (.func 185) #[] #[]] 208, _, _, _] at S16
 refine wL_insF (e := 208) 4 S16 (wn rfl) rfl rfl rfl rfl rfl rfl Try.underlying3 Try.underlying209 (by decide) (by decide) ?_; intro w18 S19; clear S16
 change St _ _ _ [.blk b13 #[.int .i64 1] 3, .blk b14 #[.func (.func 185) #[] #[]] 208, .blk b6 #[.int .i64 1] 3, .blk b7 #[.func (.func 184) #[] #[]] 208, .loc b1 (FMap Try.prog 3 (fun y => if y = 3 then some (.func (.func 193) #[] #[.pointer (some ⟨b13, 0, none⟩), .pointer (some ⟨b14, 0, none⟩)]) else (fun y => if y = 2 then some (.func (.func 193) #[] #[.pointer (some ⟨b6, 0, none⟩), .pointer (some ⟨b7, 0, none⟩)]) else (fun y => if y = 1 then some (.func (.func 182) #[] #[]) else (fun _ => none) y) y) y) 3)] at S19
 refine wL_insF (e := 208) 4 S19 (wn rfl) rfl rfl rfl rfl rfl rfl Try.underlying3 Try.underlying209 (by decide) (by decide) ?_; intro w20 S21; clear S19
 change St _ _ _ [.blk b13 #[.int .i64 1] 3, .blk b14 #[.func (.func 185) #[] #[]] 208, .blk b6 #[.int .i64 1] 3, .blk b7 #[.func (.func 184) #[] #[]] 208, .loc b1 (FMap Try.prog 3 (fun y => if y = 4 then some (.func (.func 186) #[] #[]) else (fun y => if y = 3 then some (.func (.func 193) #[] #[.pointer (some ⟨b13, 0, none⟩), .pointer (some ⟨b14, 0, none⟩)]) else (fun y => if y = 2 then some (.func (.func 193) #[] #[.pointer (some ⟨b6, 0, none⟩), .pointer (some ⟨b7, 0, none⟩)]) else (fun y => if y = 1 then some (.func (.func 182) #[] #[]) else (fun _ => none) y) y) y) y) 4)] at S21
 refine cal en183 (ronly_calls 4 184 _) ?_
 rintro _ w24 ⟨b22, b23, rfl, T26⟩
 refine ⟨_, rfl, ?_⟩
 have S25 := S21.ext T26 rfl; clear T26 S21
 change St _ _ _ [.blk b22 #[.int .i64 4] 3, .blk b23 #[.func (.func 184) #[] #[]] 208, _, _, _, _, _] at S25
 refine wL_insF (e := 208) 6 S25 (wn rfl) rfl rfl rfl rfl rfl rfl Try.underlying3 Try.underlying209 (by decide) (by decide) ?_; intro w27 S28; clear S25
 change St _ _ _ [.blk b22 #[.int .i64 4] 3, .blk b23 #[.func (.func 184) #[] #[]] 208, .blk b13 #[.int .i64 1] 3, .blk b14 #[.func (.func 185) #[] #[]] 208, .blk b6 #[.int .i64 1] 3, .blk b7 #[.func (.func 184) #[] #[]] 208, .loc b1 (FMap Try.prog 3 (fun y => if y = 5 then some (.func (.func 193) #[] #[.pointer (some ⟨b22, 0, none⟩), .pointer (some ⟨b23, 0, none⟩)]) else (fun y => if y = 4 then some (.func (.func 186) #[] #[]) else (fun y => if y = 3 then some (.func (.func 193) #[] #[.pointer (some ⟨b13, 0, none⟩), .pointer (some ⟨b14, 0, none⟩)]) else (fun y => if y = 2 then some (.func (.func 193) #[] #[.pointer (some ⟨b6, 0, none⟩), .pointer (some ⟨b7, 0, none⟩)]) else (fun y => if y = 1 then some (.func (.func 182) #[] #[]) else (fun _ => none) y) y) y) y) y) 5)] at S28
 refine cal en183 (ronly_calls 4 187 _) ?_
 rintro _ w31 ⟨b29, b30, rfl, T33⟩
 refine ⟨_, rfl, ?_⟩
 have S32 := S28.ext T33 rfl; clear T33 S28
 change St _ _ _ [.blk b29 #[.int .i64 4] 3, .blk b30 #[.func (.func 187) #[] #[]] 208, _, _, _, _, _, _, _] at S32
 refine wL_insF (e := 208) 8 S32 (wn rfl) rfl rfl rfl rfl rfl rfl Try.underlying3 Try.underlying209 (by decide) (by decide) ?_; intro w34 S35; clear S32
 change St _ _ _ [.blk b29 #[.int .i64 4] 3, .blk b30 #[.func (.func 187) #[] #[]] 208, .blk b22 #[.int .i64 4] 3, .blk b23 #[.func (.func 184) #[] #[]] 208, .blk b13 #[.int .i64 1] 3, .blk b14 #[.func (.func 185) #[] #[]] 208, .blk b6 #[.int .i64 1] 3, .blk b7 #[.func (.func 184) #[] #[]] 208, .loc b1 (FMap Try.prog 3 (fun y => if y = 6 then some (.func (.func 193) #[] #[.pointer (some ⟨b29, 0, none⟩), .pointer (some ⟨b30, 0, none⟩)]) else (fun y => if y = 5 then some (.func (.func 193) #[] #[.pointer (some ⟨b22, 0, none⟩), .pointer (some ⟨b23, 0, none⟩)]) else (fun y => if y = 4 then some (.func (.func 186) #[] #[]) else (fun y => if y = 3 then some (.func (.func 193) #[] #[.pointer (some ⟨b13, 0, none⟩), .pointer (some ⟨b14, 0, none⟩)]) else (fun y => if y = 2 then some (.func (.func 193) #[] #[.pointer (some ⟨b6, 0, none⟩), .pointer (some ⟨b7, 0, none⟩)]) else (fun y => if y = 1 then some (.func (.func 182) #[] #[]) else (fun _ => none) y) y) y) y) y) y) 6)] at S35
 refine cal en183 (ronly_calls 3 188 _) ?_
 rintro _ w38 ⟨b36, b37, rfl, T40⟩
 refine ⟨_, rfl, ?_⟩
 have S39 := S35.ext T40 rfl; clear T40 S35
 change St _ _ _ [.blk b36 #[.int .i64 3] 3, .blk b37 #[.func (.func 188) #[] #[]] 208, _, _, _, _, _, _, _, _, _] at S39
 refine wL_insF (e := 208) 10 S39 (wn rfl) rfl rfl rfl rfl rfl rfl Try.underlying3 Try.underlying209 (by decide) (by decide) ?_; intro w41 S42; clear S39
 change St _ _ _ [.blk b36 #[.int .i64 3] 3, .blk b37 #[.func (.func 188) #[] #[]] 208, .blk b29 #[.int .i64 4] 3, .blk b30 #[.func (.func 187) #[] #[]] 208, .blk b22 #[.int .i64 4] 3, .blk b23 #[.func (.func 184) #[] #[]] 208, .blk b13 #[.int .i64 1] 3, .blk b14 #[.func (.func 185) #[] #[]] 208, .blk b6 #[.int .i64 1] 3, .blk b7 #[.func (.func 184) #[] #[]] 208, .loc b1 (FMap Try.prog 3 (fun y => if y = 7 then some (.func (.func 193) #[] #[.pointer (some ⟨b36, 0, none⟩), .pointer (some ⟨b37, 0, none⟩)]) else (fun y => if y = 6 then some (.func (.func 193) #[] #[.pointer (some ⟨b29, 0, none⟩), .pointer (some ⟨b30, 0, none⟩)]) else (fun y => if y = 5 then some (.func (.func 193) #[] #[.pointer (some ⟨b22, 0, none⟩), .pointer (some ⟨b23, 0, none⟩)]) else (fun y => if y = 4 then some (.func (.func 186) #[] #[]) else (fun y => if y = 3 then some (.func (.func 193) #[] #[.pointer (some ⟨b13, 0, none⟩), .pointer (some ⟨b14, 0, none⟩)]) else (fun y => if y = 2 then some (.func (.func 193) #[] #[.pointer (some ⟨b6, 0, none⟩), .pointer (some ⟨b7, 0, none⟩)]) else (fun y => if y = 1 then some (.func (.func 182) #[] #[]) else (fun _ => none) y) y) y) y) y) y) y) 7)] at S42
 refine vm ?_
 refine va ?_
 refine qk [0] ?_
 refine x_te (pt ?_)
 exact ⟨b1, b6, b7, b13, b14, b22, b23, b29, b30, b36, b37, rfl, S42⟩
end Go.Proofs.Ytkjlafpafmihaaa

namespace Go.Proofs.Ytkjlafpafmihaaa
open Go.ChangeShapes Go.WideShapes Go.RowKit

def ApplyPost (w : World) (r : Brt × Int) (e : Ending) (w' : World) : Prop := ∃ A c, ∃ _ : r.1.evs.length ≤ c, e = .returned (.tuple #[.agg #[.int .i64 r.1.role, .int .i64 r.1.ep, .int .i64 r.1.fr, .int .i64 r.1.tg, .int .i64 r.1.rd, .slice A r.1.evs.length c], .int .i64 r.2]) ∧ St w.heap.size w w' [.rdo 6 A r.1.evs.length (evCells r.1.evs)]
section
variable {b : Brt} {r : Rcd} {qu e pe : Int} {x : Ev}
theorem rec_zero (h : recFault r = 0) : 1 ≤ r.kind ∧ r.kind ≤ 7 ∧ 0 ≤ r.queue ∧ r.queue ≤ 3 ∧ 0 ≤ r.epoch ∧ r.epoch ≤ 1048576 ∧ 0 ≤ r.peer ∧ r.peer ≤ 4 := by
  unfold recFault at h
  split at h
  · cases h
  · rename_i h1
    split at h
    · cases h
    · rename_i h2
      simp [inR] at h1 h2
      omega
theorem rec_kind (h : ¬ (1 ≤ r.kind ∧ r.kind ≤ 7)) : recFault r = 3 := by
  unfold recFault
  rw [if_pos (by simp [inR]; omega)]
theorem apply_bf (h : ¬ brtFault b = 0) : applyM b r = (zeroB, brtFault b) := by unfold applyM; rw [if_pos h]
theorem apply_rf (h : brtFault b = 0) (h1 : ¬ recFault r = 0) : applyM b r = (zeroB, recFault r) := by unfold applyM; rw [if_neg (fun k => k h), if_pos h1]
theorem apply_x (h : brtFault b = 0) (h1 : recFault r = 0) (h2 : b.role = 2 ∨ (r.kind ≠ 3 ∧ r.kind ≠ 4 ∧ r.peer ≠ 0)) : applyM b r = (zeroB, 3) := by unfold applyM; rw [if_neg (fun k => k h), if_neg (fun k => k h1), if_pos h2]
theorem apply_no (h : brtFault b = 0) (h1 : recFault r = 0) (h3 : ¬ (actM b r).2 = 0) : applyM b r = (zeroB, 3) := by
  unfold applyM; rw [if_neg (fun k => k h), if_neg (fun k => k h1)]; split
  · rfl
  · first | rfl | rw [if_pos h3]
theorem apply_go (h : brtFault b = 0) (h1 : recFault r = 0) (h2 : ¬ (b.role = 2 ∨ (r.kind ≠ 3 ∧ r.kind ≠ 4 ∧ r.peer ≠ 0))) (h3 : (actM b r).2 = 0) : applyM b r = ((actM b r).1, 0) := by
  unfold applyM; rw [if_neg (fun k => k h), if_neg (fun k => k h1), if_neg h2, if_neg (fun k => k h3)]
theorem act_k1 : actM b ⟨1, qu, e, pe, x⟩ = makeM b e := by simp [actM]
theorem act_k2 : actM b ⟨2, qu, e, pe, x⟩ = if ¬ (b.role = 1 ∧ b.ep = e) then (zeroB, 3) else addM b x := by simp [actM]
theorem act_k3 : actM b ⟨3, qu, e, pe, x⟩ = if ¬ (b.role = 1 ∧ b.ep = e) then (zeroB, 3) else sealM b pe := by simp [actM]
theorem act_k4 : actM b ⟨4, qu, e, pe, x⟩ = beginM b e pe := by simp [actM]
theorem act_k5 : actM b ⟨5, qu, e, pe, x⟩ = if ¬ (b.role = 4 ∧ b.ep = e) then (zeroB, 3) else addM b x := by simp [actM]
theorem act_k6 : actM b ⟨6, qu, e, pe, x⟩ = if ¬ (b.role = 4 ∧ b.ep = e) then (zeroB, 3) else importM b e b.evs.length [] true := by simp [actM]
theorem act_k7 : actM b ⟨7, qu, e, pe, x⟩ = if ¬ (b.role = 3 ∧ b.ep = e) then (zeroB, 3) else forgetM b (e + 1) := by simp [actM]
theorem imp0_len {a : Int} : (importM b e a [] true).1.evs.length ≤ b.evs.length + 1 := by
  unfold importM
  repeat' split
  all_goals simp [zeroB]
theorem actM_len : (actM b r).1.evs.length ≤ b.evs.length + 1 := by
  have h6 := imp0_len (b := b) (e := r.epoch) (a := b.evs.length)
  unfold actM
  (repeat' split) <;> first | exact h6 | (unfold makeM; (repeat' split) <;> simp [zeroB]) | (unfold beginM; (repeat' split) <;> simp [zeroB]) | (unfold forgetM; (repeat' split) <;> simp [zeroB]) | (unfold addM; (repeat' split) <;> simp [zeroB]) | simp [zeroB, sealM]
end

theorem fit_yes {P : Program} {f : FuncId} {vs : Array Value} {w : World} {p : Prop} {X Y : Ending} {B : Nat} (h : Calls P f vs w (fun e' w' => (¬ p ∧ e' = X ∨ p ∧ e' = Y) ∧ Below B w w')) (hp : p) : Calls P f vs w (fun e' w' => e' = Y ∧ Below B w w') :=
  h.mono fun _ _ k => ⟨k.1.elim (fun q => absurd hp q.1) (fun q => q.2), k.2⟩
theorem fit_no {P : Program} {f : FuncId} {vs : Array Value} {w : World} {p : Prop} {X Y : Ending} {B : Nat} (h : Calls P f vs w (fun e' w' => (¬ p ∧ e' = X ∨ p ∧ e' = Y) ∧ Below B w w')) (hp : ¬ p) : Calls P f vs w (fun e' w' => e' = X ∧ Below B w w') :=
  h.mono fun _ _ k => ⟨k.1.elim (fun q => q.2) (fun q => absurd q.1 hp), k.2⟩
theorem St.locMono {B : Nat} {w0 w : World} {fs : List Fact} {b : Nat} {R R' : Obj → Prop} (i : Nat) (S : St B w0 w fs) (hi : fs[i]? = some (.loc b R)) (h : ∀ o, R o → R' o) : St B w0 w (fs.set i (.loc b R')) := by
  obtain ⟨o, ho, hR⟩ := S.loc i hi
  exact S.setLoc i hi ⟨rfl, rfl, rfl, rfl, fun _ _ => rfl⟩ ho (h _ hR)
theorem fmap_mono {P : Program} {k : TypeId} {f : Int → Option Value} {n : Nat} {o : Obj} {z : Int} {v : Value} (h : FMap P k f n o) (hf : f z = some v) : FMap P k (fun y => if y = z then some v else none) n o := by
  obtain ⟨es, c, e, h⟩ := h
  refine ⟨es, c, e, fun w b hb => ?_⟩
  obtain ⟨D, h1, h2⟩ := h w b hb
  refine ⟨D, h1, fun y u hu => ?_⟩
  dsimp only at hu
  by_cases hy : y = z
  · rw [if_pos hy] at hu; cases hu; rw [hy]; exact h2 z v hf
  · rw [if_neg hy] at hu; cases hu

theorem racts_k1 (w : World) : Calls Try.prog 164 #[] w fun e w' => ∃ m, e = .returned (.map (some m)) ∧ St w.heap.size w w' [.loc m (FMap Try.prog 3 (fun y => if y = 1 then some (.func (.func 182) #[] #[]) else none) 7)] :=
  (racts_calls w).mono fun _ _ ⟨m, d1, g1, d2, g2, d3, g3, d4, g4, d5, g5, h, S⟩ => ⟨m, h, (St.del 0 (St.del 1 (St.del 2 (St.del 3 (St.del 4 (St.del 5 (St.del 6 (St.del 7 (St.del 8 (St.del 9 (St.locMono 10 S rfl (fun _ h => fmap_mono h (z := 1) rfl))))))))))))⟩

theorem racts_k2 (w : World) : Calls Try.prog 164 #[] w fun e w' => ∃ m d1 g1, e = .returned (.map (some m)) ∧ St w.heap.size w w' [.blk d1 #[.int .i64 1] 3, .blk g1 #[.func (.func 184) #[] #[]] 208, .loc m (FMap Try.prog 3 (fun y => if y = 2 then some (.func (.func 193) #[] #[.pointer (some ⟨d1, 0, none⟩), .pointer (some ⟨g1, 0, none⟩)]) else none) 7)] :=
  (racts_calls w).mono fun _ _ ⟨m, d1, g1, d2, g2, d3, g3, d4, g4, d5, g5, h, S⟩ => ⟨m, d1, g1, h, (St.del 0 (St.del 1 (St.del 2 (St.del 3 (St.del 4 (St.del 5 (St.del 6 (St.del 7 (St.locMono 10 S rfl (fun _ h => fmap_mono h (z := 2) rfl))))))))))⟩

theorem racts_k3 (w : World) : Calls Try.prog 164 #[] w fun e w' => ∃ m d2 g2, e = .returned (.map (some m)) ∧ St w.heap.size w w' [.blk d2 #[.int .i64 1] 3, .blk g2 #[.func (.func 185) #[] #[]] 208, .loc m (FMap Try.prog 3 (fun y => if y = 3 then some (.func (.func 193) #[] #[.pointer (some ⟨d2, 0, none⟩), .pointer (some ⟨g2, 0, none⟩)]) else none) 7)] :=
  (racts_calls w).mono fun _ _ ⟨m, d1, g1, d2, g2, d3, g3, d4, g4, d5, g5, h, S⟩ => ⟨m, d2, g2, h, (St.del 0 (St.del 1 (St.del 2 (St.del 3 (St.del 4 (St.del 5 (St.del 8 (St.del 9 (St.locMono 10 S rfl (fun _ h => fmap_mono h (z := 3) rfl))))))))))⟩

theorem racts_k4 (w : World) : Calls Try.prog 164 #[] w fun e w' => ∃ m, e = .returned (.map (some m)) ∧ St w.heap.size w w' [.loc m (FMap Try.prog 3 (fun y => if y = 4 then some (.func (.func 186) #[] #[]) else none) 7)] :=
  (racts_calls w).mono fun _ _ ⟨m, d1, g1, d2, g2, d3, g3, d4, g4, d5, g5, h, S⟩ => ⟨m, h, (St.del 0 (St.del 1 (St.del 2 (St.del 3 (St.del 4 (St.del 5 (St.del 6 (St.del 7 (St.del 8 (St.del 9 (St.locMono 10 S rfl (fun _ h => fmap_mono h (z := 4) rfl))))))))))))⟩

theorem racts_k5 (w : World) : Calls Try.prog 164 #[] w fun e w' => ∃ m d3 g3, e = .returned (.map (some m)) ∧ St w.heap.size w w' [.blk d3 #[.int .i64 4] 3, .blk g3 #[.func (.func 184) #[] #[]] 208, .loc m (FMap Try.prog 3 (fun y => if y = 5 then some (.func (.func 193) #[] #[.pointer (some ⟨d3, 0, none⟩), .pointer (some ⟨g3, 0, none⟩)]) else none) 7)] :=
  (racts_calls w).mono fun _ _ ⟨m, d1, g1, d2, g2, d3, g3, d4, g4, d5, g5, h, S⟩ => ⟨m, d3, g3, h, (St.del 0 (St.del 1 (St.del 2 (St.del 3 (St.del 6 (St.del 7 (St.del 8 (St.del 9 (St.locMono 10 S rfl (fun _ h => fmap_mono h (z := 5) rfl))))))))))⟩

theorem racts_k6 (w : World) : Calls Try.prog 164 #[] w fun e w' => ∃ m d4 g4, e = .returned (.map (some m)) ∧ St w.heap.size w w' [.blk d4 #[.int .i64 4] 3, .blk g4 #[.func (.func 187) #[] #[]] 208, .loc m (FMap Try.prog 3 (fun y => if y = 6 then some (.func (.func 193) #[] #[.pointer (some ⟨d4, 0, none⟩), .pointer (some ⟨g4, 0, none⟩)]) else none) 7)] :=
  (racts_calls w).mono fun _ _ ⟨m, d1, g1, d2, g2, d3, g3, d4, g4, d5, g5, h, S⟩ => ⟨m, d4, g4, h, (St.del 0 (St.del 1 (St.del 4 (St.del 5 (St.del 6 (St.del 7 (St.del 8 (St.del 9 (St.locMono 10 S rfl (fun _ h => fmap_mono h (z := 6) rfl))))))))))⟩

theorem racts_k7 (w : World) : Calls Try.prog 164 #[] w fun e w' => ∃ m d5 g5, e = .returned (.map (some m)) ∧ St w.heap.size w w' [.blk d5 #[.int .i64 3] 3, .blk g5 #[.func (.func 188) #[] #[]] 208, .loc m (FMap Try.prog 3 (fun y => if y = 7 then some (.func (.func 193) #[] #[.pointer (some ⟨d5, 0, none⟩), .pointer (some ⟨g5, 0, none⟩)]) else none) 7)] :=
  (racts_calls w).mono fun _ _ ⟨m, d1, g1, d2, g2, d3, g3, d4, g4, d5, g5, h, S⟩ => ⟨m, d5, g5, h, (St.del 2 (St.del 3 (St.del 4 (St.del 5 (St.del 6 (St.del 7 (St.del 8 (St.del 9 (St.locMono 10 S rfl (fun _ h => fmap_mono h (z := 7) rfl))))))))))⟩

set_option maxRecDepth 100000 in
set_option maxHeartbeats 1000000 in
theorem peerless_t (k : Int) (h : k ≠ 3 ∧ k ≠ 4) (w : World) :
    Calls Try.prog 163 #[.int .i64 k] w (BoolB w true) := by
 have S := St.start w
 refine fnw 9 Try.func163 ?_
 refine cw [0] ?_
 refine x_sr (va ?_)
 refine wL_nil (wQ_then (wC_seq (wC_region (vm ?_))))
 refine vv (dneqT (h := by omega)) ?_
 refine vm ?_
 refine vg ym ?_
 refine vg (dneqT (h := by omega)) ?_
 refine vv ypT ?_
 refine va ?_
 refine qk [2] ?_
 refine x_te (pt ?_)
 exact ⟨rfl, S.low⟩

set_option maxRecDepth 100000 in
set_option maxHeartbeats 1000000 in
theorem peerless_f (k : Int) (h : k = 3 ∨ k = 4) (w : World) :
    Calls Try.prog 163 #[.int .i64 k] w (BoolB w false) := by
 have S := St.start w
 refine fnw 9 Try.func163 ?_
 refine cw [0] ?_
 refine x_sr (va ?_)
 refine wL_nil (wQ_then (wC_seq (wC_region (vm ?_))))
 by_cases h1 : k = 3
 ·refine vv (yneqF h1) ?_
  refine vm ?_
  iterate 2 refine vs ?_
  refine vv ypF ?_
  refine va ?_
  refine qk [2] ?_
  refine x_te (pt ?_)
  exact ⟨rfl, S.low⟩
 ·refine vv (yneqT h1) ?_
  refine vm ?_
  refine vg ym ?_
  by_cases h2 : k = 4
  ·refine vg (yneqF h2) ?_
   refine vv ypT ?_
   refine va ?_
   refine qk [2] ?_
   refine x_te (pt ?_)
   exact ⟨rfl, S.low⟩
  ·refine vg (yneqT h2) ?_
   refine vv ypT ?_
   refine va ?_
   refine qk [2] ?_
   refine x_te (pt ?_)
   omega
end Go.Proofs.Ytkjlafpafmihaaa

namespace Go.Proofs.Ytkjlafpafmihaaa
open Go.ChangeShapes Go.WideShapes Go.RowKit

set_option maxRecDepth 100000 in
set_option maxHeartbeats 8000000 in
theorem Apply_kx (ro ep fr tg rd : Int) (A : Option Addr) (c : Nat) (l : List Ev) (kd qu e pe : Int) (x : Ev) (hk : ¬ (1 ≤ kd ∧ kd ≤ 7)) (w : World) (h : Rd w w.heap.size 6 A l.length (evCells l)) (hb : l.length * 48 ≤ reachBytes) :
    Calls Try.prog 98 #[.agg #[.int .i64 ro, .int .i64 ep, .int .i64 fr, .int .i64 tg, .int .i64 rd, .slice A l.length c], .agg #[.int .i64 kd, .int .i64 qu, .int .i64 e, .int .i64 pe, .int .i64 x.kind, .int .i64 x.producer, .int .i64 x.id, .int .i64 x.body, .int .i64 x.hepoch, .int .i64 x.hno]] w (ApplyPost w (applyM ⟨ro, ep, fr, tg, rd, l⟩ ⟨kd, qu, e, pe, x⟩)) := by
 have S := (St.start w).addRd h; clear h
 have hb2 := hb
 unfold reachBytes at hb2
 refine fnw 54 Try.func98 ?_
 refine cw [0, 1] ?_
 refine x_sr (nb (row := #[.int .i64 ro, .int .i64 ep, .int .i64 fr, .int .i64 tg, .int .i64 rd, .slice A l.length c]) S ?_); intro b1 w2 S3; clear S
 refine nb (row := #[.int .i64 kd, .int .i64 qu, .int .i64 e, .int .i64 pe, .int .i64 x.kind, .int .i64 x.producer, .int .i64 x.id, .int .i64 x.body, .int .i64 x.hepoch, .int .i64 x.hno]) S3 ?_; intro b4 w5 S6; clear S3
 refine naB S6 Try.zeroValue108 ?_; intro b7 w8 S9; clear S6
 refine va ?_
 refine qk [2, 3, 4, 5] ?_
 refine x_tssr (vv (ylr 2 S9 Try.underlying108 inf108) ?_)
 refine cab en76 S9 (BCheck_calls ro ep fr tg rd A c l _ (St.rd 3 S9 rfl) (by omega)) ?_; intro w10 S11; clear S9
 refine va ?_
 refine qk [2, 3, 4, 5, 6] ?_
 refine x_tsr (vm ?_)
 by_cases h13 : brtFault ⟨ro, ep, fr, tg, rd, l⟩ = 0
 ·have hln := tellM_len (bf_zero h13).2
  dsimp only at hln
  refine vv (yneqF h13) ?_
  refine qk [2, 3, 4, 5, 6, 13] ?_
  refine x_tnktssr (vv (ylr 1 S11 Try.underlying51 inf51) ?_)
  refine cab en119 S11 (Record_calls ⟨kd, qu, e, pe, x⟩ _) ?_; intro w14 S15; clear S11
  refine va ?_
  refine qk [2, 3, 4, 5, 7] ?_
  refine x_tsr (vm ?_)
  have hne : ¬ recFault ⟨kd, qu, e, pe, x⟩ = 0 := by rw [rec_kind (by exact hk)]; decide
  refine vv (yneqT hne) ?_
  refine qk [2, 3, 4, 5, 7, 19] ?_
  refine x_tysr (vv yzB ?_)
  refine vm ?_
  refine sa 0 S15 inf108 ?_; intro w17 S18; clear S15
  refine va ?_
  refine qk [4, 5] ?_
  refine x_teh (pc 0 S18 Try.underlying108 inf108 ?_)
  have S19 : St _ _ _ [] := S18.dels [3, 2, 1, 0]; clear S18
  rw [apply_rf h13 hne]
  exact ⟨none, 0, Nat.le_refl 0, rfl, rdo_nil S19⟩
 ·refine vv (yneqT h13) ?_
  refine qk [2, 3, 4, 5, 6, 13] ?_
  refine x_tysr (vv yzB ?_)
  refine vm ?_
  refine sa 0 S11 inf108 ?_; intro w20 S21; clear S11
  refine va ?_
  refine qk [4, 5] ?_
  refine x_teh (pc 0 S21 Try.underlying108 inf108 ?_)
  have S22 : St _ _ _ [] := S21.dels [3, 2, 1, 0]; clear S21
  rw [apply_bf h13]
  exact ⟨none, 0, Nat.le_refl 0, rfl, rdo_nil S22⟩
end Go.Proofs.Ytkjlafpafmihaaa

namespace Go.Proofs.Ytkjlafpafmihaaa
open Go.ChangeShapes Go.WideShapes Go.RowKit

set_option maxRecDepth 100000 in
set_option maxHeartbeats 8000000 in
theorem Apply_k1 (ro ep fr tg rd : Int) (A : Option Addr) (c : Nat) (l : List Ev) (qu e pe : Int) (x : Ev) (hlc : l.length ≤ c) (w : World) (h : Rd w w.heap.size 6 A l.length (evCells l)) (hb : l.length * 48 ≤ reachBytes) :
    Calls Try.prog 98 #[.agg #[.int .i64 ro, .int .i64 ep, .int .i64 fr, .int .i64 tg, .int .i64 rd, .slice A l.length c], .agg #[.int .i64 1, .int .i64 qu, .int .i64 e, .int .i64 pe, .int .i64 x.kind, .int .i64 x.producer, .int .i64 x.id, .int .i64 x.body, .int .i64 x.hepoch, .int .i64 x.hno]] w (ApplyPost w (applyM ⟨ro, ep, fr, tg, rd, l⟩ ⟨1, qu, e, pe, x⟩)) := by
 have S := (St.start w).addRd h; clear h
 have hb2 := hb
 unfold reachBytes at hb2
 obtain ⟨R, hR⟩ : ∃ R, actM ⟨ro, ep, fr, tg, rd, l⟩ ⟨1, qu, e, pe, x⟩ = R := ⟨_, rfl⟩
 have hM := hR
 rw [act_k1] at hM
 try dsimp only at hM
 have hlenR : R.1.evs.length ≤ l.length + 1 := by rw [← hR]; exact actM_len
 refine fnw 54 Try.func98 ?_
 refine cw [0, 1] ?_
 refine x_sr (nb (row := #[.int .i64 ro, .int .i64 ep, .int .i64 fr, .int .i64 tg, .int .i64 rd, .slice A l.length c]) S ?_); intro b1 w2 S3; clear S
 refine nb (row := #[.int .i64 1, .int .i64 qu, .int .i64 e, .int .i64 pe, .int .i64 x.kind, .int .i64 x.producer, .int .i64 x.id, .int .i64 x.body, .int .i64 x.hepoch, .int .i64 x.hno]) S3 ?_; intro b4 w5 S6; clear S3
 refine naB S6 Try.zeroValue108 ?_; intro b7 w8 S9; clear S6
 refine va ?_
 refine qk [2, 3, 4, 5] ?_
 refine x_tssr (vv (ylr 2 S9 Try.underlying108 inf108) ?_)
 refine cab en76 S9 (BCheck_calls ro ep fr tg rd A c l _ (St.rd 3 S9 rfl) (by omega)) ?_; intro w10 S11; clear S9
 refine va ?_
 refine qk [2, 3, 4, 5, 6] ?_
 refine x_tsr (vm ?_)
 by_cases h13 : brtFault ⟨ro, ep, fr, tg, rd, l⟩ = 0
 ·have hln := tellM_len (bf_zero h13).2
  dsimp only at hln
  refine vv (yneqF h13) ?_
  refine qk [2, 3, 4, 5, 6, 13] ?_
  refine x_tnktssr (vv (ylr 1 S11 Try.underlying51 inf51) ?_)
  refine cab en119 S11 (Record_calls ⟨1, qu, e, pe, x⟩ _) ?_; intro w14 S15; clear S11
  refine va ?_
  refine qk [2, 3, 4, 5, 7] ?_
  refine x_tsr (vm ?_)
  by_cases h17 : recFault ⟨1, qu, e, pe, x⟩ = 0
  ·have hrz := rec_zero h17
   dsimp only at hrz
   refine vv (yneqF h17) ?_
   refine qk [2, 3, 4, 5, 7, 19] ?_
   refine x_tnktssr (vv (yfa 0 fa108_0) ?_)
   refine vv (ylc 2 S15 Try.underlying3) ?_
   by_cases h18 : ro = 2
   ·refine vv (yeqlT h18) ?_
    refine vm ?_
    iterate 8 refine vs ?_
    refine vv ypT ?_
    refine qk [2, 3, 4, 5, 34] ?_
    refine x_tysr (vv yzB ?_)
    refine sa 0 S15 inf108 ?_; intro w19 S20; clear S15
    refine va ?_
    refine qk [4, 5] ?_
    refine x_teh (pc 0 S20 Try.underlying108 inf108 ?_)
    have S21 : St _ _ _ [] := S20.dels [3, 2, 1, 0]; clear S20
    rw [apply_x h13 h17 (by dsimp only; omega)]
    exact ⟨none, 0, Nat.le_refl 0, rfl, rdo_nil S21⟩
   ·refine vv (yeqlF h18) ?_
    refine vm ?_
    refine vg (yfa 0 fa51_0) ?_
    refine vg (ylc 1 S15 Try.underlying3) ?_
    refine calg en163 (peerless_t 1 (by decide) _) ?_
    rintro _ w22 ⟨rfl, hb24⟩
    refine ⟨_, rfl, ?_⟩
    have S23 := S15.on hb24; clear hb24 S15
    refine vg ym ?_
    refine vg (yfa 3 fa51_3) ?_
    refine vg (ylc 1 S23 Try.underlying3) ?_
    by_cases h25 : pe = 0
    ·refine vg (yneqF h25) ?_
     refine vg ypT ?_
     refine vv ypF ?_
     refine qk [2, 3, 4, 5, 34] ?_
     refine wQ_then (wC_cond_f rfl (wC_skip (wQ_then (wC_cut (X := Nat × (Option Addr) × Nat × Nat) (fun xv => [(4, .pointer (some ⟨b7, 0, none⟩)), (5, .int .i64 0), (8, .pointer (some ⟨xv.1, 0, none⟩)), (9, .int .i64 R.2)]) (fun xv wr => St w.heap.size w wr [.blk xv.1 #[.int .i64 R.1.role, .int .i64 R.1.ep, .int .i64 R.1.fr, .int .i64 R.1.tg, .int .i64 R.1.rd, .slice xv.2.1 R.1.evs.length xv.2.2.1] 108, .rdo 6 xv.2.1 R.1.evs.length ((R.1.evs).flatMap Ev.cells), .loc xv.2.2.2 (FMap Try.prog 3 (fun y => if y = 1 then some (.func (.func 182) #[] #[]) else none) 7), .blk b7 #[.int .i64 0, .int .i64 0, .int .i64 0, .int .i64 0, .int .i64 0, .slice none 0 0] 108, .blk b4 #[.int .i64 1, .int .i64 qu, .int .i64 e, .int .i64 pe, .int .i64 x.kind, .int .i64 x.producer, .int .i64 x.id, .int .i64 x.body, .int .i64 x.hepoch, .int .i64 x.hno] 51, .blk b1 #[.int .i64 ro, .int .i64 ep, .int .i64 fr, .int .i64 tg, .int .i64 rd, .slice A l.length c] 108, .rd 6 A l.length ((l).flatMap Ev.cells)]) ?_ ?_))))
     ·have S26 := S23.drew; clear S23
      refine wC_any_ (C := fun w' => St w.heap.size w w' [.blk b7 #[.int .i64 0, .int .i64 0, .int .i64 0, .int .i64 0, .int .i64 0, .slice none 0 0] 108, .blk b4 #[.int .i64 1, .int .i64 qu, .int .i64 e, .int .i64 pe, .int .i64 x.kind, .int .i64 x.producer, .int .i64 x.id, .int .i64 x.body, .int .i64 x.hepoch, .int .i64 x.hno] 51, .blk b1 #[.int .i64 ro, .int .i64 ep, .int .i64 fr, .int .i64 tg, .int .i64 rd, .slice A l.length c] 108, .rd 6 A l.length ((l).flatMap Ev.cells)]) (n := 13) (listed := #[false, false, false, false, false, false, false, false, false, false, false, false, false]) mixed rfl rfl ?_
      refine ak (v := .pointer (some ⟨b4, 0, none⟩)) 1 rfl S26 (fun _ _ => yfa _ fa51_0) ?_
      refine ak (v := .int .i64 1) 2 rfl S26 (fun _ Sx28 => ylc 1 Sx28 Try.underlying3) ?_
      refine ak (v := .agg #[.int .i64 ro, .int .i64 ep, .int .i64 fr, .int .i64 tg, .int .i64 rd, .slice A l.length c]) 4 rfl S26 (fun _ Sx29 => ylr 2 Sx29 Try.underlying108 inf108) ?_
      refine ak (v := .agg #[.int .i64 1, .int .i64 qu, .int .i64 e, .int .i64 pe, .int .i64 x.kind, .int .i64 x.producer, .int .i64 x.id, .int .i64 x.body, .int .i64 x.hepoch, .int .i64 x.hno]) 5 rfl S26 (fun _ Sx30 => ylr 1 Sx30 Try.underlying51 inf51) ?_
      refine wA_two (n := 8) (r := 0) (s := 10) (by kernel_rfl) ?_ ?_
      ·refine caln 0 rfl en164 (racts_k1 _) ?_
       rintro _ w32 ⟨m31, rfl, T34⟩
       refine ⟨_, rfl, ?_⟩
       have S33 := S26.ext T34 rfl; clear T34 S26
       change St _ _ _ [.loc m31 (FMap Try.prog 3 (fun y => if y = 1 then some (.func (.func 182) #[] #[]) else none) 7), _, _, _, _] at S33
       refine ⟨(St.del 0 S33), ?_⟩
       refine wA_two (n := 7) (r := 3) (s := 10) (by kernel_rfl) ?_ ?_
       ·refine wN_val (i := 3) rfl rfl (v := .func (.func 182) #[] #[]) (wn rfl) rfl rfl (y_lookF 0 S33 rfl rfl rfl rfl Try.underlying3 Try.underlying209 (Try.zeroValue208 _) (by decide) rfl) ?_
        refine ⟨(St.del 0 S33), ?_⟩
        refine wA_two (n := 6) (r := 6) (s := 10) (by kernel_rfl) ?_ ?_
        ·have HC := acts1_calls ro ep fr tg rd A c l 1 qu e pe x _ (St.rd 4 S33 rfl) hb
         rw [hM] at HC
         refine wN_call_ (i := 6) rfl rfl (vs := [.agg #[.int .i64 ro, .int .i64 ep, .int .i64 fr, .int .i64 tg, .int .i64 rd, .slice A l.length c], .agg #[.int .i64 1, .int .i64 qu, .int .i64 e, .int .i64 pe, .int .i64 x.kind, .int .i64 x.producer, .int .i64 x.id, .int .i64 x.body, .int .i64 x.hepoch, .int .i64 x.hno]]) (wn rfl) rfl rfl (e_callv (first := []) (cap := []) (vs := [.agg #[.int .i64 ro, .int .i64 ep, .int .i64 fr, .int .i64 tg, .int .i64 rd, .slice A l.length c], .agg #[.int .i64 1, .int .i64 qu, .int .i64 e, .int .i64 pe, .int .i64 x.kind, .int .i64 x.producer, .int .i64 x.id, .int .i64 x.body, .int .i64 x.hepoch, .int .i64 x.hno]]) rfl rfl en182 ⟨rfl, rfl, trivial⟩ rfl) (HC) ?_
         rintro _ w37 ⟨A35, c36, rfl, T39⟩
         refine ⟨_, rfl, ?_⟩
         have S38 := S33.ext T39 rfl; clear T39 S33
         change St _ _ _ [.rdo 6 A35 R.1.evs.length ((R.1.evs).flatMap Ev.cells), _, _, _, _, _] at S38; clear HC
         refine ⟨(S38.dels [1, 0]), ?_⟩
         refine ak (v := .tuple #[.agg #[.int .i64 R.1.role, .int .i64 R.1.ep, .int .i64 R.1.fr, .int .i64 R.1.tg, .int .i64 R.1.rd, .slice A35 R.1.evs.length c36], .int .i64 R.2]) 7 rfl (S38.dels [1, 0]) (fun _ _ => ym) ?_
         refine ak (v := .agg #[.int .i64 R.1.role, .int .i64 R.1.ep, .int .i64 R.1.fr, .int .i64 R.1.tg, .int .i64 R.1.rd, .slice A35 R.1.evs.length c36]) 8 rfl (S38.dels [1, 0]) (fun _ _ => yx) ?_
         refine ak (v := .int .i64 R.2) 9 rfl (S38.dels [1, 0]) (fun _ _ => yx) ?_
         refine aq1 10 ?_
         refine nnaB 10 rfl S38 Try.zeroValue108 ?_; intro b43 w44 S45; clear S38
         refine ⟨(S45.dels [2, 1, 0]), ?_⟩
         refine aq1 11 ?_
         refine sn 11 rfl 0 S45 inf108 ?_; intro w46 S47; clear S45
         refine ⟨(S47.dels [2, 1, 0]), ?_⟩
         refine ak (v := .int .i64 R.2) 12 rfl (S47.dels [2, 1, 0]) (fun _ _ => ya) ?_
         refine wA_done (by kernel_rfl) ?_
         refine pk [4, 5, 8, 9] ?_
         refine wQ_cut (b43, A35, c36, m31) ?_ ⟨rfl, rfl, rfl, rfl, trivial⟩
         exact S47
        ·refine nnaB 10 rfl S33 Try.zeroValue108 ?_; intro b49 w50 S51; clear S33
         refine ⟨(S51.dels [1, 0]), ?_⟩
         refine aq1 6 ?_
         have HC := acts1_calls ro ep fr tg rd A c l 1 qu e pe x _ (St.rd 5 S51 rfl) hb
         rw [hM] at HC
         refine wN_call_ (i := 6) rfl rfl (vs := [.agg #[.int .i64 ro, .int .i64 ep, .int .i64 fr, .int .i64 tg, .int .i64 rd, .slice A l.length c], .agg #[.int .i64 1, .int .i64 qu, .int .i64 e, .int .i64 pe, .int .i64 x.kind, .int .i64 x.producer, .int .i64 x.id, .int .i64 x.body, .int .i64 x.hepoch, .int .i64 x.hno]]) (wn rfl) rfl rfl (e_callv (first := []) (cap := []) (vs := [.agg #[.int .i64 ro, .int .i64 ep, .int .i64 fr, .int .i64 tg, .int .i64 rd, .slice A l.length c], .agg #[.int .i64 1, .int .i64 qu, .int .i64 e, .int .i64 pe, .int .i64 x.kind, .int .i64 x.producer, .int .i64 x.id, .int .i64 x.body, .int .i64 x.hepoch, .int .i64 x.hno]]) rfl rfl en182 ⟨rfl, rfl, trivial⟩ rfl) (HC) ?_
         rintro _ w54 ⟨A52, c53, rfl, T56⟩
         refine ⟨_, rfl, ?_⟩
         have S55 := S51.ext T56 rfl; clear T56 S51
         change St _ _ _ [.rdo 6 A52 R.1.evs.length ((R.1.evs).flatMap Ev.cells), _, _, _, _, _, _] at S55; clear HC
         refine ⟨(S55.dels [2, 1, 0]), ?_⟩
         refine ak (v := .tuple #[.agg #[.int .i64 R.1.role, .int .i64 R.1.ep, .int .i64 R.1.fr, .int .i64 R.1.tg, .int .i64 R.1.rd, .slice A52 R.1.evs.length c53], .int .i64 R.2]) 7 rfl (S55.dels [2, 1, 0]) (fun _ _ => ym) ?_
         refine ak (v := .agg #[.int .i64 R.1.role, .int .i64 R.1.ep, .int .i64 R.1.fr, .int .i64 R.1.tg, .int .i64 R.1.rd, .slice A52 R.1.evs.length c53]) 8 rfl (S55.dels [2, 1, 0]) (fun _ _ => yx) ?_
         refine ak (v := .int .i64 R.2) 9 rfl (S55.dels [2, 1, 0]) (fun _ _ => yx) ?_
         refine aq1 11 ?_
         refine sn 11 rfl 1 S55 inf108 ?_; intro w60 S61; clear S55
         refine ⟨(S61.dels [2, 1, 0]), ?_⟩
         refine ak (v := .int .i64 R.2) 12 rfl (S61.dels [2, 1, 0]) (fun _ _ => ya) ?_
         refine wA_done (by kernel_rfl) ?_
         refine pk [4, 5, 8, 9] ?_
         have S63 : St w.heap.size w w60 [_, _, _, _, _, _, _] := S61.re [1, 0, 2, 3, 4, 5, 6] (by decide); clear S61
         refine wQ_cut (b49, A52, c53, m31) ?_ ⟨rfl, rfl, rfl, rfl, trivial⟩
         exact S63
       ·refine nnaB 10 rfl S33 Try.zeroValue108 ?_; intro b64 w65 S66; clear S33
        refine ⟨(S66.dels [1, 0]), ?_⟩
        refine aq1 3 ?_
        refine wN_val (i := 3) rfl rfl (v := .func (.func 182) #[] #[]) (wn rfl) rfl rfl (y_lookF 1 S66 rfl rfl rfl rfl Try.underlying3 Try.underlying209 (Try.zeroValue208 _) (by decide) rfl) ?_
        refine ⟨(S66.dels [1, 0]), ?_⟩
        refine aq1 6 ?_
        have HC := acts1_calls ro ep fr tg rd A c l 1 qu e pe x _ (St.rd 5 S66 rfl) hb
        rw [hM] at HC
        refine wN_call_ (i := 6) rfl rfl (vs := [.agg #[.int .i64 ro, .int .i64 ep, .int .i64 fr, .int .i64 tg, .int .i64 rd, .slice A l.length c], .agg #[.int .i64 1, .int .i64 qu, .int .i64 e, .int .i64 pe, .int .i64 x.kind, .int .i64 x.producer, .int .i64 x.id, .int .i64 x.body, .int .i64 x.hepoch, .int .i64 x.hno]]) (wn rfl) rfl rfl (e_callv (first := []) (cap := []) (vs := [.agg #[.int .i64 ro, .int .i64 ep, .int .i64 fr, .int .i64 tg, .int .i64 rd, .slice A l.length c], .agg #[.int .i64 1, .int .i64 qu, .int .i64 e, .int .i64 pe, .int .i64 x.kind, .int .i64 x.producer, .int .i64 x.id, .int .i64 x.body, .int .i64 x.hepoch, .int .i64 x.hno]]) rfl rfl en182 ⟨rfl, rfl, trivial⟩ rfl) (HC) ?_
        rintro _ w69 ⟨A67, c68, rfl, T71⟩
        refine ⟨_, rfl, ?_⟩
        have S70 := S66.ext T71 rfl; clear T71 S66
        change St _ _ _ [.rdo 6 A67 R.1.evs.length ((R.1.evs).flatMap Ev.cells), _, _, _, _, _, _] at S70; clear HC
        refine ⟨(S70.dels [2, 1, 0]), ?_⟩
        refine ak (v := .tuple #[.agg #[.int .i64 R.1.role, .int .i64 R.1.ep, .int .i64 R.1.fr, .int .i64 R.1.tg, .int .i64 R.1.rd, .slice A67 R.1.evs.length c68], .int .i64 R.2]) 7 rfl (S70.dels [2, 1, 0]) (fun _ _ => ym) ?_
        refine ak (v := .agg #[.int .i64 R.1.role, .int .i64 R.1.ep, .int .i64 R.1.fr, .int .i64 R.1.tg, .int .i64 R.1.rd, .slice A67 R.1.evs.length c68]) 8 rfl (S70.dels [2, 1, 0]) (fun _ _ => yx) ?_
        refine ak (v := .int .i64 R.2) 9 rfl (S70.dels [2, 1, 0]) (fun _ _ => yx) ?_
        refine aq1 11 ?_
        refine sn 11 rfl 1 S70 inf108 ?_; intro w75 S76; clear S70
        refine ⟨(S76.dels [2, 1, 0]), ?_⟩
        refine ak (v := .int .i64 R.2) 12 rfl (S76.dels [2, 1, 0]) (fun _ _ => ya) ?_
        refine wA_done (by kernel_rfl) ?_
        refine pk [4, 5, 8, 9] ?_
        have S78 : St w.heap.size w w75 [_, _, _, _, _, _, _] := S76.re [1, 0, 2, 3, 4, 5, 6] (by decide); clear S76
        refine wQ_cut (b64, A67, c68, m31) ?_ ⟨rfl, rfl, rfl, rfl, trivial⟩
        exact S78
      ·refine nnaB 10 rfl S26 Try.zeroValue108 ?_; intro b79 w80 S81; clear S26
       refine ⟨(St.del 0 S81), ?_⟩
       refine aq1 0 ?_
       refine caln 0 rfl en164 (racts_k1 _) ?_
       rintro _ w83 ⟨m82, rfl, T85⟩
       refine ⟨_, rfl, ?_⟩
       have S84 := S81.ext T85 rfl; clear T85 S81
       change St _ _ _ [.loc m82 (FMap Try.prog 3 (fun y => if y = 1 then some (.func (.func 182) #[] #[]) else none) 7), _, _, _, _, _] at S84
       refine ⟨(S84.dels [1, 0]), ?_⟩
       refine aq1 3 ?_
       refine wN_val (i := 3) rfl rfl (v := .func (.func 182) #[] #[]) (wn rfl) rfl rfl (y_lookF 0 S84 rfl rfl rfl rfl Try.underlying3 Try.underlying209 (Try.zeroValue208 _) (by decide) rfl) ?_
       refine ⟨(S84.dels [1, 0]), ?_⟩
       refine aq1 6 ?_
       have HC := acts1_calls ro ep fr tg rd A c l 1 qu e pe x _ (St.rd 5 S84 rfl) hb
       rw [hM] at HC
       refine wN_call_ (i := 6) rfl rfl (vs := [.agg #[.int .i64 ro, .int .i64 ep, .int .i64 fr, .int .i64 tg, .int .i64 rd, .slice A l.length c], .agg #[.int .i64 1, .int .i64 qu, .int .i64 e, .int .i64 pe, .int .i64 x.kind, .int .i64 x.producer, .int .i64 x.id, .int .i64 x.body, .int .i64 x.hepoch, .int .i64 x.hno]]) (wn rfl) rfl rfl (e_callv (first := []) (cap := []) (vs := [.agg #[.int .i64 ro, .int .i64 ep, .int .i64 fr, .int .i64 tg, .int .i64 rd, .slice A l.length c], .agg #[.int .i64 1, .int .i64 qu, .int .i64 e, .int .i64 pe, .int .i64 x.kind, .int .i64 x.producer, .int .i64 x.id, .int .i64 x.body, .int .i64 x.hepoch, .int .i64 x.hno]]) rfl rfl en182 ⟨rfl, rfl, trivial⟩ rfl) (HC) ?_
       rintro _ w88 ⟨A86, c87, rfl, T90⟩
       refine ⟨_, rfl, ?_⟩
       have S89 := S84.ext T90 rfl; clear T90 S84
       change St _ _ _ [.rdo 6 A86 R.1.evs.length ((R.1.evs).flatMap Ev.cells), _, _, _, _, _, _] at S89; clear HC
       refine ⟨(S89.dels [2, 1, 0]), ?_⟩
       refine ak (v := .tuple #[.agg #[.int .i64 R.1.role, .int .i64 R.1.ep, .int .i64 R.1.fr, .int .i64 R.1.tg, .int .i64 R.1.rd, .slice A86 R.1.evs.length c87], .int .i64 R.2]) 7 rfl (S89.dels [2, 1, 0]) (fun _ _ => ym) ?_
       refine ak (v := .agg #[.int .i64 R.1.role, .int .i64 R.1.ep, .int .i64 R.1.fr, .int .i64 R.1.tg, .int .i64 R.1.rd, .slice A86 R.1.evs.length c87]) 8 rfl (S89.dels [2, 1, 0]) (fun _ _ => yx) ?_
       refine ak (v := .int .i64 R.2) 9 rfl (S89.dels [2, 1, 0]) (fun _ _ => yx) ?_
       refine aq1 11 ?_
       refine sn 11 rfl 2 S89 inf108 ?_; intro w94 S95; clear S89
       refine ⟨(S95.dels [2, 1, 0]), ?_⟩
       refine ak (v := .int .i64 R.2) 12 rfl (S95.dels [2, 1, 0]) (fun _ _ => ya) ?_
       refine wA_done (by kernel_rfl) ?_
       refine pk [4, 5, 8, 9] ?_
       have S97 : St w.heap.size w w94 [_, _, _, _, _, _, _] := S95.re [2, 0, 1, 3, 4, 5, 6] (by decide); clear S95
       refine wQ_cut (b79, A86, c87, m82) ?_ ⟨rfl, rfl, rfl, rfl, trivial⟩
       exact S97
     ·rintro ⟨b98, A99, c100, m101⟩ w102 S103
      try dsimp only at S103; clear S23
      refine cw [4, 5, 8, 9] ?_
      refine x_ssr (vm ?_)
      by_cases h104 : R.2 = 0
      ·refine vv (yneqF h104) ?_
       refine qk [4, 5, 8, 47] ?_
       refine wQ_then (wC_cond_f rfl (wC_skip (wQ_then (wC_seq ?_))))
       have S105 := S103.nil 37 6; clear S103
       change St _ _ _ [.own 37 6 (.slice none 0 0) 0 ((([] : List Ev)).flatMap Ev.cells), _, _, _, _, _, _, _] at S105
       refine wC_region (vv (yfa 5 fa108_5) ?_)
       refine vv (ylc 1 S105 Try.underlying57) ?_
       refine wL_append (news := (R.1.evs).flatMap Ev.cells) (xs' := (R.1.evs).flatMap Ev.cells) 0 S105 (wn rfl) rfl rfl rfl rfl rfl rfl (St.rdo 2 S105 rfl) Try.underlying57 infz37 rfl (by decide) (evCells_one _) (by simp only [maxLen]; omega) (by omega) (rfl) ?_; intro A106 c107 w108 hc110 hm111 S109; clear S105
       change St _ _ _ [.own 37 6 (.slice A106 (0 + R.1.evs.length) c107) (0 + R.1.evs.length) ((R.1.evs).flatMap Ev.cells), _, _, _, _, _, _, _] at S109
       refine vv (yfa 5 fa108_5) ?_
       refine sr (row' := #[.int .i64 R.1.role, .int .i64 R.1.ep, .int .i64 R.1.fr, .int .i64 R.1.tg, .int .i64 R.1.rd, .slice A106 (0 + R.1.evs.length) c107]) 1 S109 inf57 ?_; intro w112 S113; clear S109
       refine qk [4, 5, 8] ?_
       refine x_tsr (vv (ylr 1 S113 Try.underlying108 inf108) ?_)
       refine sa 4 S113 inf108 ?_; intro w114 S115; clear S113
       refine va ?_
       refine qk [4, 5] ?_
       refine x_te (pc 4 S115 Try.underlying108 inf108 ?_)
       have S116 : St _ _ _ [_] := S115.dels [7, 6, 5, 4, 3, 2, 1]; clear S115
       rw [apply_go h13 h17 (by dsimp only; omega) (by rw [hR]; exact h104), hR]
       rw [Nat.zero_add] at S116 ⊢
       exact ⟨A106, c107, (own_caps (S116.own 0 rfl)).1, rfl, S116.sealAll 0 rfl⟩
      ·refine vv (yneqT h104) ?_
       refine qk [4, 5, 8, 47] ?_
       refine x_tysr (vv yzB ?_)
       refine sa 3 S103 inf108 ?_; intro w117 S118; clear S103
       refine va ?_
       refine qk [4, 5] ?_
       refine x_teh (pc 3 S118 Try.underlying108 inf108 ?_)
       have S119 : St _ _ _ [] := S118.dels [6, 5, 4, 3, 2, 1, 0]; clear S118
       rw [apply_no h13 h17 (by rw [hR]; exact h104)]
       exact ⟨none, 0, Nat.le_refl 0, rfl, rdo_nil S119⟩
    ·refine vg (yneqT h25) ?_
     refine vg ypT ?_
     refine vv ypF ?_
     refine qk [2, 3, 4, 5, 34] ?_
     refine x_tysr (vv yzB ?_)
     refine sa 0 S23 inf108 ?_; intro w120 S121; clear S23
     refine va ?_
     refine qk [4, 5] ?_
     refine x_teh (pc 0 S121 Try.underlying108 inf108 ?_)
     have S122 : St _ _ _ [] := S121.dels [3, 2, 1, 0]; clear S121
     rw [apply_x h13 h17 (by dsimp only; omega)]
     exact ⟨none, 0, Nat.le_refl 0, rfl, rdo_nil S122⟩
  ·refine vv (yneqT h17) ?_
   refine qk [2, 3, 4, 5, 7, 19] ?_
   refine x_tysr (vv yzB ?_)
   refine vm ?_
   refine sa 0 S15 inf108 ?_; intro w123 S124; clear S15
   refine va ?_
   refine qk [4, 5] ?_
   refine x_teh (pc 0 S124 Try.underlying108 inf108 ?_)
   have S125 : St _ _ _ [] := S124.dels [3, 2, 1, 0]; clear S124
   rw [apply_rf h13 h17]
   exact ⟨none, 0, Nat.le_refl 0, rfl, rdo_nil S125⟩
 ·refine vv (yneqT h13) ?_
  refine qk [2, 3, 4, 5, 6, 13] ?_
  refine x_tysr (vv yzB ?_)
  refine vm ?_
  refine sa 0 S11 inf108 ?_; intro w126 S127; clear S11
  refine va ?_
  refine qk [4, 5] ?_
  refine x_teh (pc 0 S127 Try.underlying108 inf108 ?_)
  have S128 : St _ _ _ [] := S127.dels [3, 2, 1, 0]; clear S127
  rw [apply_bf h13]
  exact ⟨none, 0, Nat.le_refl 0, rfl, rdo_nil S128⟩
end Go.Proofs.Ytkjlafpafmihaaa

namespace Go.Proofs.Ytkjlafpafmihaaa
open Go.ChangeShapes Go.WideShapes Go.RowKit

set_option maxRecDepth 100000 in
set_option maxHeartbeats 8000000 in
theorem Apply_k2 (ro ep fr tg rd : Int) (A : Option Addr) (c : Nat) (l : List Ev) (qu e pe : Int) (x : Ev) (hlc : l.length ≤ c) (w : World) (h : Rd w w.heap.size 6 A l.length (evCells l)) (hb : l.length * 48 ≤ reachBytes) :
    Calls Try.prog 98 #[.agg #[.int .i64 ro, .int .i64 ep, .int .i64 fr, .int .i64 tg, .int .i64 rd, .slice A l.length c], .agg #[.int .i64 2, .int .i64 qu, .int .i64 e, .int .i64 pe, .int .i64 x.kind, .int .i64 x.producer, .int .i64 x.id, .int .i64 x.body, .int .i64 x.hepoch, .int .i64 x.hno]] w (ApplyPost w (applyM ⟨ro, ep, fr, tg, rd, l⟩ ⟨2, qu, e, pe, x⟩)) := by
 have S := (St.start w).addRd h; clear h
 have hb2 := hb
 unfold reachBytes at hb2
 obtain ⟨R, hR⟩ : ∃ R, actM ⟨ro, ep, fr, tg, rd, l⟩ ⟨2, qu, e, pe, x⟩ = R := ⟨_, rfl⟩
 have hM := hR
 rw [act_k2] at hM
 try dsimp only at hM
 have hlenR : R.1.evs.length ≤ l.length + 1 := by rw [← hR]; exact actM_len
 refine fnw 54 Try.func98 ?_
 refine cw [0, 1] ?_
 refine x_sr (nb (row := #[.int .i64 ro, .int .i64 ep, .int .i64 fr, .int .i64 tg, .int .i64 rd, .slice A l.length c]) S ?_); intro b1 w2 S3; clear S
 refine nb (row := #[.int .i64 2, .int .i64 qu, .int .i64 e, .int .i64 pe, .int .i64 x.kind, .int .i64 x.producer, .int .i64 x.id, .int .i64 x.body, .int .i64 x.hepoch, .int .i64 x.hno]) S3 ?_; intro b4 w5 S6; clear S3
 refine naB S6 Try.zeroValue108 ?_; intro b7 w8 S9; clear S6
 refine va ?_
 refine qk [2, 3, 4, 5] ?_
 refine x_tssr (vv (ylr 2 S9 Try.underlying108 inf108) ?_)
 refine cab en76 S9 (BCheck_calls ro ep fr tg rd A c l _ (St.rd 3 S9 rfl) (by omega)) ?_; intro w10 S11; clear S9
 refine va ?_
 refine qk [2, 3, 4, 5, 6] ?_
 refine x_tsr (vm ?_)
 by_cases h13 : brtFault ⟨ro, ep, fr, tg, rd, l⟩ = 0
 ·have hln := tellM_len (bf_zero h13).2
  dsimp only at hln
  refine vv (yneqF h13) ?_
  refine qk [2, 3, 4, 5, 6, 13] ?_
  refine x_tnktssr (vv (ylr 1 S11 Try.underlying51 inf51) ?_)
  refine cab en119 S11 (Record_calls ⟨2, qu, e, pe, x⟩ _) ?_; intro w14 S15; clear S11
  refine va ?_
  refine qk [2, 3, 4, 5, 7] ?_
  refine x_tsr (vm ?_)
  by_cases h17 : recFault ⟨2, qu, e, pe, x⟩ = 0
  ·have hrz := rec_zero h17
   dsimp only at hrz
   refine vv (yneqF h17) ?_
   refine qk [2, 3, 4, 5, 7, 19] ?_
   refine x_tnktssr (vv (yfa 0 fa108_0) ?_)
   refine vv (ylc 2 S15 Try.underlying3) ?_
   by_cases h18 : ro = 2
   ·refine vv (yeqlT h18) ?_
    refine vm ?_
    iterate 8 refine vs ?_
    refine vv ypT ?_
    refine qk [2, 3, 4, 5, 34] ?_
    refine x_tysr (vv yzB ?_)
    refine sa 0 S15 inf108 ?_; intro w19 S20; clear S15
    refine va ?_
    refine qk [4, 5] ?_
    refine x_teh (pc 0 S20 Try.underlying108 inf108 ?_)
    have S21 : St _ _ _ [] := S20.dels [3, 2, 1, 0]; clear S20
    rw [apply_x h13 h17 (by dsimp only; omega)]
    exact ⟨none, 0, Nat.le_refl 0, rfl, rdo_nil S21⟩
   ·refine vv (yeqlF h18) ?_
    refine vm ?_
    refine vg (yfa 0 fa51_0) ?_
    refine vg (ylc 1 S15 Try.underlying3) ?_
    refine calg en163 (peerless_t 2 (by decide) _) ?_
    rintro _ w22 ⟨rfl, hb24⟩
    refine ⟨_, rfl, ?_⟩
    have S23 := S15.on hb24; clear hb24 S15
    refine vg ym ?_
    refine vg (yfa 3 fa51_3) ?_
    refine vg (ylc 1 S23 Try.underlying3) ?_
    by_cases h25 : pe = 0
    ·refine vg (yneqF h25) ?_
     refine vg ypT ?_
     refine vv ypF ?_
     refine qk [2, 3, 4, 5, 34] ?_
     refine wQ_then (wC_cond_f rfl (wC_skip (wQ_then (wC_cut (X := Nat × (Option Addr) × Nat × Nat × Nat × Nat) (fun xv => [(4, .pointer (some ⟨b7, 0, none⟩)), (5, .int .i64 0), (8, .pointer (some ⟨xv.1, 0, none⟩)), (9, .int .i64 R.2)]) (fun xv wr => St w.heap.size w wr [.blk xv.1 #[.int .i64 R.1.role, .int .i64 R.1.ep, .int .i64 R.1.fr, .int .i64 R.1.tg, .int .i64 R.1.rd, .slice xv.2.1 R.1.evs.length xv.2.2.1] 108, .rdo 6 xv.2.1 R.1.evs.length ((R.1.evs).flatMap Ev.cells), .blk xv.2.2.2.1 #[.int .i64 1] 3, .blk xv.2.2.2.2.1 #[.func (.func 184) #[] #[]] 208, .loc xv.2.2.2.2.2 (FMap Try.prog 3 (fun y => if y = 2 then some (.func (.func 193) #[] #[.pointer (some ⟨xv.2.2.2.1, 0, none⟩), .pointer (some ⟨xv.2.2.2.2.1, 0, none⟩)]) else none) 7), .blk b7 #[.int .i64 0, .int .i64 0, .int .i64 0, .int .i64 0, .int .i64 0, .slice none 0 0] 108, .blk b4 #[.int .i64 2, .int .i64 qu, .int .i64 e, .int .i64 pe, .int .i64 x.kind, .int .i64 x.producer, .int .i64 x.id, .int .i64 x.body, .int .i64 x.hepoch, .int .i64 x.hno] 51, .blk b1 #[.int .i64 ro, .int .i64 ep, .int .i64 fr, .int .i64 tg, .int .i64 rd, .slice A l.length c] 108, .rd 6 A l.length ((l).flatMap Ev.cells)]) ?_ ?_))))
     ·have S26 := S23.drew; clear S23
      refine wC_any_ (C := fun w' => St w.heap.size w w' [.blk b7 #[.int .i64 0, .int .i64 0, .int .i64 0, .int .i64 0, .int .i64 0, .slice none 0 0] 108, .blk b4 #[.int .i64 2, .int .i64 qu, .int .i64 e, .int .i64 pe, .int .i64 x.kind, .int .i64 x.producer, .int .i64 x.id, .int .i64 x.body, .int .i64 x.hepoch, .int .i64 x.hno] 51, .blk b1 #[.int .i64 ro, .int .i64 ep, .int .i64 fr, .int .i64 tg, .int .i64 rd, .slice A l.length c] 108, .rd 6 A l.length ((l).flatMap Ev.cells)]) (n := 13) (listed := #[false, false, false, false, false, false, false, false, false, false, false, false, false]) mixed rfl rfl ?_
      refine ak (v := .pointer (some ⟨b4, 0, none⟩)) 1 rfl S26 (fun _ _ => yfa _ fa51_0) ?_
      refine ak (v := .int .i64 2) 2 rfl S26 (fun _ Sx28 => ylc 1 Sx28 Try.underlying3) ?_
      refine ak (v := .agg #[.int .i64 ro, .int .i64 ep, .int .i64 fr, .int .i64 tg, .int .i64 rd, .slice A l.length c]) 4 rfl S26 (fun _ Sx29 => ylr 2 Sx29 Try.underlying108 inf108) ?_
      refine ak (v := .agg #[.int .i64 2, .int .i64 qu, .int .i64 e, .int .i64 pe, .int .i64 x.kind, .int .i64 x.producer, .int .i64 x.id, .int .i64 x.body, .int .i64 x.hepoch, .int .i64 x.hno]) 5 rfl S26 (fun _ Sx30 => ylr 1 Sx30 Try.underlying51 inf51) ?_
      refine wA_two (n := 8) (r := 0) (s := 10) (by kernel_rfl) ?_ ?_
      ·refine caln 0 rfl en164 (racts_k2 _) ?_
       rintro _ w34 ⟨m31, d32, g33, rfl, T36⟩
       refine ⟨_, rfl, ?_⟩
       have S35 := S26.ext T36 rfl; clear T36 S26
       change St _ _ _ [.blk d32 #[.int .i64 1] 3, .blk g33 #[.func (.func 184) #[] #[]] 208, .loc m31 (FMap Try.prog 3 (fun y => if y = 2 then some (.func (.func 193) #[] #[.pointer (some ⟨d32, 0, none⟩), .pointer (some ⟨g33, 0, none⟩)]) else none) 7), _, _, _, _] at S35
       refine ⟨(S35.dels [2, 1, 0]), ?_⟩
       refine wA_two (n := 7) (r := 3) (s := 10) (by kernel_rfl) ?_ ?_
       ·refine wN_val (i := 3) rfl rfl (v := .func (.func 193) #[] #[.pointer (some ⟨d32, 0, none⟩), .pointer (some ⟨g33, 0, none⟩)]) (wn rfl) rfl rfl (y_lookF 2 S35 rfl rfl rfl rfl Try.underlying3 Try.underlying209 (Try.zeroValue208 _) (by decide) rfl) ?_
        refine ⟨(S35.dels [2, 1, 0]), ?_⟩
        refine wA_two (n := 6) (r := 6) (s := 10) (by kernel_rfl) ?_ ?_
        ·have HC := only_add ro ep fr tg rd A c l 2 qu e pe x 1 d32 g33 (by omega) _ (St.rd 6 S35 rfl) hb (St.bld (xs := [.int .i64 1]) 0 S35 rfl rfl rfl) (St.bld (xs := [.func (.func 184) #[] #[]]) 1 S35 rfl rfl rfl)
         rw [hM] at HC
         refine wN_call_ (i := 6) rfl rfl (vs := [.agg #[.int .i64 ro, .int .i64 ep, .int .i64 fr, .int .i64 tg, .int .i64 rd, .slice A l.length c], .agg #[.int .i64 2, .int .i64 qu, .int .i64 e, .int .i64 pe, .int .i64 x.kind, .int .i64 x.producer, .int .i64 x.id, .int .i64 x.body, .int .i64 x.hepoch, .int .i64 x.hno], .pointer (some ⟨d32, 0, none⟩), .pointer (some ⟨g33, 0, none⟩)]) (wn rfl) rfl rfl (e_callv (first := []) (cap := [.pointer (some ⟨d32, 0, none⟩), .pointer (some ⟨g33, 0, none⟩)]) (vs := [.agg #[.int .i64 ro, .int .i64 ep, .int .i64 fr, .int .i64 tg, .int .i64 rd, .slice A l.length c], .agg #[.int .i64 2, .int .i64 qu, .int .i64 e, .int .i64 pe, .int .i64 x.kind, .int .i64 x.producer, .int .i64 x.id, .int .i64 x.body, .int .i64 x.hepoch, .int .i64 x.hno]]) rfl rfl en193 ⟨rfl, rfl, trivial⟩ rfl) (HC) ?_
         rintro _ w39 ⟨A37, c38, rfl, T41⟩
         refine ⟨_, rfl, ?_⟩
         have S40 := S35.ext T41 rfl; clear T41 S35
         change St _ _ _ [.rdo 6 A37 R.1.evs.length ((R.1.evs).flatMap Ev.cells), _, _, _, _, _, _, _] at S40; clear HC
         refine ⟨(S40.dels [3, 2, 1, 0]), ?_⟩
         refine ak (v := .tuple #[.agg #[.int .i64 R.1.role, .int .i64 R.1.ep, .int .i64 R.1.fr, .int .i64 R.1.tg, .int .i64 R.1.rd, .slice A37 R.1.evs.length c38], .int .i64 R.2]) 7 rfl (S40.dels [3, 2, 1, 0]) (fun _ _ => ym) ?_
         refine ak (v := .agg #[.int .i64 R.1.role, .int .i64 R.1.ep, .int .i64 R.1.fr, .int .i64 R.1.tg, .int .i64 R.1.rd, .slice A37 R.1.evs.length c38]) 8 rfl (S40.dels [3, 2, 1, 0]) (fun _ _ => yx) ?_
         refine ak (v := .int .i64 R.2) 9 rfl (S40.dels [3, 2, 1, 0]) (fun _ _ => yx) ?_
         refine aq1 10 ?_
         refine nnaB 10 rfl S40 Try.zeroValue108 ?_; intro b45 w46 S47; clear S40
         refine ⟨(S47.dels [4, 3, 2, 1, 0]), ?_⟩
         refine aq1 11 ?_
         refine sn 11 rfl 0 S47 inf108 ?_; intro w48 S49; clear S47
         refine ⟨(S49.dels [4, 3, 2, 1, 0]), ?_⟩
         refine ak (v := .int .i64 R.2) 12 rfl (S49.dels [4, 3, 2, 1, 0]) (fun _ _ => ya) ?_
         refine wA_done (by kernel_rfl) ?_
         refine pk [4, 5, 8, 9] ?_
         refine wQ_cut (b45, A37, c38, d32, g33, m31) ?_ ⟨rfl, rfl, rfl, rfl, trivial⟩
         exact S49
        ·refine nnaB 10 rfl S35 Try.zeroValue108 ?_; intro b51 w52 S53; clear S35
         refine ⟨(S53.dels [3, 2, 1, 0]), ?_⟩
         refine aq1 6 ?_
         have HC := only_add ro ep fr tg rd A c l 2 qu e pe x 1 d32 g33 (by omega) _ (St.rd 7 S53 rfl) hb (St.bld (xs := [.int .i64 1]) 1 S53 rfl rfl rfl) (St.bld (xs := [.func (.func 184) #[] #[]]) 2 S53 rfl rfl rfl)
         rw [hM] at HC
         refine wN_call_ (i := 6) rfl rfl (vs := [.agg #[.int .i64 ro, .int .i64 ep, .int .i64 fr, .int .i64 tg, .int .i64 rd, .slice A l.length c], .agg #[.int .i64 2, .int .i64 qu, .int .i64 e, .int .i64 pe, .int .i64 x.kind, .int .i64 x.producer, .int .i64 x.id, .int .i64 x.body, .int .i64 x.hepoch, .int .i64 x.hno], .pointer (some ⟨d32, 0, none⟩), .pointer (some ⟨g33, 0, none⟩)]) (wn rfl) rfl rfl (e_callv (first := []) (cap := [.pointer (some ⟨d32, 0, none⟩), .pointer (some ⟨g33, 0, none⟩)]) (vs := [.agg #[.int .i64 ro, .int .i64 ep, .int .i64 fr, .int .i64 tg, .int .i64 rd, .slice A l.length c], .agg #[.int .i64 2, .int .i64 qu, .int .i64 e, .int .i64 pe, .int .i64 x.kind, .int .i64 x.producer, .int .i64 x.id, .int .i64 x.body, .int .i64 x.hepoch, .int .i64 x.hno]]) rfl rfl en193 ⟨rfl, rfl, trivial⟩ rfl) (HC) ?_
         rintro _ w56 ⟨A54, c55, rfl, T58⟩
         refine ⟨_, rfl, ?_⟩
         have S57 := S53.ext T58 rfl; clear T58 S53
         change St _ _ _ [.rdo 6 A54 R.1.evs.length ((R.1.evs).flatMap Ev.cells), _, _, _, _, _, _, _, _] at S57; clear HC
         refine ⟨(S57.dels [4, 3, 2, 1, 0]), ?_⟩
         refine ak (v := .tuple #[.agg #[.int .i64 R.1.role, .int .i64 R.1.ep, .int .i64 R.1.fr, .int .i64 R.1.tg, .int .i64 R.1.rd, .slice A54 R.1.evs.length c55], .int .i64 R.2]) 7 rfl (S57.dels [4, 3, 2, 1, 0]) (fun _ _ => ym) ?_
         refine ak (v := .agg #[.int .i64 R.1.role, .int .i64 R.1.ep, .int .i64 R.1.fr, .int .i64 R.1.tg, .int .i64 R.1.rd, .slice A54 R.1.evs.length c55]) 8 rfl (S57.dels [4, 3, 2, 1, 0]) (fun _ _ => yx) ?_
         refine ak (v := .int .i64 R.2) 9 rfl (S57.dels [4, 3, 2, 1, 0]) (fun _ _ => yx) ?_
         refine aq1 11 ?_
         refine sn 11 rfl 1 S57 inf108 ?_; intro w62 S63; clear S57
         refine ⟨(S63.dels [4, 3, 2, 1, 0]), ?_⟩
         refine ak (v := .int .i64 R.2) 12 rfl (S63.dels [4, 3, 2, 1, 0]) (fun _ _ => ya) ?_
         refine wA_done (by kernel_rfl) ?_
         refine pk [4, 5, 8, 9] ?_
         have S65 : St w.heap.size w w62 [_, _, _, _, _, _, _, _, _] := S63.re [1, 0, 2, 3, 4, 5, 6, 7, 8] (by decide); clear S63
         refine wQ_cut (b51, A54, c55, d32, g33, m31) ?_ ⟨rfl, rfl, rfl, rfl, trivial⟩
         exact S65
       ·refine nnaB 10 rfl S35 Try.zeroValue108 ?_; intro b66 w67 S68; clear S35
        refine ⟨(S68.dels [3, 2, 1, 0]), ?_⟩
        refine aq1 3 ?_
        refine wN_val (i := 3) rfl rfl (v := .func (.func 193) #[] #[.pointer (some ⟨d32, 0, none⟩), .pointer (some ⟨g33, 0, none⟩)]) (wn rfl) rfl rfl (y_lookF 3 S68 rfl rfl rfl rfl Try.underlying3 Try.underlying209 (Try.zeroValue208 _) (by decide) rfl) ?_
        refine ⟨(S68.dels [3, 2, 1, 0]), ?_⟩
        refine aq1 6 ?_
        have HC := only_add ro ep fr tg rd A c l 2 qu e pe x 1 d32 g33 (by omega) _ (St.rd 7 S68 rfl) hb (St.bld (xs := [.int .i64 1]) 1 S68 rfl rfl rfl) (St.bld (xs := [.func (.func 184) #[] #[]]) 2 S68 rfl rfl rfl)
        rw [hM] at HC
        refine wN_call_ (i := 6) rfl rfl (vs := [.agg #[.int .i64 ro, .int .i64 ep, .int .i64 fr, .int .i64 tg, .int .i64 rd, .slice A l.length c], .agg #[.int .i64 2, .int .i64 qu, .int .i64 e, .int .i64 pe, .int .i64 x.kind, .int .i64 x.producer, .int .i64 x.id, .int .i64 x.body, .int .i64 x.hepoch, .int .i64 x.hno], .pointer (some ⟨d32, 0, none⟩), .pointer (some ⟨g33, 0, none⟩)]) (wn rfl) rfl rfl (e_callv (first := []) (cap := [.pointer (some ⟨d32, 0, none⟩), .pointer (some ⟨g33, 0, none⟩)]) (vs := [.agg #[.int .i64 ro, .int .i64 ep, .int .i64 fr, .int .i64 tg, .int .i64 rd, .slice A l.length c], .agg #[.int .i64 2, .int .i64 qu, .int .i64 e, .int .i64 pe, .int .i64 x.kind, .int .i64 x.producer, .int .i64 x.id, .int .i64 x.body, .int .i64 x.hepoch, .int .i64 x.hno]]) rfl rfl en193 ⟨rfl, rfl, trivial⟩ rfl) (HC) ?_
        rintro _ w71 ⟨A69, c70, rfl, T73⟩
        refine ⟨_, rfl, ?_⟩
        have S72 := S68.ext T73 rfl; clear T73 S68
        change St _ _ _ [.rdo 6 A69 R.1.evs.length ((R.1.evs).flatMap Ev.cells), _, _, _, _, _, _, _, _] at S72; clear HC
        refine ⟨(S72.dels [4, 3, 2, 1, 0]), ?_⟩
        refine ak (v := .tuple #[.agg #[.int .i64 R.1.role, .int .i64 R.1.ep, .int .i64 R.1.fr, .int .i64 R.1.tg, .int .i64 R.1.rd, .slice A69 R.1.evs.length c70], .int .i64 R.2]) 7 rfl (S72.dels [4, 3, 2, 1, 0]) (fun _ _ => ym) ?_
        refine ak (v := .agg #[.int .i64 R.1.role, .int .i64 R.1.ep, .int .i64 R.1.fr, .int .i64 R.1.tg, .int .i64 R.1.rd, .slice A69 R.1.evs.length c70]) 8 rfl (S72.dels [4, 3, 2, 1, 0]) (fun _ _ => yx) ?_
        refine ak (v := .int .i64 R.2) 9 rfl (S72.dels [4, 3, 2, 1, 0]) (fun _ _ => yx) ?_
        refine aq1 11 ?_
        refine sn 11 rfl 1 S72 inf108 ?_; intro w77 S78; clear S72
        refine ⟨(S78.dels [4, 3, 2, 1, 0]), ?_⟩
        refine ak (v := .int .i64 R.2) 12 rfl (S78.dels [4, 3, 2, 1, 0]) (fun _ _ => ya) ?_
        refine wA_done (by kernel_rfl) ?_
        refine pk [4, 5, 8, 9] ?_
        have S80 : St w.heap.size w w77 [_, _, _, _, _, _, _, _, _] := S78.re [1, 0, 2, 3, 4, 5, 6, 7, 8] (by decide); clear S78
        refine wQ_cut (b66, A69, c70, d32, g33, m31) ?_ ⟨rfl, rfl, rfl, rfl, trivial⟩
        exact S80
      ·refine nnaB 10 rfl S26 Try.zeroValue108 ?_; intro b81 w82 S83; clear S26
       refine ⟨(St.del 0 S83), ?_⟩
       refine aq1 0 ?_
       refine caln 0 rfl en164 (racts_k2 _) ?_
       rintro _ w87 ⟨m84, d85, g86, rfl, T89⟩
       refine ⟨_, rfl, ?_⟩
       have S88 := S83.ext T89 rfl; clear T89 S83
       change St _ _ _ [.blk d85 #[.int .i64 1] 3, .blk g86 #[.func (.func 184) #[] #[]] 208, .loc m84 (FMap Try.prog 3 (fun y => if y = 2 then some (.func (.func 193) #[] #[.pointer (some ⟨d85, 0, none⟩), .pointer (some ⟨g86, 0, none⟩)]) else none) 7), _, _, _, _, _] at S88
       refine ⟨(S88.dels [3, 2, 1, 0]), ?_⟩
       refine aq1 3 ?_
       refine wN_val (i := 3) rfl rfl (v := .func (.func 193) #[] #[.pointer (some ⟨d85, 0, none⟩), .pointer (some ⟨g86, 0, none⟩)]) (wn rfl) rfl rfl (y_lookF 2 S88 rfl rfl rfl rfl Try.underlying3 Try.underlying209 (Try.zeroValue208 _) (by decide) rfl) ?_
       refine ⟨(S88.dels [3, 2, 1, 0]), ?_⟩
       refine aq1 6 ?_
       have HC := only_add ro ep fr tg rd A c l 2 qu e pe x 1 d85 g86 (by omega) _ (St.rd 7 S88 rfl) hb (St.bld (xs := [.int .i64 1]) 0 S88 rfl rfl rfl) (St.bld (xs := [.func (.func 184) #[] #[]]) 1 S88 rfl rfl rfl)
       rw [hM] at HC
       refine wN_call_ (i := 6) rfl rfl (vs := [.agg #[.int .i64 ro, .int .i64 ep, .int .i64 fr, .int .i64 tg, .int .i64 rd, .slice A l.length c], .agg #[.int .i64 2, .int .i64 qu, .int .i64 e, .int .i64 pe, .int .i64 x.kind, .int .i64 x.producer, .int .i64 x.id, .int .i64 x.body, .int .i64 x.hepoch, .int .i64 x.hno], .pointer (some ⟨d85, 0, none⟩), .pointer (some ⟨g86, 0, none⟩)]) (wn rfl) rfl rfl (e_callv (first := []) (cap := [.pointer (some ⟨d85, 0, none⟩), .pointer (some ⟨g86, 0, none⟩)]) (vs := [.agg #[.int .i64 ro, .int .i64 ep, .int .i64 fr, .int .i64 tg, .int .i64 rd, .slice A l.length c], .agg #[.int .i64 2, .int .i64 qu, .int .i64 e, .int .i64 pe, .int .i64 x.kind, .int .i64 x.producer, .int .i64 x.id, .int .i64 x.body, .int .i64 x.hepoch, .int .i64 x.hno]]) rfl rfl en193 ⟨rfl, rfl, trivial⟩ rfl) (HC) ?_
       rintro _ w92 ⟨A90, c91, rfl, T94⟩
       refine ⟨_, rfl, ?_⟩
       have S93 := S88.ext T94 rfl; clear T94 S88
       change St _ _ _ [.rdo 6 A90 R.1.evs.length ((R.1.evs).flatMap Ev.cells), _, _, _, _, _, _, _, _] at S93; clear HC
       refine ⟨(S93.dels [4, 3, 2, 1, 0]), ?_⟩
       refine ak (v := .tuple #[.agg #[.int .i64 R.1.role, .int .i64 R.1.ep, .int .i64 R.1.fr, .int .i64 R.1.tg, .int .i64 R.1.rd, .slice A90 R.1.evs.length c91], .int .i64 R.2]) 7 rfl (S93.dels [4, 3, 2, 1, 0]) (fun _ _ => ym) ?_
       refine ak (v := .agg #[.int .i64 R.1.role, .int .i64 R.1.ep, .int .i64 R.1.fr, .int .i64 R.1.tg, .int .i64 R.1.rd, .slice A90 R.1.evs.length c91]) 8 rfl (S93.dels [4, 3, 2, 1, 0]) (fun _ _ => yx) ?_
       refine ak (v := .int .i64 R.2) 9 rfl (S93.dels [4, 3, 2, 1, 0]) (fun _ _ => yx) ?_
       refine aq1 11 ?_
       refine sn 11 rfl 4 S93 inf108 ?_; intro w98 S99; clear S93
       refine ⟨(S99.dels [4, 3, 2, 1, 0]), ?_⟩
       refine ak (v := .int .i64 R.2) 12 rfl (S99.dels [4, 3, 2, 1, 0]) (fun _ _ => ya) ?_
       refine wA_done (by kernel_rfl) ?_
       refine pk [4, 5, 8, 9] ?_
       have S101 : St w.heap.size w w98 [_, _, _, _, _, _, _, _, _] := S99.re [4, 0, 1, 2, 3, 5, 6, 7, 8] (by decide); clear S99
       refine wQ_cut (b81, A90, c91, d85, g86, m84) ?_ ⟨rfl, rfl, rfl, rfl, trivial⟩
       exact S101
     ·rintro ⟨b102, A103, c104, d105, g106, m107⟩ w108 S109
      try dsimp only at S109; clear S23
      refine cw [4, 5, 8, 9] ?_
      refine x_ssr (vm ?_)
      by_cases h110 : R.2 = 0
      ·refine vv (yneqF h110) ?_
       refine qk [4, 5, 8, 47] ?_
       refine wQ_then (wC_cond_f rfl (wC_skip (wQ_then (wC_seq ?_))))
       have S111 := S109.nil 37 6; clear S109
       change St _ _ _ [.own 37 6 (.slice none 0 0) 0 ((([] : List Ev)).flatMap Ev.cells), _, _, _, _, _, _, _, _, _] at S111
       refine wC_region (vv (yfa 5 fa108_5) ?_)
       refine vv (ylc 1 S111 Try.underlying57) ?_
       refine wL_append (news := (R.1.evs).flatMap Ev.cells) (xs' := (R.1.evs).flatMap Ev.cells) 0 S111 (wn rfl) rfl rfl rfl rfl rfl rfl (St.rdo 2 S111 rfl) Try.underlying57 infz37 rfl (by decide) (evCells_one _) (by simp only [maxLen]; omega) (by omega) (rfl) ?_; intro A112 c113 w114 hc116 hm117 S115; clear S111
       change St _ _ _ [.own 37 6 (.slice A112 (0 + R.1.evs.length) c113) (0 + R.1.evs.length) ((R.1.evs).flatMap Ev.cells), _, _, _, _, _, _, _, _, _] at S115
       refine vv (yfa 5 fa108_5) ?_
       refine sr (row' := #[.int .i64 R.1.role, .int .i64 R.1.ep, .int .i64 R.1.fr, .int .i64 R.1.tg, .int .i64 R.1.rd, .slice A112 (0 + R.1.evs.length) c113]) 1 S115 inf57 ?_; intro w118 S119; clear S115
       refine qk [4, 5, 8] ?_
       refine x_tsr (vv (ylr 1 S119 Try.underlying108 inf108) ?_)
       refine sa 6 S119 inf108 ?_; intro w120 S121; clear S119
       refine va ?_
       refine qk [4, 5] ?_
       refine x_te (pc 6 S121 Try.underlying108 inf108 ?_)
       have S122 : St _ _ _ [_] := S121.dels [9, 8, 7, 6, 5, 4, 3, 2, 1]; clear S121
       rw [apply_go h13 h17 (by dsimp only; omega) (by rw [hR]; exact h110), hR]
       rw [Nat.zero_add] at S122 ⊢
       exact ⟨A112, c113, (own_caps (S122.own 0 rfl)).1, rfl, S122.sealAll 0 rfl⟩
      ·refine vv (yneqT h110) ?_
       refine qk [4, 5, 8, 47] ?_
       refine x_tysr (vv yzB ?_)
       refine sa 5 S109 inf108 ?_; intro w123 S124; clear S109
       refine va ?_
       refine qk [4, 5] ?_
       refine x_teh (pc 5 S124 Try.underlying108 inf108 ?_)
       have S125 : St _ _ _ [] := S124.dels [8, 7, 6, 5, 4, 3, 2, 1, 0]; clear S124
       rw [apply_no h13 h17 (by rw [hR]; exact h110)]
       exact ⟨none, 0, Nat.le_refl 0, rfl, rdo_nil S125⟩
    ·refine vg (yneqT h25) ?_
     refine vg ypT ?_
     refine vv ypF ?_
     refine qk [2, 3, 4, 5, 34] ?_
     refine x_tysr (vv yzB ?_)
     refine sa 0 S23 inf108 ?_; intro w126 S127; clear S23
     refine va ?_
     refine qk [4, 5] ?_
     refine x_teh (pc 0 S127 Try.underlying108 inf108 ?_)
     have S128 : St _ _ _ [] := S127.dels [3, 2, 1, 0]; clear S127
     rw [apply_x h13 h17 (by dsimp only; omega)]
     exact ⟨none, 0, Nat.le_refl 0, rfl, rdo_nil S128⟩
  ·refine vv (yneqT h17) ?_
   refine qk [2, 3, 4, 5, 7, 19] ?_
   refine x_tysr (vv yzB ?_)
   refine vm ?_
   refine sa 0 S15 inf108 ?_; intro w129 S130; clear S15
   refine va ?_
   refine qk [4, 5] ?_
   refine x_teh (pc 0 S130 Try.underlying108 inf108 ?_)
   have S131 : St _ _ _ [] := S130.dels [3, 2, 1, 0]; clear S130
   rw [apply_rf h13 h17]
   exact ⟨none, 0, Nat.le_refl 0, rfl, rdo_nil S131⟩
 ·refine vv (yneqT h13) ?_
  refine qk [2, 3, 4, 5, 6, 13] ?_
  refine x_tysr (vv yzB ?_)
  refine vm ?_
  refine sa 0 S11 inf108 ?_; intro w132 S133; clear S11
  refine va ?_
  refine qk [4, 5] ?_
  refine x_teh (pc 0 S133 Try.underlying108 inf108 ?_)
  have S134 : St _ _ _ [] := S133.dels [3, 2, 1, 0]; clear S133
  rw [apply_bf h13]
  exact ⟨none, 0, Nat.le_refl 0, rfl, rdo_nil S134⟩
end Go.Proofs.Ytkjlafpafmihaaa

namespace Go.Proofs.Ytkjlafpafmihaaa
open Go.ChangeShapes Go.WideShapes Go.RowKit

set_option maxRecDepth 100000 in
set_option maxHeartbeats 8000000 in
theorem Apply_k3 (ro ep fr tg rd : Int) (A : Option Addr) (c : Nat) (l : List Ev) (qu e pe : Int) (x : Ev) (hlc : l.length ≤ c) (w : World) (h : Rd w w.heap.size 6 A l.length (evCells l)) (hb : l.length * 48 ≤ reachBytes) :
    Calls Try.prog 98 #[.agg #[.int .i64 ro, .int .i64 ep, .int .i64 fr, .int .i64 tg, .int .i64 rd, .slice A l.length c], .agg #[.int .i64 3, .int .i64 qu, .int .i64 e, .int .i64 pe, .int .i64 x.kind, .int .i64 x.producer, .int .i64 x.id, .int .i64 x.body, .int .i64 x.hepoch, .int .i64 x.hno]] w (ApplyPost w (applyM ⟨ro, ep, fr, tg, rd, l⟩ ⟨3, qu, e, pe, x⟩)) := by
 have S := (St.start w).addRd h; clear h
 have hb2 := hb
 unfold reachBytes at hb2
 refine fnw 54 Try.func98 ?_
 refine cw [0, 1] ?_
 refine x_sr (nb (row := #[.int .i64 ro, .int .i64 ep, .int .i64 fr, .int .i64 tg, .int .i64 rd, .slice A l.length c]) S ?_); intro b1 w2 S3; clear S
 refine nb (row := #[.int .i64 3, .int .i64 qu, .int .i64 e, .int .i64 pe, .int .i64 x.kind, .int .i64 x.producer, .int .i64 x.id, .int .i64 x.body, .int .i64 x.hepoch, .int .i64 x.hno]) S3 ?_; intro b4 w5 S6; clear S3
 refine naB S6 Try.zeroValue108 ?_; intro b7 w8 S9; clear S6
 refine va ?_
 refine qk [2, 3, 4, 5] ?_
 refine x_tssr (vv (ylr 2 S9 Try.underlying108 inf108) ?_)
 refine cab en76 S9 (BCheck_calls ro ep fr tg rd A c l _ (St.rd 3 S9 rfl) (by omega)) ?_; intro w10 S11; clear S9
 refine va ?_
 refine qk [2, 3, 4, 5, 6] ?_
 refine x_tsr (vm ?_)
 by_cases h13 : brtFault ⟨ro, ep, fr, tg, rd, l⟩ = 0
 ·have hln := tellM_len (bf_zero h13).2
  dsimp only at hln
  refine vv (yneqF h13) ?_
  refine qk [2, 3, 4, 5, 6, 13] ?_
  refine x_tnktssr (vv (ylr 1 S11 Try.underlying51 inf51) ?_)
  refine cab en119 S11 (Record_calls ⟨3, qu, e, pe, x⟩ _) ?_; intro w14 S15; clear S11
  refine va ?_
  refine qk [2, 3, 4, 5, 7] ?_
  refine x_tsr (vm ?_)
  by_cases h17 : recFault ⟨3, qu, e, pe, x⟩ = 0
  ·have hrz := rec_zero h17
   dsimp only at hrz
   refine vv (yneqF h17) ?_
   refine qk [2, 3, 4, 5, 7, 19] ?_
   refine x_tnktssr (vv (yfa 0 fa108_0) ?_)
   refine vv (ylc 2 S15 Try.underlying3) ?_
   by_cases h18 : ro = 2
   ·refine vv (yeqlT h18) ?_
    refine vm ?_
    iterate 8 refine vs ?_
    refine vv ypT ?_
    refine qk [2, 3, 4, 5, 34] ?_
    refine x_tysr (vv yzB ?_)
    refine sa 0 S15 inf108 ?_; intro w19 S20; clear S15
    refine va ?_
    refine qk [4, 5] ?_
    refine x_teh (pc 0 S20 Try.underlying108 inf108 ?_)
    have S21 : St _ _ _ [] := S20.dels [3, 2, 1, 0]; clear S20
    rw [apply_x h13 h17 (by dsimp only; omega)]
    exact ⟨none, 0, Nat.le_refl 0, rfl, rdo_nil S21⟩
   ·refine vv (yeqlF h18) ?_
    refine vm ?_
    refine vg (yfa 0 fa51_0) ?_
    refine vg (ylc 1 S15 Try.underlying3) ?_
    refine calg en163 (peerless_f 3 (by decide) _) ?_
    rintro _ w22 ⟨rfl, hb24⟩
    refine ⟨_, rfl, ?_⟩
    have S23 := S15.on hb24; clear hb24 S15
    refine vg ym ?_
    iterate 3 refine vs ?_
    refine vg ypF ?_
    refine vv ypF ?_
    refine qk [2, 3, 4, 5, 34] ?_
    refine wQ_then (wC_cond_f rfl (wC_skip (wQ_then (wC_seq ?_))))
    have S25 := S23.drew; clear S23
    refine wC_any_ (C := fun w' => St w.heap.size w w' [.blk b7 #[.int .i64 0, .int .i64 0, .int .i64 0, .int .i64 0, .int .i64 0, .slice none 0 0] 108, .blk b4 #[.int .i64 3, .int .i64 qu, .int .i64 e, .int .i64 pe, .int .i64 x.kind, .int .i64 x.producer, .int .i64 x.id, .int .i64 x.body, .int .i64 x.hepoch, .int .i64 x.hno] 51, .blk b1 #[.int .i64 ro, .int .i64 ep, .int .i64 fr, .int .i64 tg, .int .i64 rd, .slice A l.length c] 108, .rd 6 A l.length ((l).flatMap Ev.cells)]) (n := 13) (listed := #[false, false, false, false, false, false, false, false, false, false, false, false, false]) mixed rfl rfl ?_
    refine ak (v := .pointer (some ⟨b4, 0, none⟩)) 1 rfl S25 (fun _ _ => yfa _ fa51_0) ?_
    refine ak (v := .int .i64 3) 2 rfl S25 (fun _ Sx27 => ylc 1 Sx27 Try.underlying3) ?_
    refine ak (v := .agg #[.int .i64 ro, .int .i64 ep, .int .i64 fr, .int .i64 tg, .int .i64 rd, .slice A l.length c]) 4 rfl S25 (fun _ Sx28 => ylr 2 Sx28 Try.underlying108 inf108) ?_
    refine ak (v := .agg #[.int .i64 3, .int .i64 qu, .int .i64 e, .int .i64 pe, .int .i64 x.kind, .int .i64 x.producer, .int .i64 x.id, .int .i64 x.body, .int .i64 x.hepoch, .int .i64 x.hno]) 5 rfl S25 (fun _ Sx29 => ylr 1 Sx29 Try.underlying51 inf51) ?_
    refine wA_two (n := 8) (r := 0) (s := 10) (by kernel_rfl) ?_ ?_
    ·refine caln 0 rfl en164 (racts_k3 _) ?_
     rintro _ w33 ⟨m30, d31, g32, rfl, T35⟩
     refine ⟨_, rfl, ?_⟩
     have S34 := S25.ext T35 rfl; clear T35 S25
     change St _ _ _ [.blk d31 #[.int .i64 1] 3, .blk g32 #[.func (.func 185) #[] #[]] 208, .loc m30 (FMap Try.prog 3 (fun y => if y = 3 then some (.func (.func 193) #[] #[.pointer (some ⟨d31, 0, none⟩), .pointer (some ⟨g32, 0, none⟩)]) else none) 7), _, _, _, _] at S34
     refine ⟨(S34.dels [2, 1, 0]), ?_⟩
     refine wA_two (n := 7) (r := 3) (s := 10) (by kernel_rfl) ?_ ?_
     ·refine wN_val (i := 3) rfl rfl (v := .func (.func 193) #[] #[.pointer (some ⟨d31, 0, none⟩), .pointer (some ⟨g32, 0, none⟩)]) (wn rfl) rfl rfl (y_lookF 2 S34 rfl rfl rfl rfl Try.underlying3 Try.underlying209 (Try.zeroValue208 _) (by decide) rfl) ?_
      refine ⟨(S34.dels [2, 1, 0]), ?_⟩
      refine wA_two (n := 6) (r := 6) (s := 10) (by kernel_rfl) ?_ ?_
      ·by_cases hfit : ro = 1 ∧ ep = e
       ·refine wN_call_ (i := 6) rfl rfl (vs := [.agg #[.int .i64 ro, .int .i64 ep, .int .i64 fr, .int .i64 tg, .int .i64 rd, .slice A l.length c], .agg #[.int .i64 3, .int .i64 qu, .int .i64 e, .int .i64 pe, .int .i64 x.kind, .int .i64 x.producer, .int .i64 x.id, .int .i64 x.body, .int .i64 x.hepoch, .int .i64 x.hno], .pointer (some ⟨d31, 0, none⟩), .pointer (some ⟨g32, 0, none⟩)]) (wn rfl) rfl rfl (e_callv (first := []) (cap := [.pointer (some ⟨d31, 0, none⟩), .pointer (some ⟨g32, 0, none⟩)]) (vs := [.agg #[.int .i64 ro, .int .i64 ep, .int .i64 fr, .int .i64 tg, .int .i64 rd, .slice A l.length c], .agg #[.int .i64 3, .int .i64 qu, .int .i64 e, .int .i64 pe, .int .i64 x.kind, .int .i64 x.producer, .int .i64 x.id, .int .i64 x.body, .int .i64 x.hepoch, .int .i64 x.hno]]) rfl rfl en193 ⟨rfl, rfl, trivial⟩ rfl) (fit_yes (only_seal ro ep fr tg rd A c l 3 qu e pe x 1 d31 g32 _ (St.rd 6 S34 rfl) hb (St.bld (xs := [.int .i64 1]) 0 S34 rfl rfl rfl) (St.bld (xs := [.func (.func 185) #[] #[]]) 1 S34 rfl rfl rfl)) hfit) ?_
        rintro _ w36 ⟨rfl, hb38⟩
        refine ⟨_, rfl, ?_⟩
        have S37 := S34.on hb38; clear hb38 S34
        refine ⟨(S37.dels [2, 1, 0]), ?_⟩
        refine ak (v := .tuple #[.agg #[.int .i64 3, .int .i64 ep, .int .i64 fr, .int .i64 pe, .int .i64 rd, .slice A l.length c], .int .i64 0]) 7 rfl (S37.dels [2, 1, 0]) (fun _ _ => ym) ?_
        refine ak (v := .agg #[.int .i64 3, .int .i64 ep, .int .i64 fr, .int .i64 pe, .int .i64 rd, .slice A l.length c]) 8 rfl (S37.dels [2, 1, 0]) (fun _ _ => yx) ?_
        refine ak (v := .int .i64 0) 9 rfl (S37.dels [2, 1, 0]) (fun _ _ => yx) ?_
        refine aq1 10 ?_
        refine nnaB 10 rfl S37 Try.zeroValue108 ?_; intro b42 w43 S44; clear S37
        refine ⟨(S44.dels [3, 2, 1, 0]), ?_⟩
        refine aq1 11 ?_
        refine sn 11 rfl 0 S44 inf108 ?_; intro w45 S46; clear S44
        refine ⟨(S46.dels [3, 2, 1, 0]), ?_⟩
        refine ak (v := .int .i64 0) 12 rfl (S46.dels [3, 2, 1, 0]) (fun _ _ => ya) ?_
        refine wA_done (by kernel_rfl) ?_
        refine pk [4, 5, 8, 9] ?_
        refine x_tssr (vm ?_)
        refine vv dneqF ?_
        refine qk [4, 5, 8, 47] ?_
        refine wQ_then (wC_cond_f rfl (wC_skip (wQ_then (wC_seq ?_))))
        have S48 := S46.nil 37 6; clear S46
        change St _ _ _ [.own 37 6 (.slice none 0 0) 0 ((([] : List Ev)).flatMap Ev.cells), _, _, _, _, _, _, _, _] at S48
        refine wC_region (vv (yfa 5 fa108_5) ?_)
        refine vv (ylc 1 S48 Try.underlying57) ?_
        refine wL_append (news := (l).flatMap Ev.cells) (xs' := (l).flatMap Ev.cells) 0 S48 (wn rfl) rfl rfl rfl rfl rfl rfl (St.rd 8 S48 rfl) Try.underlying57 infz37 rfl (by decide) (evCells_one _) (by simp only [maxLen]; omega) (by omega) (rfl) ?_; intro A49 c50 w51 hc53 hm54 S52; clear S48
        change St _ _ _ [.own 37 6 (.slice A49 (0 + l.length) c50) (0 + l.length) ((l).flatMap Ev.cells), _, _, _, _, _, _, _, _] at S52
        refine vv (yfa 5 fa108_5) ?_
        refine sr (row' := #[.int .i64 3, .int .i64 ep, .int .i64 fr, .int .i64 pe, .int .i64 rd, .slice A49 (0 + l.length) c50]) 1 S52 inf57 ?_; intro w55 S56; clear S52
        refine qk [4, 5, 8] ?_
        refine x_tsr (vv (ylr 1 S56 Try.underlying108 inf108) ?_)
        refine sa 5 S56 inf108 ?_; intro w57 S58; clear S56
        refine va ?_
        refine qk [4, 5] ?_
        refine x_te (pc 5 S58 Try.underlying108 inf108 ?_)
        have S59 : St _ _ _ [_] := S58.dels [8, 7, 6, 5, 4, 3, 2, 1]; clear S58
        rw [apply_go h13 h17 (by dsimp only; omega) (by rw [act_k3, if_neg (fun h => h hfit)]; rfl), act_k3, if_neg (fun h => h hfit)]
        rw [Nat.zero_add] at S59 ⊢
        exact ⟨A49, c50, (own_caps (S59.own 0 rfl)).1, rfl, S59.sealAll 0 rfl⟩
       ·refine wN_call_ (i := 6) rfl rfl (vs := [.agg #[.int .i64 ro, .int .i64 ep, .int .i64 fr, .int .i64 tg, .int .i64 rd, .slice A l.length c], .agg #[.int .i64 3, .int .i64 qu, .int .i64 e, .int .i64 pe, .int .i64 x.kind, .int .i64 x.producer, .int .i64 x.id, .int .i64 x.body, .int .i64 x.hepoch, .int .i64 x.hno], .pointer (some ⟨d31, 0, none⟩), .pointer (some ⟨g32, 0, none⟩)]) (wn rfl) rfl rfl (e_callv (first := []) (cap := [.pointer (some ⟨d31, 0, none⟩), .pointer (some ⟨g32, 0, none⟩)]) (vs := [.agg #[.int .i64 ro, .int .i64 ep, .int .i64 fr, .int .i64 tg, .int .i64 rd, .slice A l.length c], .agg #[.int .i64 3, .int .i64 qu, .int .i64 e, .int .i64 pe, .int .i64 x.kind, .int .i64 x.producer, .int .i64 x.id, .int .i64 x.body, .int .i64 x.hepoch, .int .i64 x.hno]]) rfl rfl en193 ⟨rfl, rfl, trivial⟩ rfl) (fit_no (only_seal ro ep fr tg rd A c l 3 qu e pe x 1 d31 g32 _ (St.rd 6 S34 rfl) hb (St.bld (xs := [.int .i64 1]) 0 S34 rfl rfl rfl) (St.bld (xs := [.func (.func 185) #[] #[]]) 1 S34 rfl rfl rfl)) hfit) ?_
        rintro _ w60 ⟨rfl, hb62⟩
        refine ⟨_, rfl, ?_⟩
        have S61 := S34.on hb62; clear hb62 S34
        refine ⟨(S61.dels [2, 1, 0]), ?_⟩
        refine ak (v := .tuple #[.agg #[.int .i64 0, .int .i64 0, .int .i64 0, .int .i64 0, .int .i64 0, .slice none 0 0], .int .i64 3]) 7 rfl (S61.dels [2, 1, 0]) (fun _ _ => ym) ?_
        refine ak (v := .agg #[.int .i64 0, .int .i64 0, .int .i64 0, .int .i64 0, .int .i64 0, .slice none 0 0]) 8 rfl (S61.dels [2, 1, 0]) (fun _ _ => yx) ?_
        refine ak (v := .int .i64 3) 9 rfl (S61.dels [2, 1, 0]) (fun _ _ => yx) ?_
        refine aq1 10 ?_
        refine nnaB 10 rfl S61 Try.zeroValue108 ?_; intro b66 w67 S68; clear S61
        refine ⟨(S68.dels [3, 2, 1, 0]), ?_⟩
        refine aq1 11 ?_
        refine sn 11 rfl 0 S68 inf108 ?_; intro w69 S70; clear S68
        refine ⟨(S70.dels [3, 2, 1, 0]), ?_⟩
        refine ak (v := .int .i64 3) 12 rfl (S70.dels [3, 2, 1, 0]) (fun _ _ => ya) ?_
        refine wA_done (by kernel_rfl) ?_
        refine pk [4, 5, 8, 9] ?_
        refine x_tssr (vm ?_)
        refine vv dneqT ?_
        refine qk [4, 5, 8, 47] ?_
        refine x_tysr (vv yzB ?_)
        refine sa 4 S70 inf108 ?_; intro w72 S73; clear S70
        refine va ?_
        refine qk [4, 5] ?_
        refine x_teh (pc 4 S73 Try.underlying108 inf108 ?_)
        have S74 : St _ _ _ [] := S73.dels [7, 6, 5, 4, 3, 2, 1, 0]; clear S73
        rw [apply_no h13 h17 (by rw [act_k3, if_pos hfit]; decide)]
        exact ⟨none, 0, Nat.le_refl 0, rfl, rdo_nil S74⟩
      ·refine nnaB 10 rfl S34 Try.zeroValue108 ?_; intro b75 w76 S77; clear S34
       refine ⟨(S77.dels [3, 2, 1, 0]), ?_⟩
       refine aq1 6 ?_
       by_cases hfit : ro = 1 ∧ ep = e
       ·refine wN_call_ (i := 6) rfl rfl (vs := [.agg #[.int .i64 ro, .int .i64 ep, .int .i64 fr, .int .i64 tg, .int .i64 rd, .slice A l.length c], .agg #[.int .i64 3, .int .i64 qu, .int .i64 e, .int .i64 pe, .int .i64 x.kind, .int .i64 x.producer, .int .i64 x.id, .int .i64 x.body, .int .i64 x.hepoch, .int .i64 x.hno], .pointer (some ⟨d31, 0, none⟩), .pointer (some ⟨g32, 0, none⟩)]) (wn rfl) rfl rfl (e_callv (first := []) (cap := [.pointer (some ⟨d31, 0, none⟩), .pointer (some ⟨g32, 0, none⟩)]) (vs := [.agg #[.int .i64 ro, .int .i64 ep, .int .i64 fr, .int .i64 tg, .int .i64 rd, .slice A l.length c], .agg #[.int .i64 3, .int .i64 qu, .int .i64 e, .int .i64 pe, .int .i64 x.kind, .int .i64 x.producer, .int .i64 x.id, .int .i64 x.body, .int .i64 x.hepoch, .int .i64 x.hno]]) rfl rfl en193 ⟨rfl, rfl, trivial⟩ rfl) (fit_yes (only_seal ro ep fr tg rd A c l 3 qu e pe x 1 d31 g32 _ (St.rd 7 S77 rfl) hb (St.bld (xs := [.int .i64 1]) 1 S77 rfl rfl rfl) (St.bld (xs := [.func (.func 185) #[] #[]]) 2 S77 rfl rfl rfl)) hfit) ?_
        rintro _ w78 ⟨rfl, hb80⟩
        refine ⟨_, rfl, ?_⟩
        have S79 := S77.on hb80; clear hb80 S77
        refine ⟨(S79.dels [3, 2, 1, 0]), ?_⟩
        refine ak (v := .tuple #[.agg #[.int .i64 3, .int .i64 ep, .int .i64 fr, .int .i64 pe, .int .i64 rd, .slice A l.length c], .int .i64 0]) 7 rfl (S79.dels [3, 2, 1, 0]) (fun _ _ => ym) ?_
        refine ak (v := .agg #[.int .i64 3, .int .i64 ep, .int .i64 fr, .int .i64 pe, .int .i64 rd, .slice A l.length c]) 8 rfl (S79.dels [3, 2, 1, 0]) (fun _ _ => yx) ?_
        refine ak (v := .int .i64 0) 9 rfl (S79.dels [3, 2, 1, 0]) (fun _ _ => yx) ?_
        refine aq1 11 ?_
        refine sn 11 rfl 0 S79 inf108 ?_; intro w84 S85; clear S79
        refine ⟨(S85.dels [3, 2, 1, 0]), ?_⟩
        refine ak (v := .int .i64 0) 12 rfl (S85.dels [3, 2, 1, 0]) (fun _ _ => ya) ?_
        refine wA_done (by kernel_rfl) ?_
        refine pk [4, 5, 8, 9] ?_
        refine x_tssr (vm ?_)
        refine vv dneqF ?_
        refine qk [4, 5, 8, 47] ?_
        refine wQ_then (wC_cond_f rfl (wC_skip (wQ_then (wC_seq ?_))))
        have S87 := S85.nil 37 6; clear S85
        change St _ _ _ [.own 37 6 (.slice none 0 0) 0 ((([] : List Ev)).flatMap Ev.cells), _, _, _, _, _, _, _, _] at S87
        refine wC_region (vv (yfa 5 fa108_5) ?_)
        refine vv (ylc 1 S87 Try.underlying57) ?_
        refine wL_append (news := (l).flatMap Ev.cells) (xs' := (l).flatMap Ev.cells) 0 S87 (wn rfl) rfl rfl rfl rfl rfl rfl (St.rd 8 S87 rfl) Try.underlying57 infz37 rfl (by decide) (evCells_one _) (by simp only [maxLen]; omega) (by omega) (rfl) ?_; intro A88 c89 w90 hc92 hm93 S91; clear S87
        change St _ _ _ [.own 37 6 (.slice A88 (0 + l.length) c89) (0 + l.length) ((l).flatMap Ev.cells), _, _, _, _, _, _, _, _] at S91
        refine vv (yfa 5 fa108_5) ?_
        refine sr (row' := #[.int .i64 3, .int .i64 ep, .int .i64 fr, .int .i64 pe, .int .i64 rd, .slice A88 (0 + l.length) c89]) 1 S91 inf57 ?_; intro w94 S95; clear S91
        refine qk [4, 5, 8] ?_
        refine x_tsr (vv (ylr 1 S95 Try.underlying108 inf108) ?_)
        refine sa 5 S95 inf108 ?_; intro w96 S97; clear S95
        refine va ?_
        refine qk [4, 5] ?_
        refine x_te (pc 5 S97 Try.underlying108 inf108 ?_)
        have S98 : St _ _ _ [_] := S97.dels [8, 7, 6, 5, 4, 3, 2, 1]; clear S97
        rw [apply_go h13 h17 (by dsimp only; omega) (by rw [act_k3, if_neg (fun h => h hfit)]; rfl), act_k3, if_neg (fun h => h hfit)]
        rw [Nat.zero_add] at S98 ⊢
        exact ⟨A88, c89, (own_caps (S98.own 0 rfl)).1, rfl, S98.sealAll 0 rfl⟩
       ·refine wN_call_ (i := 6) rfl rfl (vs := [.agg #[.int .i64 ro, .int .i64 ep, .int .i64 fr, .int .i64 tg, .int .i64 rd, .slice A l.length c], .agg #[.int .i64 3, .int .i64 qu, .int .i64 e, .int .i64 pe, .int .i64 x.kind, .int .i64 x.producer, .int .i64 x.id, .int .i64 x.body, .int .i64 x.hepoch, .int .i64 x.hno], .pointer (some ⟨d31, 0, none⟩), .pointer (some ⟨g32, 0, none⟩)]) (wn rfl) rfl rfl (e_callv (first := []) (cap := [.pointer (some ⟨d31, 0, none⟩), .pointer (some ⟨g32, 0, none⟩)]) (vs := [.agg #[.int .i64 ro, .int .i64 ep, .int .i64 fr, .int .i64 tg, .int .i64 rd, .slice A l.length c], .agg #[.int .i64 3, .int .i64 qu, .int .i64 e, .int .i64 pe, .int .i64 x.kind, .int .i64 x.producer, .int .i64 x.id, .int .i64 x.body, .int .i64 x.hepoch, .int .i64 x.hno]]) rfl rfl en193 ⟨rfl, rfl, trivial⟩ rfl) (fit_no (only_seal ro ep fr tg rd A c l 3 qu e pe x 1 d31 g32 _ (St.rd 7 S77 rfl) hb (St.bld (xs := [.int .i64 1]) 1 S77 rfl rfl rfl) (St.bld (xs := [.func (.func 185) #[] #[]]) 2 S77 rfl rfl rfl)) hfit) ?_
        rintro _ w99 ⟨rfl, hb101⟩
        refine ⟨_, rfl, ?_⟩
        have S100 := S77.on hb101; clear hb101 S77
        refine ⟨(S100.dels [3, 2, 1, 0]), ?_⟩
        refine ak (v := .tuple #[.agg #[.int .i64 0, .int .i64 0, .int .i64 0, .int .i64 0, .int .i64 0, .slice none 0 0], .int .i64 3]) 7 rfl (S100.dels [3, 2, 1, 0]) (fun _ _ => ym) ?_
        refine ak (v := .agg #[.int .i64 0, .int .i64 0, .int .i64 0, .int .i64 0, .int .i64 0, .slice none 0 0]) 8 rfl (S100.dels [3, 2, 1, 0]) (fun _ _ => yx) ?_
        refine ak (v := .int .i64 3) 9 rfl (S100.dels [3, 2, 1, 0]) (fun _ _ => yx) ?_
        refine aq1 11 ?_
        refine sn 11 rfl 0 S100 inf108 ?_; intro w105 S106; clear S100
        refine ⟨(S106.dels [3, 2, 1, 0]), ?_⟩
        refine ak (v := .int .i64 3) 12 rfl (S106.dels [3, 2, 1, 0]) (fun _ _ => ya) ?_
        refine wA_done (by kernel_rfl) ?_
        refine pk [4, 5, 8, 9] ?_
        refine x_tssr (vm ?_)
        refine vv dneqT ?_
        refine qk [4, 5, 8, 47] ?_
        refine x_tysr (vv yzB ?_)
        refine sa 4 S106 inf108 ?_; intro w108 S109; clear S106
        refine va ?_
        refine qk [4, 5] ?_
        refine x_teh (pc 4 S109 Try.underlying108 inf108 ?_)
        have S110 : St _ _ _ [] := S109.dels [7, 6, 5, 4, 3, 2, 1, 0]; clear S109
        rw [apply_no h13 h17 (by rw [act_k3, if_pos hfit]; decide)]
        exact ⟨none, 0, Nat.le_refl 0, rfl, rdo_nil S110⟩
     ·refine nnaB 10 rfl S34 Try.zeroValue108 ?_; intro b111 w112 S113; clear S34
      refine ⟨(S113.dels [3, 2, 1, 0]), ?_⟩
      refine aq1 3 ?_
      refine wN_val (i := 3) rfl rfl (v := .func (.func 193) #[] #[.pointer (some ⟨d31, 0, none⟩), .pointer (some ⟨g32, 0, none⟩)]) (wn rfl) rfl rfl (y_lookF 3 S113 rfl rfl rfl rfl Try.underlying3 Try.underlying209 (Try.zeroValue208 _) (by decide) rfl) ?_
      refine ⟨(S113.dels [3, 2, 1, 0]), ?_⟩
      refine aq1 6 ?_
      by_cases hfit : ro = 1 ∧ ep = e
      ·refine wN_call_ (i := 6) rfl rfl (vs := [.agg #[.int .i64 ro, .int .i64 ep, .int .i64 fr, .int .i64 tg, .int .i64 rd, .slice A l.length c], .agg #[.int .i64 3, .int .i64 qu, .int .i64 e, .int .i64 pe, .int .i64 x.kind, .int .i64 x.producer, .int .i64 x.id, .int .i64 x.body, .int .i64 x.hepoch, .int .i64 x.hno], .pointer (some ⟨d31, 0, none⟩), .pointer (some ⟨g32, 0, none⟩)]) (wn rfl) rfl rfl (e_callv (first := []) (cap := [.pointer (some ⟨d31, 0, none⟩), .pointer (some ⟨g32, 0, none⟩)]) (vs := [.agg #[.int .i64 ro, .int .i64 ep, .int .i64 fr, .int .i64 tg, .int .i64 rd, .slice A l.length c], .agg #[.int .i64 3, .int .i64 qu, .int .i64 e, .int .i64 pe, .int .i64 x.kind, .int .i64 x.producer, .int .i64 x.id, .int .i64 x.body, .int .i64 x.hepoch, .int .i64 x.hno]]) rfl rfl en193 ⟨rfl, rfl, trivial⟩ rfl) (fit_yes (only_seal ro ep fr tg rd A c l 3 qu e pe x 1 d31 g32 _ (St.rd 7 S113 rfl) hb (St.bld (xs := [.int .i64 1]) 1 S113 rfl rfl rfl) (St.bld (xs := [.func (.func 185) #[] #[]]) 2 S113 rfl rfl rfl)) hfit) ?_
       rintro _ w114 ⟨rfl, hb116⟩
       refine ⟨_, rfl, ?_⟩
       have S115 := S113.on hb116; clear hb116 S113
       refine ⟨(S115.dels [3, 2, 1, 0]), ?_⟩
       refine ak (v := .tuple #[.agg #[.int .i64 3, .int .i64 ep, .int .i64 fr, .int .i64 pe, .int .i64 rd, .slice A l.length c], .int .i64 0]) 7 rfl (S115.dels [3, 2, 1, 0]) (fun _ _ => ym) ?_
       refine ak (v := .agg #[.int .i64 3, .int .i64 ep, .int .i64 fr, .int .i64 pe, .int .i64 rd, .slice A l.length c]) 8 rfl (S115.dels [3, 2, 1, 0]) (fun _ _ => yx) ?_
       refine ak (v := .int .i64 0) 9 rfl (S115.dels [3, 2, 1, 0]) (fun _ _ => yx) ?_
       refine aq1 11 ?_
       refine sn 11 rfl 0 S115 inf108 ?_; intro w120 S121; clear S115
       refine ⟨(S121.dels [3, 2, 1, 0]), ?_⟩
       refine ak (v := .int .i64 0) 12 rfl (S121.dels [3, 2, 1, 0]) (fun _ _ => ya) ?_
       refine wA_done (by kernel_rfl) ?_
       refine pk [4, 5, 8, 9] ?_
       refine x_tssr (vm ?_)
       refine vv dneqF ?_
       refine qk [4, 5, 8, 47] ?_
       refine wQ_then (wC_cond_f rfl (wC_skip (wQ_then (wC_seq ?_))))
       have S123 := S121.nil 37 6; clear S121
       change St _ _ _ [.own 37 6 (.slice none 0 0) 0 ((([] : List Ev)).flatMap Ev.cells), _, _, _, _, _, _, _, _] at S123
       refine wC_region (vv (yfa 5 fa108_5) ?_)
       refine vv (ylc 1 S123 Try.underlying57) ?_
       refine wL_append (news := (l).flatMap Ev.cells) (xs' := (l).flatMap Ev.cells) 0 S123 (wn rfl) rfl rfl rfl rfl rfl rfl (St.rd 8 S123 rfl) Try.underlying57 infz37 rfl (by decide) (evCells_one _) (by simp only [maxLen]; omega) (by omega) (rfl) ?_; intro A124 c125 w126 hc128 hm129 S127; clear S123
       change St _ _ _ [.own 37 6 (.slice A124 (0 + l.length) c125) (0 + l.length) ((l).flatMap Ev.cells), _, _, _, _, _, _, _, _] at S127
       refine vv (yfa 5 fa108_5) ?_
       refine sr (row' := #[.int .i64 3, .int .i64 ep, .int .i64 fr, .int .i64 pe, .int .i64 rd, .slice A124 (0 + l.length) c125]) 1 S127 inf57 ?_; intro w130 S131; clear S127
       refine qk [4, 5, 8] ?_
       refine x_tsr (vv (ylr 1 S131 Try.underlying108 inf108) ?_)
       refine sa 5 S131 inf108 ?_; intro w132 S133; clear S131
       refine va ?_
       refine qk [4, 5] ?_
       refine x_te (pc 5 S133 Try.underlying108 inf108 ?_)
       have S134 : St _ _ _ [_] := S133.dels [8, 7, 6, 5, 4, 3, 2, 1]; clear S133
       rw [apply_go h13 h17 (by dsimp only; omega) (by rw [act_k3, if_neg (fun h => h hfit)]; rfl), act_k3, if_neg (fun h => h hfit)]
       rw [Nat.zero_add] at S134 ⊢
       exact ⟨A124, c125, (own_caps (S134.own 0 rfl)).1, rfl, S134.sealAll 0 rfl⟩
      ·refine wN_call_ (i := 6) rfl rfl (vs := [.agg #[.int .i64 ro, .int .i64 ep, .int .i64 fr, .int .i64 tg, .int .i64 rd, .slice A l.length c], .agg #[.int .i64 3, .int .i64 qu, .int .i64 e, .int .i64 pe, .int .i64 x.kind, .int .i64 x.producer, .int .i64 x.id, .int .i64 x.body, .int .i64 x.hepoch, .int .i64 x.hno], .pointer (some ⟨d31, 0, none⟩), .pointer (some ⟨g32, 0, none⟩)]) (wn rfl) rfl rfl (e_callv (first := []) (cap := [.pointer (some ⟨d31, 0, none⟩), .pointer (some ⟨g32, 0, none⟩)]) (vs := [.agg #[.int .i64 ro, .int .i64 ep, .int .i64 fr, .int .i64 tg, .int .i64 rd, .slice A l.length c], .agg #[.int .i64 3, .int .i64 qu, .int .i64 e, .int .i64 pe, .int .i64 x.kind, .int .i64 x.producer, .int .i64 x.id, .int .i64 x.body, .int .i64 x.hepoch, .int .i64 x.hno]]) rfl rfl en193 ⟨rfl, rfl, trivial⟩ rfl) (fit_no (only_seal ro ep fr tg rd A c l 3 qu e pe x 1 d31 g32 _ (St.rd 7 S113 rfl) hb (St.bld (xs := [.int .i64 1]) 1 S113 rfl rfl rfl) (St.bld (xs := [.func (.func 185) #[] #[]]) 2 S113 rfl rfl rfl)) hfit) ?_
       rintro _ w135 ⟨rfl, hb137⟩
       refine ⟨_, rfl, ?_⟩
       have S136 := S113.on hb137; clear hb137 S113
       refine ⟨(S136.dels [3, 2, 1, 0]), ?_⟩
       refine ak (v := .tuple #[.agg #[.int .i64 0, .int .i64 0, .int .i64 0, .int .i64 0, .int .i64 0, .slice none 0 0], .int .i64 3]) 7 rfl (S136.dels [3, 2, 1, 0]) (fun _ _ => ym) ?_
       refine ak (v := .agg #[.int .i64 0, .int .i64 0, .int .i64 0, .int .i64 0, .int .i64 0, .slice none 0 0]) 8 rfl (S136.dels [3, 2, 1, 0]) (fun _ _ => yx) ?_
       refine ak (v := .int .i64 3) 9 rfl (S136.dels [3, 2, 1, 0]) (fun _ _ => yx) ?_
       refine aq1 11 ?_
       refine sn 11 rfl 0 S136 inf108 ?_; intro w141 S142; clear S136
       refine ⟨(S142.dels [3, 2, 1, 0]), ?_⟩
       refine ak (v := .int .i64 3) 12 rfl (S142.dels [3, 2, 1, 0]) (fun _ _ => ya) ?_
       refine wA_done (by kernel_rfl) ?_
       refine pk [4, 5, 8, 9] ?_
       refine x_tssr (vm ?_)
       refine vv dneqT ?_
       refine qk [4, 5, 8, 47] ?_
       refine x_tysr (vv yzB ?_)
       refine sa 4 S142 inf108 ?_; intro w144 S145; clear S142
       refine va ?_
       refine qk [4, 5] ?_
       refine x_teh (pc 4 S145 Try.underlying108 inf108 ?_)
       have S146 : St _ _ _ [] := S145.dels [7, 6, 5, 4, 3, 2, 1, 0]; clear S145
       rw [apply_no h13 h17 (by rw [act_k3, if_pos hfit]; decide)]
       exact ⟨none, 0, Nat.le_refl 0, rfl, rdo_nil S146⟩
    ·refine nnaB 10 rfl S25 Try.zeroValue108 ?_; intro b147 w148 S149; clear S25
     refine ⟨(St.del 0 S149), ?_⟩
     refine aq1 0 ?_
     refine caln 0 rfl en164 (racts_k3 _) ?_
     rintro _ w153 ⟨m150, d151, g152, rfl, T155⟩
     refine ⟨_, rfl, ?_⟩
     have S154 := S149.ext T155 rfl; clear T155 S149
     change St _ _ _ [.blk d151 #[.int .i64 1] 3, .blk g152 #[.func (.func 185) #[] #[]] 208, .loc m150 (FMap Try.prog 3 (fun y => if y = 3 then some (.func (.func 193) #[] #[.pointer (some ⟨d151, 0, none⟩), .pointer (some ⟨g152, 0, none⟩)]) else none) 7), _, _, _, _, _] at S154
     refine ⟨(S154.dels [3, 2, 1, 0]), ?_⟩
     refine aq1 3 ?_
     refine wN_val (i := 3) rfl rfl (v := .func (.func 193) #[] #[.pointer (some ⟨d151, 0, none⟩), .pointer (some ⟨g152, 0, none⟩)]) (wn rfl) rfl rfl (y_lookF 2 S154 rfl rfl rfl rfl Try.underlying3 Try.underlying209 (Try.zeroValue208 _) (by decide) rfl) ?_
     refine ⟨(S154.dels [3, 2, 1, 0]), ?_⟩
     refine aq1 6 ?_
     by_cases hfit : ro = 1 ∧ ep = e
     ·refine wN_call_ (i := 6) rfl rfl (vs := [.agg #[.int .i64 ro, .int .i64 ep, .int .i64 fr, .int .i64 tg, .int .i64 rd, .slice A l.length c], .agg #[.int .i64 3, .int .i64 qu, .int .i64 e, .int .i64 pe, .int .i64 x.kind, .int .i64 x.producer, .int .i64 x.id, .int .i64 x.body, .int .i64 x.hepoch, .int .i64 x.hno], .pointer (some ⟨d151, 0, none⟩), .pointer (some ⟨g152, 0, none⟩)]) (wn rfl) rfl rfl (e_callv (first := []) (cap := [.pointer (some ⟨d151, 0, none⟩), .pointer (some ⟨g152, 0, none⟩)]) (vs := [.agg #[.int .i64 ro, .int .i64 ep, .int .i64 fr, .int .i64 tg, .int .i64 rd, .slice A l.length c], .agg #[.int .i64 3, .int .i64 qu, .int .i64 e, .int .i64 pe, .int .i64 x.kind, .int .i64 x.producer, .int .i64 x.id, .int .i64 x.body, .int .i64 x.hepoch, .int .i64 x.hno]]) rfl rfl en193 ⟨rfl, rfl, trivial⟩ rfl) (fit_yes (only_seal ro ep fr tg rd A c l 3 qu e pe x 1 d151 g152 _ (St.rd 7 S154 rfl) hb (St.bld (xs := [.int .i64 1]) 0 S154 rfl rfl rfl) (St.bld (xs := [.func (.func 185) #[] #[]]) 1 S154 rfl rfl rfl)) hfit) ?_
      rintro _ w156 ⟨rfl, hb158⟩
      refine ⟨_, rfl, ?_⟩
      have S157 := S154.on hb158; clear hb158 S154
      refine ⟨(S157.dels [3, 2, 1, 0]), ?_⟩
      refine ak (v := .tuple #[.agg #[.int .i64 3, .int .i64 ep, .int .i64 fr, .int .i64 pe, .int .i64 rd, .slice A l.length c], .int .i64 0]) 7 rfl (S157.dels [3, 2, 1, 0]) (fun _ _ => ym) ?_
      refine ak (v := .agg #[.int .i64 3, .int .i64 ep, .int .i64 fr, .int .i64 pe, .int .i64 rd, .slice A l.length c]) 8 rfl (S157.dels [3, 2, 1, 0]) (fun _ _ => yx) ?_
      refine ak (v := .int .i64 0) 9 rfl (S157.dels [3, 2, 1, 0]) (fun _ _ => yx) ?_
      refine aq1 11 ?_
      refine sn 11 rfl 3 S157 inf108 ?_; intro w162 S163; clear S157
      refine ⟨(S163.dels [3, 2, 1, 0]), ?_⟩
      refine ak (v := .int .i64 0) 12 rfl (S163.dels [3, 2, 1, 0]) (fun _ _ => ya) ?_
      refine wA_done (by kernel_rfl) ?_
      refine pk [4, 5, 8, 9] ?_
      refine x_tssr (vm ?_)
      refine vv dneqF ?_
      refine qk [4, 5, 8, 47] ?_
      refine wQ_then (wC_cond_f rfl (wC_skip (wQ_then (wC_seq ?_))))
      have S165 := S163.nil 37 6; clear S163
      change St _ _ _ [.own 37 6 (.slice none 0 0) 0 ((([] : List Ev)).flatMap Ev.cells), _, _, _, _, _, _, _, _] at S165
      refine wC_region (vv (yfa 5 fa108_5) ?_)
      refine vv (ylc 4 S165 Try.underlying57) ?_
      refine wL_append (news := (l).flatMap Ev.cells) (xs' := (l).flatMap Ev.cells) 0 S165 (wn rfl) rfl rfl rfl rfl rfl rfl (St.rd 8 S165 rfl) Try.underlying57 infz37 rfl (by decide) (evCells_one _) (by simp only [maxLen]; omega) (by omega) (rfl) ?_; intro A166 c167 w168 hc170 hm171 S169; clear S165
      change St _ _ _ [.own 37 6 (.slice A166 (0 + l.length) c167) (0 + l.length) ((l).flatMap Ev.cells), _, _, _, _, _, _, _, _] at S169
      refine vv (yfa 5 fa108_5) ?_
      refine sr (row' := #[.int .i64 3, .int .i64 ep, .int .i64 fr, .int .i64 pe, .int .i64 rd, .slice A166 (0 + l.length) c167]) 4 S169 inf57 ?_; intro w172 S173; clear S169
      refine qk [4, 5, 8] ?_
      refine x_tsr (vv (ylr 4 S173 Try.underlying108 inf108) ?_)
      refine sa 5 S173 inf108 ?_; intro w174 S175; clear S173
      refine va ?_
      refine qk [4, 5] ?_
      refine x_te (pc 5 S175 Try.underlying108 inf108 ?_)
      have S176 : St _ _ _ [_] := S175.dels [8, 7, 6, 5, 4, 3, 2, 1]; clear S175
      rw [apply_go h13 h17 (by dsimp only; omega) (by rw [act_k3, if_neg (fun h => h hfit)]; rfl), act_k3, if_neg (fun h => h hfit)]
      rw [Nat.zero_add] at S176 ⊢
      exact ⟨A166, c167, (own_caps (S176.own 0 rfl)).1, rfl, S176.sealAll 0 rfl⟩
     ·refine wN_call_ (i := 6) rfl rfl (vs := [.agg #[.int .i64 ro, .int .i64 ep, .int .i64 fr, .int .i64 tg, .int .i64 rd, .slice A l.length c], .agg #[.int .i64 3, .int .i64 qu, .int .i64 e, .int .i64 pe, .int .i64 x.kind, .int .i64 x.producer, .int .i64 x.id, .int .i64 x.body, .int .i64 x.hepoch, .int .i64 x.hno], .pointer (some ⟨d151, 0, none⟩), .pointer (some ⟨g152, 0, none⟩)]) (wn rfl) rfl rfl (e_callv (first := []) (cap := [.pointer (some ⟨d151, 0, none⟩), .pointer (some ⟨g152, 0, none⟩)]) (vs := [.agg #[.int .i64 ro, .int .i64 ep, .int .i64 fr, .int .i64 tg, .int .i64 rd, .slice A l.length c], .agg #[.int .i64 3, .int .i64 qu, .int .i64 e, .int .i64 pe, .int .i64 x.kind, .int .i64 x.producer, .int .i64 x.id, .int .i64 x.body, .int .i64 x.hepoch, .int .i64 x.hno]]) rfl rfl en193 ⟨rfl, rfl, trivial⟩ rfl) (fit_no (only_seal ro ep fr tg rd A c l 3 qu e pe x 1 d151 g152 _ (St.rd 7 S154 rfl) hb (St.bld (xs := [.int .i64 1]) 0 S154 rfl rfl rfl) (St.bld (xs := [.func (.func 185) #[] #[]]) 1 S154 rfl rfl rfl)) hfit) ?_
      rintro _ w177 ⟨rfl, hb179⟩
      refine ⟨_, rfl, ?_⟩
      have S178 := S154.on hb179; clear hb179 S154
      refine ⟨(S178.dels [3, 2, 1, 0]), ?_⟩
      refine ak (v := .tuple #[.agg #[.int .i64 0, .int .i64 0, .int .i64 0, .int .i64 0, .int .i64 0, .slice none 0 0], .int .i64 3]) 7 rfl (S178.dels [3, 2, 1, 0]) (fun _ _ => ym) ?_
      refine ak (v := .agg #[.int .i64 0, .int .i64 0, .int .i64 0, .int .i64 0, .int .i64 0, .slice none 0 0]) 8 rfl (S178.dels [3, 2, 1, 0]) (fun _ _ => yx) ?_
      refine ak (v := .int .i64 3) 9 rfl (S178.dels [3, 2, 1, 0]) (fun _ _ => yx) ?_
      refine aq1 11 ?_
      refine sn 11 rfl 3 S178 inf108 ?_; intro w183 S184; clear S178
      refine ⟨(S184.dels [3, 2, 1, 0]), ?_⟩
      refine ak (v := .int .i64 3) 12 rfl (S184.dels [3, 2, 1, 0]) (fun _ _ => ya) ?_
      refine wA_done (by kernel_rfl) ?_
      refine pk [4, 5, 8, 9] ?_
      refine x_tssr (vm ?_)
      refine vv dneqT ?_
      refine qk [4, 5, 8, 47] ?_
      refine x_tysr (vv yzB ?_)
      refine sa 4 S184 inf108 ?_; intro w186 S187; clear S184
      refine va ?_
      refine qk [4, 5] ?_
      refine x_teh (pc 4 S187 Try.underlying108 inf108 ?_)
      have S188 : St _ _ _ [] := S187.dels [7, 6, 5, 4, 3, 2, 1, 0]; clear S187
      rw [apply_no h13 h17 (by rw [act_k3, if_pos hfit]; decide)]
      exact ⟨none, 0, Nat.le_refl 0, rfl, rdo_nil S188⟩
  ·refine vv (yneqT h17) ?_
   refine qk [2, 3, 4, 5, 7, 19] ?_
   refine x_tysr (vv yzB ?_)
   refine vm ?_
   refine sa 0 S15 inf108 ?_; intro w189 S190; clear S15
   refine va ?_
   refine qk [4, 5] ?_
   refine x_teh (pc 0 S190 Try.underlying108 inf108 ?_)
   have S191 : St _ _ _ [] := S190.dels [3, 2, 1, 0]; clear S190
   rw [apply_rf h13 h17]
   exact ⟨none, 0, Nat.le_refl 0, rfl, rdo_nil S191⟩
 ·refine vv (yneqT h13) ?_
  refine qk [2, 3, 4, 5, 6, 13] ?_
  refine x_tysr (vv yzB ?_)
  refine vm ?_
  refine sa 0 S11 inf108 ?_; intro w192 S193; clear S11
  refine va ?_
  refine qk [4, 5] ?_
  refine x_teh (pc 0 S193 Try.underlying108 inf108 ?_)
  have S194 : St _ _ _ [] := S193.dels [3, 2, 1, 0]; clear S193
  rw [apply_bf h13]
  exact ⟨none, 0, Nat.le_refl 0, rfl, rdo_nil S194⟩
end Go.Proofs.Ytkjlafpafmihaaa

namespace Go.Proofs.Ytkjlafpafmihaaa
open Go.ChangeShapes Go.WideShapes Go.RowKit

set_option maxRecDepth 100000 in
set_option maxHeartbeats 8000000 in
theorem Apply_k4 (ro ep fr tg rd : Int) (A : Option Addr) (c : Nat) (l : List Ev) (qu e pe : Int) (x : Ev) (hlc : l.length ≤ c) (w : World) (h : Rd w w.heap.size 6 A l.length (evCells l)) (hb : l.length * 48 ≤ reachBytes) :
    Calls Try.prog 98 #[.agg #[.int .i64 ro, .int .i64 ep, .int .i64 fr, .int .i64 tg, .int .i64 rd, .slice A l.length c], .agg #[.int .i64 4, .int .i64 qu, .int .i64 e, .int .i64 pe, .int .i64 x.kind, .int .i64 x.producer, .int .i64 x.id, .int .i64 x.body, .int .i64 x.hepoch, .int .i64 x.hno]] w (ApplyPost w (applyM ⟨ro, ep, fr, tg, rd, l⟩ ⟨4, qu, e, pe, x⟩)) := by
 have S := (St.start w).addRd h; clear h
 have hb2 := hb
 unfold reachBytes at hb2
 obtain ⟨R, hR⟩ : ∃ R, actM ⟨ro, ep, fr, tg, rd, l⟩ ⟨4, qu, e, pe, x⟩ = R := ⟨_, rfl⟩
 have hM := hR
 rw [act_k4] at hM
 try dsimp only at hM
 have hlenR : R.1.evs.length ≤ l.length + 1 := by rw [← hR]; exact actM_len
 refine fnw 54 Try.func98 ?_
 refine cw [0, 1] ?_
 refine x_sr (nb (row := #[.int .i64 ro, .int .i64 ep, .int .i64 fr, .int .i64 tg, .int .i64 rd, .slice A l.length c]) S ?_); intro b1 w2 S3; clear S
 refine nb (row := #[.int .i64 4, .int .i64 qu, .int .i64 e, .int .i64 pe, .int .i64 x.kind, .int .i64 x.producer, .int .i64 x.id, .int .i64 x.body, .int .i64 x.hepoch, .int .i64 x.hno]) S3 ?_; intro b4 w5 S6; clear S3
 refine naB S6 Try.zeroValue108 ?_; intro b7 w8 S9; clear S6
 refine va ?_
 refine qk [2, 3, 4, 5] ?_
 refine x_tssr (vv (ylr 2 S9 Try.underlying108 inf108) ?_)
 refine cab en76 S9 (BCheck_calls ro ep fr tg rd A c l _ (St.rd 3 S9 rfl) (by omega)) ?_; intro w10 S11; clear S9
 refine va ?_
 refine qk [2, 3, 4, 5, 6] ?_
 refine x_tsr (vm ?_)
 by_cases h13 : brtFault ⟨ro, ep, fr, tg, rd, l⟩ = 0
 ·have hln := tellM_len (bf_zero h13).2
  dsimp only at hln
  refine vv (yneqF h13) ?_
  refine qk [2, 3, 4, 5, 6, 13] ?_
  refine x_tnktssr (vv (ylr 1 S11 Try.underlying51 inf51) ?_)
  refine cab en119 S11 (Record_calls ⟨4, qu, e, pe, x⟩ _) ?_; intro w14 S15; clear S11
  refine va ?_
  refine qk [2, 3, 4, 5, 7] ?_
  refine x_tsr (vm ?_)
  by_cases h17 : recFault ⟨4, qu, e, pe, x⟩ = 0
  ·have hrz := rec_zero h17
   dsimp only at hrz
   refine vv (yneqF h17) ?_
   refine qk [2, 3, 4, 5, 7, 19] ?_
   refine x_tnktssr (vv (yfa 0 fa108_0) ?_)
   refine vv (ylc 2 S15 Try.underlying3) ?_
   by_cases h18 : ro = 2
   ·refine vv (yeqlT h18) ?_
    refine vm ?_
    iterate 8 refine vs ?_
    refine vv ypT ?_
    refine qk [2, 3, 4, 5, 34] ?_
    refine x_tysr (vv yzB ?_)
    refine sa 0 S15 inf108 ?_; intro w19 S20; clear S15
    refine va ?_
    refine qk [4, 5] ?_
    refine x_teh (pc 0 S20 Try.underlying108 inf108 ?_)
    have S21 : St _ _ _ [] := S20.dels [3, 2, 1, 0]; clear S20
    rw [apply_x h13 h17 (by dsimp only; omega)]
    exact ⟨none, 0, Nat.le_refl 0, rfl, rdo_nil S21⟩
   ·refine vv (yeqlF h18) ?_
    refine vm ?_
    refine vg (yfa 0 fa51_0) ?_
    refine vg (ylc 1 S15 Try.underlying3) ?_
    refine calg en163 (peerless_f 4 (by decide) _) ?_
    rintro _ w22 ⟨rfl, hb24⟩
    refine ⟨_, rfl, ?_⟩
    have S23 := S15.on hb24; clear hb24 S15
    refine vg ym ?_
    iterate 3 refine vs ?_
    refine vg ypF ?_
    refine vv ypF ?_
    refine qk [2, 3, 4, 5, 34] ?_
    refine wQ_then (wC_cond_f rfl (wC_skip (wQ_then (wC_cut (X := Nat × (Option Addr) × Nat × Nat) (fun xv => [(4, .pointer (some ⟨b7, 0, none⟩)), (5, .int .i64 0), (8, .pointer (some ⟨xv.1, 0, none⟩)), (9, .int .i64 R.2)]) (fun xv wr => St w.heap.size w wr [.blk xv.1 #[.int .i64 R.1.role, .int .i64 R.1.ep, .int .i64 R.1.fr, .int .i64 R.1.tg, .int .i64 R.1.rd, .slice xv.2.1 R.1.evs.length xv.2.2.1] 108, .rdo 6 xv.2.1 R.1.evs.length ((R.1.evs).flatMap Ev.cells), .loc xv.2.2.2 (FMap Try.prog 3 (fun y => if y = 4 then some (.func (.func 186) #[] #[]) else none) 7), .blk b7 #[.int .i64 0, .int .i64 0, .int .i64 0, .int .i64 0, .int .i64 0, .slice none 0 0] 108, .blk b4 #[.int .i64 4, .int .i64 qu, .int .i64 e, .int .i64 pe, .int .i64 x.kind, .int .i64 x.producer, .int .i64 x.id, .int .i64 x.body, .int .i64 x.hepoch, .int .i64 x.hno] 51, .blk b1 #[.int .i64 ro, .int .i64 ep, .int .i64 fr, .int .i64 tg, .int .i64 rd, .slice A l.length c] 108, .rd 6 A l.length ((l).flatMap Ev.cells)]) ?_ ?_))))
    ·have S25 := S23.drew; clear S23
     refine wC_any_ (C := fun w' => St w.heap.size w w' [.blk b7 #[.int .i64 0, .int .i64 0, .int .i64 0, .int .i64 0, .int .i64 0, .slice none 0 0] 108, .blk b4 #[.int .i64 4, .int .i64 qu, .int .i64 e, .int .i64 pe, .int .i64 x.kind, .int .i64 x.producer, .int .i64 x.id, .int .i64 x.body, .int .i64 x.hepoch, .int .i64 x.hno] 51, .blk b1 #[.int .i64 ro, .int .i64 ep, .int .i64 fr, .int .i64 tg, .int .i64 rd, .slice A l.length c] 108, .rd 6 A l.length ((l).flatMap Ev.cells)]) (n := 13) (listed := #[false, false, false, false, false, false, false, false, false, false, false, false, false]) mixed rfl rfl ?_
     refine ak (v := .pointer (some ⟨b4, 0, none⟩)) 1 rfl S25 (fun _ _ => yfa _ fa51_0) ?_
     refine ak (v := .int .i64 4) 2 rfl S25 (fun _ Sx27 => ylc 1 Sx27 Try.underlying3) ?_
     refine ak (v := .agg #[.int .i64 ro, .int .i64 ep, .int .i64 fr, .int .i64 tg, .int .i64 rd, .slice A l.length c]) 4 rfl S25 (fun _ Sx28 => ylr 2 Sx28 Try.underlying108 inf108) ?_
     refine ak (v := .agg #[.int .i64 4, .int .i64 qu, .int .i64 e, .int .i64 pe, .int .i64 x.kind, .int .i64 x.producer, .int .i64 x.id, .int .i64 x.body, .int .i64 x.hepoch, .int .i64 x.hno]) 5 rfl S25 (fun _ Sx29 => ylr 1 Sx29 Try.underlying51 inf51) ?_
     refine wA_two (n := 8) (r := 0) (s := 10) (by kernel_rfl) ?_ ?_
     ·refine caln 0 rfl en164 (racts_k4 _) ?_
      rintro _ w31 ⟨m30, rfl, T33⟩
      refine ⟨_, rfl, ?_⟩
      have S32 := S25.ext T33 rfl; clear T33 S25
      change St _ _ _ [.loc m30 (FMap Try.prog 3 (fun y => if y = 4 then some (.func (.func 186) #[] #[]) else none) 7), _, _, _, _] at S32
      refine ⟨(St.del 0 S32), ?_⟩
      refine wA_two (n := 7) (r := 3) (s := 10) (by kernel_rfl) ?_ ?_
      ·refine wN_val (i := 3) rfl rfl (v := .func (.func 186) #[] #[]) (wn rfl) rfl rfl (y_lookF 0 S32 rfl rfl rfl rfl Try.underlying3 Try.underlying209 (Try.zeroValue208 _) (by decide) rfl) ?_
       refine ⟨(St.del 0 S32), ?_⟩
       refine wA_two (n := 6) (r := 6) (s := 10) (by kernel_rfl) ?_ ?_
       ·have HC := acts3_calls ro ep fr tg rd A c l 4 qu e pe x _ (St.rd 4 S32 rfl) hb
        rw [hM] at HC
        refine wN_call_ (i := 6) rfl rfl (vs := [.agg #[.int .i64 ro, .int .i64 ep, .int .i64 fr, .int .i64 tg, .int .i64 rd, .slice A l.length c], .agg #[.int .i64 4, .int .i64 qu, .int .i64 e, .int .i64 pe, .int .i64 x.kind, .int .i64 x.producer, .int .i64 x.id, .int .i64 x.body, .int .i64 x.hepoch, .int .i64 x.hno]]) (wn rfl) rfl rfl (e_callv (first := []) (cap := []) (vs := [.agg #[.int .i64 ro, .int .i64 ep, .int .i64 fr, .int .i64 tg, .int .i64 rd, .slice A l.length c], .agg #[.int .i64 4, .int .i64 qu, .int .i64 e, .int .i64 pe, .int .i64 x.kind, .int .i64 x.producer, .int .i64 x.id, .int .i64 x.body, .int .i64 x.hepoch, .int .i64 x.hno]]) rfl rfl en186 ⟨rfl, rfl, trivial⟩ rfl) (HC) ?_
        rintro _ w36 ⟨A34, c35, rfl, T38⟩
        refine ⟨_, rfl, ?_⟩
        have S37 := S32.ext T38 rfl; clear T38 S32
        change St _ _ _ [.rdo 6 A34 R.1.evs.length ((R.1.evs).flatMap Ev.cells), _, _, _, _, _] at S37; clear HC
        refine ⟨(S37.dels [1, 0]), ?_⟩
        refine ak (v := .tuple #[.agg #[.int .i64 R.1.role, .int .i64 R.1.ep, .int .i64 R.1.fr, .int .i64 R.1.tg, .int .i64 R.1.rd, .slice A34 R.1.evs.length c35], .int .i64 R.2]) 7 rfl (S37.dels [1, 0]) (fun _ _ => ym) ?_
        refine ak (v := .agg #[.int .i64 R.1.role, .int .i64 R.1.ep, .int .i64 R.1.fr, .int .i64 R.1.tg, .int .i64 R.1.rd, .slice A34 R.1.evs.length c35]) 8 rfl (S37.dels [1, 0]) (fun _ _ => yx) ?_
        refine ak (v := .int .i64 R.2) 9 rfl (S37.dels [1, 0]) (fun _ _ => yx) ?_
        refine aq1 10 ?_
        refine nnaB 10 rfl S37 Try.zeroValue108 ?_; intro b42 w43 S44; clear S37
        refine ⟨(S44.dels [2, 1, 0]), ?_⟩
        refine aq1 11 ?_
        refine sn 11 rfl 0 S44 inf108 ?_; intro w45 S46; clear S44
        refine ⟨(S46.dels [2, 1, 0]), ?_⟩
        refine ak (v := .int .i64 R.2) 12 rfl (S46.dels [2, 1, 0]) (fun _ _ => ya) ?_
        refine wA_done (by kernel_rfl) ?_
        refine pk [4, 5, 8, 9] ?_
        refine wQ_cut (b42, A34, c35, m30) ?_ ⟨rfl, rfl, rfl, rfl, trivial⟩
        exact S46
       ·refine nnaB 10 rfl S32 Try.zeroValue108 ?_; intro b48 w49 S50; clear S32
        refine ⟨(S50.dels [1, 0]), ?_⟩
        refine aq1 6 ?_
        have HC := acts3_calls ro ep fr tg rd A c l 4 qu e pe x _ (St.rd 5 S50 rfl) hb
        rw [hM] at HC
        refine wN_call_ (i := 6) rfl rfl (vs := [.agg #[.int .i64 ro, .int .i64 ep, .int .i64 fr, .int .i64 tg, .int .i64 rd, .slice A l.length c], .agg #[.int .i64 4, .int .i64 qu, .int .i64 e, .int .i64 pe, .int .i64 x.kind, .int .i64 x.producer, .int .i64 x.id, .int .i64 x.body, .int .i64 x.hepoch, .int .i64 x.hno]]) (wn rfl) rfl rfl (e_callv (first := []) (cap := []) (vs := [.agg #[.int .i64 ro, .int .i64 ep, .int .i64 fr, .int .i64 tg, .int .i64 rd, .slice A l.length c], .agg #[.int .i64 4, .int .i64 qu, .int .i64 e, .int .i64 pe, .int .i64 x.kind, .int .i64 x.producer, .int .i64 x.id, .int .i64 x.body, .int .i64 x.hepoch, .int .i64 x.hno]]) rfl rfl en186 ⟨rfl, rfl, trivial⟩ rfl) (HC) ?_
        rintro _ w53 ⟨A51, c52, rfl, T55⟩
        refine ⟨_, rfl, ?_⟩
        have S54 := S50.ext T55 rfl; clear T55 S50
        change St _ _ _ [.rdo 6 A51 R.1.evs.length ((R.1.evs).flatMap Ev.cells), _, _, _, _, _, _] at S54; clear HC
        refine ⟨(S54.dels [2, 1, 0]), ?_⟩
        refine ak (v := .tuple #[.agg #[.int .i64 R.1.role, .int .i64 R.1.ep, .int .i64 R.1.fr, .int .i64 R.1.tg, .int .i64 R.1.rd, .slice A51 R.1.evs.length c52], .int .i64 R.2]) 7 rfl (S54.dels [2, 1, 0]) (fun _ _ => ym) ?_
        refine ak (v := .agg #[.int .i64 R.1.role, .int .i64 R.1.ep, .int .i64 R.1.fr, .int .i64 R.1.tg, .int .i64 R.1.rd, .slice A51 R.1.evs.length c52]) 8 rfl (S54.dels [2, 1, 0]) (fun _ _ => yx) ?_
        refine ak (v := .int .i64 R.2) 9 rfl (S54.dels [2, 1, 0]) (fun _ _ => yx) ?_
        refine aq1 11 ?_
        refine sn 11 rfl 1 S54 inf108 ?_; intro w59 S60; clear S54
        refine ⟨(S60.dels [2, 1, 0]), ?_⟩
        refine ak (v := .int .i64 R.2) 12 rfl (S60.dels [2, 1, 0]) (fun _ _ => ya) ?_
        refine wA_done (by kernel_rfl) ?_
        refine pk [4, 5, 8, 9] ?_
        have S62 : St w.heap.size w w59 [_, _, _, _, _, _, _] := S60.re [1, 0, 2, 3, 4, 5, 6] (by decide); clear S60
        refine wQ_cut (b48, A51, c52, m30) ?_ ⟨rfl, rfl, rfl, rfl, trivial⟩
        exact S62
      ·refine nnaB 10 rfl S32 Try.zeroValue108 ?_; intro b63 w64 S65; clear S32
       refine ⟨(S65.dels [1, 0]), ?_⟩
       refine aq1 3 ?_
       refine wN_val (i := 3) rfl rfl (v := .func (.func 186) #[] #[]) (wn rfl) rfl rfl (y_lookF 1 S65 rfl rfl rfl rfl Try.underlying3 Try.underlying209 (Try.zeroValue208 _) (by decide) rfl) ?_
       refine ⟨(S65.dels [1, 0]), ?_⟩
       refine aq1 6 ?_
       have HC := acts3_calls ro ep fr tg rd A c l 4 qu e pe x _ (St.rd 5 S65 rfl) hb
       rw [hM] at HC
       refine wN_call_ (i := 6) rfl rfl (vs := [.agg #[.int .i64 ro, .int .i64 ep, .int .i64 fr, .int .i64 tg, .int .i64 rd, .slice A l.length c], .agg #[.int .i64 4, .int .i64 qu, .int .i64 e, .int .i64 pe, .int .i64 x.kind, .int .i64 x.producer, .int .i64 x.id, .int .i64 x.body, .int .i64 x.hepoch, .int .i64 x.hno]]) (wn rfl) rfl rfl (e_callv (first := []) (cap := []) (vs := [.agg #[.int .i64 ro, .int .i64 ep, .int .i64 fr, .int .i64 tg, .int .i64 rd, .slice A l.length c], .agg #[.int .i64 4, .int .i64 qu, .int .i64 e, .int .i64 pe, .int .i64 x.kind, .int .i64 x.producer, .int .i64 x.id, .int .i64 x.body, .int .i64 x.hepoch, .int .i64 x.hno]]) rfl rfl en186 ⟨rfl, rfl, trivial⟩ rfl) (HC) ?_
       rintro _ w68 ⟨A66, c67, rfl, T70⟩
       refine ⟨_, rfl, ?_⟩
       have S69 := S65.ext T70 rfl; clear T70 S65
       change St _ _ _ [.rdo 6 A66 R.1.evs.length ((R.1.evs).flatMap Ev.cells), _, _, _, _, _, _] at S69; clear HC
       refine ⟨(S69.dels [2, 1, 0]), ?_⟩
       refine ak (v := .tuple #[.agg #[.int .i64 R.1.role, .int .i64 R.1.ep, .int .i64 R.1.fr, .int .i64 R.1.tg, .int .i64 R.1.rd, .slice A66 R.1.evs.length c67], .int .i64 R.2]) 7 rfl (S69.dels [2, 1, 0]) (fun _ _ => ym) ?_
       refine ak (v := .agg #[.int .i64 R.1.role, .int .i64 R.1.ep, .int .i64 R.1.fr, .int .i64 R.1.tg, .int .i64 R.1.rd, .slice A66 R.1.evs.length c67]) 8 rfl (S69.dels [2, 1, 0]) (fun _ _ => yx) ?_
       refine ak (v := .int .i64 R.2) 9 rfl (S69.dels [2, 1, 0]) (fun _ _ => yx) ?_
       refine aq1 11 ?_
       refine sn 11 rfl 1 S69 inf108 ?_; intro w74 S75; clear S69
       refine ⟨(S75.dels [2, 1, 0]), ?_⟩
       refine ak (v := .int .i64 R.2) 12 rfl (S75.dels [2, 1, 0]) (fun _ _ => ya) ?_
       refine wA_done (by kernel_rfl) ?_
       refine pk [4, 5, 8, 9] ?_
       have S77 : St w.heap.size w w74 [_, _, _, _, _, _, _] := S75.re [1, 0, 2, 3, 4, 5, 6] (by decide); clear S75
       refine wQ_cut (b63, A66, c67, m30) ?_ ⟨rfl, rfl, rfl, rfl, trivial⟩
       exact S77
     ·refine nnaB 10 rfl S25 Try.zeroValue108 ?_; intro b78 w79 S80; clear S25
      refine ⟨(St.del 0 S80), ?_⟩
      refine aq1 0 ?_
      refine caln 0 rfl en164 (racts_k4 _) ?_
      rintro _ w82 ⟨m81, rfl, T84⟩
      refine ⟨_, rfl, ?_⟩
      have S83 := S80.ext T84 rfl; clear T84 S80
      change St _ _ _ [.loc m81 (FMap Try.prog 3 (fun y => if y = 4 then some (.func (.func 186) #[] #[]) else none) 7), _, _, _, _, _] at S83
      refine ⟨(S83.dels [1, 0]), ?_⟩
      refine aq1 3 ?_
      refine wN_val (i := 3) rfl rfl (v := .func (.func 186) #[] #[]) (wn rfl) rfl rfl (y_lookF 0 S83 rfl rfl rfl rfl Try.underlying3 Try.underlying209 (Try.zeroValue208 _) (by decide) rfl) ?_
      refine ⟨(S83.dels [1, 0]), ?_⟩
      refine aq1 6 ?_
      have HC := acts3_calls ro ep fr tg rd A c l 4 qu e pe x _ (St.rd 5 S83 rfl) hb
      rw [hM] at HC
      refine wN_call_ (i := 6) rfl rfl (vs := [.agg #[.int .i64 ro, .int .i64 ep, .int .i64 fr, .int .i64 tg, .int .i64 rd, .slice A l.length c], .agg #[.int .i64 4, .int .i64 qu, .int .i64 e, .int .i64 pe, .int .i64 x.kind, .int .i64 x.producer, .int .i64 x.id, .int .i64 x.body, .int .i64 x.hepoch, .int .i64 x.hno]]) (wn rfl) rfl rfl (e_callv (first := []) (cap := []) (vs := [.agg #[.int .i64 ro, .int .i64 ep, .int .i64 fr, .int .i64 tg, .int .i64 rd, .slice A l.length c], .agg #[.int .i64 4, .int .i64 qu, .int .i64 e, .int .i64 pe, .int .i64 x.kind, .int .i64 x.producer, .int .i64 x.id, .int .i64 x.body, .int .i64 x.hepoch, .int .i64 x.hno]]) rfl rfl en186 ⟨rfl, rfl, trivial⟩ rfl) (HC) ?_
      rintro _ w87 ⟨A85, c86, rfl, T89⟩
      refine ⟨_, rfl, ?_⟩
      have S88 := S83.ext T89 rfl; clear T89 S83
      change St _ _ _ [.rdo 6 A85 R.1.evs.length ((R.1.evs).flatMap Ev.cells), _, _, _, _, _, _] at S88; clear HC
      refine ⟨(S88.dels [2, 1, 0]), ?_⟩
      refine ak (v := .tuple #[.agg #[.int .i64 R.1.role, .int .i64 R.1.ep, .int .i64 R.1.fr, .int .i64 R.1.tg, .int .i64 R.1.rd, .slice A85 R.1.evs.length c86], .int .i64 R.2]) 7 rfl (S88.dels [2, 1, 0]) (fun _ _ => ym) ?_
      refine ak (v := .agg #[.int .i64 R.1.role, .int .i64 R.1.ep, .int .i64 R.1.fr, .int .i64 R.1.tg, .int .i64 R.1.rd, .slice A85 R.1.evs.length c86]) 8 rfl (S88.dels [2, 1, 0]) (fun _ _ => yx) ?_
      refine ak (v := .int .i64 R.2) 9 rfl (S88.dels [2, 1, 0]) (fun _ _ => yx) ?_
      refine aq1 11 ?_
      refine sn 11 rfl 2 S88 inf108 ?_; intro w93 S94; clear S88
      refine ⟨(S94.dels [2, 1, 0]), ?_⟩
      refine ak (v := .int .i64 R.2) 12 rfl (S94.dels [2, 1, 0]) (fun _ _ => ya) ?_
      refine wA_done (by kernel_rfl) ?_
      refine pk [4, 5, 8, 9] ?_
      have S96 : St w.heap.size w w93 [_, _, _, _, _, _, _] := S94.re [2, 0, 1, 3, 4, 5, 6] (by decide); clear S94
      refine wQ_cut (b78, A85, c86, m81) ?_ ⟨rfl, rfl, rfl, rfl, trivial⟩
      exact S96
    ·rintro ⟨b97, A98, c99, m100⟩ w101 S102
     try dsimp only at S102; clear S23
     refine cw [4, 5, 8, 9] ?_
     refine x_ssr (vm ?_)
     by_cases h103 : R.2 = 0
     ·refine vv (yneqF h103) ?_
      refine qk [4, 5, 8, 47] ?_
      refine wQ_then (wC_cond_f rfl (wC_skip (wQ_then (wC_seq ?_))))
      have S104 := S102.nil 37 6; clear S102
      change St _ _ _ [.own 37 6 (.slice none 0 0) 0 ((([] : List Ev)).flatMap Ev.cells), _, _, _, _, _, _, _] at S104
      refine wC_region (vv (yfa 5 fa108_5) ?_)
      refine vv (ylc 1 S104 Try.underlying57) ?_
      refine wL_append (news := (R.1.evs).flatMap Ev.cells) (xs' := (R.1.evs).flatMap Ev.cells) 0 S104 (wn rfl) rfl rfl rfl rfl rfl rfl (St.rdo 2 S104 rfl) Try.underlying57 infz37 rfl (by decide) (evCells_one _) (by simp only [maxLen]; omega) (by omega) (rfl) ?_; intro A105 c106 w107 hc109 hm110 S108; clear S104
      change St _ _ _ [.own 37 6 (.slice A105 (0 + R.1.evs.length) c106) (0 + R.1.evs.length) ((R.1.evs).flatMap Ev.cells), _, _, _, _, _, _, _] at S108
      refine vv (yfa 5 fa108_5) ?_
      refine sr (row' := #[.int .i64 R.1.role, .int .i64 R.1.ep, .int .i64 R.1.fr, .int .i64 R.1.tg, .int .i64 R.1.rd, .slice A105 (0 + R.1.evs.length) c106]) 1 S108 inf57 ?_; intro w111 S112; clear S108
      refine qk [4, 5, 8] ?_
      refine x_tsr (vv (ylr 1 S112 Try.underlying108 inf108) ?_)
      refine sa 4 S112 inf108 ?_; intro w113 S114; clear S112
      refine va ?_
      refine qk [4, 5] ?_
      refine x_te (pc 4 S114 Try.underlying108 inf108 ?_)
      have S115 : St _ _ _ [_] := S114.dels [7, 6, 5, 4, 3, 2, 1]; clear S114
      rw [apply_go h13 h17 (by dsimp only; omega) (by rw [hR]; exact h103), hR]
      rw [Nat.zero_add] at S115 ⊢
      exact ⟨A105, c106, (own_caps (S115.own 0 rfl)).1, rfl, S115.sealAll 0 rfl⟩
     ·refine vv (yneqT h103) ?_
      refine qk [4, 5, 8, 47] ?_
      refine x_tysr (vv yzB ?_)
      refine sa 3 S102 inf108 ?_; intro w116 S117; clear S102
      refine va ?_
      refine qk [4, 5] ?_
      refine x_teh (pc 3 S117 Try.underlying108 inf108 ?_)
      have S118 : St _ _ _ [] := S117.dels [6, 5, 4, 3, 2, 1, 0]; clear S117
      rw [apply_no h13 h17 (by rw [hR]; exact h103)]
      exact ⟨none, 0, Nat.le_refl 0, rfl, rdo_nil S118⟩
  ·refine vv (yneqT h17) ?_
   refine qk [2, 3, 4, 5, 7, 19] ?_
   refine x_tysr (vv yzB ?_)
   refine vm ?_
   refine sa 0 S15 inf108 ?_; intro w119 S120; clear S15
   refine va ?_
   refine qk [4, 5] ?_
   refine x_teh (pc 0 S120 Try.underlying108 inf108 ?_)
   have S121 : St _ _ _ [] := S120.dels [3, 2, 1, 0]; clear S120
   rw [apply_rf h13 h17]
   exact ⟨none, 0, Nat.le_refl 0, rfl, rdo_nil S121⟩
 ·refine vv (yneqT h13) ?_
  refine qk [2, 3, 4, 5, 6, 13] ?_
  refine x_tysr (vv yzB ?_)
  refine vm ?_
  refine sa 0 S11 inf108 ?_; intro w122 S123; clear S11
  refine va ?_
  refine qk [4, 5] ?_
  refine x_teh (pc 0 S123 Try.underlying108 inf108 ?_)
  have S124 : St _ _ _ [] := S123.dels [3, 2, 1, 0]; clear S123
  rw [apply_bf h13]
  exact ⟨none, 0, Nat.le_refl 0, rfl, rdo_nil S124⟩
end Go.Proofs.Ytkjlafpafmihaaa

namespace Go.Proofs.Ytkjlafpafmihaaa
open Go.ChangeShapes Go.WideShapes Go.RowKit

set_option maxRecDepth 100000 in
set_option maxHeartbeats 8000000 in
theorem Apply_k5 (ro ep fr tg rd : Int) (A : Option Addr) (c : Nat) (l : List Ev) (qu e pe : Int) (x : Ev) (hlc : l.length ≤ c) (w : World) (h : Rd w w.heap.size 6 A l.length (evCells l)) (hb : l.length * 48 ≤ reachBytes) :
    Calls Try.prog 98 #[.agg #[.int .i64 ro, .int .i64 ep, .int .i64 fr, .int .i64 tg, .int .i64 rd, .slice A l.length c], .agg #[.int .i64 5, .int .i64 qu, .int .i64 e, .int .i64 pe, .int .i64 x.kind, .int .i64 x.producer, .int .i64 x.id, .int .i64 x.body, .int .i64 x.hepoch, .int .i64 x.hno]] w (ApplyPost w (applyM ⟨ro, ep, fr, tg, rd, l⟩ ⟨5, qu, e, pe, x⟩)) := by
 have S := (St.start w).addRd h; clear h
 have hb2 := hb
 unfold reachBytes at hb2
 obtain ⟨R, hR⟩ : ∃ R, actM ⟨ro, ep, fr, tg, rd, l⟩ ⟨5, qu, e, pe, x⟩ = R := ⟨_, rfl⟩
 have hM := hR
 rw [act_k5] at hM
 try dsimp only at hM
 have hlenR : R.1.evs.length ≤ l.length + 1 := by rw [← hR]; exact actM_len
 refine fnw 54 Try.func98 ?_
 refine cw [0, 1] ?_
 refine x_sr (nb (row := #[.int .i64 ro, .int .i64 ep, .int .i64 fr, .int .i64 tg, .int .i64 rd, .slice A l.length c]) S ?_); intro b1 w2 S3; clear S
 refine nb (row := #[.int .i64 5, .int .i64 qu, .int .i64 e, .int .i64 pe, .int .i64 x.kind, .int .i64 x.producer, .int .i64 x.id, .int .i64 x.body, .int .i64 x.hepoch, .int .i64 x.hno]) S3 ?_; intro b4 w5 S6; clear S3
 refine naB S6 Try.zeroValue108 ?_; intro b7 w8 S9; clear S6
 refine va ?_
 refine qk [2, 3, 4, 5] ?_
 refine x_tssr (vv (ylr 2 S9 Try.underlying108 inf108) ?_)
 refine cab en76 S9 (BCheck_calls ro ep fr tg rd A c l _ (St.rd 3 S9 rfl) (by omega)) ?_; intro w10 S11; clear S9
 refine va ?_
 refine qk [2, 3, 4, 5, 6] ?_
 refine x_tsr (vm ?_)
 by_cases h13 : brtFault ⟨ro, ep, fr, tg, rd, l⟩ = 0
 ·have hln := tellM_len (bf_zero h13).2
  dsimp only at hln
  refine vv (yneqF h13) ?_
  refine qk [2, 3, 4, 5, 6, 13] ?_
  refine x_tnktssr (vv (ylr 1 S11 Try.underlying51 inf51) ?_)
  refine cab en119 S11 (Record_calls ⟨5, qu, e, pe, x⟩ _) ?_; intro w14 S15; clear S11
  refine va ?_
  refine qk [2, 3, 4, 5, 7] ?_
  refine x_tsr (vm ?_)
  by_cases h17 : recFault ⟨5, qu, e, pe, x⟩ = 0
  ·have hrz := rec_zero h17
   dsimp only at hrz
   refine vv (yneqF h17) ?_
   refine qk [2, 3, 4, 5, 7, 19] ?_
   refine x_tnktssr (vv (yfa 0 fa108_0) ?_)
   refine vv (ylc 2 S15 Try.underlying3) ?_
   by_cases h18 : ro = 2
   ·refine vv (yeqlT h18) ?_
    refine vm ?_
    iterate 8 refine vs ?_
    refine vv ypT ?_
    refine qk [2, 3, 4, 5, 34] ?_
    refine x_tysr (vv yzB ?_)
    refine sa 0 S15 inf108 ?_; intro w19 S20; clear S15
    refine va ?_
    refine qk [4, 5] ?_
    refine x_teh (pc 0 S20 Try.underlying108 inf108 ?_)
    have S21 : St _ _ _ [] := S20.dels [3, 2, 1, 0]; clear S20
    rw [apply_x h13 h17 (by dsimp only; omega)]
    exact ⟨none, 0, Nat.le_refl 0, rfl, rdo_nil S21⟩
   ·refine vv (yeqlF h18) ?_
    refine vm ?_
    refine vg (yfa 0 fa51_0) ?_
    refine vg (ylc 1 S15 Try.underlying3) ?_
    refine calg en163 (peerless_t 5 (by decide) _) ?_
    rintro _ w22 ⟨rfl, hb24⟩
    refine ⟨_, rfl, ?_⟩
    have S23 := S15.on hb24; clear hb24 S15
    refine vg ym ?_
    refine vg (yfa 3 fa51_3) ?_
    refine vg (ylc 1 S23 Try.underlying3) ?_
    by_cases h25 : pe = 0
    ·refine vg (yneqF h25) ?_
     refine vg ypT ?_
     refine vv ypF ?_
     refine qk [2, 3, 4, 5, 34] ?_
     refine wQ_then (wC_cond_f rfl (wC_skip (wQ_then (wC_cut (X := Nat × (Option Addr) × Nat × Nat × Nat × Nat) (fun xv => [(4, .pointer (some ⟨b7, 0, none⟩)), (5, .int .i64 0), (8, .pointer (some ⟨xv.1, 0, none⟩)), (9, .int .i64 R.2)]) (fun xv wr => St w.heap.size w wr [.blk xv.1 #[.int .i64 R.1.role, .int .i64 R.1.ep, .int .i64 R.1.fr, .int .i64 R.1.tg, .int .i64 R.1.rd, .slice xv.2.1 R.1.evs.length xv.2.2.1] 108, .rdo 6 xv.2.1 R.1.evs.length ((R.1.evs).flatMap Ev.cells), .blk xv.2.2.2.1 #[.int .i64 4] 3, .blk xv.2.2.2.2.1 #[.func (.func 184) #[] #[]] 208, .loc xv.2.2.2.2.2 (FMap Try.prog 3 (fun y => if y = 5 then some (.func (.func 193) #[] #[.pointer (some ⟨xv.2.2.2.1, 0, none⟩), .pointer (some ⟨xv.2.2.2.2.1, 0, none⟩)]) else none) 7), .blk b7 #[.int .i64 0, .int .i64 0, .int .i64 0, .int .i64 0, .int .i64 0, .slice none 0 0] 108, .blk b4 #[.int .i64 5, .int .i64 qu, .int .i64 e, .int .i64 pe, .int .i64 x.kind, .int .i64 x.producer, .int .i64 x.id, .int .i64 x.body, .int .i64 x.hepoch, .int .i64 x.hno] 51, .blk b1 #[.int .i64 ro, .int .i64 ep, .int .i64 fr, .int .i64 tg, .int .i64 rd, .slice A l.length c] 108, .rd 6 A l.length ((l).flatMap Ev.cells)]) ?_ ?_))))
     ·have S26 := S23.drew; clear S23
      refine wC_any_ (C := fun w' => St w.heap.size w w' [.blk b7 #[.int .i64 0, .int .i64 0, .int .i64 0, .int .i64 0, .int .i64 0, .slice none 0 0] 108, .blk b4 #[.int .i64 5, .int .i64 qu, .int .i64 e, .int .i64 pe, .int .i64 x.kind, .int .i64 x.producer, .int .i64 x.id, .int .i64 x.body, .int .i64 x.hepoch, .int .i64 x.hno] 51, .blk b1 #[.int .i64 ro, .int .i64 ep, .int .i64 fr, .int .i64 tg, .int .i64 rd, .slice A l.length c] 108, .rd 6 A l.length ((l).flatMap Ev.cells)]) (n := 13) (listed := #[false, false, false, false, false, false, false, false, false, false, false, false, false]) mixed rfl rfl ?_
      refine ak (v := .pointer (some ⟨b4, 0, none⟩)) 1 rfl S26 (fun _ _ => yfa _ fa51_0) ?_
      refine ak (v := .int .i64 5) 2 rfl S26 (fun _ Sx28 => ylc 1 Sx28 Try.underlying3) ?_
      refine ak (v := .agg #[.int .i64 ro, .int .i64 ep, .int .i64 fr, .int .i64 tg, .int .i64 rd, .slice A l.length c]) 4 rfl S26 (fun _ Sx29 => ylr 2 Sx29 Try.underlying108 inf108) ?_
      refine ak (v := .agg #[.int .i64 5, .int .i64 qu, .int .i64 e, .int .i64 pe, .int .i64 x.kind, .int .i64 x.producer, .int .i64 x.id, .int .i64 x.body, .int .i64 x.hepoch, .int .i64 x.hno]) 5 rfl S26 (fun _ Sx30 => ylr 1 Sx30 Try.underlying51 inf51) ?_
      refine wA_two (n := 8) (r := 0) (s := 10) (by kernel_rfl) ?_ ?_
      ·refine caln 0 rfl en164 (racts_k5 _) ?_
       rintro _ w34 ⟨m31, d32, g33, rfl, T36⟩
       refine ⟨_, rfl, ?_⟩
       have S35 := S26.ext T36 rfl; clear T36 S26
       change St _ _ _ [.blk d32 #[.int .i64 4] 3, .blk g33 #[.func (.func 184) #[] #[]] 208, .loc m31 (FMap Try.prog 3 (fun y => if y = 5 then some (.func (.func 193) #[] #[.pointer (some ⟨d32, 0, none⟩), .pointer (some ⟨g33, 0, none⟩)]) else none) 7), _, _, _, _] at S35
       refine ⟨(S35.dels [2, 1, 0]), ?_⟩
       refine wA_two (n := 7) (r := 3) (s := 10) (by kernel_rfl) ?_ ?_
       ·refine wN_val (i := 3) rfl rfl (v := .func (.func 193) #[] #[.pointer (some ⟨d32, 0, none⟩), .pointer (some ⟨g33, 0, none⟩)]) (wn rfl) rfl rfl (y_lookF 2 S35 rfl rfl rfl rfl Try.underlying3 Try.underlying209 (Try.zeroValue208 _) (by decide) rfl) ?_
        refine ⟨(S35.dels [2, 1, 0]), ?_⟩
        refine wA_two (n := 6) (r := 6) (s := 10) (by kernel_rfl) ?_ ?_
        ·have HC := only_add ro ep fr tg rd A c l 5 qu e pe x 4 d32 g33 (by omega) _ (St.rd 6 S35 rfl) hb (St.bld (xs := [.int .i64 4]) 0 S35 rfl rfl rfl) (St.bld (xs := [.func (.func 184) #[] #[]]) 1 S35 rfl rfl rfl)
         rw [hM] at HC
         refine wN_call_ (i := 6) rfl rfl (vs := [.agg #[.int .i64 ro, .int .i64 ep, .int .i64 fr, .int .i64 tg, .int .i64 rd, .slice A l.length c], .agg #[.int .i64 5, .int .i64 qu, .int .i64 e, .int .i64 pe, .int .i64 x.kind, .int .i64 x.producer, .int .i64 x.id, .int .i64 x.body, .int .i64 x.hepoch, .int .i64 x.hno], .pointer (some ⟨d32, 0, none⟩), .pointer (some ⟨g33, 0, none⟩)]) (wn rfl) rfl rfl (e_callv (first := []) (cap := [.pointer (some ⟨d32, 0, none⟩), .pointer (some ⟨g33, 0, none⟩)]) (vs := [.agg #[.int .i64 ro, .int .i64 ep, .int .i64 fr, .int .i64 tg, .int .i64 rd, .slice A l.length c], .agg #[.int .i64 5, .int .i64 qu, .int .i64 e, .int .i64 pe, .int .i64 x.kind, .int .i64 x.producer, .int .i64 x.id, .int .i64 x.body, .int .i64 x.hepoch, .int .i64 x.hno]]) rfl rfl en193 ⟨rfl, rfl, trivial⟩ rfl) (HC) ?_
         rintro _ w39 ⟨A37, c38, rfl, T41⟩
         refine ⟨_, rfl, ?_⟩
         have S40 := S35.ext T41 rfl; clear T41 S35
         change St _ _ _ [.rdo 6 A37 R.1.evs.length ((R.1.evs).flatMap Ev.cells), _, _, _, _, _, _, _] at S40; clear HC
         refine ⟨(S40.dels [3, 2, 1, 0]), ?_⟩
         refine ak (v := .tuple #[.agg #[.int .i64 R.1.role, .int .i64 R.1.ep, .int .i64 R.1.fr, .int .i64 R.1.tg, .int .i64 R.1.rd, .slice A37 R.1.evs.length c38], .int .i64 R.2]) 7 rfl (S40.dels [3, 2, 1, 0]) (fun _ _ => ym) ?_
         refine ak (v := .agg #[.int .i64 R.1.role, .int .i64 R.1.ep, .int .i64 R.1.fr, .int .i64 R.1.tg, .int .i64 R.1.rd, .slice A37 R.1.evs.length c38]) 8 rfl (S40.dels [3, 2, 1, 0]) (fun _ _ => yx) ?_
         refine ak (v := .int .i64 R.2) 9 rfl (S40.dels [3, 2, 1, 0]) (fun _ _ => yx) ?_
         refine aq1 10 ?_
         refine nnaB 10 rfl S40 Try.zeroValue108 ?_; intro b45 w46 S47; clear S40
         refine ⟨(S47.dels [4, 3, 2, 1, 0]), ?_⟩
         refine aq1 11 ?_
         refine sn 11 rfl 0 S47 inf108 ?_; intro w48 S49; clear S47
         refine ⟨(S49.dels [4, 3, 2, 1, 0]), ?_⟩
         refine ak (v := .int .i64 R.2) 12 rfl (S49.dels [4, 3, 2, 1, 0]) (fun _ _ => ya) ?_
         refine wA_done (by kernel_rfl) ?_
         refine pk [4, 5, 8, 9] ?_
         refine wQ_cut (b45, A37, c38, d32, g33, m31) ?_ ⟨rfl, rfl, rfl, rfl, trivial⟩
         exact S49
        ·refine nnaB 10 rfl S35 Try.zeroValue108 ?_; intro b51 w52 S53; clear S35
         refine ⟨(S53.dels [3, 2, 1, 0]), ?_⟩
         refine aq1 6 ?_
         have HC := only_add ro ep fr tg rd A c l 5 qu e pe x 4 d32 g33 (by omega) _ (St.rd 7 S53 rfl) hb (St.bld (xs := [.int .i64 4]) 1 S53 rfl rfl rfl) (St.bld (xs := [.func (.func 184) #[] #[]]) 2 S53 rfl rfl rfl)
         rw [hM] at HC
         refine wN_call_ (i := 6) rfl rfl (vs := [.agg #[.int .i64 ro, .int .i64 ep, .int .i64 fr, .int .i64 tg, .int .i64 rd, .slice A l.length c], .agg #[.int .i64 5, .int .i64 qu, .int .i64 e, .int .i64 pe, .int .i64 x.kind, .int .i64 x.producer, .int .i64 x.id, .int .i64 x.body, .int .i64 x.hepoch, .int .i64 x.hno], .pointer (some ⟨d32, 0, none⟩), .pointer (some ⟨g33, 0, none⟩)]) (wn rfl) rfl rfl (e_callv (first := []) (cap := [.pointer (some ⟨d32, 0, none⟩), .pointer (some ⟨g33, 0, none⟩)]) (vs := [.agg #[.int .i64 ro, .int .i64 ep, .int .i64 fr, .int .i64 tg, .int .i64 rd, .slice A l.length c], .agg #[.int .i64 5, .int .i64 qu, .int .i64 e, .int .i64 pe, .int .i64 x.kind, .int .i64 x.producer, .int .i64 x.id, .int .i64 x.body, .int .i64 x.hepoch, .int .i64 x.hno]]) rfl rfl en193 ⟨rfl, rfl, trivial⟩ rfl) (HC) ?_
         rintro _ w56 ⟨A54, c55, rfl, T58⟩
         refine ⟨_, rfl, ?_⟩
         have S57 := S53.ext T58 rfl; clear T58 S53
         change St _ _ _ [.rdo 6 A54 R.1.evs.length ((R.1.evs).flatMap Ev.cells), _, _, _, _, _, _, _, _] at S57; clear HC
         refine ⟨(S57.dels [4, 3, 2, 1, 0]), ?_⟩
         refine ak (v := .tuple #[.agg #[.int .i64 R.1.role, .int .i64 R.1.ep, .int .i64 R.1.fr, .int .i64 R.1.tg, .int .i64 R.1.rd, .slice A54 R.1.evs.length c55], .int .i64 R.2]) 7 rfl (S57.dels [4, 3, 2, 1, 0]) (fun _ _ => ym) ?_
         refine ak (v := .agg #[.int .i64 R.1.role, .int .i64 R.1.ep, .int .i64 R.1.fr, .int .i64 R.1.tg, .int .i64 R.1.rd, .slice A54 R.1.evs.length c55]) 8 rfl (S57.dels [4, 3, 2, 1, 0]) (fun _ _ => yx) ?_
         refine ak (v := .int .i64 R.2) 9 rfl (S57.dels [4, 3, 2, 1, 0]) (fun _ _ => yx) ?_
         refine aq1 11 ?_
         refine sn 11 rfl 1 S57 inf108 ?_; intro w62 S63; clear S57
         refine ⟨(S63.dels [4, 3, 2, 1, 0]), ?_⟩
         refine ak (v := .int .i64 R.2) 12 rfl (S63.dels [4, 3, 2, 1, 0]) (fun _ _ => ya) ?_
         refine wA_done (by kernel_rfl) ?_
         refine pk [4, 5, 8, 9] ?_
         have S65 : St w.heap.size w w62 [_, _, _, _, _, _, _, _, _] := S63.re [1, 0, 2, 3, 4, 5, 6, 7, 8] (by decide); clear S63
         refine wQ_cut (b51, A54, c55, d32, g33, m31) ?_ ⟨rfl, rfl, rfl, rfl, trivial⟩
         exact S65
       ·refine nnaB 10 rfl S35 Try.zeroValue108 ?_; intro b66 w67 S68; clear S35
        refine ⟨(S68.dels [3, 2, 1, 0]), ?_⟩
        refine aq1 3 ?_
        refine wN_val (i := 3) rfl rfl (v := .func (.func 193) #[] #[.pointer (some ⟨d32, 0, none⟩), .pointer (some ⟨g33, 0, none⟩)]) (wn rfl) rfl rfl (y_lookF 3 S68 rfl rfl rfl rfl Try.underlying3 Try.underlying209 (Try.zeroValue208 _) (by decide) rfl) ?_
        refine ⟨(S68.dels [3, 2, 1, 0]), ?_⟩
        refine aq1 6 ?_
        have HC := only_add ro ep fr tg rd A c l 5 qu e pe x 4 d32 g33 (by omega) _ (St.rd 7 S68 rfl) hb (St.bld (xs := [.int .i64 4]) 1 S68 rfl rfl rfl) (St.bld (xs := [.func (.func 184) #[] #[]]) 2 S68 rfl rfl rfl)
        rw [hM] at HC
        refine wN_call_ (i := 6) rfl rfl (vs := [.agg #[.int .i64 ro, .int .i64 ep, .int .i64 fr, .int .i64 tg, .int .i64 rd, .slice A l.length c], .agg #[.int .i64 5, .int .i64 qu, .int .i64 e, .int .i64 pe, .int .i64 x.kind, .int .i64 x.producer, .int .i64 x.id, .int .i64 x.body, .int .i64 x.hepoch, .int .i64 x.hno], .pointer (some ⟨d32, 0, none⟩), .pointer (some ⟨g33, 0, none⟩)]) (wn rfl) rfl rfl (e_callv (first := []) (cap := [.pointer (some ⟨d32, 0, none⟩), .pointer (some ⟨g33, 0, none⟩)]) (vs := [.agg #[.int .i64 ro, .int .i64 ep, .int .i64 fr, .int .i64 tg, .int .i64 rd, .slice A l.length c], .agg #[.int .i64 5, .int .i64 qu, .int .i64 e, .int .i64 pe, .int .i64 x.kind, .int .i64 x.producer, .int .i64 x.id, .int .i64 x.body, .int .i64 x.hepoch, .int .i64 x.hno]]) rfl rfl en193 ⟨rfl, rfl, trivial⟩ rfl) (HC) ?_
        rintro _ w71 ⟨A69, c70, rfl, T73⟩
        refine ⟨_, rfl, ?_⟩
        have S72 := S68.ext T73 rfl; clear T73 S68
        change St _ _ _ [.rdo 6 A69 R.1.evs.length ((R.1.evs).flatMap Ev.cells), _, _, _, _, _, _, _, _] at S72; clear HC
        refine ⟨(S72.dels [4, 3, 2, 1, 0]), ?_⟩
        refine ak (v := .tuple #[.agg #[.int .i64 R.1.role, .int .i64 R.1.ep, .int .i64 R.1.fr, .int .i64 R.1.tg, .int .i64 R.1.rd, .slice A69 R.1.evs.length c70], .int .i64 R.2]) 7 rfl (S72.dels [4, 3, 2, 1, 0]) (fun _ _ => ym) ?_
        refine ak (v := .agg #[.int .i64 R.1.role, .int .i64 R.1.ep, .int .i64 R.1.fr, .int .i64 R.1.tg, .int .i64 R.1.rd, .slice A69 R.1.evs.length c70]) 8 rfl (S72.dels [4, 3, 2, 1, 0]) (fun _ _ => yx) ?_
        refine ak (v := .int .i64 R.2) 9 rfl (S72.dels [4, 3, 2, 1, 0]) (fun _ _ => yx) ?_
        refine aq1 11 ?_
        refine sn 11 rfl 1 S72 inf108 ?_; intro w77 S78; clear S72
        refine ⟨(S78.dels [4, 3, 2, 1, 0]), ?_⟩
        refine ak (v := .int .i64 R.2) 12 rfl (S78.dels [4, 3, 2, 1, 0]) (fun _ _ => ya) ?_
        refine wA_done (by kernel_rfl) ?_
        refine pk [4, 5, 8, 9] ?_
        have S80 : St w.heap.size w w77 [_, _, _, _, _, _, _, _, _] := S78.re [1, 0, 2, 3, 4, 5, 6, 7, 8] (by decide); clear S78
        refine wQ_cut (b66, A69, c70, d32, g33, m31) ?_ ⟨rfl, rfl, rfl, rfl, trivial⟩
        exact S80
      ·refine nnaB 10 rfl S26 Try.zeroValue108 ?_; intro b81 w82 S83; clear S26
       refine ⟨(St.del 0 S83), ?_⟩
       refine aq1 0 ?_
       refine caln 0 rfl en164 (racts_k5 _) ?_
       rintro _ w87 ⟨m84, d85, g86, rfl, T89⟩
       refine ⟨_, rfl, ?_⟩
       have S88 := S83.ext T89 rfl; clear T89 S83
       change St _ _ _ [.blk d85 #[.int .i64 4] 3, .blk g86 #[.func (.func 184) #[] #[]] 208, .loc m84 (FMap Try.prog 3 (fun y => if y = 5 then some (.func (.func 193) #[] #[.pointer (some ⟨d85, 0, none⟩), .pointer (some ⟨g86, 0, none⟩)]) else none) 7), _, _, _, _, _] at S88
       refine ⟨(S88.dels [3, 2, 1, 0]), ?_⟩
       refine aq1 3 ?_
       refine wN_val (i := 3) rfl rfl (v := .func (.func 193) #[] #[.pointer (some ⟨d85, 0, none⟩), .pointer (some ⟨g86, 0, none⟩)]) (wn rfl) rfl rfl (y_lookF 2 S88 rfl rfl rfl rfl Try.underlying3 Try.underlying209 (Try.zeroValue208 _) (by decide) rfl) ?_
       refine ⟨(S88.dels [3, 2, 1, 0]), ?_⟩
       refine aq1 6 ?_
       have HC := only_add ro ep fr tg rd A c l 5 qu e pe x 4 d85 g86 (by omega) _ (St.rd 7 S88 rfl) hb (St.bld (xs := [.int .i64 4]) 0 S88 rfl rfl rfl) (St.bld (xs := [.func (.func 184) #[] #[]]) 1 S88 rfl rfl rfl)
       rw [hM] at HC
       refine wN_call_ (i := 6) rfl rfl (vs := [.agg #[.int .i64 ro, .int .i64 ep, .int .i64 fr, .int .i64 tg, .int .i64 rd, .slice A l.length c], .agg #[.int .i64 5, .int .i64 qu, .int .i64 e, .int .i64 pe, .int .i64 x.kind, .int .i64 x.producer, .int .i64 x.id, .int .i64 x.body, .int .i64 x.hepoch, .int .i64 x.hno], .pointer (some ⟨d85, 0, none⟩), .pointer (some ⟨g86, 0, none⟩)]) (wn rfl) rfl rfl (e_callv (first := []) (cap := [.pointer (some ⟨d85, 0, none⟩), .pointer (some ⟨g86, 0, none⟩)]) (vs := [.agg #[.int .i64 ro, .int .i64 ep, .int .i64 fr, .int .i64 tg, .int .i64 rd, .slice A l.length c], .agg #[.int .i64 5, .int .i64 qu, .int .i64 e, .int .i64 pe, .int .i64 x.kind, .int .i64 x.producer, .int .i64 x.id, .int .i64 x.body, .int .i64 x.hepoch, .int .i64 x.hno]]) rfl rfl en193 ⟨rfl, rfl, trivial⟩ rfl) (HC) ?_
       rintro _ w92 ⟨A90, c91, rfl, T94⟩
       refine ⟨_, rfl, ?_⟩
       have S93 := S88.ext T94 rfl; clear T94 S88
       change St _ _ _ [.rdo 6 A90 R.1.evs.length ((R.1.evs).flatMap Ev.cells), _, _, _, _, _, _, _, _] at S93; clear HC
       refine ⟨(S93.dels [4, 3, 2, 1, 0]), ?_⟩
       refine ak (v := .tuple #[.agg #[.int .i64 R.1.role, .int .i64 R.1.ep, .int .i64 R.1.fr, .int .i64 R.1.tg, .int .i64 R.1.rd, .slice A90 R.1.evs.length c91], .int .i64 R.2]) 7 rfl (S93.dels [4, 3, 2, 1, 0]) (fun _ _ => ym) ?_
       refine ak (v := .agg #[.int .i64 R.1.role, .int .i64 R.1.ep, .int .i64 R.1.fr, .int .i64 R.1.tg, .int .i64 R.1.rd, .slice A90 R.1.evs.length c91]) 8 rfl (S93.dels [4, 3, 2, 1, 0]) (fun _ _ => yx) ?_
       refine ak (v := .int .i64 R.2) 9 rfl (S93.dels [4, 3, 2, 1, 0]) (fun _ _ => yx) ?_
       refine aq1 11 ?_
       refine sn 11 rfl 4 S93 inf108 ?_; intro w98 S99; clear S93
       refine ⟨(S99.dels [4, 3, 2, 1, 0]), ?_⟩
       refine ak (v := .int .i64 R.2) 12 rfl (S99.dels [4, 3, 2, 1, 0]) (fun _ _ => ya) ?_
       refine wA_done (by kernel_rfl) ?_
       refine pk [4, 5, 8, 9] ?_
       have S101 : St w.heap.size w w98 [_, _, _, _, _, _, _, _, _] := S99.re [4, 0, 1, 2, 3, 5, 6, 7, 8] (by decide); clear S99
       refine wQ_cut (b81, A90, c91, d85, g86, m84) ?_ ⟨rfl, rfl, rfl, rfl, trivial⟩
       exact S101
     ·rintro ⟨b102, A103, c104, d105, g106, m107⟩ w108 S109
      try dsimp only at S109; clear S23
      refine cw [4, 5, 8, 9] ?_
      refine x_ssr (vm ?_)
      by_cases h110 : R.2 = 0
      ·refine vv (yneqF h110) ?_
       refine qk [4, 5, 8, 47] ?_
       refine wQ_then (wC_cond_f rfl (wC_skip (wQ_then (wC_seq ?_))))
       have S111 := S109.nil 37 6; clear S109
       change St _ _ _ [.own 37 6 (.slice none 0 0) 0 ((([] : List Ev)).flatMap Ev.cells), _, _, _, _, _, _, _, _, _] at S111
       refine wC_region (vv (yfa 5 fa108_5) ?_)
       refine vv (ylc 1 S111 Try.underlying57) ?_
       refine wL_append (news := (R.1.evs).flatMap Ev.cells) (xs' := (R.1.evs).flatMap Ev.cells) 0 S111 (wn rfl) rfl rfl rfl rfl rfl rfl (St.rdo 2 S111 rfl) Try.underlying57 infz37 rfl (by decide) (evCells_one _) (by simp only [maxLen]; omega) (by omega) (rfl) ?_; intro A112 c113 w114 hc116 hm117 S115; clear S111
       change St _ _ _ [.own 37 6 (.slice A112 (0 + R.1.evs.length) c113) (0 + R.1.evs.length) ((R.1.evs).flatMap Ev.cells), _, _, _, _, _, _, _, _, _] at S115
       refine vv (yfa 5 fa108_5) ?_
       refine sr (row' := #[.int .i64 R.1.role, .int .i64 R.1.ep, .int .i64 R.1.fr, .int .i64 R.1.tg, .int .i64 R.1.rd, .slice A112 (0 + R.1.evs.length) c113]) 1 S115 inf57 ?_; intro w118 S119; clear S115
       refine qk [4, 5, 8] ?_
       refine x_tsr (vv (ylr 1 S119 Try.underlying108 inf108) ?_)
       refine sa 6 S119 inf108 ?_; intro w120 S121; clear S119
       refine va ?_
       refine qk [4, 5] ?_
       refine x_te (pc 6 S121 Try.underlying108 inf108 ?_)
       have S122 : St _ _ _ [_] := S121.dels [9, 8, 7, 6, 5, 4, 3, 2, 1]; clear S121
       rw [apply_go h13 h17 (by dsimp only; omega) (by rw [hR]; exact h110), hR]
       rw [Nat.zero_add] at S122 ⊢
       exact ⟨A112, c113, (own_caps (S122.own 0 rfl)).1, rfl, S122.sealAll 0 rfl⟩
      ·refine vv (yneqT h110) ?_
       refine qk [4, 5, 8, 47] ?_
       refine x_tysr (vv yzB ?_)
       refine sa 5 S109 inf108 ?_; intro w123 S124; clear S109
       refine va ?_
       refine qk [4, 5] ?_
       refine x_teh (pc 5 S124 Try.underlying108 inf108 ?_)
       have S125 : St _ _ _ [] := S124.dels [8, 7, 6, 5, 4, 3, 2, 1, 0]; clear S124
       rw [apply_no h13 h17 (by rw [hR]; exact h110)]
       exact ⟨none, 0, Nat.le_refl 0, rfl, rdo_nil S125⟩
    ·refine vg (yneqT h25) ?_
     refine vg ypT ?_
     refine vv ypF ?_
     refine qk [2, 3, 4, 5, 34] ?_
     refine x_tysr (vv yzB ?_)
     refine sa 0 S23 inf108 ?_; intro w126 S127; clear S23
     refine va ?_
     refine qk [4, 5] ?_
     refine x_teh (pc 0 S127 Try.underlying108 inf108 ?_)
     have S128 : St _ _ _ [] := S127.dels [3, 2, 1, 0]; clear S127
     rw [apply_x h13 h17 (by dsimp only; omega)]
     exact ⟨none, 0, Nat.le_refl 0, rfl, rdo_nil S128⟩
  ·refine vv (yneqT h17) ?_
   refine qk [2, 3, 4, 5, 7, 19] ?_
   refine x_tysr (vv yzB ?_)
   refine vm ?_
   refine sa 0 S15 inf108 ?_; intro w129 S130; clear S15
   refine va ?_
   refine qk [4, 5] ?_
   refine x_teh (pc 0 S130 Try.underlying108 inf108 ?_)
   have S131 : St _ _ _ [] := S130.dels [3, 2, 1, 0]; clear S130
   rw [apply_rf h13 h17]
   exact ⟨none, 0, Nat.le_refl 0, rfl, rdo_nil S131⟩
 ·refine vv (yneqT h13) ?_
  refine qk [2, 3, 4, 5, 6, 13] ?_
  refine x_tysr (vv yzB ?_)
  refine vm ?_
  refine sa 0 S11 inf108 ?_; intro w132 S133; clear S11
  refine va ?_
  refine qk [4, 5] ?_
  refine x_teh (pc 0 S133 Try.underlying108 inf108 ?_)
  have S134 : St _ _ _ [] := S133.dels [3, 2, 1, 0]; clear S133
  rw [apply_bf h13]
  exact ⟨none, 0, Nat.le_refl 0, rfl, rdo_nil S134⟩
end Go.Proofs.Ytkjlafpafmihaaa

namespace Go.Proofs.Ytkjlafpafmihaaa
open Go.ChangeShapes Go.WideShapes Go.RowKit

set_option maxRecDepth 100000 in
set_option maxHeartbeats 8000000 in
theorem Apply_k6 (ro ep fr tg rd : Int) (A : Option Addr) (c : Nat) (l : List Ev) (qu e pe : Int) (x : Ev) (hlc : l.length ≤ c) (w : World) (h : Rd w w.heap.size 6 A l.length (evCells l)) (hb : l.length * 48 ≤ reachBytes) :
    Calls Try.prog 98 #[.agg #[.int .i64 ro, .int .i64 ep, .int .i64 fr, .int .i64 tg, .int .i64 rd, .slice A l.length c], .agg #[.int .i64 6, .int .i64 qu, .int .i64 e, .int .i64 pe, .int .i64 x.kind, .int .i64 x.producer, .int .i64 x.id, .int .i64 x.body, .int .i64 x.hepoch, .int .i64 x.hno]] w (ApplyPost w (applyM ⟨ro, ep, fr, tg, rd, l⟩ ⟨6, qu, e, pe, x⟩)) := by
 have S := (St.start w).addRd h; clear h
 have hb2 := hb
 unfold reachBytes at hb2
 obtain ⟨R, hR⟩ : ∃ R, actM ⟨ro, ep, fr, tg, rd, l⟩ ⟨6, qu, e, pe, x⟩ = R := ⟨_, rfl⟩
 have hM := hR
 rw [act_k6] at hM
 try dsimp only at hM
 have hlenR : R.1.evs.length ≤ l.length + 1 := by rw [← hR]; exact actM_len
 refine fnw 54 Try.func98 ?_
 refine cw [0, 1] ?_
 refine x_sr (nb (row := #[.int .i64 ro, .int .i64 ep, .int .i64 fr, .int .i64 tg, .int .i64 rd, .slice A l.length c]) S ?_); intro b1 w2 S3; clear S
 refine nb (row := #[.int .i64 6, .int .i64 qu, .int .i64 e, .int .i64 pe, .int .i64 x.kind, .int .i64 x.producer, .int .i64 x.id, .int .i64 x.body, .int .i64 x.hepoch, .int .i64 x.hno]) S3 ?_; intro b4 w5 S6; clear S3
 refine naB S6 Try.zeroValue108 ?_; intro b7 w8 S9; clear S6
 refine va ?_
 refine qk [2, 3, 4, 5] ?_
 refine x_tssr (vv (ylr 2 S9 Try.underlying108 inf108) ?_)
 refine cab en76 S9 (BCheck_calls ro ep fr tg rd A c l _ (St.rd 3 S9 rfl) (by omega)) ?_; intro w10 S11; clear S9
 refine va ?_
 refine qk [2, 3, 4, 5, 6] ?_
 refine x_tsr (vm ?_)
 by_cases h13 : brtFault ⟨ro, ep, fr, tg, rd, l⟩ = 0
 ·have hln := tellM_len (bf_zero h13).2
  dsimp only at hln
  refine vv (yneqF h13) ?_
  refine qk [2, 3, 4, 5, 6, 13] ?_
  refine x_tnktssr (vv (ylr 1 S11 Try.underlying51 inf51) ?_)
  refine cab en119 S11 (Record_calls ⟨6, qu, e, pe, x⟩ _) ?_; intro w14 S15; clear S11
  refine va ?_
  refine qk [2, 3, 4, 5, 7] ?_
  refine x_tsr (vm ?_)
  by_cases h17 : recFault ⟨6, qu, e, pe, x⟩ = 0
  ·have hrz := rec_zero h17
   dsimp only at hrz
   refine vv (yneqF h17) ?_
   refine qk [2, 3, 4, 5, 7, 19] ?_
   refine x_tnktssr (vv (yfa 0 fa108_0) ?_)
   refine vv (ylc 2 S15 Try.underlying3) ?_
   by_cases h18 : ro = 2
   ·refine vv (yeqlT h18) ?_
    refine vm ?_
    iterate 8 refine vs ?_
    refine vv ypT ?_
    refine qk [2, 3, 4, 5, 34] ?_
    refine x_tysr (vv yzB ?_)
    refine sa 0 S15 inf108 ?_; intro w19 S20; clear S15
    refine va ?_
    refine qk [4, 5] ?_
    refine x_teh (pc 0 S20 Try.underlying108 inf108 ?_)
    have S21 : St _ _ _ [] := S20.dels [3, 2, 1, 0]; clear S20
    rw [apply_x h13 h17 (by dsimp only; omega)]
    exact ⟨none, 0, Nat.le_refl 0, rfl, rdo_nil S21⟩
   ·refine vv (yeqlF h18) ?_
    refine vm ?_
    refine vg (yfa 0 fa51_0) ?_
    refine vg (ylc 1 S15 Try.underlying3) ?_
    refine calg en163 (peerless_t 6 (by decide) _) ?_
    rintro _ w22 ⟨rfl, hb24⟩
    refine ⟨_, rfl, ?_⟩
    have S23 := S15.on hb24; clear hb24 S15
    refine vg ym ?_
    refine vg (yfa 3 fa51_3) ?_
    refine vg (ylc 1 S23 Try.underlying3) ?_
    by_cases h25 : pe = 0
    ·refine vg (yneqF h25) ?_
     refine vg ypT ?_
     refine vv ypF ?_
     refine qk [2, 3, 4, 5, 34] ?_
     refine wQ_then (wC_cond_f rfl (wC_skip (wQ_then (wC_cut (X := Nat × (Option Addr) × Nat × Nat × Nat × Nat) (fun xv => [(4, .pointer (some ⟨b7, 0, none⟩)), (5, .int .i64 0), (8, .pointer (some ⟨xv.1, 0, none⟩)), (9, .int .i64 R.2)]) (fun xv wr => St w.heap.size w wr [.blk xv.1 #[.int .i64 R.1.role, .int .i64 R.1.ep, .int .i64 R.1.fr, .int .i64 R.1.tg, .int .i64 R.1.rd, .slice xv.2.1 R.1.evs.length xv.2.2.1] 108, .rdo 6 xv.2.1 R.1.evs.length ((R.1.evs).flatMap Ev.cells), .blk xv.2.2.2.1 #[.int .i64 4] 3, .blk xv.2.2.2.2.1 #[.func (.func 187) #[] #[]] 208, .loc xv.2.2.2.2.2 (FMap Try.prog 3 (fun y => if y = 6 then some (.func (.func 193) #[] #[.pointer (some ⟨xv.2.2.2.1, 0, none⟩), .pointer (some ⟨xv.2.2.2.2.1, 0, none⟩)]) else none) 7), .blk b7 #[.int .i64 0, .int .i64 0, .int .i64 0, .int .i64 0, .int .i64 0, .slice none 0 0] 108, .blk b4 #[.int .i64 6, .int .i64 qu, .int .i64 e, .int .i64 pe, .int .i64 x.kind, .int .i64 x.producer, .int .i64 x.id, .int .i64 x.body, .int .i64 x.hepoch, .int .i64 x.hno] 51, .blk b1 #[.int .i64 ro, .int .i64 ep, .int .i64 fr, .int .i64 tg, .int .i64 rd, .slice A l.length c] 108, .rd 6 A l.length ((l).flatMap Ev.cells)]) ?_ ?_))))
     ·have S26 := S23.drew; clear S23
      refine wC_any_ (C := fun w' => St w.heap.size w w' [.blk b7 #[.int .i64 0, .int .i64 0, .int .i64 0, .int .i64 0, .int .i64 0, .slice none 0 0] 108, .blk b4 #[.int .i64 6, .int .i64 qu, .int .i64 e, .int .i64 pe, .int .i64 x.kind, .int .i64 x.producer, .int .i64 x.id, .int .i64 x.body, .int .i64 x.hepoch, .int .i64 x.hno] 51, .blk b1 #[.int .i64 ro, .int .i64 ep, .int .i64 fr, .int .i64 tg, .int .i64 rd, .slice A l.length c] 108, .rd 6 A l.length ((l).flatMap Ev.cells)]) (n := 13) (listed := #[false, false, false, false, false, false, false, false, false, false, false, false, false]) mixed rfl rfl ?_
      refine ak (v := .pointer (some ⟨b4, 0, none⟩)) 1 rfl S26 (fun _ _ => yfa _ fa51_0) ?_
      refine ak (v := .int .i64 6) 2 rfl S26 (fun _ Sx28 => ylc 1 Sx28 Try.underlying3) ?_
      refine ak (v := .agg #[.int .i64 ro, .int .i64 ep, .int .i64 fr, .int .i64 tg, .int .i64 rd, .slice A l.length c]) 4 rfl S26 (fun _ Sx29 => ylr 2 Sx29 Try.underlying108 inf108) ?_
      refine ak (v := .agg #[.int .i64 6, .int .i64 qu, .int .i64 e, .int .i64 pe, .int .i64 x.kind, .int .i64 x.producer, .int .i64 x.id, .int .i64 x.body, .int .i64 x.hepoch, .int .i64 x.hno]) 5 rfl S26 (fun _ Sx30 => ylr 1 Sx30 Try.underlying51 inf51) ?_
      refine wA_two (n := 8) (r := 0) (s := 10) (by kernel_rfl) ?_ ?_
      ·refine caln 0 rfl en164 (racts_k6 _) ?_
       rintro _ w34 ⟨m31, d32, g33, rfl, T36⟩
       refine ⟨_, rfl, ?_⟩
       have S35 := S26.ext T36 rfl; clear T36 S26
       change St _ _ _ [.blk d32 #[.int .i64 4] 3, .blk g33 #[.func (.func 187) #[] #[]] 208, .loc m31 (FMap Try.prog 3 (fun y => if y = 6 then some (.func (.func 193) #[] #[.pointer (some ⟨d32, 0, none⟩), .pointer (some ⟨g33, 0, none⟩)]) else none) 7), _, _, _, _] at S35
       refine ⟨(S35.dels [2, 1, 0]), ?_⟩
       refine wA_two (n := 7) (r := 3) (s := 10) (by kernel_rfl) ?_ ?_
       ·refine wN_val (i := 3) rfl rfl (v := .func (.func 193) #[] #[.pointer (some ⟨d32, 0, none⟩), .pointer (some ⟨g33, 0, none⟩)]) (wn rfl) rfl rfl (y_lookF 2 S35 rfl rfl rfl rfl Try.underlying3 Try.underlying209 (Try.zeroValue208 _) (by decide) rfl) ?_
        refine ⟨(S35.dels [2, 1, 0]), ?_⟩
        refine wA_two (n := 6) (r := 6) (s := 10) (by kernel_rfl) ?_ ?_
        ·have HC := only_imp ro ep fr tg rd A c l 6 qu e pe x 4 d32 g33 hlc _ (St.rd 6 S35 rfl) hb (St.bld (xs := [.int .i64 4]) 0 S35 rfl rfl rfl) (St.bld (xs := [.func (.func 187) #[] #[]]) 1 S35 rfl rfl rfl)
         rw [hM] at HC
         refine wN_call_ (i := 6) rfl rfl (vs := [.agg #[.int .i64 ro, .int .i64 ep, .int .i64 fr, .int .i64 tg, .int .i64 rd, .slice A l.length c], .agg #[.int .i64 6, .int .i64 qu, .int .i64 e, .int .i64 pe, .int .i64 x.kind, .int .i64 x.producer, .int .i64 x.id, .int .i64 x.body, .int .i64 x.hepoch, .int .i64 x.hno], .pointer (some ⟨d32, 0, none⟩), .pointer (some ⟨g33, 0, none⟩)]) (wn rfl) rfl rfl (e_callv (first := []) (cap := [.pointer (some ⟨d32, 0, none⟩), .pointer (some ⟨g33, 0, none⟩)]) (vs := [.agg #[.int .i64 ro, .int .i64 ep, .int .i64 fr, .int .i64 tg, .int .i64 rd, .slice A l.length c], .agg #[.int .i64 6, .int .i64 qu, .int .i64 e, .int .i64 pe, .int .i64 x.kind, .int .i64 x.producer, .int .i64 x.id, .int .i64 x.body, .int .i64 x.hepoch, .int .i64 x.hno]]) rfl rfl en193 ⟨rfl, rfl, trivial⟩ rfl) (HC) ?_
         rintro _ w39 ⟨A37, c38, rfl, T41⟩
         refine ⟨_, rfl, ?_⟩
         have S40 := S35.ext T41 rfl; clear T41 S35
         change St _ _ _ [.rdo 6 A37 R.1.evs.length ((R.1.evs).flatMap Ev.cells), _, _, _, _, _, _, _] at S40; clear HC
         refine ⟨(S40.dels [3, 2, 1, 0]), ?_⟩
         refine ak (v := .tuple #[.agg #[.int .i64 R.1.role, .int .i64 R.1.ep, .int .i64 R.1.fr, .int .i64 R.1.tg, .int .i64 R.1.rd, .slice A37 R.1.evs.length c38], .int .i64 R.2]) 7 rfl (S40.dels [3, 2, 1, 0]) (fun _ _ => ym) ?_
         refine ak (v := .agg #[.int .i64 R.1.role, .int .i64 R.1.ep, .int .i64 R.1.fr, .int .i64 R.1.tg, .int .i64 R.1.rd, .slice A37 R.1.evs.length c38]) 8 rfl (S40.dels [3, 2, 1, 0]) (fun _ _ => yx) ?_
         refine ak (v := .int .i64 R.2) 9 rfl (S40.dels [3, 2, 1, 0]) (fun _ _ => yx) ?_
         refine aq1 10 ?_
         refine nnaB 10 rfl S40 Try.zeroValue108 ?_; intro b45 w46 S47; clear S40
         refine ⟨(S47.dels [4, 3, 2, 1, 0]), ?_⟩
         refine aq1 11 ?_
         refine sn 11 rfl 0 S47 inf108 ?_; intro w48 S49; clear S47
         refine ⟨(S49.dels [4, 3, 2, 1, 0]), ?_⟩
         refine ak (v := .int .i64 R.2) 12 rfl (S49.dels [4, 3, 2, 1, 0]) (fun _ _ => ya) ?_
         refine wA_done (by kernel_rfl) ?_
         refine pk [4, 5, 8, 9] ?_
         refine wQ_cut (b45, A37, c38, d32, g33, m31) ?_ ⟨rfl, rfl, rfl, rfl, trivial⟩
         exact S49
        ·refine nnaB 10 rfl S35 Try.zeroValue108 ?_; intro b51 w52 S53; clear S35
         refine ⟨(S53.dels [3, 2, 1, 0]), ?_⟩
         refine aq1 6 ?_
         have HC := only_imp ro ep fr tg rd A c l 6 qu e pe x 4 d32 g33 hlc _ (St.rd 7 S53 rfl) hb (St.bld (xs := [.int .i64 4]) 1 S53 rfl rfl rfl) (St.bld (xs := [.func (.func 187) #[] #[]]) 2 S53 rfl rfl rfl)
         rw [hM] at HC
         refine wN_call_ (i := 6) rfl rfl (vs := [.agg #[.int .i64 ro, .int .i64 ep, .int .i64 fr, .int .i64 tg, .int .i64 rd, .slice A l.length c], .agg #[.int .i64 6, .int .i64 qu, .int .i64 e, .int .i64 pe, .int .i64 x.kind, .int .i64 x.producer, .int .i64 x.id, .int .i64 x.body, .int .i64 x.hepoch, .int .i64 x.hno], .pointer (some ⟨d32, 0, none⟩), .pointer (some ⟨g33, 0, none⟩)]) (wn rfl) rfl rfl (e_callv (first := []) (cap := [.pointer (some ⟨d32, 0, none⟩), .pointer (some ⟨g33, 0, none⟩)]) (vs := [.agg #[.int .i64 ro, .int .i64 ep, .int .i64 fr, .int .i64 tg, .int .i64 rd, .slice A l.length c], .agg #[.int .i64 6, .int .i64 qu, .int .i64 e, .int .i64 pe, .int .i64 x.kind, .int .i64 x.producer, .int .i64 x.id, .int .i64 x.body, .int .i64 x.hepoch, .int .i64 x.hno]]) rfl rfl en193 ⟨rfl, rfl, trivial⟩ rfl) (HC) ?_
         rintro _ w56 ⟨A54, c55, rfl, T58⟩
         refine ⟨_, rfl, ?_⟩
         have S57 := S53.ext T58 rfl; clear T58 S53
         change St _ _ _ [.rdo 6 A54 R.1.evs.length ((R.1.evs).flatMap Ev.cells), _, _, _, _, _, _, _, _] at S57; clear HC
         refine ⟨(S57.dels [4, 3, 2, 1, 0]), ?_⟩
         refine ak (v := .tuple #[.agg #[.int .i64 R.1.role, .int .i64 R.1.ep, .int .i64 R.1.fr, .int .i64 R.1.tg, .int .i64 R.1.rd, .slice A54 R.1.evs.length c55], .int .i64 R.2]) 7 rfl (S57.dels [4, 3, 2, 1, 0]) (fun _ _ => ym) ?_
         refine ak (v := .agg #[.int .i64 R.1.role, .int .i64 R.1.ep, .int .i64 R.1.fr, .int .i64 R.1.tg, .int .i64 R.1.rd, .slice A54 R.1.evs.length c55]) 8 rfl (S57.dels [4, 3, 2, 1, 0]) (fun _ _ => yx) ?_
         refine ak (v := .int .i64 R.2) 9 rfl (S57.dels [4, 3, 2, 1, 0]) (fun _ _ => yx) ?_
         refine aq1 11 ?_
         refine sn 11 rfl 1 S57 inf108 ?_; intro w62 S63; clear S57
         refine ⟨(S63.dels [4, 3, 2, 1, 0]), ?_⟩
         refine ak (v := .int .i64 R.2) 12 rfl (S63.dels [4, 3, 2, 1, 0]) (fun _ _ => ya) ?_
         refine wA_done (by kernel_rfl) ?_
         refine pk [4, 5, 8, 9] ?_
         have S65 : St w.heap.size w w62 [_, _, _, _, _, _, _, _, _] := S63.re [1, 0, 2, 3, 4, 5, 6, 7, 8] (by decide); clear S63
         refine wQ_cut (b51, A54, c55, d32, g33, m31) ?_ ⟨rfl, rfl, rfl, rfl, trivial⟩
         exact S65
       ·refine nnaB 10 rfl S35 Try.zeroValue108 ?_; intro b66 w67 S68; clear S35
        refine ⟨(S68.dels [3, 2, 1, 0]), ?_⟩
        refine aq1 3 ?_
        refine wN_val (i := 3) rfl rfl (v := .func (.func 193) #[] #[.pointer (some ⟨d32, 0, none⟩), .pointer (some ⟨g33, 0, none⟩)]) (wn rfl) rfl rfl (y_lookF 3 S68 rfl rfl rfl rfl Try.underlying3 Try.underlying209 (Try.zeroValue208 _) (by decide) rfl) ?_
        refine ⟨(S68.dels [3, 2, 1, 0]), ?_⟩
        refine aq1 6 ?_
        have HC := only_imp ro ep fr tg rd A c l 6 qu e pe x 4 d32 g33 hlc _ (St.rd 7 S68 rfl) hb (St.bld (xs := [.int .i64 4]) 1 S68 rfl rfl rfl) (St.bld (xs := [.func (.func 187) #[] #[]]) 2 S68 rfl rfl rfl)
        rw [hM] at HC
        refine wN_call_ (i := 6) rfl rfl (vs := [.agg #[.int .i64 ro, .int .i64 ep, .int .i64 fr, .int .i64 tg, .int .i64 rd, .slice A l.length c], .agg #[.int .i64 6, .int .i64 qu, .int .i64 e, .int .i64 pe, .int .i64 x.kind, .int .i64 x.producer, .int .i64 x.id, .int .i64 x.body, .int .i64 x.hepoch, .int .i64 x.hno], .pointer (some ⟨d32, 0, none⟩), .pointer (some ⟨g33, 0, none⟩)]) (wn rfl) rfl rfl (e_callv (first := []) (cap := [.pointer (some ⟨d32, 0, none⟩), .pointer (some ⟨g33, 0, none⟩)]) (vs := [.agg #[.int .i64 ro, .int .i64 ep, .int .i64 fr, .int .i64 tg, .int .i64 rd, .slice A l.length c], .agg #[.int .i64 6, .int .i64 qu, .int .i64 e, .int .i64 pe, .int .i64 x.kind, .int .i64 x.producer, .int .i64 x.id, .int .i64 x.body, .int .i64 x.hepoch, .int .i64 x.hno]]) rfl rfl en193 ⟨rfl, rfl, trivial⟩ rfl) (HC) ?_
        rintro _ w71 ⟨A69, c70, rfl, T73⟩
        refine ⟨_, rfl, ?_⟩
        have S72 := S68.ext T73 rfl; clear T73 S68
        change St _ _ _ [.rdo 6 A69 R.1.evs.length ((R.1.evs).flatMap Ev.cells), _, _, _, _, _, _, _, _] at S72; clear HC
        refine ⟨(S72.dels [4, 3, 2, 1, 0]), ?_⟩
        refine ak (v := .tuple #[.agg #[.int .i64 R.1.role, .int .i64 R.1.ep, .int .i64 R.1.fr, .int .i64 R.1.tg, .int .i64 R.1.rd, .slice A69 R.1.evs.length c70], .int .i64 R.2]) 7 rfl (S72.dels [4, 3, 2, 1, 0]) (fun _ _ => ym) ?_
        refine ak (v := .agg #[.int .i64 R.1.role, .int .i64 R.1.ep, .int .i64 R.1.fr, .int .i64 R.1.tg, .int .i64 R.1.rd, .slice A69 R.1.evs.length c70]) 8 rfl (S72.dels [4, 3, 2, 1, 0]) (fun _ _ => yx) ?_
        refine ak (v := .int .i64 R.2) 9 rfl (S72.dels [4, 3, 2, 1, 0]) (fun _ _ => yx) ?_
        refine aq1 11 ?_
        refine sn 11 rfl 1 S72 inf108 ?_; intro w77 S78; clear S72
        refine ⟨(S78.dels [4, 3, 2, 1, 0]), ?_⟩
        refine ak (v := .int .i64 R.2) 12 rfl (S78.dels [4, 3, 2, 1, 0]) (fun _ _ => ya) ?_
        refine wA_done (by kernel_rfl) ?_
        refine pk [4, 5, 8, 9] ?_
        have S80 : St w.heap.size w w77 [_, _, _, _, _, _, _, _, _] := S78.re [1, 0, 2, 3, 4, 5, 6, 7, 8] (by decide); clear S78
        refine wQ_cut (b66, A69, c70, d32, g33, m31) ?_ ⟨rfl, rfl, rfl, rfl, trivial⟩
        exact S80
      ·refine nnaB 10 rfl S26 Try.zeroValue108 ?_; intro b81 w82 S83; clear S26
       refine ⟨(St.del 0 S83), ?_⟩
       refine aq1 0 ?_
       refine caln 0 rfl en164 (racts_k6 _) ?_
       rintro _ w87 ⟨m84, d85, g86, rfl, T89⟩
       refine ⟨_, rfl, ?_⟩
       have S88 := S83.ext T89 rfl; clear T89 S83
       change St _ _ _ [.blk d85 #[.int .i64 4] 3, .blk g86 #[.func (.func 187) #[] #[]] 208, .loc m84 (FMap Try.prog 3 (fun y => if y = 6 then some (.func (.func 193) #[] #[.pointer (some ⟨d85, 0, none⟩), .pointer (some ⟨g86, 0, none⟩)]) else none) 7), _, _, _, _, _] at S88
       refine ⟨(S88.dels [3, 2, 1, 0]), ?_⟩
       refine aq1 3 ?_
       refine wN_val (i := 3) rfl rfl (v := .func (.func 193) #[] #[.pointer (some ⟨d85, 0, none⟩), .pointer (some ⟨g86, 0, none⟩)]) (wn rfl) rfl rfl (y_lookF 2 S88 rfl rfl rfl rfl Try.underlying3 Try.underlying209 (Try.zeroValue208 _) (by decide) rfl) ?_
       refine ⟨(S88.dels [3, 2, 1, 0]), ?_⟩
       refine aq1 6 ?_
       have HC := only_imp ro ep fr tg rd A c l 6 qu e pe x 4 d85 g86 hlc _ (St.rd 7 S88 rfl) hb (St.bld (xs := [.int .i64 4]) 0 S88 rfl rfl rfl) (St.bld (xs := [.func (.func 187) #[] #[]]) 1 S88 rfl rfl rfl)
       rw [hM] at HC
       refine wN_call_ (i := 6) rfl rfl (vs := [.agg #[.int .i64 ro, .int .i64 ep, .int .i64 fr, .int .i64 tg, .int .i64 rd, .slice A l.length c], .agg #[.int .i64 6, .int .i64 qu, .int .i64 e, .int .i64 pe, .int .i64 x.kind, .int .i64 x.producer, .int .i64 x.id, .int .i64 x.body, .int .i64 x.hepoch, .int .i64 x.hno], .pointer (some ⟨d85, 0, none⟩), .pointer (some ⟨g86, 0, none⟩)]) (wn rfl) rfl rfl (e_callv (first := []) (cap := [.pointer (some ⟨d85, 0, none⟩), .pointer (some ⟨g86, 0, none⟩)]) (vs := [.agg #[.int .i64 ro, .int .i64 ep, .int .i64 fr, .int .i64 tg, .int .i64 rd, .slice A l.length c], .agg #[.int .i64 6, .int .i64 qu, .int .i64 e, .int .i64 pe, .int .i64 x.kind, .int .i64 x.producer, .int .i64 x.id, .int .i64 x.body, .int .i64 x.hepoch, .int .i64 x.hno]]) rfl rfl en193 ⟨rfl, rfl, trivial⟩ rfl) (HC) ?_
       rintro _ w92 ⟨A90, c91, rfl, T94⟩
       refine ⟨_, rfl, ?_⟩
       have S93 := S88.ext T94 rfl; clear T94 S88
       change St _ _ _ [.rdo 6 A90 R.1.evs.length ((R.1.evs).flatMap Ev.cells), _, _, _, _, _, _, _, _] at S93; clear HC
       refine ⟨(S93.dels [4, 3, 2, 1, 0]), ?_⟩
       refine ak (v := .tuple #[.agg #[.int .i64 R.1.role, .int .i64 R.1.ep, .int .i64 R.1.fr, .int .i64 R.1.tg, .int .i64 R.1.rd, .slice A90 R.1.evs.length c91], .int .i64 R.2]) 7 rfl (S93.dels [4, 3, 2, 1, 0]) (fun _ _ => ym) ?_
       refine ak (v := .agg #[.int .i64 R.1.role, .int .i64 R.1.ep, .int .i64 R.1.fr, .int .i64 R.1.tg, .int .i64 R.1.rd, .slice A90 R.1.evs.length c91]) 8 rfl (S93.dels [4, 3, 2, 1, 0]) (fun _ _ => yx) ?_
       refine ak (v := .int .i64 R.2) 9 rfl (S93.dels [4, 3, 2, 1, 0]) (fun _ _ => yx) ?_
       refine aq1 11 ?_
       refine sn 11 rfl 4 S93 inf108 ?_; intro w98 S99; clear S93
       refine ⟨(S99.dels [4, 3, 2, 1, 0]), ?_⟩
       refine ak (v := .int .i64 R.2) 12 rfl (S99.dels [4, 3, 2, 1, 0]) (fun _ _ => ya) ?_
       refine wA_done (by kernel_rfl) ?_
       refine pk [4, 5, 8, 9] ?_
       have S101 : St w.heap.size w w98 [_, _, _, _, _, _, _, _, _] := S99.re [4, 0, 1, 2, 3, 5, 6, 7, 8] (by decide); clear S99
       refine wQ_cut (b81, A90, c91, d85, g86, m84) ?_ ⟨rfl, rfl, rfl, rfl, trivial⟩
       exact S101
     ·rintro ⟨b102, A103, c104, d105, g106, m107⟩ w108 S109
      try dsimp only at S109; clear S23
      refine cw [4, 5, 8, 9] ?_
      refine x_ssr (vm ?_)
      by_cases h110 : R.2 = 0
      ·refine vv (yneqF h110) ?_
       refine qk [4, 5, 8, 47] ?_
       refine wQ_then (wC_cond_f rfl (wC_skip (wQ_then (wC_seq ?_))))
       have S111 := S109.nil 37 6; clear S109
       change St _ _ _ [.own 37 6 (.slice none 0 0) 0 ((([] : List Ev)).flatMap Ev.cells), _, _, _, _, _, _, _, _, _] at S111
       refine wC_region (vv (yfa 5 fa108_5) ?_)
       refine vv (ylc 1 S111 Try.underlying57) ?_
       refine wL_append (news := (R.1.evs).flatMap Ev.cells) (xs' := (R.1.evs).flatMap Ev.cells) 0 S111 (wn rfl) rfl rfl rfl rfl rfl rfl (St.rdo 2 S111 rfl) Try.underlying57 infz37 rfl (by decide) (evCells_one _) (by simp only [maxLen]; omega) (by omega) (rfl) ?_; intro A112 c113 w114 hc116 hm117 S115; clear S111
       change St _ _ _ [.own 37 6 (.slice A112 (0 + R.1.evs.length) c113) (0 + R.1.evs.length) ((R.1.evs).flatMap Ev.cells), _, _, _, _, _, _, _, _, _] at S115
       refine vv (yfa 5 fa108_5) ?_
       refine sr (row' := #[.int .i64 R.1.role, .int .i64 R.1.ep, .int .i64 R.1.fr, .int .i64 R.1.tg, .int .i64 R.1.rd, .slice A112 (0 + R.1.evs.length) c113]) 1 S115 inf57 ?_; intro w118 S119; clear S115
       refine qk [4, 5, 8] ?_
       refine x_tsr (vv (ylr 1 S119 Try.underlying108 inf108) ?_)
       refine sa 6 S119 inf108 ?_; intro w120 S121; clear S119
       refine va ?_
       refine qk [4, 5] ?_
       refine x_te (pc 6 S121 Try.underlying108 inf108 ?_)
       have S122 : St _ _ _ [_] := S121.dels [9, 8, 7, 6, 5, 4, 3, 2, 1]; clear S121
       rw [apply_go h13 h17 (by dsimp only; omega) (by rw [hR]; exact h110), hR]
       rw [Nat.zero_add] at S122 ⊢
       exact ⟨A112, c113, (own_caps (S122.own 0 rfl)).1, rfl, S122.sealAll 0 rfl⟩
      ·refine vv (yneqT h110) ?_
       refine qk [4, 5, 8, 47] ?_
       refine x_tysr (vv yzB ?_)
       refine sa 5 S109 inf108 ?_; intro w123 S124; clear S109
       refine va ?_
       refine qk [4, 5] ?_
       refine x_teh (pc 5 S124 Try.underlying108 inf108 ?_)
       have S125 : St _ _ _ [] := S124.dels [8, 7, 6, 5, 4, 3, 2, 1, 0]; clear S124
       rw [apply_no h13 h17 (by rw [hR]; exact h110)]
       exact ⟨none, 0, Nat.le_refl 0, rfl, rdo_nil S125⟩
    ·refine vg (yneqT h25) ?_
     refine vg ypT ?_
     refine vv ypF ?_
     refine qk [2, 3, 4, 5, 34] ?_
     refine x_tysr (vv yzB ?_)
     refine sa 0 S23 inf108 ?_; intro w126 S127; clear S23
     refine va ?_
     refine qk [4, 5] ?_
     refine x_teh (pc 0 S127 Try.underlying108 inf108 ?_)
     have S128 : St _ _ _ [] := S127.dels [3, 2, 1, 0]; clear S127
     rw [apply_x h13 h17 (by dsimp only; omega)]
     exact ⟨none, 0, Nat.le_refl 0, rfl, rdo_nil S128⟩
  ·refine vv (yneqT h17) ?_
   refine qk [2, 3, 4, 5, 7, 19] ?_
   refine x_tysr (vv yzB ?_)
   refine vm ?_
   refine sa 0 S15 inf108 ?_; intro w129 S130; clear S15
   refine va ?_
   refine qk [4, 5] ?_
   refine x_teh (pc 0 S130 Try.underlying108 inf108 ?_)
   have S131 : St _ _ _ [] := S130.dels [3, 2, 1, 0]; clear S130
   rw [apply_rf h13 h17]
   exact ⟨none, 0, Nat.le_refl 0, rfl, rdo_nil S131⟩
 ·refine vv (yneqT h13) ?_
  refine qk [2, 3, 4, 5, 6, 13] ?_
  refine x_tysr (vv yzB ?_)
  refine vm ?_
  refine sa 0 S11 inf108 ?_; intro w132 S133; clear S11
  refine va ?_
  refine qk [4, 5] ?_
  refine x_teh (pc 0 S133 Try.underlying108 inf108 ?_)
  have S134 : St _ _ _ [] := S133.dels [3, 2, 1, 0]; clear S133
  rw [apply_bf h13]
  exact ⟨none, 0, Nat.le_refl 0, rfl, rdo_nil S134⟩
end Go.Proofs.Ytkjlafpafmihaaa

namespace Go.Proofs.Ytkjlafpafmihaaa
open Go.ChangeShapes Go.WideShapes Go.RowKit

set_option maxRecDepth 100000 in
set_option maxHeartbeats 8000000 in
theorem Apply_k7 (ro ep fr tg rd : Int) (A : Option Addr) (c : Nat) (l : List Ev) (qu e pe : Int) (x : Ev) (hlc : l.length ≤ c) (w : World) (h : Rd w w.heap.size 6 A l.length (evCells l)) (hb : l.length * 48 ≤ reachBytes) :
    Calls Try.prog 98 #[.agg #[.int .i64 ro, .int .i64 ep, .int .i64 fr, .int .i64 tg, .int .i64 rd, .slice A l.length c], .agg #[.int .i64 7, .int .i64 qu, .int .i64 e, .int .i64 pe, .int .i64 x.kind, .int .i64 x.producer, .int .i64 x.id, .int .i64 x.body, .int .i64 x.hepoch, .int .i64 x.hno]] w (ApplyPost w (applyM ⟨ro, ep, fr, tg, rd, l⟩ ⟨7, qu, e, pe, x⟩)) := by
 have S := (St.start w).addRd h; clear h
 have hb2 := hb
 unfold reachBytes at hb2
 obtain ⟨R, hR⟩ : ∃ R, actM ⟨ro, ep, fr, tg, rd, l⟩ ⟨7, qu, e, pe, x⟩ = R := ⟨_, rfl⟩
 have hM := hR
 rw [act_k7] at hM
 try dsimp only at hM
 have hlenR : R.1.evs.length ≤ l.length + 1 := by rw [← hR]; exact actM_len
 refine fnw 54 Try.func98 ?_
 refine cw [0, 1] ?_
 refine x_sr (nb (row := #[.int .i64 ro, .int .i64 ep, .int .i64 fr, .int .i64 tg, .int .i64 rd, .slice A l.length c]) S ?_); intro b1 w2 S3; clear S
 refine nb (row := #[.int .i64 7, .int .i64 qu, .int .i64 e, .int .i64 pe, .int .i64 x.kind, .int .i64 x.producer, .int .i64 x.id, .int .i64 x.body, .int .i64 x.hepoch, .int .i64 x.hno]) S3 ?_; intro b4 w5 S6; clear S3
 refine naB S6 Try.zeroValue108 ?_; intro b7 w8 S9; clear S6
 refine va ?_
 refine qk [2, 3, 4, 5] ?_
 refine x_tssr (vv (ylr 2 S9 Try.underlying108 inf108) ?_)
 refine cab en76 S9 (BCheck_calls ro ep fr tg rd A c l _ (St.rd 3 S9 rfl) (by omega)) ?_; intro w10 S11; clear S9
 refine va ?_
 refine qk [2, 3, 4, 5, 6] ?_
 refine x_tsr (vm ?_)
 by_cases h13 : brtFault ⟨ro, ep, fr, tg, rd, l⟩ = 0
 ·have hln := tellM_len (bf_zero h13).2
  dsimp only at hln
  refine vv (yneqF h13) ?_
  refine qk [2, 3, 4, 5, 6, 13] ?_
  refine x_tnktssr (vv (ylr 1 S11 Try.underlying51 inf51) ?_)
  refine cab en119 S11 (Record_calls ⟨7, qu, e, pe, x⟩ _) ?_; intro w14 S15; clear S11
  refine va ?_
  refine qk [2, 3, 4, 5, 7] ?_
  refine x_tsr (vm ?_)
  by_cases h17 : recFault ⟨7, qu, e, pe, x⟩ = 0
  ·have hrz := rec_zero h17
   dsimp only at hrz
   refine vv (yneqF h17) ?_
   refine qk [2, 3, 4, 5, 7, 19] ?_
   refine x_tnktssr (vv (yfa 0 fa108_0) ?_)
   refine vv (ylc 2 S15 Try.underlying3) ?_
   by_cases h18 : ro = 2
   ·refine vv (yeqlT h18) ?_
    refine vm ?_
    iterate 8 refine vs ?_
    refine vv ypT ?_
    refine qk [2, 3, 4, 5, 34] ?_
    refine x_tysr (vv yzB ?_)
    refine sa 0 S15 inf108 ?_; intro w19 S20; clear S15
    refine va ?_
    refine qk [4, 5] ?_
    refine x_teh (pc 0 S20 Try.underlying108 inf108 ?_)
    have S21 : St _ _ _ [] := S20.dels [3, 2, 1, 0]; clear S20
    rw [apply_x h13 h17 (by dsimp only; omega)]
    exact ⟨none, 0, Nat.le_refl 0, rfl, rdo_nil S21⟩
   ·refine vv (yeqlF h18) ?_
    refine vm ?_
    refine vg (yfa 0 fa51_0) ?_
    refine vg (ylc 1 S15 Try.underlying3) ?_
    refine calg en163 (peerless_t 7 (by decide) _) ?_
    rintro _ w22 ⟨rfl, hb24⟩
    refine ⟨_, rfl, ?_⟩
    have S23 := S15.on hb24; clear hb24 S15
    refine vg ym ?_
    refine vg (yfa 3 fa51_3) ?_
    refine vg (ylc 1 S23 Try.underlying3) ?_
    by_cases h25 : pe = 0
    ·refine vg (yneqF h25) ?_
     refine vg ypT ?_
     refine vv ypF ?_
     refine qk [2, 3, 4, 5, 34] ?_
     refine wQ_then (wC_cond_f rfl (wC_skip (wQ_then (wC_cut (X := Nat × (Option Addr) × Nat × Nat × Nat × Nat) (fun xv => [(4, .pointer (some ⟨b7, 0, none⟩)), (5, .int .i64 0), (8, .pointer (some ⟨xv.1, 0, none⟩)), (9, .int .i64 R.2)]) (fun xv wr => St w.heap.size w wr [.blk xv.1 #[.int .i64 R.1.role, .int .i64 R.1.ep, .int .i64 R.1.fr, .int .i64 R.1.tg, .int .i64 R.1.rd, .slice xv.2.1 R.1.evs.length xv.2.2.1] 108, .rdo 6 xv.2.1 R.1.evs.length ((R.1.evs).flatMap Ev.cells), .blk xv.2.2.2.1 #[.int .i64 3] 3, .blk xv.2.2.2.2.1 #[.func (.func 188) #[] #[]] 208, .loc xv.2.2.2.2.2 (FMap Try.prog 3 (fun y => if y = 7 then some (.func (.func 193) #[] #[.pointer (some ⟨xv.2.2.2.1, 0, none⟩), .pointer (some ⟨xv.2.2.2.2.1, 0, none⟩)]) else none) 7), .blk b7 #[.int .i64 0, .int .i64 0, .int .i64 0, .int .i64 0, .int .i64 0, .slice none 0 0] 108, .blk b4 #[.int .i64 7, .int .i64 qu, .int .i64 e, .int .i64 pe, .int .i64 x.kind, .int .i64 x.producer, .int .i64 x.id, .int .i64 x.body, .int .i64 x.hepoch, .int .i64 x.hno] 51, .blk b1 #[.int .i64 ro, .int .i64 ep, .int .i64 fr, .int .i64 tg, .int .i64 rd, .slice A l.length c] 108, .rd 6 A l.length ((l).flatMap Ev.cells)]) ?_ ?_))))
     ·have S26 := S23.drew; clear S23
      refine wC_any_ (C := fun w' => St w.heap.size w w' [.blk b7 #[.int .i64 0, .int .i64 0, .int .i64 0, .int .i64 0, .int .i64 0, .slice none 0 0] 108, .blk b4 #[.int .i64 7, .int .i64 qu, .int .i64 e, .int .i64 pe, .int .i64 x.kind, .int .i64 x.producer, .int .i64 x.id, .int .i64 x.body, .int .i64 x.hepoch, .int .i64 x.hno] 51, .blk b1 #[.int .i64 ro, .int .i64 ep, .int .i64 fr, .int .i64 tg, .int .i64 rd, .slice A l.length c] 108, .rd 6 A l.length ((l).flatMap Ev.cells)]) (n := 13) (listed := #[false, false, false, false, false, false, false, false, false, false, false, false, false]) mixed rfl rfl ?_
      refine ak (v := .pointer (some ⟨b4, 0, none⟩)) 1 rfl S26 (fun _ _ => yfa _ fa51_0) ?_
      refine ak (v := .int .i64 7) 2 rfl S26 (fun _ Sx28 => ylc 1 Sx28 Try.underlying3) ?_
      refine ak (v := .agg #[.int .i64 ro, .int .i64 ep, .int .i64 fr, .int .i64 tg, .int .i64 rd, .slice A l.length c]) 4 rfl S26 (fun _ Sx29 => ylr 2 Sx29 Try.underlying108 inf108) ?_
      refine ak (v := .agg #[.int .i64 7, .int .i64 qu, .int .i64 e, .int .i64 pe, .int .i64 x.kind, .int .i64 x.producer, .int .i64 x.id, .int .i64 x.body, .int .i64 x.hepoch, .int .i64 x.hno]) 5 rfl S26 (fun _ Sx30 => ylr 1 Sx30 Try.underlying51 inf51) ?_
      refine wA_two (n := 8) (r := 0) (s := 10) (by kernel_rfl) ?_ ?_
      ·refine caln 0 rfl en164 (racts_k7 _) ?_
       rintro _ w34 ⟨m31, d32, g33, rfl, T36⟩
       refine ⟨_, rfl, ?_⟩
       have S35 := S26.ext T36 rfl; clear T36 S26
       change St _ _ _ [.blk d32 #[.int .i64 3] 3, .blk g33 #[.func (.func 188) #[] #[]] 208, .loc m31 (FMap Try.prog 3 (fun y => if y = 7 then some (.func (.func 193) #[] #[.pointer (some ⟨d32, 0, none⟩), .pointer (some ⟨g33, 0, none⟩)]) else none) 7), _, _, _, _] at S35
       refine ⟨(S35.dels [2, 1, 0]), ?_⟩
       refine wA_two (n := 7) (r := 3) (s := 10) (by kernel_rfl) ?_ ?_
       ·refine wN_val (i := 3) rfl rfl (v := .func (.func 193) #[] #[.pointer (some ⟨d32, 0, none⟩), .pointer (some ⟨g33, 0, none⟩)]) (wn rfl) rfl rfl (y_lookF 2 S35 rfl rfl rfl rfl Try.underlying3 Try.underlying209 (Try.zeroValue208 _) (by decide) rfl) ?_
        refine ⟨(S35.dels [2, 1, 0]), ?_⟩
        refine wA_two (n := 6) (r := 6) (s := 10) (by kernel_rfl) ?_ ?_
        ·have HC := only_fgt ro ep fr tg rd A c l 7 qu e pe x 3 d32 g33 (by omega) _ (St.rd 6 S35 rfl) hb (St.bld (xs := [.int .i64 3]) 0 S35 rfl rfl rfl) (St.bld (xs := [.func (.func 188) #[] #[]]) 1 S35 rfl rfl rfl)
         rw [hM] at HC
         refine wN_call_ (i := 6) rfl rfl (vs := [.agg #[.int .i64 ro, .int .i64 ep, .int .i64 fr, .int .i64 tg, .int .i64 rd, .slice A l.length c], .agg #[.int .i64 7, .int .i64 qu, .int .i64 e, .int .i64 pe, .int .i64 x.kind, .int .i64 x.producer, .int .i64 x.id, .int .i64 x.body, .int .i64 x.hepoch, .int .i64 x.hno], .pointer (some ⟨d32, 0, none⟩), .pointer (some ⟨g33, 0, none⟩)]) (wn rfl) rfl rfl (e_callv (first := []) (cap := [.pointer (some ⟨d32, 0, none⟩), .pointer (some ⟨g33, 0, none⟩)]) (vs := [.agg #[.int .i64 ro, .int .i64 ep, .int .i64 fr, .int .i64 tg, .int .i64 rd, .slice A l.length c], .agg #[.int .i64 7, .int .i64 qu, .int .i64 e, .int .i64 pe, .int .i64 x.kind, .int .i64 x.producer, .int .i64 x.id, .int .i64 x.body, .int .i64 x.hepoch, .int .i64 x.hno]]) rfl rfl en193 ⟨rfl, rfl, trivial⟩ rfl) (HC) ?_
         rintro _ w39 ⟨A37, c38, rfl, T41⟩
         refine ⟨_, rfl, ?_⟩
         have S40 := S35.ext T41 rfl; clear T41 S35
         change St _ _ _ [.rdo 6 A37 R.1.evs.length ((R.1.evs).flatMap Ev.cells), _, _, _, _, _, _, _] at S40; clear HC
         refine ⟨(S40.dels [3, 2, 1, 0]), ?_⟩
         refine ak (v := .tuple #[.agg #[.int .i64 R.1.role, .int .i64 R.1.ep, .int .i64 R.1.fr, .int .i64 R.1.tg, .int .i64 R.1.rd, .slice A37 R.1.evs.length c38], .int .i64 R.2]) 7 rfl (S40.dels [3, 2, 1, 0]) (fun _ _ => ym) ?_
         refine ak (v := .agg #[.int .i64 R.1.role, .int .i64 R.1.ep, .int .i64 R.1.fr, .int .i64 R.1.tg, .int .i64 R.1.rd, .slice A37 R.1.evs.length c38]) 8 rfl (S40.dels [3, 2, 1, 0]) (fun _ _ => yx) ?_
         refine ak (v := .int .i64 R.2) 9 rfl (S40.dels [3, 2, 1, 0]) (fun _ _ => yx) ?_
         refine aq1 10 ?_
         refine nnaB 10 rfl S40 Try.zeroValue108 ?_; intro b45 w46 S47; clear S40
         refine ⟨(S47.dels [4, 3, 2, 1, 0]), ?_⟩
         refine aq1 11 ?_
         refine sn 11 rfl 0 S47 inf108 ?_; intro w48 S49; clear S47
         refine ⟨(S49.dels [4, 3, 2, 1, 0]), ?_⟩
         refine ak (v := .int .i64 R.2) 12 rfl (S49.dels [4, 3, 2, 1, 0]) (fun _ _ => ya) ?_
         refine wA_done (by kernel_rfl) ?_
         refine pk [4, 5, 8, 9] ?_
         refine wQ_cut (b45, A37, c38, d32, g33, m31) ?_ ⟨rfl, rfl, rfl, rfl, trivial⟩
         exact S49
        ·refine nnaB 10 rfl S35 Try.zeroValue108 ?_; intro b51 w52 S53; clear S35
         refine ⟨(S53.dels [3, 2, 1, 0]), ?_⟩
         refine aq1 6 ?_
         have HC := only_fgt ro ep fr tg rd A c l 7 qu e pe x 3 d32 g33 (by omega) _ (St.rd 7 S53 rfl) hb (St.bld (xs := [.int .i64 3]) 1 S53 rfl rfl rfl) (St.bld (xs := [.func (.func 188) #[] #[]]) 2 S53 rfl rfl rfl)
         rw [hM] at HC
         refine wN_call_ (i := 6) rfl rfl (vs := [.agg #[.int .i64 ro, .int .i64 ep, .int .i64 fr, .int .i64 tg, .int .i64 rd, .slice A l.length c], .agg #[.int .i64 7, .int .i64 qu, .int .i64 e, .int .i64 pe, .int .i64 x.kind, .int .i64 x.producer, .int .i64 x.id, .int .i64 x.body, .int .i64 x.hepoch, .int .i64 x.hno], .pointer (some ⟨d32, 0, none⟩), .pointer (some ⟨g33, 0, none⟩)]) (wn rfl) rfl rfl (e_callv (first := []) (cap := [.pointer (some ⟨d32, 0, none⟩), .pointer (some ⟨g33, 0, none⟩)]) (vs := [.agg #[.int .i64 ro, .int .i64 ep, .int .i64 fr, .int .i64 tg, .int .i64 rd, .slice A l.length c], .agg #[.int .i64 7, .int .i64 qu, .int .i64 e, .int .i64 pe, .int .i64 x.kind, .int .i64 x.producer, .int .i64 x.id, .int .i64 x.body, .int .i64 x.hepoch, .int .i64 x.hno]]) rfl rfl en193 ⟨rfl, rfl, trivial⟩ rfl) (HC) ?_
         rintro _ w56 ⟨A54, c55, rfl, T58⟩
         refine ⟨_, rfl, ?_⟩
         have S57 := S53.ext T58 rfl; clear T58 S53
         change St _ _ _ [.rdo 6 A54 R.1.evs.length ((R.1.evs).flatMap Ev.cells), _, _, _, _, _, _, _, _] at S57; clear HC
         refine ⟨(S57.dels [4, 3, 2, 1, 0]), ?_⟩
         refine ak (v := .tuple #[.agg #[.int .i64 R.1.role, .int .i64 R.1.ep, .int .i64 R.1.fr, .int .i64 R.1.tg, .int .i64 R.1.rd, .slice A54 R.1.evs.length c55], .int .i64 R.2]) 7 rfl (S57.dels [4, 3, 2, 1, 0]) (fun _ _ => ym) ?_
         refine ak (v := .agg #[.int .i64 R.1.role, .int .i64 R.1.ep, .int .i64 R.1.fr, .int .i64 R.1.tg, .int .i64 R.1.rd, .slice A54 R.1.evs.length c55]) 8 rfl (S57.dels [4, 3, 2, 1, 0]) (fun _ _ => yx) ?_
         refine ak (v := .int .i64 R.2) 9 rfl (S57.dels [4, 3, 2, 1, 0]) (fun _ _ => yx) ?_
         refine aq1 11 ?_
         refine sn 11 rfl 1 S57 inf108 ?_; intro w62 S63; clear S57
         refine ⟨(S63.dels [4, 3, 2, 1, 0]), ?_⟩
         refine ak (v := .int .i64 R.2) 12 rfl (S63.dels [4, 3, 2, 1, 0]) (fun _ _ => ya) ?_
         refine wA_done (by kernel_rfl) ?_
         refine pk [4, 5, 8, 9] ?_
         have S65 : St w.heap.size w w62 [_, _, _, _, _, _, _, _, _] := S63.re [1, 0, 2, 3, 4, 5, 6, 7, 8] (by decide); clear S63
         refine wQ_cut (b51, A54, c55, d32, g33, m31) ?_ ⟨rfl, rfl, rfl, rfl, trivial⟩
         exact S65
       ·refine nnaB 10 rfl S35 Try.zeroValue108 ?_; intro b66 w67 S68; clear S35
        refine ⟨(S68.dels [3, 2, 1, 0]), ?_⟩
        refine aq1 3 ?_
        refine wN_val (i := 3) rfl rfl (v := .func (.func 193) #[] #[.pointer (some ⟨d32, 0, none⟩), .pointer (some ⟨g33, 0, none⟩)]) (wn rfl) rfl rfl (y_lookF 3 S68 rfl rfl rfl rfl Try.underlying3 Try.underlying209 (Try.zeroValue208 _) (by decide) rfl) ?_
        refine ⟨(S68.dels [3, 2, 1, 0]), ?_⟩
        refine aq1 6 ?_
        have HC := only_fgt ro ep fr tg rd A c l 7 qu e pe x 3 d32 g33 (by omega) _ (St.rd 7 S68 rfl) hb (St.bld (xs := [.int .i64 3]) 1 S68 rfl rfl rfl) (St.bld (xs := [.func (.func 188) #[] #[]]) 2 S68 rfl rfl rfl)
        rw [hM] at HC
        refine wN_call_ (i := 6) rfl rfl (vs := [.agg #[.int .i64 ro, .int .i64 ep, .int .i64 fr, .int .i64 tg, .int .i64 rd, .slice A l.length c], .agg #[.int .i64 7, .int .i64 qu, .int .i64 e, .int .i64 pe, .int .i64 x.kind, .int .i64 x.producer, .int .i64 x.id, .int .i64 x.body, .int .i64 x.hepoch, .int .i64 x.hno], .pointer (some ⟨d32, 0, none⟩), .pointer (some ⟨g33, 0, none⟩)]) (wn rfl) rfl rfl (e_callv (first := []) (cap := [.pointer (some ⟨d32, 0, none⟩), .pointer (some ⟨g33, 0, none⟩)]) (vs := [.agg #[.int .i64 ro, .int .i64 ep, .int .i64 fr, .int .i64 tg, .int .i64 rd, .slice A l.length c], .agg #[.int .i64 7, .int .i64 qu, .int .i64 e, .int .i64 pe, .int .i64 x.kind, .int .i64 x.producer, .int .i64 x.id, .int .i64 x.body, .int .i64 x.hepoch, .int .i64 x.hno]]) rfl rfl en193 ⟨rfl, rfl, trivial⟩ rfl) (HC) ?_
        rintro _ w71 ⟨A69, c70, rfl, T73⟩
        refine ⟨_, rfl, ?_⟩
        have S72 := S68.ext T73 rfl; clear T73 S68
        change St _ _ _ [.rdo 6 A69 R.1.evs.length ((R.1.evs).flatMap Ev.cells), _, _, _, _, _, _, _, _] at S72; clear HC
        refine ⟨(S72.dels [4, 3, 2, 1, 0]), ?_⟩
        refine ak (v := .tuple #[.agg #[.int .i64 R.1.role, .int .i64 R.1.ep, .int .i64 R.1.fr, .int .i64 R.1.tg, .int .i64 R.1.rd, .slice A69 R.1.evs.length c70], .int .i64 R.2]) 7 rfl (S72.dels [4, 3, 2, 1, 0]) (fun _ _ => ym) ?_
        refine ak (v := .agg #[.int .i64 R.1.role, .int .i64 R.1.ep, .int .i64 R.1.fr, .int .i64 R.1.tg, .int .i64 R.1.rd, .slice A69 R.1.evs.length c70]) 8 rfl (S72.dels [4, 3, 2, 1, 0]) (fun _ _ => yx) ?_
        refine ak (v := .int .i64 R.2) 9 rfl (S72.dels [4, 3, 2, 1, 0]) (fun _ _ => yx) ?_
        refine aq1 11 ?_
        refine sn 11 rfl 1 S72 inf108 ?_; intro w77 S78; clear S72
        refine ⟨(S78.dels [4, 3, 2, 1, 0]), ?_⟩
        refine ak (v := .int .i64 R.2) 12 rfl (S78.dels [4, 3, 2, 1, 0]) (fun _ _ => ya) ?_
        refine wA_done (by kernel_rfl) ?_
        refine pk [4, 5, 8, 9] ?_
        have S80 : St w.heap.size w w77 [_, _, _, _, _, _, _, _, _] := S78.re [1, 0, 2, 3, 4, 5, 6, 7, 8] (by decide); clear S78
        refine wQ_cut (b66, A69, c70, d32, g33, m31) ?_ ⟨rfl, rfl, rfl, rfl, trivial⟩
        exact S80
      ·refine nnaB 10 rfl S26 Try.zeroValue108 ?_; intro b81 w82 S83; clear S26
       refine ⟨(St.del 0 S83), ?_⟩
       refine aq1 0 ?_
       refine caln 0 rfl en164 (racts_k7 _) ?_
       rintro _ w87 ⟨m84, d85, g86, rfl, T89⟩
       refine ⟨_, rfl, ?_⟩
       have S88 := S83.ext T89 rfl; clear T89 S83
       change St _ _ _ [.blk d85 #[.int .i64 3] 3, .blk g86 #[.func (.func 188) #[] #[]] 208, .loc m84 (FMap Try.prog 3 (fun y => if y = 7 then some (.func (.func 193) #[] #[.pointer (some ⟨d85, 0, none⟩), .pointer (some ⟨g86, 0, none⟩)]) else none) 7), _, _, _, _, _] at S88
       refine ⟨(S88.dels [3, 2, 1, 0]), ?_⟩
       refine aq1 3 ?_
       refine wN_val (i := 3) rfl rfl (v := .func (.func 193) #[] #[.pointer (some ⟨d85, 0, none⟩), .pointer (some ⟨g86, 0, none⟩)]) (wn rfl) rfl rfl (y_lookF 2 S88 rfl rfl rfl rfl Try.underlying3 Try.underlying209 (Try.zeroValue208 _) (by decide) rfl) ?_
       refine ⟨(S88.dels [3, 2, 1, 0]), ?_⟩
       refine aq1 6 ?_
       have HC := only_fgt ro ep fr tg rd A c l 7 qu e pe x 3 d85 g86 (by omega) _ (St.rd 7 S88 rfl) hb (St.bld (xs := [.int .i64 3]) 0 S88 rfl rfl rfl) (St.bld (xs := [.func (.func 188) #[] #[]]) 1 S88 rfl rfl rfl)
       rw [hM] at HC
       refine wN_call_ (i := 6) rfl rfl (vs := [.agg #[.int .i64 ro, .int .i64 ep, .int .i64 fr, .int .i64 tg, .int .i64 rd, .slice A l.length c], .agg #[.int .i64 7, .int .i64 qu, .int .i64 e, .int .i64 pe, .int .i64 x.kind, .int .i64 x.producer, .int .i64 x.id, .int .i64 x.body, .int .i64 x.hepoch, .int .i64 x.hno], .pointer (some ⟨d85, 0, none⟩), .pointer (some ⟨g86, 0, none⟩)]) (wn rfl) rfl rfl (e_callv (first := []) (cap := [.pointer (some ⟨d85, 0, none⟩), .pointer (some ⟨g86, 0, none⟩)]) (vs := [.agg #[.int .i64 ro, .int .i64 ep, .int .i64 fr, .int .i64 tg, .int .i64 rd, .slice A l.length c], .agg #[.int .i64 7, .int .i64 qu, .int .i64 e, .int .i64 pe, .int .i64 x.kind, .int .i64 x.producer, .int .i64 x.id, .int .i64 x.body, .int .i64 x.hepoch, .int .i64 x.hno]]) rfl rfl en193 ⟨rfl, rfl, trivial⟩ rfl) (HC) ?_
       rintro _ w92 ⟨A90, c91, rfl, T94⟩
       refine ⟨_, rfl, ?_⟩
       have S93 := S88.ext T94 rfl; clear T94 S88
       change St _ _ _ [.rdo 6 A90 R.1.evs.length ((R.1.evs).flatMap Ev.cells), _, _, _, _, _, _, _, _] at S93; clear HC
       refine ⟨(S93.dels [4, 3, 2, 1, 0]), ?_⟩
       refine ak (v := .tuple #[.agg #[.int .i64 R.1.role, .int .i64 R.1.ep, .int .i64 R.1.fr, .int .i64 R.1.tg, .int .i64 R.1.rd, .slice A90 R.1.evs.length c91], .int .i64 R.2]) 7 rfl (S93.dels [4, 3, 2, 1, 0]) (fun _ _ => ym) ?_
       refine ak (v := .agg #[.int .i64 R.1.role, .int .i64 R.1.ep, .int .i64 R.1.fr, .int .i64 R.1.tg, .int .i64 R.1.rd, .slice A90 R.1.evs.length c91]) 8 rfl (S93.dels [4, 3, 2, 1, 0]) (fun _ _ => yx) ?_
       refine ak (v := .int .i64 R.2) 9 rfl (S93.dels [4, 3, 2, 1, 0]) (fun _ _ => yx) ?_
       refine aq1 11 ?_
       refine sn 11 rfl 4 S93 inf108 ?_; intro w98 S99; clear S93
       refine ⟨(S99.dels [4, 3, 2, 1, 0]), ?_⟩
       refine ak (v := .int .i64 R.2) 12 rfl (S99.dels [4, 3, 2, 1, 0]) (fun _ _ => ya) ?_
       refine wA_done (by kernel_rfl) ?_
       refine pk [4, 5, 8, 9] ?_
       have S101 : St w.heap.size w w98 [_, _, _, _, _, _, _, _, _] := S99.re [4, 0, 1, 2, 3, 5, 6, 7, 8] (by decide); clear S99
       refine wQ_cut (b81, A90, c91, d85, g86, m84) ?_ ⟨rfl, rfl, rfl, rfl, trivial⟩
       exact S101
     ·rintro ⟨b102, A103, c104, d105, g106, m107⟩ w108 S109
      try dsimp only at S109; clear S23
      refine cw [4, 5, 8, 9] ?_
      refine x_ssr (vm ?_)
      by_cases h110 : R.2 = 0
      ·refine vv (yneqF h110) ?_
       refine qk [4, 5, 8, 47] ?_
       refine wQ_then (wC_cond_f rfl (wC_skip (wQ_then (wC_seq ?_))))
       have S111 := S109.nil 37 6; clear S109
       change St _ _ _ [.own 37 6 (.slice none 0 0) 0 ((([] : List Ev)).flatMap Ev.cells), _, _, _, _, _, _, _, _, _] at S111
       refine wC_region (vv (yfa 5 fa108_5) ?_)
       refine vv (ylc 1 S111 Try.underlying57) ?_
       refine wL_append (news := (R.1.evs).flatMap Ev.cells) (xs' := (R.1.evs).flatMap Ev.cells) 0 S111 (wn rfl) rfl rfl rfl rfl rfl rfl (St.rdo 2 S111 rfl) Try.underlying57 infz37 rfl (by decide) (evCells_one _) (by simp only [maxLen]; omega) (by omega) (rfl) ?_; intro A112 c113 w114 hc116 hm117 S115; clear S111
       change St _ _ _ [.own 37 6 (.slice A112 (0 + R.1.evs.length) c113) (0 + R.1.evs.length) ((R.1.evs).flatMap Ev.cells), _, _, _, _, _, _, _, _, _] at S115
       refine vv (yfa 5 fa108_5) ?_
       refine sr (row' := #[.int .i64 R.1.role, .int .i64 R.1.ep, .int .i64 R.1.fr, .int .i64 R.1.tg, .int .i64 R.1.rd, .slice A112 (0 + R.1.evs.length) c113]) 1 S115 inf57 ?_; intro w118 S119; clear S115
       refine qk [4, 5, 8] ?_
       refine x_tsr (vv (ylr 1 S119 Try.underlying108 inf108) ?_)
       refine sa 6 S119 inf108 ?_; intro w120 S121; clear S119
       refine va ?_
       refine qk [4, 5] ?_
       refine x_te (pc 6 S121 Try.underlying108 inf108 ?_)
       have S122 : St _ _ _ [_] := S121.dels [9, 8, 7, 6, 5, 4, 3, 2, 1]; clear S121
       rw [apply_go h13 h17 (by dsimp only; omega) (by rw [hR]; exact h110), hR]
       rw [Nat.zero_add] at S122 ⊢
       exact ⟨A112, c113, (own_caps (S122.own 0 rfl)).1, rfl, S122.sealAll 0 rfl⟩
      ·refine vv (yneqT h110) ?_
       refine qk [4, 5, 8, 47] ?_
       refine x_tysr (vv yzB ?_)
       refine sa 5 S109 inf108 ?_; intro w123 S124; clear S109
       refine va ?_
       refine qk [4, 5] ?_
       refine x_teh (pc 5 S124 Try.underlying108 inf108 ?_)
       have S125 : St _ _ _ [] := S124.dels [8, 7, 6, 5, 4, 3, 2, 1, 0]; clear S124
       rw [apply_no h13 h17 (by rw [hR]; exact h110)]
       exact ⟨none, 0, Nat.le_refl 0, rfl, rdo_nil S125⟩
    ·refine vg (yneqT h25) ?_
     refine vg ypT ?_
     refine vv ypF ?_
     refine qk [2, 3, 4, 5, 34] ?_
     refine x_tysr (vv yzB ?_)
     refine sa 0 S23 inf108 ?_; intro w126 S127; clear S23
     refine va ?_
     refine qk [4, 5] ?_
     refine x_teh (pc 0 S127 Try.underlying108 inf108 ?_)
     have S128 : St _ _ _ [] := S127.dels [3, 2, 1, 0]; clear S127
     rw [apply_x h13 h17 (by dsimp only; omega)]
     exact ⟨none, 0, Nat.le_refl 0, rfl, rdo_nil S128⟩
  ·refine vv (yneqT h17) ?_
   refine qk [2, 3, 4, 5, 7, 19] ?_
   refine x_tysr (vv yzB ?_)
   refine vm ?_
   refine sa 0 S15 inf108 ?_; intro w129 S130; clear S15
   refine va ?_
   refine qk [4, 5] ?_
   refine x_teh (pc 0 S130 Try.underlying108 inf108 ?_)
   have S131 : St _ _ _ [] := S130.dels [3, 2, 1, 0]; clear S130
   rw [apply_rf h13 h17]
   exact ⟨none, 0, Nat.le_refl 0, rfl, rdo_nil S131⟩
 ·refine vv (yneqT h13) ?_
  refine qk [2, 3, 4, 5, 6, 13] ?_
  refine x_tysr (vv yzB ?_)
  refine vm ?_
  refine sa 0 S11 inf108 ?_; intro w132 S133; clear S11
  refine va ?_
  refine qk [4, 5] ?_
  refine x_teh (pc 0 S133 Try.underlying108 inf108 ?_)
  have S134 : St _ _ _ [] := S133.dels [3, 2, 1, 0]; clear S133
  rw [apply_bf h13]
  exact ⟨none, 0, Nat.le_refl 0, rfl, rdo_nil S134⟩
end Go.Proofs.Ytkjlafpafmihaaa

namespace Go.Proofs.Ytkjlafpafmihaaa
open Go.ChangeShapes Go.WideShapes Go.RowKit

theorem Apply_calls (ro ep fr tg rd : Int) (A : Option Addr) (c : Nat) (l : List Ev) (kd qu e pe : Int) (x : Ev) (hlc : l.length ≤ c) (w : World) (h : Rd w w.heap.size 6 A l.length (evCells l)) (hb : l.length * 48 ≤ reachBytes) :
    Calls Try.prog 98 #[.agg #[.int .i64 ro, .int .i64 ep, .int .i64 fr, .int .i64 tg, .int .i64 rd, .slice A l.length c], .agg #[.int .i64 kd, .int .i64 qu, .int .i64 e, .int .i64 pe, .int .i64 x.kind, .int .i64 x.producer, .int .i64 x.id, .int .i64 x.body, .int .i64 x.hepoch, .int .i64 x.hno]] w (ApplyPost w (applyM ⟨ro, ep, fr, tg, rd, l⟩ ⟨kd, qu, e, pe, x⟩)) := by
  by_cases hk : 1 ≤ kd ∧ kd ≤ 7
  · rcases (by omega : kd = 1 ∨ kd = 2 ∨ kd = 3 ∨ kd = 4 ∨ kd = 5 ∨ kd = 6 ∨ kd = 7) with rfl | rfl | rfl | rfl | rfl | rfl | rfl
    · exact Apply_k1 ro ep fr tg rd A c l qu e pe x hlc w h hb
    · exact Apply_k2 ro ep fr tg rd A c l qu e pe x hlc w h hb
    · exact Apply_k3 ro ep fr tg rd A c l qu e pe x hlc w h hb
    · exact Apply_k4 ro ep fr tg rd A c l qu e pe x hlc w h hb
    · exact Apply_k5 ro ep fr tg rd A c l qu e pe x hlc w h hb
    · exact Apply_k6 ro ep fr tg rd A c l qu e pe x hlc w h hb
    · exact Apply_k7 ro ep fr tg rd A c l qu e pe x hlc w h hb
  · exact Apply_kx ro ep fr tg rd A c l kd qu e pe x hk w h hb
end Go.Proofs.Ytkjlafpafmihaaa

namespace Go.Proofs.Ytkjlafpafmihaaa
open Go.ChangeShapes Go.WideShapes Go.RowKit

section
variable {b : Brt} {r : Rcd} {qu e pe : Int} {x : Ev}
theorem tell_nil0 : (tellM []).2.2 = 0 := by first | rfl | simp [tellM]
theorem bf_new (h : 1 ≤ e) (h1 : e ≤ 1048576) : brtFault ⟨1, e, 0, 0, 0, []⟩ = 0 := bf_ok (by unfold shapeB; dsimp only; omega) tell_nil0
theorem bf_imp (h : 1 ≤ e) (h1 : e ≤ 1048576) (h2 : 0 ≤ pe) (h3 : pe ≤ 4) : brtFault ⟨4, e, pe, 0, 0, []⟩ = 0 := bf_ok (by unfold shapeB; dsimp only; omega) tell_nil0
theorem bf_none (h : 0 ≤ e) (h1 : e ≤ 1048576) : brtFault ⟨0, e, 0, 0, 0, []⟩ = 0 := bf_ok (by unfold shapeB; dsimp only [List.length_nil]; omega) tell_nil0
theorem bf_ep (h : brtFault b = 0) : 0 ≤ b.ep ∧ b.ep ≤ 1048576 := by have := (bf_zero h).1; unfold shapeB at this; omega
theorem apply_of {out : Brt} {ok : Prop} [Decidable ok] (h0 : brtFault b = 0) (h1 : recFault r = 0) (hp : ok → ¬ (r.kind ≠ 3 ∧ r.kind ≠ 4 ∧ r.peer ≠ 0)) (hy : ok → actM b r = (out, 0))
    (hn : ¬ ok → ¬ (r.kind ≠ 3 ∧ r.kind ≠ 4 ∧ r.peer ≠ 0) → ¬ (actM b r).2 = 0) : applyM b r = if ok ∧ b.role ≠ 2 then (out, 0) else (zeroB, 3) := by
  unfold applyM
  rw [if_neg (fun k => k h0), if_neg (fun k => k h1)]
  by_cases hr : b.role = 2
  · rw [if_pos (.inl hr), if_neg (fun k => k.2 hr)]
  · by_cases hpp : r.kind ≠ 3 ∧ r.kind ≠ 4 ∧ r.peer ≠ 0
    · rw [if_pos (.inr hpp), if_neg (fun k => hp k.1 hpp)]
    · rw [if_neg (fun k => k.elim hr hpp)]
      by_cases ho : ok
      · rw [hy ho, if_neg (fun k => k rfl), if_pos ⟨ho, hr⟩]
      · rw [if_pos (hn ho hpp), if_neg (fun k => ho k.1)]
theorem applied_1 (h0 : brtFault b = 0) (h1 : recFault ⟨1, qu, e, pe, x⟩ = 0) : applyM b ⟨1, qu, e, pe, x⟩ = if (pe = 0 ∧ b.role = 0 ∧ b.ep < e ∧ brtFault ⟨1, e, 0, 0, 0, []⟩ = 0) ∧ b.role ≠ 2 then (⟨1, e, 0, 0, 0, []⟩, 0) else (zeroB, 3) := by
  have hz := rec_zero h1
  have hb := bf_ep h0
  dsimp only at hz
  refine apply_of h0 h1 (fun h k => k.2.2 h.1) (fun h => ?_) (fun h k => ?_)
  · rw [act_k1]; unfold makeM; rw [if_neg (fun k => k h0), if_neg (by omega), if_neg (by omega), if_neg (by omega)]
  · have hpe : pe = 0 := by dsimp only at k; omega
    rw [act_k1]; unfold makeM; rw [if_neg (fun k => k h0)]
    split
    · simp
    · split
      · simp
      · split
        · simp
        · exact absurd ⟨hpe, by omega, by omega, bf_new (by omega) (by omega)⟩ h
theorem applied_add {z ro : Int} (hz : z = 2 ∧ ro = 1 ∨ z = 5 ∧ ro = 4) (h0 : brtFault b = 0) (h1 : recFault ⟨z, qu, e, pe, x⟩ = 0) : applyM b ⟨z, qu, e, pe, x⟩ = if (pe = 0 ∧ b.role = ro ∧ b.ep = e ∧ brtFault ⟨b.role, b.ep, b.fr, b.tg, b.rd, b.evs ++ [x]⟩ = 0) ∧ b.role ≠ 2 then (⟨b.role, b.ep, b.fr, b.tg, b.rd, b.evs ++ [x]⟩, 0) else (zeroB, 3) := by
  have ha : actM b ⟨z, qu, e, pe, x⟩ = if ¬ (b.role = ro ∧ b.ep = e) then (zeroB, 3) else addM b x := by rcases hz with ⟨rfl, rfl⟩ | ⟨rfl, rfl⟩; exact act_k2; exact act_k5
  refine apply_of h0 h1 (fun h k => k.2.2 h.1) (fun h => ?_) (fun h k => ?_)
  · rw [ha, if_neg (fun k => k ⟨h.2.1, h.2.2.1⟩)]; unfold addM; rw [if_neg (fun k => k h.2.2.2)]
  · have hpe : pe = 0 := by dsimp only at k; omega
    rw [ha]; unfold addM
    split
    · simp
    · rename_i hf
      split
      · simp
      · rename_i hg
        exact absurd ⟨hpe, (by omega : b.role = ro), (by omega : b.ep = e), Decidable.not_not.1 hg⟩ h
theorem applied_3 (h0 : brtFault b = 0) (h1 : recFault ⟨3, qu, e, pe, x⟩ = 0) : applyM b ⟨3, qu, e, pe, x⟩ = if (b.role = 1 ∧ b.ep = e ∧ brtFault ⟨3, b.ep, b.fr, pe, b.rd, b.evs⟩ = 0) ∧ b.role ≠ 2 then (⟨3, b.ep, b.fr, pe, b.rd, b.evs⟩, 0) else (zeroB, 3) := by
  have hz := rec_zero h1
  dsimp only at hz
  have hs := bf_zero h0
  have hs1 := hs.1
  unfold shapeB at hs1
  refine apply_of h0 h1 (fun _ k => k.1 rfl) (fun h => ?_) (fun h k => ?_)
  · rw [act_k3, if_neg (fun k => k ⟨h.1, h.2.1⟩)]; rfl
  · rw [act_k3]
    split
    · simp
    · rename_i hf
      have hf1 : b.role = 1 ∧ b.ep = e := Decidable.not_not.1 hf
      have hs2 : b.fr = 0 ∧ b.rd = 0 ∧ 1 ≤ b.ep ∧ b.ep ≤ 1048576 := by have := hf1.1; clear hs h0 h1 h k hf; omega
      exact absurd ⟨hf1.1, hf1.2, bf_ok (.inr ⟨hs2.2.2.1, hs2.2.2.2, .inr (.inr (.inl ⟨rfl, hs2.1, hz.2.2.2.2.2.2.1, (by omega : pe < 5), hs2.2.1⟩))⟩) hs.2⟩ h
theorem begin_bf (h0 : brtFault b = 0) (h : (beginM b e pe).2 = 0) : brtFault (beginM b e pe).1 = 0 := by
  revert h
  unfold beginM
  rw [if_neg (fun k => k h0)]
  repeat' split
  all_goals intro h
  all_goals first
    | (exfalso; revert h; simp; done)
    | exact h0
    | exact bf_imp (by omega) (by omega) (by omega) (by omega)
theorem applied_4 {R : Brt × Int} (hR : beginM b e pe = R) (h0 : brtFault b = 0) (h1 : recFault ⟨4, qu, e, pe, x⟩ = 0) : applyM b ⟨4, qu, e, pe, x⟩ = if (R.2 = 0 ∧ brtFault ⟨R.1.role, R.1.ep, R.1.fr, R.1.tg, R.1.rd, R.1.evs⟩ = 0) ∧ b.role ≠ 2 then (⟨R.1.role, R.1.ep, R.1.fr, R.1.tg, R.1.rd, R.1.evs⟩, 0) else (zeroB, 3) := by
  have hb := begin_bf (e := e) (pe := pe) h0
  rw [hR] at hb
  refine apply_of h0 h1 (fun _ k => k.2.1 rfl) (fun h => ?_) (fun h k => ?_)
  · rw [act_k4, hR]; exact Prod.ext rfl h.1
  · rw [act_k4, hR]; exact fun hk => h ⟨hk, hb hk⟩
theorem applied_6 (h0 : brtFault b = 0) (h1 : recFault ⟨6, qu, e, pe, x⟩ = 0) : applyM b ⟨6, qu, e, pe, x⟩ = if (pe = 0 ∧ b.role = 4 ∧ b.ep = e ∧ brtFault ⟨1, b.ep, 0, b.tg, b.rd, b.evs ++ [brkEv]⟩ = 0) ∧ b.role ≠ 2 then (⟨1, b.ep, 0, b.tg, b.rd, b.evs ++ [brkEv]⟩, 0) else (zeroB, 3) := by
  have hs1 := (bf_zero h0).1
  unfold shapeB at hs1
  have hI : b.role = 4 → b.ep = e → importM b e b.evs.length [] true = if brtFault ⟨1, b.ep, 0, b.tg, b.rd, b.evs ++ [brkEv]⟩ ≠ 0 then (zeroB, 3) else (⟨1, b.ep, 0, b.tg, b.rd, b.evs ++ [brkEv]⟩, 0) := fun h4 he => by
    rw [imp_go h0 h4 he (Nat.le_refl _), if_neg (by simp), if_neg (by simp), impNew_t, show b.tg = 0 by omega, show b.rd = 0 by omega, he]
    simp only [List.drop_nil, List.append_nil]
  refine apply_of h0 h1 (fun h k => k.2.2 h.1) (fun h => ?_) (fun h k => ?_)
  · rw [act_k6, if_neg (fun k => k ⟨h.2.1, h.2.2.1⟩), hI h.2.1 h.2.2.1, if_neg (fun k => k h.2.2.2)]
  · have hpe : pe = 0 := by dsimp only at k; omega
    rw [act_k6]
    by_cases hf : b.role = 4 ∧ b.ep = e
    · rw [if_neg (fun k => k hf), hI hf.1 hf.2]
      split
      · simp
      · rename_i hg
        exact absurd ⟨hpe, hf.1, hf.2, Decidable.not_not.1 hg⟩ h
    · rw [if_pos hf]; simp
theorem applied_7 (h0 : brtFault b = 0) (h1 : recFault ⟨7, qu, e, pe, x⟩ = 0) : applyM b ⟨7, qu, e, pe, x⟩ = if (pe = 0 ∧ b.role = 3 ∧ b.ep = e ∧ brtFault ⟨0, b.ep, 0, 0, 0, []⟩ = 0) ∧ b.role ≠ 2 then (⟨0, b.ep, 0, 0, 0, []⟩, 0) else (zeroB, 3) := by
  have hb := bf_ep h0
  refine apply_of h0 h1 (fun h k => k.2.2 h.1) (fun h => ?_) (fun h k => ?_)
  · rw [act_k7, if_neg (fun k => k ⟨h.2.1, h.2.2.1⟩)]; unfold forgetM; rw [if_neg (fun k => k h0), if_neg (by omega), if_neg (by omega)]
  · have hpe : pe = 0 := by dsimp only at k; omega
    rw [act_k7]
    by_cases hf : b.role = 3 ∧ b.ep = e
    · exact absurd ⟨hpe, hf.1, hf.2, bf_none hb.1 hb.2⟩ h
    · rw [if_pos hf]; simp
end
end Go.Proofs.Ytkjlafpafmihaaa

namespace Go.Proofs.Ytkjlafpafmihaaa
open Go.ChangeShapes Go.WideShapes Go.RowKit

set_option maxRecDepth 100000 in
set_option maxHeartbeats 8000000 in
theorem Applied_kx (ro ep fr tg rd : Int) (A : Option Addr) (c : Nat) (l : List Ev) (kd qu e pe : Int) (x : Ev) (hk : ¬ (1 ≤ kd ∧ kd ≤ 7)) (w : World) (h : Rd w w.heap.size 6 A l.length (evCells l)) (hb : l.length * 48 ≤ reachBytes) :
    Calls Try.prog 99 #[.agg #[.int .i64 ro, .int .i64 ep, .int .i64 fr, .int .i64 tg, .int .i64 rd, .slice A l.length c], .agg #[.int .i64 kd, .int .i64 qu, .int .i64 e, .int .i64 pe, .int .i64 x.kind, .int .i64 x.producer, .int .i64 x.id, .int .i64 x.body, .int .i64 x.hepoch, .int .i64 x.hno]] w (BrtPost w (applyM ⟨ro, ep, fr, tg, rd, l⟩ ⟨kd, qu, e, pe, x⟩)) := by
 have S := (St.start w).addRd h; clear h
 have hb2 := hb
 unfold reachBytes at hb2
 refine fnw 175 Try.func99 ?_
 refine cw [0, 1] ?_
 refine x_sr (nb (row := #[.int .i64 ro, .int .i64 ep, .int .i64 fr, .int .i64 tg, .int .i64 rd, .slice A l.length c]) S ?_); intro b1 w2 S3; clear S
 refine nb (row := #[.int .i64 kd, .int .i64 qu, .int .i64 e, .int .i64 pe, .int .i64 x.kind, .int .i64 x.producer, .int .i64 x.id, .int .i64 x.body, .int .i64 x.hepoch, .int .i64 x.hno]) S3 ?_; intro b4 w5 S6; clear S3
 refine naB S6 Try.zeroValue108 ?_; intro b7 w8 S9; clear S6
 refine va ?_
 refine qk [2, 3, 4, 5] ?_
 refine x_tsr (vv (ylr 2 S9 Try.underlying108 inf108) ?_)
 refine cab en78 S9 (BerthFault_calls ro ep fr tg rd A c l _ (St.rd 3 S9 rfl) (by omega)) ?_; intro w10 S11; clear S9
 refine va ?_
 refine qk [2, 3, 4, 5, 6] ?_
 refine x_tssr (vm ?_)
 by_cases h13 : brtFault ⟨ro, ep, fr, tg, rd, l⟩ = 0
 ·have hln := tellM_len (bf_zero h13).2
  dsimp only at hln
  refine vv (yeqlT h13) ?_
  refine qk [2, 3, 4, 5, 6, 15] ?_
  refine wQ_then (wC_cond_t rfl (wC_region (vv (ylr 1 S11 Try.underlying51 inf51) ?_)))
  refine cab en122 S11 (RecordFault_calls ⟨kd, qu, e, pe, x⟩ _) ?_; intro w14 S15; clear S11
  refine va ?_
  refine qk [2, 3, 4, 5, 6] ?_
  refine x_tssr (vm ?_)
  have hne : ¬ recFault ⟨kd, qu, e, pe, x⟩ = 0 := by rw [rec_kind (by exact hk)]; decide
  refine vv (yneqT hne) ?_
  refine qk [2, 3, 4, 5, 6, 19] ?_
  refine x_tysr (vv yzB ?_)
  refine vm ?_
  refine sa 0 S15 inf108 ?_; intro w17 S18; clear S15
  refine va ?_
  refine qk [4, 5] ?_
  refine x_teh (pc 0 S18 Try.underlying108 inf108 ?_)
  have S19 : St _ _ _ [] := S18.dels [3, 2, 1, 0]; clear S18
  rw [apply_rf h13 hne]
  exact ⟨none, 0, rfl, rdo_nil S19⟩
 ·refine vv (yeqlF h13) ?_
  refine qk [2, 3, 4, 5, 6, 15] ?_
  refine x_tnktssr (vm ?_)
  refine vv (yneqT h13) ?_
  refine qk [2, 3, 4, 5, 6, 19] ?_
  refine x_tysr (vv yzB ?_)
  refine vm ?_
  refine sa 0 S11 inf108 ?_; intro w20 S21; clear S11
  refine va ?_
  refine qk [4, 5] ?_
  refine x_teh (pc 0 S21 Try.underlying108 inf108 ?_)
  have S22 : St _ _ _ [] := S21.dels [3, 2, 1, 0]; clear S21
  rw [apply_bf h13]
  exact ⟨none, 0, rfl, rdo_nil S22⟩
end Go.Proofs.Ytkjlafpafmihaaa

