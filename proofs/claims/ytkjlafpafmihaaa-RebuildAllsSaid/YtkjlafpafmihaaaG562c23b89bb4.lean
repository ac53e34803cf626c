/- Parts of proofs: lemmas on memory, on single functions and on the plain models; no condition of their own. -/
import Derived.Test.YtkjlafpafmihaaaRows
import Derived.WalkKit
import Derived.ProofKit
import Derived.OpenShut
import Derived.SizedLaws
import Derived.WalkSpells
import Derived.WalkLawsBesides
import Derived.Handy
import Derived.Deep.QuietTactic
import Derived.BigQuiet
import Derived.Lib.Hide
import Derived.Maps.AppendAt
import Derived.Deep.AppendLies
import Derived.RegionTactic
import Derived.OwnWalk
import Derived.Laws.Tables
import Derived.Deep.MidRow
import Derived.StillTailTactics
import Derived.OrdersHeld
import Derived.Deep.RegionHeld3
import Derived.Laws.IdiomCopy
import Derived.ChangeKeysEq
import Derived.Laws.BitsAllLaws
import Derived.Deep.DeepCutAuto
import Derived.Deep.CutRange
import Derived.Shelf.SlSortCmp.WholeK
import Derived.Shelf.SlSortCmp.NoneTotal
import Derived.Shelf.SlicesG.Cmp
import Derived.Shelf.SlGeneric
import Derived.Ground.SlsfProg
import Derived.Ground.SlgcProg
import Derived.Maps.OwnSet
import Derived.Lib.SliceRun
import Derived.Deep.RegionLaw
import Derived.Test.YtkjlafpafmihaaaG0ec45aec84f4
import Derived.Test.YtkjlafpafmihaaaG1c5a0f9cb335
import Derived.Test.YtkjlafpafmihaaaG245893649605
import Derived.Test.YtkjlafpafmihaaaG411632d36699
import Derived.Test.YtkjlafpafmihaaaG48f6c12ab48d
import Derived.Test.YtkjlafpafmihaaaG497b255c2441
import Derived.Test.YtkjlafpafmihaaaG4e172fb27d17
import Derived.Test.YtkjlafpafmihaaaG4eaabf97d977
import Derived.Test.YtkjlafpafmihaaaG570539d87647
import Derived.Test.YtkjlafpafmihaaaG76ddf6bdedad
import Derived.Test.YtkjlafpafmihaaaG7ff4c8feaa3c
import Derived.Test.YtkjlafpafmihaaaG809794e4b789
import Derived.Test.YtkjlafpafmihaaaG924ec51911fe
import Derived.Test.YtkjlafpafmihaaaGc8683f30ddc5
import Derived.Test.YtkjlafpafmihaaaGc89f12b5a777
import Derived.Test.YtkjlafpafmihaaaGf03ab8b1ffd4
import Derived.Test.YtkjlafpafmihaaaGf428e9c8a46a
import Derived.Test.YtkjlafpafmihaaaGfa570c25a005
set_option linter.unusedVariables false
set_option linter.unusedSimpArgs false

namespace Go.Proofs.Ytkjlafpafmihaaa
open Go.ChangeShapes Go.WideShapes Go.RowKit

theorem Check_below (e : Ev) (w : World) : Calls Try.prog 142 #[e.val] w (IPost w (evFault e)) := (Check_calls e w).mono fun _ _ h => ⟨h.1, h.2⟩
theorem rdo_nil2 {B : Nat} {w0 w : World} (S : St B w0 w []) : St B w0 w [.rdo 2 none 0 [], .rdo 4 none 0 []] :=
  (rdo_nil S).cons ⟨Rd.none_, fun a h => by cases h⟩ fun k hk => by cases hk

set_option maxRecDepth 100000 in
set_option maxHeartbeats 4000000 in
theorem Do_calls (ep nx gv kd pr id bd he hn : Int) (A1 A2 : Option Addr) (c1 c2 : Nat) (rs : List Msg) (ls : List Ls) (W : Wins) (w : World) (h1 : Rd w w.heap.size 2 A1 rs.length (rs.flatMap Msg.cells)) (h2 : Rd w w.heap.size 4 A2 ls.length (ls.flatMap Ls.cells)) (hb1 : rs.length * 16 ≤ reachBytes) (hb2 : ls.length * 32 ≤ reachBytes) :
    Calls Try.prog 66 #[.agg (qRow ep nx gv (.slice A1 rs.length c1) (.slice A2 ls.length c2) W), .agg #[.int .i64 kd, .int .i64 pr, .int .i64 id, .int .i64 bd, .int .i64 he, .int .i64 hn]] w (QdoPost w (doM ⟨ep, nx, gv, rs, ls, W⟩ ⟨kd, pr, id, bd, he, hn⟩)) := by
 have S := ((St.start w).addRd h2).addRd h1; clear h1 h2
 refine fnw 70 Try.func66 ?_
 refine cw [0, 1] ?_
 refine x_sr (nb (row := qRow ep nx gv (.slice A1 rs.length c1) (.slice A2 ls.length c2) W) S ?_); intro b1 w2 S3; clear S
 refine nb (row := #[.int .i64 kd, .int .i64 pr, .int .i64 id, .int .i64 bd, .int .i64 he, .int .i64 hn]) S3 ?_; intro b4 w5 S6; clear S3
 refine na (row := qRow 0 0 0 (.slice none 0 0) (.slice none 0 0) zeroWs) S6 Try.zeroValue29 ?_; intro b7 w8 S9; clear S6
 refine na (row := #[.int .i64 0, .int .i64 0, .int .i64 0, .int .i64 0]) S9 Try.zeroValue93 ?_; intro b10 w11 S12; clear S9
 iterate 2 refine va ?_
 refine qk [2, 3, 4, 5, 6, 7] ?_
 refine x_tssr (vv (ylr 3 S12 Try.underlying29 inf29) ?_)
 refine cab en30 S12 (QCheck_calls ep nx gv A1 A2 c1 c2 rs ls W _ (St.rd 4 S12 rfl) (St.rd 5 S12 rfl) hb1 hb2) ?_; intro w13 S14; clear S12
 refine va ?_
 refine qk [2, 3, 4, 5, 6, 7, 8] ?_
 refine x_tsr (vm ?_)
 by_cases h0 : queueFault ep nx gv rs ls W = 0
 ·obtain ⟨hR, hW, hRd, hLs, hNd⟩ := qf_zero h0
  unfold rngQ at hR
  refine vv (yneqF h0) ?_
  refine qk [2, 3, 4, 5, 6, 7, 8, 17] ?_
  refine x_tnktssr (vv (ylr 2 S14 Try.underlying37 inf37) ?_)
  refine cab en142 S14 (Check_below ⟨kd, pr, id, bd, he, hn⟩ _) ?_; intro w16 S17; clear S14
  refine va ?_
  refine qk [2, 3, 4, 5, 6, 7, 9] ?_
  refine x_tsr (vm ?_)
  by_cases h1 : evFault ⟨kd, pr, id, bd, he, hn⟩ = 0
  ·have hkd := ev_kind h1
   have hpr := ev_prod h1
   simp only at hkd hpr
   obtain ⟨k, hk0⟩ : ∃ k : Nat, pr = (k : Int) := ⟨pr.toNat, by omega⟩
   subst hk0
   have hk : k < 4 := by omega
   refine vv (yneqF h1) ?_
   refine qk [2, 3, 4, 5, 6, 7, 9, 24] ?_
   refine x_tnktsr (vv (ylr 3 S17 Try.underlying29 inf29) ?_)
   refine vv (v := .agg (qRow ep nx gv (.slice A1 rs.length c1) (.slice A2 ls.length c2) W)) (y_build (vs := [(0, .agg (qRow ep nx gv (.slice A1 rs.length c1) (.slice A2 ls.length c2) W))]) rfl ⟨rfl, rfl, trivial⟩ (by kernel_rfl)) ?_
   refine nb (row := qRow ep nx gv (.slice A1 rs.length c1) (.slice A2 ls.length c2) W) S17 ?_; intro b19 w20 S21; clear S17
   refine va ?_
   refine qk [2, 3, 4, 5, 6, 7, 10] ?_
   refine wQ_then (wC_seq ?_)
   have S22 := S21.drew; clear S21
   refine wC_any_ (C := fun w' => St w.heap.size w w' [.blk b10 #[.int .i64 0, .int .i64 0, .int .i64 0, .int .i64 0] 93, .blk b7 (qRow 0 0 0 (.slice none 0 0) (.slice none 0 0) zeroWs) 29, .blk b4 #[.int .i64 kd, .int .i64 ((k : Nat) : Int), .int .i64 id, .int .i64 bd, .int .i64 he, .int .i64 hn] 37, .blk b1 (qRow ep nx gv (.slice A1 rs.length c1) (.slice A2 ls.length c2) W) 29, .rd 2 A1 rs.length ((rs).flatMap Msg.cells), .rd 4 A2 ls.length ((ls).flatMap Ls.cells)]) (n := 16) (listed := #[false, false, false, false, false, false, false, false, false, false, false, false, false, false, false, false]) mixed rfl rfl ?_
   refine ak (v := .pointer (some ⟨b19, 0, none⟩)) 0 rfl (St.del 0 S22) (fun _ _ => ym) ?_
   refine ak (v := .pointer (some ⟨b19, 0, none⟩)) 1 rfl (St.del 0 S22) (fun _ _ => ym) ?_
   refine ak (v := .pointer (some ⟨b1, 3, none⟩)) 2 rfl (St.del 0 S22) (fun _ _ => yfa _ fa29_3) ?_
   refine ak (v := .slice A1 rs.length c1) 3 rfl (St.del 0 S22) (fun _ Sx26 => (y_load rfl rfl (r_load Try.underlying22 rfl (St.cl 3 Sx26 rfl qRow_g3)))) ?_
   refine ak (v := .pointer (some ⟨b1, 4, none⟩)) 5 rfl (St.del 0 S22) (fun _ _ => yfa _ fa29_4) ?_
   refine ak (v := .slice A2 ls.length c2) 6 rfl (St.del 0 S22) (fun _ Sx28 => (y_load rfl rfl (r_load Try.underlying23 rfl (St.cl 3 Sx28 rfl qRow_g4)))) ?_
   refine aq1 4 ?_
   refine caln 4 rfl en143 (CloneM_calls A1 rs.length c1 _ _ (St.rd 5 S22 rfl) (msgs_one rs) hb1) ?_
   rintro _ w33 ⟨A29, c30, rfl, hb31, ho32⟩
   refine ⟨_, rfl, ?_⟩
   have S34 := S22.onOwn hb31 ho32; clear hb31 ho32 S22
   change St _ _ _ [.own 137 2 (.slice A29 rs.length c30) rs.length ((rs).flatMap Msg.cells), _, _, _, _, _, _, _] at S34
   refine ⟨(S34.dels [1, 0]), ?_⟩
   refine aq1 7 ?_
   refine caln 7 rfl en144 (CloneL_calls A2 ls.length c2 _ _ (St.rd 7 S34 rfl) (lss_one ls) hb2) ?_
   rintro _ w39 ⟨A35, c36, rfl, hb37, ho38⟩
   refine ⟨_, rfl, ?_⟩
   have S40 := S34.onOwn hb37 ho38; clear hb37 ho38 S34
   change St _ _ _ [.own 141 4 (.slice A35 ls.length c36) ls.length ((ls).flatMap Ls.cells), _, _, _, _, _, _, _, _] at S40
   refine ⟨(S40.dels [2, 1, 0]), ?_⟩
   refine ak (v := .pointer (some ⟨b19, 0, none⟩)) 8 rfl (S40.dels [2, 1, 0]) (fun _ _ => y_nil rfl rfl trivial) ?_
   refine ak (v := .pointer (some ⟨b19, 0, none⟩)) 9 rfl (S40.dels [2, 1, 0]) (fun _ _ => yfa _ fa190_0) ?_
   refine ak (v := .pointer (some ⟨b19, 3, none⟩)) 10 rfl (S40.dels [2, 1, 0]) (fun _ _ => yfa _ fa29_3) ?_
   refine aq1 11 ?_
   refine wN_st (i := 11) rfl rfl (cs := #[.slice A29 rs.length c30]) (row' := qRow ep nx gv (.slice A29 rs.length c30) (.slice A2 ls.length c2) W) (fs' := [_, _, .blk b19 (qRow ep nx gv (.slice A29 rs.length c30) (.slice A2 ls.length c2) W) 190, _, _, _, _, _, _]) 2 S40 (wn rfl) rfl rfl rfl rfl rfl rfl inf22 rfl (oneAll rfl) (Nat.le_of_ble_eq_true rfl) qRow_s3 rfl ?_; intro w44 S45; clear S40
   refine ⟨(S45.dels [2, 1, 0]), ?_⟩
   refine ak (v := .pointer (some ⟨b19, 0, none⟩)) 12 rfl (S45.dels [2, 1, 0]) (fun _ _ => y_nil rfl rfl trivial) ?_
   refine ak (v := .pointer (some ⟨b19, 0, none⟩)) 13 rfl (S45.dels [2, 1, 0]) (fun _ _ => yfa _ fa190_0) ?_
   refine ak (v := .pointer (some ⟨b19, 4, none⟩)) 14 rfl (S45.dels [2, 1, 0]) (fun _ _ => yfa _ fa29_4) ?_
   refine aq1 15 ?_
   refine wN_st (i := 15) rfl rfl (cs := #[.slice A35 ls.length c36]) (row' := qRow ep nx gv (.slice A29 rs.length c30) (.slice A35 ls.length c36) W) (fs' := [_, _, .blk b19 (qRow ep nx gv (.slice A29 rs.length c30) (.slice A35 ls.length c36) W) 190, _, _, _, _, _, _]) 2 S45 (wn rfl) rfl rfl rfl rfl rfl rfl inf23 rfl (oneAll rfl) (Nat.le_of_ble_eq_true rfl) qRow_s4 rfl ?_; intro w49 S50; clear S45
   refine ⟨(S50.dels [2, 1, 0]), ?_⟩
   refine wA_done (by kernel_rfl) ?_
   refine pk [3, 4, 5, 6, 7, 10] ?_
   refine x_tsr (wL_makeF (k := 3) S50 (wn rfl) rfl rfl rfl ?_); intro b51 w52 S53; clear S50
   refine vm ?_
   refine vv (v := .func (.func 145) #[.pointer (some ⟨b19, 0, none⟩)] #[]) (y_makeFunc (vs := [.pointer (some ⟨b19, 0, none⟩)]) (us := []) rfl ⟨rfl, trivial⟩ trivial) ?_
   refine wL_insF (e := 193) 0 S53 (wn rfl) rfl rfl rfl rfl rfl rfl Try.underlying3 Try.underlying194 (by decide) (by decide) ?_; intro w54 S55; clear S53
   change St _ _ _ [.loc b51 (FMap Try.prog 3 (fun y => if y = 1 then some (.func (.func 145) #[.pointer (some ⟨b19, 0, none⟩)] #[]) else (fun _ => none) y) 1), .own 141 4 (.slice A35 ls.length c36) ls.length ((ls).flatMap Ls.cells), .own 137 2 (.slice A29 rs.length c30) rs.length ((rs).flatMap Msg.cells), .blk b19 (qRow ep nx gv (.slice A29 rs.length c30) (.slice A35 ls.length c36) W) 190, .blk b10 #[.int .i64 0, .int .i64 0, .int .i64 0, .int .i64 0] 93, .blk b7 (qRow 0 0 0 (.slice none 0 0) (.slice none 0 0) zeroWs) 29, .blk b4 #[.int .i64 kd, .int .i64 ((k : Nat) : Int), .int .i64 id, .int .i64 bd, .int .i64 he, .int .i64 hn] 37, .blk b1 (qRow ep nx gv (.slice A1 rs.length c1) (.slice A2 ls.length c2) W) 29, .rd 2 A1 rs.length ((rs).flatMap Msg.cells), .rd 4 A2 ls.length ((ls).flatMap Ls.cells)] at S55
   refine vm ?_
   refine vv (v := .func (.func 146) #[.pointer (some ⟨b19, 0, none⟩)] #[]) (y_makeFunc (vs := [.pointer (some ⟨b19, 0, none⟩)]) (us := []) rfl ⟨rfl, trivial⟩ trivial) ?_
   refine wL_insF (e := 193) 0 S55 (wn rfl) rfl rfl rfl rfl rfl rfl Try.underlying3 Try.underlying194 (by decide) (by decide) ?_; intro w56 S57; clear S55
   change St _ _ _ [.loc b51 (FMap Try.prog 3 (fun y => if y = 2 then some (.func (.func 146) #[.pointer (some ⟨b19, 0, none⟩)] #[]) else (fun y => if y = 1 then some (.func (.func 145) #[.pointer (some ⟨b19, 0, none⟩)] #[]) else (fun _ => none) y) y) 2), .own 141 4 (.slice A35 ls.length c36) ls.length ((ls).flatMap Ls.cells), .own 137 2 (.slice A29 rs.length c30) rs.length ((rs).flatMap Msg.cells), .blk b19 (qRow ep nx gv (.slice A29 rs.length c30) (.slice A35 ls.length c36) W) 190, .blk b10 #[.int .i64 0, .int .i64 0, .int .i64 0, .int .i64 0] 93, .blk b7 (qRow 0 0 0 (.slice none 0 0) (.slice none 0 0) zeroWs) 29, .blk b4 #[.int .i64 kd, .int .i64 ((k : Nat) : Int), .int .i64 id, .int .i64 bd, .int .i64 he, .int .i64 hn] 37, .blk b1 (qRow ep nx gv (.slice A1 rs.length c1) (.slice A2 ls.length c2) W) 29, .rd 2 A1 rs.length ((rs).flatMap Msg.cells), .rd 4 A2 ls.length ((ls).flatMap Ls.cells)] at S57
   refine vm ?_
   refine vv (v := .func (.func 147) #[.pointer (some ⟨b19, 0, none⟩)] #[]) (y_makeFunc (vs := [.pointer (some ⟨b19, 0, none⟩)]) (us := []) rfl ⟨rfl, trivial⟩ trivial) ?_
   refine wL_insF (e := 193) 0 S57 (wn rfl) rfl rfl rfl rfl rfl rfl Try.underlying3 Try.underlying194 (by decide) (by decide) ?_; intro w58 S59; clear S57
   change St _ _ _ [.loc b51 (FMap Try.prog 3 (fun y => if y = 3 then some (.func (.func 147) #[.pointer (some ⟨b19, 0, none⟩)] #[]) else (fun y => if y = 2 then some (.func (.func 146) #[.pointer (some ⟨b19, 0, none⟩)] #[]) else (fun y => if y = 1 then some (.func (.func 145) #[.pointer (some ⟨b19, 0, none⟩)] #[]) else (fun _ => none) y) y) y) 3), .own 141 4 (.slice A35 ls.length c36) ls.length ((ls).flatMap Ls.cells), .own 137 2 (.slice A29 rs.length c30) rs.length ((rs).flatMap Msg.cells), .blk b19 (qRow ep nx gv (.slice A29 rs.length c30) (.slice A35 ls.length c36) W) 190, .blk b10 #[.int .i64 0, .int .i64 0, .int .i64 0, .int .i64 0] 93, .blk b7 (qRow 0 0 0 (.slice none 0 0) (.slice none 0 0) zeroWs) 29, .blk b4 #[.int .i64 kd, .int .i64 ((k : Nat) : Int), .int .i64 id, .int .i64 bd, .int .i64 he, .int .i64 hn] 37, .blk b1 (qRow ep nx gv (.slice A1 rs.length c1) (.slice A2 ls.length c2) W) 29, .rd 2 A1 rs.length ((rs).flatMap Msg.cells), .rd 4 A2 ls.length ((ls).flatMap Ls.cells)] at S59
   refine vm ?_
   refine vv (v := .func (.func 148) #[.pointer (some ⟨b19, 0, none⟩)] #[]) (y_makeFunc (vs := [.pointer (some ⟨b19, 0, none⟩)]) (us := []) rfl ⟨rfl, trivial⟩ trivial) ?_
   refine wL_insF (e := 193) 0 S59 (wn rfl) rfl rfl rfl rfl rfl rfl Try.underlying3 Try.underlying194 (by decide) (by decide) ?_; intro w60 S61; clear S59
   change St _ _ _ [.loc b51 (FMap Try.prog 3 (fun y => if y = 4 then some (.func (.func 148) #[.pointer (some ⟨b19, 0, none⟩)] #[]) else (fun y => if y = 3 then some (.func (.func 147) #[.pointer (some ⟨b19, 0, none⟩)] #[]) else (fun y => if y = 2 then some (.func (.func 146) #[.pointer (some ⟨b19, 0, none⟩)] #[]) else (fun y => if y = 1 then some (.func (.func 145) #[.pointer (some ⟨b19, 0, none⟩)] #[]) else (fun _ => none) y) y) y) y) 4), .own 141 4 (.slice A35 ls.length c36) ls.length ((ls).flatMap Ls.cells), .own 137 2 (.slice A29 rs.length c30) rs.length ((rs).flatMap Msg.cells), .blk b19 (qRow ep nx gv (.slice A29 rs.length c30) (.slice A35 ls.length c36) W) 190, .blk b10 #[.int .i64 0, .int .i64 0, .int .i64 0, .int .i64 0] 93, .blk b7 (qRow 0 0 0 (.slice none 0 0) (.slice none 0 0) zeroWs) 29, .blk b4 #[.int .i64 kd, .int .i64 ((k : Nat) : Int), .int .i64 id, .int .i64 bd, .int .i64 he, .int .i64 hn] 37, .blk b1 (qRow ep nx gv (.slice A1 rs.length c1) (.slice A2 ls.length c2) W) 29, .rd 2 A1 rs.length ((rs).flatMap Msg.cells), .rd 4 A2 ls.length ((ls).flatMap Ls.cells)] at S61
   refine vm ?_
   refine vv (yfa 0 fa37_0) ?_
   refine vv (ylc 6 S61 Try.underlying3) ?_
   rcases (by omega : kd = 1 ∨ kd = 2 ∨ kd = 3 ∨ kd = 4) with rfl | rfl | rfl | rfl
   ·refine vv (v := .func (.func 145) #[.pointer (some ⟨b19, 0, none⟩)] #[]) (y_lookF 0 S61 rfl rfl rfl rfl Try.underlying3 Try.underlying194 (Try.zeroValue193 _) (by decide) rfl) ?_
    refine va ?_
    refine qk [3, 4, 5, 6, 7, 10, 11] ?_
    refine x_tsr (vm ?_)
    refine vv (ylr 6 S61 Try.underlying37 inf37) ?_
    have S62 : St w.heap.size w w60 [.blk b19 (qRow ep nx gv (.slice A29 rs.length c30) (.slice A35 ls.length c36) W) 190, .own 137 2 (.slice A29 rs.length c30) rs.length ((rs).flatMap Msg.cells), .own 141 4 (.slice A35 ls.length c36) ls.length ((ls).flatMap Ls.cells), .loc b51 (FMap Try.prog 3 (fun y => if y = 4 then some (.func (.func 148) #[.pointer (some ⟨b19, 0, none⟩)] #[]) else (fun y => if y = 3 then some (.func (.func 147) #[.pointer (some ⟨b19, 0, none⟩)] #[]) else (fun y => if y = 2 then some (.func (.func 146) #[.pointer (some ⟨b19, 0, none⟩)] #[]) else (fun y => if y = 1 then some (.func (.func 145) #[.pointer (some ⟨b19, 0, none⟩)] #[]) else (fun _ => none) y) y) y) y) 4), .blk b10 #[.int .i64 0, .int .i64 0, .int .i64 0, .int .i64 0] 93, .blk b7 (qRow 0 0 0 (.slice none 0 0) (.slice none 0 0) zeroWs) 29, .blk b4 #[.int .i64 1, .int .i64 ((k : Nat) : Int), .int .i64 id, .int .i64 bd, .int .i64 he, .int .i64 hn] 37, .blk b1 (qRow ep nx gv (.slice A1 rs.length c1) (.slice A2 ls.length c2) W) 29, .rd 2 A1 rs.length ((rs).flatMap Msg.cells), .rd 4 A2 ls.length ((ls).flatMap Ls.cells)] := S61.re [3, 2, 1, 0, 4, 5, 6, 7, 8, 9] (by decide); clear S61
    have HC := publish_calls (kd := 1) (k := k) (id := id) (bd := bd) (he := he) (hn := hn) S62 hk (by omega) (by omega) (by omega) (by omega)
    rw [← show stepM ⟨ep, nx, gv, rs, ls, W⟩ ⟨1, ((k : Nat) : Int), id, bd, he, hn⟩ = pubM ⟨ep, nx, gv, rs, ls, W⟩ k id bd from by simp [stepM]] at HC
    obtain ⟨R, hRM⟩ : ∃ R, stepM ⟨ep, nx, gv, rs, ls, W⟩ ⟨1, ((k : Nat) : Int), id, bd, he, hn⟩ = R := ⟨_, rfl⟩
    rw [hRM] at HC
    refine wL_call (vs := [.pointer (some ⟨b19, 0, none⟩), .agg #[.int .i64 1, .int .i64 ((k : Nat) : Int), .int .i64 id, .int .i64 bd, .int .i64 he, .int .i64 hn]]) (wn rfl) rfl rfl (e_callv (first := [.pointer (some ⟨b19, 0, none⟩)]) (cap := []) (vs := [.agg #[.int .i64 1, .int .i64 ((k : Nat) : Int), .int .i64 id, .int .i64 bd, .int .i64 he, .int .i64 hn]]) rfl rfl en145 ⟨rfl, trivial⟩ rfl) (HC) ?_
    rintro _ w67 ⟨rfl, A63, c64, A65, c66, S68⟩
    refine ⟨_, rfl, ?_⟩; clear HC S62
    change St _ _ _ [.blk b19 (qRow R.1.ep R.1.nx R.1.gv (.slice A63 R.1.ready.length c64) (.slice A65 R.1.leases.length c66) R.1.ws) 190, .rdo 2 A63 R.1.ready.length ((R.1.ready).flatMap Msg.cells), .rdo 4 A65 R.1.leases.length ((R.1.leases).flatMap Ls.cells), .loc b51 (FMap Try.prog 3 (fun y => if y = 4 then some (.func (.func 148) #[.pointer (some ⟨b19, 0, none⟩)] #[]) else (fun y => if y = 3 then some (.func (.func 147) #[.pointer (some ⟨b19, 0, none⟩)] #[]) else (fun y => if y = 2 then some (.func (.func 146) #[.pointer (some ⟨b19, 0, none⟩)] #[]) else (fun y => if y = 1 then some (.func (.func 145) #[.pointer (some ⟨b19, 0, none⟩)] #[]) else (fun _ => none) y) y) y) y) 4), .blk b10 #[.int .i64 0, .int .i64 0, .int .i64 0, .int .i64 0] 93, .blk b7 (qRow 0 0 0 (.slice none 0 0) (.slice none 0 0) zeroWs) 29, .blk b4 #[.int .i64 1, .int .i64 ((k : Nat) : Int), .int .i64 id, .int .i64 bd, .int .i64 he, .int .i64 hn] 37, .blk b1 (qRow ep nx gv (.slice A1 rs.length c1) (.slice A2 ls.length c2) W) 29, .rd 2 A1 rs.length ((rs).flatMap Msg.cells), .rd 4 A2 ls.length ((ls).flatMap Ls.cells)] at S68
    refine vm ?_
    refine vv yx ?_
    refine vv yx ?_
    refine na (row := #[.int .i64 0, .int .i64 0, .int .i64 0, .int .i64 0]) S68 Try.zeroValue93 ?_; intro b69 w70 S71; clear S68
    refine sa 0 S71 inf93 ?_; intro w72 S73; clear S71
    refine va ?_
    refine qk [4, 5, 6, 7, 10, 12, 13] ?_
    refine wQ_then (wC_seq ?_)
    have S74 := S73.drew; clear S73
    refine wC_any_ (C := fun w' => St w.heap.size w w' [.blk b69 #[.int .i64 R.2.1.code, .int .i64 R.2.1.hep, .int .i64 R.2.1.hno, .int .i64 R.2.1.body] 93, .blk b19 (qRow R.1.ep R.1.nx R.1.gv (.slice A63 R.1.ready.length c64) (.slice A65 R.1.leases.length c66) R.1.ws) 190, .rdo 2 A63 R.1.ready.length ((R.1.ready).flatMap Msg.cells), .rdo 4 A65 R.1.leases.length ((R.1.leases).flatMap Ls.cells), .loc b51 (FMap Try.prog 3 (fun y => if y = 4 then some (.func (.func 148) #[.pointer (some ⟨b19, 0, none⟩)] #[]) else (fun y => if y = 3 then some (.func (.func 147) #[.pointer (some ⟨b19, 0, none⟩)] #[]) else (fun y => if y = 2 then some (.func (.func 146) #[.pointer (some ⟨b19, 0, none⟩)] #[]) else (fun y => if y = 1 then some (.func (.func 145) #[.pointer (some ⟨b19, 0, none⟩)] #[]) else (fun _ => none) y) y) y) y) 4), .blk b4 #[.int .i64 1, .int .i64 ((k : Nat) : Int), .int .i64 id, .int .i64 bd, .int .i64 he, .int .i64 hn] 37, .blk b1 (qRow ep nx gv (.slice A1 rs.length c1) (.slice A2 ls.length c2) W) 29, .rd 2 A1 rs.length ((rs).flatMap Msg.cells), .rd 4 A2 ls.length ((ls).flatMap Ls.cells)]) (n := 10) (listed := #[false, false, false, false, false, false, false, false, false, false]) mixed rfl rfl ?_
    refine ak (v := .pointer (some ⟨b19, 0, none⟩)) 0 rfl (S74.dels [6, 5]) (fun _ _ => ym) ?_
    refine ak (v := .pointer (some ⟨b19, 0, none⟩)) 1 rfl (S74.dels [6, 5]) (fun _ _ => y_nil rfl rfl trivial) ?_
    refine ak (v := .pointer (some ⟨b19, 0, none⟩)) 2 rfl (S74.dels [6, 5]) (fun _ _ => yfa _ fa190_0) ?_
    refine ak (v := .agg (qRow R.1.ep R.1.nx R.1.gv (.slice A63 R.1.ready.length c64) (.slice A65 R.1.leases.length c66) R.1.ws)) 3 rfl (S74.dels [6, 5]) (fun _ Sx78 => ylr 1 Sx78 Try.underlying29 inf29) ?_
    refine ak (v := .agg #[.int .i64 R.2.1.code, .int .i64 R.2.1.hep, .int .i64 R.2.1.hno, .int .i64 R.2.1.body]) 4 rfl (S74.dels [6, 5]) (fun _ Sx79 => ylr 0 Sx79 Try.underlying93 inf93) ?_
    refine ak (v := .bool R.2.2) 5 rfl (S74.dels [6, 5]) (fun _ _ => ym) ?_
    refine aq1 6 ?_
    refine snq 6 rfl 6 S74 inf29 ?_; intro w81 S82; clear S74
    refine ⟨(S82.dels [6, 5]), ?_⟩
    refine aq1 7 ?_
    refine sn 7 rfl 5 S82 inf93 ?_; intro w83 S84; clear S82
    refine ⟨(S84.dels [6, 5]), ?_⟩
    refine ak (v := .bool R.2.2) 8 rfl (S84.dels [6, 5]) (fun _ _ => ya) ?_
    refine ak (v := .int .i64 0) 9 rfl (S84.dels [6, 5]) (fun _ _ => ya) ?_
    refine wA_done (by kernel_rfl) ?_
    refine pk [4, 5, 6, 7] ?_
    refine x_te (wQ_post (rs := [.cell 4 29, .cell 5 93, .tmp 6, .tmp 7]) (vs := [.agg (qRow R.1.ep R.1.nx R.1.gv (.slice A63 R.1.ready.length c64) (.slice A65 R.1.leases.length c66) R.1.ws), .agg #[.int .i64 R.2.1.code, .int .i64 R.2.1.hep, .int .i64 R.2.1.hno, .int .i64 R.2.1.body], .bool R.2.2, .int .i64 0]) rfl ⟨⟨_, rfl, res_row 6 S84 rfl Try.underlying29 rfl inf29⟩, ⟨_, rfl, res_row 5 S84 rfl Try.underlying93 rfl inf93⟩, rfl, rfl, trivial⟩ ?_)
    have S87 : St _ _ _ [_, _] := S84.dels [10, 9, 8, 7, 6, 5, 4, 1, 0]; clear S84
    rw [do_ok (Q := ⟨ep, nx, gv, rs, ls, W⟩) h0 h1, hRM]
    exact ⟨A63, c64, A65, c66, rfl, S87⟩
   ·refine vv (v := .func (.func 146) #[.pointer (some ⟨b19, 0, none⟩)] #[]) (y_lookF 0 S61 rfl rfl rfl rfl Try.underlying3 Try.underlying194 (Try.zeroValue193 _) (by decide) rfl) ?_
    refine va ?_
    refine qk [3, 4, 5, 6, 7, 10, 11] ?_
    refine x_tsr (vm ?_)
    refine vv (ylr 6 S61 Try.underlying37 inf37) ?_
    have S88 : St w.heap.size w w60 [.blk b19 (qRow ep nx gv (.slice A29 rs.length c30) (.slice A35 ls.length c36) W) 190, .own 137 2 (.slice A29 rs.length c30) rs.length ((rs).flatMap Msg.cells), .own 141 4 (.slice A35 ls.length c36) ls.length ((ls).flatMap Ls.cells), .loc b51 (FMap Try.prog 3 (fun y => if y = 4 then some (.func (.func 148) #[.pointer (some ⟨b19, 0, none⟩)] #[]) else (fun y => if y = 3 then some (.func (.func 147) #[.pointer (some ⟨b19, 0, none⟩)] #[]) else (fun y => if y = 2 then some (.func (.func 146) #[.pointer (some ⟨b19, 0, none⟩)] #[]) else (fun y => if y = 1 then some (.func (.func 145) #[.pointer (some ⟨b19, 0, none⟩)] #[]) else (fun _ => none) y) y) y) y) 4), .blk b10 #[.int .i64 0, .int .i64 0, .int .i64 0, .int .i64 0] 93, .blk b7 (qRow 0 0 0 (.slice none 0 0) (.slice none 0 0) zeroWs) 29, .blk b4 #[.int .i64 2, .int .i64 ((k : Nat) : Int), .int .i64 id, .int .i64 bd, .int .i64 he, .int .i64 hn] 37, .blk b1 (qRow ep nx gv (.slice A1 rs.length c1) (.slice A2 ls.length c2) W) 29, .rd 2 A1 rs.length ((rs).flatMap Msg.cells), .rd 4 A2 ls.length ((ls).flatMap Ls.cells)] := S61.re [3, 2, 1, 0, 4, 5, 6, 7, 8, 9] (by decide); clear S61
    have HC := receive_calls (kd := 2) (k := k) (id := id) (bd := bd) (he := he) (hn := hn) S88 hk (by omega) (by omega) (by omega) (by omega)
    rw [← show stepM ⟨ep, nx, gv, rs, ls, W⟩ ⟨2, ((k : Nat) : Int), id, bd, he, hn⟩ = recM ⟨ep, nx, gv, rs, ls, W⟩ from by simp [stepM]] at HC
    obtain ⟨R, hRM⟩ : ∃ R, stepM ⟨ep, nx, gv, rs, ls, W⟩ ⟨2, ((k : Nat) : Int), id, bd, he, hn⟩ = R := ⟨_, rfl⟩
    rw [hRM] at HC
    refine wL_call (vs := [.pointer (some ⟨b19, 0, none⟩), .agg #[.int .i64 2, .int .i64 ((k : Nat) : Int), .int .i64 id, .int .i64 bd, .int .i64 he, .int .i64 hn]]) (wn rfl) rfl rfl (e_callv (first := [.pointer (some ⟨b19, 0, none⟩)]) (cap := []) (vs := [.agg #[.int .i64 2, .int .i64 ((k : Nat) : Int), .int .i64 id, .int .i64 bd, .int .i64 he, .int .i64 hn]]) rfl rfl en146 ⟨rfl, trivial⟩ rfl) (HC) ?_
    rintro _ w93 ⟨rfl, A89, c90, A91, c92, S94⟩
    refine ⟨_, rfl, ?_⟩; clear HC S88
    change St _ _ _ [.blk b19 (qRow R.1.ep R.1.nx R.1.gv (.slice A89 R.1.ready.length c90) (.slice A91 R.1.leases.length c92) R.1.ws) 190, .rdo 2 A89 R.1.ready.length ((R.1.ready).flatMap Msg.cells), .rdo 4 A91 R.1.leases.length ((R.1.leases).flatMap Ls.cells), .loc b51 (FMap Try.prog 3 (fun y => if y = 4 then some (.func (.func 148) #[.pointer (some ⟨b19, 0, none⟩)] #[]) else (fun y => if y = 3 then some (.func (.func 147) #[.pointer (some ⟨b19, 0, none⟩)] #[]) else (fun y => if y = 2 then some (.func (.func 146) #[.pointer (some ⟨b19, 0, none⟩)] #[]) else (fun y => if y = 1 then some (.func (.func 145) #[.pointer (some ⟨b19, 0, none⟩)] #[]) else (fun _ => none) y) y) y) y) 4), .blk b10 #[.int .i64 0, .int .i64 0, .int .i64 0, .int .i64 0] 93, .blk b7 (qRow 0 0 0 (.slice none 0 0) (.slice none 0 0) zeroWs) 29, .blk b4 #[.int .i64 2, .int .i64 ((k : Nat) : Int), .int .i64 id, .int .i64 bd, .int .i64 he, .int .i64 hn] 37, .blk b1 (qRow ep nx gv (.slice A1 rs.length c1) (.slice A2 ls.length c2) W) 29, .rd 2 A1 rs.length ((rs).flatMap Msg.cells), .rd 4 A2 ls.length ((ls).flatMap Ls.cells)] at S94
    refine vm ?_
    refine vv yx ?_
    refine vv yx ?_
    refine na (row := #[.int .i64 0, .int .i64 0, .int .i64 0, .int .i64 0]) S94 Try.zeroValue93 ?_; intro b95 w96 S97; clear S94
    refine sa 0 S97 inf93 ?_; intro w98 S99; clear S97
    refine va ?_
    refine qk [4, 5, 6, 7, 10, 12, 13] ?_
    refine wQ_then (wC_seq ?_)
    have S100 := S99.drew; clear S99
    refine wC_any_ (C := fun w' => St w.heap.size w w' [.blk b95 #[.int .i64 R.2.1.code, .int .i64 R.2.1.hep, .int .i64 R.2.1.hno, .int .i64 R.2.1.body] 93, .blk b19 (qRow R.1.ep R.1.nx R.1.gv (.slice A89 R.1.ready.length c90) (.slice A91 R.1.leases.length c92) R.1.ws) 190, .rdo 2 A89 R.1.ready.length ((R.1.ready).flatMap Msg.cells), .rdo 4 A91 R.1.leases.length ((R.1.leases).flatMap Ls.cells), .loc b51 (FMap Try.prog 3 (fun y => if y = 4 then some (.func (.func 148) #[.pointer (some ⟨b19, 0, none⟩)] #[]) else (fun y => if y = 3 then some (.func (.func 147) #[.pointer (some ⟨b19, 0, none⟩)] #[]) else (fun y => if y = 2 then some (.func (.func 146) #[.pointer (some ⟨b19, 0, none⟩)] #[]) else (fun y => if y = 1 then some (.func (.func 145) #[.pointer (some ⟨b19, 0, none⟩)] #[]) else (fun _ => none) y) y) y) y) 4), .blk b4 #[.int .i64 2, .int .i64 ((k : Nat) : Int), .int .i64 id, .int .i64 bd, .int .i64 he, .int .i64 hn] 37, .blk b1 (qRow ep nx gv (.slice A1 rs.length c1) (.slice A2 ls.length c2) W) 29, .rd 2 A1 rs.length ((rs).flatMap Msg.cells), .rd 4 A2 ls.length ((ls).flatMap Ls.cells)]) (n := 10) (listed := #[false, false, false, false, false, false, false, false, false, false]) mixed rfl rfl ?_
    refine ak (v := .pointer (some ⟨b19, 0, none⟩)) 0 rfl (S100.dels [6, 5]) (fun _ _ => ym) ?_
    refine ak (v := .pointer (some ⟨b19, 0, none⟩)) 1 rfl (S100.dels [6, 5]) (fun _ _ => y_nil rfl rfl trivial) ?_
    refine ak (v := .pointer (some ⟨b19, 0, none⟩)) 2 rfl (S100.dels [6, 5]) (fun _ _ => yfa _ fa190_0) ?_
    refine ak (v := .agg (qRow R.1.ep R.1.nx R.1.gv (.slice A89 R.1.ready.length c90) (.slice A91 R.1.leases.length c92) R.1.ws)) 3 rfl (S100.dels [6, 5]) (fun _ Sx104 => ylr 1 Sx104 Try.underlying29 inf29) ?_
    refine ak (v := .agg #[.int .i64 R.2.1.code, .int .i64 R.2.1.hep, .int .i64 R.2.1.hno, .int .i64 R.2.1.body]) 4 rfl (S100.dels [6, 5]) (fun _ Sx105 => ylr 0 Sx105 Try.underlying93 inf93) ?_
    refine ak (v := .bool R.2.2) 5 rfl (S100.dels [6, 5]) (fun _ _ => ym) ?_
    refine aq1 6 ?_
    refine snq 6 rfl 6 S100 inf29 ?_; intro w107 S108; clear S100
    refine ⟨(S108.dels [6, 5]), ?_⟩
    refine aq1 7 ?_
    refine sn 7 rfl 5 S108 inf93 ?_; intro w109 S110; clear S108
    refine ⟨(S110.dels [6, 5]), ?_⟩
    refine ak (v := .bool R.2.2) 8 rfl (S110.dels [6, 5]) (fun _ _ => ya) ?_
    refine ak (v := .int .i64 0) 9 rfl (S110.dels [6, 5]) (fun _ _ => ya) ?_
    refine wA_done (by kernel_rfl) ?_
    refine pk [4, 5, 6, 7] ?_
    refine x_te (wQ_post (rs := [.cell 4 29, .cell 5 93, .tmp 6, .tmp 7]) (vs := [.agg (qRow R.1.ep R.1.nx R.1.gv (.slice A89 R.1.ready.length c90) (.slice A91 R.1.leases.length c92) R.1.ws), .agg #[.int .i64 R.2.1.code, .int .i64 R.2.1.hep, .int .i64 R.2.1.hno, .int .i64 R.2.1.body], .bool R.2.2, .int .i64 0]) rfl ⟨⟨_, rfl, res_row 6 S110 rfl Try.underlying29 rfl inf29⟩, ⟨_, rfl, res_row 5 S110 rfl Try.underlying93 rfl inf93⟩, rfl, rfl, trivial⟩ ?_)
    have S113 : St _ _ _ [_, _] := S110.dels [10, 9, 8, 7, 6, 5, 4, 1, 0]; clear S110
    rw [do_ok (Q := ⟨ep, nx, gv, rs, ls, W⟩) h0 h1, hRM]
    exact ⟨A89, c90, A91, c92, rfl, S113⟩
   ·refine vv (v := .func (.func 147) #[.pointer (some ⟨b19, 0, none⟩)] #[]) (y_lookF 0 S61 rfl rfl rfl rfl Try.underlying3 Try.underlying194 (Try.zeroValue193 _) (by decide) rfl) ?_
    refine va ?_
    refine qk [3, 4, 5, 6, 7, 10, 11] ?_
    refine x_tsr (vm ?_)
    refine vv (ylr 6 S61 Try.underlying37 inf37) ?_
    have S114 : St w.heap.size w w60 [.blk b19 (qRow ep nx gv (.slice A29 rs.length c30) (.slice A35 ls.length c36) W) 190, .own 137 2 (.slice A29 rs.length c30) rs.length ((rs).flatMap Msg.cells), .own 141 4 (.slice A35 ls.length c36) ls.length ((ls).flatMap Ls.cells), .loc b51 (FMap Try.prog 3 (fun y => if y = 4 then some (.func (.func 148) #[.pointer (some ⟨b19, 0, none⟩)] #[]) else (fun y => if y = 3 then some (.func (.func 147) #[.pointer (some ⟨b19, 0, none⟩)] #[]) else (fun y => if y = 2 then some (.func (.func 146) #[.pointer (some ⟨b19, 0, none⟩)] #[]) else (fun y => if y = 1 then some (.func (.func 145) #[.pointer (some ⟨b19, 0, none⟩)] #[]) else (fun _ => none) y) y) y) y) 4), .blk b10 #[.int .i64 0, .int .i64 0, .int .i64 0, .int .i64 0] 93, .blk b7 (qRow 0 0 0 (.slice none 0 0) (.slice none 0 0) zeroWs) 29, .blk b4 #[.int .i64 3, .int .i64 ((k : Nat) : Int), .int .i64 id, .int .i64 bd, .int .i64 he, .int .i64 hn] 37, .blk b1 (qRow ep nx gv (.slice A1 rs.length c1) (.slice A2 ls.length c2) W) 29, .rd 2 A1 rs.length ((rs).flatMap Msg.cells), .rd 4 A2 ls.length ((ls).flatMap Ls.cells)] := S61.re [3, 2, 1, 0, 4, 5, 6, 7, 8, 9] (by decide); clear S61
    have HC := ack_calls (kd := 3) (k := k) (id := id) (bd := bd) (he := he) (hn := hn) S114 hk (by omega) (by omega) (by omega) (by omega) (ls_hep hLs) (ls_inj hLs)
    rw [← show stepM ⟨ep, nx, gv, rs, ls, W⟩ ⟨3, ((k : Nat) : Int), id, bd, he, hn⟩ = ackM ⟨ep, nx, gv, rs, ls, W⟩ he hn from by simp [stepM]] at HC
    obtain ⟨R, hRM⟩ : ∃ R, stepM ⟨ep, nx, gv, rs, ls, W⟩ ⟨3, ((k : Nat) : Int), id, bd, he, hn⟩ = R := ⟨_, rfl⟩
    rw [hRM] at HC
    refine wL_call (vs := [.pointer (some ⟨b19, 0, none⟩), .agg #[.int .i64 3, .int .i64 ((k : Nat) : Int), .int .i64 id, .int .i64 bd, .int .i64 he, .int .i64 hn]]) (wn rfl) rfl rfl (e_callv (first := [.pointer (some ⟨b19, 0, none⟩)]) (cap := []) (vs := [.agg #[.int .i64 3, .int .i64 ((k : Nat) : Int), .int .i64 id, .int .i64 bd, .int .i64 he, .int .i64 hn]]) rfl rfl en147 ⟨rfl, trivial⟩ rfl) (HC) ?_
    rintro _ w119 ⟨rfl, A115, c116, A117, c118, S120⟩
    refine ⟨_, rfl, ?_⟩; clear HC S114
    change St _ _ _ [.blk b19 (qRow R.1.ep R.1.nx R.1.gv (.slice A115 R.1.ready.length c116) (.slice A117 R.1.leases.length c118) R.1.ws) 190, .rdo 2 A115 R.1.ready.length ((R.1.ready).flatMap Msg.cells), .rdo 4 A117 R.1.leases.length ((R.1.leases).flatMap Ls.cells), .loc b51 (FMap Try.prog 3 (fun y => if y = 4 then some (.func (.func 148) #[.pointer (some ⟨b19, 0, none⟩)] #[]) else (fun y => if y = 3 then some (.func (.func 147) #[.pointer (some ⟨b19, 0, none⟩)] #[]) else (fun y => if y = 2 then some (.func (.func 146) #[.pointer (some ⟨b19, 0, none⟩)] #[]) else (fun y => if y = 1 then some (.func (.func 145) #[.pointer (some ⟨b19, 0, none⟩)] #[]) else (fun _ => none) y) y) y) y) 4), .blk b10 #[.int .i64 0, .int .i64 0, .int .i64 0, .int .i64 0] 93, .blk b7 (qRow 0 0 0 (.slice none 0 0) (.slice none 0 0) zeroWs) 29, .blk b4 #[.int .i64 3, .int .i64 ((k : Nat) : Int), .int .i64 id, .int .i64 bd, .int .i64 he, .int .i64 hn] 37, .blk b1 (qRow ep nx gv (.slice A1 rs.length c1) (.slice A2 ls.length c2) W) 29, .rd 2 A1 rs.length ((rs).flatMap Msg.cells), .rd 4 A2 ls.length ((ls).flatMap Ls.cells)] at S120
    refine vm ?_
    refine vv yx ?_
    refine vv yx ?_
    refine na (row := #[.int .i64 0, .int .i64 0, .int .i64 0, .int .i64 0]) S120 Try.zeroValue93 ?_; intro b121 w122 S123; clear S120
    refine sa 0 S123 inf93 ?_; intro w124 S125; clear S123
    refine va ?_
    refine qk [4, 5, 6, 7, 10, 12, 13] ?_
    refine wQ_then (wC_seq ?_)
    have S126 := S125.drew; clear S125
    refine wC_any_ (C := fun w' => St w.heap.size w w' [.blk b121 #[.int .i64 R.2.1.code, .int .i64 R.2.1.hep, .int .i64 R.2.1.hno, .int .i64 R.2.1.body] 93, .blk b19 (qRow R.1.ep R.1.nx R.1.gv (.slice A115 R.1.ready.length c116) (.slice A117 R.1.leases.length c118) R.1.ws) 190, .rdo 2 A115 R.1.ready.length ((R.1.ready).flatMap Msg.cells), .rdo 4 A117 R.1.leases.length ((R.1.leases).flatMap Ls.cells), .loc b51 (FMap Try.prog 3 (fun y => if y = 4 then some (.func (.func 148) #[.pointer (some ⟨b19, 0, none⟩)] #[]) else (fun y => if y = 3 then some (.func (.func 147) #[.pointer (some ⟨b19, 0, none⟩)] #[]) else (fun y => if y = 2 then some (.func (.func 146) #[.pointer (some ⟨b19, 0, none⟩)] #[]) else (fun y => if y = 1 then some (.func (.func 145) #[.pointer (some ⟨b19, 0, none⟩)] #[]) else (fun _ => none) y) y) y) y) 4), .blk b4 #[.int .i64 3, .int .i64 ((k : Nat) : Int), .int .i64 id, .int .i64 bd, .int .i64 he, .int .i64 hn] 37, .blk b1 (qRow ep nx gv (.slice A1 rs.length c1) (.slice A2 ls.length c2) W) 29, .rd 2 A1 rs.length ((rs).flatMap Msg.cells), .rd 4 A2 ls.length ((ls).flatMap Ls.cells)]) (n := 10) (listed := #[false, false, false, false, false, false, false, false, false, false]) mixed rfl rfl ?_
    refine ak (v := .pointer (some ⟨b19, 0, none⟩)) 0 rfl (S126.dels [6, 5]) (fun _ _ => ym) ?_
    refine ak (v := .pointer (some ⟨b19, 0, none⟩)) 1 rfl (S126.dels [6, 5]) (fun _ _ => y_nil rfl rfl trivial) ?_
    refine ak (v := .pointer (some ⟨b19, 0, none⟩)) 2 rfl (S126.dels [6, 5]) (fun _ _ => yfa _ fa190_0) ?_
    refine ak (v := .agg (qRow R.1.ep R.1.nx R.1.gv (.slice A115 R.1.ready.length c116) (.slice A117 R.1.leases.length c118) R.1.ws)) 3 rfl (S126.dels [6, 5]) (fun _ Sx130 => ylr 1 Sx130 Try.underlying29 inf29) ?_
    refine ak (v := .agg #[.int .i64 R.2.1.code, .int .i64 R.2.1.hep, .int .i64 R.2.1.hno, .int .i64 R.2.1.body]) 4 rfl (S126.dels [6, 5]) (fun _ Sx131 => ylr 0 Sx131 Try.underlying93 inf93) ?_
    refine ak (v := .bool R.2.2) 5 rfl (S126.dels [6, 5]) (fun _ _ => ym) ?_
    refine aq1 6 ?_
    refine snq 6 rfl 6 S126 inf29 ?_; intro w133 S134; clear S126
    refine ⟨(S134.dels [6, 5]), ?_⟩
    refine aq1 7 ?_
    refine sn 7 rfl 5 S134 inf93 ?_; intro w135 S136; clear S134
    refine ⟨(S136.dels [6, 5]), ?_⟩
    refine ak (v := .bool R.2.2) 8 rfl (S136.dels [6, 5]) (fun _ _ => ya) ?_
    refine ak (v := .int .i64 0) 9 rfl (S136.dels [6, 5]) (fun _ _ => ya) ?_
    refine wA_done (by kernel_rfl) ?_
    refine pk [4, 5, 6, 7] ?_
    refine x_te (wQ_post (rs := [.cell 4 29, .cell 5 93, .tmp 6, .tmp 7]) (vs := [.agg (qRow R.1.ep R.1.nx R.1.gv (.slice A115 R.1.ready.length c116) (.slice A117 R.1.leases.length c118) R.1.ws), .agg #[.int .i64 R.2.1.code, .int .i64 R.2.1.hep, .int .i64 R.2.1.hno, .int .i64 R.2.1.body], .bool R.2.2, .int .i64 0]) rfl ⟨⟨_, rfl, res_row 6 S136 rfl Try.underlying29 rfl inf29⟩, ⟨_, rfl, res_row 5 S136 rfl Try.underlying93 rfl inf93⟩, rfl, rfl, trivial⟩ ?_)
    have S139 : St _ _ _ [_, _] := S136.dels [10, 9, 8, 7, 6, 5, 4, 1, 0]; clear S136
    rw [do_ok (Q := ⟨ep, nx, gv, rs, ls, W⟩) h0 h1, hRM]
    exact ⟨A115, c116, A117, c118, rfl, S139⟩
   ·refine vv (v := .func (.func 148) #[.pointer (some ⟨b19, 0, none⟩)] #[]) (y_lookF 0 S61 rfl rfl rfl rfl Try.underlying3 Try.underlying194 (Try.zeroValue193 _) (by decide) rfl) ?_
    refine va ?_
    refine qk [3, 4, 5, 6, 7, 10, 11] ?_
    refine x_tsr (vm ?_)
    refine vv (ylr 6 S61 Try.underlying37 inf37) ?_
    have S140 : St w.heap.size w w60 [.blk b19 (qRow ep nx gv (.slice A29 rs.length c30) (.slice A35 ls.length c36) W) 190, .own 137 2 (.slice A29 rs.length c30) rs.length ((rs).flatMap Msg.cells), .own 141 4 (.slice A35 ls.length c36) ls.length ((ls).flatMap Ls.cells), .loc b51 (FMap Try.prog 3 (fun y => if y = 4 then some (.func (.func 148) #[.pointer (some ⟨b19, 0, none⟩)] #[]) else (fun y => if y = 3 then some (.func (.func 147) #[.pointer (some ⟨b19, 0, none⟩)] #[]) else (fun y => if y = 2 then some (.func (.func 146) #[.pointer (some ⟨b19, 0, none⟩)] #[]) else (fun y => if y = 1 then some (.func (.func 145) #[.pointer (some ⟨b19, 0, none⟩)] #[]) else (fun _ => none) y) y) y) y) 4), .blk b10 #[.int .i64 0, .int .i64 0, .int .i64 0, .int .i64 0] 93, .blk b7 (qRow 0 0 0 (.slice none 0 0) (.slice none 0 0) zeroWs) 29, .blk b4 #[.int .i64 4, .int .i64 ((k : Nat) : Int), .int .i64 id, .int .i64 bd, .int .i64 he, .int .i64 hn] 37, .blk b1 (qRow ep nx gv (.slice A1 rs.length c1) (.slice A2 ls.length c2) W) 29, .rd 2 A1 rs.length ((rs).flatMap Msg.cells), .rd 4 A2 ls.length ((ls).flatMap Ls.cells)] := S61.re [3, 2, 1, 0, 4, 5, 6, 7, 8, 9] (by decide); clear S61
    have HC := end_calls (kd := 4) (k := k) (id := id) (bd := bd) (he := he) (hn := hn) S140 hk (by omega) (by omega) (by omega) (by omega) (rdy_asc hRd) hNd
    rw [← show stepM ⟨ep, nx, gv, rs, ls, W⟩ ⟨4, ((k : Nat) : Int), id, bd, he, hn⟩ = endM ⟨ep, nx, gv, rs, ls, W⟩ from by simp [stepM]] at HC
    obtain ⟨R, hRM⟩ : ∃ R, stepM ⟨ep, nx, gv, rs, ls, W⟩ ⟨4, ((k : Nat) : Int), id, bd, he, hn⟩ = R := ⟨_, rfl⟩
    rw [hRM] at HC
    refine wL_call (vs := [.pointer (some ⟨b19, 0, none⟩), .agg #[.int .i64 4, .int .i64 ((k : Nat) : Int), .int .i64 id, .int .i64 bd, .int .i64 he, .int .i64 hn]]) (wn rfl) rfl rfl (e_callv (first := [.pointer (some ⟨b19, 0, none⟩)]) (cap := []) (vs := [.agg #[.int .i64 4, .int .i64 ((k : Nat) : Int), .int .i64 id, .int .i64 bd, .int .i64 he, .int .i64 hn]]) rfl rfl en148 ⟨rfl, trivial⟩ rfl) (HC) ?_
    rintro _ w145 ⟨rfl, A141, c142, A143, c144, S146⟩
    refine ⟨_, rfl, ?_⟩; clear HC S140
    change St _ _ _ [.blk b19 (qRow R.1.ep R.1.nx R.1.gv (.slice A141 R.1.ready.length c142) (.slice A143 R.1.leases.length c144) R.1.ws) 190, .rdo 2 A141 R.1.ready.length ((R.1.ready).flatMap Msg.cells), .rdo 4 A143 R.1.leases.length ((R.1.leases).flatMap Ls.cells), .loc b51 (FMap Try.prog 3 (fun y => if y = 4 then some (.func (.func 148) #[.pointer (some ⟨b19, 0, none⟩)] #[]) else (fun y => if y = 3 then some (.func (.func 147) #[.pointer (some ⟨b19, 0, none⟩)] #[]) else (fun y => if y = 2 then some (.func (.func 146) #[.pointer (some ⟨b19, 0, none⟩)] #[]) else (fun y => if y = 1 then some (.func (.func 145) #[.pointer (some ⟨b19, 0, none⟩)] #[]) else (fun _ => none) y) y) y) y) 4), .blk b10 #[.int .i64 0, .int .i64 0, .int .i64 0, .int .i64 0] 93, .blk b7 (qRow 0 0 0 (.slice none 0 0) (.slice none 0 0) zeroWs) 29, .blk b4 #[.int .i64 4, .int .i64 ((k : Nat) : Int), .int .i64 id, .int .i64 bd, .int .i64 he, .int .i64 hn] 37, .blk b1 (qRow ep nx gv (.slice A1 rs.length c1) (.slice A2 ls.length c2) W) 29, .rd 2 A1 rs.length ((rs).flatMap Msg.cells), .rd 4 A2 ls.length ((ls).flatMap Ls.cells)] at S146
    refine vm ?_
    refine vv yx ?_
    refine vv yx ?_
    refine na (row := #[.int .i64 0, .int .i64 0, .int .i64 0, .int .i64 0]) S146 Try.zeroValue93 ?_; intro b147 w148 S149; clear S146
    refine sa 0 S149 inf93 ?_; intro w150 S151; clear S149
    refine va ?_
    refine qk [4, 5, 6, 7, 10, 12, 13] ?_
    refine wQ_then (wC_seq ?_)
    have S152 := S151.drew; clear S151
    refine wC_any_ (C := fun w' => St w.heap.size w w' [.blk b147 #[.int .i64 R.2.1.code, .int .i64 R.2.1.hep, .int .i64 R.2.1.hno, .int .i64 R.2.1.body] 93, .blk b19 (qRow R.1.ep R.1.nx R.1.gv (.slice A141 R.1.ready.length c142) (.slice A143 R.1.leases.length c144) R.1.ws) 190, .rdo 2 A141 R.1.ready.length ((R.1.ready).flatMap Msg.cells), .rdo 4 A143 R.1.leases.length ((R.1.leases).flatMap Ls.cells), .loc b51 (FMap Try.prog 3 (fun y => if y = 4 then some (.func (.func 148) #[.pointer (some ⟨b19, 0, none⟩)] #[]) else (fun y => if y = 3 then some (.func (.func 147) #[.pointer (some ⟨b19, 0, none⟩)] #[]) else (fun y => if y = 2 then some (.func (.func 146) #[.pointer (some ⟨b19, 0, none⟩)] #[]) else (fun y => if y = 1 then some (.func (.func 145) #[.pointer (some ⟨b19, 0, none⟩)] #[]) else (fun _ => none) y) y) y) y) 4), .blk b4 #[.int .i64 4, .int .i64 ((k : Nat) : Int), .int .i64 id, .int .i64 bd, .int .i64 he, .int .i64 hn] 37, .blk b1 (qRow ep nx gv (.slice A1 rs.length c1) (.slice A2 ls.length c2) W) 29, .rd 2 A1 rs.length ((rs).flatMap Msg.cells), .rd 4 A2 ls.length ((ls).flatMap Ls.cells)]) (n := 10) (listed := #[false, false, false, false, false, false, false, false, false, false]) mixed rfl rfl ?_
    refine ak (v := .pointer (some ⟨b19, 0, none⟩)) 0 rfl (S152.dels [6, 5]) (fun _ _ => ym) ?_
    refine ak (v := .pointer (some ⟨b19, 0, none⟩)) 1 rfl (S152.dels [6, 5]) (fun _ _ => y_nil rfl rfl trivial) ?_
    refine ak (v := .pointer (some ⟨b19, 0, none⟩)) 2 rfl (S152.dels [6, 5]) (fun _ _ => yfa _ fa190_0) ?_
    refine ak (v := .agg (qRow R.1.ep R.1.nx R.1.gv (.slice A141 R.1.ready.length c142) (.slice A143 R.1.leases.length c144) R.1.ws)) 3 rfl (S152.dels [6, 5]) (fun _ Sx156 => ylr 1 Sx156 Try.underlying29 inf29) ?_
    refine ak (v := .agg #[.int .i64 R.2.1.code, .int .i64 R.2.1.hep, .int .i64 R.2.1.hno, .int .i64 R.2.1.body]) 4 rfl (S152.dels [6, 5]) (fun _ Sx157 => ylr 0 Sx157 Try.underlying93 inf93) ?_
    refine ak (v := .bool R.2.2) 5 rfl (S152.dels [6, 5]) (fun _ _ => ym) ?_
    refine aq1 6 ?_
    refine snq 6 rfl 6 S152 inf29 ?_; intro w159 S160; clear S152
    refine ⟨(S160.dels [6, 5]), ?_⟩
    refine aq1 7 ?_
    refine sn 7 rfl 5 S160 inf93 ?_; intro w161 S162; clear S160
    refine ⟨(S162.dels [6, 5]), ?_⟩
    refine ak (v := .bool R.2.2) 8 rfl (S162.dels [6, 5]) (fun _ _ => ya) ?_
    refine ak (v := .int .i64 0) 9 rfl (S162.dels [6, 5]) (fun _ _ => ya) ?_
    refine wA_done (by kernel_rfl) ?_
    refine pk [4, 5, 6, 7] ?_
    refine x_te (wQ_post (rs := [.cell 4 29, .cell 5 93, .tmp 6, .tmp 7]) (vs := [.agg (qRow R.1.ep R.1.nx R.1.gv (.slice A141 R.1.ready.length c142) (.slice A143 R.1.leases.length c144) R.1.ws), .agg #[.int .i64 R.2.1.code, .int .i64 R.2.1.hep, .int .i64 R.2.1.hno, .int .i64 R.2.1.body], .bool R.2.2, .int .i64 0]) rfl ⟨⟨_, rfl, res_row 6 S162 rfl Try.underlying29 rfl inf29⟩, ⟨_, rfl, res_row 5 S162 rfl Try.underlying93 rfl inf93⟩, rfl, rfl, trivial⟩ ?_)
    have S165 : St _ _ _ [_, _] := S162.dels [10, 9, 8, 7, 6, 5, 4, 1, 0]; clear S162
    rw [do_ok (Q := ⟨ep, nx, gv, rs, ls, W⟩) h0 h1, hRM]
    exact ⟨A141, c142, A143, c144, rfl, S165⟩
  ·refine vv (yneqT h1) ?_
   refine qk [2, 3, 4, 5, 6, 7, 9, 24] ?_
   refine x_tysr (vv (v := .agg (qRow 0 0 0 (.slice none 0 0) (.slice none 0 0) zeroWs)) yz ?_)
   refine vv (v := .agg #[.int .i64 0, .int .i64 0, .int .i64 0, .int .i64 0]) yz ?_
   refine vm ?_
   refine saq 1 S17 inf29 ?_; intro w166 S167; clear S17
   refine sa 0 S167 inf93 ?_; intro w168 S169; clear S167
   iterate 2 refine va ?_
   refine qk [4, 5, 6, 7] ?_
   refine x_teh (wQ_post (rs := [.cell 4 29, .cell 5 93, .tmp 6, .tmp 7]) (vs := [.agg (qRow 0 0 0 (.slice none 0 0) (.slice none 0 0) zeroWs), .agg #[.int .i64 0, .int .i64 0, .int .i64 0, .int .i64 0], .bool false, .int .i64 (evFault ⟨kd, pr, id, bd, he, hn⟩)]) rfl ⟨⟨_, rfl, res_row 1 S169 rfl Try.underlying29 rfl inf29⟩, ⟨_, rfl, res_row 0 S169 rfl Try.underlying93 rfl inf93⟩, rfl, rfl, trivial⟩ ?_)
   have S170 : St _ _ _ [] := S169.dels [5, 4, 3, 2, 1, 0]; clear S169
   rw [do_ef (Q := ⟨ep, nx, gv, rs, ls, W⟩) h0 h1]
   exact ⟨none, 0, none, 0, rfl, rdo_nil2 S170⟩
 ·refine vv (yneqT h0) ?_
  refine qk [2, 3, 4, 5, 6, 7, 8, 17] ?_
  refine x_tysr (vv (v := .agg (qRow 0 0 0 (.slice none 0 0) (.slice none 0 0) zeroWs)) yz ?_)
  refine vv (v := .agg #[.int .i64 0, .int .i64 0, .int .i64 0, .int .i64 0]) yz ?_
  refine vm ?_
  refine saq 1 S14 inf29 ?_; intro w171 S172; clear S14
  refine sa 0 S172 inf93 ?_; intro w173 S174; clear S172
  iterate 2 refine va ?_
  refine qk [4, 5, 6, 7] ?_
  refine x_teh (wQ_post (rs := [.cell 4 29, .cell 5 93, .tmp 6, .tmp 7]) (vs := [.agg (qRow 0 0 0 (.slice none 0 0) (.slice none 0 0) zeroWs), .agg #[.int .i64 0, .int .i64 0, .int .i64 0, .int .i64 0], .bool false, .int .i64 (queueFault ep nx gv rs ls W)]) rfl ⟨⟨_, rfl, res_row 1 S174 rfl Try.underlying29 rfl inf29⟩, ⟨_, rfl, res_row 0 S174 rfl Try.underlying93 rfl inf93⟩, rfl, rfl, trivial⟩ ?_)
  have S175 : St _ _ _ [] := S174.dels [5, 4, 3, 2, 1, 0]; clear S174
  rw [do_qf (Q := ⟨ep, nx, gv, rs, ls, W⟩) h0]
  exact ⟨none, 0, none, 0, rfl, rdo_nil2 S175⟩
end Go.Proofs.Ytkjlafpafmihaaa

namespace Go.Proofs.Ytkjlafpafmihaaa
open Go.ChangeShapes Go.WideShapes Go.RowKit

theorem IdTaken_below (x : Win) (id : Int) (w : World) : Calls Try.prog 150 #[.agg x.cells.toArray, .int .i64 id] w fun e w' => e = .returned (.tuple #[.agg (takeW x id).1.cells.toArray, .bool (takeW x id).2.1, .int .i64 (takeW x id).2.2]) ∧ Below w.heap.size w w' := (IdTaken_calls x id w).mono fun _ _ h => h

set_option maxRecDepth 100000 in
set_option maxHeartbeats 2000000 in
theorem messageIn_calls (A : Option Addr) (c : Nat) (l : List Msg) (m : Msg) (w : World) (h : Rd w w.heap.size 2 A l.length (l.flatMap Msg.cells)) (hl : l.length ≤ 100000) :
    Calls Try.prog 151 #[.slice A l.length c, .agg #[.int .i64 m.no, .int .i64 m.body]] w (OwnPost w 137 2 (l.length + 1) ((putMsg m l).flatMap Msg.cells)) := by
 have S := (St.start w).addRd h; clear h
 refine fnw 44 Try.func151 ?_
 refine cw [0, 1] ?_
 refine x_sr (nb (row := #[.int .i64 m.no, .int .i64 m.body]) S ?_); intro b1 w2 S3; clear S
 refine va ?_
 refine qk [0, 3, 4] ?_
 refine x_tsr (va ?_)
 refine wL_nil (wQ_then (wC_seq (wC_region (va ?_))))
 refine wL_nil (wQ_then (wC_seq (wC_seq (wC_region (va ?_)))))
 refine wL_nil (wQ_then (wC_block ?_))
 have S4 := S3.nil 137 2; clear S3
 change St _ _ _ [.own 137 2 (.slice none 0 0) 0 (([]).flatMap Msg.cells), .blk b1 #[.int .i64 m.no, .int .i64 m.body] 137, .rd 2 A l.length ((l).flatMap Msg.cells)] at S4
 refine wC_loop (X := Nat × (Option Addr) × Nat × (List Msg) × Nat × Bool) (fun xv => [(0, .slice A l.length c), (3, .pointer (some ⟨b1, 0, none⟩)), (4, .slice none 0 0), (5, .slice xv.2.1 xv.2.2.2.2.1 xv.2.2.1), (6, .bool xv.2.2.2.2.2), (7, .int .i64 ((xv.1 : Nat) : Int))]) (fun xv wr => (xv.1 ≤ l.length) ∧ (putMsg m l = xv.2.2.2.1 ++ putRest m (l.drop xv.1) xv.2.2.2.2.2) ∧ (xv.2.2.2.2.1 = xv.2.2.2.1.length) ∧ (xv.2.2.2.2.1 = xv.1 + xv.2.2.2.2.2.toNat) ∧ St w.heap.size w wr [.own 137 2 (.slice xv.2.1 xv.2.2.2.2.1 xv.2.2.1) xv.2.2.2.2.1 ((xv.2.2.2.1).flatMap Msg.cells), .blk b1 #[.int .i64 m.no, .int .i64 m.body] 137, .rd 2 A l.length ((l).flatMap Msg.cells)]) (fun xv => l.length - xv.1) (0, none, 0, [], 0, false) ?_ ?_ ?_
 ·exact ⟨Nat.zero_le _, rfl, rfl, rfl, S4⟩
 ·exact ⟨rfl, rfl, rfl, rfl, rfl, rfl, trivial⟩
 ·rintro ⟨k, Ab, cb, out, n, dn⟩ w5 ⟨hi7, hi8, hi9, hi10, S6⟩
  try dsimp only at hi7 hi8 hi9 hi10 S6; clear S4
  refine cw [0, 3, 4, 5, 6, 7] ?_
  refine x_ssr (vm ?_)
  refine vm ?_
  refine vv (v := .int .i64 ((l.length : Nat) : Int)) (y_builtin (vs := [.slice A l.length c]) rfl ⟨rfl, trivial⟩ fun _ => r_len rfl Try.underlying22) ?_
  by_cases h11 : ((k : Nat) : Int) < ((l.length : Nat) : Int)
  ·refine vv (ylssT h11) ?_
   refine qk [0, 3, 4, 5, 6, 7, 11] ?_
   refine wQ_then (wC_cond_t rfl (wC_skip (wQ_then (wC_seq (wC_block (wC_seq (wC_seq (wC_quiet S6 mixed (by kernel_rfl) ?_))))))))
   refine uv (v := .bool dn) (fun _ _ => ym) ?_
   cases dn with
   | false =>
    have hn3 := hi10
    simp at hn3
    refine uv (v := .bool true) (fun _ _ => yno) ?_
    refine uv (v := .bool true) (fun _ _ => ym) ?_
    refine ug (v := .slice A l.length c) (fun _ _ => ym) ?_
    refine ug (v := .int .i64 ((k : Nat) : Int)) (fun _ _ => ym) ?_
    obtain ⟨b17, o18, rfl⟩ := Rd.addr (St.rd 2 S6 rfl) (by omega)
    obtain ⟨x19, hx20⟩ := elm k (St.rd 2 S6 rfl) (by omega)
    refine ug (v := .pointer (some ⟨b17, o18 + k * 2, none⟩)) (fun _ _ => (y_indexAddr rfl rfl rfl (r_indexAddr k Try.underlying22 inf137 (by omega) (by omega)))) ?_
    refine ug (v := .pointer (some ⟨b17, o18 + k * 2, none⟩)) (fun _ _ => yfa _ fa137_0) ?_
    refine ug (v := .int .i64 x19.no) (fun _ Sx23 => (y_load rfl rfl (r_load Try.underlying3 rfl (Rd.cl2 (i := 0) (St.rd 2 Sx23 rfl) (fm_get (enc := Msg.cells) (sz := 2) (fun _ => rfl) hx20 rfl))))) ?_
    refine ug (v := .pointer (some ⟨b1, 0, none⟩)) (fun _ _ => yfa _ fa137_0) ?_
    refine ug (v := .int .i64 m.no) (fun _ Sx25 => ylc 1 Sx25 Try.underlying3) ?_
    by_cases hlt : m.no < x19.no
    ·refine ug (v := .bool true) (fun _ _ => ygtrT hlt) ?_
     refine uv (v := .bool true) (fun _ _ => ypT) ?_
     refine wU_nil fun w28 S29 => ?_; clear S6
     refine pk [0, 3, 4, 5, 6, 7, 25] ?_
     refine x_tysr (vm ?_)
     refine vv (ylr 1 S29 Try.underlying137 inf137) ?_
     refine wL_new (V := fun b => .slice (some ⟨b, 0, none⟩) 1 1) (row := #[.int .i64 m.no, .int .i64 m.body]) (t := 137) S29 (wn rfl) rfl rfl (d_buildSlice (vs := [(0, .agg #[.int .i64 m.no, .int .i64 m.body])]) rfl ⟨rfl, rfl, trivial⟩ (by kernel_rfl)) ?_; intro b30 w31 S32; clear S29
     refine wL_append (news := [.int .i64 m.no, .int .i64 m.body]) (xs' := (out ++ [m]).flatMap Msg.cells) 1 S32 (wn rfl) rfl rfl rfl rfl rfl rfl (St.bld (xs := [.int .i64 m.no, .int .i64 m.body]) 0 S32 rfl rfl rfl) Try.underlying22 infz137 rfl (by decide) (oneAll rfl) (by simp only [maxLen]; omega) (by omega) (fm_snoc (enc := Msg.cells) rfl rfl) ?_; intro A33 c34 w35 hc37 hm38 S36; clear S32
     change St _ _ _ [_, .own 137 2 (.slice A33 (n + 1) c34) (n + 1) ((out ++ [m]).flatMap Msg.cells), _, _] at S36
     refine va ?_
     refine qk [0, 3, 4, 5, 7] ?_
     refine x_tr (va ?_)
     refine wL_nil (wQ_then (wC_region (vm ?_)))
     iterate 2 refine vm ?_
     refine vv (v := .pointer (some ⟨b17, o18 + k * 2, none⟩)) (y_indexAddr rfl rfl rfl (r_indexAddr k Try.underlying22 inf137 (by omega) (by omega))) ?_
     refine vv (y_load rfl rfl (r_load_agg (cs := Msg.cells x19) Try.underlying137 rfl inf137 rfl (Rd.rg2 (St.rd 3 S36 rfl) (fun _ _ h => fm_get (enc := Msg.cells) (sz := 2) (fun _ => rfl) hx20 h)))) ?_
     refine wL_new (V := fun b => .slice (some ⟨b, 0, none⟩) 1 1) (row := #[.int .i64 x19.no, .int .i64 x19.body]) (t := 137) S36 (wn rfl) rfl rfl (d_buildSlice (vs := [(0, .agg #[.int .i64 x19.no, .int .i64 x19.body])]) rfl ⟨rfl, rfl, trivial⟩ (by kernel_rfl)) ?_; intro b39 w40 S41; clear S36
     refine wL_append (news := [.int .i64 x19.no, .int .i64 x19.body]) (xs' := (out ++ [m] ++ [x19]).flatMap Msg.cells) 2 S41 (wn rfl) rfl rfl rfl rfl rfl rfl (St.bld (xs := [.int .i64 x19.no, .int .i64 x19.body]) 0 S41 rfl rfl rfl) Try.underlying22 infz137 rfl (by decide) (oneAll rfl) (by simp only [maxLen]; omega) (by omega) (fm_snoc (enc := Msg.cells) rfl rfl) ?_; intro A42 c43 w44 hc46 hm47 S45; clear S41
     change St _ _ _ [_, _, .own 137 2 (.slice A42 ((n + 1) + 1) c43) ((n + 1) + 1) ((out ++ [m] ++ [x19]).flatMap Msg.cells), _, _] at S45
     refine va ?_
     refine qk [0, 3, 4, 5, 7, 6] ?_
     refine wQ_blk_n (wQ_then (wC_region (vm ?_)))
     refine vv (v := .int .i64 ((k + 1 : Nat) : Int)) (y_binop rfl rfl rfl (r_add (by omega) (by omega))) ?_
     refine va ?_
     refine qk [0, 3, 4, 5, 7, 6] ?_
     have S48 : St _ _ _ [_, _, _] := S45.dels [1, 0]; clear S45
     refine wQ_round (k + 1, A42, c43, out ++ [m] ++ [x19], n + 1 + 1, true) ?_ ⟨rfl, rfl, rfl, rfl, rfl, rfl, trivial⟩ (by first | omega | (dsimp only; omega))
     exact ⟨(by dsimp only; omega), put_mid hx20 hlt hi8, (by dsimp only; simp; omega), (by dsimp only; simp at *; omega), S48⟩
    ·refine ug (v := .bool false) (fun _ _ => ygtrF hlt) ?_
     refine uv (v := .bool false) (fun _ _ => ypT) ?_
     refine wU_nil fun w51 S52 => ?_; clear S6
     refine pk [0, 3, 4, 5, 6, 7, 25] ?_
     refine wQ_then (wC_cond_f rfl (wC_skip (wQ_then (wC_region (vm ?_)))))
     iterate 2 refine vm ?_
     refine vv (v := .pointer (some ⟨b17, o18 + k * 2, none⟩)) (y_indexAddr rfl rfl rfl (r_indexAddr k Try.underlying22 inf137 (by omega) (by omega))) ?_
     refine vv (y_load rfl rfl (r_load_agg (cs := Msg.cells x19) Try.underlying137 rfl inf137 rfl (Rd.rg2 (St.rd 2 S52 rfl) (fun _ _ h => fm_get (enc := Msg.cells) (sz := 2) (fun _ => rfl) hx20 h)))) ?_
     refine wL_new (V := fun b => .slice (some ⟨b, 0, none⟩) 1 1) (row := #[.int .i64 x19.no, .int .i64 x19.body]) (t := 137) S52 (wn rfl) rfl rfl (d_buildSlice (vs := [(0, .agg #[.int .i64 x19.no, .int .i64 x19.body])]) rfl ⟨rfl, rfl, trivial⟩ (by kernel_rfl)) ?_; intro b53 w54 S55; clear S52
     refine wL_append (news := [.int .i64 x19.no, .int .i64 x19.body]) (xs' := (out ++ [x19]).flatMap Msg.cells) 1 S55 (wn rfl) rfl rfl rfl rfl rfl rfl (St.bld (xs := [.int .i64 x19.no, .int .i64 x19.body]) 0 S55 rfl rfl rfl) Try.underlying22 infz137 rfl (by decide) (oneAll rfl) (by simp only [maxLen]; omega) (by omega) (fm_snoc (enc := Msg.cells) rfl rfl) ?_; intro A56 c57 w58 hc60 hm61 S59; clear S55
     change St _ _ _ [_, .own 137 2 (.slice A56 (n + 1) c57) (n + 1) ((out ++ [x19]).flatMap Msg.cells), _, _] at S59
     refine va ?_
     refine qk [0, 3, 4, 5, 6, 7] ?_
     refine wQ_blk_n (wQ_then (wC_region (vm ?_)))
     refine vv (v := .int .i64 ((k + 1 : Nat) : Int)) (y_binop rfl rfl rfl (r_add (by omega) (by omega))) ?_
     refine va ?_
     refine qk [0, 3, 4, 5, 6, 7] ?_
     have S62 : St _ _ _ [_, _, _] := S59.dels [0]; clear S59
     refine wQ_round (k + 1, A56, c57, out ++ [x19], n + 1, false) ?_ ⟨rfl, rfl, rfl, rfl, rfl, rfl, trivial⟩ (by first | omega | (dsimp only; omega))
     exact ⟨(by dsimp only; omega), put_past hx20 hlt hi8, (by dsimp only; simp; omega), (by dsimp only; simp at *; omega), S62⟩
   | true =>
    have hn3 := hi10
    simp at hn3
    refine uv (v := .bool false) (fun _ _ => yno) ?_
    refine uv (v := .bool false) (fun _ _ => ym) ?_
    iterate 8 refine usk ?_
    refine uv (v := .bool false) (fun _ _ => ypF) ?_
    refine wU_nil fun w66 S67 => ?_; clear S6
    refine pk [0, 3, 4, 5, 6, 7, 25] ?_
    refine wQ_then (wC_cond_f rfl (wC_skip (wQ_then (wC_region (vm ?_)))))
    iterate 2 refine vm ?_
    obtain ⟨b68, o69, rfl⟩ := Rd.addr (St.rd 2 S67 rfl) (by omega)
    obtain ⟨x70, hx71⟩ := elm k (St.rd 2 S67 rfl) (by omega)
    refine vv (v := .pointer (some ⟨b68, o69 + k * 2, none⟩)) (y_indexAddr rfl rfl rfl (r_indexAddr k Try.underlying22 inf137 (by omega) (by omega))) ?_
    refine vv (y_load rfl rfl (r_load_agg (cs := Msg.cells x70) Try.underlying137 rfl inf137 rfl (Rd.rg2 (St.rd 2 S67 rfl) (fun _ _ h => fm_get (enc := Msg.cells) (sz := 2) (fun _ => rfl) hx71 h)))) ?_
    refine wL_new (V := fun b => .slice (some ⟨b, 0, none⟩) 1 1) (row := #[.int .i64 x70.no, .int .i64 x70.body]) (t := 137) S67 (wn rfl) rfl rfl (d_buildSlice (vs := [(0, .agg #[.int .i64 x70.no, .int .i64 x70.body])]) rfl ⟨rfl, rfl, trivial⟩ (by kernel_rfl)) ?_; intro b72 w73 S74; clear S67
    refine wL_append (news := [.int .i64 x70.no, .int .i64 x70.body]) (xs' := (out ++ [x70]).flatMap Msg.cells) 1 S74 (wn rfl) rfl rfl rfl rfl rfl rfl (St.bld (xs := [.int .i64 x70.no, .int .i64 x70.body]) 0 S74 rfl rfl rfl) Try.underlying22 infz137 rfl (by decide) (oneAll rfl) (by simp only [maxLen]; omega) (by omega) (fm_snoc (enc := Msg.cells) rfl rfl) ?_; intro A75 c76 w77 hc79 hm80 S78; clear S74
    change St _ _ _ [_, .own 137 2 (.slice A75 (n + 1) c76) (n + 1) ((out ++ [x70]).flatMap Msg.cells), _, _] at S78
    refine va ?_
    refine qk [0, 3, 4, 5, 6, 7] ?_
    refine wQ_blk_n (wQ_then (wC_region (vm ?_)))
    refine vv (v := .int .i64 ((k + 1 : Nat) : Int)) (y_binop rfl rfl rfl (r_add (by omega) (by omega))) ?_
    refine va ?_
    refine qk [0, 3, 4, 5, 6, 7] ?_
    have S81 : St _ _ _ [_, _, _] := S78.dels [0]; clear S78
    refine wQ_round (k + 1, A75, c76, out ++ [x70], n + 1, true) ?_ ⟨rfl, rfl, rfl, rfl, rfl, rfl, trivial⟩ (by first | omega | (dsimp only; omega))
    exact ⟨(by dsimp only; omega), put_rest hx71 hi8, (by dsimp only; simp; omega), (by dsimp only; simp at *; omega), S81⟩
  ·refine vv (ylssF h11) ?_
   refine qk [0, 3, 4, 5, 6, 7, 11] ?_
   refine wQ_then (wC_cond_f rfl (wC_exit (wQ_then_exit (wQ_then_exit (wQ_blk_same (wQ_then (wC_seq (wC_seq (wC_region ?_)))))))))
   obtain rfl : k = l.length := by omega
   refine vm ?_
   cases dn with
   | false =>
    obtain rfl : n = l.length := by simp at hi10; omega
    refine vv (v := .bool true) yno ?_
    refine qk [3, 4, 5, 38] ?_
    refine wQ_then (wC_cond_t rfl (wC_region (vm ?_)))
    refine vv (ylr 1 S6 Try.underlying137 inf137) ?_
    refine wL_new (V := fun b => .slice (some ⟨b, 0, none⟩) 1 1) (row := #[.int .i64 m.no, .int .i64 m.body]) (t := 137) S6 (wn rfl) rfl rfl (d_buildSlice (vs := [(0, .agg #[.int .i64 m.no, .int .i64 m.body])]) rfl ⟨rfl, rfl, trivial⟩ (by kernel_rfl)) ?_; intro b82 w83 S84; clear S6
    refine wL_append (news := [.int .i64 m.no, .int .i64 m.body]) (xs' := (out ++ [m]).flatMap Msg.cells) 1 S84 (wn rfl) rfl rfl rfl rfl rfl rfl (St.bld (xs := [.int .i64 m.no, .int .i64 m.body]) 0 S84 rfl rfl rfl) Try.underlying22 infz137 rfl (by decide) (oneAll rfl) (by simp only [maxLen]; omega) (by omega) (fm_snoc (enc := Msg.cells) rfl rfl) ?_; intro A85 c86 w87 hc89 hm90 S88; clear S84
    change St _ _ _ [_, .own 137 2 (.slice A85 (l.length + 1) c86) (l.length + 1) ((out ++ [m]).flatMap Msg.cells), _, _] at S88
    refine va ?_
    refine qk [4, 5] ?_
    refine x_tsr (vm ?_)
    refine va ?_
    refine qk [4] ?_
    refine x_te (pt ?_)
    have S91 : St _ _ _ [_] := S88.dels [3, 2, 0]; clear S88
    rw [put_end (Nat.le_refl _) hi8]
    exact OwnPost.of S91.low (S91.own 0 rfl)
   | true =>
    obtain rfl : n = l.length + 1 := by simp at hi10; omega
    refine vv (v := .bool false) yno ?_
    refine qk [3, 4, 5, 38] ?_
    refine x_tnktsr (vm ?_)
    refine va ?_
    refine qk [4] ?_
    refine x_te (pt ?_)
    have S92 : St _ _ _ [_] := S6.dels [2, 1]; clear S6
    rw [put_done (Nat.le_refl _) hi8]
    exact OwnPost.of S92.low (S92.own 0 rfl)

set_option maxRecDepth 100000 in
set_option maxHeartbeats 4000000 in
theorem QueueDone_calls (ep nx gv kd pr id bd he hn : Int) (A1 A2 : Option Addr) (c1 c2 : Nat) (rs : List Msg) (ls : List Ls) (W : Wins) (w : World) (h1 : Rd w w.heap.size 2 A1 rs.length (rs.flatMap Msg.cells)) (h2 : Rd w w.heap.size 4 A2 ls.length (ls.flatMap Ls.cells)) (hb1 : rs.length * 16 ≤ reachBytes) (hb2 : ls.length * 32 ≤ reachBytes) :
    Calls Try.prog 67 #[.agg (qRow ep nx gv (.slice A1 rs.length c1) (.slice A2 ls.length c2) W), .agg #[.int .i64 kd, .int .i64 pr, .int .i64 id, .int .i64 bd, .int .i64 he, .int .i64 hn]] w (QdoPost w (doM ⟨ep, nx, gv, rs, ls, W⟩ ⟨kd, pr, id, bd, he, hn⟩)) := by
 have S := ((St.start w).addRd h2).addRd h1; clear h1 h2
 refine fnw 236 Try.func67 ?_
 refine cw [0, 1] ?_
 refine x_sr (nb (row := qRow ep nx gv (.slice A1 rs.length c1) (.slice A2 ls.length c2) W) S ?_); intro b1 w2 S3; clear S
 refine nb (row := #[.int .i64 kd, .int .i64 pr, .int .i64 id, .int .i64 bd, .int .i64 he, .int .i64 hn]) S3 ?_; intro b4 w5 S6; clear S3
 refine na (row := qRow 0 0 0 (.slice none 0 0) (.slice none 0 0) zeroWs) S6 Try.zeroValue29 ?_; intro b7 w8 S9; clear S6
 refine na (row := #[.int .i64 0, .int .i64 0, .int .i64 0, .int .i64 0]) S9 Try.zeroValue93 ?_; intro b10 w11 S12; clear S9
 iterate 2 refine va ?_
 refine qk [2, 3, 4, 5, 6, 7] ?_
 refine x_tsr (vv (ylr 3 S12 Try.underlying29 inf29) ?_)
 refine cab en32 S12 (QueueFault_calls ep nx gv A1 A2 c1 c2 rs ls W _ (St.rd 4 S12 rfl) (St.rd 5 S12 rfl) hb1 hb2) ?_; intro w13 S14; clear S12
 refine va ?_
 refine qk [2, 3, 4, 5, 6, 7, 8] ?_
 refine x_tssr (vm ?_)
 by_cases h0 : queueFault ep nx gv rs ls W = 0
 ·obtain ⟨hR, hW, hRd, hLs, hNd⟩ := qf_zero h0
  unfold rngQ at hR
  refine vv (yneqF h0) ?_
  refine qk [2, 3, 4, 5, 6, 7, 8, 21] ?_
  refine x_tnktsr (vv (ylr 2 S14 Try.underlying37 inf37) ?_)
  refine cab en149 S14 (EventFault_calls ⟨kd, pr, id, bd, he, hn⟩ _) ?_; intro w16 S17; clear S14
  refine va ?_
  refine qk [2, 3, 4, 5, 6, 7, 8] ?_
  refine x_tssr (vm ?_)
  by_cases h1 : evFault ⟨kd, pr, id, bd, he, hn⟩ = 0
  ·have hkd := ev_kind h1
   have hpr := ev_prod h1
   simp only at hkd hpr
   obtain ⟨k, hk0⟩ : ∃ k : Nat, pr = (k : Int) := ⟨pr.toNat, by omega⟩
   subst hk0
   have hk : k < 4 := by omega
   refine vv (yneqF h1) ?_
   refine qk [2, 3, 4, 5, 6, 7, 8, 28] ?_
   refine x_tnktsr (vv (ylr 3 S17 Try.underlying29 inf29) ?_)
   refine cal en106 (QueueCopy_calls ep nx gv A1 A2 c1 c2 rs ls W _ (St.rd 4 S17 rfl) (St.rd 5 S17 rfl) hb1 hb2) ?_
   rintro _ w23 ⟨A19, c20, A21, c22, rfl, T25⟩
   refine ⟨_, rfl, ?_⟩
   have S24 := S17.ext T25 rfl; clear T25 S17
   change St _ _ _ [.own 141 4 (.slice A21 ls.length c22) ls.length ((ls).flatMap Ls.cells), .own 137 2 (.slice A19 rs.length c20) rs.length ((rs).flatMap Msg.cells), _, _, _, _, _, _] at S24
   refine na (row := qRow 0 0 0 (.slice none 0 0) (.slice none 0 0) zeroWs) S24 Try.zeroValue29 ?_; intro b26 w27 S28; clear S24
   refine saq 0 S28 inf29 ?_; intro w29 S30; clear S28
   refine qk [2, 3, 4, 5, 6, 7, 9] ?_
   refine x_tsr (vv (yfa 3 fa29_3) ?_)
   refine vv (y_load rfl rfl (r_load Try.underlying22 rfl (St.cl 6 S30 rfl qRow_g3))) ?_
   refine vv (v := .int .i64 ((rs.length : Nat) : Int)) (y_builtin (vs := [.slice A1 rs.length c1]) rfl ⟨rfl, trivial⟩ fun _ => r_len rfl Try.underlying22) ?_
   refine vv (yfa 4 fa29_4) ?_
   refine vv (y_load rfl rfl (r_load Try.underlying23 rfl (St.cl 6 S30 rfl qRow_g4))) ?_
   refine vv (v := .int .i64 ((ls.length : Nat) : Int)) (y_builtin (vs := [.slice A2 ls.length c2]) rfl ⟨rfl, trivial⟩ fun _ => r_len rfl Try.underlying23) ?_
   refine vv (v := .int .i64 ((rs.length + ls.length : Nat) : Int)) (y_binop rfl rfl rfl (r_add (by omega) (by omega))) ?_
   refine vv (v := .bool (decide (((rs.length + ls.length : Nat) : Int) = 500))) (y_binop rfl rfl rfl r_eql) ?_
   refine va ?_
   refine qk [2, 3, 4, 5, 6, 7, 9, 10] ?_
   refine x_tssr (vv (yfa 0 fa37_0) ?_)
   refine vv (ylc 5 S30 Try.underlying3) ?_
   by_cases hz1 : kd = 1
   ·subst hz1
    refine vv (yeqlT rfl) ?_
    refine qk [2, 3, 4, 5, 6, 7, 9, 10, 44] ?_
    refine wQ_then (wC_cond_t rfl (wC_cut (X := Nat) (fun xv => [(2, .pointer (some ⟨b1, 0, none⟩)), (3, .pointer (some ⟨b4, 0, none⟩)), (4, .pointer (some ⟨b7, 0, none⟩)), (5, .pointer (some ⟨b10, 0, none⟩)), (6, .bool false), (7, .int .i64 0), (9, .pointer (some ⟨b26, 0, none⟩)), (10, .bool (decide (((rs.length + ls.length : Nat) : Int) = 500))), (11, .pointer (some ⟨xv, 0, none⟩)), (12, .bool ((takeW (W.at k) id).2.1)), (13, .int .i64 ((takeW (W.at k) id).2.2))]) (fun xv wr => St w.heap.size w wr [.blk xv (((takeW (W.at k) id).1.cells).toArray) 26, .blk b26 (qRow ep nx gv (.slice A19 rs.length c20) (.slice A21 ls.length c22) W) 29, .own 141 4 (.slice A21 ls.length c22) ls.length ((ls).flatMap Ls.cells), .own 137 2 (.slice A19 rs.length c20) rs.length ((rs).flatMap Msg.cells), .blk b10 #[.int .i64 0, .int .i64 0, .int .i64 0, .int .i64 0] 93, .blk b7 (qRow 0 0 0 (.slice none 0 0) (.slice none 0 0) zeroWs) 29, .blk b4 #[.int .i64 1, .int .i64 ((k : Nat) : Int), .int .i64 id, .int .i64 bd, .int .i64 he, .int .i64 hn] 37, .blk b1 (qRow ep nx gv (.slice A1 rs.length c1) (.slice A2 ls.length c2) W) 29, .rd 2 A1 rs.length ((rs).flatMap Msg.cells), .rd 4 A2 ls.length ((ls).flatMap Ls.cells)]) ?_ ?_))
    ·have S31 := S30.drew; clear S30
     refine wC_any_ (C := fun w' => St w.heap.size w w' [.blk b26 (qRow ep nx gv (.slice A19 rs.length c20) (.slice A21 ls.length c22) W) 29, .own 141 4 (.slice A21 ls.length c22) ls.length ((ls).flatMap Ls.cells), .own 137 2 (.slice A19 rs.length c20) rs.length ((rs).flatMap Msg.cells), .blk b10 #[.int .i64 0, .int .i64 0, .int .i64 0, .int .i64 0] 93, .blk b7 (qRow 0 0 0 (.slice none 0 0) (.slice none 0 0) zeroWs) 29, .blk b4 #[.int .i64 1, .int .i64 ((k : Nat) : Int), .int .i64 id, .int .i64 bd, .int .i64 he, .int .i64 hn] 37, .blk b1 (qRow ep nx gv (.slice A1 rs.length c1) (.slice A2 ls.length c2) W) 29, .rd 2 A1 rs.length ((rs).flatMap Msg.cells), .rd 4 A2 ls.length ((ls).flatMap Ls.cells)]) (n := 16) (listed := #[false, false, false, false, false, false, false, false, false, false, false, false, false, false, false, false]) mixed rfl rfl ?_
     refine ak (v := .pointer (some ⟨b4, 1, none⟩)) 0 rfl S31 (fun _ _ => yfa _ fa37_1) ?_
     refine ak (v := .int .i64 ((k : Nat) : Int)) 1 rfl S31 (fun _ Sx33 => ylc 5 Sx33 Try.underlying3) ?_
     refine ak (v := .pointer (some ⟨b1, 5, none⟩)) 2 rfl S31 (fun _ _ => yfa _ fa29_5) ?_
     refine ak (v := .pointer (some ⟨b1, 5 + k * 9, none⟩)) 3 rfl S31 (fun _ _ => (y_indexAddr rfl rfl rfl (r_indexArr k Try.underlying27 inf26 rfl hk))) ?_
     refine ak (v := .agg (((W.at k).cells).toArray)) 4 rfl S31 (fun _ Sx36 => (y_load rfl rfl (r_load_agg (cs := (W.at k).cells) Try.underlying26 rfl inf26 rfl (St.rg 6 Sx36 rfl (qRow_wk hk))))) ?_
     refine ak (v := .pointer (some ⟨b4, 2, none⟩)) 5 rfl S31 (fun _ _ => yfa _ fa37_2) ?_
     refine ak (v := .int .i64 id) 6 rfl S31 (fun _ Sx38 => ylc 5 Sx38 Try.underlying3) ?_
     refine wA_two (n := 8) (r := 7) (s := 12) (by kernel_rfl) ?_ ?_
     ·refine caln 7 rfl en150 (IdTaken_below (W.at k) id _) ?_
      rintro _ w39 ⟨rfl, hb41⟩
      refine ⟨_, rfl, ?_⟩
      have S40 := S31.on hb41; clear hb41 S31
      refine ⟨S40, ?_⟩
      refine ak (v := .tuple #[.agg (((takeW (W.at k) id).1.cells).toArray), .bool ((takeW (W.at k) id).2.1), .int .i64 ((takeW (W.at k) id).2.2)]) 8 rfl S40 (fun _ _ => ym) ?_
      refine ak (v := .agg (((takeW (W.at k) id).1.cells).toArray)) 9 rfl S40 (fun _ _ => yx) ?_
      refine ak (v := .bool ((takeW (W.at k) id).2.1)) 10 rfl S40 (fun _ _ => yx) ?_
      refine ak (v := .int .i64 ((takeW (W.at k) id).2.2)) 11 rfl S40 (fun _ _ => yx) ?_
      refine aq1 12 ?_
      refine nna (row := #[.int .i64 0, .bool false, .bool false, .bool false, .bool false, .bool false, .bool false, .bool false, .bool false]) 12 rfl S40 Try.zeroValue26 ?_; intro b46 w47 S48; clear S40
      refine ⟨(St.del 0 S48), ?_⟩
      refine aq1 13 ?_
      refine wN_st (i := 13) rfl rfl (fs' := [_, _, _, _, _, _, _, _, _, _]) 0 S48 (wn rfl) rfl rfl rfl rfl rfl rfl inf26 rfl (win_one _) (Nat.le_of_ble_eq_true rfl) (setAll_all rfl) rfl ?_; intro w49 S50; clear S48
      refine ⟨(St.del 0 S50), ?_⟩
      refine ak (v := .bool ((takeW (W.at k) id).2.1)) 14 rfl (St.del 0 S50) (fun _ _ => ya) ?_
      refine ak (v := .int .i64 ((takeW (W.at k) id).2.2)) 15 rfl (St.del 0 S50) (fun _ _ => ya) ?_
      refine wA_done (by kernel_rfl) ?_
      refine pk [2, 3, 4, 5, 6, 7, 9, 10, 11, 12, 13] ?_
      refine wQ_cut b46 ?_ ⟨rfl, rfl, rfl, rfl, rfl, rfl, rfl, rfl, rfl, rfl, rfl, trivial⟩
      exact S50
     ·refine nna (row := #[.int .i64 0, .bool false, .bool false, .bool false, .bool false, .bool false, .bool false, .bool false, .bool false]) 12 rfl S31 Try.zeroValue26 ?_; intro b53 w54 S55; clear S31
      refine ⟨(St.del 0 S55), ?_⟩
      refine aq1 7 ?_
      refine caln 7 rfl en150 (IdTaken_below (W.at k) id _) ?_
      rintro _ w56 ⟨rfl, hb58⟩
      refine ⟨_, rfl, ?_⟩
      have S57 := S55.on hb58; clear hb58 S55
      refine ⟨(St.del 0 S57), ?_⟩
      refine ak (v := .tuple #[.agg (((takeW (W.at k) id).1.cells).toArray), .bool ((takeW (W.at k) id).2.1), .int .i64 ((takeW (W.at k) id).2.2)]) 8 rfl (St.del 0 S57) (fun _ _ => ym) ?_
      refine ak (v := .agg (((takeW (W.at k) id).1.cells).toArray)) 9 rfl (St.del 0 S57) (fun _ _ => yx) ?_
      refine ak (v := .bool ((takeW (W.at k) id).2.1)) 10 rfl (St.del 0 S57) (fun _ _ => yx) ?_
      refine ak (v := .int .i64 ((takeW (W.at k) id).2.2)) 11 rfl (St.del 0 S57) (fun _ _ => yx) ?_
      refine aq1 13 ?_
      refine wN_st (i := 13) rfl rfl (fs' := [_, _, _, _, _, _, _, _, _, _]) 0 S57 (wn rfl) rfl rfl rfl rfl rfl rfl inf26 rfl (win_one _) (Nat.le_of_ble_eq_true rfl) (setAll_all rfl) rfl ?_; intro w63 S64; clear S57
      refine ⟨(St.del 0 S64), ?_⟩
      refine ak (v := .bool ((takeW (W.at k) id).2.1)) 14 rfl (St.del 0 S64) (fun _ _ => ya) ?_
      refine ak (v := .int .i64 ((takeW (W.at k) id).2.2)) 15 rfl (St.del 0 S64) (fun _ _ => ya) ?_
      refine wA_done (by kernel_rfl) ?_
      refine pk [2, 3, 4, 5, 6, 7, 9, 10, 11, 12, 13] ?_
      refine wQ_cut b53 ?_ ⟨rfl, rfl, rfl, rfl, rfl, rfl, rfl, rfl, rfl, rfl, rfl, trivial⟩
      exact S64
    ·rintro b67 w68 S69
     try dsimp only at S69; clear S30
     refine cw [2, 3, 4, 5, 6, 7, 9, 10, 11, 12, 13] ?_
     refine x_ssr (vm ?_)
     by_cases h2 : (takeW (W.at k) id).2.2 = 0
     ·refine vv (yneqF h2) ?_
      refine vm ?_
      refine vg ym ?_
      cases h3 : (takeW (W.at k) id).2.1
      ·refine vg (v := .bool true) yno ?_
       refine vv ypF ?_
       refine qk [2, 3, 4, 5, 6, 7, 9, 10, 11, 13, 62] ?_
       refine x_tysr (vv (ylr 1 S69 Try.underlying29 inf29) ?_)
       refine vm ?_
       refine vv (v := .agg #[.int .i64 ((takeW (W.at k) id).2.2), .int .i64 0, .int .i64 0, .int .i64 0]) (y_build (vs := [(0, .int .i64 ((takeW (W.at k) id).2.2))]) rfl ⟨rfl, rfl, trivial⟩ (by kernel_rfl)) ?_
       refine saq 5 S69 inf29 ?_; intro w70 S71; clear S69
       refine sa 4 S71 inf93 ?_; intro w72 S73; clear S71
       iterate 2 refine va ?_
       refine qk [4, 5, 6, 7] ?_
       refine wQ_then (wC_ret (wQ_then_ret (wQ_then_ret (wQ_post (rs := [.cell 4 29, .cell 5 93, .tmp 6, .tmp 7]) (vs := [.agg (qRow ep nx gv (.slice A19 rs.length c20) (.slice A21 ls.length c22) W), .agg #[.int .i64 ((takeW (W.at k) id).2.2), .int .i64 0, .int .i64 0, .int .i64 0], .bool false, .int .i64 0]) rfl ⟨⟨_, rfl, res_row 5 S73 rfl Try.underlying29 rfl inf29⟩, ⟨_, rfl, res_row 4 S73 rfl Try.underlying93 rfl inf93⟩, rfl, rfl, trivial⟩ ?_))))
       have S74 : St _ _ _ [_, _] := S73.dels [9, 8, 7, 6, 5, 4, 1, 0]; clear S73
       have S75 : St w.heap.size w w72 [.own 137 2 (.slice A19 rs.length c20) rs.length ((rs).flatMap Msg.cells), .own 141 4 (.slice A21 ls.length c22) ls.length ((ls).flatMap Ls.cells)] := S74.re [1, 0] (by decide); clear S74
       have S76 := S75.sealAll 0 rfl; clear S75
       change St _ _ _ [.rdo 2 A19 rs.length ((rs).flatMap Msg.cells), _] at S76
       have S77 := S76.sealAll 1 rfl; clear S76
       change St _ _ _ [_, .rdo 4 A21 ls.length ((ls).flatMap Ls.cells)] at S77
       rw [do_ok (Q := ⟨ep, nx, gv, rs, ls, W⟩) h0 h1, show stepM ⟨ep, nx, gv, rs, ls, W⟩ ⟨1, ((k : Nat) : Int), id, bd, he, hn⟩ = pubM ⟨ep, nx, gv, rs, ls, W⟩ k id bd from by simp [stepM], pub_old h2 h3]
       refine ⟨A19, c20, A21, c22, ?_, ?_⟩
       · dsimp only; rw [h2]; rfl
       · dsimp only; exact S77
      ·refine vg (v := .bool false) yno ?_
       refine vv ypF ?_
       refine qk [2, 3, 4, 5, 6, 7, 9, 10, 11, 13, 62] ?_
       refine x_tnktssr (vm ?_)
       by_cases h4 : rs.length + ls.length = 500
       ·have hdc : (decide (((rs.length + ls.length : Nat) : Int) = 500)) = true := decide_eq_true (by omega)
        rw [hdc]
        refine vv (v := .bool true) ym ?_
        iterate 3 refine vs ?_
        refine vv ypT ?_
        refine qk [2, 3, 4, 5, 6, 7, 9, 11, 71] ?_
        refine x_tysr (vv (ylr 1 S69 Try.underlying29 inf29) ?_)
        refine vv (v := .agg #[.int .i64 14, .int .i64 0, .int .i64 0, .int .i64 0]) (y_build (vs := [(0, .int .i64 14)]) rfl ⟨rfl, rfl, trivial⟩ (by kernel_rfl)) ?_
        refine saq 5 S69 inf29 ?_; intro w78 S79; clear S69
        refine sa 4 S79 inf93 ?_; intro w80 S81; clear S79
        iterate 2 refine va ?_
        refine qk [4, 5, 6, 7] ?_
        refine wQ_then (wC_ret (wQ_then_ret (wQ_then_ret (wQ_post (rs := [.cell 4 29, .cell 5 93, .tmp 6, .tmp 7]) (vs := [.agg (qRow ep nx gv (.slice A19 rs.length c20) (.slice A21 ls.length c22) W), .agg #[.int .i64 14, .int .i64 0, .int .i64 0, .int .i64 0], .bool false, .int .i64 0]) rfl ⟨⟨_, rfl, res_row 5 S81 rfl Try.underlying29 rfl inf29⟩, ⟨_, rfl, res_row 4 S81 rfl Try.underlying93 rfl inf93⟩, rfl, rfl, trivial⟩ ?_))))
        have S82 : St _ _ _ [_, _] := S81.dels [9, 8, 7, 6, 5, 4, 1, 0]; clear S81
        have S83 : St w.heap.size w w80 [.own 137 2 (.slice A19 rs.length c20) rs.length ((rs).flatMap Msg.cells), .own 141 4 (.slice A21 ls.length c22) ls.length ((ls).flatMap Ls.cells)] := S82.re [1, 0] (by decide); clear S82
        have S84 := S83.sealAll 0 rfl; clear S83
        change St _ _ _ [.rdo 2 A19 rs.length ((rs).flatMap Msg.cells), _] at S84
        have S85 := S84.sealAll 1 rfl; clear S84
        change St _ _ _ [_, .rdo 4 A21 ls.length ((ls).flatMap Ls.cells)] at S85
        rw [do_ok (Q := ⟨ep, nx, gv, rs, ls, W⟩) h0 h1, show stepM ⟨ep, nx, gv, rs, ls, W⟩ ⟨1, ((k : Nat) : Int), id, bd, he, hn⟩ = pubM ⟨ep, nx, gv, rs, ls, W⟩ k id bd from by simp [stepM], pub_full h2 h3 (.inl h4)]
        refine ⟨A19, c20, A21, c22, ?_, ?_⟩
        · dsimp only; rfl
        · dsimp only; exact S85
       ·have hdc : (decide (((rs.length + ls.length : Nat) : Int) = 500)) = false := decide_eq_false (by omega)
        rw [hdc]
        refine vm ?_
        refine vg (yfa 1 fa29_1) ?_
        refine vg (y_load rfl rfl (r_load Try.underlying3 rfl (St.cl 7 S69 rfl qRow_g1))) ?_
        by_cases h5 : nx = 1073741824
        ·refine vg (yeqlT h5) ?_
         refine vv ypF ?_
         refine qk [2, 3, 4, 5, 6, 7, 9, 11, 71] ?_
         refine x_tysr (vv (ylr 1 S69 Try.underlying29 inf29) ?_)
         refine vv (v := .agg #[.int .i64 14, .int .i64 0, .int .i64 0, .int .i64 0]) (y_build (vs := [(0, .int .i64 14)]) rfl ⟨rfl, rfl, trivial⟩ (by kernel_rfl)) ?_
         refine saq 5 S69 inf29 ?_; intro w86 S87; clear S69
         refine sa 4 S87 inf93 ?_; intro w88 S89; clear S87
         iterate 2 refine va ?_
         refine qk [4, 5, 6, 7] ?_
         refine wQ_then (wC_ret (wQ_then_ret (wQ_then_ret (wQ_post (rs := [.cell 4 29, .cell 5 93, .tmp 6, .tmp 7]) (vs := [.agg (qRow ep nx gv (.slice A19 rs.length c20) (.slice A21 ls.length c22) W), .agg #[.int .i64 14, .int .i64 0, .int .i64 0, .int .i64 0], .bool false, .int .i64 0]) rfl ⟨⟨_, rfl, res_row 5 S89 rfl Try.underlying29 rfl inf29⟩, ⟨_, rfl, res_row 4 S89 rfl Try.underlying93 rfl inf93⟩, rfl, rfl, trivial⟩ ?_))))
         have S90 : St _ _ _ [_, _] := S89.dels [9, 8, 7, 6, 5, 4, 1, 0]; clear S89
         have S91 : St w.heap.size w w88 [.own 137 2 (.slice A19 rs.length c20) rs.length ((rs).flatMap Msg.cells), .own 141 4 (.slice A21 ls.length c22) ls.length ((ls).flatMap Ls.cells)] := S90.re [1, 0] (by decide); clear S90
         have S92 := S91.sealAll 0 rfl; clear S91
         change St _ _ _ [.rdo 2 A19 rs.length ((rs).flatMap Msg.cells), _] at S92
         have S93 := S92.sealAll 1 rfl; clear S92
         change St _ _ _ [_, .rdo 4 A21 ls.length ((ls).flatMap Ls.cells)] at S93
         rw [do_ok (Q := ⟨ep, nx, gv, rs, ls, W⟩) h0 h1, show stepM ⟨ep, nx, gv, rs, ls, W⟩ ⟨1, ((k : Nat) : Int), id, bd, he, hn⟩ = pubM ⟨ep, nx, gv, rs, ls, W⟩ k id bd from by simp [stepM], pub_full h2 h3 (.inr h5)]
         refine ⟨A19, c20, A21, c22, ?_, ?_⟩
         · dsimp only; rfl
         · dsimp only; exact S93
        ·refine vg (yeqlF h5) ?_
         refine vv ypF ?_
         refine qk [2, 3, 4, 5, 6, 7, 9, 11, 71] ?_
         refine x_tnktsr (vv (yfa 1 fa37_1) ?_)
         refine vv (ylc 6 S69 Try.underlying3) ?_
         refine vv (ylr 0 S69 Try.underlying26 inf26) ?_
         refine vv (yfa 5 fa29_5) ?_
         refine vv (v := .pointer (some ⟨b26, 5 + k * 9, none⟩)) (y_indexAddr rfl rfl rfl (r_indexArr k Try.underlying27 inf26 rfl hk)) ?_
         refine wL_st (cs := ((takeW (W.at k) id).1.cells).toArray) (row' := qRow ep nx gv (.slice A19 rs.length c20) (.slice A21 ls.length c22) (W.put k (takeW (W.at k) id).1)) (fs' := [.blk b67 (((takeW (W.at k) id).1.cells).toArray) 26, .blk b26 (qRow ep nx gv (.slice A19 rs.length c20) (.slice A21 ls.length c22) (W.put k (takeW (W.at k) id).1)) 29, .own 141 4 (.slice A21 ls.length c22) ls.length ((ls).flatMap Ls.cells), .own 137 2 (.slice A19 rs.length c20) rs.length ((rs).flatMap Msg.cells), .blk b10 #[.int .i64 0, .int .i64 0, .int .i64 0, .int .i64 0] 93, .blk b7 (qRow 0 0 0 (.slice none 0 0) (.slice none 0 0) zeroWs) 29, .blk b4 #[.int .i64 1, .int .i64 ((k : Nat) : Int), .int .i64 id, .int .i64 bd, .int .i64 he, .int .i64 hn] 37, .blk b1 (qRow ep nx gv (.slice A1 rs.length c1) (.slice A2 ls.length c2) W) 29, .rd 2 A1 rs.length ((rs).flatMap Msg.cells), .rd 4 A2 ls.length ((ls).flatMap Ls.cells)]) 1 S69 (wn rfl) rfl rfl rfl rfl rfl rfl inf26 rfl (win_one _) (by rw [qRow_size]; omega) (qRow_pk hk) rfl ?_; intro w94 S95; clear S69
         refine qk [2, 3, 4, 5, 6, 7, 9] ?_
         refine x_tsr (vv (yfa 3 fa29_3) ?_)
         refine vv (y_load rfl rfl (r_load Try.underlying22 rfl (St.cl 1 S95 rfl qRow_g3))) ?_
         refine vv (yfa 1 fa29_1) ?_
         refine vv (y_load rfl rfl (r_load Try.underlying3 rfl (St.cl 7 S95 rfl qRow_g1))) ?_
         refine vv (yfa 3 fa37_3) ?_
         refine vv (ylc 6 S95 Try.underlying3) ?_
         refine vv (v := .agg #[.int .i64 nx, .int .i64 bd]) (y_build (vs := [(0, .int .i64 nx), (1, .int .i64 bd)]) rfl ⟨rfl, rfl, rfl, rfl, trivial⟩ (by kernel_rfl)) ?_
         refine wL_new (V := fun b => .slice (some ⟨b, 0, none⟩) 1 1) (row := #[.int .i64 nx, .int .i64 bd]) (t := 137) S95 (wn rfl) rfl rfl (d_buildSlice (vs := [(0, .agg #[.int .i64 nx, .int .i64 bd])]) rfl ⟨rfl, rfl, trivial⟩ (by kernel_rfl)) ?_; intro b96 w97 S98; clear S95
         refine wL_append (news := [.int .i64 nx, .int .i64 bd]) (xs' := (rs ++ [(⟨nx, bd⟩ : Msg)]).flatMap Msg.cells) 4 S98 (wn rfl) rfl rfl rfl rfl rfl rfl (St.bld (xs := [.int .i64 nx, .int .i64 bd]) 0 S98 rfl rfl rfl) Try.underlying22 infz137 rfl (by decide) (oneAll rfl) (by simp only [maxLen]; omega) (by omega) (fm_snoc (enc := Msg.cells) rfl rfl) ?_; intro A99 c100 w101 hc103 hm104 S102; clear S98
         change St _ _ _ [_, _, _, _, .own 137 2 (.slice A99 (rs.length + 1) c100) (rs.length + 1) ((rs ++ [(⟨nx, bd⟩ : Msg)]).flatMap Msg.cells), _, _, _, _, _, _] at S102
         refine vv (yfa 3 fa29_3) ?_
         refine wL_st (cs := #[.slice A99 (rs.length + 1) c100]) (row' := qRow ep nx gv (.slice A99 (rs.length + 1) c100) (.slice A21 ls.length c22) (W.put k (takeW (W.at k) id).1)) (fs' := [_, _, .blk b26 (qRow ep nx gv (.slice A99 (rs.length + 1) c100) (.slice A21 ls.length c22) (W.put k (takeW (W.at k) id).1)) 29, _, _, _, _, _, _, _, _]) 2 S102 (wn rfl) rfl rfl rfl rfl rfl rfl inf22 rfl (oneAll rfl) (Nat.le_of_ble_eq_true rfl) qRow_s3 rfl ?_; intro w105 S106; clear S102
         refine qk [2, 4, 5, 6, 7, 9] ?_
         refine x_tsr (vv (yfa 1 fa29_1) ?_)
         refine vv (y_load rfl rfl (r_load Try.underlying3 rfl (St.cl 8 S106 rfl qRow_g1))) ?_
         refine vv (v := .int .i64 (nx + 1)) (y_binop rfl rfl rfl (r_add (by omega) (by omega))) ?_
         refine vv (yfa 1 fa29_1) ?_
         refine wL_st (cs := #[.int .i64 (nx + 1)]) (row' := qRow ep (nx + 1) gv (.slice A99 (rs.length + 1) c100) (.slice A21 ls.length c22) (W.put k (takeW (W.at k) id).1)) (fs' := [_, _, .blk b26 (qRow ep (nx + 1) gv (.slice A99 (rs.length + 1) c100) (.slice A21 ls.length c22) (W.put k (takeW (W.at k) id).1)) 29, _, _, _, _, _, _, _, _]) 2 S106 (wn rfl) rfl rfl rfl rfl rfl rfl inf3 rfl (oneAll rfl) (Nat.le_of_ble_eq_true rfl) qRow_s1 rfl ?_; intro w107 S108; clear S106
         refine qk [4, 5, 6, 7, 9] ?_
         refine x_tsr (vv (ylr 2 S108 Try.underlying29 inf29) ?_)
         refine vv (v := .agg #[.int .i64 0, .int .i64 0, .int .i64 0, .int .i64 0]) yz ?_
         refine saq 6 S108 inf29 ?_; intro w109 S110; clear S108
         refine sa 5 S110 inf93 ?_; intro w111 S112; clear S110
         iterate 2 refine va ?_
         refine qk [4, 5, 6, 7] ?_
         refine x_teh (wQ_post (rs := [.cell 4 29, .cell 5 93, .tmp 6, .tmp 7]) (vs := [.agg (qRow ep (nx + 1) gv (.slice A99 (rs.length + 1) c100) (.slice A21 ls.length c22) (W.put k (takeW (W.at k) id).1)), .agg #[.int .i64 0, .int .i64 0, .int .i64 0, .int .i64 0], .bool true, .int .i64 0]) rfl ⟨⟨_, rfl, res_row 6 S112 rfl Try.underlying29 rfl inf29⟩, ⟨_, rfl, res_row 5 S112 rfl Try.underlying93 rfl inf93⟩, rfl, rfl, trivial⟩ ?_)
         have S113 : St _ _ _ [_, _] := S112.dels [10, 9, 8, 7, 6, 5, 2, 1, 0]; clear S112
         have S114 : St w.heap.size w w111 [.own 137 2 (.slice A99 (rs.length + 1) c100) (rs.length + 1) ((rs ++ [(⟨nx, bd⟩ : Msg)]).flatMap Msg.cells), .own 141 4 (.slice A21 ls.length c22) ls.length ((ls).flatMap Ls.cells)] := S113.re [1, 0] (by decide); clear S113
         have S115 := S114.sealAll 0 rfl; clear S114
         change St _ _ _ [.rdo 2 A99 (rs.length + 1) ((rs ++ [(⟨nx, bd⟩ : Msg)]).flatMap Msg.cells), _] at S115
         have S116 := S115.sealAll 1 rfl; clear S115
         change St _ _ _ [_, .rdo 4 A21 ls.length ((ls).flatMap Ls.cells)] at S116
         rw [do_ok (Q := ⟨ep, nx, gv, rs, ls, W⟩) h0 h1, show stepM ⟨ep, nx, gv, rs, ls, W⟩ ⟨1, ((k : Nat) : Int), id, bd, he, hn⟩ = pubM ⟨ep, nx, gv, rs, ls, W⟩ k id bd from by simp [stepM], pub_ok h2 h3 (fun h => h.elim h4 h5)]
         have hl1 : (rs ++ [(⟨nx, bd⟩ : Msg)]).length = rs.length + 1 := by simp
         refine ⟨A99, c100, A21, c22, ?_, ?_⟩
         · dsimp only; rw [hl1]; rfl
         · dsimp only; rw [hl1]; exact S116
     ·refine vv (yneqT h2) ?_
      refine vm ?_
      iterate 2 refine vs ?_
      refine vv ypT ?_
      refine qk [2, 3, 4, 5, 6, 7, 9, 10, 11, 13, 62] ?_
      refine x_tysr (vv (ylr 1 S69 Try.underlying29 inf29) ?_)
      refine vm ?_
      refine vv (v := .agg #[.int .i64 ((takeW (W.at k) id).2.2), .int .i64 0, .int .i64 0, .int .i64 0]) (y_build (vs := [(0, .int .i64 ((takeW (W.at k) id).2.2))]) rfl ⟨rfl, rfl, trivial⟩ (by kernel_rfl)) ?_
      refine saq 5 S69 inf29 ?_; intro w117 S118; clear S69
      refine sa 4 S118 inf93 ?_; intro w119 S120; clear S118
      iterate 2 refine va ?_
      refine qk [4, 5, 6, 7] ?_
      refine wQ_then (wC_ret (wQ_then_ret (wQ_then_ret (wQ_post (rs := [.cell 4 29, .cell 5 93, .tmp 6, .tmp 7]) (vs := [.agg (qRow ep nx gv (.slice A19 rs.length c20) (.slice A21 ls.length c22) W), .agg #[.int .i64 ((takeW (W.at k) id).2.2), .int .i64 0, .int .i64 0, .int .i64 0], .bool false, .int .i64 0]) rfl ⟨⟨_, rfl, res_row 5 S120 rfl Try.underlying29 rfl inf29⟩, ⟨_, rfl, res_row 4 S120 rfl Try.underlying93 rfl inf93⟩, rfl, rfl, trivial⟩ ?_))))
      have S121 : St _ _ _ [_, _] := S120.dels [9, 8, 7, 6, 5, 4, 1, 0]; clear S120
      have S122 : St w.heap.size w w119 [.own 137 2 (.slice A19 rs.length c20) rs.length ((rs).flatMap Msg.cells), .own 141 4 (.slice A21 ls.length c22) ls.length ((ls).flatMap Ls.cells)] := S121.re [1, 0] (by decide); clear S121
      have S123 := S122.sealAll 0 rfl; clear S122
      change St _ _ _ [.rdo 2 A19 rs.length ((rs).flatMap Msg.cells), _] at S123
      have S124 := S123.sealAll 1 rfl; clear S123
      change St _ _ _ [_, .rdo 4 A21 ls.length ((ls).flatMap Ls.cells)] at S124
      rw [do_ok (Q := ⟨ep, nx, gv, rs, ls, W⟩) h0 h1, show stepM ⟨ep, nx, gv, rs, ls, W⟩ ⟨1, ((k : Nat) : Int), id, bd, he, hn⟩ = pubM ⟨ep, nx, gv, rs, ls, W⟩ k id bd from by simp [stepM], pub_err h2]
      refine ⟨A19, c20, A21, c22, ?_, ?_⟩
      · dsimp only; rfl
      · dsimp only; exact S124
   ·refine vv (yeqlF hz1) ?_
    refine qk [2, 3, 4, 5, 6, 7, 9, 10, 44] ?_
    refine x_tnktssr (vv (yfa 0 fa37_0) ?_)
    refine vv (ylc 5 S30 Try.underlying3) ?_
    by_cases hz2 : kd = 2
    ·subst hz2
     refine vv (yeqlT rfl) ?_
     refine qk [2, 3, 4, 5, 6, 7, 9, 97] ?_
     refine x_tyssr (vv (yfa 3 fa29_3) ?_)
     refine vv (y_load rfl rfl (r_load Try.underlying22 rfl (St.cl 6 S30 rfl qRow_g3))) ?_
     refine vv (v := .int .i64 ((rs.length : Nat) : Int)) (y_builtin (vs := [.slice A1 rs.length c1]) rfl ⟨rfl, trivial⟩ fun _ => r_len rfl Try.underlying22) ?_
     by_cases h2 : rs.length = 0
     ·refine vv (deqlT (h := by omega)) ?_
      refine qk [2, 4, 5, 6, 7, 9, 101] ?_
      refine x_tysr (vv (ylr 0 S30 Try.underlying29 inf29) ?_)
      refine vv (v := .agg #[.int .i64 10, .int .i64 0, .int .i64 0, .int .i64 0]) (y_build (vs := [(0, .int .i64 10)]) rfl ⟨rfl, rfl, trivial⟩ (by kernel_rfl)) ?_
      refine saq 4 S30 inf29 ?_; intro w125 S126; clear S30
      refine sa 3 S126 inf93 ?_; intro w127 S128; clear S126
      iterate 2 refine va ?_
      refine qk [4, 5, 6, 7] ?_
      refine wQ_then (wC_ret (wQ_then_ret (wQ_then_ret (wQ_post (rs := [.cell 4 29, .cell 5 93, .tmp 6, .tmp 7]) (vs := [.agg (qRow ep nx gv (.slice A19 rs.length c20) (.slice A21 ls.length c22) W), .agg #[.int .i64 10, .int .i64 0, .int .i64 0, .int .i64 0], .bool false, .int .i64 0]) rfl ⟨⟨_, rfl, res_row 4 S128 rfl Try.underlying29 rfl inf29⟩, ⟨_, rfl, res_row 3 S128 rfl Try.underlying93 rfl inf93⟩, rfl, rfl, trivial⟩ ?_))))
      have S129 : St _ _ _ [_, _] := S128.dels [8, 7, 6, 5, 4, 3, 0]; clear S128
      have S130 : St w.heap.size w w127 [.own 137 2 (.slice A19 rs.length c20) rs.length ((rs).flatMap Msg.cells), .own 141 4 (.slice A21 ls.length c22) ls.length ((ls).flatMap Ls.cells)] := S129.re [1, 0] (by decide); clear S129
      have S131 := S130.sealAll 0 rfl; clear S130
      change St _ _ _ [.rdo 2 A19 rs.length ((rs).flatMap Msg.cells), _] at S131
      have S132 := S131.sealAll 1 rfl; clear S131
      change St _ _ _ [_, .rdo 4 A21 ls.length ((ls).flatMap Ls.cells)] at S132
      rw [do_ok (Q := ⟨ep, nx, gv, rs, ls, W⟩) h0 h1, show stepM ⟨ep, nx, gv, rs, ls, W⟩ ⟨2, ((k : Nat) : Int), id, bd, he, hn⟩ = recM ⟨ep, nx, gv, rs, ls, W⟩ from by simp [stepM], rec_none h2]
      refine ⟨A19, c20, A21, c22, ?_, ?_⟩
      · dsimp only; rfl
      · dsimp only; exact S132
     ·refine vv (deqlF (h := by omega)) ?_
      refine qk [2, 4, 5, 6, 7, 9, 101] ?_
      refine x_tnktssr (vv (yfa 2 fa29_2) ?_)
      refine vv (y_load rfl rfl (r_load Try.underlying3 rfl (St.cl 6 S30 rfl qRow_g2))) ?_
      by_cases h3 : gv = 1073741824
      ·refine vv (yeqlT h3) ?_
       refine qk [2, 4, 5, 6, 7, 9, 106] ?_
       refine x_tysr (vv (ylr 0 S30 Try.underlying29 inf29) ?_)
       refine vv (v := .agg #[.int .i64 14, .int .i64 0, .int .i64 0, .int .i64 0]) (y_build (vs := [(0, .int .i64 14)]) rfl ⟨rfl, rfl, trivial⟩ (by kernel_rfl)) ?_
       refine saq 4 S30 inf29 ?_; intro w133 S134; clear S30
       refine sa 3 S134 inf93 ?_; intro w135 S136; clear S134
       iterate 2 refine va ?_
       refine qk [4, 5, 6, 7] ?_
       refine wQ_then (wC_ret (wQ_then_ret (wQ_then_ret (wQ_post (rs := [.cell 4 29, .cell 5 93, .tmp 6, .tmp 7]) (vs := [.agg (qRow ep nx gv (.slice A19 rs.length c20) (.slice A21 ls.length c22) W), .agg #[.int .i64 14, .int .i64 0, .int .i64 0, .int .i64 0], .bool false, .int .i64 0]) rfl ⟨⟨_, rfl, res_row 4 S136 rfl Try.underlying29 rfl inf29⟩, ⟨_, rfl, res_row 3 S136 rfl Try.underlying93 rfl inf93⟩, rfl, rfl, trivial⟩ ?_))))
       have S137 : St _ _ _ [_, _] := S136.dels [8, 7, 6, 5, 4, 3, 0]; clear S136
       have S138 : St w.heap.size w w135 [.own 137 2 (.slice A19 rs.length c20) rs.length ((rs).flatMap Msg.cells), .own 141 4 (.slice A21 ls.length c22) ls.length ((ls).flatMap Ls.cells)] := S137.re [1, 0] (by decide); clear S137
       have S139 := S138.sealAll 0 rfl; clear S138
       change St _ _ _ [.rdo 2 A19 rs.length ((rs).flatMap Msg.cells), _] at S139
       have S140 := S139.sealAll 1 rfl; clear S139
       change St _ _ _ [_, .rdo 4 A21 ls.length ((ls).flatMap Ls.cells)] at S140
       rw [do_ok (Q := ⟨ep, nx, gv, rs, ls, W⟩) h0 h1, show stepM ⟨ep, nx, gv, rs, ls, W⟩ ⟨2, ((k : Nat) : Int), id, bd, he, hn⟩ = recM ⟨ep, nx, gv, rs, ls, W⟩ from by simp [stepM], rec_full h2 h3]
       refine ⟨A19, c20, A21, c22, ?_, ?_⟩
       · dsimp only; rfl
       · dsimp only; exact S140
      ·refine vv (yeqlF h3) ?_
       refine qk [2, 4, 5, 6, 7, 9, 106] ?_
       refine x_tnktsr (vv (yfa 0 fa29_0) ?_)
       refine vv (y_load rfl rfl (r_load Try.underlying3 rfl (St.cl 6 S30 rfl qRow_g0))) ?_
       refine vv (yfa 2 fa29_2) ?_
       refine vv (y_load rfl rfl (r_load Try.underlying3 rfl (St.cl 6 S30 rfl qRow_g2))) ?_
       refine vv (v := .agg #[.int .i64 ep, .int .i64 gv]) (y_build (vs := [(0, .int .i64 ep), (1, .int .i64 gv)]) rfl ⟨rfl, rfl, rfl, rfl, trivial⟩ (by kernel_rfl)) ?_
       refine na (row := #[.int .i64 0, .int .i64 0]) S30 Try.zeroValue35 ?_; intro b141 w142 S143; clear S30
       refine sa 0 S143 inf35 ?_; intro w144 S145; clear S143
       refine qk [2, 4, 5, 6, 7, 9, 14] ?_
       refine x_tsr (vv (yfa 3 fa29_3) ?_)
       refine wL_st (cs := #[.slice none 0 0]) (row' := qRow ep nx gv (.slice none 0 0) (.slice A21 ls.length c22) W) (fs' := [_, .blk b26 (qRow ep nx gv (.slice none 0 0) (.slice A21 ls.length c22) W) 29, _, _, _, _, _, _, _, _]) 1 S145 (wn rfl) rfl rfl rfl rfl rfl rfl inf22 rfl (oneAll rfl) (Nat.le_of_ble_eq_true rfl) qRow_s3 rfl ?_; intro w146 S147; clear S145
       refine qk [2, 4, 5, 6, 7, 9, 14] ?_
       refine x_tssr (va ?_)
       refine wL_nil (wQ_then (wC_block ?_))
       have S148 : St _ _ _ [_, _, _, _, _, _, _, _, _] := S147.dels [3]; clear S147
       have S149 := S148.nil 137 2; clear S148
       change St _ _ _ [.own 137 2 (.slice none 0 0) 0 (([]).flatMap Msg.cells), .blk b141 #[.int .i64 ep, .int .i64 gv] 35, .blk b26 (qRow ep nx gv (.slice none 0 0) (.slice A21 ls.length c22) W) 29, .own 141 4 (.slice A21 ls.length c22) ls.length ((ls).flatMap Ls.cells), .blk b10 #[.int .i64 0, .int .i64 0, .int .i64 0, .int .i64 0] 93, .blk b7 (qRow 0 0 0 (.slice none 0 0) (.slice none 0 0) zeroWs) 29, .blk b4 #[.int .i64 2, .int .i64 ((k : Nat) : Int), .int .i64 id, .int .i64 bd, .int .i64 he, .int .i64 hn] 37, .blk b1 (qRow ep nx gv (.slice A1 rs.length c1) (.slice A2 ls.length c2) W) 29, .rd 2 A1 rs.length ((rs).flatMap Msg.cells), .rd 4 A2 ls.length ((ls).flatMap Ls.cells)] at S149
       refine wC_loop (X := Nat × (Option Addr) × Nat) (fun xv => [(2, .pointer (some ⟨b1, 0, none⟩)), (4, .pointer (some ⟨b7, 0, none⟩)), (5, .pointer (some ⟨b10, 0, none⟩)), (6, .bool false), (7, .int .i64 0), (9, .pointer (some ⟨b26, 0, none⟩)), (14, .pointer (some ⟨b141, 0, none⟩)), (15, .int .i64 ((xv.1 + 1 : Nat) : Int))]) (fun xv wr => (xv.1 + 1 ≤ rs.length) ∧ St w.heap.size w wr [.own 137 2 (.slice xv.2.1 xv.1 xv.2.2) xv.1 (((rs.drop 1).take xv.1).flatMap Msg.cells), .blk b141 #[.int .i64 ep, .int .i64 gv] 35, .blk b26 (qRow ep nx gv (.slice xv.2.1 xv.1 xv.2.2) (.slice A21 ls.length c22) W) 29, .own 141 4 (.slice A21 ls.length c22) ls.length ((ls).flatMap Ls.cells), .blk b10 #[.int .i64 0, .int .i64 0, .int .i64 0, .int .i64 0] 93, .blk b7 (qRow 0 0 0 (.slice none 0 0) (.slice none 0 0) zeroWs) 29, .blk b4 #[.int .i64 2, .int .i64 ((k : Nat) : Int), .int .i64 id, .int .i64 bd, .int .i64 he, .int .i64 hn] 37, .blk b1 (qRow ep nx gv (.slice A1 rs.length c1) (.slice A2 ls.length c2) W) 29, .rd 2 A1 rs.length ((rs).flatMap Msg.cells), .rd 4 A2 ls.length ((ls).flatMap Ls.cells)]) (fun xv => rs.length - xv.1) (0, none, 0) ?_ ?_ ?_
       ·exact ⟨(by dsimp only; omega), S149⟩
       ·exact ⟨rfl, rfl, rfl, rfl, rfl, rfl, rfl, rfl, trivial⟩
       ·rintro ⟨j, Ab, cb⟩ w150 ⟨hi152, S151⟩
        try dsimp only at hi152 S151; clear S149
        refine cw [2, 4, 5, 6, 7, 9, 14, 15] ?_
        refine x_ssr (vm ?_)
        refine vv (yfa 3 fa29_3) ?_
        refine vv (y_load rfl rfl (r_load Try.underlying22 rfl (St.cl 7 S151 rfl qRow_g3))) ?_
        refine vv (v := .int .i64 ((rs.length : Nat) : Int)) (y_builtin (vs := [.slice A1 rs.length c1]) rfl ⟨rfl, trivial⟩ fun _ => r_len rfl Try.underlying22) ?_
        by_cases h153 : ((j + 1 : Nat) : Int) < ((rs.length : Nat) : Int)
        ·refine vv (ylssT h153) ?_
         refine qk [2, 4, 5, 6, 7, 9, 14, 15, 119] ?_
         refine wQ_then (wC_cond_t rfl (wC_skip (wQ_then (wC_seq (wC_block ?_)))))
         have S154 := S151.drew; clear S151
         refine wC_head (C := fun w' => St w.heap.size w w' [.blk b141 #[.int .i64 ep, .int .i64 gv] 35, .blk b26 (qRow ep nx gv (.slice Ab j cb) (.slice A21 ls.length c22) W) 29, .own 141 4 (.slice A21 ls.length c22) ls.length ((ls).flatMap Ls.cells), .blk b10 #[.int .i64 0, .int .i64 0, .int .i64 0, .int .i64 0] 93, .blk b7 (qRow 0 0 0 (.slice none 0 0) (.slice none 0 0) zeroWs) 29, .blk b4 #[.int .i64 2, .int .i64 ((k : Nat) : Int), .int .i64 id, .int .i64 bd, .int .i64 he, .int .i64 hn] 37, .blk b1 (qRow ep nx gv (.slice A1 rs.length c1) (.slice A2 ls.length c2) W) 29, .rd 2 A1 rs.length ((rs).flatMap Msg.cells), .rd 4 A2 ls.length ((ls).flatMap Ls.cells)]) (m := 11) (listed := #[false, false, false, false, false, false, false, false, false, false, false]) 9 mixed rfl rfl ?_
         refine gk (v := .pointer (some ⟨b26, 3, none⟩)) 0 rfl (St.del 0 S154) (fun _ _ => yfa _ fa29_3) ?_
         refine gk (v := .slice Ab j cb) 1 rfl (St.del 0 S154) (fun _ Sx156 => (y_load rfl rfl (r_load Try.underlying22 rfl (St.cl 1 Sx156 rfl qRow_g3)))) ?_
         refine gk (v := .pointer (some ⟨b1, 3, none⟩)) 2 rfl (St.del 0 S154) (fun _ _ => yfa _ fa29_3) ?_
         refine gk (v := .slice A1 rs.length c1) 3 rfl (St.del 0 S154) (fun _ Sx158 => (y_load rfl rfl (r_load Try.underlying22 rfl (St.cl 6 Sx158 rfl qRow_g3)))) ?_
         refine gk (v := .int .i64 ((j + 1 : Nat) : Int)) 4 rfl (St.del 0 S154) (fun _ _ => ym) ?_
         obtain ⟨b160, o161, rfl⟩ := Rd.addr (St.rd 8 S154 rfl) (by omega)
         obtain ⟨x162, hx163⟩ := elm (j + 1) (St.rd 8 S154 rfl) (by omega)
         refine gk (v := .pointer (some ⟨b160, o161 + (j + 1) * 2, none⟩)) 5 rfl (St.del 0 S154) (fun _ _ => (y_indexAddr rfl rfl rfl (r_indexAddr (j + 1) Try.underlying22 inf137 (by omega) (by omega)))) ?_
         refine gk (v := .agg #[.int .i64 x162.no, .int .i64 x162.body]) 6 rfl (St.del 0 S154) (fun _ Sx165 => (y_load rfl rfl (r_load_agg (cs := Msg.cells x162) Try.underlying137 rfl inf137 rfl (Rd.rg2 (St.rd 7 Sx165 rfl) (fun _ _ h => fm_get (enc := Msg.cells) (sz := 2) (fun _ => rfl) hx163 h))))) ?_
         refine wG_one (m := 3) (r := 7) (by kernel_rfl) ?_
         refine wH_new (i := 7) rfl rfl (V := fun b => .slice (some ⟨b, 0, none⟩) 1 1) (row := #[.int .i64 x162.no, .int .i64 x162.body]) (t := 137) S154 (wn rfl) rfl rfl (d_buildSlice (vs := [(0, .agg #[.int .i64 x162.no, .int .i64 x162.body])]) rfl ⟨rfl, rfl, trivial⟩ (by kernel_rfl)) ?_; intro b166 w167 S168; clear S154
         refine ⟨(S168.dels [1, 0]), ?_⟩
         refine wG_one (m := 2) (r := 8) (by kernel_rfl) ?_
         refine wH_append (i := 8) rfl rfl (news := [.int .i64 x162.no, .int .i64 x162.body]) (xs' := ((rs.drop 1).take (j + 1)).flatMap Msg.cells) 1 S168 (wn rfl) rfl rfl rfl rfl rfl rfl (St.bld (xs := [.int .i64 x162.no, .int .i64 x162.body]) 0 S168 rfl rfl rfl) Try.underlying22 infz137 rfl (by decide) (oneAll rfl) (by simp only [maxLen]; omega) (by omega) (fm_snoc (enc := Msg.cells) (take_snoc_ (by rw [List.getElem?_drop, Nat.add_comm]; exact hx163)) rfl) ?_; intro A169 c170 w171 hc173 hm174 S172; clear S168
         change St _ _ _ [_, .own 137 2 (.slice A169 (j + 1) c170) (j + 1) (((rs.drop 1).take (j + 1)).flatMap Msg.cells), _, _, _, _, _, _, _, _, _] at S172
         refine ⟨(S172.dels [1, 0]), ?_⟩
         refine wG_tail (by kernel_rfl) rfl rfl rfl ?_
         refine vv (yfa 3 fa29_3) ?_
         refine wL_st (cs := #[.slice A169 (j + 1) c170]) (row' := qRow ep nx gv (.slice A169 (j + 1) c170) (.slice A21 ls.length c22) W) (fs' := [_, _, _, .blk b26 (qRow ep nx gv (.slice A169 (j + 1) c170) (.slice A21 ls.length c22) W) 29, _, _, _, _, _, _, _]) 3 S172 (wn rfl) rfl rfl rfl rfl rfl rfl inf22 rfl (oneAll rfl) (Nat.le_of_ble_eq_true rfl) qRow_s3 rfl ?_; intro w175 S176; clear S172
         refine wL_nil (wQ_np ?_)
         refine pk [2, 4, 5, 6, 7, 9, 14, 15] ?_
         refine wQ_blk_n (wQ_then (wC_region (vm ?_)))
         refine vv (v := .int .i64 (((j + 1) + 1 : Nat) : Int)) (y_binop rfl rfl rfl (r_add (by omega) (by omega))) ?_
         refine va ?_
         refine qk [2, 4, 5, 6, 7, 9, 14, 15] ?_
         have S177 : St _ _ _ [_, _, _, _, _, _, _, _, _, _] := S176.dels [0]; clear S176
         refine wQ_round (j + 1, A169, c170) ?_ ⟨rfl, rfl, rfl, rfl, rfl, rfl, rfl, rfl, trivial⟩ (by first | omega | (dsimp only; omega))
         exact ⟨(by dsimp only; omega), S177⟩
        ·refine vv (ylssF h153) ?_
         refine qk [2, 4, 5, 6, 7, 9, 14, 15, 119] ?_
         refine wQ_then (wC_cond_f rfl (wC_exit (wQ_then_exit (wQ_then_exit (wQ_blk_same (wQ_then (wC_seq ?_)))))))
         have S178 := S151.drew; clear S151
         refine wC_head (C := fun w' => St w.heap.size w w' [.own 137 2 (.slice Ab j cb) j (((rs.drop 1).take j).flatMap Msg.cells), .blk b141 #[.int .i64 ep, .int .i64 gv] 35, .blk b26 (qRow ep nx gv (.slice Ab j cb) (.slice A21 ls.length c22) W) 29, .blk b10 #[.int .i64 0, .int .i64 0, .int .i64 0, .int .i64 0] 93, .blk b7 (qRow 0 0 0 (.slice none 0 0) (.slice none 0 0) zeroWs) 29, .blk b4 #[.int .i64 2, .int .i64 ((k : Nat) : Int), .int .i64 id, .int .i64 bd, .int .i64 he, .int .i64 hn] 37, .blk b1 (qRow ep nx gv (.slice A1 rs.length c1) (.slice A2 ls.length c2) W) 29, .rd 2 A1 rs.length ((rs).flatMap Msg.cells), .rd 4 A2 ls.length ((ls).flatMap Ls.cells)]) (m := 12) (listed := #[false, false, false, false, false, false, false, false, false, false, false, false]) 10 mixed rfl rfl ?_
         refine gk (v := .pointer (some ⟨b26, 4, none⟩)) 0 rfl (St.del 3 S178) (fun _ _ => yfa _ fa29_4) ?_
         refine gk (v := .slice A21 ls.length c22) 1 rfl (St.del 3 S178) (fun _ Sx180 => (y_load rfl rfl (r_load Try.underlying23 rfl (St.cl 2 Sx180 rfl qRow_g4)))) ?_
         refine gk (v := .agg #[.int .i64 ep, .int .i64 gv]) 2 rfl (St.del 3 S178) (fun _ Sx181 => ylr 1 Sx181 Try.underlying35 inf35) ?_
         refine gk (v := .pointer (some ⟨b1, 3, none⟩)) 3 rfl (St.del 3 S178) (fun _ _ => yfa _ fa29_3) ?_
         refine gk (v := .slice A1 rs.length c1) 4 rfl (St.del 3 S178) (fun _ Sx183 => (y_load rfl rfl (r_load Try.underlying22 rfl (St.cl 6 Sx183 rfl qRow_g3)))) ?_
         obtain ⟨b184, o185, rfl⟩ := Rd.addr (St.rd 8 S178 rfl) (by omega)
         obtain ⟨x186, hx187⟩ := elm 0 (St.rd 8 S178 rfl) (by omega)
         refine gk (v := .pointer (some ⟨b184, o185 + 0 * 2, none⟩)) 5 rfl (St.del 3 S178) (fun _ _ => (y_indexAddr rfl rfl rfl (r_indexAddr 0 Try.underlying22 inf137 (by omega) (by omega)))) ?_
         refine gk (v := .agg #[.int .i64 x186.no, .int .i64 x186.body]) 6 rfl (St.del 3 S178) (fun _ Sx189 => (y_load rfl rfl (r_load_agg (cs := Msg.cells x186) Try.underlying137 rfl inf137 rfl (Rd.rg2 (St.rd 7 Sx189 rfl) (fun _ _ h => fm_get (enc := Msg.cells) (sz := 2) (fun _ => rfl) hx187 h))))) ?_
         refine gk (v := .agg #[.int .i64 ep, .int .i64 gv, .int .i64 x186.no, .int .i64 x186.body]) 7 rfl (St.del 3 S178) (fun _ _ => (y_build (vs := [(0, .agg #[.int .i64 ep, .int .i64 gv]), (1, .agg #[.int .i64 x186.no, .int .i64 x186.body])]) rfl ⟨rfl, rfl, rfl, rfl, trivial⟩ (by kernel_rfl))) ?_
         refine wG_one (m := 3) (r := 8) (by kernel_rfl) ?_
         refine wH_new (i := 8) rfl rfl (V := fun b => .slice (some ⟨b, 0, none⟩) 1 1) (row := #[.int .i64 ep, .int .i64 gv, .int .i64 x186.no, .int .i64 x186.body]) (t := 141) S178 (wn rfl) rfl rfl (d_buildSlice (vs := [(0, .agg #[.int .i64 ep, .int .i64 gv, .int .i64 x186.no, .int .i64 x186.body])]) rfl ⟨rfl, rfl, trivial⟩ (by kernel_rfl)) ?_; intro b191 w192 S193; clear S178
         refine ⟨(S193.dels [4, 0]), ?_⟩
         refine wG_one (m := 2) (r := 9) (by kernel_rfl) ?_
         refine wH_append (i := 9) rfl rfl (news := [.int .i64 ep, .int .i64 gv, .int .i64 x186.no, .int .i64 x186.body]) (xs' := (ls ++ [(⟨ep, gv, x186⟩ : Ls)]).flatMap Ls.cells) 4 S193 (wn rfl) rfl rfl rfl rfl rfl rfl (St.bld (xs := [.int .i64 ep, .int .i64 gv, .int .i64 x186.no, .int .i64 x186.body]) 0 S193 rfl rfl rfl) Try.underlying23 infz141 rfl (by decide) (oneAll rfl) (by simp only [maxLen]; omega) (by omega) (fm_snoc (enc := Ls.cells) rfl rfl) ?_; intro A194 c195 w196 hc198 hm199 S197; clear S193
         change St _ _ _ [_, _, _, _, .own 141 4 (.slice A194 (ls.length + 1) c195) (ls.length + 1) ((ls ++ [(⟨ep, gv, x186⟩ : Ls)]).flatMap Ls.cells), _, _, _, _, _, _] at S197
         refine ⟨(S197.dels [4, 0]), ?_⟩
         refine wG_tail (by kernel_rfl) rfl rfl rfl ?_
         refine vv (yfa 4 fa29_4) ?_
         refine wL_st (cs := #[.slice A194 (ls.length + 1) c195]) (row' := qRow ep nx gv (.slice Ab j cb) (.slice A194 (ls.length + 1) c195) W) (fs' := [_, _, _, .blk b26 (qRow ep nx gv (.slice Ab j cb) (.slice A194 (ls.length + 1) c195) W) 29, _, _, _, _, _, _, _]) 3 S197 (wn rfl) rfl rfl rfl rfl rfl rfl inf23 rfl (oneAll rfl) (Nat.le_of_ble_eq_true rfl) qRow_s4 rfl ?_; intro w200 S201; clear S197
         refine wL_nil (wQ_np ?_)
         refine pk [2, 4, 5, 6, 7, 9, 14] ?_
         refine x_tsr (vv (yfa 2 fa29_2) ?_)
         refine vv (y_load rfl rfl (r_load Try.underlying3 rfl (St.cl 8 S201 rfl qRow_g2))) ?_
         refine vv (v := .int .i64 (gv + 1)) (y_binop rfl rfl rfl (r_add (by omega) (by omega))) ?_
         refine vv (yfa 2 fa29_2) ?_
         refine wL_st (cs := #[.int .i64 (gv + 1)]) (row' := qRow ep nx (gv + 1) (.slice Ab j cb) (.slice A194 (ls.length + 1) c195) W) (fs' := [_, _, _, .blk b26 (qRow ep nx (gv + 1) (.slice Ab j cb) (.slice A194 (ls.length + 1) c195) W) 29, _, _, _, _, _, _, _]) 3 S201 (wn rfl) rfl rfl rfl rfl rfl rfl inf3 rfl (oneAll rfl) (Nat.le_of_ble_eq_true rfl) qRow_s2 rfl ?_; intro w202 S203; clear S201
         refine qk [2, 4, 5, 6, 7, 9, 14] ?_
         refine wQ_then (wC_seq ?_)
         have S204 := S203.drew; clear S203
         refine wC_any_ (C := fun w' => St w.heap.size w w' [.blk b191 #[.int .i64 ep, .int .i64 gv, .int .i64 x186.no, .int .i64 x186.body] 141, .own 137 2 (.slice Ab j cb) j (((rs.drop 1).take j).flatMap Msg.cells), .blk b141 #[.int .i64 ep, .int .i64 gv] 35, .blk b26 (qRow ep nx (gv + 1) (.slice Ab j cb) (.slice A194 (ls.length + 1) c195) W) 29, .own 141 4 (.slice A194 (ls.length + 1) c195) (ls.length + 1) ((ls ++ [(⟨ep, gv, x186⟩ : Ls)]).flatMap Ls.cells), .blk b4 #[.int .i64 2, .int .i64 ((k : Nat) : Int), .int .i64 id, .int .i64 bd, .int .i64 he, .int .i64 hn] 37, .blk b1 (qRow ep nx gv (.slice (some ⟨b184, o185, none⟩) rs.length c1) (.slice A2 ls.length c2) W) 29, .rd 2 (some ⟨b184, o185, none⟩) rs.length ((rs).flatMap Msg.cells), .rd 4 A2 ls.length ((ls).flatMap Ls.cells)]) (n := 12) (listed := #[false, false, false, false, false, false, false, false, false, false, false, false]) mixed rfl rfl ?_
         refine ak (v := .agg (qRow ep nx (gv + 1) (.slice Ab j cb) (.slice A194 (ls.length + 1) c195) W)) 0 rfl (S204.dels [6, 5]) (fun _ Sx205 => ylr 3 Sx205 Try.underlying29 inf29) ?_
         refine ak (v := .agg #[.int .i64 ep, .int .i64 gv]) 1 rfl (S204.dels [6, 5]) (fun _ Sx206 => ylr 2 Sx206 Try.underlying35 inf35) ?_
         refine ak (v := .pointer (some ⟨b1, 3, none⟩)) 2 rfl (S204.dels [6, 5]) (fun _ _ => yfa _ fa29_3) ?_
         refine ak (v := .slice (some ⟨b184, o185, none⟩) rs.length c1) 3 rfl (S204.dels [6, 5]) (fun _ Sx208 => (y_load rfl rfl (r_load Try.underlying22 rfl (St.cl 6 Sx208 rfl qRow_g3)))) ?_
         refine ak (v := .pointer (some ⟨b184, o185 + 0 * 2, none⟩)) 4 rfl (S204.dels [6, 5]) (fun _ _ => (y_indexAddr rfl rfl rfl (r_indexAddr 0 Try.underlying22 inf137 (by omega) (by omega)))) ?_
         refine ak (v := .pointer (some ⟨b184, o185 + 0 * 2 + 1, none⟩)) 5 rfl (S204.dels [6, 5]) (fun _ _ => yfa _ fa137_1) ?_
         refine ak (v := .int .i64 x186.body) 6 rfl (S204.dels [6, 5]) (fun _ Sx211 => (y_load rfl rfl (r_load Try.underlying3 rfl (Rd.cl2 (i := 1) (St.rd 7 Sx211 rfl) (fm_get (enc := Msg.cells) (sz := 2) (fun _ => rfl) hx187 rfl))))) ?_
         refine ak (v := .agg #[.int .i64 0, .int .i64 ep, .int .i64 gv, .int .i64 x186.body]) 7 rfl (S204.dels [6, 5]) (fun _ _ => (y_build (vs := [(1, .agg #[.int .i64 ep, .int .i64 gv]), (2, .int .i64 x186.body)]) rfl ⟨rfl, rfl, rfl, rfl, trivial⟩ (by kernel_rfl))) ?_
         refine aq1 8 ?_
         refine snq 8 rfl 6 S204 inf29 ?_; intro w213 S214; clear S204
         refine ⟨(S214.dels [6, 5]), ?_⟩
         refine aq1 9 ?_
         refine sn 9 rfl 5 S214 inf93 ?_; intro w215 S216; clear S214
         refine ⟨(S216.dels [6, 5]), ?_⟩
         refine ak (v := .bool true) 10 rfl (S216.dels [6, 5]) (fun _ _ => ya) ?_
         refine ak (v := .int .i64 0) 11 rfl (S216.dels [6, 5]) (fun _ _ => ya) ?_
         refine wA_done (by kernel_rfl) ?_
         refine pk [4, 5, 6, 7] ?_
         refine x_teh (wQ_post (rs := [.cell 4 29, .cell 5 93, .tmp 6, .tmp 7]) (vs := [.agg (qRow ep nx (gv + 1) (.slice Ab j cb) (.slice A194 (ls.length + 1) c195) W), .agg #[.int .i64 0, .int .i64 ep, .int .i64 gv, .int .i64 x186.body], .bool true, .int .i64 0]) rfl ⟨⟨_, rfl, res_row 6 S216 rfl Try.underlying29 rfl inf29⟩, ⟨_, rfl, res_row 5 S216 rfl Try.underlying93 rfl inf93⟩, rfl, rfl, trivial⟩ ?_)
         obtain rfl : j = rs.length - 1 := by omega
         have S219 := S216; clear S216
         rw [List.take_of_length_le (by simp)] at S219
         change St _ _ _ [.blk b191 #[.int .i64 ep, .int .i64 gv, .int .i64 x186.no, .int .i64 x186.body] 141, .own 137 2 (.slice Ab (rs.length - 1) cb) (rs.length - 1) ((rs.drop 1).flatMap Msg.cells), .blk b141 #[.int .i64 ep, .int .i64 gv] 35, .blk b26 (qRow ep nx (gv + 1) (.slice Ab (rs.length - 1) cb) (.slice A194 (ls.length + 1) c195) W) 29, .own 141 4 (.slice A194 (ls.length + 1) c195) (ls.length + 1) ((ls ++ [(⟨ep, gv, x186⟩ : Ls)]).flatMap Ls.cells), .blk b10 #[.int .i64 0, .int .i64 ep, .int .i64 gv, .int .i64 x186.body] 93, .blk b7 (qRow ep nx (gv + 1) (.slice Ab (rs.length - 1) cb) (.slice A194 (ls.length + 1) c195) W) 29, .blk b4 #[.int .i64 2, .int .i64 ((k : Nat) : Int), .int .i64 id, .int .i64 bd, .int .i64 he, .int .i64 hn] 37, .blk b1 (qRow ep nx gv (.slice (some ⟨b184, o185, none⟩) rs.length c1) (.slice A2 ls.length c2) W) 29, .rd 2 (some ⟨b184, o185, none⟩) rs.length ((rs).flatMap Msg.cells), .rd 4 A2 ls.length ((ls).flatMap Ls.cells)] at S219
         have S220 : St _ _ _ [_, _] := S219.dels [10, 9, 8, 7, 6, 5, 3, 2, 0]; clear S219
         have S221 := S220.sealAll 0 rfl; clear S220
         change St _ _ _ [.rdo 2 Ab (rs.length - 1) ((rs.drop 1).flatMap Msg.cells), _] at S221
         have S222 := S221.sealAll 1 rfl; clear S221
         change St _ _ _ [_, .rdo 4 A194 (ls.length + 1) ((ls ++ [(⟨ep, gv, x186⟩ : Ls)]).flatMap Ls.cells)] at S222
         rw [do_ok (Q := ⟨ep, nx, gv, rs, ls, W⟩) h0 h1, show stepM ⟨ep, nx, gv, rs, ls, W⟩ ⟨2, ((k : Nat) : Int), id, bd, he, hn⟩ = recM ⟨ep, nx, gv, rs, ls, W⟩ from by simp [stepM], rec_ok hx187 h3]
         have hl1 : (rs.drop 1).length = rs.length - 1 := by simp
         have hl2 : (ls ++ [(⟨ep, gv, x186⟩ : Ls)]).length = ls.length + 1 := by simp
         refine ⟨Ab, cb, A194, c195, ?_, ?_⟩
         · dsimp only; rw [hl1, hl2]; rfl
         · dsimp only; rw [hl1, hl2]; exact S222
    ·refine vv (yeqlF hz2) ?_
     refine qk [2, 3, 4, 5, 6, 7, 9, 97] ?_
     refine x_tnktssr (vv (yfa 0 fa37_0) ?_)
     refine vv (ylc 5 S30 Try.underlying3) ?_
     by_cases hz3 : kd = 3
     ·subst hz3
      refine vv (yeqlT rfl) ?_
      refine qk [2, 3, 4, 5, 6, 7, 9, 157] ?_
      refine x_tyssr (vv (yfa 4 fa37_4) ?_)
      refine vv (yfa 4 fa35_0) ?_
      refine vv (ylc 5 S30 Try.underlying3) ?_
      refine vv (yfa 0 fa29_0) ?_
      refine vv (y_load rfl rfl (r_load Try.underlying3 rfl (St.cl 6 S30 rfl qRow_g0))) ?_
      by_cases h2 : he = ep
      ·refine vv (yneqF h2) ?_
       refine qk [2, 3, 4, 5, 6, 7, 9, 163] ?_
       refine x_tnktsr (vv (yfa 4 fa29_4) ?_)
       refine wL_st (cs := #[.slice none 0 0]) (row' := qRow ep nx gv (.slice A19 rs.length c20) (.slice none 0 0) W) (fs' := [.blk b26 (qRow ep nx gv (.slice A19 rs.length c20) (.slice none 0 0) W) 29, _, _, _, _, _, _, _, _]) 0 S30 (wn rfl) rfl rfl rfl rfl rfl rfl inf23 rfl (oneAll rfl) (Nat.le_of_ble_eq_true rfl) qRow_s4 rfl ?_; intro w223 S224; clear S30
       refine qk [2, 3, 4, 5, 6, 7, 9] ?_
       refine x_tssr (va ?_)
       refine wL_nil (wQ_then (wC_block ?_))
       have S225 : St _ _ _ [_, _, _, _, _, _, _, _] := S224.dels [1]; clear S224
       have S226 := S225.nil 141 4; clear S225
       change St _ _ _ [.own 141 4 (.slice none 0 0) 0 (([]).flatMap Ls.cells), .blk b26 (qRow ep nx gv (.slice A19 rs.length c20) (.slice none 0 0) W) 29, .own 137 2 (.slice A19 rs.length c20) rs.length ((rs).flatMap Msg.cells), .blk b10 #[.int .i64 0, .int .i64 0, .int .i64 0, .int .i64 0] 93, .blk b7 (qRow 0 0 0 (.slice none 0 0) (.slice none 0 0) zeroWs) 29, .blk b4 #[.int .i64 3, .int .i64 ((k : Nat) : Int), .int .i64 id, .int .i64 bd, .int .i64 he, .int .i64 hn] 37, .blk b1 (qRow ep nx gv (.slice A1 rs.length c1) (.slice A2 ls.length c2) W) 29, .rd 2 A1 rs.length ((rs).flatMap Msg.cells), .rd 4 A2 ls.length ((ls).flatMap Ls.cells)] at S226
       refine wC_loop (X := Nat × (Option Addr) × Nat × Nat) (fun xv => [(2, .pointer (some ⟨b1, 0, none⟩)), (3, .pointer (some ⟨b4, 0, none⟩)), (4, .pointer (some ⟨b7, 0, none⟩)), (5, .pointer (some ⟨b10, 0, none⟩)), (6, .bool false), (7, .int .i64 0), (9, .pointer (some ⟨b26, 0, none⟩)), (16, .int .i64 ((xv.1 : Nat) : Int))]) (fun xv wr => (xv.1 ≤ ls.length) ∧ (xv.2.2.2 = ((ls.take xv.1).filter fun x => decide (x.hno ≠ hn)).length) ∧ St w.heap.size w wr [.own 141 4 (.slice xv.2.1 xv.2.2.2 xv.2.2.1) xv.2.2.2 (((ls.take xv.1).filter fun x => decide (x.hno ≠ hn)).flatMap Ls.cells), .blk b26 (qRow ep nx gv (.slice A19 rs.length c20) (.slice xv.2.1 xv.2.2.2 xv.2.2.1) W) 29, .own 137 2 (.slice A19 rs.length c20) rs.length ((rs).flatMap Msg.cells), .blk b10 #[.int .i64 0, .int .i64 0, .int .i64 0, .int .i64 0] 93, .blk b7 (qRow 0 0 0 (.slice none 0 0) (.slice none 0 0) zeroWs) 29, .blk b4 #[.int .i64 3, .int .i64 ((k : Nat) : Int), .int .i64 id, .int .i64 bd, .int .i64 he, .int .i64 hn] 37, .blk b1 (qRow ep nx gv (.slice A1 rs.length c1) (.slice A2 ls.length c2) W) 29, .rd 2 A1 rs.length ((rs).flatMap Msg.cells), .rd 4 A2 ls.length ((ls).flatMap Ls.cells)]) (fun xv => ls.length - xv.1) (0, none, 0, 0) ?_ ?_ ?_
       ·exact ⟨Nat.zero_le _, rfl, S226⟩
       ·exact ⟨rfl, rfl, rfl, rfl, rfl, rfl, rfl, rfl, trivial⟩
       ·rintro ⟨j, Ab, cb, n⟩ w227 ⟨hi229, hi230, S228⟩
        try dsimp only at hi229 hi230 S228; clear S226
        refine cw [2, 3, 4, 5, 6, 7, 9, 16] ?_
        refine x_ssr (vm ?_)
        refine vv (yfa 4 fa29_4) ?_
        refine vv (y_load rfl rfl (r_load Try.underlying23 rfl (St.cl 6 S228 rfl qRow_g4))) ?_
        refine vv (v := .int .i64 ((ls.length : Nat) : Int)) (y_builtin (vs := [.slice A2 ls.length c2]) rfl ⟨rfl, trivial⟩ fun _ => r_len rfl Try.underlying23) ?_
        by_cases h231 : ((j : Nat) : Int) < ((ls.length : Nat) : Int)
        ·refine vv (ylssT h231) ?_
         refine qk [2, 3, 4, 5, 6, 7, 9, 16, 171] ?_
         refine wQ_then (wC_cond_t rfl (wC_skip (wQ_then (wC_seq (wC_block (wC_seq (wC_quiet S228 mixed (by kernel_rfl) ?_)))))))
         refine uv (v := .pointer (some ⟨b1, 4, none⟩)) (fun _ _ => yfa _ fa29_4) ?_
         refine uv (v := .slice A2 ls.length c2) (fun _ Sx233 => (y_load rfl rfl (r_load Try.underlying23 rfl (St.cl 6 Sx233 rfl qRow_g4)))) ?_
         refine uv (v := .int .i64 ((j : Nat) : Int)) (fun _ _ => ym) ?_
         obtain ⟨b235, o236, rfl⟩ := Rd.addr (St.rd 8 S228 rfl) (by omega)
         obtain ⟨x237, hx238⟩ := elm j (St.rd 8 S228 rfl) (by omega)
         refine uv (v := .pointer (some ⟨b235, o236 + j * 4, none⟩)) (fun _ _ => (y_indexAddr rfl rfl rfl (r_indexAddr j Try.underlying23 inf141 (by omega) (by omega)))) ?_
         refine uv (v := .pointer (some ⟨b235, o236 + j * 4, none⟩)) (fun _ _ => yfa _ fa141_0) ?_
         refine uv (v := .pointer (some ⟨b235, o236 + j * 4 + 1, none⟩)) (fun _ _ => yfa _ fa35_1) ?_
         refine uv (v := .int .i64 x237.hno) (fun _ Sx242 => (y_load rfl rfl (r_load Try.underlying3 rfl (Rd.cl2 (i := 1) (St.rd 8 Sx242 rfl) (fm_get (enc := Ls.cells) (sz := 4) (fun _ => rfl) hx238 rfl))))) ?_
         refine uv (v := .pointer (some ⟨b4, 4, none⟩)) (fun _ _ => yfa _ fa37_4) ?_
         refine uv (v := .pointer (some ⟨b4, 5, none⟩)) (fun _ _ => yfa _ fa35_1) ?_
         refine uv (v := .int .i64 hn) (fun _ Sx245 => ylc 5 Sx245 Try.underlying3) ?_
         have hfb := List.length_filter_le (fun x : Ls => decide (x.hno ≠ hn)) (ls.take j)
         rw [List.length_take] at hfb
         by_cases hne : x237.hno ≠ hn
         ·refine uv (v := .bool true) (fun _ _ => yneqT hne) ?_
          refine wU_nil fun w247 S248 => ?_; clear S228
          refine pk [2, 3, 4, 5, 6, 7, 9, 16, 184] ?_
          refine wQ_then (wC_cond_t rfl ?_)
          have S249 := S248.drew; clear S248
          refine wC_head (C := fun w' => St w.heap.size w w' [.blk b26 (qRow ep nx gv (.slice A19 rs.length c20) (.slice Ab n cb) W) 29, .own 137 2 (.slice A19 rs.length c20) rs.length ((rs).flatMap Msg.cells), .blk b10 #[.int .i64 0, .int .i64 0, .int .i64 0, .int .i64 0] 93, .blk b7 (qRow 0 0 0 (.slice none 0 0) (.slice none 0 0) zeroWs) 29, .blk b4 #[.int .i64 3, .int .i64 ((k : Nat) : Int), .int .i64 id, .int .i64 bd, .int .i64 he, .int .i64 hn] 37, .blk b1 (qRow ep nx gv (.slice A1 rs.length c1) (.slice (some ⟨b235, o236, none⟩) ls.length c2) W) 29, .rd 2 A1 rs.length ((rs).flatMap Msg.cells), .rd 4 (some ⟨b235, o236, none⟩) ls.length ((ls).flatMap Ls.cells)]) (m := 11) (listed := #[false, false, false, false, false, false, false, false, false, false, false]) 9 mixed rfl rfl ?_
          refine gk (v := .pointer (some ⟨b26, 4, none⟩)) 0 rfl (St.del 0 S249) (fun _ _ => yfa _ fa29_4) ?_
          refine gk (v := .slice Ab n cb) 1 rfl (St.del 0 S249) (fun _ Sx251 => (y_load rfl rfl (r_load Try.underlying23 rfl (St.cl 0 Sx251 rfl qRow_g4)))) ?_
          refine gk (v := .pointer (some ⟨b1, 4, none⟩)) 2 rfl (St.del 0 S249) (fun _ _ => yfa _ fa29_4) ?_
          refine gk (v := .slice (some ⟨b235, o236, none⟩) ls.length c2) 3 rfl (St.del 0 S249) (fun _ Sx253 => (y_load rfl rfl (r_load Try.underlying23 rfl (St.cl 5 Sx253 rfl qRow_g4)))) ?_
          refine gk (v := .int .i64 ((j : Nat) : Int)) 4 rfl (St.del 0 S249) (fun _ _ => ym) ?_
          refine gk (v := .pointer (some ⟨b235, o236 + j * 4, none⟩)) 5 rfl (St.del 0 S249) (fun _ _ => (y_indexAddr rfl rfl rfl (r_indexAddr j Try.underlying23 inf141 (by omega) (by omega)))) ?_
          refine gk (v := .agg #[.int .i64 x237.hep, .int .i64 x237.hno, .int .i64 x237.msg.no, .int .i64 x237.msg.body]) 6 rfl (St.del 0 S249) (fun _ Sx256 => (y_load rfl rfl (r_load_agg (cs := Ls.cells x237) Try.underlying141 rfl inf141 rfl (Rd.rg2 (St.rd 7 Sx256 rfl) (fun _ _ h => fm_get (enc := Ls.cells) (sz := 4) (fun _ => rfl) hx238 h))))) ?_
          refine wG_one (m := 3) (r := 7) (by kernel_rfl) ?_
          refine wH_new (i := 7) rfl rfl (V := fun b => .slice (some ⟨b, 0, none⟩) 1 1) (row := #[.int .i64 x237.hep, .int .i64 x237.hno, .int .i64 x237.msg.no, .int .i64 x237.msg.body]) (t := 141) S249 (wn rfl) rfl rfl (d_buildSlice (vs := [(0, .agg #[.int .i64 x237.hep, .int .i64 x237.hno, .int .i64 x237.msg.no, .int .i64 x237.msg.body])]) rfl ⟨rfl, rfl, trivial⟩ (by kernel_rfl)) ?_; intro b257 w258 S259; clear S249
          refine ⟨(S259.dels [1, 0]), ?_⟩
          refine wG_one (m := 2) (r := 8) (by kernel_rfl) ?_
          refine wH_append (i := 8) rfl rfl (news := [.int .i64 x237.hep, .int .i64 x237.hno, .int .i64 x237.msg.no, .int .i64 x237.msg.body]) (xs' := ((ls.take (j + 1)).filter fun x => decide (x.hno ≠ hn)).flatMap Ls.cells) 1 S259 (wn rfl) rfl rfl rfl rfl rfl rfl (St.bld (xs := [.int .i64 x237.hep, .int .i64 x237.hno, .int .i64 x237.msg.no, .int .i64 x237.msg.body]) 0 S259 rfl rfl rfl) Try.underlying23 infz141 rfl (by decide) (oneAll rfl) (by simp only [maxLen]; omega) (by omega) (fm_snoc (enc := Ls.cells) (filt_step hx238 (decide_eq_true hne)) rfl) ?_; intro A260 c261 w262 hc264 hm265 S263; clear S259
          change St _ _ _ [_, .own 141 4 (.slice A260 (n + 1) c261) (n + 1) (((ls.take (j + 1)).filter fun x => decide (x.hno ≠ hn)).flatMap Ls.cells), _, _, _, _, _, _, _, _] at S263
          refine ⟨(S263.dels [1, 0]), ?_⟩
          refine wG_tail (by kernel_rfl) rfl rfl rfl ?_
          refine vv (yfa 4 fa29_4) ?_
          refine wL_st (cs := #[.slice A260 (n + 1) c261]) (row' := qRow ep nx gv (.slice A19 rs.length c20) (.slice A260 (n + 1) c261) W) (fs' := [_, _, .blk b26 (qRow ep nx gv (.slice A19 rs.length c20) (.slice A260 (n + 1) c261) W) 29, _, _, _, _, _, _, _]) 2 S263 (wn rfl) rfl rfl rfl rfl rfl rfl inf23 rfl (oneAll rfl) (Nat.le_of_ble_eq_true rfl) qRow_s4 rfl ?_; intro w266 S267; clear S263
          refine wL_nil (wQ_np ?_)
          refine pk [2, 3, 4, 5, 6, 7, 9, 16] ?_
          refine wQ_blk_n (wQ_then (wC_region (vm ?_)))
          refine vv (v := .int .i64 ((j + 1 : Nat) : Int)) (y_binop rfl rfl rfl (r_add (by omega) (by omega))) ?_
          refine va ?_
          refine qk [2, 3, 4, 5, 6, 7, 9, 16] ?_
          have S268 : St _ _ _ [_, _, _, _, _, _, _, _, _] := S267.dels [0]; clear S267
          refine wQ_round (j + 1, A260, c261, n + 1) ?_ ⟨rfl, rfl, rfl, rfl, rfl, rfl, rfl, rfl, trivial⟩ (by first | omega | (dsimp only; omega))
          exact ⟨(by dsimp only; omega), (by dsimp only; rw [hi230, ← filt_step (f := fun x : Ls => decide (x.hno ≠ hn)) hx238 (decide_eq_true hne)]; simp), S268⟩
         ·refine uv (v := .bool false) (fun _ _ => (dneqF (h := by omega))) ?_
          refine wU_nil fun w270 S271 => ?_; clear S228
          refine pk [2, 3, 4, 5, 6, 7, 9, 16, 184] ?_
          refine wQ_then (wC_cond_f rfl (wC_skip (wQ_blk_n (wQ_then (wC_region (vm ?_))))))
          refine vv (v := .int .i64 ((j + 1 : Nat) : Int)) (y_binop rfl rfl rfl (r_add (by omega) (by omega))) ?_
          refine va ?_
          refine qk [2, 3, 4, 5, 6, 7, 9, 16] ?_
          have S272 := S271; clear S271
          rw [filt_skip (f := fun x : Ls => decide (x.hno ≠ hn)) hx238 (decide_eq_false hne)] at S272
          refine wQ_round (j + 1, Ab, cb, n) ?_ ⟨rfl, rfl, rfl, rfl, rfl, rfl, rfl, rfl, trivial⟩ (by first | omega | (dsimp only; omega))
          exact ⟨(by dsimp only; omega), (by dsimp only; rw [hi230, filt_skip (f := fun x : Ls => decide (x.hno ≠ hn)) hx238 (decide_eq_false hne)]), S272⟩
        ·refine vv (ylssF h231) ?_
         refine qk [2, 3, 4, 5, 6, 7, 9, 16, 171] ?_
         refine wQ_then (wC_cond_f rfl (wC_exit (wQ_then_exit (wQ_then_exit (wQ_blk_same (wQ_then (wC_seq (wC_seq (wC_region ?_)))))))))
         obtain rfl : j = ls.length := by omega
         have S273 := S228; clear S228
         have hnn : n = (ls.filter fun x => decide (x.hno ≠ hn)).length := by have := hi230; rw [List.take_length] at this; exact this
         rw [List.take_length] at S273
         have hnl := List.length_filter_le (fun x : Ls => decide (x.hno ≠ hn)) ls
         change St _ _ _ [.own 141 4 (.slice Ab n cb) n ((ls.filter fun x => decide (x.hno ≠ hn)).flatMap Ls.cells), .blk b26 (qRow ep nx gv (.slice A19 rs.length c20) (.slice Ab n cb) W) 29, .own 137 2 (.slice A19 rs.length c20) rs.length ((rs).flatMap Msg.cells), .blk b10 #[.int .i64 0, .int .i64 0, .int .i64 0, .int .i64 0] 93, .blk b7 (qRow 0 0 0 (.slice none 0 0) (.slice none 0 0) zeroWs) 29, .blk b4 #[.int .i64 3, .int .i64 ((k : Nat) : Int), .int .i64 id, .int .i64 bd, .int .i64 he, .int .i64 hn] 37, .blk b1 (qRow ep nx gv (.slice A1 rs.length c1) (.slice A2 ls.length c2) W) 29, .rd 2 A1 rs.length ((rs).flatMap Msg.cells), .rd 4 A2 ls.length ((ls).flatMap Ls.cells)] at S273
         refine vv (yfa 4 fa29_4) ?_
         refine vv (y_load rfl rfl (r_load Try.underlying23 rfl (St.cl 1 S273 rfl qRow_g4))) ?_
         refine vv (v := .int .i64 ((n : Nat) : Int)) (y_builtin (vs := [.slice Ab n cb]) rfl ⟨rfl, trivial⟩ fun _ => r_len rfl Try.underlying23) ?_
         refine vv (yfa 4 fa29_4) ?_
         refine vv (y_load rfl rfl (r_load Try.underlying23 rfl (St.cl 6 S273 rfl qRow_g4))) ?_
         refine vv (v := .int .i64 ((ls.length : Nat) : Int)) (y_builtin (vs := [.slice A2 ls.length c2]) rfl ⟨rfl, trivial⟩ fun _ => r_len rfl Try.underlying23) ?_
         by_cases h3 : (ls.filter fun x => decide (x.hno ≠ hn)).length = ls.length
         ·refine vv (deqlT (h := by omega)) ?_
          refine qk [4, 5, 6, 7, 9, 201] ?_
          refine x_tysr (vv (ylr 1 S273 Try.underlying29 inf29) ?_)
          refine vv (v := .agg #[.int .i64 7, .int .i64 0, .int .i64 0, .int .i64 0]) (y_build (vs := [(0, .int .i64 7)]) rfl ⟨rfl, rfl, trivial⟩ (by kernel_rfl)) ?_
          refine saq 4 S273 inf29 ?_; intro w274 S275; clear S273
          refine sa 3 S275 inf93 ?_; intro w276 S277; clear S275
          iterate 2 refine va ?_
          refine qk [4, 5, 6, 7] ?_
          refine wQ_then (wC_ret (wQ_then_ret (wQ_then_ret (wQ_post (rs := [.cell 4 29, .cell 5 93, .tmp 6, .tmp 7]) (vs := [.agg (qRow ep nx gv (.slice A19 rs.length c20) (.slice Ab n cb) W), .agg #[.int .i64 7, .int .i64 0, .int .i64 0, .int .i64 0], .bool false, .int .i64 0]) rfl ⟨⟨_, rfl, res_row 4 S277 rfl Try.underlying29 rfl inf29⟩, ⟨_, rfl, res_row 3 S277 rfl Try.underlying93 rfl inf93⟩, rfl, rfl, trivial⟩ ?_))))
          have hself : (ls.filter fun x => decide (x.hno ≠ hn)) = ls := List.length_filter_eq_length_iff.1 h3 |> fun h => List.filter_eq_self.2 h
          obtain rfl : n = ls.length := by omega
          rw [hself] at S277
          change St _ _ _ [.own 141 4 (.slice Ab ls.length cb) ls.length ((ls).flatMap Ls.cells), .blk b26 (qRow ep nx gv (.slice A19 rs.length c20) (.slice Ab ls.length cb) W) 29, .own 137 2 (.slice A19 rs.length c20) rs.length ((rs).flatMap Msg.cells), .blk b10 #[.int .i64 7, .int .i64 0, .int .i64 0, .int .i64 0] 93, .blk b7 (qRow ep nx gv (.slice A19 rs.length c20) (.slice Ab ls.length cb) W) 29, .blk b4 #[.int .i64 3, .int .i64 ((k : Nat) : Int), .int .i64 id, .int .i64 bd, .int .i64 he, .int .i64 hn] 37, .blk b1 (qRow ep nx gv (.slice A1 rs.length c1) (.slice A2 ls.length c2) W) 29, .rd 2 A1 rs.length ((rs).flatMap Msg.cells), .rd 4 A2 ls.length ((ls).flatMap Ls.cells)] at S277
          have S279 : St _ _ _ [_, _] := S277.dels [8, 7, 6, 5, 4, 3, 1]; clear S277
          have S280 : St w.heap.size w w276 [.own 137 2 (.slice A19 rs.length c20) rs.length ((rs).flatMap Msg.cells), .own 141 4 (.slice Ab ls.length cb) ls.length ((ls).flatMap Ls.cells)] := S279.re [1, 0] (by decide); clear S279
          have S281 := S280.sealAll 0 rfl; clear S280
          change St _ _ _ [.rdo 2 A19 rs.length ((rs).flatMap Msg.cells), _] at S281
          have S282 := S281.sealAll 1 rfl; clear S281
          change St _ _ _ [_, .rdo 4 Ab ls.length ((ls).flatMap Ls.cells)] at S282
          rw [do_ok (Q := ⟨ep, nx, gv, rs, ls, W⟩) h0 h1, show stepM ⟨ep, nx, gv, rs, ls, W⟩ ⟨3, ((k : Nat) : Int), id, bd, he, hn⟩ = ackM ⟨ep, nx, gv, rs, ls, W⟩ he hn from by simp [stepM], ack_none h2 h3]
          refine ⟨A19, c20, Ab, cb, ?_, ?_⟩
          · dsimp only; rfl
          · dsimp only; exact S282
         ·refine vv (deqlF (h := by omega)) ?_
          refine qk [4, 5, 6, 7, 9, 201] ?_
          refine x_tnktsr (vv (ylr 1 S273 Try.underlying29 inf29) ?_)
          refine vv (v := .agg #[.int .i64 0, .int .i64 0, .int .i64 0, .int .i64 0]) yz ?_
          refine saq 4 S273 inf29 ?_; intro w283 S284; clear S273
          refine sa 3 S284 inf93 ?_; intro w285 S286; clear S284
          iterate 2 refine va ?_
          refine qk [4, 5, 6, 7] ?_
          refine x_teh (wQ_post (rs := [.cell 4 29, .cell 5 93, .tmp 6, .tmp 7]) (vs := [.agg (qRow ep nx gv (.slice A19 rs.length c20) (.slice Ab n cb) W), .agg #[.int .i64 0, .int .i64 0, .int .i64 0, .int .i64 0], .bool true, .int .i64 0]) rfl ⟨⟨_, rfl, res_row 4 S286 rfl Try.underlying29 rfl inf29⟩, ⟨_, rfl, res_row 3 S286 rfl Try.underlying93 rfl inf93⟩, rfl, rfl, trivial⟩ ?_)
          subst hnn
          have S288 : St _ _ _ [_, _] := S286.dels [8, 7, 6, 5, 4, 3, 1]; clear S286
          have S289 : St w.heap.size w w285 [.own 137 2 (.slice A19 rs.length c20) rs.length ((rs).flatMap Msg.cells), .own 141 4 (.slice Ab ((ls.filter fun x => decide (x.hno ≠ hn)).length) cb) ((ls.filter fun x => decide (x.hno ≠ hn)).length) ((ls.filter fun x => decide (x.hno ≠ hn)).flatMap Ls.cells)] := S288.re [1, 0] (by decide); clear S288
          have S290 := S289.sealAll 0 rfl; clear S289
          change St _ _ _ [.rdo 2 A19 rs.length ((rs).flatMap Msg.cells), _] at S290
          have S291 := S290.sealAll 1 rfl; clear S290
          change St _ _ _ [_, .rdo 4 Ab ((ls.filter fun x => decide (x.hno ≠ hn)).length) ((ls.filter fun x => decide (x.hno ≠ hn)).flatMap Ls.cells)] at S291
          rw [do_ok (Q := ⟨ep, nx, gv, rs, ls, W⟩) h0 h1, show stepM ⟨ep, nx, gv, rs, ls, W⟩ ⟨3, ((k : Nat) : Int), id, bd, he, hn⟩ = ackM ⟨ep, nx, gv, rs, ls, W⟩ he hn from by simp [stepM], ack_ok h2 h3]
          refine ⟨A19, c20, Ab, cb, ?_, ?_⟩
          · dsimp only; rfl
          · dsimp only; exact S291
      ·refine vv (yneqT h2) ?_
       refine qk [2, 3, 4, 5, 6, 7, 9, 163] ?_
       refine x_tysr (vv (ylr 0 S30 Try.underlying29 inf29) ?_)
       refine vv (v := .agg #[.int .i64 11, .int .i64 0, .int .i64 0, .int .i64 0]) (y_build (vs := [(0, .int .i64 11)]) rfl ⟨rfl, rfl, trivial⟩ (by kernel_rfl)) ?_
       refine saq 4 S30 inf29 ?_; intro w292 S293; clear S30
       refine sa 3 S293 inf93 ?_; intro w294 S295; clear S293
       iterate 2 refine va ?_
       refine qk [4, 5, 6, 7] ?_
       refine wQ_then (wC_ret (wQ_then_ret (wQ_then_ret (wQ_post (rs := [.cell 4 29, .cell 5 93, .tmp 6, .tmp 7]) (vs := [.agg (qRow ep nx gv (.slice A19 rs.length c20) (.slice A21 ls.length c22) W), .agg #[.int .i64 11, .int .i64 0, .int .i64 0, .int .i64 0], .bool false, .int .i64 0]) rfl ⟨⟨_, rfl, res_row 4 S295 rfl Try.underlying29 rfl inf29⟩, ⟨_, rfl, res_row 3 S295 rfl Try.underlying93 rfl inf93⟩, rfl, rfl, trivial⟩ ?_))))
       have S296 : St _ _ _ [_, _] := S295.dels [8, 7, 6, 5, 4, 3, 0]; clear S295
       have S297 : St w.heap.size w w294 [.own 137 2 (.slice A19 rs.length c20) rs.length ((rs).flatMap Msg.cells), .own 141 4 (.slice A21 ls.length c22) ls.length ((ls).flatMap Ls.cells)] := S296.re [1, 0] (by decide); clear S296
       have S298 := S297.sealAll 0 rfl; clear S297
       change St _ _ _ [.rdo 2 A19 rs.length ((rs).flatMap Msg.cells), _] at S298
       have S299 := S298.sealAll 1 rfl; clear S298
       change St _ _ _ [_, .rdo 4 A21 ls.length ((ls).flatMap Ls.cells)] at S299
       rw [do_ok (Q := ⟨ep, nx, gv, rs, ls, W⟩) h0 h1, show stepM ⟨ep, nx, gv, rs, ls, W⟩ ⟨3, ((k : Nat) : Int), id, bd, he, hn⟩ = ackM ⟨ep, nx, gv, rs, ls, W⟩ he hn from by simp [stepM], ack_stale h2]
       refine ⟨A19, c20, A21, c22, ?_, ?_⟩
       · dsimp only; rfl
       · dsimp only; exact S299
     ·obtain rfl : kd = 4 := by omega
      refine vv deqlF ?_
      refine qk [2, 3, 4, 5, 6, 7, 9, 157] ?_
      refine x_tnktssr (vv (yfa 0 fa29_0) ?_)
      refine vv (y_load rfl rfl (r_load Try.underlying3 rfl (St.cl 6 S30 rfl qRow_g0))) ?_
      by_cases h2 : ep = 1048576
      ·refine vv (yeqlT h2) ?_
       refine qk [2, 4, 5, 6, 7, 9, 208] ?_
       refine x_tysr (vv (ylr 0 S30 Try.underlying29 inf29) ?_)
       refine vv (v := .agg #[.int .i64 14, .int .i64 0, .int .i64 0, .int .i64 0]) (y_build (vs := [(0, .int .i64 14)]) rfl ⟨rfl, rfl, trivial⟩ (by kernel_rfl)) ?_
       refine saq 4 S30 inf29 ?_; intro w300 S301; clear S30
       refine sa 3 S301 inf93 ?_; intro w302 S303; clear S301
       iterate 2 refine va ?_
       refine qk [4, 5, 6, 7] ?_
       refine x_teh (wQ_post (rs := [.cell 4 29, .cell 5 93, .tmp 6, .tmp 7]) (vs := [.agg (qRow ep nx gv (.slice A19 rs.length c20) (.slice A21 ls.length c22) W), .agg #[.int .i64 14, .int .i64 0, .int .i64 0, .int .i64 0], .bool false, .int .i64 0]) rfl ⟨⟨_, rfl, res_row 4 S303 rfl Try.underlying29 rfl inf29⟩, ⟨_, rfl, res_row 3 S303 rfl Try.underlying93 rfl inf93⟩, rfl, rfl, trivial⟩ ?_)
       have S304 : St _ _ _ [_, _] := S303.dels [8, 7, 6, 5, 4, 3, 0]; clear S303
       have S305 : St w.heap.size w w302 [.own 137 2 (.slice A19 rs.length c20) rs.length ((rs).flatMap Msg.cells), .own 141 4 (.slice A21 ls.length c22) ls.length ((ls).flatMap Ls.cells)] := S304.re [1, 0] (by decide); clear S304
       have S306 := S305.sealAll 0 rfl; clear S305
       change St _ _ _ [.rdo 2 A19 rs.length ((rs).flatMap Msg.cells), _] at S306
       have S307 := S306.sealAll 1 rfl; clear S306
       change St _ _ _ [_, .rdo 4 A21 ls.length ((ls).flatMap Ls.cells)] at S307
       rw [do_ok (Q := ⟨ep, nx, gv, rs, ls, W⟩) h0 h1, show stepM ⟨ep, nx, gv, rs, ls, W⟩ ⟨4, ((k : Nat) : Int), id, bd, he, hn⟩ = endM ⟨ep, nx, gv, rs, ls, W⟩ from by simp [stepM], end_full h2]
       refine ⟨A19, c20, A21, c22, ?_, ?_⟩
       · dsimp only; rfl
       · dsimp only; exact S307
      ·refine vv (yeqlF h2) ?_
       refine qk [2, 4, 5, 6, 7, 9, 208] ?_
       refine x_tnktssr (va ?_)
       refine qk [2, 4, 5, 6, 7, 9, 17] ?_
       refine wQ_then (wC_block (wC_loop (X := Nat × (Option Addr) × Nat) (fun xv => [(2, .pointer (some ⟨b1, 0, none⟩)), (4, .pointer (some ⟨b7, 0, none⟩)), (5, .pointer (some ⟨b10, 0, none⟩)), (6, .bool false), (7, .int .i64 0), (9, .pointer (some ⟨b26, 0, none⟩)), (17, .int .i64 ((xv.1 : Nat) : Int))]) (fun xv wr => (xv.1 ≤ ls.length) ∧ St w.heap.size w wr [.blk b26 (qRow ep nx gv (.slice xv.2.1 (rs.length + xv.1) xv.2.2) (.slice A21 ls.length c22) W) 29, .own 141 4 (.slice A21 ls.length c22) ls.length ((ls).flatMap Ls.cells), .own 137 2 (.slice xv.2.1 (rs.length + xv.1) xv.2.2) (rs.length + xv.1) (((ls.take xv.1).foldl (fun l x => putMsg x.msg l) rs).flatMap Msg.cells), .blk b10 #[.int .i64 0, .int .i64 0, .int .i64 0, .int .i64 0] 93, .blk b7 (qRow 0 0 0 (.slice none 0 0) (.slice none 0 0) zeroWs) 29, .blk b4 #[.int .i64 4, .int .i64 ((k : Nat) : Int), .int .i64 id, .int .i64 bd, .int .i64 he, .int .i64 hn] 37, .blk b1 (qRow ep nx gv (.slice A1 rs.length c1) (.slice A2 ls.length c2) W) 29, .rd 2 A1 rs.length ((rs).flatMap Msg.cells), .rd 4 A2 ls.length ((ls).flatMap Ls.cells)]) (fun xv => ls.length - xv.1) (0, A19, c20) ?_ ?_ ?_))
       ·exact ⟨Nat.zero_le _, by dsimp only; exact S30⟩
       ·exact ⟨rfl, rfl, rfl, rfl, rfl, rfl, rfl, trivial⟩
       ·rintro ⟨j, Ab, cb⟩ w308 ⟨hi310, S309⟩
        try dsimp only at hi310 S309; clear S30
        refine cw [2, 4, 5, 6, 7, 9, 17] ?_
        refine x_ssr (vm ?_)
        refine vv (yfa 4 fa29_4) ?_
        refine vv (y_load rfl rfl (r_load Try.underlying23 rfl (St.cl 6 S309 rfl qRow_g4))) ?_
        refine vv (v := .int .i64 ((ls.length : Nat) : Int)) (y_builtin (vs := [.slice A2 ls.length c2]) rfl ⟨rfl, trivial⟩ fun _ => r_len rfl Try.underlying23) ?_
        by_cases h311 : ((j : Nat) : Int) < ((ls.length : Nat) : Int)
        ·refine vv (ylssT h311) ?_
         refine qk [2, 4, 5, 6, 7, 9, 17, 215] ?_
         refine wQ_then (wC_cond_t rfl (wC_skip (wQ_then (wC_seq (wC_block ?_)))))
         have S312 := S309.drew; clear S309
         refine wC_head (C := fun w' => St w.heap.size w w' [.blk b10 #[.int .i64 0, .int .i64 0, .int .i64 0, .int .i64 0] 93, .blk b7 (qRow 0 0 0 (.slice none 0 0) (.slice none 0 0) zeroWs) 29, .blk b4 #[.int .i64 4, .int .i64 ((k : Nat) : Int), .int .i64 id, .int .i64 bd, .int .i64 he, .int .i64 hn] 37, .blk b1 (qRow ep nx gv (.slice A1 rs.length c1) (.slice A2 ls.length c2) W) 29, .rd 2 A1 rs.length ((rs).flatMap Msg.cells), .rd 4 A2 ls.length ((ls).flatMap Ls.cells)]) (m := 11) (listed := #[false, false, false, false, false, false, false, false, false, false, false]) 9 mixed rfl rfl ?_
         refine gk (v := .pointer (some ⟨b26, 3, none⟩)) 0 rfl (S312.dels [2, 1, 0]) (fun _ _ => yfa _ fa29_3) ?_
         refine gk (v := .pointer (some ⟨b1, 4, none⟩)) 2 rfl (S312.dels [2, 1, 0]) (fun _ _ => yfa _ fa29_4) ?_
         refine gk (v := .slice A2 ls.length c2) 3 rfl (S312.dels [2, 1, 0]) (fun _ Sx315 => (y_load rfl rfl (r_load Try.underlying23 rfl (St.cl 3 Sx315 rfl qRow_g4)))) ?_
         refine gk (v := .int .i64 ((j : Nat) : Int)) 4 rfl (S312.dels [2, 1, 0]) (fun _ _ => ym) ?_
         obtain ⟨b317, o318, rfl⟩ := Rd.addr (St.rd 8 S312 rfl) (by omega)
         obtain ⟨x319, hx320⟩ := elm j (St.rd 8 S312 rfl) (by omega)
         refine gk (v := .pointer (some ⟨b317, o318 + j * 4, none⟩)) 5 rfl (S312.dels [2, 1, 0]) (fun _ _ => (y_indexAddr rfl rfl rfl (r_indexAddr j Try.underlying23 inf141 (by omega) (by omega)))) ?_
         refine gk (v := .pointer (some ⟨b317, o318 + j * 4 + 2, none⟩)) 6 rfl (S312.dels [2, 1, 0]) (fun _ _ => yfa _ fa141_1) ?_
         refine gk (v := .agg #[.int .i64 x319.msg.no, .int .i64 x319.msg.body]) 7 rfl (S312.dels [2, 1, 0]) (fun _ Sx323 => (y_load rfl rfl (r_load_agg (cs := [.int .i64 x319.msg.no, .int .i64 x319.msg.body]) Try.underlying137 rfl inf137 rfl (Rd.rg3 (x := 2) (m := 2) (L := Ls.cells x319) (St.rd 5 Sx323 rfl) (fun _ _ h => fm_get (enc := Ls.cells) (sz := 4) (fun _ => rfl) hx320 h) rfl)))) ?_
         refine wG_one (m := 3) (r := 1) (by kernel_rfl) ?_
         refine wH_val (i := 1) rfl rfl (v := .slice Ab (rs.length + j) cb) (wn rfl) rfl rfl (y_load rfl rfl (r_load Try.underlying22 rfl (St.cl 0 S312 rfl qRow_g3))) ?_
         refine ⟨(S312.dels [2, 1, 0]), ?_⟩
         refine wG_one (m := 2) (r := 8) (by kernel_rfl) ?_
         have hfl : ((ls.take j).foldl (fun l x => putMsg x.msg l) rs).length = rs.length + j := by rw [fold_len, List.length_take]; omega
         have HM := fun A c w (h : Rd w w.heap.size 2 A ((ls.take j).foldl (fun l x => putMsg x.msg l) rs).length (((ls.take j).foldl (fun l x => putMsg x.msg l) rs).flatMap Msg.cells)) => messageIn_calls A c ((ls.take j).foldl (fun l x => putMsg x.msg l) rs) x319.msg w h (by omega)
         rw [hfl, fold_step hx320] at HM
         refine wH_call (i := 8) rfl rfl (wn rfl) rfl rfl (e_call (vs := [.slice Ab (rs.length + j) cb, .agg #[.int .i64 x319.msg.no, .int .i64 x319.msg.body]]) rfl en151 ⟨rfl, rfl, trivial⟩) (HM Ab cb _ (St.ord 2 S312 rfl)) ?_
         rintro _ w328 ⟨A324, c325, rfl, hb326, ho327⟩
         refine ⟨_, rfl, ?_⟩
         have S329 := S312.onOwn hb326 ho327; clear HM hfl hb326 ho327 S312
         change St _ _ _ [.own 137 2 (.slice A324 (rs.length + j + 1) c325) (rs.length + j + 1) (((ls.take (j + 1)).foldl (fun l x => putMsg x.msg l) rs).flatMap Msg.cells), .blk b26 (qRow ep nx gv (.slice Ab (rs.length + j) cb) (.slice A21 ls.length c22) W) 29, .own 141 4 (.slice A21 ls.length c22) ls.length ((ls).flatMap Ls.cells), .own 137 2 (.slice Ab (rs.length + j) cb) (rs.length + j) (((ls.take j).foldl (fun l x => putMsg x.msg l) rs).flatMap Msg.cells), .blk b10 #[.int .i64 0, .int .i64 0, .int .i64 0, .int .i64 0] 93, .blk b7 (qRow 0 0 0 (.slice none 0 0) (.slice none 0 0) zeroWs) 29, .blk b4 #[.int .i64 4, .int .i64 ((k : Nat) : Int), .int .i64 id, .int .i64 bd, .int .i64 he, .int .i64 hn] 37, .blk b1 (qRow ep nx gv (.slice A1 rs.length c1) (.slice (some ⟨b317, o318, none⟩) ls.length c2) W) 29, .rd 2 A1 rs.length ((rs).flatMap Msg.cells), .rd 4 (some ⟨b317, o318, none⟩) ls.length ((ls).flatMap Ls.cells)] at S329
         refine ⟨(S329.dels [3, 2, 1, 0]), ?_⟩
         refine wG_tail (by kernel_rfl) rfl rfl rfl ?_
         refine vv (yfa 3 fa29_3) ?_
         refine wL_st (cs := #[.slice A324 (rs.length + j + 1) c325]) (row' := qRow ep nx gv (.slice A324 (rs.length + j + 1) c325) (.slice A21 ls.length c22) W) (fs' := [_, .blk b26 (qRow ep nx gv (.slice A324 (rs.length + j + 1) c325) (.slice A21 ls.length c22) W) 29, _, _, _, _, _, _, _, _]) 1 S329 (wn rfl) rfl rfl rfl rfl rfl rfl inf22 rfl (oneAll rfl) (Nat.le_of_ble_eq_true rfl) qRow_s3 rfl ?_; intro w330 S331; clear S329
         refine wL_nil (wQ_np ?_)
         refine pk [2, 4, 5, 6, 7, 9, 17] ?_
         refine wQ_blk_n (wQ_then (wC_region (vm ?_)))
         refine vv (v := .int .i64 ((j + 1 : Nat) : Int)) (y_binop rfl rfl rfl (r_add (by omega) (by omega))) ?_
         refine va ?_
         refine qk [2, 4, 5, 6, 7, 9, 17] ?_
         have S332 : St _ _ _ [_, _, _, _, _, _, _, _, _] := S331.dels [3]; clear S331
         have S333 : St w.heap.size w w330 [_, _, _, _, _, _, _, _, _] := S332.re [1, 2, 0, 3, 4, 5, 6, 7, 8] (by decide); clear S332
         refine wQ_round (j + 1, A324, c325) ?_ ⟨rfl, rfl, rfl, rfl, rfl, rfl, rfl, trivial⟩ (by first | omega | (dsimp only; omega))
         exact ⟨(by dsimp only; omega), S333⟩
        ·refine vv (ylssF h311) ?_
         refine qk [2, 4, 5, 6, 7, 9, 17, 215] ?_
         refine wQ_then (wC_cond_f rfl (wC_exit (wQ_then_exit (wQ_then_exit (wQ_blk_same (wQ_then (wC_seq (wC_region ?_))))))))
         obtain rfl : j = ls.length := by omega
         have S334 := S309; clear S309
         rw [List.take_length] at S334
         change St _ _ _ [.blk b26 (qRow ep nx gv (.slice Ab (rs.length + ls.length) cb) (.slice A21 ls.length c22) W) 29, .own 141 4 (.slice A21 ls.length c22) ls.length ((ls).flatMap Ls.cells), .own 137 2 (.slice Ab (rs.length + ls.length) cb) (rs.length + ls.length) ((ls.foldl (fun l x => putMsg x.msg l) rs).flatMap Msg.cells), .blk b10 #[.int .i64 0, .int .i64 0, .int .i64 0, .int .i64 0] 93, .blk b7 (qRow 0 0 0 (.slice none 0 0) (.slice none 0 0) zeroWs) 29, .blk b4 #[.int .i64 4, .int .i64 ((k : Nat) : Int), .int .i64 id, .int .i64 bd, .int .i64 he, .int .i64 hn] 37, .blk b1 (qRow ep nx gv (.slice A1 rs.length c1) (.slice A2 ls.length c2) W) 29, .rd 2 A1 rs.length ((rs).flatMap Msg.cells), .rd 4 A2 ls.length ((ls).flatMap Ls.cells)] at S334
         refine vv (yfa 4 fa29_4) ?_
         refine wL_st (cs := #[.slice none 0 0]) (row' := qRow ep nx gv (.slice Ab (rs.length + ls.length) cb) (.slice none 0 0) W) (fs' := [.blk b26 (qRow ep nx gv (.slice Ab (rs.length + ls.length) cb) (.slice none 0 0) W) 29, _, _, _, _, _, _, _, _]) 0 S334 (wn rfl) rfl rfl rfl rfl rfl rfl inf23 rfl (oneAll rfl) (Nat.le_of_ble_eq_true rfl) qRow_s4 rfl ?_; intro w335 S336; clear S334
         refine qk [2, 4, 5, 6, 7, 9] ?_
         refine x_tsr (vv (yfa 0 fa29_0) ?_)
         refine vv (y_load rfl rfl (r_load Try.underlying3 rfl (St.cl 6 S336 rfl qRow_g0))) ?_
         refine vv (v := .int .i64 (ep + 1)) (y_binop rfl rfl rfl (r_add (by omega) (by omega))) ?_
         refine vv (yfa 0 fa29_0) ?_
         refine wL_st (cs := #[.int .i64 (ep + 1)]) (row' := qRow (ep + 1) nx gv (.slice Ab (rs.length + ls.length) cb) (.slice none 0 0) W) (fs' := [.blk b26 (qRow (ep + 1) nx gv (.slice Ab (rs.length + ls.length) cb) (.slice none 0 0) W) 29, _, _, _, _, _, _, _, _]) 0 S336 (wn rfl) rfl rfl rfl rfl rfl rfl inf3 rfl (oneAll rfl) (Nat.le_of_ble_eq_true rfl) qRow_s0 rfl ?_; intro w337 S338; clear S336
         refine qk [4, 5, 6, 7, 9] ?_
         refine x_tsr (vv (yfa 2 fa29_2) ?_)
         refine wL_st (cs := #[.int .i64 0]) (row' := qRow (ep + 1) nx 0 (.slice Ab (rs.length + ls.length) cb) (.slice none 0 0) W) (fs' := [.blk b26 (qRow (ep + 1) nx 0 (.slice Ab (rs.length + ls.length) cb) (.slice none 0 0) W) 29, _, _, _, _, _, _, _, _]) 0 S338 (wn rfl) rfl rfl rfl rfl rfl rfl inf3 rfl (oneAll rfl) (Nat.le_of_ble_eq_true rfl) qRow_s2 rfl ?_; intro w339 S340; clear S338
         refine qk [4, 5, 6, 7, 9] ?_
         refine x_tsr (vv (ylr 0 S340 Try.underlying29 inf29) ?_)
         refine vv (v := .agg #[.int .i64 0, .int .i64 0, .int .i64 0, .int .i64 0]) yz ?_
         refine saq 4 S340 inf29 ?_; intro w341 S342; clear S340
         refine sa 3 S342 inf93 ?_; intro w343 S344; clear S342
         iterate 2 refine va ?_
         refine qk [4, 5, 6, 7] ?_
         refine x_te (wQ_post (rs := [.cell 4 29, .cell 5 93, .tmp 6, .tmp 7]) (vs := [.agg (qRow (ep + 1) nx 0 (.slice Ab (rs.length + ls.length) cb) (.slice none 0 0) W), .agg #[.int .i64 0, .int .i64 0, .int .i64 0, .int .i64 0], .bool true, .int .i64 0]) rfl ⟨⟨_, rfl, res_row 4 S344 rfl Try.underlying29 rfl inf29⟩, ⟨_, rfl, res_row 3 S344 rfl Try.underlying93 rfl inf93⟩, rfl, rfl, trivial⟩ ?_)
         have S345 : St _ _ _ [_] := S344.dels [8, 7, 6, 5, 4, 3, 1, 0]; clear S344
         have S346 : St w.heap.size w w343 (.rdo 4 none 0 ((([] : List Ls)).flatMap Ls.cells) :: [.own 137 2 (.slice Ab (rs.length + ls.length) cb) (rs.length + ls.length) ((ls.foldl (fun l x => putMsg x.msg l) rs).flatMap Msg.cells)]) := rdo_nil S345; clear S345
         have S347 : St w.heap.size w w343 [.own 137 2 (.slice Ab (rs.length + ls.length) cb) (rs.length + ls.length) ((ls.foldl (fun l x => putMsg x.msg l) rs).flatMap Msg.cells), .rdo 4 none 0 ((([] : List Ls)).flatMap Ls.cells)] := S346.re [1, 0] (by decide); clear S346
         have S348 := S347.sealAll 0 rfl; clear S347
         change St _ _ _ [.rdo 2 Ab (rs.length + ls.length) ((ls.foldl (fun l x => putMsg x.msg l) rs).flatMap Msg.cells), _] at S348
         rw [do_ok (Q := ⟨ep, nx, gv, rs, ls, W⟩) h0 h1, show stepM ⟨ep, nx, gv, rs, ls, W⟩ ⟨4, ((k : Nat) : Int), id, bd, he, hn⟩ = endM ⟨ep, nx, gv, rs, ls, W⟩ from by simp [stepM], end_ok h2]
         have hl1 := fold_len ls rs
         refine ⟨Ab, cb, none, 0, ?_, ?_⟩
         · dsimp only; rw [hl1]; rfl
         · dsimp only; rw [hl1]; exact S348
  ·refine vv (yneqT h1) ?_
   refine qk [2, 3, 4, 5, 6, 7, 8, 28] ?_
   refine x_tysr (vv (v := .agg (qRow 0 0 0 (.slice none 0 0) (.slice none 0 0) zeroWs)) yz ?_)
   refine vv (v := .agg #[.int .i64 0, .int .i64 0, .int .i64 0, .int .i64 0]) yz ?_
   refine vm ?_
   refine saq 1 S17 inf29 ?_; intro w349 S350; clear S17
   refine sa 0 S350 inf93 ?_; intro w351 S352; clear S350
   iterate 2 refine va ?_
   refine qk [4, 5, 6, 7] ?_
   refine x_teh (wQ_post (rs := [.cell 4 29, .cell 5 93, .tmp 6, .tmp 7]) (vs := [.agg (qRow 0 0 0 (.slice none 0 0) (.slice none 0 0) zeroWs), .agg #[.int .i64 0, .int .i64 0, .int .i64 0, .int .i64 0], .bool false, .int .i64 (evFault ⟨kd, pr, id, bd, he, hn⟩)]) rfl ⟨⟨_, rfl, res_row 1 S352 rfl Try.underlying29 rfl inf29⟩, ⟨_, rfl, res_row 0 S352 rfl Try.underlying93 rfl inf93⟩, rfl, rfl, trivial⟩ ?_)
   have S353 : St _ _ _ [] := S352.dels [5, 4, 3, 2, 1, 0]; clear S352
   rw [do_ef (Q := ⟨ep, nx, gv, rs, ls, W⟩) h0 h1]
   exact ⟨none, 0, none, 0, rfl, rdo_nil2 S353⟩
 ·refine vv (yneqT h0) ?_
  refine qk [2, 3, 4, 5, 6, 7, 8, 21] ?_
  refine x_tysr (vv (v := .agg (qRow 0 0 0 (.slice none 0 0) (.slice none 0 0) zeroWs)) yz ?_)
  refine vv (v := .agg #[.int .i64 0, .int .i64 0, .int .i64 0, .int .i64 0]) yz ?_
  refine vm ?_
  refine saq 1 S14 inf29 ?_; intro w354 S355; clear S14
  refine sa 0 S355 inf93 ?_; intro w356 S357; clear S355
  iterate 2 refine va ?_
  refine qk [4, 5, 6, 7] ?_
  refine x_teh (wQ_post (rs := [.cell 4 29, .cell 5 93, .tmp 6, .tmp 7]) (vs := [.agg (qRow 0 0 0 (.slice none 0 0) (.slice none 0 0) zeroWs), .agg #[.int .i64 0, .int .i64 0, .int .i64 0, .int .i64 0], .bool false, .int .i64 (queueFault ep nx gv rs ls W)]) rfl ⟨⟨_, rfl, res_row 1 S357 rfl Try.underlying29 rfl inf29⟩, ⟨_, rfl, res_row 0 S357 rfl Try.underlying93 rfl inf93⟩, rfl, rfl, trivial⟩ ?_)
  have S358 : St _ _ _ [] := S357.dels [5, 4, 3, 2, 1, 0]; clear S357
  rw [do_qf (Q := ⟨ep, nx, gv, rs, ls, W⟩) h0]
  exact ⟨none, 0, none, 0, rfl, rdo_nil2 S358⟩
end Go.Proofs.Ytkjlafpafmihaaa

namespace Go.Proofs.Ytkjlafpafmihaaa
open Go.ChangeShapes Go.WideShapes Go.RowKit

/-- A telling's cells: a queue's, a slice. -/
def tRow (e n g : Int) (r l : Value) (W : Wins) (a : Value) : Array Value := (.int .i64 e :: .int .i64 n :: .int .i64 g :: r :: l :: (W.cells ++ [a])).toArray
section
variable {e n g : Int} {r l a : Value} {W : Wins}
theorem tRow_size : (tRow e n g r l W a).size = 42 := rfl
theorem tRow_q : ∀ (j : Nat) (u : Value), (qRow e n g r l W).toList[j]? = some u → (tRow e n g r l W a)[0 + j]? = some u := sub_row (m := 41) rfl
theorem tRow_p0 {e' n' g' : Int} {r' l' : Value} {W' : Wins} : setAll (tRow e n g r l W a) 0 (qRow e' n' g' r' l' W').toList = tRow e' n' g' r' l' W' a := by
  apply Array.toList_inj.1
  rw [setAll_list _ _ _ (by rw [tRow_size]; show 0 + 41 ≤ 42; omega)]
  rfl
end
/-- A telling: its block, its queue's slices, its answers. -/
def tellFacts (g : Nat) (Q : Qd) (an : List Ans) (A1 : Option Addr) (c1 : Nat) (A2 : Option Addr) (c2 : Nat) (A3 : Option Addr) (c3 : Nat) (fs : List Fact) : List Fact :=
  (.blk g (tRow Q.ep Q.nx Q.gv (.slice A1 Q.ready.length c1) (.slice A2 Q.leases.length c2) Q.ws (.slice A3 an.length c3)) 203) :: (.rdo 2 A1 Q.ready.length ((Q.ready).flatMap Msg.cells)) :: (.rdo 4 A2 Q.leases.length ((Q.leases).flatMap Ls.cells)) :: (.own 93 4 (.slice A3 an.length c3) an.length ((an).flatMap Ans.cells)) :: fs
def AddPost (B : Nat) (w0 : World) (g : Nat) (fs : List Fact) (an : List Ans) (r : Qd × Ans × Bool × Int) (e : Ending) (w' : World) : Prop :=
  ((r.2.2.2 = 0 ∧ r.2.2.1 = true) → e = .returned (.bool true) ∧ ∃ A1 c1 A2 c2 A3 c3, St B w0 w' (tellFacts g r.1 (an ++ [r.2.1]) A1 c1 A2 c2 A3 c3 fs)) ∧ (¬ (r.2.2.2 = 0 ∧ r.2.2.1 = true) → e = .returned (.bool false) ∧ St B w0 w' fs)
def TellPost (w : World) (r : Qd × List Ans × Int) (e : Ending) (w' : World) : Prop :=
  (r.2.2 = 0 → ∃ g A1 c1 A2 c2 A3 c3, e = .returned (.tuple #[.pointer (some ⟨g, 0, none⟩), .int .i64 0]) ∧ St w.heap.size w w' (tellFacts g r.1 r.2.1 A1 c1 A2 c2 A3 c3 [])) ∧ (r.2.2 ≠ 0 → e = .returned (.tuple #[.pointer none, .int .i64 r.2.2]) ∧ Below w.heap.size w w')
def ToldPost (w : World) (r : Qd × List Ans × Int) (e : Ending) (w' : World) : Prop := ∃ A1 c1 A2 c2 A3 c3,
  e = .returned (.tuple #[.agg (qRow r.1.ep r.1.nx r.1.gv (.slice A1 r.1.ready.length c1) (.slice A2 r.1.leases.length c2) r.1.ws), .slice A3 r.2.1.length c3, .int .i64 r.2.2]) ∧
  St w.heap.size w w' [.rdo 2 A1 r.1.ready.length (r.1.ready.flatMap Msg.cells), .rdo 4 A2 r.1.leases.length (r.1.leases.flatMap Ls.cells), .rdo 4 A3 r.2.1.length (r.2.1.flatMap Ans.cells)]
def ReplayPost (w : World) (r : Qd × List Ans × Int) (e : Ending) (w' : World) : Prop := ∃ A1 c1 A2 c2,
  e = .returned (.tuple #[.agg (qRow r.1.ep r.1.nx r.1.gv (.slice A1 r.1.ready.length c1) (.slice A2 r.1.leases.length c2) r.1.ws), .int .i64 r.2.2]) ∧
  St w.heap.size w w' [.rdo 2 A1 r.1.ready.length (r.1.ready.flatMap Msg.cells), .rdo 4 A2 r.1.leases.length (r.1.leases.flatMap Ls.cells)]
set_option maxRecDepth 100000 in
set_option maxHeartbeats 2000000 in
theorem add_calls {B g c1 c2 c3 : Nat} {w0 w : World} {fs : List Fact} {A1 A2 A3 : Option Addr} {Q : Qd} {an : List Ans} {x : Ev} (S : St B w0 w (tellFacts g Q an A1 c1 A2 c2 A3 c3 fs)) (hq : Q.ready.length + Q.leases.length ≤ 501) (ha : an.length ≤ 2000) :
    Calls Try.prog 181 #[.pointer (some ⟨g, 0, none⟩), .agg #[.int .i64 x.kind, .int .i64 x.producer, .int .i64 x.id, .int .i64 x.body, .int .i64 x.hepoch, .int .i64 x.hno]] w (AddPost B w0 g fs an (doM Q x)) := by
 unfold tellFacts at S
 obtain ⟨R, hR⟩ : ∃ R, doM Q x = R := ⟨_, rfl⟩
 refine calls_of_wC (N := 40) (vs := [.pointer (some ⟨g, 0, none⟩), .agg #[.int .i64 x.kind, .int .i64 x.producer, .int .i64 x.id, .int .i64 x.body, .int .i64 x.hepoch, .int .i64 x.hno]]) Try.func181 rfl rfl rfl ?_
 refine cw [0, 1] ?_
 refine x_sr (nb (row := #[.int .i64 x.kind, .int .i64 x.producer, .int .i64 x.id, .int .i64 x.body, .int .i64 x.hepoch, .int .i64 x.hno]) S ?_); intro b1 w2 S3; clear S
 refine va ?_
 refine qk [0, 3, 4] ?_
 refine wQ_then (wC_cut (X := Nat × Nat × (Option Addr) × Nat × (Option Addr) × Nat) (fun xv => [(0, .pointer (some ⟨g, 0, none⟩)), (4, .bool false), (5, .pointer (some ⟨xv.1, 0, none⟩)), (6, .pointer (some ⟨xv.2.1, 0, none⟩)), (7, .bool R.2.2.1), (8, .int .i64 R.2.2.2)]) (fun xv wr => St B w0 wr ((.blk xv.2.1 #[.int .i64 R.2.1.code, .int .i64 R.2.1.hep, .int .i64 R.2.1.hno, .int .i64 R.2.1.body] 93) :: (.blk xv.1 (qRow R.1.ep R.1.nx R.1.gv (.slice xv.2.2.1 R.1.ready.length xv.2.2.2.1) (.slice xv.2.2.2.2.1 R.1.leases.length xv.2.2.2.2.2) R.1.ws) 29) :: (.rdo 2 xv.2.2.1 R.1.ready.length ((R.1.ready).flatMap Msg.cells)) :: (.rdo 4 xv.2.2.2.2.1 R.1.leases.length ((R.1.leases).flatMap Ls.cells)) :: (.blk b1 #[.int .i64 x.kind, .int .i64 x.producer, .int .i64 x.id, .int .i64 x.body, .int .i64 x.hepoch, .int .i64 x.hno] 37) :: (.blk g (tRow Q.ep Q.nx Q.gv (.slice A1 Q.ready.length c1) (.slice A2 Q.leases.length c2) Q.ws (.slice A3 an.length c3)) 203) :: (.rdo 2 A1 Q.ready.length ((Q.ready).flatMap Msg.cells)) :: (.rdo 4 A2 Q.leases.length ((Q.leases).flatMap Ls.cells)) :: (.own 93 4 (.slice A3 an.length c3) an.length ((an).flatMap Ans.cells)) :: fs)) ?_ ?_)
 ·have S4 := S3.drew; clear S3
  refine wC_any_ (C := fun w' => St B w0 w' ((.blk b1 #[.int .i64 x.kind, .int .i64 x.producer, .int .i64 x.id, .int .i64 x.body, .int .i64 x.hepoch, .int .i64 x.hno] 37) :: (.blk g (tRow Q.ep Q.nx Q.gv (.slice A1 Q.ready.length c1) (.slice A2 Q.leases.length c2) Q.ws (.slice A3 an.length c3)) 203) :: (.rdo 2 A1 Q.ready.length ((Q.ready).flatMap Msg.cells)) :: (.rdo 4 A2 Q.leases.length ((Q.leases).flatMap Ls.cells)) :: (.own 93 4 (.slice A3 an.length c3) an.length ((an).flatMap Ans.cells)) :: fs)) (n := 17) (listed := #[false, false, false, false, false, false, false, false, false, false, false, false, false, false, false, false, false]) mixed rfl rfl ?_
  refine ak (v := .pointer (some ⟨g, 0, none⟩)) 0 rfl S4 (fun _ _ => ym) ?_
  refine ak (v := .pointer (some ⟨g, 0, none⟩)) 1 rfl S4 (fun _ _ => y_nil rfl rfl trivial) ?_
  refine ak (v := .pointer (some ⟨g, 0, none⟩)) 2 rfl S4 (fun _ _ => yfa _ fa203_0) ?_
  refine ak (v := .agg (qRow Q.ep Q.nx Q.gv (.slice A1 Q.ready.length c1) (.slice A2 Q.leases.length c2) Q.ws)) 3 rfl S4 (fun _ Sx8 => (y_load rfl rfl (r_load_agg (cs := (qRow Q.ep Q.nx Q.gv (.slice A1 Q.ready.length c1) (.slice A2 Q.leases.length c2) Q.ws).toList) Try.underlying29 rfl inf29 rfl (St.rg 1 Sx8 rfl (tRow_q))))) ?_
  refine ak (v := .agg #[.int .i64 x.kind, .int .i64 x.producer, .int .i64 x.id, .int .i64 x.body, .int .i64 x.hepoch, .int .i64 x.hno]) 4 rfl S4 (fun _ Sx9 => ylr 0 Sx9 Try.underlying37 inf37) ?_
  refine wA_three (n := 11) (r := 5) (s := 11) (t := 12) (by kernel_rfl) ?_ ?_ ?_
  ·have HD := fun A1 A2 c1 c2 w h1 h2 => Do_calls Q.ep Q.nx Q.gv x.kind x.producer x.id x.body x.hepoch x.hno A1 A2 c1 c2 Q.ready Q.leases Q.ws w h1 h2 (by unfold reachBytes; omega) (by unfold reachBytes; omega)
   rw [show doM ⟨Q.ep, Q.nx, Q.gv, Q.ready, Q.leases, Q.ws⟩ ⟨x.kind, x.producer, x.id, x.body, x.hepoch, x.hno⟩ = R from hR] at HD
   refine caln 5 rfl en66 (HD A1 A2 c1 c2 _ (St.rdo 2 S4 rfl) (St.rdo 3 S4 rfl)) ?_
   rintro _ w14 ⟨A10, c11, A12, c13, rfl, T16⟩
   refine ⟨_, rfl, ?_⟩
   have S15 := S4.ext T16 rfl; clear T16 S4
   change St _ _ _ ((.rdo 2 A10 R.1.ready.length ((R.1.ready).flatMap Msg.cells)) :: (.rdo 4 A12 R.1.leases.length ((R.1.leases).flatMap Ls.cells)) :: _ :: _ :: _ :: _ :: _ :: fs) at S15; clear HD
   refine ⟨(S15.dels [1, 0]), ?_⟩
   refine ak (v := .tuple #[.agg (qRow R.1.ep R.1.nx R.1.gv (.slice A10 R.1.ready.length c11) (.slice A12 R.1.leases.length c13) R.1.ws), .agg #[.int .i64 R.2.1.code, .int .i64 R.2.1.hep, .int .i64 R.2.1.hno, .int .i64 R.2.1.body], .bool R.2.2.1, .int .i64 R.2.2.2]) 6 rfl (S15.dels [1, 0]) (fun _ _ => ym) ?_
   refine ak (v := .agg (qRow R.1.ep R.1.nx R.1.gv (.slice A10 R.1.ready.length c11) (.slice A12 R.1.leases.length c13) R.1.ws)) 7 rfl (S15.dels [1, 0]) (fun _ _ => yx) ?_
   refine ak (v := .agg #[.int .i64 R.2.1.code, .int .i64 R.2.1.hep, .int .i64 R.2.1.hno, .int .i64 R.2.1.body]) 8 rfl (S15.dels [1, 0]) (fun _ _ => yx) ?_
   refine ak (v := .bool R.2.2.1) 9 rfl (S15.dels [1, 0]) (fun _ _ => yx) ?_
   refine ak (v := .int .i64 R.2.2.2) 10 rfl (S15.dels [1, 0]) (fun _ _ => yx) ?_
   refine wA_two (n := 5) (r := 11) (s := 12) (by kernel_rfl) ?_ ?_
   ·refine nna (row := qRow 0 0 0 (.slice none 0 0) (.slice none 0 0) zeroWs) 11 rfl S15 Try.zeroValue29 ?_; intro b22 w23 S24; clear S15
    refine ⟨(S24.dels [2, 1, 0]), ?_⟩
    refine aq1 12 ?_
    refine nna (row := #[.int .i64 0, .int .i64 0, .int .i64 0, .int .i64 0]) 12 rfl S24 Try.zeroValue93 ?_; intro b25 w26 S27; clear S24
    refine ⟨(S27.dels [3, 2, 1, 0]), ?_⟩
    refine aq1 13 ?_
    refine snq 13 rfl 1 S27 inf29 ?_; intro w28 S29; clear S27
    refine ⟨(S29.dels [3, 2, 1, 0]), ?_⟩
    refine aq1 14 ?_
    refine sn 14 rfl 0 S29 inf93 ?_; intro w30 S31; clear S29
    refine ⟨(S31.dels [3, 2, 1, 0]), ?_⟩
    refine ak (v := .bool R.2.2.1) 15 rfl (S31.dels [3, 2, 1, 0]) (fun _ _ => ya) ?_
    refine ak (v := .int .i64 R.2.2.2) 16 rfl (S31.dels [3, 2, 1, 0]) (fun _ _ => ya) ?_
    refine wA_done (by kernel_rfl) ?_
    refine pk [0, 4, 5, 6, 7, 8] ?_
    refine wQ_cut (b22, b25, A10, c11, A12, c13) ?_ ⟨rfl, rfl, rfl, rfl, rfl, rfl, trivial⟩
    exact S31
   ·refine nna (row := #[.int .i64 0, .int .i64 0, .int .i64 0, .int .i64 0]) 12 rfl S15 Try.zeroValue93 ?_; intro b34 w35 S36; clear S15
    refine ⟨(S36.dels [2, 1, 0]), ?_⟩
    refine aq1 11 ?_
    refine nna (row := qRow 0 0 0 (.slice none 0 0) (.slice none 0 0) zeroWs) 11 rfl S36 Try.zeroValue29 ?_; intro b37 w38 S39; clear S36
    refine ⟨(S39.dels [3, 2, 1, 0]), ?_⟩
    refine aq1 13 ?_
    refine snq 13 rfl 0 S39 inf29 ?_; intro w40 S41; clear S39
    refine ⟨(S41.dels [3, 2, 1, 0]), ?_⟩
    refine aq1 14 ?_
    refine sn 14 rfl 1 S41 inf93 ?_; intro w42 S43; clear S41
    refine ⟨(S43.dels [3, 2, 1, 0]), ?_⟩
    refine ak (v := .bool R.2.2.1) 15 rfl (S43.dels [3, 2, 1, 0]) (fun _ _ => ya) ?_
    refine ak (v := .int .i64 R.2.2.2) 16 rfl (S43.dels [3, 2, 1, 0]) (fun _ _ => ya) ?_
    refine wA_done (by kernel_rfl) ?_
    refine pk [0, 4, 6, 5, 7, 8] ?_
    have S46 : St B w0 w42 (_ :: _ :: _ :: _ :: _ :: _ :: _ :: _ :: _ :: fs) := (((((((((S43.bring 8 rfl).bring 8 rfl).bring 8 rfl).bring 8 rfl).bring 8 rfl).bring 8 rfl).bring 8 rfl).bring 7 rfl).bring 8 rfl); clear S43
    refine wQ_cut (b37, b34, A10, c11, A12, c13) ?_ ⟨rfl, rfl, rfl, rfl, rfl, rfl, trivial⟩
    exact S46
  ·refine nna (row := qRow 0 0 0 (.slice none 0 0) (.slice none 0 0) zeroWs) 11 rfl S4 Try.zeroValue29 ?_; intro b47 w48 S49; clear S4
   refine ⟨(St.del 0 S49), ?_⟩
   refine wA_two (n := 10) (r := 5) (s := 12) (by kernel_rfl) ?_ ?_
   ·have HD := fun A1 A2 c1 c2 w h1 h2 => Do_calls Q.ep Q.nx Q.gv x.kind x.producer x.id x.body x.hepoch x.hno A1 A2 c1 c2 Q.ready Q.leases Q.ws w h1 h2 (by unfold reachBytes; omega) (by unfold reachBytes; omega)
    rw [show doM ⟨Q.ep, Q.nx, Q.gv, Q.ready, Q.leases, Q.ws⟩ ⟨x.kind, x.producer, x.id, x.body, x.hepoch, x.hno⟩ = R from hR] at HD
    refine caln 5 rfl en66 (HD A1 A2 c1 c2 _ (St.rdo 3 S49 rfl) (St.rdo 4 S49 rfl)) ?_
    rintro _ w54 ⟨A50, c51, A52, c53, rfl, T56⟩
    refine ⟨_, rfl, ?_⟩
    have S55 := S49.ext T56 rfl; clear T56 S49
    change St _ _ _ ((.rdo 2 A50 R.1.ready.length ((R.1.ready).flatMap Msg.cells)) :: (.rdo 4 A52 R.1.leases.length ((R.1.leases).flatMap Ls.cells)) :: _ :: _ :: _ :: _ :: _ :: _ :: fs) at S55; clear HD
    refine ⟨(S55.dels [2, 1, 0]), ?_⟩
    refine ak (v := .tuple #[.agg (qRow R.1.ep R.1.nx R.1.gv (.slice A50 R.1.ready.length c51) (.slice A52 R.1.leases.length c53) R.1.ws), .agg #[.int .i64 R.2.1.code, .int .i64 R.2.1.hep, .int .i64 R.2.1.hno, .int .i64 R.2.1.body], .bool R.2.2.1, .int .i64 R.2.2.2]) 6 rfl (S55.dels [2, 1, 0]) (fun _ _ => ym) ?_
    refine ak (v := .agg (qRow R.1.ep R.1.nx R.1.gv (.slice A50 R.1.ready.length c51) (.slice A52 R.1.leases.length c53) R.1.ws)) 7 rfl (S55.dels [2, 1, 0]) (fun _ _ => yx) ?_
    refine ak (v := .agg #[.int .i64 R.2.1.code, .int .i64 R.2.1.hep, .int .i64 R.2.1.hno, .int .i64 R.2.1.body]) 8 rfl (S55.dels [2, 1, 0]) (fun _ _ => yx) ?_
    refine ak (v := .bool R.2.2.1) 9 rfl (S55.dels [2, 1, 0]) (fun _ _ => yx) ?_
    refine ak (v := .int .i64 R.2.2.2) 10 rfl (S55.dels [2, 1, 0]) (fun _ _ => yx) ?_
    refine aq1 12 ?_
    refine nna (row := #[.int .i64 0, .int .i64 0, .int .i64 0, .int .i64 0]) 12 rfl S55 Try.zeroValue93 ?_; intro b62 w63 S64; clear S55
    refine ⟨(S64.dels [3, 2, 1, 0]), ?_⟩
    refine aq1 13 ?_
    refine snq 13 rfl 3 S64 inf29 ?_; intro w65 S66; clear S64
    refine ⟨(S66.dels [3, 2, 1, 0]), ?_⟩
    refine aq1 14 ?_
    refine sn 14 rfl 0 S66 inf93 ?_; intro w67 S68; clear S66
    refine ⟨(S68.dels [3, 2, 1, 0]), ?_⟩
    refine ak (v := .bool R.2.2.1) 15 rfl (S68.dels [3, 2, 1, 0]) (fun _ _ => ya) ?_
    refine ak (v := .int .i64 R.2.2.2) 16 rfl (S68.dels [3, 2, 1, 0]) (fun _ _ => ya) ?_
    refine wA_done (by kernel_rfl) ?_
    refine pk [0, 4, 5, 6, 7, 8] ?_
    have S71 : St B w0 w67 (_ :: _ :: _ :: _ :: _ :: _ :: _ :: _ :: _ :: fs) := (((((((((S68.bring 8 rfl).bring 8 rfl).bring 8 rfl).bring 8 rfl).bring 8 rfl).bring 7 rfl).bring 7 rfl).bring 8 rfl).bring 8 rfl); clear S68
    refine wQ_cut (b47, b62, A50, c51, A52, c53) ?_ ⟨rfl, rfl, rfl, rfl, rfl, rfl, trivial⟩
    exact S71
   ·refine nna (row := #[.int .i64 0, .int .i64 0, .int .i64 0, .int .i64 0]) 12 rfl S49 Try.zeroValue93 ?_; intro b72 w73 S74; clear S49
    refine ⟨(S74.dels [1, 0]), ?_⟩
    refine aq1 5 ?_
    have HD := fun A1 A2 c1 c2 w h1 h2 => Do_calls Q.ep Q.nx Q.gv x.kind x.producer x.id x.body x.hepoch x.hno A1 A2 c1 c2 Q.ready Q.leases Q.ws w h1 h2 (by unfold reachBytes; omega) (by unfold reachBytes; omega)
    rw [show doM ⟨Q.ep, Q.nx, Q.gv, Q.ready, Q.leases, Q.ws⟩ ⟨x.kind, x.producer, x.id, x.body, x.hepoch, x.hno⟩ = R from hR] at HD
    refine caln 5 rfl en66 (HD A1 A2 c1 c2 _ (St.rdo 4 S74 rfl) (St.rdo 5 S74 rfl)) ?_
    rintro _ w79 ⟨A75, c76, A77, c78, rfl, T81⟩
    refine ⟨_, rfl, ?_⟩
    have S80 := S74.ext T81 rfl; clear T81 S74
    change St _ _ _ ((.rdo 2 A75 R.1.ready.length ((R.1.ready).flatMap Msg.cells)) :: (.rdo 4 A77 R.1.leases.length ((R.1.leases).flatMap Ls.cells)) :: _ :: _ :: _ :: _ :: _ :: _ :: _ :: fs) at S80; clear HD
    refine ⟨(S80.dels [3, 2, 1, 0]), ?_⟩
    refine ak (v := .tuple #[.agg (qRow R.1.ep R.1.nx R.1.gv (.slice A75 R.1.ready.length c76) (.slice A77 R.1.leases.length c78) R.1.ws), .agg #[.int .i64 R.2.1.code, .int .i64 R.2.1.hep, .int .i64 R.2.1.hno, .int .i64 R.2.1.body], .bool R.2.2.1, .int .i64 R.2.2.2]) 6 rfl (S80.dels [3, 2, 1, 0]) (fun _ _ => ym) ?_
    refine ak (v := .agg (qRow R.1.ep R.1.nx R.1.gv (.slice A75 R.1.ready.length c76) (.slice A77 R.1.leases.length c78) R.1.ws)) 7 rfl (S80.dels [3, 2, 1, 0]) (fun _ _ => yx) ?_
    refine ak (v := .agg #[.int .i64 R.2.1.code, .int .i64 R.2.1.hep, .int .i64 R.2.1.hno, .int .i64 R.2.1.body]) 8 rfl (S80.dels [3, 2, 1, 0]) (fun _ _ => yx) ?_
    refine ak (v := .bool R.2.2.1) 9 rfl (S80.dels [3, 2, 1, 0]) (fun _ _ => yx) ?_
    refine ak (v := .int .i64 R.2.2.2) 10 rfl (S80.dels [3, 2, 1, 0]) (fun _ _ => yx) ?_
    refine aq1 13 ?_
    refine snq 13 rfl 3 S80 inf29 ?_; intro w87 S88; clear S80
    refine ⟨(S88.dels [3, 2, 1, 0]), ?_⟩
    refine aq1 14 ?_
    refine sn 14 rfl 2 S88 inf93 ?_; intro w89 S90; clear S88
    refine ⟨(S90.dels [3, 2, 1, 0]), ?_⟩
    refine ak (v := .bool R.2.2.1) 15 rfl (S90.dels [3, 2, 1, 0]) (fun _ _ => ya) ?_
    refine ak (v := .int .i64 R.2.2.2) 16 rfl (S90.dels [3, 2, 1, 0]) (fun _ _ => ya) ?_
    refine wA_done (by kernel_rfl) ?_
    refine pk [0, 4, 5, 6, 7, 8] ?_
    have S93 : St B w0 w89 (_ :: _ :: _ :: _ :: _ :: _ :: _ :: _ :: _ :: fs) := (((((((((S90.bring 8 rfl).bring 8 rfl).bring 8 rfl).bring 8 rfl).bring 8 rfl).bring 6 rfl).bring 6 rfl).bring 8 rfl).bring 8 rfl); clear S90
    refine wQ_cut (b47, b72, A75, c76, A77, c78) ?_ ⟨rfl, rfl, rfl, rfl, rfl, rfl, trivial⟩
    exact S93
  ·refine nna (row := #[.int .i64 0, .int .i64 0, .int .i64 0, .int .i64 0]) 12 rfl S4 Try.zeroValue93 ?_; intro b94 w95 S96; clear S4
   refine ⟨(St.del 0 S96), ?_⟩
   refine wA_two (n := 10) (r := 5) (s := 11) (by kernel_rfl) ?_ ?_
   ·have HD := fun A1 A2 c1 c2 w h1 h2 => Do_calls Q.ep Q.nx Q.gv x.kind x.producer x.id x.body x.hepoch x.hno A1 A2 c1 c2 Q.ready Q.leases Q.ws w h1 h2 (by unfold reachBytes; omega) (by unfold reachBytes; omega)
    rw [show doM ⟨Q.ep, Q.nx, Q.gv, Q.ready, Q.leases, Q.ws⟩ ⟨x.kind, x.producer, x.id, x.body, x.hepoch, x.hno⟩ = R from hR] at HD
    refine caln 5 rfl en66 (HD A1 A2 c1 c2 _ (St.rdo 3 S96 rfl) (St.rdo 4 S96 rfl)) ?_
    rintro _ w101 ⟨A97, c98, A99, c100, rfl, T103⟩
    refine ⟨_, rfl, ?_⟩
    have S102 := S96.ext T103 rfl; clear T103 S96
    change St _ _ _ ((.rdo 2 A97 R.1.ready.length ((R.1.ready).flatMap Msg.cells)) :: (.rdo 4 A99 R.1.leases.length ((R.1.leases).flatMap Ls.cells)) :: _ :: _ :: _ :: _ :: _ :: _ :: fs) at S102; clear HD
    refine ⟨(S102.dels [2, 1, 0]), ?_⟩
    refine ak (v := .tuple #[.agg (qRow R.1.ep R.1.nx R.1.gv (.slice A97 R.1.ready.length c98) (.slice A99 R.1.leases.length c100) R.1.ws), .agg #[.int .i64 R.2.1.code, .int .i64 R.2.1.hep, .int .i64 R.2.1.hno, .int .i64 R.2.1.body], .bool R.2.2.1, .int .i64 R.2.2.2]) 6 rfl (S102.dels [2, 1, 0]) (fun _ _ => ym) ?_
    refine ak (v := .agg (qRow R.1.ep R.1.nx R.1.gv (.slice A97 R.1.ready.length c98) (.slice A99 R.1.leases.length c100) R.1.ws)) 7 rfl (S102.dels [2, 1, 0]) (fun _ _ => yx) ?_
    refine ak (v := .agg #[.int .i64 R.2.1.code, .int .i64 R.2.1.hep, .int .i64 R.2.1.hno, .int .i64 R.2.1.body]) 8 rfl (S102.dels [2, 1, 0]) (fun _ _ => yx) ?_
    refine ak (v := .bool R.2.2.1) 9 rfl (S102.dels [2, 1, 0]) (fun _ _ => yx) ?_
    refine ak (v := .int .i64 R.2.2.2) 10 rfl (S102.dels [2, 1, 0]) (fun _ _ => yx) ?_
    refine aq1 11 ?_
    refine nna (row := qRow 0 0 0 (.slice none 0 0) (.slice none 0 0) zeroWs) 11 rfl S102 Try.zeroValue29 ?_; intro b109 w110 S111; clear S102
    refine ⟨(S111.dels [3, 2, 1, 0]), ?_⟩
    refine aq1 13 ?_
    refine snq 13 rfl 0 S111 inf29 ?_; intro w112 S113; clear S111
    refine ⟨(S113.dels [3, 2, 1, 0]), ?_⟩
    refine aq1 14 ?_
    refine sn 14 rfl 3 S113 inf93 ?_; intro w114 S115; clear S113
    refine ⟨(S115.dels [3, 2, 1, 0]), ?_⟩
    refine ak (v := .bool R.2.2.1) 15 rfl (S115.dels [3, 2, 1, 0]) (fun _ _ => ya) ?_
    refine ak (v := .int .i64 R.2.2.2) 16 rfl (S115.dels [3, 2, 1, 0]) (fun _ _ => ya) ?_
    refine wA_done (by kernel_rfl) ?_
    refine pk [0, 4, 6, 5, 7, 8] ?_
    have S118 : St B w0 w114 (_ :: _ :: _ :: _ :: _ :: _ :: _ :: _ :: _ :: fs) := (((((((((S115.bring 8 rfl).bring 8 rfl).bring 8 rfl).bring 8 rfl).bring 8 rfl).bring 7 rfl).bring 7 rfl).bring 7 rfl).bring 8 rfl); clear S115
    refine wQ_cut (b109, b94, A97, c98, A99, c100) ?_ ⟨rfl, rfl, rfl, rfl, rfl, rfl, trivial⟩
    exact S118
   ·refine nna (row := qRow 0 0 0 (.slice none 0 0) (.slice none 0 0) zeroWs) 11 rfl S96 Try.zeroValue29 ?_; intro b119 w120 S121; clear S96
    refine ⟨(S121.dels [1, 0]), ?_⟩
    refine aq1 5 ?_
    have HD := fun A1 A2 c1 c2 w h1 h2 => Do_calls Q.ep Q.nx Q.gv x.kind x.producer x.id x.body x.hepoch x.hno A1 A2 c1 c2 Q.ready Q.leases Q.ws w h1 h2 (by unfold reachBytes; omega) (by unfold reachBytes; omega)
    rw [show doM ⟨Q.ep, Q.nx, Q.gv, Q.ready, Q.leases, Q.ws⟩ ⟨x.kind, x.producer, x.id, x.body, x.hepoch, x.hno⟩ = R from hR] at HD
    refine caln 5 rfl en66 (HD A1 A2 c1 c2 _ (St.rdo 4 S121 rfl) (St.rdo 5 S121 rfl)) ?_
    rintro _ w126 ⟨A122, c123, A124, c125, rfl, T128⟩
    refine ⟨_, rfl, ?_⟩
    have S127 := S121.ext T128 rfl; clear T128 S121
    change St _ _ _ ((.rdo 2 A122 R.1.ready.length ((R.1.ready).flatMap Msg.cells)) :: (.rdo 4 A124 R.1.leases.length ((R.1.leases).flatMap Ls.cells)) :: _ :: _ :: _ :: _ :: _ :: _ :: _ :: fs) at S127; clear HD
    refine ⟨(S127.dels [3, 2, 1, 0]), ?_⟩
    refine ak (v := .tuple #[.agg (qRow R.1.ep R.1.nx R.1.gv (.slice A122 R.1.ready.length c123) (.slice A124 R.1.leases.length c125) R.1.ws), .agg #[.int .i64 R.2.1.code, .int .i64 R.2.1.hep, .int .i64 R.2.1.hno, .int .i64 R.2.1.body], .bool R.2.2.1, .int .i64 R.2.2.2]) 6 rfl (S127.dels [3, 2, 1, 0]) (fun _ _ => ym) ?_
    refine ak (v := .agg (qRow R.1.ep R.1.nx R.1.gv (.slice A122 R.1.ready.length c123) (.slice A124 R.1.leases.length c125) R.1.ws)) 7 rfl (S127.dels [3, 2, 1, 0]) (fun _ _ => yx) ?_
    refine ak (v := .agg #[.int .i64 R.2.1.code, .int .i64 R.2.1.hep, .int .i64 R.2.1.hno, .int .i64 R.2.1.body]) 8 rfl (S127.dels [3, 2, 1, 0]) (fun _ _ => yx) ?_
    refine ak (v := .bool R.2.2.1) 9 rfl (S127.dels [3, 2, 1, 0]) (fun _ _ => yx) ?_
    refine ak (v := .int .i64 R.2.2.2) 10 rfl (S127.dels [3, 2, 1, 0]) (fun _ _ => yx) ?_
    refine aq1 13 ?_
    refine snq 13 rfl 2 S127 inf29 ?_; intro w134 S135; clear S127
    refine ⟨(S135.dels [3, 2, 1, 0]), ?_⟩
    refine aq1 14 ?_
    refine sn 14 rfl 3 S135 inf93 ?_; intro w136 S137; clear S135
    refine ⟨(S137.dels [3, 2, 1, 0]), ?_⟩
    refine ak (v := .bool R.2.2.1) 15 rfl (S137.dels [3, 2, 1, 0]) (fun _ _ => ya) ?_
    refine ak (v := .int .i64 R.2.2.2) 16 rfl (S137.dels [3, 2, 1, 0]) (fun _ _ => ya) ?_
    refine wA_done (by kernel_rfl) ?_
    refine pk [0, 4, 6, 5, 7, 8] ?_
    have S140 : St B w0 w136 (_ :: _ :: _ :: _ :: _ :: _ :: _ :: _ :: _ :: fs) := (((((((((S137.bring 8 rfl).bring 8 rfl).bring 8 rfl).bring 8 rfl).bring 8 rfl).bring 6 rfl).bring 6 rfl).bring 7 rfl).bring 8 rfl); clear S137
    refine wQ_cut (b119, b94, A122, c123, A124, c125) ?_ ⟨rfl, rfl, rfl, rfl, rfl, rfl, trivial⟩
    exact S140
 ·rintro ⟨b141, b142, A143, c144, A145, c146⟩ w147 S148
  try dsimp only at S148; clear S3
  refine cw [0, 4, 5, 6, 7, 8] ?_
  refine x_ssr (vm ?_)
  by_cases h1 : R.2.2.2 = 0
  ·refine vv (yneqF h1) ?_
   refine vm ?_
   refine vg ym ?_
   cases h2 : R.2.2.1
   ·refine vg (v := .bool true) yno ?_
    refine vv ypF ?_
    refine qk [0, 4, 5, 6, 25] ?_
    refine x_tysr (va ?_)
    refine qk [4] ?_
    refine x_teh (pt ?_)
    rw [show doM Q x = R from hR]
    have S149 : St B w0 w147 (fs) := (St.del 0 (St.del 1 (St.del 2 (St.del 3 (St.del 4 (St.del 5 (St.del 6 (St.del 7 (St.del 8 S148))))))))); clear S148
    exact ⟨fun h => absurd h (fun h => by rw [h2] at h; exact absurd h.2 (by simp)), fun _ => ⟨rfl, S149⟩⟩
   ·refine vg (v := .bool false) yno ?_
    refine vv ypF ?_
    refine qk [0, 4, 5, 6, 25] ?_
    refine x_tnktsr (vm ?_)
    refine vv (ylr 1 S148 Try.underlying29 inf29) ?_
    refine vv (y_nil rfl rfl trivial) ?_
    refine vv (yfa 0 fa203_0) ?_
    refine wL_st (cs := qRow R.1.ep R.1.nx R.1.gv (.slice A143 R.1.ready.length c144) (.slice A145 R.1.leases.length c146) R.1.ws) (row' := tRow R.1.ep R.1.nx R.1.gv (.slice A143 R.1.ready.length c144) (.slice A145 R.1.leases.length c146) R.1.ws (.slice A3 an.length c3)) (fs' := (_ :: _ :: _ :: _ :: _ :: (.blk g (tRow R.1.ep R.1.nx R.1.gv (.slice A143 R.1.ready.length c144) (.slice A145 R.1.leases.length c146) R.1.ws (.slice A3 an.length c3)) 203) :: _ :: _ :: _ :: fs)) 5 S148 (wn rfl) rfl rfl rfl rfl rfl rfl inf29 rfl (qRow_one rfl rfl) (Nat.le_of_ble_eq_true rfl) tRow_p0 rfl ?_; intro w150 S151; clear S148
    refine qk [0, 4, 6] ?_
    refine wQ_then (wC_seq ?_)
    have S152 := S151.drew; clear S151
    refine wC_head (C := fun w' => St B w0 w' ((.blk b142 #[.int .i64 R.2.1.code, .int .i64 R.2.1.hep, .int .i64 R.2.1.hno, .int .i64 R.2.1.body] 93) :: (.blk b141 (qRow R.1.ep R.1.nx R.1.gv (.slice A143 R.1.ready.length c144) (.slice A145 R.1.leases.length c146) R.1.ws) 29) :: (.rdo 2 A143 R.1.ready.length ((R.1.ready).flatMap Msg.cells)) :: (.rdo 4 A145 R.1.leases.length ((R.1.leases).flatMap Ls.cells)) :: (.blk b1 #[.int .i64 x.kind, .int .i64 x.producer, .int .i64 x.id, .int .i64 x.body, .int .i64 x.hepoch, .int .i64 x.hno] 37) :: (.blk g (tRow R.1.ep R.1.nx R.1.gv (.slice A143 R.1.ready.length c144) (.slice A145 R.1.leases.length c146) R.1.ws (.slice A3 an.length c3)) 203) :: (.rdo 2 A1 Q.ready.length ((Q.ready).flatMap Msg.cells)) :: (.rdo 4 A2 Q.leases.length ((Q.leases).flatMap Ls.cells)) :: fs)) (m := 11) (listed := #[false, false, false, false, false, false, false, false, false, false, false]) 8 mixed rfl rfl ?_
    refine gk (v := .pointer (some ⟨g, 0, none⟩)) 0 rfl (St.del 8 S152) (fun _ _ => ym) ?_
    refine gk (v := .pointer (some ⟨g, 0, none⟩)) 1 rfl (St.del 8 S152) (fun _ _ => ym) ?_
    refine gk (v := .pointer (some ⟨g, 0, none⟩)) 2 rfl (St.del 8 S152) (fun _ _ => y_nil rfl rfl trivial) ?_
    refine gk (v := .pointer (some ⟨g, 41, none⟩)) 3 rfl (St.del 8 S152) (fun _ _ => yfa _ fa203_1) ?_
    refine gk (v := .slice A3 an.length c3) 4 rfl (St.del 8 S152) (fun _ Sx157 => ylc 5 Sx157 Try.underlying103) ?_
    refine gk (v := .agg #[.int .i64 R.2.1.code, .int .i64 R.2.1.hep, .int .i64 R.2.1.hno, .int .i64 R.2.1.body]) 5 rfl (St.del 8 S152) (fun _ Sx158 => ylr 0 Sx158 Try.underlying93 inf93) ?_
    refine wG_one (m := 4) (r := 6) (by kernel_rfl) ?_
    refine wH_new (i := 6) rfl rfl (V := fun b => .slice (some ⟨b, 0, none⟩) 1 1) (row := #[.int .i64 R.2.1.code, .int .i64 R.2.1.hep, .int .i64 R.2.1.hno, .int .i64 R.2.1.body]) (t := 93) S152 (wn rfl) rfl rfl (d_buildSlice (vs := [(0, .agg #[.int .i64 R.2.1.code, .int .i64 R.2.1.hep, .int .i64 R.2.1.hno, .int .i64 R.2.1.body])]) rfl ⟨rfl, rfl, trivial⟩ (by kernel_rfl)) ?_; intro b159 w160 S161; clear S152
    refine ⟨(S161.dels [9, 0]), ?_⟩
    refine wG_one (m := 3) (r := 7) (by kernel_rfl) ?_
    refine wH_append (i := 7) rfl rfl (news := [.int .i64 R.2.1.code, .int .i64 R.2.1.hep, .int .i64 R.2.1.hno, .int .i64 R.2.1.body]) (xs' := (an ++ [R.2.1]).flatMap Ans.cells) 9 S161 (wn rfl) rfl rfl rfl rfl rfl rfl (St.bld (xs := [.int .i64 R.2.1.code, .int .i64 R.2.1.hep, .int .i64 R.2.1.hno, .int .i64 R.2.1.body]) 0 S161 rfl rfl rfl) Try.underlying103 infz93 rfl (by decide) (oneAll rfl) (by simp only [maxLen]; omega) (by omega) (fm_snoc (enc := Ans.cells) rfl rfl) ?_; intro A162 c163 w164 hc166 hm167 S165; clear S161
    change St _ _ _ (_ :: _ :: _ :: _ :: _ :: _ :: _ :: _ :: _ :: (.own 93 4 (.slice A162 (an.length + 1) c163) (an.length + 1) ((an ++ [R.2.1]).flatMap Ans.cells)) :: fs) at S165
    refine ⟨(S165.dels [9, 0]), ?_⟩
    refine wG_tail (by kernel_rfl) rfl rfl rfl ?_
    refine vv (y_nil rfl rfl trivial) ?_
    refine vv (yfa 41 fa203_1) ?_
    refine wL_st (cs := #[.slice A162 (an.length + 1) c163]) (row' := tRow R.1.ep R.1.nx R.1.gv (.slice A143 R.1.ready.length c144) (.slice A145 R.1.leases.length c146) R.1.ws (.slice A162 (an.length + 1) c163)) (fs' := (_ :: _ :: _ :: _ :: _ :: _ :: (.blk g (tRow R.1.ep R.1.nx R.1.gv (.slice A143 R.1.ready.length c144) (.slice A145 R.1.leases.length c146) R.1.ws (.slice A162 (an.length + 1) c163)) 203) :: _ :: _ :: _ :: fs)) 6 S165 (wn rfl) rfl rfl rfl rfl rfl rfl inf103 rfl (oneAll rfl) (Nat.le_of_ble_eq_true rfl) rfl rfl ?_; intro w168 S169; clear S165
    refine wL_nil (wQ_np ?_)
    refine pk [4] ?_
    refine x_tsr (va ?_)
    refine wL_nil (wQ_then (wC_ret (pt ?_)))
    rw [show doM Q x = R from hR]
    have S170 : St B w0 w168 (_ :: _ :: _ :: _ :: fs) := (St.del 0 (St.del 1 (St.del 2 (St.del 5 (St.del 7 (St.del 8 S169)))))); clear S169
    have S171 : St B w0 w168 (_ :: _ :: _ :: _ :: fs) := ((((S170.bring 3 rfl).bring 2 rfl).bring 2 rfl).bring 3 rfl); clear S170
    have hal : (an ++ [R.2.1]).length = an.length + 1 := by simp
    refine ⟨fun _ => ⟨rfl, A143, c144, A145, c146, A162, c163, ?_⟩, fun h => absurd ⟨h1, h2⟩ h⟩
    unfold tellFacts
    rw [hal]
    exact S171
  ·refine vv (yneqT h1) ?_
   refine vm ?_
   iterate 2 refine vs ?_
   refine vv ypT ?_
   refine qk [0, 4, 5, 6, 25] ?_
   refine x_tysr (va ?_)
   refine qk [4] ?_
   refine x_teh (pt ?_)
   rw [show doM Q x = R from hR]
   have S172 : St B w0 w147 (fs) := (St.del 0 (St.del 1 (St.del 2 (St.del 3 (St.del 4 (St.del 5 (St.del 6 (St.del 7 (St.del 8 S148))))))))); clear S148
   exact ⟨fun h => absurd h (fun h => h1 h.1), fun _ => ⟨rfl, S172⟩⟩

theorem tellM_zero {l : List Ev} (h : ¬ (tellM l).2.2 = 0) : (tellM l).1 = zeroQd ∧ (tellM l).2.1 = [] := by
  by_cases hl : 2000 < l.length
  · rw [tellM_big hl]; exact ⟨rfl, rfl⟩
  · cases hg : tellGo zeroQd [] l with
    | none => rw [tellM_no hl hg]; exact ⟨rfl, rfl⟩
    | some r => rw [tellM_ok hl hg] at h; exact absurd rfl h

set_option maxRecDepth 100000 in
set_option maxHeartbeats 2000000 in
theorem tell_calls (A : Option Addr) (c : Nat) (l : List Ev) (w : World) (h : Rd w w.heap.size 6 A l.length (evCells l)) (hl : l.length ≤ 1152921504606846976) :
    Calls Try.prog 153 #[.slice A l.length c] w (TellPost w (tellM l)) := by
 have S := (St.start w).addRd h; clear h
 refine fnw 24 Try.func153 ?_
 refine cw [0] ?_
 refine x_sr (va ?_)
 refine va ?_
 refine wL_nil (wQ_then (wC_seq (wC_seq (wC_region (vm ?_)))))
 refine vv (v := .int .i64 ((l.length : Nat) : Int)) (y_builtin (vs := [.slice A l.length c]) rfl ⟨rfl, trivial⟩ fun _ => r_len rfl Try.underlying57) ?_
 by_cases h1 : 2000 < ((l.length : Nat) : Int)
 ·refine vv (ygtrT h1) ?_
  refine qk [0, 2, 3, 9] ?_
  refine x_tysr (va ?_)
  refine va ?_
  refine qk [2, 3] ?_
  refine x_teh (wQ_post (rs := [.tmp 2, .tmp 3]) (vs := [.pointer none, .int .i64 1]) rfl ⟨rfl, rfl, trivial⟩ ?_)
  rw [tellM_big (by omega)]
  exact ⟨fun h => absurd h (by decide), fun _ => ⟨rfl, S.low⟩⟩
 ·refine vv (ygtrF h1) ?_
  refine qk [0, 2, 3, 9] ?_
  refine x_tnktsr (vv (v := .agg (tRow 0 0 0 (.slice none 0 0) (.slice none 0 0) zeroWs (.slice none 0 0))) yz ?_)
  refine nb (row := tRow 0 0 0 (.slice none 0 0) (.slice none 0 0) zeroWs (.slice none 0 0)) S ?_; intro b2 w3 S4; clear S
  refine va ?_
  refine qk [0, 2, 3, 4] ?_
  refine x_tssr (vm ?_)
  refine vv (v := .int .i64 ((l.length : Nat) : Int)) (y_builtin (vs := [.slice A l.length c]) rfl ⟨rfl, trivial⟩ fun _ => r_len rfl Try.underlying57) ?_
  refine vm ?_
  refine qk [2, 3, 4, 12, 13, 14] ?_
  refine wQ_then (wC_block ?_)
  have S5 := rdo_nil (s := 2) (rdo_nil (s := 4) (S4.nil 93 4)); clear S4
  change St _ _ _ [.rdo 2 none 0 ((zeroQd.ready).flatMap Msg.cells), .rdo 4 none 0 ((zeroQd.leases).flatMap Ls.cells), .own 93 4 (.slice none 0 0) 0 (([]).flatMap Ans.cells), .blk b2 (tRow 0 0 0 (.slice none 0 0) (.slice none 0 0) zeroWs (.slice none 0 0)) 203, .rd 6 A l.length ((l).flatMap Ev.cells)] at S5
  have S6 : St w.heap.size w w3 [_, _, _, _, _] := S5.re [3, 0, 1, 2, 4] (by decide); clear S5
  refine wC_loop (X := Nat × Qd × (List Ans) × (Option Addr) × Nat × (Option Addr) × Nat × (Option Addr) × Nat) (fun xv => [(2, .pointer none), (3, .int .i64 0), (4, .pointer (some ⟨b2, 0, none⟩)), (12, .slice A l.length c), (13, .int .i64 ((l.length : Nat) : Int)), (14, .int .i64 ((xv.1 : Nat) : Int))]) (fun xv wr => (xv.1 ≤ l.length) ∧ (tellGo zeroQd [] l = tellGo xv.2.1 xv.2.2.1 (l.drop xv.1)) ∧ (xv.2.1.ready.length + xv.2.1.leases.length ≤ 501) ∧ (xv.2.2.1.length = xv.1) ∧ St w.heap.size w wr [.blk b2 (tRow xv.2.1.ep xv.2.1.nx xv.2.1.gv (.slice xv.2.2.2.1 xv.2.1.ready.length xv.2.2.2.2.1) (.slice xv.2.2.2.2.2.1 xv.2.1.leases.length xv.2.2.2.2.2.2.1) xv.2.1.ws (.slice xv.2.2.2.2.2.2.2.1 xv.2.2.1.length xv.2.2.2.2.2.2.2.2)) 203, .rdo 2 xv.2.2.2.1 xv.2.1.ready.length ((xv.2.1.ready).flatMap Msg.cells), .rdo 4 xv.2.2.2.2.2.1 xv.2.1.leases.length ((xv.2.1.leases).flatMap Ls.cells), .own 93 4 (.slice xv.2.2.2.2.2.2.2.1 xv.2.2.1.length xv.2.2.2.2.2.2.2.2) xv.2.2.1.length ((xv.2.2.1).flatMap Ans.cells), .rd 6 A l.length ((l).flatMap Ev.cells)]) (fun xv => l.length - xv.1) (0, zeroQd, [], none, 0, none, 0, none, 0) ?_ ?_ ?_
  ·exact ⟨Nat.zero_le _, rfl, (by simp [zeroQd]), rfl, S6⟩
  ·exact ⟨rfl, rfl, rfl, rfl, rfl, rfl, trivial⟩
  ·rintro ⟨k, Q, an, A1, c1, A2, c2, A3, c3⟩ w7 ⟨hi9, hi10, hi11, hi12, S8⟩
   try dsimp only at hi9 hi10 hi11 hi12 S8; clear S6
   refine cw [2, 3, 4, 12, 13, 14] ?_
   refine x_sr ?_
   by_cases h13 : ((k : Nat) : Int) < ((l.length : Nat) : Int)
   ·refine vv (ylssT h13) ?_
    refine wL_nil (wQ_then (wC_seq (wC_cond_t rfl (wC_skip (wQ_then (wC_seq (wC_block (wC_seq (wC_region ?_)))))))))
    obtain ⟨b14, o15, rfl⟩ := Rd.addr (St.rd 4 S8 rfl) (by omega)
    obtain ⟨x16, hx17⟩ := elm k (St.rd 4 S8 rfl) (by omega)
    refine vv (v := .pointer (some ⟨b14, o15 + k * 6, none⟩)) (y_indexAddr rfl rfl rfl (r_indexAddr k Try.underlying57 inf37 (by omega) (by omega))) ?_
    refine vv (y_load rfl rfl (r_load_agg (cs := Ev.cells x16) Try.underlying37 rfl inf37 rfl (Rd.rg2 (St.rd 4 S8 rfl) (fun _ _ h => fm_get (enc := Ev.cells) (sz := 6) (fun _ => rfl) hx17 h)))) ?_
    refine na (row := #[.int .i64 0, .int .i64 0, .int .i64 0, .int .i64 0, .int .i64 0, .int .i64 0]) S8 Try.zeroValue37 ?_; intro b18 w19 S20; clear S8
    refine sa 0 S20 inf37 ?_; intro w21 S22; clear S20
    refine qk [2, 3, 4, 12, 13, 14, 6] ?_
    refine x_tsr (vm ?_)
    refine vv (ylr 0 S22 Try.underlying37 inf37) ?_
    have S23 : St w.heap.size w w21 [_, _, _, _, _, _] := S22.re [1, 2, 3, 4, 0, 5] (by decide); clear S22
    obtain ⟨R, hR⟩ : ∃ R, doM Q x16 = R := ⟨_, rfl⟩
    have HA := add_calls (fs := [.blk b18 #[.int .i64 x16.kind, .int .i64 x16.producer, .int .i64 x16.id, .int .i64 x16.body, .int .i64 x16.hepoch, .int .i64 x16.hno] 37, .rd 6 (some ⟨b14, o15, none⟩) l.length ((l).flatMap Ev.cells)]) (x := x16) (show St _ _ _ (tellFacts _ _ _ _ _ _ _ _ _ _) from S23) hi11 (by omega)
    rw [hR] at HA
    by_cases hok : R.2.2.2 = 0 ∧ R.2.2.1 = true
    ·refine wL_call (wn rfl) rfl rfl (e_call (vs := [.pointer (some ⟨b2, 0, none⟩), .agg #[.int .i64 x16.kind, .int .i64 x16.producer, .int .i64 x16.id, .int .i64 x16.body, .int .i64 x16.hepoch, .int .i64 x16.hno]]) rfl en181 ⟨rfl, rfl, trivial⟩) (HA.mono fun _ _ h => h.1 hok) ?_
     rintro _ w24 ⟨rfl, A26, c27, A28, c29, A30, c31, S25⟩
     refine ⟨_, rfl, ?_⟩
     change St _ _ _ [.blk b2 (tRow R.1.ep R.1.nx R.1.gv (.slice A26 R.1.ready.length c27) (.slice A28 R.1.leases.length c29) R.1.ws (.slice A30 ((an ++ [R.2.1]).length) c31)) 203, .rdo 2 A26 R.1.ready.length ((R.1.ready).flatMap Msg.cells), .rdo 4 A28 R.1.leases.length ((R.1.leases).flatMap Ls.cells), .own 93 4 (.slice A30 ((an ++ [R.2.1]).length) c31) ((an ++ [R.2.1]).length) ((an ++ [R.2.1]).flatMap Ans.cells), .blk b18 #[.int .i64 x16.kind, .int .i64 x16.producer, .int .i64 x16.id, .int .i64 x16.body, .int .i64 x16.hepoch, .int .i64 x16.hno] 37, .rd 6 (some ⟨b14, o15, none⟩) l.length ((l).flatMap Ev.cells)] at S25; clear HA
     refine vv (v := .bool false) yno ?_
     refine qk [2, 3, 4, 12, 13, 14, 21] ?_
     refine wQ_then (wC_cond_f rfl (wC_skip (wQ_blk_n (wQ_then (wC_region (vv (v := .int .i64 ((k + 1 : Nat) : Int)) (y_binop rfl rfl rfl (r_add (by omega) (by omega))) ?_))))))
     refine vm ?_
     refine qk [2, 3, 4, 12, 13, 14] ?_
     have S32 : St w.heap.size w w24 [_, _, _, _, _] := S25.re [0, 1, 2, 3, 5] (by decide); clear S25
     refine wQ_round (k + 1, R.1, an ++ [R.2.1], A26, c27, A28, c29, A30, c31) ?_ ⟨rfl, rfl, rfl, rfl, rfl, rfl, trivial⟩ (by first | omega | (dsimp only; omega))
     exact ⟨(by dsimp only; omega), (by dsimp only; rw [hi10, tellGo_step hx17 (by rw [hR]; exact hok.1) (by rw [hR]; exact hok.2), hR]), by dsimp only; exact hR ▸ do_len (by rw [hR]; exact hok.1), (by dsimp only; rw [List.length_append, hi12]; rfl), S32⟩
    ·refine wL_call (wn rfl) rfl rfl (e_call (vs := [.pointer (some ⟨b2, 0, none⟩), .agg #[.int .i64 x16.kind, .int .i64 x16.producer, .int .i64 x16.id, .int .i64 x16.body, .int .i64 x16.hepoch, .int .i64 x16.hno]]) rfl en181 ⟨rfl, rfl, trivial⟩) (HA.mono fun _ _ h => h.2 hok) ?_
     rintro _ w33 ⟨rfl, S34⟩
     refine ⟨_, rfl, ?_⟩
     change St _ _ _ [.blk b18 #[.int .i64 x16.kind, .int .i64 x16.producer, .int .i64 x16.id, .int .i64 x16.body, .int .i64 x16.hepoch, .int .i64 x16.hno] 37, .rd 6 (some ⟨b14, o15, none⟩) l.length ((l).flatMap Ev.cells)] at S34; clear HA
     refine vv (v := .bool true) yno ?_
     refine qk [2, 3, 4, 12, 13, 14, 21] ?_
     refine x_tysr (va ?_)
     refine va ?_
     refine qk [2, 3] ?_
     refine wQ_then (wC_ret (wQ_blk_ret (wQ_then_ret (wQ_then_ret (wQ_blk_ret (wQ_then_ret (wQ_post (rs := [.tmp 2, .tmp 3]) (vs := [.pointer none, .int .i64 3]) rfl ⟨rfl, rfl, trivial⟩ ?_)))))))
     rw [tellM_no (by omega) (by rw [hi10]; exact tellGo_stop hx17 (by rw [hR]; exact hok))]
     exact ⟨fun h => absurd h (by decide), fun _ => ⟨rfl, S34.low⟩⟩
   ·refine vv (ylssF h13) ?_
    refine wL_nil (wQ_then (wC_seq (wC_cond_f rfl (wC_exit (wQ_then_exit (wQ_then_exit (wQ_blk_same (wQ_then (wC_seq (wC_region (vm ?_)))))))))))
    iterate 2 refine va ?_
    refine qk [2, 3] ?_
    refine x_te (wQ_post (rs := [.tmp 2, .tmp 3]) (vs := [.pointer (some ⟨b2, 0, none⟩), .int .i64 0]) rfl ⟨rfl, rfl, trivial⟩ ?_)
    have S41 : St w.heap.size w w7 [_, _, _, _] := S8.re [0, 1, 2, 3] (by decide); clear S8
    rw [tellM_ok (r := (Q, an)) (by omega) (by rw [hi10]; exact tellGo_end (by omega))]
    exact ⟨fun _ => ⟨b2, A1, c1, A2, c2, A3, c3, rfl, S41⟩, fun h => absurd rfl h⟩

set_option maxRecDepth 100000 in
set_option maxHeartbeats 1000000 in
theorem Replay_calls (A : Option Addr) (c : Nat) (l : List Ev) (w : World) (h : Rd w w.heap.size 6 A l.length (evCells l)) (hl : l.length ≤ 1152921504606846976) :
    Calls Try.prog 70 #[.slice A l.length c] w (ReplayPost w (tellM l)) := by
 have S := (St.start w).addRd h; clear h
 refine fnw 19 Try.func70 ?_
 refine cw [0] ?_
 refine x_sr (na (row := qRow 0 0 0 (.slice none 0 0) (.slice none 0 0) zeroWs) S Try.zeroValue29 ?_); intro b1 w2 S3; clear S
 refine va ?_
 refine wL_nil (wQ_then (wC_seq (wC_region (vm ?_))))
 have HT := fun w h => tell_calls A c l w h hl
 by_cases ht : (tellM l).2.2 = 0
 ·refine cal en153 ((HT _ (St.rd 1 S3 rfl)).mono fun _ _ h => h.1 ht) ?_
  rintro _ w4 ⟨b7, A8, c9, A10, c11, A12, c13, rfl, T6⟩
  refine ⟨_, rfl, ?_⟩
  unfold tellFacts at T6
  have S5 := S3.ext T6 rfl; clear HT T6 S3
  change St _ _ _ [.blk b7 (tRow ((tellM l).1.ep) ((tellM l).1.nx) ((tellM l).1.gv) (.slice A8 ((tellM l).1.ready.length) c9) (.slice A10 ((tellM l).1.leases.length) c11) ((tellM l).1.ws) (.slice A12 ((tellM l).2.1.length) c13)) 203, .rdo 2 A8 ((tellM l).1.ready.length) (((tellM l).1.ready).flatMap Msg.cells), .rdo 4 A10 ((tellM l).1.leases.length) (((tellM l).1.leases).flatMap Ls.cells), .own 93 4 (.slice A12 ((tellM l).2.1.length) c13) ((tellM l).2.1.length) (((tellM l).2.1).flatMap Ans.cells), .blk b1 (qRow 0 0 0 (.slice none 0 0) (.slice none 0 0) zeroWs) 29, .rd 6 A l.length ((l).flatMap Ev.cells)] at S5
  refine vm ?_
  refine vv yx ?_
  refine vv yx ?_
  iterate 2 refine va ?_
  refine qk [2, 3, 4, 5] ?_
  refine x_tssr (vm ?_)
  refine vv (yneqF rfl) ?_
  refine qk [2, 3, 4, 5, 12] ?_
  refine x_tnktsr (vm ?_)
  refine vv (y_nil rfl rfl trivial) ?_
  refine vv (yfa 0 fa203_0) ?_
  refine vv (y_load rfl rfl (r_load_agg (cs := (qRow ((tellM l).1.ep) ((tellM l).1.nx) ((tellM l).1.gv) (.slice A8 ((tellM l).1.ready.length) c9) (.slice A10 ((tellM l).1.leases.length) c11) ((tellM l).1.ws)).toList) Try.underlying29 rfl inf29 rfl (St.rg 0 S5 rfl (tRow_q)))) ?_
  refine saq 4 S5 inf29 ?_; intro w14 S15; clear S5
  refine va ?_
  refine qk [2, 3] ?_
  refine x_te (pc 4 S15 Try.underlying29 inf29 ?_)
  have S16 : St w.heap.size w w14 [_, _] := S15.re [1, 2] (by decide); clear S15
  refine ⟨A8, c9, A10, c11, ?_, S16⟩
  rw [ht]; rfl
 ·refine cal en153 ((HT _ (St.rd 1 S3 rfl)).mono fun _ _ h => h.2 ht) ?_
  rintro _ w17 ⟨rfl, T19⟩
  refine ⟨_, rfl, ?_⟩
  have S18 := S3.on T19; clear HT T19 S3
  change St _ _ _ [.blk b1 (qRow 0 0 0 (.slice none 0 0) (.slice none 0 0) zeroWs) 29, .rd 6 A l.length ((l).flatMap Ev.cells)] at S18
  refine vm ?_
  refine vv yx ?_
  refine vv yx ?_
  iterate 2 refine va ?_
  refine qk [2, 3, 4, 5] ?_
  refine x_tssr (vm ?_)
  refine vv (yneqT ht) ?_
  refine qk [2, 3, 4, 5, 12] ?_
  refine x_tysr (vv (v := .agg (qRow 0 0 0 (.slice none 0 0) (.slice none 0 0) zeroWs)) yz ?_)
  refine vm ?_
  refine saq 0 S18 inf29 ?_; intro w20 S21; clear S18
  refine va ?_
  refine qk [2, 3] ?_
  refine x_teh (pc 0 S21 Try.underlying29 inf29 ?_)
  have S22 : St _ _ _ [] := S21.dels [1, 0]; clear S21
  have hz := tellM_zero ht
  refine ⟨none, 0, none, 0, ?_, ?_⟩
  · rw [hz.1]; rfl
  · rw [hz.1]; exact rdo_nil2 S22

set_option maxRecDepth 100000 in
set_option maxHeartbeats 2000000 in
theorem Told_calls (A : Option Addr) (c : Nat) (l : List Ev) (w : World) (h : Rd w w.heap.size 6 A l.length (evCells l)) (hl : l.length ≤ 1152921504606846976) :
    Calls Try.prog 154 #[.slice A l.length c] w (ToldPost w (tellM l)) := by
 have S := (St.start w).addRd h; clear h
 refine fnw 47 Try.func154 ?_
 refine cw [0] ?_
 refine x_sr (na (row := qRow 0 0 0 (.slice none 0 0) (.slice none 0 0) zeroWs) S Try.zeroValue29 ?_); intro b1 w2 S3; clear S
 iterate 2 refine va ?_
 refine wL_nil (wQ_then (wC_seq (wC_seq (wC_region (vm ?_)))))
 refine vv (v := .int .i64 ((l.length : Nat) : Int)) (y_builtin (vs := [.slice A l.length c]) rfl ⟨rfl, trivial⟩ fun _ => r_len rfl Try.underlying57) ?_
 by_cases h4 : 2000 < ((l.length : Nat) : Int)
 ·refine vv (ygtrT h4) ?_
  refine qk [0, 2, 3, 4, 14] ?_
  refine x_tysr (vv (v := .agg (qRow 0 0 0 (.slice none 0 0) (.slice none 0 0) zeroWs)) yz ?_)
  refine saq 0 S3 inf29 ?_; intro w5 S6; clear S3
  iterate 2 refine va ?_
  refine qk [2, 3, 4] ?_
  refine x_teh (wQ_post (rs := [.cell 2 29, .tmp 3, .tmp 4]) (vs := [.agg (qRow 0 0 0 (.slice none 0 0) (.slice none 0 0) zeroWs), .slice none 0 0, .int .i64 1]) rfl ⟨⟨_, rfl, res_row 0 S6 rfl Try.underlying29 rfl inf29⟩, rfl, rfl, trivial⟩ ?_)
  rw [tellM_big (by omega)]
  have S7 : St _ _ _ [] := S6.dels [1, 0]; clear S6
  exact ⟨none, 0, none, 0, none, 0, rfl, rdo_nil (rdo_nil (rdo_nil S7))⟩
 ·refine vv (ygtrF h4) ?_
  refine qk [0, 2, 3, 4, 14] ?_
  refine x_tnktsr (na (row := qRow 0 0 0 (.slice none 0 0) (.slice none 0 0) zeroWs) S3 Try.zeroValue29 ?_); intro b8 w9 S10; clear S3
  refine qk [0, 2, 3, 4, 5] ?_
  refine x_tsr (va ?_)
  refine wL_nil (wQ_then (wC_seq (wC_seq (wC_region (va ?_)))))
  refine wL_nil (wQ_then (wC_block ?_))
  have S11 := rdo_nil (s := 2) (rdo_nil (s := 4) (S10.nil 93 4)); clear S10
  change St _ _ _ [.rdo 2 none 0 ((zeroQd.ready).flatMap Msg.cells), .rdo 4 none 0 ((zeroQd.leases).flatMap Ls.cells), .own 93 4 (.slice none 0 0) 0 (([]).flatMap Ans.cells), .blk b8 (qRow 0 0 0 (.slice none 0 0) (.slice none 0 0) zeroWs) 29, .blk b1 (qRow 0 0 0 (.slice none 0 0) (.slice none 0 0) zeroWs) 29, .rd 6 A l.length ((l).flatMap Ev.cells)] at S11
  refine wC_loop (X := Nat × Qd × (List Ans) × (Option Addr) × Nat × (Option Addr) × Nat × (Option Addr) × Nat) (fun xv => [(0, .slice A l.length c), (2, .pointer (some ⟨b1, 0, none⟩)), (3, .slice none 0 0), (4, .int .i64 0), (5, .pointer (some ⟨b8, 0, none⟩)), (6, .slice xv.2.2.2.2.2.2.2.1 xv.1 xv.2.2.2.2.2.2.2.2), (7, .int .i64 ((xv.1 : Nat) : Int))]) (fun xv wr => (xv.1 ≤ l.length) ∧ (tellGo zeroQd [] l = tellGo xv.2.1 xv.2.2.1 (l.drop xv.1)) ∧ (xv.2.1.ready.length + xv.2.1.leases.length ≤ 501) ∧ (xv.2.2.1.length = xv.1) ∧ St w.heap.size w wr [.rdo 2 xv.2.2.2.1 xv.2.1.ready.length ((xv.2.1.ready).flatMap Msg.cells), .rdo 4 xv.2.2.2.2.2.1 xv.2.1.leases.length ((xv.2.1.leases).flatMap Ls.cells), .own 93 4 (.slice xv.2.2.2.2.2.2.2.1 xv.1 xv.2.2.2.2.2.2.2.2) xv.1 ((xv.2.2.1).flatMap Ans.cells), .blk b8 (qRow xv.2.1.ep xv.2.1.nx xv.2.1.gv (.slice xv.2.2.2.1 xv.2.1.ready.length xv.2.2.2.2.1) (.slice xv.2.2.2.2.2.1 xv.2.1.leases.length xv.2.2.2.2.2.2.1) xv.2.1.ws) 29, .blk b1 (qRow 0 0 0 (.slice none 0 0) (.slice none 0 0) zeroWs) 29, .rd 6 A l.length ((l).flatMap Ev.cells)]) (fun xv => l.length - xv.1) (0, zeroQd, [], none, 0, none, 0, none, 0) ?_ ?_ ?_
  ·exact ⟨Nat.zero_le _, rfl, (by simp [zeroQd]), rfl, S11⟩
  ·exact ⟨rfl, rfl, rfl, rfl, rfl, rfl, rfl, trivial⟩
  ·rintro ⟨k, Q, an, A1, c1, A2, c2, A3, c3⟩ w12 ⟨hi14, hi15, hi16, hi17, S13⟩
   try dsimp only at hi14 hi15 hi16 hi17 S13; clear S11
   refine cw [0, 2, 3, 4, 5, 6, 7] ?_
   refine x_ssr (vm ?_)
   refine vm ?_
   refine vv (v := .int .i64 ((l.length : Nat) : Int)) (y_builtin (vs := [.slice A l.length c]) rfl ⟨rfl, trivial⟩ fun _ => r_len rfl Try.underlying57) ?_
   by_cases h18 : ((k : Nat) : Int) < ((l.length : Nat) : Int)
   ·refine vv (ylssT h18) ?_
    refine qk [0, 2, 3, 4, 5, 6, 7, 19] ?_
    refine wQ_then (wC_cond_t rfl (wC_skip (wQ_then (wC_seq (wC_block ?_)))))
    obtain ⟨x19, hx20⟩ := elm k (St.rd 5 S13 rfl) (by omega)
    obtain ⟨R, hR⟩ : ∃ R, doM Q x19 = R := ⟨_, rfl⟩
    obtain ⟨b21, o22, rfl⟩ := Rd.addr (St.rd 5 S13 rfl) (by omega)
    refine wC_cut (X := Nat × Nat × (Option Addr) × Nat × (Option Addr) × Nat) (fun xv => [(0, .slice (some ⟨b21, o22, none⟩) l.length c), (2, .pointer (some ⟨b1, 0, none⟩)), (3, .slice none 0 0), (4, .int .i64 0), (5, .pointer (some ⟨b8, 0, none⟩)), (6, .slice A3 k c3), (7, .int .i64 ((k : Nat) : Int)), (8, .pointer (some ⟨xv.1, 0, none⟩)), (9, .pointer (some ⟨xv.2.1, 0, none⟩)), (10, .bool R.2.2.1), (11, .int .i64 R.2.2.2)]) (fun xv wr => St w.heap.size w wr [.blk xv.2.1 #[.int .i64 R.2.1.code, .int .i64 R.2.1.hep, .int .i64 R.2.1.hno, .int .i64 R.2.1.body] 93, .blk xv.1 (qRow R.1.ep R.1.nx R.1.gv (.slice xv.2.2.1 R.1.ready.length xv.2.2.2.1) (.slice xv.2.2.2.2.1 R.1.leases.length xv.2.2.2.2.2) R.1.ws) 29, .rdo 2 xv.2.2.1 R.1.ready.length ((R.1.ready).flatMap Msg.cells), .rdo 4 xv.2.2.2.2.1 R.1.leases.length ((R.1.leases).flatMap Ls.cells), .rdo 2 A1 Q.ready.length ((Q.ready).flatMap Msg.cells), .rdo 4 A2 Q.leases.length ((Q.leases).flatMap Ls.cells), .own 93 4 (.slice A3 k c3) k ((an).flatMap Ans.cells), .blk b8 (qRow Q.ep Q.nx Q.gv (.slice A1 Q.ready.length c1) (.slice A2 Q.leases.length c2) Q.ws) 29, .blk b1 (qRow 0 0 0 (.slice none 0 0) (.slice none 0 0) zeroWs) 29, .rd 6 (some ⟨b21, o22, none⟩) l.length ((l).flatMap Ev.cells)]) ?_ ?_
    ·have S23 := S13.drew; clear S13
     refine wC_any_ (C := fun w' => St w.heap.size w w' [.rdo 2 A1 Q.ready.length ((Q.ready).flatMap Msg.cells), .rdo 4 A2 Q.leases.length ((Q.leases).flatMap Ls.cells), .own 93 4 (.slice A3 k c3) k ((an).flatMap Ans.cells), .blk b8 (qRow Q.ep Q.nx Q.gv (.slice A1 Q.ready.length c1) (.slice A2 Q.leases.length c2) Q.ws) 29, .blk b1 (qRow 0 0 0 (.slice none 0 0) (.slice none 0 0) zeroWs) 29, .rd 6 (some ⟨b21, o22, none⟩) l.length ((l).flatMap Ev.cells)]) (n := 17) (listed := #[false, false, false, false, false, false, false, false, false, false, false, false, false, false, false, false, false]) mixed rfl rfl ?_
     refine ak (v := .agg (qRow Q.ep Q.nx Q.gv (.slice A1 Q.ready.length c1) (.slice A2 Q.leases.length c2) Q.ws)) 0 rfl S23 (fun _ Sx24 => ylr 3 Sx24 Try.underlying29 inf29) ?_
     refine ak (v := .slice (some ⟨b21, o22, none⟩) l.length c) 1 rfl S23 (fun _ _ => ym) ?_
     refine ak (v := .int .i64 ((k : Nat) : Int)) 2 rfl S23 (fun _ _ => ym) ?_
     refine ak (v := .pointer (some ⟨b21, o22 + k * 6, none⟩)) 3 rfl S23 (fun _ _ => (y_indexAddr rfl rfl rfl (r_indexAddr k Try.underlying57 inf37 (by omega) (by omega)))) ?_
     refine ak (v := .agg #[.int .i64 x19.kind, .int .i64 x19.producer, .int .i64 x19.id, .int .i64 x19.body, .int .i64 x19.hepoch, .int .i64 x19.hno]) 4 rfl S23 (fun _ Sx28 => (y_load rfl rfl (r_load_agg (cs := Ev.cells x19) Try.underlying37 rfl inf37 rfl (Rd.rg2 (St.rd 5 Sx28 rfl) (fun _ _ h => fm_get (enc := Ev.cells) (sz := 6) (fun _ => rfl) hx20 h))))) ?_
     refine wA_three (n := 11) (r := 5) (s := 11) (t := 12) (by kernel_rfl) ?_ ?_ ?_
     ·have HD := fun A1 A2 c1 c2 w h1 h2 => QueueDone_calls Q.ep Q.nx Q.gv x19.kind x19.producer x19.id x19.body x19.hepoch x19.hno A1 A2 c1 c2 Q.ready Q.leases Q.ws w h1 h2 (by unfold reachBytes; omega) (by unfold reachBytes; omega)
      rw [show doM ⟨Q.ep, Q.nx, Q.gv, Q.ready, Q.leases, Q.ws⟩ ⟨x19.kind, x19.producer, x19.id, x19.body, x19.hepoch, x19.hno⟩ = R from hR] at HD
      refine caln 5 rfl en67 (HD A1 A2 c1 c2 _ (St.rdo 0 S23 rfl) (St.rdo 1 S23 rfl)) ?_
      rintro _ w33 ⟨A29, c30, A31, c32, rfl, T35⟩
      refine ⟨_, rfl, ?_⟩
      have S34 := S23.ext T35 rfl; clear T35 S23
      change St _ _ _ [.rdo 2 A29 R.1.ready.length ((R.1.ready).flatMap Msg.cells), .rdo 4 A31 R.1.leases.length ((R.1.leases).flatMap Ls.cells), _, _, _, _, _, _] at S34; clear HD
      refine ⟨(S34.dels [1, 0]), ?_⟩
      refine ak (v := .tuple #[.agg (qRow R.1.ep R.1.nx R.1.gv (.slice A29 R.1.ready.length c30) (.slice A31 R.1.leases.length c32) R.1.ws), .agg #[.int .i64 R.2.1.code, .int .i64 R.2.1.hep, .int .i64 R.2.1.hno, .int .i64 R.2.1.body], .bool R.2.2.1, .int .i64 R.2.2.2]) 6 rfl (S34.dels [1, 0]) (fun _ _ => ym) ?_
      refine ak (v := .agg (qRow R.1.ep R.1.nx R.1.gv (.slice A29 R.1.ready.length c30) (.slice A31 R.1.leases.length c32) R.1.ws)) 7 rfl (S34.dels [1, 0]) (fun _ _ => yx) ?_
      refine ak (v := .agg #[.int .i64 R.2.1.code, .int .i64 R.2.1.hep, .int .i64 R.2.1.hno, .int .i64 R.2.1.body]) 8 rfl (S34.dels [1, 0]) (fun _ _ => yx) ?_
      refine ak (v := .bool R.2.2.1) 9 rfl (S34.dels [1, 0]) (fun _ _ => yx) ?_
      refine ak (v := .int .i64 R.2.2.2) 10 rfl (S34.dels [1, 0]) (fun _ _ => yx) ?_
      refine wA_two (n := 5) (r := 11) (s := 12) (by kernel_rfl) ?_ ?_
      ·refine nna (row := qRow 0 0 0 (.slice none 0 0) (.slice none 0 0) zeroWs) 11 rfl S34 Try.zeroValue29 ?_; intro b41 w42 S43; clear S34
       refine ⟨(S43.dels [2, 1, 0]), ?_⟩
       refine aq1 12 ?_
       refine nna (row := #[.int .i64 0, .int .i64 0, .int .i64 0, .int .i64 0]) 12 rfl S43 Try.zeroValue93 ?_; intro b44 w45 S46; clear S43
       refine ⟨(S46.dels [3, 2, 1, 0]), ?_⟩
       refine aq1 13 ?_
       refine snq 13 rfl 1 S46 inf29 ?_; intro w47 S48; clear S46
       refine ⟨(S48.dels [3, 2, 1, 0]), ?_⟩
       refine aq1 14 ?_
       refine sn 14 rfl 0 S48 inf93 ?_; intro w49 S50; clear S48
       refine ⟨(S50.dels [3, 2, 1, 0]), ?_⟩
       refine ak (v := .bool R.2.2.1) 15 rfl (S50.dels [3, 2, 1, 0]) (fun _ _ => ya) ?_
       refine ak (v := .int .i64 R.2.2.2) 16 rfl (S50.dels [3, 2, 1, 0]) (fun _ _ => ya) ?_
       refine wA_done (by kernel_rfl) ?_
       refine pk [0, 2, 3, 4, 5, 6, 7, 8, 9, 10, 11] ?_
       refine wQ_cut (b41, b44, A29, c30, A31, c32) ?_ ⟨rfl, rfl, rfl, rfl, rfl, rfl, rfl, rfl, rfl, rfl, rfl, trivial⟩
       exact S50
      ·refine nna (row := #[.int .i64 0, .int .i64 0, .int .i64 0, .int .i64 0]) 12 rfl S34 Try.zeroValue93 ?_; intro b53 w54 S55; clear S34
       refine ⟨(S55.dels [2, 1, 0]), ?_⟩
       refine aq1 11 ?_
       refine nna (row := qRow 0 0 0 (.slice none 0 0) (.slice none 0 0) zeroWs) 11 rfl S55 Try.zeroValue29 ?_; intro b56 w57 S58; clear S55
       refine ⟨(S58.dels [3, 2, 1, 0]), ?_⟩
       refine aq1 13 ?_
       refine snq 13 rfl 0 S58 inf29 ?_; intro w59 S60; clear S58
       refine ⟨(S60.dels [3, 2, 1, 0]), ?_⟩
       refine aq1 14 ?_
       refine sn 14 rfl 1 S60 inf93 ?_; intro w61 S62; clear S60
       refine ⟨(S62.dels [3, 2, 1, 0]), ?_⟩
       refine ak (v := .bool R.2.2.1) 15 rfl (S62.dels [3, 2, 1, 0]) (fun _ _ => ya) ?_
       refine ak (v := .int .i64 R.2.2.2) 16 rfl (S62.dels [3, 2, 1, 0]) (fun _ _ => ya) ?_
       refine wA_done (by kernel_rfl) ?_
       refine pk [0, 2, 3, 4, 5, 6, 7, 9, 8, 10, 11] ?_
       have S65 : St w.heap.size w w61 [_, _, _, _, _, _, _, _, _, _] := S62.re [1, 0, 2, 3, 4, 5, 6, 7, 8, 9] (by decide); clear S62
       refine wQ_cut (b56, b53, A29, c30, A31, c32) ?_ ⟨rfl, rfl, rfl, rfl, rfl, rfl, rfl, rfl, rfl, rfl, rfl, trivial⟩
       exact S65
     ·refine nna (row := qRow 0 0 0 (.slice none 0 0) (.slice none 0 0) zeroWs) 11 rfl S23 Try.zeroValue29 ?_; intro b66 w67 S68; clear S23
      refine ⟨(St.del 0 S68), ?_⟩
      refine wA_two (n := 10) (r := 5) (s := 12) (by kernel_rfl) ?_ ?_
      ·have HD := fun A1 A2 c1 c2 w h1 h2 => QueueDone_calls Q.ep Q.nx Q.gv x19.kind x19.producer x19.id x19.body x19.hepoch x19.hno A1 A2 c1 c2 Q.ready Q.leases Q.ws w h1 h2 (by unfold reachBytes; omega) (by unfold reachBytes; omega)
       rw [show doM ⟨Q.ep, Q.nx, Q.gv, Q.ready, Q.leases, Q.ws⟩ ⟨x19.kind, x19.producer, x19.id, x19.body, x19.hepoch, x19.hno⟩ = R from hR] at HD
       refine caln 5 rfl en67 (HD A1 A2 c1 c2 _ (St.rdo 1 S68 rfl) (St.rdo 2 S68 rfl)) ?_
       rintro _ w73 ⟨A69, c70, A71, c72, rfl, T75⟩
       refine ⟨_, rfl, ?_⟩
       have S74 := S68.ext T75 rfl; clear T75 S68
       change St _ _ _ [.rdo 2 A69 R.1.ready.length ((R.1.ready).flatMap Msg.cells), .rdo 4 A71 R.1.leases.length ((R.1.leases).flatMap Ls.cells), _, _, _, _, _, _, _] at S74; clear HD
       refine ⟨(S74.dels [2, 1, 0]), ?_⟩
       refine ak (v := .tuple #[.agg (qRow R.1.ep R.1.nx R.1.gv (.slice A69 R.1.ready.length c70) (.slice A71 R.1.leases.length c72) R.1.ws), .agg #[.int .i64 R.2.1.code, .int .i64 R.2.1.hep, .int .i64 R.2.1.hno, .int .i64 R.2.1.body], .bool R.2.2.1, .int .i64 R.2.2.2]) 6 rfl (S74.dels [2, 1, 0]) (fun _ _ => ym) ?_
       refine ak (v := .agg (qRow R.1.ep R.1.nx R.1.gv (.slice A69 R.1.ready.length c70) (.slice A71 R.1.leases.length c72) R.1.ws)) 7 rfl (S74.dels [2, 1, 0]) (fun _ _ => yx) ?_
       refine ak (v := .agg #[.int .i64 R.2.1.code, .int .i64 R.2.1.hep, .int .i64 R.2.1.hno, .int .i64 R.2.1.body]) 8 rfl (S74.dels [2, 1, 0]) (fun _ _ => yx) ?_
       refine ak (v := .bool R.2.2.1) 9 rfl (S74.dels [2, 1, 0]) (fun _ _ => yx) ?_
       refine ak (v := .int .i64 R.2.2.2) 10 rfl (S74.dels [2, 1, 0]) (fun _ _ => yx) ?_
       refine aq1 12 ?_
       refine nna (row := #[.int .i64 0, .int .i64 0, .int .i64 0, .int .i64 0]) 12 rfl S74 Try.zeroValue93 ?_; intro b81 w82 S83; clear S74
       refine ⟨(S83.dels [3, 2, 1, 0]), ?_⟩
       refine aq1 13 ?_
       refine snq 13 rfl 3 S83 inf29 ?_; intro w84 S85; clear S83
       refine ⟨(S85.dels [3, 2, 1, 0]), ?_⟩
       refine aq1 14 ?_
       refine sn 14 rfl 0 S85 inf93 ?_; intro w86 S87; clear S85
       refine ⟨(S87.dels [3, 2, 1, 0]), ?_⟩
       refine ak (v := .bool R.2.2.1) 15 rfl (S87.dels [3, 2, 1, 0]) (fun _ _ => ya) ?_
       refine ak (v := .int .i64 R.2.2.2) 16 rfl (S87.dels [3, 2, 1, 0]) (fun _ _ => ya) ?_
       refine wA_done (by kernel_rfl) ?_
       refine pk [0, 2, 3, 4, 5, 6, 7, 8, 9, 10, 11] ?_
       have S90 : St w.heap.size w w86 [_, _, _, _, _, _, _, _, _, _] := S87.re [0, 3, 1, 2, 4, 5, 6, 7, 8, 9] (by decide); clear S87
       refine wQ_cut (b66, b81, A69, c70, A71, c72) ?_ ⟨rfl, rfl, rfl, rfl, rfl, rfl, rfl, rfl, rfl, rfl, rfl, trivial⟩
       exact S90
      ·refine nna (row := #[.int .i64 0, .int .i64 0, .int .i64 0, .int .i64 0]) 12 rfl S68 Try.zeroValue93 ?_; intro b91 w92 S93; clear S68
       refine ⟨(S93.dels [1, 0]), ?_⟩
       refine aq1 5 ?_
       have HD := fun A1 A2 c1 c2 w h1 h2 => QueueDone_calls Q.ep Q.nx Q.gv x19.kind x19.producer x19.id x19.body x19.hepoch x19.hno A1 A2 c1 c2 Q.ready Q.leases Q.ws w h1 h2 (by unfold reachBytes; omega) (by unfold reachBytes; omega)
       rw [show doM ⟨Q.ep, Q.nx, Q.gv, Q.ready, Q.leases, Q.ws⟩ ⟨x19.kind, x19.producer, x19.id, x19.body, x19.hepoch, x19.hno⟩ = R from hR] at HD
       refine caln 5 rfl en67 (HD A1 A2 c1 c2 _ (St.rdo 2 S93 rfl) (St.rdo 3 S93 rfl)) ?_
       rintro _ w98 ⟨A94, c95, A96, c97, rfl, T100⟩
       refine ⟨_, rfl, ?_⟩
       have S99 := S93.ext T100 rfl; clear T100 S93
       change St _ _ _ [.rdo 2 A94 R.1.ready.length ((R.1.ready).flatMap Msg.cells), .rdo 4 A96 R.1.leases.length ((R.1.leases).flatMap Ls.cells), _, _, _, _, _, _, _, _] at S99; clear HD
       refine ⟨(S99.dels [3, 2, 1, 0]), ?_⟩
       refine ak (v := .tuple #[.agg (qRow R.1.ep R.1.nx R.1.gv (.slice A94 R.1.ready.length c95) (.slice A96 R.1.leases.length c97) R.1.ws), .agg #[.int .i64 R.2.1.code, .int .i64 R.2.1.hep, .int .i64 R.2.1.hno, .int .i64 R.2.1.body], .bool R.2.2.1, .int .i64 R.2.2.2]) 6 rfl (S99.dels [3, 2, 1, 0]) (fun _ _ => ym) ?_
       refine ak (v := .agg (qRow R.1.ep R.1.nx R.1.gv (.slice A94 R.1.ready.length c95) (.slice A96 R.1.leases.length c97) R.1.ws)) 7 rfl (S99.dels [3, 2, 1, 0]) (fun _ _ => yx) ?_
       refine ak (v := .agg #[.int .i64 R.2.1.code, .int .i64 R.2.1.hep, .int .i64 R.2.1.hno, .int .i64 R.2.1.body]) 8 rfl (S99.dels [3, 2, 1, 0]) (fun _ _ => yx) ?_
       refine ak (v := .bool R.2.2.1) 9 rfl (S99.dels [3, 2, 1, 0]) (fun _ _ => yx) ?_
       refine ak (v := .int .i64 R.2.2.2) 10 rfl (S99.dels [3, 2, 1, 0]) (fun _ _ => yx) ?_
       refine aq1 13 ?_
       refine snq 13 rfl 3 S99 inf29 ?_; intro w106 S107; clear S99
       refine ⟨(S107.dels [3, 2, 1, 0]), ?_⟩
       refine aq1 14 ?_
       refine sn 14 rfl 2 S107 inf93 ?_; intro w108 S109; clear S107
       refine ⟨(S109.dels [3, 2, 1, 0]), ?_⟩
       refine ak (v := .bool R.2.2.1) 15 rfl (S109.dels [3, 2, 1, 0]) (fun _ _ => ya) ?_
       refine ak (v := .int .i64 R.2.2.2) 16 rfl (S109.dels [3, 2, 1, 0]) (fun _ _ => ya) ?_
       refine wA_done (by kernel_rfl) ?_
       refine pk [0, 2, 3, 4, 5, 6, 7, 8, 9, 10, 11] ?_
       have S112 : St w.heap.size w w108 [_, _, _, _, _, _, _, _, _, _] := S109.re [2, 3, 0, 1, 4, 5, 6, 7, 8, 9] (by decide); clear S109
       refine wQ_cut (b66, b91, A94, c95, A96, c97) ?_ ⟨rfl, rfl, rfl, rfl, rfl, rfl, rfl, rfl, rfl, rfl, rfl, trivial⟩
       exact S112
     ·refine nna (row := #[.int .i64 0, .int .i64 0, .int .i64 0, .int .i64 0]) 12 rfl S23 Try.zeroValue93 ?_; intro b113 w114 S115; clear S23
      refine ⟨(St.del 0 S115), ?_⟩
      refine wA_two (n := 10) (r := 5) (s := 11) (by kernel_rfl) ?_ ?_
      ·have HD := fun A1 A2 c1 c2 w h1 h2 => QueueDone_calls Q.ep Q.nx Q.gv x19.kind x19.producer x19.id x19.body x19.hepoch x19.hno A1 A2 c1 c2 Q.ready Q.leases Q.ws w h1 h2 (by unfold reachBytes; omega) (by unfold reachBytes; omega)
       rw [show doM ⟨Q.ep, Q.nx, Q.gv, Q.ready, Q.leases, Q.ws⟩ ⟨x19.kind, x19.producer, x19.id, x19.body, x19.hepoch, x19.hno⟩ = R from hR] at HD
       refine caln 5 rfl en67 (HD A1 A2 c1 c2 _ (St.rdo 1 S115 rfl) (St.rdo 2 S115 rfl)) ?_
       rintro _ w120 ⟨A116, c117, A118, c119, rfl, T122⟩
       refine ⟨_, rfl, ?_⟩
       have S121 := S115.ext T122 rfl; clear T122 S115
       change St _ _ _ [.rdo 2 A116 R.1.ready.length ((R.1.ready).flatMap Msg.cells), .rdo 4 A118 R.1.leases.length ((R.1.leases).flatMap Ls.cells), _, _, _, _, _, _, _] at S121; clear HD
       refine ⟨(S121.dels [2, 1, 0]), ?_⟩
       refine ak (v := .tuple #[.agg (qRow R.1.ep R.1.nx R.1.gv (.slice A116 R.1.ready.length c117) (.slice A118 R.1.leases.length c119) R.1.ws), .agg #[.int .i64 R.2.1.code, .int .i64 R.2.1.hep, .int .i64 R.2.1.hno, .int .i64 R.2.1.body], .bool R.2.2.1, .int .i64 R.2.2.2]) 6 rfl (S121.dels [2, 1, 0]) (fun _ _ => ym) ?_
       refine ak (v := .agg (qRow R.1.ep R.1.nx R.1.gv (.slice A116 R.1.ready.length c117) (.slice A118 R.1.leases.length c119) R.1.ws)) 7 rfl (S121.dels [2, 1, 0]) (fun _ _ => yx) ?_
       refine ak (v := .agg #[.int .i64 R.2.1.code, .int .i64 R.2.1.hep, .int .i64 R.2.1.hno, .int .i64 R.2.1.body]) 8 rfl (S121.dels [2, 1, 0]) (fun _ _ => yx) ?_
       refine ak (v := .bool R.2.2.1) 9 rfl (S121.dels [2, 1, 0]) (fun _ _ => yx) ?_
       refine ak (v := .int .i64 R.2.2.2) 10 rfl (S121.dels [2, 1, 0]) (fun _ _ => yx) ?_
       refine aq1 11 ?_
       refine nna (row := qRow 0 0 0 (.slice none 0 0) (.slice none 0 0) zeroWs) 11 rfl S121 Try.zeroValue29 ?_; intro b128 w129 S130; clear S121
       refine ⟨(S130.dels [3, 2, 1, 0]), ?_⟩
       refine aq1 13 ?_
       refine snq 13 rfl 0 S130 inf29 ?_; intro w131 S132; clear S130
       refine ⟨(S132.dels [3, 2, 1, 0]), ?_⟩
       refine aq1 14 ?_
       refine sn 14 rfl 3 S132 inf93 ?_; intro w133 S134; clear S132
       refine ⟨(S134.dels [3, 2, 1, 0]), ?_⟩
       refine ak (v := .bool R.2.2.1) 15 rfl (S134.dels [3, 2, 1, 0]) (fun _ _ => ya) ?_
       refine ak (v := .int .i64 R.2.2.2) 16 rfl (S134.dels [3, 2, 1, 0]) (fun _ _ => ya) ?_
       refine wA_done (by kernel_rfl) ?_
       refine pk [0, 2, 3, 4, 5, 6, 7, 9, 8, 10, 11] ?_
       have S137 : St w.heap.size w w133 [_, _, _, _, _, _, _, _, _, _] := S134.re [3, 0, 1, 2, 4, 5, 6, 7, 8, 9] (by decide); clear S134
       refine wQ_cut (b128, b113, A116, c117, A118, c119) ?_ ⟨rfl, rfl, rfl, rfl, rfl, rfl, rfl, rfl, rfl, rfl, rfl, trivial⟩
       exact S137
      ·refine nna (row := qRow 0 0 0 (.slice none 0 0) (.slice none 0 0) zeroWs) 11 rfl S115 Try.zeroValue29 ?_; intro b138 w139 S140; clear S115
       refine ⟨(S140.dels [1, 0]), ?_⟩
       refine aq1 5 ?_
       have HD := fun A1 A2 c1 c2 w h1 h2 => QueueDone_calls Q.ep Q.nx Q.gv x19.kind x19.producer x19.id x19.body x19.hepoch x19.hno A1 A2 c1 c2 Q.ready Q.leases Q.ws w h1 h2 (by unfold reachBytes; omega) (by unfold reachBytes; omega)
       rw [show doM ⟨Q.ep, Q.nx, Q.gv, Q.ready, Q.leases, Q.ws⟩ ⟨x19.kind, x19.producer, x19.id, x19.body, x19.hepoch, x19.hno⟩ = R from hR] at HD
       refine caln 5 rfl en67 (HD A1 A2 c1 c2 _ (St.rdo 2 S140 rfl) (St.rdo 3 S140 rfl)) ?_
       rintro _ w145 ⟨A141, c142, A143, c144, rfl, T147⟩
       refine ⟨_, rfl, ?_⟩
       have S146 := S140.ext T147 rfl; clear T147 S140
       change St _ _ _ [.rdo 2 A141 R.1.ready.length ((R.1.ready).flatMap Msg.cells), .rdo 4 A143 R.1.leases.length ((R.1.leases).flatMap Ls.cells), _, _, _, _, _, _, _, _] at S146; clear HD
       refine ⟨(S146.dels [3, 2, 1, 0]), ?_⟩
       refine ak (v := .tuple #[.agg (qRow R.1.ep R.1.nx R.1.gv (.slice A141 R.1.ready.length c142) (.slice A143 R.1.leases.length c144) R.1.ws), .agg #[.int .i64 R.2.1.code, .int .i64 R.2.1.hep, .int .i64 R.2.1.hno, .int .i64 R.2.1.body], .bool R.2.2.1, .int .i64 R.2.2.2]) 6 rfl (S146.dels [3, 2, 1, 0]) (fun _ _ => ym) ?_
       refine ak (v := .agg (qRow R.1.ep R.1.nx R.1.gv (.slice A141 R.1.ready.length c142) (.slice A143 R.1.leases.length c144) R.1.ws)) 7 rfl (S146.dels [3, 2, 1, 0]) (fun _ _ => yx) ?_
       refine ak (v := .agg #[.int .i64 R.2.1.code, .int .i64 R.2.1.hep, .int .i64 R.2.1.hno, .int .i64 R.2.1.body]) 8 rfl (S146.dels [3, 2, 1, 0]) (fun _ _ => yx) ?_
       refine ak (v := .bool R.2.2.1) 9 rfl (S146.dels [3, 2, 1, 0]) (fun _ _ => yx) ?_
       refine ak (v := .int .i64 R.2.2.2) 10 rfl (S146.dels [3, 2, 1, 0]) (fun _ _ => yx) ?_
       refine aq1 13 ?_
       refine snq 13 rfl 2 S146 inf29 ?_; intro w153 S154; clear S146
       refine ⟨(S154.dels [3, 2, 1, 0]), ?_⟩
       refine aq1 14 ?_
       refine sn 14 rfl 3 S154 inf93 ?_; intro w155 S156; clear S154
       refine ⟨(S156.dels [3, 2, 1, 0]), ?_⟩
       refine ak (v := .bool R.2.2.1) 15 rfl (S156.dels [3, 2, 1, 0]) (fun _ _ => ya) ?_
       refine ak (v := .int .i64 R.2.2.2) 16 rfl (S156.dels [3, 2, 1, 0]) (fun _ _ => ya) ?_
       refine wA_done (by kernel_rfl) ?_
       refine pk [0, 2, 3, 4, 5, 6, 7, 9, 8, 10, 11] ?_
       have S159 : St w.heap.size w w155 [_, _, _, _, _, _, _, _, _, _] := S156.re [3, 2, 0, 1, 4, 5, 6, 7, 8, 9] (by decide); clear S156
       refine wQ_cut (b138, b113, A141, c142, A143, c144) ?_ ⟨rfl, rfl, rfl, rfl, rfl, rfl, rfl, rfl, rfl, rfl, rfl, trivial⟩
       exact S159
    ·rintro ⟨b160, b161, A162, c163, A164, c165⟩ w166 S167
     try dsimp only at S167; clear S13
     refine cw [0, 2, 3, 4, 5, 6, 7, 8, 9, 10, 11] ?_
     refine x_ssr (vm ?_)
     by_cases h1 : R.2.2.2 = 0
     ·refine vv (yneqF h1) ?_
      refine vm ?_
      refine vg ym ?_
      cases h2 : R.2.2.1
      ·refine vg (v := .bool true) yno ?_
       refine vv ypF ?_
       refine qk [0, 2, 3, 4, 5, 6, 7, 8, 9, 38] ?_
       refine x_tysr (vv (v := .agg (qRow 0 0 0 (.slice none 0 0) (.slice none 0 0) zeroWs)) yz ?_)
       refine saq 8 S167 inf29 ?_; intro w168 S169; clear S167
       iterate 2 refine va ?_
       refine qk [2, 3, 4] ?_
       refine wQ_then (wC_ret (wQ_then_ret (wQ_blk_ret (wQ_then_ret (wQ_then_ret (wQ_blk_ret (wQ_then_ret (wQ_post (rs := [.cell 2 29, .tmp 3, .tmp 4]) (vs := [.agg (qRow 0 0 0 (.slice none 0 0) (.slice none 0 0) zeroWs), .slice none 0 0, .int .i64 3]) rfl ⟨⟨_, rfl, res_row 8 S169 rfl Try.underlying29 rfl inf29⟩, rfl, rfl, trivial⟩ ?_))))))))
       rw [tellM_no (by omega) (by rw [hi15]; exact tellGo_stop hx20 (by rw [hR]; exact fun h => by rw [h2] at h; exact absurd h.2 (by simp)))]
       have S170 : St _ _ _ [] := S169.dels [9, 8, 7, 6, 5, 4, 3, 2, 1, 0]; clear S169
       exact ⟨none, 0, none, 0, none, 0, rfl, rdo_nil (rdo_nil (rdo_nil S170))⟩
      ·refine vg (v := .bool false) yno ?_
       refine vv ypF ?_
       refine qk [0, 2, 3, 4, 5, 6, 7, 8, 9, 38] ?_
       refine x_tnktsr (vv (ylr 1 S167 Try.underlying29 inf29) ?_)
       refine saq 7 S167 inf29 ?_; intro w171 S172; clear S167
       refine qk [0, 2, 3, 4, 5, 6, 7, 9] ?_
       refine x_tr (vm ?_)
       refine vv (ylr 0 S172 Try.underlying93 inf93) ?_
       refine wL_new (V := fun b => .slice (some ⟨b, 0, none⟩) 1 1) (row := #[.int .i64 R.2.1.code, .int .i64 R.2.1.hep, .int .i64 R.2.1.hno, .int .i64 R.2.1.body]) (t := 93) S172 (wn rfl) rfl rfl (d_buildSlice (vs := [(0, .agg #[.int .i64 R.2.1.code, .int .i64 R.2.1.hep, .int .i64 R.2.1.hno, .int .i64 R.2.1.body])]) rfl ⟨rfl, rfl, trivial⟩ (by kernel_rfl)) ?_; intro b173 w174 S175; clear S172
       refine wL_append (news := [.int .i64 R.2.1.code, .int .i64 R.2.1.hep, .int .i64 R.2.1.hno, .int .i64 R.2.1.body]) (xs' := (an ++ [R.2.1]).flatMap Ans.cells) 7 S175 (wn rfl) rfl rfl rfl rfl rfl rfl (St.bld (xs := [.int .i64 R.2.1.code, .int .i64 R.2.1.hep, .int .i64 R.2.1.hno, .int .i64 R.2.1.body]) 0 S175 rfl rfl rfl) Try.underlying103 infz93 rfl (by decide) (oneAll rfl) (by simp only [maxLen]; omega) (by omega) (fm_snoc (enc := Ans.cells) rfl rfl) ?_; intro A176 c177 w178 hc180 hm181 S179; clear S175
       change St _ _ _ [_, _, _, _, _, _, _, .own 93 4 (.slice A176 (k + 1) c177) (k + 1) ((an ++ [R.2.1]).flatMap Ans.cells), _, _, _] at S179
       refine va ?_
       refine qk [0, 2, 3, 4, 5, 6, 7] ?_
       refine wQ_blk_n (wQ_then (wC_region (vm ?_)))
       refine vv (v := .int .i64 ((k + 1 : Nat) : Int)) (y_binop rfl rfl rfl (r_add (by omega) (by omega))) ?_
       refine va ?_
       refine qk [0, 2, 3, 4, 5, 6, 7] ?_
       have S182 : St w.heap.size w w178 [_, _, _, _, _, _] := S179.re [3, 4, 7, 8, 9, 10] (by decide); clear S179
       refine wQ_round (k + 1, R.1, an ++ [R.2.1], A162, c163, A164, c165, A176, c177) ?_ ⟨rfl, rfl, rfl, rfl, rfl, rfl, rfl, trivial⟩ (by first | omega | (dsimp only; omega))
       exact ⟨(by dsimp only; omega), (by dsimp only; rw [hi15, tellGo_step hx20 (by rw [hR]; exact h1) (by rw [hR]; exact h2), hR]), by dsimp only; exact hR ▸ do_len (by rw [hR]; exact h1), (by dsimp only; rw [List.length_append, hi17]; rfl), S182⟩
     ·refine vv (yneqT h1) ?_
      refine vm ?_
      iterate 2 refine vs ?_
      refine vv ypT ?_
      refine qk [0, 2, 3, 4, 5, 6, 7, 8, 9, 38] ?_
      refine x_tysr (vv (v := .agg (qRow 0 0 0 (.slice none 0 0) (.slice none 0 0) zeroWs)) yz ?_)
      refine saq 8 S167 inf29 ?_; intro w183 S184; clear S167
      iterate 2 refine va ?_
      refine qk [2, 3, 4] ?_
      refine wQ_then (wC_ret (wQ_then_ret (wQ_blk_ret (wQ_then_ret (wQ_then_ret (wQ_blk_ret (wQ_then_ret (wQ_post (rs := [.cell 2 29, .tmp 3, .tmp 4]) (vs := [.agg (qRow 0 0 0 (.slice none 0 0) (.slice none 0 0) zeroWs), .slice none 0 0, .int .i64 3]) rfl ⟨⟨_, rfl, res_row 8 S184 rfl Try.underlying29 rfl inf29⟩, rfl, rfl, trivial⟩ ?_))))))))
      rw [tellM_no (by omega) (by rw [hi15]; exact tellGo_stop hx20 (by rw [hR]; exact fun h => h1 h.1))]
      have S185 : St _ _ _ [] := S184.dels [9, 8, 7, 6, 5, 4, 3, 2, 1, 0]; clear S184
      exact ⟨none, 0, none, 0, none, 0, rfl, rdo_nil (rdo_nil (rdo_nil S185))⟩
   ·refine vv (ylssF h18) ?_
    refine qk [0, 2, 3, 4, 5, 6, 7, 19] ?_
    refine wQ_then (wC_cond_f rfl (wC_exit (wQ_then_exit (wQ_then_exit (wQ_blk_same (wQ_then (wC_seq (wC_region (vv (ylr 3 S13 Try.underlying29 inf29) ?_)))))))))
    refine vm ?_
    refine saq 4 S13 inf29 ?_; intro w186 S187; clear S13
    iterate 2 refine va ?_
    refine qk [2, 3, 4] ?_
    refine x_te (wQ_post (rs := [.cell 2 29, .tmp 3, .tmp 4]) (vs := [.agg (qRow Q.ep Q.nx Q.gv (.slice A1 Q.ready.length c1) (.slice A2 Q.leases.length c2) Q.ws), .slice A3 k c3, .int .i64 0]) rfl ⟨⟨_, rfl, res_row 4 S187 rfl Try.underlying29 rfl inf29⟩, rfl, rfl, trivial⟩ ?_)
    have S188 : St w.heap.size w w186 [_, _, _] := S187.re [0, 1, 2] (by decide); clear S187
    have S189 := S188.sealAll 2 rfl; clear S188
    change St _ _ _ [_, _, .rdo 4 A3 k ((an).flatMap Ans.cells)] at S189
    obtain rfl := hi17
    rw [tellM_ok (r := (Q, an)) (by omega) (by rw [hi15]; exact tellGo_end (by omega))]
    exact ⟨A1, c1, A2, c2, A3, c3, rfl, S189⟩

set_option maxRecDepth 100000 in
set_option maxHeartbeats 1000000 in
theorem Replayed_calls (A : Option Addr) (c : Nat) (l : List Ev) (w : World) (h : Rd w w.heap.size 6 A l.length (evCells l)) (hl : l.length ≤ 1152921504606846976) :
    Calls Try.prog 71 #[.slice A l.length c] w (ReplayPost w (tellM l)) := by
 have S := (St.start w).addRd h; clear h
 refine fnw 15 Try.func71 ?_
 refine cw [0] ?_
 refine x_sr (na (row := qRow 0 0 0 (.slice none 0 0) (.slice none 0 0) zeroWs) S Try.zeroValue29 ?_); intro b1 w2 S3; clear S
 refine va ?_
 refine wL_nil (wQ_then (wC_seq (wC_region (vm ?_))))
 refine cal en154 (Told_calls A c l _ (St.rd 1 S3 rfl) hl) ?_
 rintro _ w10 ⟨A4, c5, A6, c7, A8, c9, rfl, T12⟩
 refine ⟨_, rfl, ?_⟩
 have S11 := S3.ext T12 rfl; clear T12 S3
 change St _ _ _ [.rdo 2 A4 ((tellM l).1.ready.length) (((tellM l).1.ready).flatMap Msg.cells), .rdo 4 A6 ((tellM l).1.leases.length) (((tellM l).1.leases).flatMap Ls.cells), .rdo 4 A8 ((tellM l).2.1.length) (((tellM l).2.1).flatMap Ans.cells), _, _] at S11
 refine vm ?_
 refine vv yx ?_
 refine vv yx ?_
 refine vv yx ?_
 refine na (row := qRow 0 0 0 (.slice none 0 0) (.slice none 0 0) zeroWs) S11 Try.zeroValue29 ?_; intro b13 w14 S15; clear S11
 refine saq 0 S15 inf29 ?_; intro w16 S17; clear S15
 iterate 2 refine va ?_
 refine qk [2, 3, 4, 6] ?_
 refine x_tsr (vv (ylr 0 S17 Try.underlying29 inf29) ?_)
 refine vm ?_
 refine saq 4 S17 inf29 ?_; intro w18 S19; clear S17
 refine va ?_
 refine qk [2, 3] ?_
 refine x_te (pc 4 S19 Try.underlying29 inf29 ?_)
 have S20 : St w.heap.size w w18 [_, _] := S19.re [1, 2] (by decide); clear S19
 exact ⟨A4, c5, A6, c7, rfl, S20⟩

end Go.Proofs.Ytkjlafpafmihaaa

namespace Go.Proofs.Ytkjlafpafmihaaa
open Go.ChangeShapes Go.WideShapes Go.RowKit

def BrtPost (w : World) (r : Brt × Int) (e : Ending) (w' : World) : Prop := ∃ A c, e = .returned (.tuple #[.agg #[.int .i64 r.1.role, .int .i64 r.1.ep, .int .i64 r.1.fr, .int .i64 r.1.tg, .int .i64 r.1.rd, .slice A r.1.evs.length c], .int .i64 r.2]) ∧ St w.heap.size w w' [.rdo 6 A r.1.evs.length (evCells r.1.evs)]
def WithPost (w : World) (ro ep fr tg rd : Int) (l : List Ev) (e : Ending) (w' : World) : Prop := ∃ A c, e = .returned (.agg #[.int .i64 ro, .int .i64 ep, .int .i64 fr, .int .i64 tg, .int .i64 rd, .slice A l.length c]) ∧ St w.heap.size w w' [.own 37 6 (.slice A l.length c) l.length (evCells l)]

set_option maxRecDepth 100000 in
set_option maxHeartbeats 1000000 in
theorem node_calls (n : Int) (w : World) :
    Calls Try.prog 161 #[.int .i64 n] w (BoolB w (decide (0 ≤ n ∧ n < 5))) := by
 have S := St.start w
 refine fnw 9 Try.func161 ?_
 refine cw [0] ?_
 refine x_sr (va ?_)
 refine wL_nil (wQ_then (wC_seq (wC_region (vm ?_))))
 by_cases h1 : 0 ≤ n
 ·refine vv (ygeqT h1) ?_
  refine vm ?_
  refine vg ym ?_
  by_cases h2 : n < 5
  ·refine vg (ylssT h2) ?_
   refine vv ypT ?_
   refine va ?_
   refine qk [2] ?_
   refine x_te (pt ?_)
   exact ⟨congrArg (fun b => Ending.returned (.bool b)) (decide_eq_true (by omega)).symm, S.low⟩
  ·refine vg (ylssF h2) ?_
   refine vv ypT ?_
   refine va ?_
   refine qk [2] ?_
   refine x_te (pt ?_)
   exact ⟨congrArg (fun b => Ending.returned (.bool b)) (decide_eq_false (by omega)).symm, S.low⟩
 ·refine vv (ygeqF h1) ?_
  refine vm ?_
  iterate 2 refine vs ?_
  refine vv ypF ?_
  refine va ?_
  refine qk [2] ?_
  refine x_te (pt ?_)
  exact ⟨congrArg (fun b => Ending.returned (.bool b)) (decide_eq_false (by omega)).symm, S.low⟩

set_option maxRecDepth 100000 in
set_option maxHeartbeats 4000000 in
theorem shape_calls (ro ep fr tg rd : Int) (A : Option Addr) (c : Nat) (l : List Ev) (w : World) (h : Rd w w.heap.size 6 A l.length (evCells l)) (hl : l.length ≤ 1152921504606846976) :
    Calls Try.prog 155 #[.agg #[.int .i64 ro, .int .i64 ep, .int .i64 fr, .int .i64 tg, .int .i64 rd, .slice A l.length c]] w (BoolB w (decide (shapeB ⟨ro, ep, fr, tg, rd, l⟩))) := by
 have S := (St.start w).addRd h; clear h
 refine fnw 110 Try.func155 ?_
 refine cw [0] ?_
 refine x_sr (nb (row := #[.int .i64 ro, .int .i64 ep, .int .i64 fr, .int .i64 tg, .int .i64 rd, .slice A l.length c]) S ?_); intro b1 w2 S3; clear S
 refine va ?_
 refine qk [1, 2] ?_
 refine x_tssr (vv (yfa 0 fa108_0) ?_)
 refine vv (ylc 0 S3 Try.underlying3) ?_
 by_cases h4 : ro = 0
 ·refine vv (yeqlT h4) ?_
  refine qk [1, 2, 5] ?_
  refine x_tysr (vv (yfa 1 fa108_1) ?_)
  refine vv (ylc 0 S3 Try.underlying3) ?_
  by_cases h5 : 0 ≤ ep
  ·refine vv (ygeqT h5) ?_
   refine vm ?_
   refine vg (yfa 1 fa108_1) ?_
   refine vg (ylc 0 S3 Try.underlying3) ?_
   by_cases h6 : ep ≤ 1048576
   ·refine vg (yleqT h6) ?_
    refine vv ypT ?_
    refine vm ?_
    refine vg (yfa 2 fa108_2) ?_
    refine vg (ylc 0 S3 Try.underlying3) ?_
    by_cases h7 : fr = 0
    ·refine vg (yeqlT h7) ?_
     refine vv ypT ?_
     refine vm ?_
     refine vg (yfa 3 fa108_3) ?_
     refine vg (ylc 0 S3 Try.underlying3) ?_
     by_cases h8 : tg = 0
     ·refine vg (yeqlT h8) ?_
      refine vv ypT ?_
      refine vm ?_
      refine vg (yfa 4 fa108_4) ?_
      refine vg (ylc 0 S3 Try.underlying3) ?_
      by_cases h9 : rd = 0
      ·refine vg (yeqlT h9) ?_
       refine vv ypT ?_
       refine vm ?_
       refine vg (yfa 5 fa108_5) ?_
       refine vg (ylc 0 S3 Try.underlying57) ?_
       refine vg (v := .int .i64 ((l.length : Nat) : Int)) (y_builtin (vs := [.slice A l.length c]) rfl ⟨rfl, trivial⟩ fun _ => r_len rfl Try.underlying57) ?_
       by_cases h10 : ((l.length : Nat) : Int) = 0
       ·refine vg (yeqlT h10) ?_
        refine vv ypT ?_
        refine va ?_
        refine qk [2] ?_
        refine x_teh (pt ?_)
        exact ⟨congrArg (fun b => Ending.returned (.bool b)) (decide_eq_true (by unfold shapeB; dsimp only; omega)).symm, S3.low⟩
       ·refine vg (yeqlF h10) ?_
        refine vv ypT ?_
        refine va ?_
        refine qk [2] ?_
        refine x_teh (pt ?_)
        exact ⟨congrArg (fun b => Ending.returned (.bool b)) (decide_eq_false (by unfold shapeB; dsimp only; omega)).symm, S3.low⟩
      ·refine vg (yeqlF h9) ?_
       refine vv ypT ?_
       refine vm ?_
       iterate 4 refine vs ?_
       refine vv ypF ?_
       refine va ?_
       refine qk [2] ?_
       refine x_teh (pt ?_)
       exact ⟨congrArg (fun b => Ending.returned (.bool b)) (decide_eq_false (by unfold shapeB; dsimp only; omega)).symm, S3.low⟩
     ·refine vg (yeqlF h8) ?_
      refine vv ypT ?_
      refine vm ?_
      iterate 3 refine vs ?_
      refine vv ypF ?_
      refine vm ?_
      iterate 4 refine vs ?_
      refine vv ypF ?_
      refine va ?_
      refine qk [2] ?_
      refine x_teh (pt ?_)
      exact ⟨congrArg (fun b => Ending.returned (.bool b)) (decide_eq_false (by unfold shapeB; dsimp only; omega)).symm, S3.low⟩
    ·refine vg (yeqlF h7) ?_
     refine vv ypT ?_
     refine vm ?_
     iterate 3 refine vs ?_
     refine vv ypF ?_
     refine vm ?_
     iterate 3 refine vs ?_
     refine vv ypF ?_
     refine vm ?_
     iterate 4 refine vs ?_
     refine vv ypF ?_
     refine va ?_
     refine qk [2] ?_
     refine x_teh (pt ?_)
     exact ⟨congrArg (fun b => Ending.returned (.bool b)) (decide_eq_false (by unfold shapeB; dsimp only; omega)).symm, S3.low⟩
   ·refine vg (yleqF h6) ?_
    refine vv ypT ?_
    refine vm ?_
    iterate 3 refine vs ?_
    refine vv ypF ?_
    refine vm ?_
    iterate 3 refine vs ?_
    refine vv ypF ?_
    refine vm ?_
    iterate 3 refine vs ?_
    refine vv ypF ?_
    refine vm ?_
    iterate 4 refine vs ?_
    refine vv ypF ?_
    refine va ?_
    refine qk [2] ?_
    refine x_teh (pt ?_)
    exact ⟨congrArg (fun b => Ending.returned (.bool b)) (decide_eq_false (by unfold shapeB; dsimp only; omega)).symm, S3.low⟩
  ·refine vv (ygeqF h5) ?_
   refine vm ?_
   iterate 3 refine vs ?_
   refine vv ypF ?_
   refine vm ?_
   iterate 3 refine vs ?_
   refine vv ypF ?_
   refine vm ?_
   iterate 3 refine vs ?_
   refine vv ypF ?_
   refine vm ?_
   iterate 3 refine vs ?_
   refine vv ypF ?_
   refine vm ?_
   iterate 4 refine vs ?_
   refine vv ypF ?_
   refine va ?_
   refine qk [2] ?_
   refine x_teh (pt ?_)
   exact ⟨congrArg (fun b => Ending.returned (.bool b)) (decide_eq_false (by unfold shapeB; dsimp only; omega)).symm, S3.low⟩
 ·refine vv (yeqlF h4) ?_
  refine qk [1, 2, 5] ?_
  refine x_tnktssr (vv (yfa 1 fa108_1) ?_)
  refine vv (ylc 0 S3 Try.underlying3) ?_
  by_cases h11 : ep < 1
  ·refine vv (ylssT h11) ?_
   refine vm ?_
   iterate 3 refine vs ?_
   refine vv ypT ?_
   refine qk [1, 2, 42] ?_
   refine x_tysr (va ?_)
   refine qk [2] ?_
   refine x_teh (pt ?_)
   exact ⟨congrArg (fun b => Ending.returned (.bool b)) (decide_eq_false (by unfold shapeB; dsimp only; omega)).symm, S3.low⟩
  ·refine vv (ylssF h11) ?_
   refine vm ?_
   refine vg (yfa 1 fa108_1) ?_
   refine vg (ylc 0 S3 Try.underlying3) ?_
   by_cases h12 : 1048576 < ep
   ·refine vg (ygtrT h12) ?_
    refine vv ypF ?_
    refine qk [1, 2, 42] ?_
    refine x_tysr (va ?_)
    refine qk [2] ?_
    refine x_teh (pt ?_)
    exact ⟨congrArg (fun b => Ending.returned (.bool b)) (decide_eq_false (by unfold shapeB; dsimp only; omega)).symm, S3.low⟩
   ·refine vg (ygtrF h12) ?_
    refine vv ypF ?_
    refine qk [1, 2, 42] ?_
    refine x_tnktssr (vv (yfa 0 fa108_0) ?_)
    refine vv (ylc 0 S3 Try.underlying3) ?_
    refine qk [1, 2, 44] ?_
    refine x_tbsr ?_
    by_cases h13 : ro = 1
    ·refine vv (yeqlT h13) ?_
     refine va ?_
     refine qk [1, 2, 44, 45] ?_
     refine x_tysr (vv (yfa 2 fa108_2) ?_)
     refine vv (ylc 0 S3 Try.underlying3) ?_
     by_cases h14 : fr = 0
     ·refine vv (yeqlT h14) ?_
      refine vm ?_
      refine vg (yfa 3 fa108_3) ?_
      refine vg (ylc 0 S3 Try.underlying3) ?_
      by_cases h15 : tg = 0
      ·refine vg (yeqlT h15) ?_
       refine vv ypT ?_
       refine vm ?_
       refine vg (yfa 4 fa108_4) ?_
       refine vg (ylc 0 S3 Try.underlying3) ?_
       by_cases h16 : rd = 0
       ·refine vg (yeqlT h16) ?_
        refine vv ypT ?_
        refine va ?_
        refine qk [2] ?_
        refine x_tech (pt ?_)
        exact ⟨congrArg (fun b => Ending.returned (.bool b)) (decide_eq_true (by unfold shapeB; dsimp only; omega)).symm, S3.low⟩
       ·refine vg (yeqlF h16) ?_
        refine vv ypT ?_
        refine va ?_
        refine qk [2] ?_
        refine x_tech (pt ?_)
        exact ⟨congrArg (fun b => Ending.returned (.bool b)) (decide_eq_false (by unfold shapeB; dsimp only; omega)).symm, S3.low⟩
      ·refine vg (yeqlF h15) ?_
       refine vv ypT ?_
       refine vm ?_
       iterate 3 refine vs ?_
       refine vv ypF ?_
       refine va ?_
       refine qk [2] ?_
       refine x_tech (pt ?_)
       exact ⟨congrArg (fun b => Ending.returned (.bool b)) (decide_eq_false (by unfold shapeB; dsimp only; omega)).symm, S3.low⟩
     ·refine vv (yeqlF h14) ?_
      refine vm ?_
      iterate 3 refine vs ?_
      refine vv ypF ?_
      refine vm ?_
      iterate 3 refine vs ?_
      refine vv ypF ?_
      refine va ?_
      refine qk [2] ?_
      refine x_tech (pt ?_)
      exact ⟨congrArg (fun b => Ending.returned (.bool b)) (decide_eq_false (by unfold shapeB; dsimp only; omega)).symm, S3.low⟩
    ·refine vv (yeqlF h13) ?_
     refine va ?_
     refine qk [1, 2, 44, 45] ?_
     refine x_tnsr ?_
     by_cases h17 : ro = 2
     ·refine vv (yeqlT h17) ?_
      refine va ?_
      refine qk [1, 2, 44, 60] ?_
      refine x_tysr (vv (yfa 2 fa108_2) ?_)
      refine vv (ylc 0 S3 Try.underlying3) ?_
      by_cases h18 : fr = 0
      ·refine vv (yeqlT h18) ?_
       refine vm ?_
       refine vg (yfa 3 fa108_3) ?_
       refine vg (ylc 0 S3 Try.underlying3) ?_
       by_cases hp19 : 0 ≤ tg ∧ tg < 5
       ·have HC20 := fun (w : World) => node_calls tg w
        rw [decide_eq_true hp19] at HC20
        refine calg en161 (HC20 _) ?_
        rintro _ w21 ⟨rfl, hb23⟩
        refine ⟨_, rfl, ?_⟩
        have S22 := S3.on hb23; clear hb23 S3; clear HC20
        refine vv ypT ?_
        refine vm ?_
        refine vg (yfa 4 fa108_4) ?_
        refine vg (ylc 0 S22 Try.underlying3) ?_
        by_cases h24 : 0 ≤ rd
        ·refine vg (ygeqT h24) ?_
         refine vv ypT ?_
         refine vm ?_
         refine vg (yfa 4 fa108_4) ?_
         refine vg (ylc 0 S22 Try.underlying3) ?_
         by_cases h25 : rd ≤ 4
         ·refine vg (yleqT h25) ?_
          refine vv ypT ?_
          refine va ?_
          refine qk [2] ?_
          refine x_tech (pt ?_)
          exact ⟨congrArg (fun b => Ending.returned (.bool b)) (decide_eq_true (by unfold shapeB; dsimp only; omega)).symm, S22.low⟩
         ·refine vg (yleqF h25) ?_
          refine vv ypT ?_
          refine va ?_
          refine qk [2] ?_
          refine x_tech (pt ?_)
          exact ⟨congrArg (fun b => Ending.returned (.bool b)) (decide_eq_false (by unfold shapeB; dsimp only; omega)).symm, S22.low⟩
        ·refine vg (ygeqF h24) ?_
         refine vv ypT ?_
         refine vm ?_
         iterate 3 refine vs ?_
         refine vv ypF ?_
         refine va ?_
         refine qk [2] ?_
         refine x_tech (pt ?_)
         exact ⟨congrArg (fun b => Ending.returned (.bool b)) (decide_eq_false (by unfold shapeB; dsimp only; omega)).symm, S22.low⟩
       ·have HC26 := fun (w : World) => node_calls tg w
        rw [decide_eq_false hp19] at HC26
        refine calg en161 (HC26 _) ?_
        rintro _ w27 ⟨rfl, hb29⟩
        refine ⟨_, rfl, ?_⟩
        have S28 := S3.on hb29; clear hb29 S3; clear HC26
        refine vv ypT ?_
        refine vm ?_
        iterate 3 refine vs ?_
        refine vv ypF ?_
        refine vm ?_
        iterate 3 refine vs ?_
        refine vv ypF ?_
        refine va ?_
        refine qk [2] ?_
        refine x_tech (pt ?_)
        exact ⟨congrArg (fun b => Ending.returned (.bool b)) (decide_eq_false (by unfold shapeB; dsimp only; omega)).symm, S28.low⟩
      ·refine vv (yeqlF h18) ?_
       refine vm ?_
       iterate 3 refine vs ?_
       refine vv ypF ?_
       refine vm ?_
       iterate 3 refine vs ?_
       refine vv ypF ?_
       refine vm ?_
       iterate 3 refine vs ?_
       refine vv ypF ?_
       refine va ?_
       refine qk [2] ?_
       refine x_tech (pt ?_)
       exact ⟨congrArg (fun b => Ending.returned (.bool b)) (decide_eq_false (by unfold shapeB; dsimp only; omega)).symm, S3.low⟩
     ·refine vv (yeqlF h17) ?_
      refine va ?_
      refine qk [1, 2, 44, 60] ?_
      refine x_tnsr ?_
      by_cases h30 : ro = 3
      ·refine vv (yeqlT h30) ?_
       refine va ?_
       refine qk [1, 2, 44, 80] ?_
       refine x_tysr (vv (yfa 2 fa108_2) ?_)
       refine vv (ylc 0 S3 Try.underlying3) ?_
       by_cases h31 : fr = 0
       ·refine vv (yeqlT h31) ?_
        refine vm ?_
        refine vg (yfa 3 fa108_3) ?_
        refine vg (ylc 0 S3 Try.underlying3) ?_
        by_cases hp32 : 0 ≤ tg ∧ tg < 5
        ·have HC33 := fun (w : World) => node_calls tg w
         rw [decide_eq_true hp32] at HC33
         refine calg en161 (HC33 _) ?_
         rintro _ w34 ⟨rfl, hb36⟩
         refine ⟨_, rfl, ?_⟩
         have S35 := S3.on hb36; clear hb36 S3; clear HC33
         refine vv ypT ?_
         refine vm ?_
         refine vg (yfa 4 fa108_4) ?_
         refine vg (ylc 0 S35 Try.underlying3) ?_
         by_cases h37 : rd = 0
         ·refine vg (yeqlT h37) ?_
          refine vv ypT ?_
          refine va ?_
          refine qk [2] ?_
          refine x_tech (pt ?_)
          exact ⟨congrArg (fun b => Ending.returned (.bool b)) (decide_eq_true (by unfold shapeB; dsimp only; omega)).symm, S35.low⟩
         ·refine vg (yeqlF h37) ?_
          refine vv ypT ?_
          refine va ?_
          refine qk [2] ?_
          refine x_tech (pt ?_)
          exact ⟨congrArg (fun b => Ending.returned (.bool b)) (decide_eq_false (by unfold shapeB; dsimp only; omega)).symm, S35.low⟩
        ·have HC38 := fun (w : World) => node_calls tg w
         rw [decide_eq_false hp32] at HC38
         refine calg en161 (HC38 _) ?_
         rintro _ w39 ⟨rfl, hb41⟩
         refine ⟨_, rfl, ?_⟩
         have S40 := S3.on hb41; clear hb41 S3; clear HC38
         refine vv ypT ?_
         refine vm ?_
         iterate 3 refine vs ?_
         refine vv ypF ?_
         refine va ?_
         refine qk [2] ?_
         refine x_tech (pt ?_)
         exact ⟨congrArg (fun b => Ending.returned (.bool b)) (decide_eq_false (by unfold shapeB; dsimp only; omega)).symm, S40.low⟩
       ·refine vv (yeqlF h31) ?_
        refine vm ?_
        iterate 3 refine vs ?_
        refine vv ypF ?_
        refine vm ?_
        iterate 3 refine vs ?_
        refine vv ypF ?_
        refine va ?_
        refine qk [2] ?_
        refine x_tech (pt ?_)
        exact ⟨congrArg (fun b => Ending.returned (.bool b)) (decide_eq_false (by unfold shapeB; dsimp only; omega)).symm, S3.low⟩
      ·refine vv (yeqlF h30) ?_
       refine va ?_
       refine qk [1, 2, 44, 80] ?_
       refine x_tnsr ?_
       by_cases h42 : ro = 4
       ·refine vv (yeqlT h42) ?_
        refine va ?_
        refine qk [1, 2, 95] ?_
        refine x_tysr (vv (yfa 2 fa108_2) ?_)
        refine vv (ylc 0 S3 Try.underlying3) ?_
        by_cases hp43 : 0 ≤ fr ∧ fr < 5
        ·have HC44 := fun (w : World) => node_calls fr w
         rw [decide_eq_true hp43] at HC44
         refine cal en161 (HC44 _) ?_
         rintro _ w45 ⟨rfl, hb47⟩
         refine ⟨_, rfl, ?_⟩
         have S46 := S3.on hb47; clear hb47 S3; clear HC44
         refine vm ?_
         refine vg (yfa 3 fa108_3) ?_
         refine vg (ylc 0 S46 Try.underlying3) ?_
         by_cases h48 : tg = 0
         ·refine vg (yeqlT h48) ?_
          refine vv ypT ?_
          refine vm ?_
          refine vg (yfa 4 fa108_4) ?_
          refine vg (ylc 0 S46 Try.underlying3) ?_
          by_cases h49 : rd = 0
          ·refine vg (yeqlT h49) ?_
           refine vv ypT ?_
           refine va ?_
           refine qk [2] ?_
           refine x_tech (pt ?_)
           exact ⟨congrArg (fun b => Ending.returned (.bool b)) (decide_eq_true (by unfold shapeB; dsimp only; omega)).symm, S46.low⟩
          ·refine vg (yeqlF h49) ?_
           refine vv ypT ?_
           refine va ?_
           refine qk [2] ?_
           refine x_tech (pt ?_)
           exact ⟨congrArg (fun b => Ending.returned (.bool b)) (decide_eq_false (by unfold shapeB; dsimp only; omega)).symm, S46.low⟩
         ·refine vg (yeqlF h48) ?_
          refine vv ypT ?_
          refine vm ?_
          iterate 3 refine vs ?_
          refine vv ypF ?_
          refine va ?_
          refine qk [2] ?_
          refine x_tech (pt ?_)
          exact ⟨congrArg (fun b => Ending.returned (.bool b)) (decide_eq_false (by unfold shapeB; dsimp only; omega)).symm, S46.low⟩
        ·have HC50 := fun (w : World) => node_calls fr w
         rw [decide_eq_false hp43] at HC50
         refine cal en161 (HC50 _) ?_
         rintro _ w51 ⟨rfl, hb53⟩
         refine ⟨_, rfl, ?_⟩
         have S52 := S3.on hb53; clear hb53 S3; clear HC50
         refine vm ?_
         iterate 3 refine vs ?_
         refine vv ypF ?_
         refine vm ?_
         iterate 3 refine vs ?_
         refine vv ypF ?_
         refine va ?_
         refine qk [2] ?_
         refine x_tech (pt ?_)
         exact ⟨congrArg (fun b => Ending.returned (.bool b)) (decide_eq_false (by unfold shapeB; dsimp only; omega)).symm, S52.low⟩
       ·refine vv (yeqlF h42) ?_
        refine va ?_
        refine qk [1, 2, 95] ?_
        refine wQ_then (wC_cond_f rfl (wC_skip (wQ_blk_n (wQ_then (wC_seq (wC_region (va ?_)))))))
        refine qk [2] ?_
        refine x_te (pt ?_)
        exact ⟨congrArg (fun b => Ending.returned (.bool b)) (decide_eq_false (by unfold shapeB; dsimp only; omega)).symm, S3.low⟩

set_option maxRecDepth 100000 in
set_option maxHeartbeats 1000000 in
theorem BCheck_calls (ro ep fr tg rd : Int) (A : Option Addr) (c : Nat) (l : List Ev) (w : World) (h : Rd w w.heap.size 6 A l.length (evCells l)) (hl : l.length ≤ 1152921504606846976) :
    Calls Try.prog 76 #[.agg #[.int .i64 ro, .int .i64 ep, .int .i64 fr, .int .i64 tg, .int .i64 rd, .slice A l.length c]] w (IPost w (brtFault ⟨ro, ep, fr, tg, rd, l⟩)) := by
 have S := (St.start w).addRd h; clear h
 refine fnw 16 Try.func76 ?_
 refine cw [0] ?_
 refine x_sr (nb (row := #[.int .i64 ro, .int .i64 ep, .int .i64 fr, .int .i64 tg, .int .i64 rd, .slice A l.length c]) S ?_); intro b1 w2 S3; clear S
 refine va ?_
 refine qk [1, 2] ?_
 refine x_tssr (vv (ylr 0 S3 Try.underlying108 inf108) ?_)
 have HC := fun (w : World) (h : Rd w w.heap.size 6 A l.length (evCells l)) => shape_calls ro ep fr tg rd A c l w h hl
 by_cases hs : shapeB ⟨ro, ep, fr, tg, rd, l⟩
 ·rw [decide_eq_true hs] at HC
  refine cal en155 (HC _ (St.rd 1 S3 rfl)) ?_
  rintro _ w4 ⟨rfl, hb6⟩
  refine ⟨_, rfl, ?_⟩
  have S5 := S3.on hb6; clear hb6 S3; clear HC
  refine vv (v := .bool false) yno ?_
  refine qk [1, 2, 7] ?_
  refine x_tnktssr (vv (yfa 5 fa108_5) ?_)
  refine vv (ylc 0 S5 Try.underlying57) ?_
  refine cal en70 (Replay_calls A c l _ (St.rd 1 S5 rfl) (by omega)) ?_
  rintro _ w11 ⟨A7, c8, A9, c10, rfl, T13⟩
  refine ⟨_, rfl, ?_⟩
  have S12 := S5.ext T13 rfl; clear T13 S5
  change St _ _ _ [.rdo 2 A7 ((tellM l).1.ready.length) (((tellM l).1.ready).flatMap Msg.cells), .rdo 4 A9 ((tellM l).1.leases.length) (((tellM l).1.leases).flatMap Ls.cells), _, _] at S12
  refine vm ?_
  refine vv yx ?_
  refine vv yx ?_
  refine na (row := qRow 0 0 0 (.slice none 0 0) (.slice none 0 0) zeroWs) S12 Try.zeroValue29 ?_; intro b14 w15 S16; clear S12
  refine saq 0 S16 inf29 ?_; intro w17 S18; clear S16
  refine va ?_
  refine qk [2, 4] ?_
  refine x_tsr (vm ?_)
  by_cases h19 : (tellM l).2.2 = 0
  ·refine vv (yneqF h19) ?_
   refine qk [2, 15] ?_
   refine x_tnktsr (va ?_)
   refine qk [2] ?_
   refine x_te (pt ?_)
   exact ⟨ret_int_ (by first | exact (bf_ok ‹_› ‹_›).symm | exact (bf_shape ‹_›).symm | exact (bf_tell (b := ⟨ro, ep, fr, tg, rd, l⟩) ‹_›).symm), S18.low⟩
  ·refine vv (yneqT h19) ?_
   refine qk [2, 15] ?_
   refine x_tysr (va ?_)
   refine qk [2] ?_
   refine x_teh (pt ?_)
   exact ⟨ret_int_ (by first | exact (bf_ok ‹_› ‹_›).symm | exact (bf_shape ‹_›).symm | exact (bf_tell (b := ⟨ro, ep, fr, tg, rd, l⟩) ‹_›).symm), S18.low⟩
 ·rw [decide_eq_false hs] at HC
  refine cal en155 (HC _ (St.rd 1 S3 rfl)) ?_
  rintro _ w20 ⟨rfl, hb22⟩
  refine ⟨_, rfl, ?_⟩
  have S21 := S3.on hb22; clear hb22 S3; clear HC
  refine vv (v := .bool true) yno ?_
  refine qk [1, 2, 7] ?_
  refine x_tysr (va ?_)
  refine qk [2] ?_
  refine x_teh (pt ?_)
  exact ⟨ret_int_ (by first | exact (bf_ok ‹_› ‹_›).symm | exact (bf_shape ‹_›).symm | exact (bf_tell (b := ⟨ro, ep, fr, tg, rd, l⟩) ‹_›).symm), S21.low⟩

theorem fm_app {l k : List Ev} : l.flatMap Ev.cells ++ k.flatMap Ev.cells = (l ++ k).flatMap Ev.cells := by simp

set_option maxRecDepth 100000 in
set_option maxHeartbeats 1000000 in
theorem CloneV_calls (A : Option Addr) (n c : Nat) (l : List Value) (w : World) (h : Rd w w.heap.size 6 A n l) (hone : ∀ u ∈ l, u.oneCell' = true) (hc : n * 48 ≤ reachBytes) :
    Calls Try.prog 157 #[.slice A n c] w (OwnPost w 37 6 n l) := by
 unfold reachBytes at hc
 have S := (St.start w).addRd h
 refine fnw 8 Try.func157 ?_
 refine cw [0] ?_
 refine x_sr (va ?_)
 refine wL_nil (wQ_then (wC_seq (wC_seq (wC_region (vm ?_)))))
 cases A with
 | none =>
  obtain ⟨rfl, rfl⟩ := rd_none h
  refine vv (v := .bool true) (y_binop rfl rfl rfl (r_slnil Try.underlying57)) ?_
  refine qk [0, 2, 4] ?_
  refine x_tysr (va ?_)
  refine qk [2] ?_
  refine x_teh (pt ?_)
  exact OwnPost.of (Below.refl _ _) (ownsRow_nil_ _ _ _ _)
 | some a =>
  refine vv (v := .bool false) (y_binop rfl rfl rfl (r_slnil Try.underlying57)) ?_
  refine qk [0, 2, 4] ?_
  refine x_tnktsr (wL_newOwn (V := fun b => .slice (some ⟨b, 0, none⟩) 0 0) (row := #[]) (t := 37) (n := 0) (s := 6) (xs := []) S (wn rfl) rfl rfl (d_buildSlice (vs := []) rfl trivial (by kernel_rfl)) (by simp) (Nat.zero_le _) rfl ?_); intro b1 w2 S3; clear S
  refine vm ?_
  refine wL_append (news := l) (xs' := l) 0 S3 (wn rfl) rfl rfl rfl rfl rfl rfl (St.rd 1 S3 rfl) Try.underlying57 infz37 rfl (by decide) hone (by simp only [maxLen]; omega) (by omega) rfl ?_; intro A4 c5 w6 hc8 hm9 S7; clear S3
  change St _ _ _ [.own 37 6 (.slice A4 (0 + n) c5) (0 + n) l, _] at S7
  refine va ?_
  refine qk [2] ?_
  refine x_te (pt ?_)
  have S10 : St _ _ _ [_] := S7.dels [1]; clear S7
  have ho := S10.own 0 rfl
  simp only [Nat.zero_add] at ho ⊢
  exact OwnPost.of S10.low ho

set_option maxRecDepth 100000 in
set_option maxHeartbeats 1000000 in
theorem with_calls (ro ep fr tg rd : Int) (A : Option Addr) (c : Nat) (l : List Ev) (A' : Option Addr) (c' : Nat) (k : List Ev) (w : World) (h : Rd w w.heap.size 6 A l.length (evCells l)) (h' : Rd w w.heap.size 6 A' k.length (evCells k)) (hb : (l.length + k.length) * 48 ≤ reachBytes) :
    Calls Try.prog 160 #[.agg #[.int .i64 ro, .int .i64 ep, .int .i64 fr, .int .i64 tg, .int .i64 rd, .slice A l.length c], .slice A' k.length c'] w (WithPost w ro ep fr tg rd (l ++ k)) := by
 have S := ((St.start w).addRd h').addRd h; clear h h'
 unfold reachBytes at hb
 refine fnw 12 Try.func160 ?_
 refine cw [0, 1] ?_
 refine x_sr (nb (row := #[.int .i64 ro, .int .i64 ep, .int .i64 fr, .int .i64 tg, .int .i64 rd, .slice A l.length c]) S ?_); intro b1 w2 S3; clear S
 refine naB S3 Try.zeroValue108 ?_; intro b4 w5 S6; clear S3
 refine qk [1, 2, 4] ?_
 refine x_tsr (vv (yfa 5 fa108_5) ?_)
 refine vv (ylc 1 S6 Try.underlying57) ?_
 refine cal en157 (CloneV_calls A l.length c _ _ (St.rd 2 S6 rfl) (evCells_one l) (by unfold reachBytes; omega)) ?_
 rintro _ w11 ⟨A7, c8, rfl, hb9, ho10⟩
 refine ⟨_, rfl, ?_⟩
 have S12 := S6.onOwn hb9 ho10; clear hb9 ho10 S6
 change St _ _ _ [.own 37 6 (.slice A7 l.length c8) l.length ((l).flatMap Ev.cells), _, _, _, _] at S12
 refine vm ?_
 refine wL_append (news := (k).flatMap Ev.cells) (xs' := (l ++ k).flatMap Ev.cells) 0 S12 (wn rfl) rfl rfl rfl rfl rfl rfl (St.rd 4 S12 rfl) Try.underlying57 infz37 rfl (by decide) (evCells_one _) (by simp only [maxLen]; omega) (by omega) (fm_app) ?_; intro A13 c14 w15 hc17 hm18 S16; clear S12
 change St _ _ _ [.own 37 6 (.slice A13 (l.length + k.length) c14) (l.length + k.length) ((l ++ k).flatMap Ev.cells), _, _, _, _] at S16
 refine vv (yfa 5 fa108_5) ?_
 refine sr (row' := #[.int .i64 ro, .int .i64 ep, .int .i64 fr, .int .i64 tg, .int .i64 rd, .slice A13 (l.length + k.length) c14]) 2 S16 inf57 ?_; intro w19 S20; clear S16
 refine qk [2, 4] ?_
 refine x_tsr (vv (ylr 2 S20 Try.underlying108 inf108) ?_)
 refine sa 1 S20 inf108 ?_; intro w21 S22; clear S20
 refine qk [4] ?_
 refine x_te (wQ_post (rs := [.cell 4 108]) (vs := [.agg #[.int .i64 ro, .int .i64 ep, .int .i64 fr, .int .i64 tg, .int .i64 rd, .slice A13 (l.length + k.length) c14]]) rfl ⟨⟨_, rfl, res_row 1 S22 rfl Try.underlying108 rfl inf108⟩, trivial⟩ ?_)
 have S23 : St _ _ _ [_] := S22.dels [4, 3, 2, 1]; clear S22
 have hl : (l ++ k).length = l.length + k.length := List.length_append
 rw [← hl] at S23
 exact ⟨A13, c14, by rw [hl]; rfl, S23⟩

theorem with0_calls (ro ep fr tg rd : Int) (A : Option Addr) (c : Nat) (l : List Ev) (w : World) (h : Rd w w.heap.size 6 A l.length (evCells l)) (hb : l.length * 48 ≤ reachBytes) :
    Calls Try.prog 160 #[.agg #[.int .i64 ro, .int .i64 ep, .int .i64 fr, .int .i64 tg, .int .i64 rd, .slice A l.length c], .slice none 0 0] w (WithPost w ro ep fr tg rd l) := by
  have := with_calls ro ep fr tg rd A c l none 0 [] w h Rd.none_ (by simpa using hb)
  rw [List.append_nil] at this
  exact this
end Go.Proofs.Ytkjlafpafmihaaa

namespace Go.Proofs.Ytkjlafpafmihaaa
open Go.ChangeShapes Go.WideShapes Go.RowKit

set_option maxRecDepth 100000 in
set_option maxHeartbeats 2000000 in
theorem BerthFault_calls (ro ep fr tg rd : Int) (A : Option Addr) (c : Nat) (l : List Ev) (w : World) (h : Rd w w.heap.size 6 A l.length (evCells l)) (hl : l.length ≤ 1152921504606846976) :
    Calls Try.prog 78 #[.agg #[.int .i64 ro, .int .i64 ep, .int .i64 fr, .int .i64 tg, .int .i64 rd, .slice A l.length c]] w (IPost w (brtFault ⟨ro, ep, fr, tg, rd, l⟩)) := by
 have S := (St.start w).addRd h; clear h
 refine fnw 106 Try.func78 ?_
 refine cw [0] ?_
 refine x_sr (nb (row := #[.int .i64 ro, .int .i64 ep, .int .i64 fr, .int .i64 tg, .int .i64 rd, .slice A l.length c]) S ?_); intro b1 w2 S3; clear S
 refine va ?_
 refine qk [1, 2] ?_
 refine x_tssr (vv (yfa 0 fa108_0) ?_)
 refine vv (ylc 0 S3 Try.underlying3) ?_
 by_cases hp4 : 0 ≤ ro ∧ ro ≤ 4
 ·refine cal en107 (In_t hp4 _) ?_
  rintro _ w5 ⟨rfl, rfl⟩
  refine ⟨_, rfl, ?_⟩
  refine vv (v := .bool false) yno ?_
  refine qk [1, 2, 9] ?_
  refine x_tnktssr (vv (yfa 0 fa108_0) ?_)
  refine vv (ylc 0 S3 Try.underlying3) ?_
  by_cases h6 : ro = 0
  ·refine vv (yeqlT h6) ?_
   refine vm ?_
   refine vg (yfa 1 fa108_1) ?_
   refine vg (ylc 0 S3 Try.underlying3) ?_
   by_cases hp7 : 0 ≤ ep ∧ ep ≤ 1048576
   ·refine calg en107 (In_t hp7 _) ?_
    rintro _ w8 ⟨rfl, rfl⟩
    refine ⟨_, rfl, ?_⟩
    refine vg (v := .bool false) yno ?_
    refine vg ym ?_
    refine vg (yfa 5 fa108_5) ?_
    refine vg (ylc 0 S3 Try.underlying57) ?_
    refine vg (v := .int .i64 ((l.length : Nat) : Int)) (y_builtin (vs := [.slice A l.length c]) rfl ⟨rfl, trivial⟩ fun _ => r_len rfl Try.underlying57) ?_
    by_cases h9 : 0 < ((l.length : Nat) : Int)
    ·refine vg (ygtrT h9) ?_
     refine vg ypF ?_
     refine vv ypT ?_
     refine vm ?_
     iterate 9 refine vs ?_
     refine vv ypT ?_
     refine qk [1, 2, 35] ?_
     refine x_tysr (va ?_)
     refine qk [2] ?_
     refine x_teh (pt ?_)
     exact ⟨ret_int_ (by first | exact (bf_shape (by unfold shapeB; dsimp only; omega)).symm | exact (bf_tell (b := ⟨ro, ep, fr, tg, rd, l⟩) ‹_›).symm), S3.low⟩
    ·refine vg (ygtrF h9) ?_
     refine vg ypF ?_
     refine vv ypT ?_
     refine vm ?_
     refine vg (yfa 0 fa108_0) ?_
     refine vg (ylc 0 S3 Try.underlying3) ?_
     refine vg (yneqF h6) ?_
     refine vg ym ?_
     iterate 4 refine vs ?_
     refine vg ypF ?_
     refine vv ypF ?_
     refine qk [1, 2, 35] ?_
     refine x_tnktssr (vv (yfa 0 fa108_0) ?_)
     refine vv (ylc 0 S3 Try.underlying3) ?_
     refine vv (deqlF (h := by omega)) ?_
     refine vm ?_
     iterate 4 refine vs ?_
     refine vv ypF ?_
     refine vm ?_
     refine vg (yfa 0 fa108_0) ?_
     refine vg (ylc 0 S3 Try.underlying3) ?_
     refine vg (dneqT (h := by omega)) ?_
     refine vg ym ?_
     refine vg (yfa 2 fa108_2) ?_
     refine vg (ylc 0 S3 Try.underlying3) ?_
     by_cases h10 : fr = 0
     ·refine vg (yneqF h10) ?_
      refine vg ypT ?_
      refine vv ypF ?_
      refine qk [1, 2, 54] ?_
      refine x_tnktsr (vv (yfa 0 fa108_0) ?_)
      refine vv (ylc 0 S3 Try.underlying3) ?_
      refine vv (deqlF (h := by omega)) ?_
      refine vm ?_
      refine vg (yfa 0 fa108_0) ?_
      refine vg (ylc 0 S3 Try.underlying3) ?_
      refine vg (deqlF (h := by omega)) ?_
      refine vv ypF ?_
      refine va ?_
      refine qk [1, 2, 3] ?_
      refine x_tssr (vm ?_)
      refine vm ?_
      iterate 4 refine vs ?_
      refine vv ypF ?_
      refine vm ?_
      refine vg ym ?_
      refine vg (v := .bool true) yno ?_
      refine vg ym ?_
      refine vg (yfa 3 fa108_3) ?_
      refine vg (ylc 0 S3 Try.underlying3) ?_
      by_cases h11 : tg = 0
      ·refine vg (yneqF h11) ?_
       refine vg ypT ?_
       refine vv ypF ?_
       refine qk [1, 2, 78] ?_
       refine x_tnktssr (vv (yfa 0 fa108_0) ?_)
       refine vv (ylc 0 S3 Try.underlying3) ?_
       refine vv (deqlF (h := by omega)) ?_
       refine vm ?_
       iterate 4 refine vs ?_
       refine vv ypF ?_
       refine vm ?_
       refine vg (yfa 0 fa108_0) ?_
       refine vg (ylc 0 S3 Try.underlying3) ?_
       refine vg (dneqT (h := by omega)) ?_
       refine vg ym ?_
       refine vg (yfa 4 fa108_4) ?_
       refine vg (ylc 0 S3 Try.underlying3) ?_
       by_cases h12 : rd = 0
       ·refine vg (yneqF h12) ?_
        refine vg ypT ?_
        refine vv ypF ?_
        refine qk [1, 2, 97] ?_
        refine x_tnktsr (vv (yfa 5 fa108_5) ?_)
        refine vv (ylc 0 S3 Try.underlying57) ?_
        refine cal en71 (Replayed_calls A c l _ (St.rd 1 S3 rfl) (by omega)) ?_
        rintro _ w17 ⟨A13, c14, A15, c16, rfl, T19⟩
        refine ⟨_, rfl, ?_⟩
        have S18 := S3.ext T19 rfl; clear T19 S3
        change St _ _ _ [.rdo 2 A13 ((tellM l).1.ready.length) (((tellM l).1.ready).flatMap Msg.cells), .rdo 4 A15 ((tellM l).1.leases.length) (((tellM l).1.leases).flatMap Ls.cells), _, _] at S18
        refine vm ?_
        refine vv yx ?_
        refine vv yx ?_
        refine na (row := qRow 0 0 0 (.slice none 0 0) (.slice none 0 0) zeroWs) S18 Try.zeroValue29 ?_; intro b20 w21 S22; clear S18
        refine saq 0 S22 inf29 ?_; intro w23 S24; clear S22
        refine va ?_
        refine qk [2, 5] ?_
        refine x_tssr (vm ?_)
        by_cases h25 : (tellM l).2.2 = 0
        ·refine vv (yneqF h25) ?_
         refine qk [2, 105] ?_
         refine x_tnktsr (va ?_)
         refine qk [2] ?_
         refine x_te (pt ?_)
         exact ⟨ret_int_ (bf_ok (by unfold shapeB; dsimp only; omega) ‹_›).symm, S24.low⟩
        ·refine vv (yneqT h25) ?_
         refine qk [2, 105] ?_
         refine x_tysr (va ?_)
         refine qk [2] ?_
         refine x_teh (pt ?_)
         exact ⟨ret_int_ (by first | exact (bf_shape (by unfold shapeB; dsimp only; omega)).symm | exact (bf_tell (b := ⟨ro, ep, fr, tg, rd, l⟩) ‹_›).symm), S24.low⟩
       ·refine vg (yneqT h12) ?_
        refine vg ypT ?_
        refine vv ypF ?_
        refine qk [1, 2, 97] ?_
        refine x_tysr (va ?_)
        refine qk [2] ?_
        refine x_teh (pt ?_)
        exact ⟨ret_int_ (by first | exact (bf_shape (by unfold shapeB; dsimp only; omega)).symm | exact (bf_tell (b := ⟨ro, ep, fr, tg, rd, l⟩) ‹_›).symm), S3.low⟩
      ·refine vg (yneqT h11) ?_
       refine vg ypT ?_
       refine vv ypF ?_
       refine qk [1, 2, 78] ?_
       refine x_tysr (va ?_)
       refine qk [2] ?_
       refine x_teh (pt ?_)
       exact ⟨ret_int_ (by first | exact (bf_shape (by unfold shapeB; dsimp only; omega)).symm | exact (bf_tell (b := ⟨ro, ep, fr, tg, rd, l⟩) ‹_›).symm), S3.low⟩
     ·refine vg (yneqT h10) ?_
      refine vg ypT ?_
      refine vv ypF ?_
      refine qk [1, 2, 54] ?_
      refine x_tysr (va ?_)
      refine qk [2] ?_
      refine x_teh (pt ?_)
      exact ⟨ret_int_ (by first | exact (bf_shape (by unfold shapeB; dsimp only; omega)).symm | exact (bf_tell (b := ⟨ro, ep, fr, tg, rd, l⟩) ‹_›).symm), S3.low⟩
   ·refine calg en107 (In_f hp7 _) ?_
    rintro _ w26 ⟨rfl, rfl⟩
    refine ⟨_, rfl, ?_⟩
    refine vg (v := .bool true) yno ?_
    refine vg ym ?_
    iterate 4 refine vs ?_
    refine vg ypT ?_
    refine vv ypT ?_
    refine vm ?_
    iterate 9 refine vs ?_
    refine vv ypT ?_
    refine qk [1, 2, 35] ?_
    refine x_tysr (va ?_)
    refine qk [2] ?_
    refine x_teh (pt ?_)
    exact ⟨ret_int_ (by first | exact (bf_shape (by unfold shapeB; dsimp only; omega)).symm | exact (bf_tell (b := ⟨ro, ep, fr, tg, rd, l⟩) ‹_›).symm), S3.low⟩
  ·refine vv (yeqlF h6) ?_
   refine vm ?_
   iterate 10 refine vs ?_
   refine vv ypF ?_
   refine vm ?_
   refine vg (yfa 0 fa108_0) ?_
   refine vg (ylc 0 S3 Try.underlying3) ?_
   refine vg (yneqT h6) ?_
   refine vg ym ?_
   refine vg (yfa 1 fa108_1) ?_
   refine vg (ylc 0 S3 Try.underlying3) ?_
   by_cases hp27 : 1 ≤ ep ∧ ep ≤ 1048576
   ·refine calg en107 (In_t hp27 _) ?_
    rintro _ w28 ⟨rfl, rfl⟩
    refine ⟨_, rfl, ?_⟩
    refine vg (v := .bool false) yno ?_
    refine vg ypT ?_
    refine vv ypF ?_
    refine qk [1, 2, 35] ?_
    refine x_tnktssr (vv (yfa 0 fa108_0) ?_)
    refine vv (ylc 0 S3 Try.underlying3) ?_
    by_cases h29 : ro = 4
    ·refine vv (yeqlT h29) ?_
     refine vm ?_
     refine vg (yfa 2 fa108_2) ?_
     refine vg (ylc 0 S3 Try.underlying3) ?_
     by_cases hp30 : 0 ≤ fr ∧ fr ≤ 4
     ·refine calg en107 (In_t hp30 _) ?_
      rintro _ w31 ⟨rfl, rfl⟩
      refine ⟨_, rfl, ?_⟩
      refine vg (v := .bool false) yno ?_
      refine vv ypT ?_
      refine vm ?_
      refine vg (yfa 0 fa108_0) ?_
      refine vg (ylc 0 S3 Try.underlying3) ?_
      refine vg (yneqF h29) ?_
      refine vg ym ?_
      iterate 3 refine vs ?_
      refine vg ypF ?_
      refine vv ypF ?_
      refine qk [1, 2, 54] ?_
      refine x_tnktsr (vv (yfa 0 fa108_0) ?_)
      refine vv (ylc 0 S3 Try.underlying3) ?_
      refine vv (deqlF (h := by omega)) ?_
      refine vm ?_
      refine vg (yfa 0 fa108_0) ?_
      refine vg (ylc 0 S3 Try.underlying3) ?_
      refine vg (deqlF (h := by omega)) ?_
      refine vv ypF ?_
      refine va ?_
      refine qk [1, 2, 3] ?_
      refine x_tssr (vm ?_)
      refine vm ?_
      iterate 4 refine vs ?_
      refine vv ypF ?_
      refine vm ?_
      refine vg ym ?_
      refine vg (v := .bool true) yno ?_
      refine vg ym ?_
      refine vg (yfa 3 fa108_3) ?_
      refine vg (ylc 0 S3 Try.underlying3) ?_
      by_cases h32 : tg = 0
      ·refine vg (yneqF h32) ?_
       refine vg ypT ?_
       refine vv ypF ?_
       refine qk [1, 2, 78] ?_
       refine x_tnktssr (vv (yfa 0 fa108_0) ?_)
       refine vv (ylc 0 S3 Try.underlying3) ?_
       refine vv (deqlF (h := by omega)) ?_
       refine vm ?_
       iterate 4 refine vs ?_
       refine vv ypF ?_
       refine vm ?_
       refine vg (yfa 0 fa108_0) ?_
       refine vg (ylc 0 S3 Try.underlying3) ?_
       refine vg (dneqT (h := by omega)) ?_
       refine vg ym ?_
       refine vg (yfa 4 fa108_4) ?_
       refine vg (ylc 0 S3 Try.underlying3) ?_
       by_cases h33 : rd = 0
       ·refine vg (yneqF h33) ?_
        refine vg ypT ?_
        refine vv ypF ?_
        refine qk [1, 2, 97] ?_
        refine x_tnktsr (vv (yfa 5 fa108_5) ?_)
        refine vv (ylc 0 S3 Try.underlying57) ?_
        refine cal en71 (Replayed_calls A c l _ (St.rd 1 S3 rfl) (by omega)) ?_
        rintro _ w38 ⟨A34, c35, A36, c37, rfl, T40⟩
        refine ⟨_, rfl, ?_⟩
        have S39 := S3.ext T40 rfl; clear T40 S3
        change St _ _ _ [.rdo 2 A34 ((tellM l).1.ready.length) (((tellM l).1.ready).flatMap Msg.cells), .rdo 4 A36 ((tellM l).1.leases.length) (((tellM l).1.leases).flatMap Ls.cells), _, _] at S39
        refine vm ?_
        refine vv yx ?_
        refine vv yx ?_
        refine na (row := qRow 0 0 0 (.slice none 0 0) (.slice none 0 0) zeroWs) S39 Try.zeroValue29 ?_; intro b41 w42 S43; clear S39
        refine saq 0 S43 inf29 ?_; intro w44 S45; clear S43
        refine va ?_
        refine qk [2, 5] ?_
        refine x_tssr (vm ?_)
        by_cases h46 : (tellM l).2.2 = 0
        ·refine vv (yneqF h46) ?_
         refine qk [2, 105] ?_
         refine x_tnktsr (va ?_)
         refine qk [2] ?_
         refine x_te (pt ?_)
         exact ⟨ret_int_ (bf_ok (by unfold shapeB; dsimp only; omega) ‹_›).symm, S45.low⟩
        ·refine vv (yneqT h46) ?_
         refine qk [2, 105] ?_
         refine x_tysr (va ?_)
         refine qk [2] ?_
         refine x_teh (pt ?_)
         exact ⟨ret_int_ (by first | exact (bf_shape (by unfold shapeB; dsimp only; omega)).symm | exact (bf_tell (b := ⟨ro, ep, fr, tg, rd, l⟩) ‹_›).symm), S45.low⟩
       ·refine vg (yneqT h33) ?_
        refine vg ypT ?_
        refine vv ypF ?_
        refine qk [1, 2, 97] ?_
        refine x_tysr (va ?_)
        refine qk [2] ?_
        refine x_teh (pt ?_)
        exact ⟨ret_int_ (by first | exact (bf_shape (by unfold shapeB; dsimp only; omega)).symm | exact (bf_tell (b := ⟨ro, ep, fr, tg, rd, l⟩) ‹_›).symm), S3.low⟩
      ·refine vg (yneqT h32) ?_
       refine vg ypT ?_
       refine vv ypF ?_
       refine qk [1, 2, 78] ?_
       refine x_tysr (va ?_)
       refine qk [2] ?_
       refine x_teh (pt ?_)
       exact ⟨ret_int_ (by first | exact (bf_shape (by unfold shapeB; dsimp only; omega)).symm | exact (bf_tell (b := ⟨ro, ep, fr, tg, rd, l⟩) ‹_›).symm), S3.low⟩
     ·refine calg en107 (In_f hp30 _) ?_
      rintro _ w47 ⟨rfl, rfl⟩
      refine ⟨_, rfl, ?_⟩
      refine vg (v := .bool true) yno ?_
      refine vv ypT ?_
      refine vm ?_
      iterate 8 refine vs ?_
      refine vv ypT ?_
      refine qk [1, 2, 54] ?_
      refine x_tysr (va ?_)
      refine qk [2] ?_
      refine x_teh (pt ?_)
      exact ⟨ret_int_ (by first | exact (bf_shape (by unfold shapeB; dsimp only; omega)).symm | exact (bf_tell (b := ⟨ro, ep, fr, tg, rd, l⟩) ‹_›).symm), S3.low⟩
    ·refine vv (yeqlF h29) ?_
     refine vm ?_
     iterate 4 refine vs ?_
     refine vv ypF ?_
     refine vm ?_
     refine vg (yfa 0 fa108_0) ?_
     refine vg (ylc 0 S3 Try.underlying3) ?_
     refine vg (yneqT h29) ?_
     refine vg ym ?_
     refine vg (yfa 2 fa108_2) ?_
     refine vg (ylc 0 S3 Try.underlying3) ?_
     by_cases h48 : fr = 0
     ·refine vg (yneqF h48) ?_
      refine vg ypT ?_
      refine vv ypF ?_
      refine qk [1, 2, 54] ?_
      refine x_tnktsr (vv (yfa 0 fa108_0) ?_)
      refine vv (ylc 0 S3 Try.underlying3) ?_
      by_cases h49 : ro = 2
      ·refine vv (yeqlT h49) ?_
       refine vm ?_
       iterate 3 refine vs ?_
       refine vv ypT ?_
       refine va ?_
       refine qk [1, 2, 3] ?_
       refine x_tssr (vm ?_)
       refine vm ?_
       refine vg (yfa 3 fa108_3) ?_
       refine vg (ylc 0 S3 Try.underlying3) ?_
       by_cases hp50 : 0 ≤ tg ∧ tg ≤ 4
       ·refine calg en107 (In_t hp50 _) ?_
        rintro _ w51 ⟨rfl, rfl⟩
        refine ⟨_, rfl, ?_⟩
        refine vg (v := .bool false) yno ?_
        refine vv ypT ?_
        refine vm ?_
        refine vg ym ?_
        refine vg (v := .bool false) yno ?_
        refine vg ym ?_
        iterate 3 refine vs ?_
        refine vg ypF ?_
        refine vv ypF ?_
        refine qk [1, 2, 78] ?_
        refine x_tnktssr (vv (yfa 0 fa108_0) ?_)
        refine vv (ylc 0 S3 Try.underlying3) ?_
        refine vv (yeqlT h49) ?_
        refine vm ?_
        refine vg (yfa 4 fa108_4) ?_
        refine vg (ylc 0 S3 Try.underlying3) ?_
        by_cases hp52 : 0 ≤ rd ∧ rd ≤ 4
        ·refine calg en107 (In_t hp52 _) ?_
         rintro _ w53 ⟨rfl, rfl⟩
         refine ⟨_, rfl, ?_⟩
         refine vg (v := .bool false) yno ?_
         refine vv ypT ?_
         refine vm ?_
         refine vg (yfa 0 fa108_0) ?_
         refine vg (ylc 0 S3 Try.underlying3) ?_
         refine vg (yneqF h49) ?_
         refine vg ym ?_
         iterate 3 refine vs ?_
         refine vg ypF ?_
         refine vv ypF ?_
         refine qk [1, 2, 97] ?_
         refine x_tnktsr (vv (yfa 5 fa108_5) ?_)
         refine vv (ylc 0 S3 Try.underlying57) ?_
         refine cal en71 (Replayed_calls A c l _ (St.rd 1 S3 rfl) (by omega)) ?_
         rintro _ w58 ⟨A54, c55, A56, c57, rfl, T60⟩
         refine ⟨_, rfl, ?_⟩
         have S59 := S3.ext T60 rfl; clear T60 S3
         change St _ _ _ [.rdo 2 A54 ((tellM l).1.ready.length) (((tellM l).1.ready).flatMap Msg.cells), .rdo 4 A56 ((tellM l).1.leases.length) (((tellM l).1.leases).flatMap Ls.cells), _, _] at S59
         refine vm ?_
         refine vv yx ?_
         refine vv yx ?_
         refine na (row := qRow 0 0 0 (.slice none 0 0) (.slice none 0 0) zeroWs) S59 Try.zeroValue29 ?_; intro b61 w62 S63; clear S59
         refine saq 0 S63 inf29 ?_; intro w64 S65; clear S63
         refine va ?_
         refine qk [2, 5] ?_
         refine x_tssr (vm ?_)
         by_cases h66 : (tellM l).2.2 = 0
         ·refine vv (yneqF h66) ?_
          refine qk [2, 105] ?_
          refine x_tnktsr (va ?_)
          refine qk [2] ?_
          refine x_te (pt ?_)
          exact ⟨ret_int_ (bf_ok (by unfold shapeB; dsimp only; omega) ‹_›).symm, S65.low⟩
         ·refine vv (yneqT h66) ?_
          refine qk [2, 105] ?_
          refine x_tysr (va ?_)
          refine qk [2] ?_
          refine x_teh (pt ?_)
          exact ⟨ret_int_ (by first | exact (bf_shape (by unfold shapeB; dsimp only; omega)).symm | exact (bf_tell (b := ⟨ro, ep, fr, tg, rd, l⟩) ‹_›).symm), S65.low⟩
        ·refine calg en107 (In_f hp52 _) ?_
         rintro _ w67 ⟨rfl, rfl⟩
         refine ⟨_, rfl, ?_⟩
         refine vg (v := .bool true) yno ?_
         refine vv ypT ?_
         refine vm ?_
         iterate 8 refine vs ?_
         refine vv ypT ?_
         refine qk [1, 2, 97] ?_
         refine x_tysr (va ?_)
         refine qk [2] ?_
         refine x_teh (pt ?_)
         exact ⟨ret_int_ (by first | exact (bf_shape (by unfold shapeB; dsimp only; omega)).symm | exact (bf_tell (b := ⟨ro, ep, fr, tg, rd, l⟩) ‹_›).symm), S3.low⟩
       ·refine calg en107 (In_f hp50 _) ?_
        rintro _ w68 ⟨rfl, rfl⟩
        refine ⟨_, rfl, ?_⟩
        refine vg (v := .bool true) yno ?_
        refine vv ypT ?_
        refine vm ?_
        iterate 7 refine vs ?_
        refine vv ypT ?_
        refine qk [1, 2, 78] ?_
        refine x_tysr (va ?_)
        refine qk [2] ?_
        refine x_teh (pt ?_)
        exact ⟨ret_int_ (by first | exact (bf_shape (by unfold shapeB; dsimp only; omega)).symm | exact (bf_tell (b := ⟨ro, ep, fr, tg, rd, l⟩) ‹_›).symm), S3.low⟩
      ·refine vv (yeqlF h49) ?_
       refine vm ?_
       refine vg (yfa 0 fa108_0) ?_
       refine vg (ylc 0 S3 Try.underlying3) ?_
       by_cases h69 : ro = 3
       ·refine vg (yeqlT h69) ?_
        refine vv ypF ?_
        refine va ?_
        refine qk [1, 2, 3] ?_
        refine x_tssr (vm ?_)
        refine vm ?_
        refine vg (yfa 3 fa108_3) ?_
        refine vg (ylc 0 S3 Try.underlying3) ?_
        by_cases hp70 : 0 ≤ tg ∧ tg ≤ 4
        ·refine calg en107 (In_t hp70 _) ?_
         rintro _ w71 ⟨rfl, rfl⟩
         refine ⟨_, rfl, ?_⟩
         refine vg (v := .bool false) yno ?_
         refine vv ypT ?_
         refine vm ?_
         refine vg ym ?_
         refine vg (v := .bool false) yno ?_
         refine vg ym ?_
         iterate 3 refine vs ?_
         refine vg ypF ?_
         refine vv ypF ?_
         refine qk [1, 2, 78] ?_
         refine x_tnktssr (vv (yfa 0 fa108_0) ?_)
         refine vv (ylc 0 S3 Try.underlying3) ?_
         refine vv (yeqlF h49) ?_
         refine vm ?_
         iterate 4 refine vs ?_
         refine vv ypF ?_
         refine vm ?_
         refine vg (yfa 0 fa108_0) ?_
         refine vg (ylc 0 S3 Try.underlying3) ?_
         refine vg (yneqT h49) ?_
         refine vg ym ?_
         refine vg (yfa 4 fa108_4) ?_
         refine vg (ylc 0 S3 Try.underlying3) ?_
         by_cases h72 : rd = 0
         ·refine vg (yneqF h72) ?_
          refine vg ypT ?_
          refine vv ypF ?_
          refine qk [1, 2, 97] ?_
          refine x_tnktsr (vv (yfa 5 fa108_5) ?_)
          refine vv (ylc 0 S3 Try.underlying57) ?_
          refine cal en71 (Replayed_calls A c l _ (St.rd 1 S3 rfl) (by omega)) ?_
          rintro _ w77 ⟨A73, c74, A75, c76, rfl, T79⟩
          refine ⟨_, rfl, ?_⟩
          have S78 := S3.ext T79 rfl; clear T79 S3
          change St _ _ _ [.rdo 2 A73 ((tellM l).1.ready.length) (((tellM l).1.ready).flatMap Msg.cells), .rdo 4 A75 ((tellM l).1.leases.length) (((tellM l).1.leases).flatMap Ls.cells), _, _] at S78
          refine vm ?_
          refine vv yx ?_
          refine vv yx ?_
          refine na (row := qRow 0 0 0 (.slice none 0 0) (.slice none 0 0) zeroWs) S78 Try.zeroValue29 ?_; intro b80 w81 S82; clear S78
          refine saq 0 S82 inf29 ?_; intro w83 S84; clear S82
          refine va ?_
          refine qk [2, 5] ?_
          refine x_tssr (vm ?_)
          by_cases h85 : (tellM l).2.2 = 0
          ·refine vv (yneqF h85) ?_
           refine qk [2, 105] ?_
           refine x_tnktsr (va ?_)
           refine qk [2] ?_
           refine x_te (pt ?_)
           exact ⟨ret_int_ (bf_ok (by unfold shapeB; dsimp only; omega) ‹_›).symm, S84.low⟩
          ·refine vv (yneqT h85) ?_
           refine qk [2, 105] ?_
           refine x_tysr (va ?_)
           refine qk [2] ?_
           refine x_teh (pt ?_)
           exact ⟨ret_int_ (by first | exact (bf_shape (by unfold shapeB; dsimp only; omega)).symm | exact (bf_tell (b := ⟨ro, ep, fr, tg, rd, l⟩) ‹_›).symm), S84.low⟩
         ·refine vg (yneqT h72) ?_
          refine vg ypT ?_
          refine vv ypF ?_
          refine qk [1, 2, 97] ?_
          refine x_tysr (va ?_)
          refine qk [2] ?_
          refine x_teh (pt ?_)
          exact ⟨ret_int_ (by first | exact (bf_shape (by unfold shapeB; dsimp only; omega)).symm | exact (bf_tell (b := ⟨ro, ep, fr, tg, rd, l⟩) ‹_›).symm), S3.low⟩
        ·refine calg en107 (In_f hp70 _) ?_
         rintro _ w86 ⟨rfl, rfl⟩
         refine ⟨_, rfl, ?_⟩
         refine vg (v := .bool true) yno ?_
         refine vv ypT ?_
         refine vm ?_
         iterate 7 refine vs ?_
         refine vv ypT ?_
         refine qk [1, 2, 78] ?_
         refine x_tysr (va ?_)
         refine qk [2] ?_
         refine x_teh (pt ?_)
         exact ⟨ret_int_ (by first | exact (bf_shape (by unfold shapeB; dsimp only; omega)).symm | exact (bf_tell (b := ⟨ro, ep, fr, tg, rd, l⟩) ‹_›).symm), S3.low⟩
       ·refine vg (yeqlF h69) ?_
        refine vv ypF ?_
        refine va ?_
        refine qk [1, 2, 3] ?_
        refine x_tssr (vm ?_)
        refine vm ?_
        iterate 4 refine vs ?_
        refine vv ypF ?_
        refine vm ?_
        refine vg ym ?_
        refine vg (v := .bool true) yno ?_
        refine vg ym ?_
        refine vg (yfa 3 fa108_3) ?_
        refine vg (ylc 0 S3 Try.underlying3) ?_
        by_cases h87 : tg = 0
        ·refine vg (yneqF h87) ?_
         refine vg ypT ?_
         refine vv ypF ?_
         refine qk [1, 2, 78] ?_
         refine x_tnktssr (vv (yfa 0 fa108_0) ?_)
         refine vv (ylc 0 S3 Try.underlying3) ?_
         refine vv (yeqlF h49) ?_
         refine vm ?_
         iterate 4 refine vs ?_
         refine vv ypF ?_
         refine vm ?_
         refine vg (yfa 0 fa108_0) ?_
         refine vg (ylc 0 S3 Try.underlying3) ?_
         refine vg (yneqT h49) ?_
         refine vg ym ?_
         refine vg (yfa 4 fa108_4) ?_
         refine vg (ylc 0 S3 Try.underlying3) ?_
         by_cases h88 : rd = 0
         ·refine vg (yneqF h88) ?_
          refine vg ypT ?_
          refine vv ypF ?_
          refine qk [1, 2, 97] ?_
          refine x_tnktsr (vv (yfa 5 fa108_5) ?_)
          refine vv (ylc 0 S3 Try.underlying57) ?_
          refine cal en71 (Replayed_calls A c l _ (St.rd 1 S3 rfl) (by omega)) ?_
          rintro _ w93 ⟨A89, c90, A91, c92, rfl, T95⟩
          refine ⟨_, rfl, ?_⟩
          have S94 := S3.ext T95 rfl; clear T95 S3
          change St _ _ _ [.rdo 2 A89 ((tellM l).1.ready.length) (((tellM l).1.ready).flatMap Msg.cells), .rdo 4 A91 ((tellM l).1.leases.length) (((tellM l).1.leases).flatMap Ls.cells), _, _] at S94
          refine vm ?_
          refine vv yx ?_
          refine vv yx ?_
          refine na (row := qRow 0 0 0 (.slice none 0 0) (.slice none 0 0) zeroWs) S94 Try.zeroValue29 ?_; intro b96 w97 S98; clear S94
          refine saq 0 S98 inf29 ?_; intro w99 S100; clear S98
          refine va ?_
          refine qk [2, 5] ?_
          refine x_tssr (vm ?_)
          by_cases h101 : (tellM l).2.2 = 0
          ·refine vv (yneqF h101) ?_
           refine qk [2, 105] ?_
           refine x_tnktsr (va ?_)
           refine qk [2] ?_
           refine x_te (pt ?_)
           exact ⟨ret_int_ (bf_ok (by unfold shapeB; dsimp only; omega) ‹_›).symm, S100.low⟩
          ·refine vv (yneqT h101) ?_
           refine qk [2, 105] ?_
           refine x_tysr (va ?_)
           refine qk [2] ?_
           refine x_teh (pt ?_)
           exact ⟨ret_int_ (by first | exact (bf_shape (by unfold shapeB; dsimp only; omega)).symm | exact (bf_tell (b := ⟨ro, ep, fr, tg, rd, l⟩) ‹_›).symm), S100.low⟩
         ·refine vg (yneqT h88) ?_
          refine vg ypT ?_
          refine vv ypF ?_
          refine qk [1, 2, 97] ?_
          refine x_tysr (va ?_)
          refine qk [2] ?_
          refine x_teh (pt ?_)
          exact ⟨ret_int_ (by first | exact (bf_shape (by unfold shapeB; dsimp only; omega)).symm | exact (bf_tell (b := ⟨ro, ep, fr, tg, rd, l⟩) ‹_›).symm), S3.low⟩
        ·refine vg (yneqT h87) ?_
         refine vg ypT ?_
         refine vv ypF ?_
         refine qk [1, 2, 78] ?_
         refine x_tysr (va ?_)
         refine qk [2] ?_
         refine x_teh (pt ?_)
         exact ⟨ret_int_ (by first | exact (bf_shape (by unfold shapeB; dsimp only; omega)).symm | exact (bf_tell (b := ⟨ro, ep, fr, tg, rd, l⟩) ‹_›).symm), S3.low⟩
     ·refine vg (yneqT h48) ?_
      refine vg ypT ?_
      refine vv ypF ?_
      refine qk [1, 2, 54] ?_
      refine x_tysr (va ?_)
      refine qk [2] ?_
      refine x_teh (pt ?_)
      exact ⟨ret_int_ (by first | exact (bf_shape (by unfold shapeB; dsimp only; omega)).symm | exact (bf_tell (b := ⟨ro, ep, fr, tg, rd, l⟩) ‹_›).symm), S3.low⟩
   ·refine calg en107 (In_f hp27 _) ?_
    rintro _ w102 ⟨rfl, rfl⟩
    refine ⟨_, rfl, ?_⟩
    refine vg (v := .bool true) yno ?_
    refine vg ypT ?_
    refine vv ypF ?_
    refine qk [1, 2, 35] ?_
    refine x_tysr (va ?_)
    refine qk [2] ?_
    refine x_teh (pt ?_)
    exact ⟨ret_int_ (by first | exact (bf_shape (by unfold shapeB; dsimp only; omega)).symm | exact (bf_tell (b := ⟨ro, ep, fr, tg, rd, l⟩) ‹_›).symm), S3.low⟩
 ·refine cal en107 (In_f hp4 _) ?_
  rintro _ w103 ⟨rfl, rfl⟩
  refine ⟨_, rfl, ?_⟩
  refine vv (v := .bool true) yno ?_
  refine qk [1, 2, 9] ?_
  refine x_tysr (va ?_)
  refine qk [2] ?_
  refine x_teh (pt ?_)
  exact ⟨ret_int_ (by first | exact (bf_shape (by unfold shapeB; dsimp only; omega)).symm | exact (bf_tell (b := ⟨ro, ep, fr, tg, rd, l⟩) ‹_›).symm), S3.low⟩

set_option maxRecDepth 100000 in
set_option maxHeartbeats 1000000 in
theorem BerthCopy_calls (ro ep fr tg rd : Int) (A : Option Addr) (c : Nat) (l : List Ev) (w : World) (h : Rd w w.heap.size 6 A l.length (evCells l)) (hb : l.length * 48 ≤ reachBytes) :
    Calls Try.prog 156 #[.agg #[.int .i64 ro, .int .i64 ep, .int .i64 fr, .int .i64 tg, .int .i64 rd, .slice A l.length c]] w (WithPost w ro ep fr tg rd l) := by
 have S := (St.start w).addRd h; clear h
 have hb2 := hb
 unfold reachBytes at hb2
 refine fnw 8 Try.func156 ?_
 refine cw [0] ?_
 refine x_sr (nb (row := #[.int .i64 ro, .int .i64 ep, .int .i64 fr, .int .i64 tg, .int .i64 rd, .slice A l.length c]) S ?_); intro b1 w2 S3; clear S
 refine naB S3 Try.zeroValue108 ?_; intro b4 w5 S6; clear S3
 refine qk [1, 2] ?_
 refine x_tsr (vv (yfa 5 fa108_5) ?_)
 refine vv (ylc 1 S6 Try.underlying57) ?_
 refine cal en152 (EventsCopy_calls A l.length c l _ (St.rd 2 S6 rfl) hb) ?_
 rintro _ w11 ⟨A7, c8, rfl, hb9, ho10⟩
 refine ⟨_, rfl, ?_⟩
 have S12 := S6.onOwn hb9 ho10; clear hb9 ho10 S6
 change St _ _ _ [.own 37 6 (.slice A7 l.length c8) l.length ((l).flatMap Ev.cells), _, _, _] at S12
 refine vv (yfa 5 fa108_5) ?_
 refine sr (row' := #[.int .i64 ro, .int .i64 ep, .int .i64 fr, .int .i64 tg, .int .i64 rd, .slice A7 l.length c8]) 2 S12 inf57 ?_; intro w13 S14; clear S12
 refine qk [1, 2] ?_
 refine x_tsr (vv (ylr 2 S14 Try.underlying108 inf108) ?_)
 refine sa 1 S14 inf108 ?_; intro w15 S16; clear S14
 refine qk [2] ?_
 refine x_te (wQ_post (rs := [.cell 2 108]) (vs := [.agg #[.int .i64 ro, .int .i64 ep, .int .i64 fr, .int .i64 tg, .int .i64 rd, .slice A7 l.length c8]]) rfl ⟨⟨_, rfl, res_row 1 S16 rfl Try.underlying108 rfl inf108⟩, trivial⟩ ?_)
 have S17 : St _ _ _ [_] := S16.dels [3, 2, 1]; clear S16
 exact ⟨A7, c8, rfl, S17⟩

end Go.Proofs.Ytkjlafpafmihaaa

namespace Go.Proofs.Ytkjlafpafmihaaa
open Go.ChangeShapes Go.WideShapes Go.RowKit

set_option maxRecDepth 100000 in
set_option maxHeartbeats 1000000 in
theorem Make_calls (ro ep fr tg rd : Int) (A : Option Addr) (c : Nat) (l : List Ev) (e : Int) (w : World) (h : Rd w w.heap.size 6 A l.length (evCells l)) (hb : l.length * 48 ≤ reachBytes) :
    Calls Try.prog 82 #[.agg #[.int .i64 ro, .int .i64 ep, .int .i64 fr, .int .i64 tg, .int .i64 rd, .slice A l.length c], .int .i64 e] w (BrtPost w (makeM ⟨ro, ep, fr, tg, rd, l⟩ e)) := by
 have S := (St.start w).addRd h; clear h
 have hb2 := hb
 unfold reachBytes at hb2
 refine fnw 35 Try.func82 ?_
 refine cw [0, 1] ?_
 refine x_sr (nb (row := #[.int .i64 ro, .int .i64 ep, .int .i64 fr, .int .i64 tg, .int .i64 rd, .slice A l.length c]) S ?_); intro b1 w2 S3; clear S
 refine naB S3 Try.zeroValue108 ?_; intro b4 w5 S6; clear S3
 refine va ?_
 refine qk [1, 2, 4, 5] ?_
 refine x_tssr (vv (ylr 1 S6 Try.underlying108 inf108) ?_)
 refine cab en76 S6 (BCheck_calls ro ep fr tg rd A c l _ (St.rd 2 S6 rfl) (by omega)) ?_; intro w7 S8; clear S6
 refine va ?_
 refine qk [1, 2, 4, 5, 6] ?_
 refine x_tbsr (vm ?_)
 by_cases h10 : brtFault ⟨ro, ep, fr, tg, rd, l⟩ = 0
 ·have hsh := (bf_zero h10).1
  unfold shapeB at hsh
  have hln := tellM_len (bf_zero h10).2
  dsimp only at hsh hln
  refine vv (yneqF h10) ?_
  refine va ?_
  refine qk [1, 2, 4, 5, 6, 9] ?_
  refine x_tnsr (vm ?_)
  by_cases h11 : e < 1
  ·refine vv (ylssT h11) ?_
   refine vm ?_
   iterate 2 refine vs ?_
   refine vv ypT ?_
   refine va ?_
   refine qk [1, 2, 4, 5, 14] ?_
   refine x_tysr (vv yzB ?_)
   refine sa 0 S8 inf108 ?_; intro w12 S13; clear S8
   refine va ?_
   refine qk [4, 5] ?_
   refine x_tech (pc 0 S13 Try.underlying108 inf108 ?_)
   have S14 : St _ _ _ [] := S13.dels [2, 1, 0]; clear S13
   rw [show makeM ⟨ro, ep, fr, tg, rd, l⟩ e = (⟨0, 0, 0, 0, 0, []⟩, 2) from by unfold makeM; (try dsimp only); exact lfB]
   exact ⟨none, 0, rfl, rdo_nil S14⟩
  ·refine vv (ylssF h11) ?_
   refine vm ?_
   refine vg ym ?_
   by_cases h15 : 1048576 < e
   ·refine vg (ygtrT h15) ?_
    refine vv ypF ?_
    refine va ?_
    refine qk [1, 2, 4, 5, 14] ?_
    refine x_tysr (vv yzB ?_)
    refine sa 0 S8 inf108 ?_; intro w16 S17; clear S8
    refine va ?_
    refine qk [4, 5] ?_
    refine x_tech (pc 0 S17 Try.underlying108 inf108 ?_)
    have S18 : St _ _ _ [] := S17.dels [2, 1, 0]; clear S17
    rw [show makeM ⟨ro, ep, fr, tg, rd, l⟩ e = (⟨0, 0, 0, 0, 0, []⟩, 2) from by unfold makeM; (try dsimp only); exact lfB]
    exact ⟨none, 0, rfl, rdo_nil S18⟩
   ·refine vg (ygtrF h15) ?_
    refine vv ypF ?_
    refine va ?_
    refine qk [1, 2, 4, 5, 14] ?_
    refine x_tnsr (vv (yfa 0 fa108_0) ?_)
    refine vv (ylc 1 S8 Try.underlying3) ?_
    by_cases h19 : ro = 0
    ·refine vv (yneqF h19) ?_
     refine va ?_
     refine qk [1, 2, 4, 5, 22] ?_
     refine x_tnsr (vm ?_)
     refine vv (yfa 1 fa108_1) ?_
     refine vv (ylc 1 S8 Try.underlying3) ?_
     by_cases h20 : e ≤ ep
     ·refine vv (yleqT h20) ?_
      refine va ?_
      refine qk [1, 4, 5, 27] ?_
      refine x_tysr (vv yzB ?_)
      refine sa 0 S8 inf108 ?_; intro w21 S22; clear S8
      refine va ?_
      refine qk [4, 5] ?_
      refine x_tech (pc 0 S22 Try.underlying108 inf108 ?_)
      have S23 : St _ _ _ [] := S22.dels [2, 1, 0]; clear S22
      rw [show makeM ⟨ro, ep, fr, tg, rd, l⟩ e = (⟨0, 0, 0, 0, 0, []⟩, 15) from by unfold makeM; (try dsimp only); exact lfB]
      exact ⟨none, 0, rfl, rdo_nil S23⟩
     ·refine vv (yleqF h20) ?_
      refine va ?_
      refine qk [1, 4, 5, 27] ?_
      refine wQ_then (wC_cond_f rfl (wC_skip (wQ_blk_n (wQ_then (wC_seq (wC_region (vm ?_)))))))
      refine vv (v := .agg #[.int .i64 1, .int .i64 e, .int .i64 0, .int .i64 0, .int .i64 0, .slice none 0 0]) (y_build (vs := [(0, .int .i64 1), (1, .int .i64 e)]) rfl ⟨rfl, rfl, rfl, rfl, trivial⟩ (by kernel_rfl)) ?_
      refine sa 0 S8 inf108 ?_; intro w24 S25; clear S8
      refine va ?_
      refine qk [4, 5] ?_
      refine x_te (pc 0 S25 Try.underlying108 inf108 ?_)
      have S26 : St _ _ _ [] := S25.dels [2, 1, 0]; clear S25
      rw [show makeM ⟨ro, ep, fr, tg, rd, l⟩ e = (⟨1, e, 0, 0, 0, []⟩, 0) from by unfold makeM; (try dsimp only); exact lfB]
      exact ⟨none, 0, rfl, rdo_nil S26⟩
    ·refine vv (yneqT h19) ?_
     refine va ?_
     refine qk [1, 2, 4, 5, 22] ?_
     refine x_tysr (vv yzB ?_)
     refine sa 0 S8 inf108 ?_; intro w27 S28; clear S8
     refine va ?_
     refine qk [4, 5] ?_
     refine x_tech (pc 0 S28 Try.underlying108 inf108 ?_)
     have S29 : St _ _ _ [] := S28.dels [2, 1, 0]; clear S28
     rw [show makeM ⟨ro, ep, fr, tg, rd, l⟩ e = (⟨0, 0, 0, 0, 0, []⟩, 8) from by unfold makeM; (try dsimp only); exact lfB]
     exact ⟨none, 0, rfl, rdo_nil S29⟩
 ·refine vv (yneqT h10) ?_
  refine va ?_
  refine qk [1, 2, 4, 5, 6, 9] ?_
  refine x_tysr (vv yzB ?_)
  refine vm ?_
  refine sa 0 S8 inf108 ?_; intro w30 S31; clear S8
  refine va ?_
  refine qk [4, 5] ?_
  refine x_tech (pc 0 S31 Try.underlying108 inf108 ?_)
  have S32 : St _ _ _ [] := S31.dels [2, 1, 0]; clear S31
  rw [show makeM ⟨ro, ep, fr, tg, rd, l⟩ e = (⟨0, 0, 0, 0, 0, []⟩, brtFault ⟨ro, ep, fr, tg, rd, l⟩) from by unfold makeM; (try dsimp only); exact lfB]
  exact ⟨none, 0, rfl, rdo_nil S32⟩

set_option maxRecDepth 100000 in
set_option maxHeartbeats 1000000 in
theorem Begin_calls (ro ep fr tg rd : Int) (A : Option Addr) (c : Nat) (l : List Ev) (e f : Int) (w : World) (h : Rd w w.heap.size 6 A l.length (evCells l)) (hb : l.length * 48 ≤ reachBytes) :
    Calls Try.prog 88 #[.agg #[.int .i64 ro, .int .i64 ep, .int .i64 fr, .int .i64 tg, .int .i64 rd, .slice A l.length c], .int .i64 e, .int .i64 f] w (BrtPost w (beginM ⟨ro, ep, fr, tg, rd, l⟩ e f)) := by
 have S := (St.start w).addRd h; clear h
 have hb2 := hb
 unfold reachBytes at hb2
 refine fnw 66 Try.func88 ?_
 refine cw [0, 1, 2] ?_
 refine x_sr (nb (row := #[.int .i64 ro, .int .i64 ep, .int .i64 fr, .int .i64 tg, .int .i64 rd, .slice A l.length c]) S ?_); intro b1 w2 S3; clear S
 refine naB S3 Try.zeroValue108 ?_; intro b4 w5 S6; clear S3
 refine va ?_
 refine qk [1, 2, 3, 6, 7] ?_
 refine x_tssr (vv (ylr 1 S6 Try.underlying108 inf108) ?_)
 refine cab en76 S6 (BCheck_calls ro ep fr tg rd A c l _ (St.rd 2 S6 rfl) (by omega)) ?_; intro w7 S8; clear S6
 refine va ?_
 refine qk [1, 2, 3, 6, 7, 8] ?_
 refine x_tbsr (vm ?_)
 by_cases h10 : brtFault ⟨ro, ep, fr, tg, rd, l⟩ = 0
 ·have hsh := (bf_zero h10).1
  unfold shapeB at hsh
  have hln := tellM_len (bf_zero h10).2
  dsimp only at hsh hln
  refine vv (yneqF h10) ?_
  refine va ?_
  refine qk [1, 2, 3, 6, 7, 8, 11] ?_
  refine x_tnsr (vm ?_)
  by_cases h11 : e < 1
  ·refine vv (ylssT h11) ?_
   refine vm ?_
   iterate 2 refine vs ?_
   refine vv ypT ?_
   refine vm ?_
   iterate 3 refine vs ?_
   refine vv ypT ?_
   refine va ?_
   refine qk [1, 2, 3, 6, 7, 16] ?_
   refine x_tysr (vv yzB ?_)
   refine sa 0 S8 inf108 ?_; intro w12 S13; clear S8
   refine va ?_
   refine qk [6, 7] ?_
   refine x_tech (pc 0 S13 Try.underlying108 inf108 ?_)
   have S14 : St _ _ _ [] := S13.dels [2, 1, 0]; clear S13
   rw [show beginM ⟨ro, ep, fr, tg, rd, l⟩ e f = (⟨0, 0, 0, 0, 0, []⟩, 2) from by unfold beginM; (try dsimp only); exact lfB]
   exact ⟨none, 0, rfl, rdo_nil S14⟩
  ·refine vv (ylssF h11) ?_
   refine vm ?_
   refine vg ym ?_
   by_cases h15 : 1048576 < e
   ·refine vg (ygtrT h15) ?_
    refine vv ypF ?_
    refine vm ?_
    iterate 3 refine vs ?_
    refine vv ypT ?_
    refine va ?_
    refine qk [1, 2, 3, 6, 7, 16] ?_
    refine x_tysr (vv yzB ?_)
    refine sa 0 S8 inf108 ?_; intro w16 S17; clear S8
    refine va ?_
    refine qk [6, 7] ?_
    refine x_tech (pc 0 S17 Try.underlying108 inf108 ?_)
    have S18 : St _ _ _ [] := S17.dels [2, 1, 0]; clear S17
    rw [show beginM ⟨ro, ep, fr, tg, rd, l⟩ e f = (⟨0, 0, 0, 0, 0, []⟩, 2) from by unfold beginM; (try dsimp only); exact lfB]
    exact ⟨none, 0, rfl, rdo_nil S18⟩
   ·refine vg (ygtrF h15) ?_
    refine vv ypF ?_
    refine vm ?_
    refine vg ym ?_
    by_cases hp19 : 0 ≤ f ∧ f < 5
    ·have HC20 := fun (w : World) => node_calls f w
     rw [decide_eq_true hp19] at HC20
     refine calg en161 (HC20 _) ?_
     rintro _ w21 ⟨rfl, hb23⟩
     refine ⟨_, rfl, ?_⟩
     have S22 := S8.on hb23; clear hb23 S8; clear HC20
     refine vg (v := .bool false) yno ?_
     refine vv ypF ?_
     refine va ?_
     refine qk [1, 2, 3, 6, 7, 16] ?_
     refine x_tnsr (vv (yfa 0 fa108_0) ?_)
     refine vv (ylc 1 S22 Try.underlying3) ?_
     by_cases h24 : ro = 0
     ·refine vv (yneqF h24) ?_
      refine vm ?_
      iterate 3 refine vs ?_
      refine vv ypF ?_
      refine va ?_
      refine qk [1, 2, 3, 6, 7, 29] ?_
      refine x_tnsr (vv (yfa 0 fa108_0) ?_)
      refine vv (ylc 1 S22 Try.underlying3) ?_
      refine vv (deqlF (h := by omega)) ?_
      refine vm ?_
      iterate 4 refine vs ?_
      refine vv ypF ?_
      refine vm ?_
      iterate 4 refine vs ?_
      refine vv ypF ?_
      refine va ?_
      refine qk [1, 2, 3, 6, 7, 39] ?_
      refine x_tnsr (vv (yfa 1 fa108_1) ?_)
      refine vv (ylc 1 S22 Try.underlying3) ?_
      refine vm ?_
      by_cases h25 : e ≤ ep
      ·refine vv (ygeqT h25) ?_
       refine va ?_
       refine qk [1, 2, 6, 7, 57] ?_
       refine x_tysr (vv yzB ?_)
       refine sa 0 S22 inf108 ?_; intro w26 S27; clear S22
       refine va ?_
       refine qk [6, 7] ?_
       refine x_tech (pc 0 S27 Try.underlying108 inf108 ?_)
       have S28 : St _ _ _ [] := S27.dels [2, 1, 0]; clear S27
       rw [show beginM ⟨ro, ep, fr, tg, rd, l⟩ e f = (⟨0, 0, 0, 0, 0, []⟩, 15) from by unfold beginM; (try dsimp only); exact lfB]
       exact ⟨none, 0, rfl, rdo_nil S28⟩
      ·refine vv (ygeqF h25) ?_
       refine va ?_
       refine qk [1, 2, 6, 7, 57] ?_
       refine wQ_then (wC_cond_f rfl (wC_skip (wQ_blk_n (wQ_then (wC_seq (wC_region (vm ?_)))))))
       refine vm ?_
       refine vv (v := .agg #[.int .i64 4, .int .i64 e, .int .i64 f, .int .i64 0, .int .i64 0, .slice none 0 0]) (y_build (vs := [(0, .int .i64 4), (1, .int .i64 e), (2, .int .i64 f)]) rfl ⟨rfl, rfl, rfl, rfl, rfl, rfl, trivial⟩ (by kernel_rfl)) ?_
       refine sa 0 S22 inf108 ?_; intro w29 S30; clear S22
       refine va ?_
       refine qk [6, 7] ?_
       refine x_te (pc 0 S30 Try.underlying108 inf108 ?_)
       have S31 : St _ _ _ [] := S30.dels [2, 1, 0]; clear S30
       rw [show beginM ⟨ro, ep, fr, tg, rd, l⟩ e f = (⟨4, e, f, 0, 0, []⟩, 0) from by unfold beginM; (try dsimp only); exact lfB]
       exact ⟨none, 0, rfl, rdo_nil S31⟩
     ·refine vv (yneqT h24) ?_
      refine vm ?_
      refine vg (yfa 0 fa108_0) ?_
      refine vg (ylc 1 S22 Try.underlying3) ?_
      by_cases h32 : ro = 4
      ·refine vg (yneqF h32) ?_
       refine vv ypT ?_
       refine va ?_
       refine qk [1, 2, 3, 6, 7, 29] ?_
       refine x_tnsr (vv (yfa 0 fa108_0) ?_)
       refine vv (ylc 1 S22 Try.underlying3) ?_
       refine vv (yeqlT h32) ?_
       refine vm ?_
       refine vg (yfa 1 fa108_1) ?_
       refine vg (ylc 1 S22 Try.underlying3) ?_
       refine vg ym ?_
       by_cases h33 : ep = e
       ·refine vg (yeqlT h33) ?_
        refine vv ypT ?_
        refine vm ?_
        refine vg (yfa 2 fa108_2) ?_
        refine vg (ylc 1 S22 Try.underlying3) ?_
        refine vg ym ?_
        by_cases h34 : fr = f
        ·refine vg (yeqlT h34) ?_
         refine vv ypT ?_
         refine va ?_
         refine qk [1, 2, 3, 6, 7, 39] ?_
         refine x_tysr (vv (ylr 1 S22 Try.underlying108 inf108) ?_)
         refine cal en160 (with0_calls ro ep fr tg rd A c l _ (St.rd 2 S22 rfl) hb) ?_
         rintro _ w37 ⟨A35, c36, rfl, T39⟩
         refine ⟨_, rfl, ?_⟩
         have S38 := S22.ext T39 rfl; clear T39 S22
         change St _ _ _ [.own 37 6 (.slice A35 l.length c36) l.length ((l).flatMap Ev.cells), _, _, _] at S38
         refine sa 1 S38 inf108 ?_; intro w40 S41; clear S38
         refine va ?_
         refine qk [6, 7] ?_
         refine x_tech (pc 1 S41 Try.underlying108 inf108 ?_)
         have S42 : St _ _ _ [_] := S41.dels [3, 2, 1]; clear S41
         have S43 := S42.sealAll 0 rfl; clear S42
         change St _ _ _ [.rdo 6 A35 l.length ((l).flatMap Ev.cells)] at S43
         rw [show beginM ⟨ro, ep, fr, tg, rd, l⟩ e f = (⟨ro, ep, fr, tg, rd, l⟩, 0) from by unfold beginM; (try dsimp only); exact lfB]
         exact ⟨A35, c36, rfl, S43⟩
        ·refine vg (yeqlF h34) ?_
         refine vv ypT ?_
         refine va ?_
         refine qk [1, 2, 3, 6, 7, 39] ?_
         refine x_tnsr (vv (yfa 1 fa108_1) ?_)
         refine vv (ylc 1 S22 Try.underlying3) ?_
         refine vm ?_
         by_cases h44 : e ≤ ep
         ·refine vv (ygeqT h44) ?_
          refine va ?_
          refine qk [1, 2, 6, 7, 57] ?_
          refine x_tysr (vv yzB ?_)
          refine sa 0 S22 inf108 ?_; intro w45 S46; clear S22
          refine va ?_
          refine qk [6, 7] ?_
          refine x_tech (pc 0 S46 Try.underlying108 inf108 ?_)
          have S47 : St _ _ _ [] := S46.dels [2, 1, 0]; clear S46
          rw [show beginM ⟨ro, ep, fr, tg, rd, l⟩ e f = (⟨0, 0, 0, 0, 0, []⟩, 15) from by unfold beginM; (try dsimp only); exact lfB]
          exact ⟨none, 0, rfl, rdo_nil S47⟩
         ·refine vv (ygeqF h44) ?_
          refine va ?_
          refine qk [1, 2, 6, 7, 57] ?_
          refine wQ_then (wC_cond_f rfl (wC_skip (wQ_blk_n (wQ_then (wC_seq (wC_region (vm ?_)))))))
          refine vm ?_
          refine vv (v := .agg #[.int .i64 4, .int .i64 e, .int .i64 f, .int .i64 0, .int .i64 0, .slice none 0 0]) (y_build (vs := [(0, .int .i64 4), (1, .int .i64 e), (2, .int .i64 f)]) rfl ⟨rfl, rfl, rfl, rfl, rfl, rfl, trivial⟩ (by kernel_rfl)) ?_
          refine sa 0 S22 inf108 ?_; intro w48 S49; clear S22
          refine va ?_
          refine qk [6, 7] ?_
          refine x_te (pc 0 S49 Try.underlying108 inf108 ?_)
          have S50 : St _ _ _ [] := S49.dels [2, 1, 0]; clear S49
          rw [show beginM ⟨ro, ep, fr, tg, rd, l⟩ e f = (⟨4, e, f, 0, 0, []⟩, 0) from by unfold beginM; (try dsimp only); exact lfB]
          exact ⟨none, 0, rfl, rdo_nil S50⟩
       ·refine vg (yeqlF h33) ?_
        refine vv ypT ?_
        refine vm ?_
        iterate 4 refine vs ?_
        refine vv ypF ?_
        refine va ?_
        refine qk [1, 2, 3, 6, 7, 39] ?_
        refine x_tnsr (vv (yfa 1 fa108_1) ?_)
        refine vv (ylc 1 S22 Try.underlying3) ?_
        refine vm ?_
        by_cases h51 : e ≤ ep
        ·refine vv (ygeqT h51) ?_
         refine va ?_
         refine qk [1, 2, 6, 7, 57] ?_
         refine x_tysr (vv yzB ?_)
         refine sa 0 S22 inf108 ?_; intro w52 S53; clear S22
         refine va ?_
         refine qk [6, 7] ?_
         refine x_tech (pc 0 S53 Try.underlying108 inf108 ?_)
         have S54 : St _ _ _ [] := S53.dels [2, 1, 0]; clear S53
         rw [show beginM ⟨ro, ep, fr, tg, rd, l⟩ e f = (⟨0, 0, 0, 0, 0, []⟩, 15) from by unfold beginM; (try dsimp only); exact lfB]
         exact ⟨none, 0, rfl, rdo_nil S54⟩
        ·refine vv (ygeqF h51) ?_
         refine va ?_
         refine qk [1, 2, 6, 7, 57] ?_
         refine wQ_then (wC_cond_f rfl (wC_skip (wQ_blk_n (wQ_then (wC_seq (wC_region (vm ?_)))))))
         refine vm ?_
         refine vv (v := .agg #[.int .i64 4, .int .i64 e, .int .i64 f, .int .i64 0, .int .i64 0, .slice none 0 0]) (y_build (vs := [(0, .int .i64 4), (1, .int .i64 e), (2, .int .i64 f)]) rfl ⟨rfl, rfl, rfl, rfl, rfl, rfl, trivial⟩ (by kernel_rfl)) ?_
         refine sa 0 S22 inf108 ?_; intro w55 S56; clear S22
         refine va ?_
         refine qk [6, 7] ?_
         refine x_te (pc 0 S56 Try.underlying108 inf108 ?_)
         have S57 : St _ _ _ [] := S56.dels [2, 1, 0]; clear S56
         rw [show beginM ⟨ro, ep, fr, tg, rd, l⟩ e f = (⟨4, e, f, 0, 0, []⟩, 0) from by unfold beginM; (try dsimp only); exact lfB]
         exact ⟨none, 0, rfl, rdo_nil S57⟩
      ·refine vg (yneqT h32) ?_
       refine vv ypT ?_
       refine va ?_
       refine qk [1, 2, 3, 6, 7, 29] ?_
       refine x_tysr (vv yzB ?_)
       refine sa 0 S22 inf108 ?_; intro w58 S59; clear S22
       refine va ?_
       refine qk [6, 7] ?_
       refine x_tech (pc 0 S59 Try.underlying108 inf108 ?_)
       have S60 : St _ _ _ [] := S59.dels [2, 1, 0]; clear S59
       rw [show beginM ⟨ro, ep, fr, tg, rd, l⟩ e f = (⟨0, 0, 0, 0, 0, []⟩, 8) from by unfold beginM; (try dsimp only); exact lfB]
       exact ⟨none, 0, rfl, rdo_nil S60⟩
    ·have HC61 := fun (w : World) => node_calls f w
     rw [decide_eq_false hp19] at HC61
     refine calg en161 (HC61 _) ?_
     rintro _ w62 ⟨rfl, hb64⟩
     refine ⟨_, rfl, ?_⟩
     have S63 := S8.on hb64; clear hb64 S8; clear HC61
     refine vg (v := .bool true) yno ?_
     refine vv ypF ?_
     refine va ?_
     refine qk [1, 2, 3, 6, 7, 16] ?_
     refine x_tysr (vv yzB ?_)
     refine sa 0 S63 inf108 ?_; intro w65 S66; clear S63
     refine va ?_
     refine qk [6, 7] ?_
     refine x_tech (pc 0 S66 Try.underlying108 inf108 ?_)
     have S67 : St _ _ _ [] := S66.dels [2, 1, 0]; clear S66
     rw [show beginM ⟨ro, ep, fr, tg, rd, l⟩ e f = (⟨0, 0, 0, 0, 0, []⟩, 2) from by unfold beginM; (try dsimp only); exact lfB]
     exact ⟨none, 0, rfl, rdo_nil S67⟩
 ·refine vv (yneqT h10) ?_
  refine va ?_
  refine qk [1, 2, 3, 6, 7, 8, 11] ?_
  refine x_tysr (vv yzB ?_)
  refine vm ?_
  refine sa 0 S8 inf108 ?_; intro w68 S69; clear S8
  refine va ?_
  refine qk [6, 7] ?_
  refine x_tech (pc 0 S69 Try.underlying108 inf108 ?_)
  have S70 : St _ _ _ [] := S69.dels [2, 1, 0]; clear S69
  rw [show beginM ⟨ro, ep, fr, tg, rd, l⟩ e f = (⟨0, 0, 0, 0, 0, []⟩, brtFault ⟨ro, ep, fr, tg, rd, l⟩) from by unfold beginM; (try dsimp only); exact lfB]
  exact ⟨none, 0, rfl, rdo_nil S70⟩

end Go.Proofs.Ytkjlafpafmihaaa

