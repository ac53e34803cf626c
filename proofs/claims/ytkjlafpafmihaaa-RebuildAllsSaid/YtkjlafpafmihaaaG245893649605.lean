/- Parts of proofs: lemmas on memory, on single functions and on the plain models; no condition of their own. -/
import Derived.Test.YtkjlafpafmihaaaRows
import Derived.WalkKit
import Derived.ProofKit
import Derived.OpenShut
import Derived.SizedLaws
import Derived.WalkSpells
import Derived.WalkLawsBesides
import Derived.Handy
import Derived.Deep.QuietTactic
import Derived.BigQuiet
import Derived.Lib.Hide
import Derived.Maps.AppendAt
import Derived.Deep.AppendLies
import Derived.RegionTactic
import Derived.OwnWalk
import Derived.Laws.Tables
import Derived.Deep.MidRow
import Derived.StillTailTactics
import Derived.OrdersHeld
import Derived.Deep.RegionHeld3
import Derived.Laws.IdiomCopy
import Derived.ChangeKeysEq
import Derived.Laws.BitsAllLaws
import Derived.Deep.DeepCutAuto
import Derived.Deep.CutRange
import Derived.Maps.OwnSet
import Derived.Test.YtkjlafpafmihaaaG366b65d1fd76
import Derived.Test.YtkjlafpafmihaaaG411632d36699
import Derived.Test.YtkjlafpafmihaaaG48f6c12ab48d
import Derived.Test.YtkjlafpafmihaaaG497b255c2441
import Derived.Test.YtkjlafpafmihaaaG4e172fb27d17
import Derived.Test.YtkjlafpafmihaaaG4eaabf97d977
import Derived.Test.YtkjlafpafmihaaaG570539d87647
import Derived.Test.YtkjlafpafmihaaaG809794e4b789
import Derived.Test.YtkjlafpafmihaaaG924ec51911fe
import Derived.Test.YtkjlafpafmihaaaGc8683f30ddc5
import Derived.Test.YtkjlafpafmihaaaGfa570c25a005
set_option linter.unusedVariables false
set_option linter.unusedSimpArgs false

namespace Go.Proofs.Ytkjlafpafmihaaa
open Go.ChangeShapes Go.WideShapes Go.RowKit

set_option maxRecDepth 100000 in
set_option maxHeartbeats 4000000 in
theorem QCheck_calls (ep nx gv : Int) (A1 A2 : Option Addr) (c1 c2 : Nat) (rs : List Msg) (ls : List Ls) (W : Wins) (w : World) (h1 : Rd w w.heap.size 2 A1 rs.length (rs.flatMap Msg.cells)) (h2 : Rd w w.heap.size 4 A2 ls.length (ls.flatMap Ls.cells)) (hb1 : rs.length * 16 ≤ reachBytes) (hb2 : ls.length * 32 ≤ reachBytes) :
    Calls Try.prog 30 #[.agg (qRow ep nx gv (.slice A1 rs.length c1) (.slice A2 ls.length c2) W)] w (IPost w (queueFault ep nx gv rs ls W)) := by
 unfold reachBytes at hb1 hb2
 have S := ((St.start w).addRd h2).addRd h1
 refine fnw 140 Try.func30 ?_
 refine cw [0] ?_
 refine x_sr (nb (row := qRow ep nx gv (.slice A1 rs.length c1) (.slice A2 ls.length c2) W) S ?_); intro b1 w2 S3; clear S
 refine va ?_
 refine qk [1, 2] ?_
 refine x_tssr (vv (yfa 0 fa29_0) ?_)
 refine vv (y_load rfl rfl (r_load Try.underlying3 rfl (St.cl 0 S3 rfl qRow_g0))) ?_
 by_cases h4 : ep < 0
 ·refine vv (ylssT h4) ?_
  refine vm ?_
  iterate 3 refine vs ?_
  refine vv ypT ?_
  refine vm ?_
  iterate 3 refine vs ?_
  refine vv ypT ?_
  refine vm ?_
  iterate 3 refine vs ?_
  refine vv ypT ?_
  refine vm ?_
  iterate 3 refine vs ?_
  refine vv ypT ?_
  refine vm ?_
  iterate 3 refine vs ?_
  refine vv ypT ?_
  refine vm ?_
  iterate 8 refine vs ?_
  refine vv ypT ?_
  refine qk [1, 2, 49] ?_
  refine x_tysr (va ?_)
  refine qk [2] ?_
  refine x_teh (pt ?_)
  exact ⟨ret_int_ (qf_rng (by omega)).symm, S3.low⟩
 ·refine vv (ylssF h4) ?_
  refine vm ?_
  refine vg (yfa 0 fa29_0) ?_
  refine vg (y_load rfl rfl (r_load Try.underlying3 rfl (St.cl 0 S3 rfl qRow_g0))) ?_
  by_cases h5 : 1048576 < ep
  ·refine vg (ygtrT h5) ?_
   refine vv ypF ?_
   refine vm ?_
   iterate 3 refine vs ?_
   refine vv ypT ?_
   refine vm ?_
   iterate 3 refine vs ?_
   refine vv ypT ?_
   refine vm ?_
   iterate 3 refine vs ?_
   refine vv ypT ?_
   refine vm ?_
   iterate 3 refine vs ?_
   refine vv ypT ?_
   refine vm ?_
   iterate 8 refine vs ?_
   refine vv ypT ?_
   refine qk [1, 2, 49] ?_
   refine x_tysr (va ?_)
   refine qk [2] ?_
   refine x_teh (pt ?_)
   exact ⟨ret_int_ (qf_rng (by omega)).symm, S3.low⟩
  ·refine vg (ygtrF h5) ?_
   refine vv ypF ?_
   refine vm ?_
   refine vg (yfa 1 fa29_1) ?_
   refine vg (y_load rfl rfl (r_load Try.underlying3 rfl (St.cl 0 S3 rfl qRow_g1))) ?_
   by_cases h6 : nx < 0
   ·refine vg (ylssT h6) ?_
    refine vv ypF ?_
    refine vm ?_
    iterate 3 refine vs ?_
    refine vv ypT ?_
    refine vm ?_
    iterate 3 refine vs ?_
    refine vv ypT ?_
    refine vm ?_
    iterate 3 refine vs ?_
    refine vv ypT ?_
    refine vm ?_
    iterate 8 refine vs ?_
    refine vv ypT ?_
    refine qk [1, 2, 49] ?_
    refine x_tysr (va ?_)
    refine qk [2] ?_
    refine x_teh (pt ?_)
    exact ⟨ret_int_ (qf_rng (by omega)).symm, S3.low⟩
   ·refine vg (ylssF h6) ?_
    refine vv ypF ?_
    refine vm ?_
    refine vg (yfa 1 fa29_1) ?_
    refine vg (y_load rfl rfl (r_load Try.underlying3 rfl (St.cl 0 S3 rfl qRow_g1))) ?_
    by_cases h7 : 1073741824 < nx
    ·refine vg (ygtrT h7) ?_
     refine vv ypF ?_
     refine vm ?_
     iterate 3 refine vs ?_
     refine vv ypT ?_
     refine vm ?_
     iterate 3 refine vs ?_
     refine vv ypT ?_
     refine vm ?_
     iterate 8 refine vs ?_
     refine vv ypT ?_
     refine qk [1, 2, 49] ?_
     refine x_tysr (va ?_)
     refine qk [2] ?_
     refine x_teh (pt ?_)
     exact ⟨ret_int_ (qf_rng (by omega)).symm, S3.low⟩
    ·refine vg (ygtrF h7) ?_
     refine vv ypF ?_
     refine vm ?_
     refine vg (yfa 2 fa29_2) ?_
     refine vg (y_load rfl rfl (r_load Try.underlying3 rfl (St.cl 0 S3 rfl qRow_g2))) ?_
     by_cases h8 : gv < 0
     ·refine vg (ylssT h8) ?_
      refine vv ypF ?_
      refine vm ?_
      iterate 3 refine vs ?_
      refine vv ypT ?_
      refine vm ?_
      iterate 8 refine vs ?_
      refine vv ypT ?_
      refine qk [1, 2, 49] ?_
      refine x_tysr (va ?_)
      refine qk [2] ?_
      refine x_teh (pt ?_)
      exact ⟨ret_int_ (qf_rng (by omega)).symm, S3.low⟩
     ·refine vg (ylssF h8) ?_
      refine vv ypF ?_
      refine vm ?_
      refine vg (yfa 2 fa29_2) ?_
      refine vg (y_load rfl rfl (r_load Try.underlying3 rfl (St.cl 0 S3 rfl qRow_g2))) ?_
      by_cases h9 : 1073741824 < gv
      ·refine vg (ygtrT h9) ?_
       refine vv ypF ?_
       refine vm ?_
       iterate 8 refine vs ?_
       refine vv ypT ?_
       refine qk [1, 2, 49] ?_
       refine x_tysr (va ?_)
       refine qk [2] ?_
       refine x_teh (pt ?_)
       exact ⟨ret_int_ (qf_rng (by omega)).symm, S3.low⟩
      ·refine vg (ygtrF h9) ?_
       refine vv ypF ?_
       refine vm ?_
       refine vg (yfa 3 fa29_3) ?_
       refine vg (y_load rfl rfl (r_load Try.underlying22 rfl (St.cl 0 S3 rfl qRow_g3))) ?_
       refine vg (v := .int .i64 ((rs.length : Nat) : Int)) (y_builtin (vs := [.slice A1 rs.length c1]) rfl ⟨rfl, trivial⟩ fun _ => r_len rfl Try.underlying22) ?_
       refine vg (yfa 4 fa29_4) ?_
       refine vg (y_load rfl rfl (r_load Try.underlying23 rfl (St.cl 0 S3 rfl qRow_g4))) ?_
       refine vg (v := .int .i64 ((ls.length : Nat) : Int)) (y_builtin (vs := [.slice A2 ls.length c2]) rfl ⟨rfl, trivial⟩ fun _ => r_len rfl Try.underlying23) ?_
       refine vg (v := .int .i64 ((rs.length + ls.length : Nat) : Int)) (y_binop rfl rfl rfl (r_add (by omega) (by omega))) ?_
       by_cases h10 : 500 < ((rs.length + ls.length : Nat) : Int)
       ·refine vg (ygtrT h10) ?_
        refine vv ypF ?_
        refine qk [1, 2, 49] ?_
        refine x_tysr (va ?_)
        refine qk [2] ?_
        refine x_teh (pt ?_)
        exact ⟨ret_int_ (qf_rng (by omega)).symm, S3.low⟩
       ·refine vg (ygtrF h10) ?_
        refine vv ypF ?_
        refine qk [1, 2, 49] ?_
        refine x_tnktssr (vv (yfa 5 fa29_5) ?_)
        refine vv (y_load rfl rfl (r_load_agg (cs := (W.cells)) Try.underlying27 rfl inf27 rfl (St.rg 0 S3 rfl (qRow_ws)))) ?_
        refine vm ?_
        refine qk [1, 2, 51, 52] ?_
        refine wQ_then (wC_block (wC_loop (X := Nat) (fun xv => [(1, .pointer (some ⟨b1, 0, none⟩)), (2, .int .i64 0), (51, .agg ((W.cells).toArray)), (52, .int .i64 ((xv : Nat) : Int))]) (fun xv wr => (xv ≤ 4) ∧ (∀ j, j < xv → winFault (W.at j) = 0) ∧ St w.heap.size w wr [.blk b1 (qRow ep nx gv (.slice A1 rs.length c1) (.slice A2 ls.length c2) W) 29, .rd 2 A1 rs.length ((rs).flatMap Msg.cells), .rd 4 A2 ls.length ((ls).flatMap Ls.cells)]) (fun xv => 4 - xv) (0) ?_ ?_ ?_))
        ·exact ⟨Nat.zero_le _, fun j hj => absurd hj (Nat.not_lt_zero _), S3⟩
        ·exact ⟨rfl, rfl, rfl, rfl, trivial⟩
        ·rintro k w11 ⟨hi13, hi14, S12⟩
         try dsimp only at hi13 hi14 S12; clear S3
         refine cw [1, 2, 51, 52] ?_
         refine x_sr ?_
         by_cases h15 : ((k : Nat) : Int) < 4
         ·refine vv (ylssT h15) ?_
          refine wL_nil (wQ_then (wC_seq (wC_cond_t rfl (wC_skip (wQ_then (wC_seq (wC_block (wC_seq (wC_region (vv (v := .agg (((W.at k).cells).toArray)) (y_index rfl rfl rfl (wins_index W k (by omega) _)) ?_))))))))))
          refine na (row := #[.int .i64 0, .bool false, .bool false, .bool false, .bool false, .bool false, .bool false, .bool false, .bool false]) S12 Try.zeroValue26 ?_; intro b16 w17 S18; clear S12
          refine wL_st (fs' := [_, _, _, _]) 0 S18 (wn rfl) rfl rfl rfl rfl rfl rfl inf26 rfl (win_one _) (Nat.le_of_ble_eq_true rfl) (setAll_all rfl) rfl ?_; intro w19 S20; clear S18
          refine qk [1, 2, 51, 52, 4] ?_
          refine x_tsr (vv (ylr 0 S20 Try.underlying26 inf26) ?_)
          refine cab en104 S20 (WCheck_calls (W.at k) _) ?_; intro w21 S22; clear S20
          refine va ?_
          refine qk [1, 2, 51, 52, 5] ?_
          refine x_tsr (vm ?_)
          by_cases h24 : winFault (W.at k) = 0
          ·refine vv (yneqF h24) ?_
           refine qk [1, 2, 51, 52, 5, 58] ?_
           refine wQ_then (wC_cond_f rfl (wC_skip (wQ_blk_n (wQ_then (wC_region (vv (v := .int .i64 ((k + 1 : Nat) : Int)) (y_binop rfl rfl rfl (r_add (by omega) (by omega))) ?_))))))
           refine vm ?_
           refine qk [1, 2, 51, 52] ?_
           have S25 : St _ _ _ [_, _, _] := S22.dels [0]; clear S22
           refine wQ_round (k + 1) ?_ ⟨rfl, rfl, rfl, rfl, trivial⟩ (by first | omega | (dsimp only; omega))
           exact ⟨(by omega), (fun j hj => (Nat.lt_succ_iff_lt_or_eq.1 hj).elim (fun h => hi14 j h) (fun h => by rw [h]; exact h24)), S25⟩
          ·refine vv (yneqT h24) ?_
           refine qk [1, 2, 51, 52, 5, 58] ?_
           refine x_tysr (vm ?_)
           refine va ?_
           refine qk [2] ?_
           refine wQ_then (wC_ret (wQ_blk_ret (wQ_then_ret (wQ_then_ret (wQ_blk_ret (wQ_then_ret (pt ?_)))))))
           refine ⟨ret_int_ ?_, S22.low⟩
           rw [qf_win (j := k) (by omega) h24]; exact (winF_or _).resolve_left h24
         ·refine vv (ylssF h15) ?_
          refine wL_nil (wQ_then (wC_seq (wC_cond_f rfl (wC_exit (wQ_then_exit (wQ_then_exit (wQ_blk_same (wQ_then (wC_seq (wC_region (wL_makeSet (k := 3) S12 (wn rfl) rfl rfl rfl ?_))))))))))); intro b26 w27 S28
          have hW29 : winsOk W := fun j hj => hi14 j (by omega)
          refine va ?_
          refine qk [1, 2, 6] ?_
          refine x_tsr (va ?_)
          refine wL_nil (wQ_then (wC_seq (wC_seq (wC_region (vv (yfa 3 fa29_3) ?_)))))
          refine vv (y_load rfl rfl (r_load Try.underlying22 rfl (St.cl 1 S28 rfl qRow_g3))) ?_
          refine vv (v := .int .i64 ((rs.length : Nat) : Int)) (y_builtin (vs := [.slice A1 rs.length c1]) rfl ⟨rfl, trivial⟩ fun _ => r_len rfl Try.underlying22) ?_
          refine vm ?_
          refine qk [1, 2, 6, 7, 63, 64, 65] ?_
          refine wQ_then (wC_block (wC_loop (X := Nat × Int) (fun xv => [(1, .pointer (some ⟨b1, 0, none⟩)), (2, .int .i64 0), (6, .map (some b26)), (7, .int .i64 xv.2), (63, .slice A1 rs.length c1), (64, .int .i64 ((rs.length : Nat) : Int)), (65, .int .i64 ((xv.1 : Nat) : Int))]) (fun xv wr => (xv.1 ≤ rs.length) ∧ (rdyFrom nx (-1) rs = rdyFrom nx xv.2 (rs.drop xv.1)) ∧ St w.heap.size w wr [.loc b26 (ISet Try.prog 3 ((rs.take xv.1).map (·.no))), .blk b1 (qRow ep nx gv (.slice A1 rs.length c1) (.slice A2 ls.length c2) W) 29, .rd 2 A1 rs.length ((rs).flatMap Msg.cells), .rd 4 A2 ls.length ((ls).flatMap Ls.cells)]) (fun xv => rs.length - xv.1) (0, -1) ?_ ?_ ?_))
          ·exact ⟨Nat.zero_le _, rfl, S28⟩
          ·exact ⟨rfl, rfl, rfl, rfl, rfl, rfl, rfl, trivial⟩
          ·rintro ⟨k, p⟩ w30 ⟨hi32, hi33, S31⟩
           try dsimp only at hi32 hi33 S31; clear S28
           refine cw [1, 2, 6, 7, 63, 64, 65] ?_
           refine x_sr ?_
           by_cases h34 : ((k : Nat) : Int) < ((rs.length : Nat) : Int)
           ·refine vv (ylssT h34) ?_
            refine wL_nil (wQ_then (wC_seq (wC_cond_t rfl (wC_skip (wQ_then (wC_seq (wC_block (wC_seq (wC_region ?_)))))))))
            obtain ⟨b35, o36, rfl⟩ := Rd.addr (St.rd 2 S31 rfl) (by omega)
            obtain ⟨x37, hx38⟩ := elm k (St.rd 2 S31 rfl) (by omega)
            refine vv (v := .pointer (some ⟨b35, o36 + k * 2, none⟩)) (y_indexAddr rfl rfl rfl (r_indexAddr k Try.underlying22 inf137 (by omega) (by omega))) ?_
            refine vv (y_load rfl rfl (r_load_agg (cs := Msg.cells x37) Try.underlying137 rfl inf137 rfl (Rd.rg2 (St.rd 2 S31 rfl) (fun _ _ h => fm_get (enc := Msg.cells) (sz := 2) (fun _ => rfl) hx38 h)))) ?_
            refine na (row := #[.int .i64 0, .int .i64 0]) S31 Try.zeroValue137 ?_; intro b39 w40 S41; clear S31
            refine sa 0 S41 inf137 ?_; intro w42 S43; clear S41
            refine qk [1, 2, 6, 7, 63, 64, 65, 9] ?_
            refine x_tssr (vv (ylr 2 S43 Try.underlying29 inf29) ?_)
            refine vv (ylr 0 S43 Try.underlying137 inf137) ?_
            refine wL_call (wn rfl) rfl rfl (e_call (vs := [.agg (qRow ep nx gv (.slice (some ⟨b35, o36, none⟩) rs.length c1) (.slice A2 ls.length c2) W), .agg #[.int .i64 x37.no, .int .i64 x37.body]]) rfl en105 ⟨rfl, rfl, trivial⟩) (message_calls ep nx gv _ _ W x37 _) ?_
            rintro _ w44 ⟨rfl, hb46⟩
            refine ⟨_, rfl, ?_⟩
            have S45 := S43.on hb46; clear hb46 S43
            cases hb47 : (msgOk nx x37)
            ·refine vv (v := .bool true) yno ?_
             refine vm ?_
             iterate 4 refine vs ?_
             refine vv ypT ?_
             refine qk [1, 2, 6, 63, 64, 65, 9, 78] ?_
             refine x_tysr (va ?_)
             refine qk [2] ?_
             refine wQ_then (wC_ret (wQ_then_ret (wQ_blk_ret (wQ_then_ret (wQ_then_ret (wQ_blk_ret (wQ_then_ret (pt ?_))))))))
             exact ⟨ret_int_ (qf_bad fun h => by rw [hi33, rdy_step hx38, hb47] at h; exact absurd h.2.1 (by simp)).symm, S45.low⟩
            ·have hmo48 := msgOk_of hb47
             refine vv (v := .bool false) yno ?_
             refine vm ?_
             refine vg (yfa 0 fa137_0) ?_
             refine vg (ylc 0 S45 Try.underlying3) ?_
             refine vg ym ?_
             by_cases h49 : p < x37.no
             ·refine vg (dleqF (h := by omega)) ?_
              refine vv ypF ?_
              refine qk [1, 2, 6, 63, 64, 65, 9, 78] ?_
              refine x_tnktsr (vv (yfa 0 fa137_0) ?_)
              refine vv (ylc 0 S45 Try.underlying3) ?_
              refine va ?_
              refine qk [1, 2, 6, 63, 64, 65, 9, 7] ?_
              refine x_tr (vm ?_)
              refine vv (yfa 0 fa137_0) ?_
              refine vv (ylc 0 S45 Try.underlying3) ?_
              refine vv (v := .agg #[]) yz ?_
              refine wL_putSet (z := x37.no) 1 S45 (wn rfl) rfl rfl rfl rfl rfl rfl Try.underlying3 Try.underlying135 (by omega) (by simp [maxLen]; omega) ?_; intro w50 S51
              rw [take_map (f := fun m : Msg => m.no) hx38] at S51
              change St _ _ _ [.blk b39 #[.int .i64 x37.no, .int .i64 x37.body] 137, .loc b26 (ISet Try.prog 3 ((rs.take (k + 1)).map (·.no))), .blk b1 (qRow ep nx gv (.slice (some ⟨b35, o36, none⟩) rs.length c1) (.slice A2 ls.length c2) W) 29, .rd 2 (some ⟨b35, o36, none⟩) rs.length ((rs).flatMap Msg.cells), .rd 4 A2 ls.length ((ls).flatMap Ls.cells)] at S51
              refine qk [1, 2, 6, 63, 64, 65, 7] ?_
              refine wQ_blk_n (wQ_then (wC_region (vv (v := .int .i64 ((k + 1 : Nat) : Int)) (y_binop rfl rfl rfl (r_add (by omega) (by omega))) ?_)))
              refine vm ?_
              refine qk [1, 2, 6, 63, 64, 65, 7] ?_
              have S53 : St _ _ _ [_, _, _, _] := S51.dels [0]; clear S51
              refine wQ_round (k + 1, x37.no) ?_ ⟨rfl, rfl, rfl, rfl, rfl, rfl, rfl, trivial⟩ (by first | omega | (dsimp only; omega))
              exact ⟨(by dsimp only; omega), (by dsimp only; rw [hi33, rdy_step hx38, hb47, decide_eq_true h49]; rfl), S53⟩
             ·refine vg (dleqT (h := by omega)) ?_
              refine vv ypF ?_
              refine qk [1, 2, 6, 63, 64, 65, 9, 78] ?_
              refine x_tysr (va ?_)
              refine qk [2] ?_
              refine wQ_then (wC_ret (wQ_then_ret (wQ_blk_ret (wQ_then_ret (wQ_then_ret (wQ_blk_ret (wQ_then_ret (pt ?_))))))))
              exact ⟨ret_int_ (qf_bad fun h => by rw [hi33, rdy_step hx38, decide_eq_false h49] at h; exact absurd h.2.1 (by simp)).symm, S45.low⟩
           ·refine vv (ylssF h34) ?_
            refine wL_nil (wQ_then (wC_seq (wC_cond_f rfl (wC_exit (wQ_then_exit (wQ_then_exit (wQ_blk_same (wQ_then (wC_seq (wC_region (va ?_)))))))))))
            refine qk [1, 2, 6, 7] ?_
            refine x_tssr (vv (yfa 4 fa29_4) ?_)
            refine vv (y_load rfl rfl (r_load Try.underlying23 rfl (St.cl 1 S31 rfl qRow_g4))) ?_
            refine vv (v := .int .i64 ((ls.length : Nat) : Int)) (y_builtin (vs := [.slice A2 ls.length c2]) rfl ⟨rfl, trivial⟩ fun _ => r_len rfl Try.underlying23) ?_
            refine vm ?_
            refine qk [1, 2, 6, 7, 87, 88, 89] ?_
            refine wQ_then (wC_block ?_)
            have hR54 : rdyFrom nx (-1) rs = true := by rw [hi33, List.drop_of_length_le (by omega)]; rfl
            have S55 := S31
            rw [List.take_of_length_le (show rs.length ≤ k by omega)] at S55
            rw [← List.append_nil (rs.map (·.no))] at S55
            change St _ _ _ [.loc b26 (ISet Try.prog 3 (rs.map (·.no) ++ (ls.take 0).map (·.msg.no))), .blk b1 (qRow ep nx gv (.slice A1 rs.length c1) (.slice A2 ls.length c2) W) 29, .rd 2 A1 rs.length ((rs).flatMap Msg.cells), .rd 4 A2 ls.length ((ls).flatMap Ls.cells)] at S55
            refine wC_loop (X := Nat × Int) (fun xv => [(1, .pointer (some ⟨b1, 0, none⟩)), (2, .int .i64 0), (6, .map (some b26)), (7, .int .i64 xv.2), (87, .slice A2 ls.length c2), (88, .int .i64 ((ls.length : Nat) : Int)), (89, .int .i64 ((xv.1 : Nat) : Int))]) (fun xv wr => (xv.1 ≤ ls.length) ∧ (lsFrom ep nx gv (-1) ls = lsFrom ep nx gv xv.2 (ls.drop xv.1)) ∧ St w.heap.size w wr [.loc b26 (ISet Try.prog 3 (rs.map (·.no) ++ (ls.take xv.1).map (·.msg.no))), .blk b1 (qRow ep nx gv (.slice A1 rs.length c1) (.slice A2 ls.length c2) W) 29, .rd 2 A1 rs.length ((rs).flatMap Msg.cells), .rd 4 A2 ls.length ((ls).flatMap Ls.cells)]) (fun xv => ls.length - xv.1) (0, -1) ?_ ?_ ?_
            ·exact ⟨Nat.zero_le _, rfl, S55⟩
            ·exact ⟨rfl, rfl, rfl, rfl, rfl, rfl, rfl, trivial⟩
            ·rintro ⟨k, p⟩ w56 ⟨hi58, hi59, S57⟩
             try dsimp only at hi58 hi59 S57; clear S55
             refine cw [1, 2, 6, 7, 87, 88, 89] ?_
             refine x_sr ?_
             by_cases h60 : ((k : Nat) : Int) < ((ls.length : Nat) : Int)
             ·refine vv (ylssT h60) ?_
              refine wL_nil (wQ_then (wC_seq (wC_cond_t rfl (wC_skip (wQ_then (wC_seq (wC_block (wC_seq (wC_region ?_)))))))))
              obtain ⟨b61, o62, rfl⟩ := Rd.addr (St.rd 3 S57 rfl) (by omega)
              obtain ⟨x63, hx64⟩ := elm k (St.rd 3 S57 rfl) (by omega)
              refine vv (v := .pointer (some ⟨b61, o62 + k * 4, none⟩)) (y_indexAddr rfl rfl rfl (r_indexAddr k Try.underlying23 inf141 (by omega) (by omega))) ?_
              refine vv (y_load rfl rfl (r_load_agg (cs := Ls.cells x63) Try.underlying141 rfl inf141 rfl (Rd.rg2 (St.rd 3 S57 rfl) (fun _ _ h => fm_get (enc := Ls.cells) (sz := 4) (fun _ => rfl) hx64 h)))) ?_
              refine na (row := #[.int .i64 0, .int .i64 0, .int .i64 0, .int .i64 0]) S57 Try.zeroValue141 ?_; intro b65 w66 S67; clear S57
              refine sa 0 S67 inf141 ?_; intro w68 S69; clear S67
              refine qk [1, 2, 6, 7, 87, 88, 89, 11] ?_
              refine x_tssr (vv (ylr 2 S69 Try.underlying29 inf29) ?_)
              refine vv (yfa 2 fa141_1) ?_
              refine vv (y_load rfl rfl (r_load_agg (cs := [.int .i64 x63.msg.no, .int .i64 x63.msg.body]) Try.underlying137 rfl inf137 rfl (St.rg 0 S69 rfl (sub_row (x := 2) (m := 2) rfl)))) ?_
              refine wL_call (wn rfl) rfl rfl (e_call (vs := [.agg (qRow ep nx gv (.slice A1 rs.length c1) (.slice (some ⟨b61, o62, none⟩) ls.length c2) W), .agg #[.int .i64 x63.msg.no, .int .i64 x63.msg.body]]) rfl en105 ⟨rfl, rfl, trivial⟩) (message_calls ep nx gv _ _ W x63.msg _) ?_
              rintro _ w70 ⟨rfl, hb72⟩
              refine ⟨_, rfl, ?_⟩
              have S71 := S69.on hb72; clear hb72 S69
              cases hb73 : (msgOk nx x63.msg)
              ·refine vv (v := .bool true) yno ?_
               refine vm ?_
               iterate 6 refine vs ?_
               refine vv ypT ?_
               refine vm ?_
               iterate 5 refine vs ?_
               refine vv ypT ?_
               refine vm ?_
               iterate 6 refine vs ?_
               refine vv ypT ?_
               refine qk [1, 2, 6, 87, 88, 89, 11, 120] ?_
               refine x_tysr (va ?_)
               refine qk [2] ?_
               refine wQ_then (wC_ret (wQ_then_ret (wQ_blk_ret (wQ_then_ret (wQ_then_ret (wQ_blk_ret (wQ_then_ret (pt ?_))))))))
               exact ⟨ret_int_ (qf_bad fun h => by rw [hi59, ls_step hx64, lsOk, hb73] at h; exact absurd h.2.2.1 (by simp)).symm, S71.low⟩
              ·have hmo74 := msgOk_of hb73
               refine vv (v := .bool false) yno ?_
               refine vm ?_
               refine vg (yfa 0 fa141_0) ?_
               refine vg (yfa 0 fa35_0) ?_
               refine vg (ylc 0 S71 Try.underlying3) ?_
               refine vg (yfa 0 fa29_0) ?_
               refine vg (y_load rfl rfl (r_load Try.underlying3 rfl (St.cl 2 S71 rfl qRow_g0))) ?_
               by_cases h75 : x63.hep = ep
               ·refine vg (dneqF (h := by omega)) ?_
                refine vv ypF ?_
                refine vm ?_
                refine vg (yfa 0 fa141_0) ?_
                refine vg (yfa 1 fa35_1) ?_
                refine vg (ylc 0 S71 Try.underlying3) ?_
                refine vg ym ?_
                by_cases h76 : p < x63.hno
                ·refine vg (dleqF (h := by omega)) ?_
                 refine vv ypF ?_
                 refine vm ?_
                 refine vg (yfa 0 fa141_0) ?_
                 refine vg (yfa 1 fa35_1) ?_
                 refine vg (ylc 0 S71 Try.underlying3) ?_
                 refine vg (yfa 2 fa29_2) ?_
                 refine vg (y_load rfl rfl (r_load Try.underlying3 rfl (St.cl 2 S71 rfl qRow_g2))) ?_
                 by_cases h77 : x63.hno < gv
                 ·refine vg (dgeqF (h := by omega)) ?_
                  refine vv ypF ?_
                  refine qk [1, 2, 6, 87, 88, 89, 11, 120] ?_
                  refine x_tnktsr (vv (yfa 0 fa141_0) ?_)
                  refine vv (yfa 1 fa35_1) ?_
                  refine vv (ylc 0 S71 Try.underlying3) ?_
                  refine va ?_
                  refine qk [1, 2, 6, 87, 88, 89, 11, 7] ?_
                  refine x_tr (vm ?_)
                  refine vv (yfa 2 fa141_1) ?_
                  refine vv (yfa 2 fa137_0) ?_
                  refine vv (ylc 0 S71 Try.underlying3) ?_
                  refine vv (v := .agg #[]) yz ?_
                  refine wL_putSet (z := x63.msg.no) 1 S71 (wn rfl) rfl rfl rfl rfl rfl rfl Try.underlying3 Try.underlying135 (by omega) (by simp [maxLen]; omega) ?_; intro w78 S79
                  rw [List.append_assoc, take_map (f := fun m : Ls => m.msg.no) hx64] at S79
                  change St _ _ _ [.blk b65 #[.int .i64 x63.hep, .int .i64 x63.hno, .int .i64 x63.msg.no, .int .i64 x63.msg.body] 141, .loc b26 (ISet Try.prog 3 (rs.map (·.no) ++ (ls.take (k + 1)).map (·.msg.no))), .blk b1 (qRow ep nx gv (.slice A1 rs.length c1) (.slice (some ⟨b61, o62, none⟩) ls.length c2) W) 29, .rd 2 A1 rs.length ((rs).flatMap Msg.cells), .rd 4 (some ⟨b61, o62, none⟩) ls.length ((ls).flatMap Ls.cells)] at S79
                  refine qk [1, 2, 6, 87, 88, 89, 7] ?_
                  refine wQ_blk_n (wQ_then (wC_region (vv (v := .int .i64 ((k + 1 : Nat) : Int)) (y_binop rfl rfl rfl (r_add (by omega) (by omega))) ?_)))
                  refine vm ?_
                  refine qk [1, 2, 6, 87, 88, 89, 7] ?_
                  have S81 : St _ _ _ [_, _, _, _] := S79.dels [0]; clear S79
                  refine wQ_round (k + 1, x63.hno) ?_ ⟨rfl, rfl, rfl, rfl, rfl, rfl, rfl, trivial⟩ (by first | omega | (dsimp only; omega))
                  exact ⟨(by dsimp only; omega), (by dsimp only; rw [hi59, ls_step hx64, lsOk, hb73, decide_eq_true ⟨by omega, by omega, by omega⟩]; rfl), S81⟩
                 ·refine vg (dgeqT (h := by omega)) ?_
                  refine vv ypF ?_
                  refine qk [1, 2, 6, 87, 88, 89, 11, 120] ?_
                  refine x_tysr (va ?_)
                  refine qk [2] ?_
                  refine wQ_then (wC_ret (wQ_then_ret (wQ_blk_ret (wQ_then_ret (wQ_then_ret (wQ_blk_ret (wQ_then_ret (pt ?_))))))))
                  exact ⟨ret_int_ (qf_bad fun h => by rw [hi59, ls_step hx64, lsOk, decide_eq_false (fun h1 => h77 (h1.2.2)), Bool.and_false] at h; exact absurd h.2.2.1 (by simp)).symm, S71.low⟩
                ·refine vg (dleqT (h := by omega)) ?_
                 refine vv ypF ?_
                 refine vm ?_
                 iterate 6 refine vs ?_
                 refine vv ypT ?_
                 refine qk [1, 2, 6, 87, 88, 89, 11, 120] ?_
                 refine x_tysr (va ?_)
                 refine qk [2] ?_
                 refine wQ_then (wC_ret (wQ_then_ret (wQ_blk_ret (wQ_then_ret (wQ_then_ret (wQ_blk_ret (wQ_then_ret (pt ?_))))))))
                 exact ⟨ret_int_ (qf_bad fun h => by rw [hi59, ls_step hx64, lsOk, decide_eq_false (fun h1 => h76 (h1.2.1)), Bool.and_false] at h; exact absurd h.2.2.1 (by simp)).symm, S71.low⟩
               ·refine vg (dneqT (h := by omega)) ?_
                refine vv ypF ?_
                refine vm ?_
                iterate 5 refine vs ?_
                refine vv ypT ?_
                refine vm ?_
                iterate 6 refine vs ?_
                refine vv ypT ?_
                refine qk [1, 2, 6, 87, 88, 89, 11, 120] ?_
                refine x_tysr (va ?_)
                refine qk [2] ?_
                refine wQ_then (wC_ret (wQ_then_ret (wQ_blk_ret (wQ_then_ret (wQ_then_ret (wQ_blk_ret (wQ_then_ret (pt ?_))))))))
                exact ⟨ret_int_ (qf_bad fun h => by rw [hi59, ls_step hx64, lsOk, decide_eq_false (fun h1 => h75 (h1.1)), Bool.and_false] at h; exact absurd h.2.2.1 (by simp)).symm, S71.low⟩
             ·refine vv (ylssF h60) ?_
              refine wL_nil (wQ_then (wC_seq (wC_cond_f rfl (wC_exit (wQ_then_exit (wQ_then_exit (wQ_blk_same (wQ_then (wC_seq (wC_seq (wC_region (vm ?_))))))))))))
              have hL82 : lsFrom ep nx gv (-1) ls = true := by rw [hi59, List.drop_of_length_le (by omega)]; rfl
              have S83 := S57
              rw [List.take_of_length_le (show ls.length ≤ k by omega)] at S83
              change St _ _ _ [.loc b26 (ISet Try.prog 3 (nosOf rs ls)), .blk b1 (qRow ep nx gv (.slice A1 rs.length c1) (.slice A2 ls.length c2) W) 29, .rd 2 A1 rs.length ((rs).flatMap Msg.cells), .rd 4 A2 ls.length ((ls).flatMap Ls.cells)] at S83
              obtain ⟨m84, hm85, hm86, hm87⟩ := r_lenSet 0 S83 rfl Try.underlying135 3
              have hnl : (nosOf rs ls).length = rs.length + ls.length := by simp [nosOf]
              rw [hnl] at hm86 hm87
              refine vv (v := .int .i64 ((m84 : Nat) : Int)) (y_builtin (vs := [.map (some b26)]) rfl ⟨rfl, trivial⟩ hm85) ?_
              refine vv (yfa 3 fa29_3) ?_
              refine vv (y_load rfl rfl (r_load Try.underlying22 rfl (St.cl 1 S83 rfl qRow_g3))) ?_
              refine vv (v := .int .i64 ((rs.length : Nat) : Int)) (y_builtin (vs := [.slice A1 rs.length c1]) rfl ⟨rfl, trivial⟩ fun _ => r_len rfl Try.underlying22) ?_
              refine vv (yfa 4 fa29_4) ?_
              refine vv (y_load rfl rfl (r_load Try.underlying23 rfl (St.cl 1 S83 rfl qRow_g4))) ?_
              refine vv (v := .int .i64 ((ls.length : Nat) : Int)) (y_builtin (vs := [.slice A2 ls.length c2]) rfl ⟨rfl, trivial⟩ fun _ => r_len rfl Try.underlying23) ?_
              refine vv (v := .int .i64 ((rs.length + ls.length : Nat) : Int)) (y_binop rfl rfl rfl (r_add (by omega) (by omega))) ?_
              by_cases h88 : ((m84 : Nat) : Int) < ((rs.length + ls.length : Nat) : Int)
              ·refine vv (ylssT h88) ?_
               refine qk [2, 139] ?_
               refine x_tysr (va ?_)
               refine qk [2] ?_
               refine x_teh (pt ?_)
               exact ⟨ret_int_ (qf_bad fun h => hm87.1 (by omega) h.2.2.2).symm, S83.low⟩
              ·refine vv (ylssF h88) ?_
               refine qk [2, 139] ?_
               refine x_tnktsr (va ?_)
               refine qk [2] ?_
               refine x_te (pt ?_)
               exact ⟨ret_int_ (qf_ok (by unfold rngQ; omega) hW29 hR54 hL82 (Classical.not_not.1 fun h => h88 (by have := hm87.2 h; omega))).symm, S83.low⟩
end Go.Proofs.Ytkjlafpafmihaaa

