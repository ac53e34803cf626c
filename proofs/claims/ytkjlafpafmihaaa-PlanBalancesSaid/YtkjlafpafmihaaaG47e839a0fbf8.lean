/- Parts of proofs: lemmas on memory, on single functions and on the plain models; no condition of their own. -/
import Derived.Test.YtkjlafpafmihaaaRows
import Derived.WalkKit
import Derived.ProofKit
import Derived.OpenShut
import Derived.SizedLaws
import Derived.WalkSpells
import Derived.WalkLawsBesides
import Derived.Handy
import Derived.Deep.QuietTactic
import Derived.BigQuiet
import Derived.Lib.Hide
import Derived.Maps.AppendAt
import Derived.Deep.AppendLies
import Derived.RegionTactic
import Derived.OwnWalk
import Derived.ChangeKeysEq
import Derived.Laws.Tables
import Derived.Deep.MidRow
import Derived.StillTailTactics
import Derived.OrdersHeld
import Derived.Deep.RegionHeld3
import Derived.Laws.IdiomCopy
import Derived.Laws.BitsAllLaws
import Derived.Scope
import Derived.Deep.DeepCutAuto
import Derived.Deep.CutRange
import Derived.Test.YtkjlafpafmihaaaG0bca59653183
import Derived.Test.YtkjlafpafmihaaaG1b3f031f3838
import Derived.Test.YtkjlafpafmihaaaG3d3d00a3ec74
import Derived.Test.YtkjlafpafmihaaaG7513e187c541
import Derived.Test.YtkjlafpafmihaaaG94c6852e5657
import Derived.Test.YtkjlafpafmihaaaGa09fbd9efb78
import Derived.Test.YtkjlafpafmihaaaGa90ca60c6bbf
import Derived.Test.YtkjlafpafmihaaaGb48b52f65941
import Derived.Test.YtkjlafpafmihaaaGc7b9dc944e44
import Derived.Test.YtkjlafpafmihaaaGc7e713607da7
import Derived.Test.YtkjlafpafmihaaaGe0a7094eaa1d
set_option linter.unusedVariables false
set_option linter.unusedSimpArgs false

namespace Go.Proofs.Ytkjlafpafmihaaa
open Go.ChangeShapes Go.WideShapes Go.RowKit

section
variable {l : List Ld} {nodes moves : Int}
theorem bal_bad (h : ¬ ldsFault l nodes = 0) : balM l nodes moves = ([], ldsFault l nodes) := if_pos h
theorem bal_range (h : ldsFault l nodes = 0) (hm : ¬ (0 ≤ moves ∧ moves ≤ 4)) : balM l nodes moves = ([], 2) := by unfold balM; rw [if_neg (by simp [h]), if_pos hm]
theorem bal_ok {m mv : Nat} {out : List Pln} (h : ldsFault l (m : Int) = 0) (hm : (mv : Int) ≤ 4) (ho : balGo m mv l (fun _ => false) = out) : balM l (m : Int) (mv : Int) = (out, 0) := by
  unfold balM
  rw [if_neg (by simp [h]), if_neg (by omega), Int.toNat_natCast, Int.toNat_natCast, ho]
theorem gap_in {m : Nat} {now : List Ld} (h : NowOk m now) : -4294967296 ≤ gapOf m now ∧ gapOf m now ≤ 4294967296 := by
  have hw : ∀ x ∈ now, 0 ≤ x.work ∧ x.work ≤ 1073741824 := fun x hx => (h.each x hx).1
  have hl := h.len
  have h1 := workAt_bounds hw (frOf m now) now.length (Nat.le_refl _)
  have h2 := workAt_bounds hw (toOf m now) now.length (Nat.le_refl _)
  rw [List.take_length] at h1 h2
  unfold gapOf
  omega
theorem frOf_lt {m : Nat} {now : List Ld} (h : 0 < m) : frOf m now < m := mostTo_lt _ _ h
theorem toOf_lt {m : Nat} {now : List Ld} (h : 0 < m) : toOf m now < m := leastTo_lt _ _ h
end

set_option maxRecDepth 100000 in
set_option maxHeartbeats 8000000 in
theorem Balance_calls (A : Option Addr) (c : Nat) (l : List Ld) (nodes moves : Int) (w : World) (h : Rd w w.heap.size 3 A l.length (l.flatMap Ld.cells)) (hm : l.length ≤ maxLen) :
    Calls Try.prog 36 #[.slice A l.length c, .int .i64 nodes, .int .i64 moves] w (BalPost w (balM l nodes moves)) := by
 have S := (St.start w).addRd h; clear h
 refine fnw 119 Try.func36 ?_
 refine cw [0, 1, 2] ?_
 refine x_sr (va ?_)
 refine va ?_
 refine wL_nil (wQ_then (wC_scope ?_))
 refine wC_seq (wC_seq (wC_region (vm ?_)))
 refine vm ?_
 refine cab en113 S (pcheck_calls A l.length c l nodes _ (St.rd 0 S rfl) hm) ?_; intro w1 S2; clear S
 refine va ?_
 refine qk [0, 1, 2, 6, 7, 8] ?_
 refine x_tsr (vm ?_)
 by_cases h0 : ldsFault l nodes = 0
 ·obtain ⟨hn1, hn5, hlo⟩ := ldsFault_zero h0
  have HN := NowOk.start hlo hn1
  have hl4 := HN.len
  obtain ⟨m, hmn⟩ : ∃ m : Nat, nodes = (m : Int) := ⟨nodes.toNat, by omega⟩
  subst hmn
  rw [Int.toNat_natCast] at HN
  refine vv (yneqF h0) ?_
  refine qk [0, 1, 2, 6, 7, 8, 22] ?_
  refine wQ_then (wC_cond_f rfl (wC_skip (wQ_then (wC_seq (wC_seq ?_)))))
  by_cases hmv : 0 ≤ moves ∧ moves ≤ 4
  ·obtain ⟨mv, hmq⟩ : ∃ q : Nat, moves = (q : Int) := ⟨moves.toNat, by omega⟩
   subst hmq
   refine wC_region (vm ?_)
   refine vv (dlssF (h := by omega)) ?_
   refine vm ?_
   refine vg ym ?_
   refine vg (dgtrF (h := by omega)) ?_
   refine vv ypF ?_
   refine qk [0, 1, 2, 6, 7, 29] ?_
   refine wQ_then (wC_cond_f rfl (wC_skip (wQ_then (wC_seq ?_))))
   have S4 := S2.nil 162 3; clear S2
   change St _ _ _ [.own 162 3 (.slice none 0 0) 0 ((([] : List Ld)).flatMap Ld.cells), _] at S4
   refine wC_region (vm ?_)
   refine wL_append (news := (l).flatMap Ld.cells) (xs' := (l).flatMap Ld.cells) 0 S4 (wn rfl) rfl rfl rfl rfl rfl rfl (St.rd 1 S4 rfl) Try.underlying42 infz162 rfl (by decide) (lds_one _) (by simp only [maxLen]; omega) (by omega) (by simp) ?_; intro A5 c6 w7 hc9 hm10 S8; clear S4
   change St _ _ _ [.own 162 3 (.slice A5 (0 + l.length) c6) (0 + l.length) ((l).flatMap Ld.cells), _] at S8
   refine va ?_
   refine qk [1, 2, 6, 7, 9] ?_
   refine wQ_then (wC_seq ?_)
   have hz0 : 0 + l.length = l.length := Nat.zero_add _
   rw [hz0] at S8 ⊢
   refine wC_region (vm ?_)
   refine vv (v := .int .i64 ((l.length : Nat) : Int)) (y_builtin (vs := [.slice A5 l.length c6]) rfl ⟨rfl, trivial⟩ fun _ => r_len rfl Try.underlying42) ?_
   refine wL_new (V := fun b => .slice (some ⟨b, 0, none⟩) l.length l.length) (row := boRow (fun _ => false) l.length) (t := 4) S8 (wn rfl) rfl rfl (d_makeSlice rfl rfl rfl (bools_make l.length (by omega) _)) ?_; intro b11 w12 S13; clear S8
   refine va ?_
   refine qk [1, 2, 6, 7, 9, 10] ?_
   refine x_tsr (va ?_)
   refine wL_nil (wQ_then (wC_seq (wC_label (wQ_then (wC_seq (wC_seq (wC_region (vm ?_))))))))
   refine vm ?_
   refine qk [1, 6, 7, 9, 10, 11, 35, 36] ?_
   refine wQ_then (wC_block ?_)
   have S14 := S13.nil 164 3; clear S13
   change St _ _ _ [.own 164 3 (.slice none 0 0) 0 ((([] : List Pln)).flatMap Pln.cells), _, _, _] at S14
   have S15 : St w.heap.size w w12 [_, _, _, _] := S14.re [0, 2, 1, 3] (by decide); clear S14
   refine wC_loop (X := Nat × (List Ld) × (Nat → Bool) × (List Pln) × (Option Addr) × Nat × (Option Addr) × Nat) (fun xv => [(1, .int .i64 ((m : Nat) : Int)), (6, .slice none 0 0), (7, .int .i64 0), (10, .slice (some ⟨b11, 0, none⟩) l.length l.length), (35, .int .i64 ((mv : Nat) : Int)), (9, .slice xv.2.2.2.2.1 l.length xv.2.2.2.2.2.1), (11, .slice xv.2.2.2.2.2.2.1 xv.1 xv.2.2.2.2.2.2.2), (36, .int .i64 ((xv.1 : Nat) : Int))]) (fun xv wr => (xv.1 ≤ mv) ∧ (balGo m mv l (fun _ => false) = xv.2.2.2.1 ++ balGo m (mv - xv.1) xv.2.1 xv.2.2.1) ∧ (NowOk m xv.2.1) ∧ (xv.2.1.length = l.length) ∧ (xv.2.2.2.1.length = xv.1) ∧ St w.heap.size w wr [.own 164 3 (.slice xv.2.2.2.2.2.2.1 xv.1 xv.2.2.2.2.2.2.2) xv.1 ((xv.2.2.2.1).flatMap Pln.cells), .own 162 3 (.slice xv.2.2.2.2.1 l.length xv.2.2.2.2.2.1) l.length ((xv.2.1).flatMap Ld.cells), .blk b11 (boRow xv.2.2.1 l.length) 4, .rd 3 A l.length ((l).flatMap Ld.cells)]) (fun xv => mv - xv.1) (0, l, fun _ => false, [], A5, c6, none, 0) ?_ ?_ ?_
   ·exact ⟨Nat.zero_le _, rfl, HN, rfl, rfl, S15⟩
   ·exact ⟨rfl, rfl, rfl, rfl, rfl, rfl, rfl, rfl, trivial⟩
   ·rintro ⟨it, now, gone, outp, A1, c1, A3, c3⟩ w16 ⟨hi18, hi19, hi20, hi21, hi22, S17⟩
    try dsimp only at hi18 hi19 hi20 hi21 hi22 S17; clear S15
    refine wC_sub (l' := [(1, .int .i64 ((m : Nat) : Int)), (6, .slice none 0 0), (7, .int .i64 0), (10, .slice (some ⟨b11, 0, none⟩) l.length l.length), (35, .int .i64 ((mv : Nat) : Int)), (9, .slice A1 l.length c1), (11, .slice A3 it c3), (36, .int .i64 ((it : Nat) : Int))]) ⟨rfl, rfl, rfl, rfl, rfl, rfl, rfl, rfl, trivial⟩ ?_
    have HNow := hi20
    have hn4 := HNow.len
    refine wC_seq (wC_region ?_)
    by_cases h23 : ((it : Nat) : Int) < ((mv : Nat) : Int)
    ·refine vv (ylssT h23) ?_
     refine wL_nil (wQ_then (wC_seq (wC_cond_t rfl (wC_skip (wQ_then (wC_seq (wC_block (wC_seq (wC_region (vm ?_))))))))))
     refine vm ?_
     refine cal en114 (sums_calls A1 l.length c1 m now _ (St.ord 1 S17 rfl) hl4 (by omega) (by omega) (fun x hx => ⟨(HNow.each x hx).1.1, (HNow.each x hx).1.2, (HNow.each x hx).2.1.1, (HNow.each x hx).2.1.2⟩)) ?_
     rintro _ w25 ⟨b24, rfl, hb27, hg28, hk29⟩
     refine ⟨_, rfl, ?_⟩
     have S26 := S17.onBlk hb27 hg28 hk29; clear hb27 hg28 hk29 S17
     refine va ?_
     refine qk [1, 6, 7, 10, 35, 9, 11, 36, 12] ?_
     refine x_tsr (vm ?_)
     refine wL_call (wn rfl) rfl rfl (e_call (vs := [.slice (some ⟨b24, 0, none⟩) m m]) rfl en115 ⟨rfl, trivial⟩) (ends_calls b24 m m (fun j => workAt now j) _ (fun j hj => St.cl 0 S26 rfl (hsRow_get _ hj)) (by omega) (by omega)) ?_
     rintro _ w30 ⟨rfl, rfl⟩
     refine ⟨_, rfl, ?_⟩
     refine vm ?_
     refine vv yx ?_
     refine vv yx ?_
     iterate 2 refine va ?_
     refine qk [1, 6, 7, 10, 35, 9, 11, 36, 12, 13, 14] ?_
     refine x_tsr (va ?_)
     refine wL_nil (wQ_then (wC_seq (wC_seq (wC_region (vm ?_)))))
     refine vv (v := .int .i64 ((l.length : Nat) : Int)) (y_builtin (vs := [.slice A1 l.length c1]) rfl ⟨rfl, trivial⟩ fun _ => r_len rfl Try.underlying42) ?_
     refine vm ?_
     refine wL_nil (wQ_then (wC_block ?_))
     have hgp := gap_in HNow
     have hfl := frOf_lt (now := now) (m := m) (by omega)
     have htl := toOf_lt (now := now) (m := m) (by omega)
     refine wC_loop (X := Nat × (Option Nat)) (fun xv => [(1, .int .i64 ((m : Nat) : Int)), (6, .slice none 0 0), (7, .int .i64 0), (10, .slice (some ⟨b11, 0, none⟩) l.length l.length), (35, .int .i64 ((mv : Nat) : Int)), (9, .slice A1 l.length c1), (11, .slice A3 it c3), (36, .int .i64 ((it : Nat) : Int)), (12, .slice (some ⟨b24, 0, none⟩) m m), (13, .int .i64 ((frOf m now : Nat) : Int)), (14, .int .i64 ((toOf m now : Nat) : Int)), (46, .slice A1 l.length c1), (47, .int .i64 ((l.length : Nat) : Int)), (15, .int .i64 (bestInt xv.2)), (48, .int .i64 ((xv.1 : Nat) : Int))]) (fun xv wr => (xv.1 ≤ l.length) ∧ (bestTo (wants now gone (frOf m now) (gapOf m now)) (workOf now) xv.1 = xv.2) ∧ St w.heap.size w wr [.blk b24 (hsRow (fun j => workAt now j) m) 3, .own 164 3 (.slice A3 it c3) it ((outp).flatMap Pln.cells), .own 162 3 (.slice A1 l.length c1) l.length ((now).flatMap Ld.cells), .blk b11 (boRow gone l.length) 4, .rd 3 A l.length ((l).flatMap Ld.cells)]) (fun xv => l.length - xv.1) (0, none) ?_ ?_ ?_
     ·exact ⟨Nat.zero_le _, rfl, S26⟩
     ·exact ⟨rfl, rfl, rfl, rfl, rfl, rfl, rfl, rfl, rfl, rfl, rfl, rfl, rfl, rfl, rfl, trivial⟩
     ·rintro ⟨i, bs⟩ w31 ⟨hi33, hi34, S32⟩
      try dsimp only at hi33 hi34 S32; clear S26
      refine wC_sub (l' := [(1, .int .i64 ((m : Nat) : Int)), (6, .slice none 0 0), (7, .int .i64 0), (10, .slice (some ⟨b11, 0, none⟩) l.length l.length), (35, .int .i64 ((mv : Nat) : Int)), (9, .slice A1 l.length c1), (11, .slice A3 it c3), (36, .int .i64 ((it : Nat) : Int)), (12, .slice (some ⟨b24, 0, none⟩) m m), (13, .int .i64 ((frOf m now : Nat) : Int)), (14, .int .i64 ((toOf m now : Nat) : Int)), (46, .slice A1 l.length c1), (47, .int .i64 ((l.length : Nat) : Int)), (15, .int .i64 (bestInt bs)), (48, .int .i64 ((i : Nat) : Int))]) ⟨rfl, rfl, rfl, rfl, rfl, rfl, rfl, rfl, rfl, rfl, rfl, rfl, rfl, rfl, rfl, trivial⟩ (wC_seq (wC_region ?_))
      by_cases h35 : ((i : Nat) : Int) < ((l.length : Nat) : Int)
      ·refine vv (ylssT h35) ?_
       refine wL_nil (wQ_then (wC_seq (wC_cond_t rfl (wC_skip (wQ_then (wC_seq (wC_block (wC_seq (wC_region (vm ?_))))))))))
       obtain ⟨g36, rfl⟩ := own_some (S32.own 2 rfl) (by omega)
       obtain ⟨x37, hx38⟩ : ∃ x, (now)[i]? = some x := ⟨_, List.getElem?_eq_getElem (by have := (St.ord 2 S32 rfl).1; rw [fm_len (sz := 3) (fun _ => rfl)] at this; omega)⟩
       refine vv (v := .pointer (some ⟨g36, 0 + i * 3, none⟩)) (y_indexAddr rfl rfl rfl (r_indexAddr i Try.underlying42 inf162 (by omega) (by omega))) ?_
       refine vv (y_load rfl rfl (r_load_agg (cs := Ld.cells x37) Try.underlying162 rfl inf162 rfl (Rd.rg2 (St.ord 2 S32 rfl) (fun _ _ h => fm_get (enc := Ld.cells) (sz := 3) (fun _ => rfl) hx38 h)))) ?_
       refine na (row := #[.int .i64 0, .int .i64 0, .int .i64 0]) S32 Try.zeroValue162 ?_; intro b39 w40 S41; clear S32
       refine va ?_
       refine sa 0 S41 inf162 ?_; intro w42 S43; clear S41
       refine qk [1, 6, 7, 10, 35, 9, 11, 36, 12, 13, 14, 46, 47, 15, 48, 17, 16] ?_
       refine wQ_then (wC_seq ?_)
       have hwx := wants_at (gone := gone) (fr := frOf m now) (gap := gapOf m now) hx38
       refine wC_seq (wC_quiet S43 mixed (by kernel_rfl) ?_)
       refine uv (v := .slice (some ⟨b11, 0, none⟩) l.length l.length) (fun _ _ => ym) ?_
       refine uv (v := .int .i64 ((i : Nat) : Int)) (fun _ _ => ym) ?_
       refine uv (v := .pointer (some ⟨b11, i, none⟩)) (fun _ _ => (y_indexAddr rfl rfl rfl (r_index1 i Try.underlying156 inf4 (by rfl) (by omega)))) ?_
       refine uv (v := .bool (gone i)) (fun _ Sx47 => (y_load rfl rfl (r_load Try.underlying4 rfl (St.cl 4 Sx47 rfl (boRow_get gone (by omega)))))) ?_
       refine uv (v := .bool (gone i)) (fun _ _ => ym) ?_
       cases hb49 : (gone i)
       ·refine ug (v := .pointer (some ⟨b39, 1, none⟩)) (fun _ _ => yfa _ fa162_1) ?_
        refine ug (v := .int .i64 x37.node) (fun _ Sx51 => ylc 0 Sx51 Try.underlying3) ?_
        refine ug (v := .int .i64 ((frOf m now : Nat) : Int)) (fun _ _ => ym) ?_
        by_cases h53 : x37.node = ((frOf m now : Nat) : Int)
        ·refine ug (v := .bool false) (fun _ _ => yneqF h53) ?_
         refine uv (v := .bool false) (fun _ _ => ypF) ?_
         refine uv (v := .bool false) (fun _ _ => ym) ?_
         refine ug (v := .pointer (some ⟨b39, 2, none⟩)) (fun _ _ => yfa _ fa162_2) ?_
         refine ug (v := .int .i64 x37.work) (fun _ Sx58 => ylc 0 Sx58 Try.underlying3) ?_
         by_cases h59 : x37.work = 0
         ·refine ug (v := .bool true) (fun _ _ => yeqlT h59) ?_
          refine uv (v := .bool true) (fun _ _ => ypF) ?_
          refine uv (v := .bool true) (fun _ _ => ym) ?_
          iterate 12 refine usk ?_
          refine uv (v := .bool true) (fun _ _ => ypT) ?_
          refine wU_nil fun w64 S65 => ?_; clear S43
          refine pk [1, 6, 7, 10, 35, 9, 11, 36, 12, 13, 14, 46, 47, 15, 48, 17, 16, 81] ?_
          refine wQ_then (wC_cond_t rfl (wC_exit (wQ_then_exit (wQ_blk_same (wQ_then (wC_region (vv (v := .int .i64 ((i + 1 : Nat) : Int)) (y_binop rfl rfl rfl (r_add (by omega) (by omega))) ?_)))))))
          refine vm ?_
          refine qk [1, 6, 7, 10, 35, 9, 11, 36, 12, 13, 14, 46, 47, 15, 48] ?_
          have S66 : St w.heap.size w w64 [_, _, _, _, _] := (St.del 0 S65); clear S65
          refine wQ_round (i + 1, bs) ?_ ⟨rfl, rfl, rfl, rfl, rfl, rfl, rfl, rfl, rfl, rfl, rfl, rfl, rfl, rfl, rfl, trivial⟩ (by first | omega | (dsimp only; omega))
          exact ⟨(by dsimp only; omega), (by dsimp only; exact (bestTo_no (by rw [hwx]; first | (simp [*]; done) | (simp [*]; omega))).trans hi34), S66⟩
         ·refine ug (v := .bool false) (fun _ _ => yeqlF h59) ?_
          refine uv (v := .bool false) (fun _ _ => ypF) ?_
          refine uv (v := .bool false) (fun _ _ => ym) ?_
          refine ug (v := .pointer (some ⟨b39, 2, none⟩)) (fun _ _ => yfa _ fa162_2) ?_
          refine ug (v := .int .i64 x37.work) (fun _ Sx71 => ylc 0 Sx71 Try.underlying3) ?_
          refine ug (v := .slice (some ⟨b24, 0, none⟩) m m) (fun _ _ => ym) ?_
          refine ug (v := .int .i64 ((frOf m now : Nat) : Int)) (fun _ _ => ym) ?_
          refine ug (v := .pointer (some ⟨b24, frOf m now, none⟩)) (fun _ _ => (y_indexAddr rfl rfl rfl (r_index1 (frOf m now) Try.underlying157 inf3 (by rfl) hfl))) ?_
          refine ug (v := .int .i64 (workAt now ((frOf m now : Nat) : Int))) (fun _ Sx75 => (y_load rfl rfl (r_load Try.underlying3 rfl (St.cl 1 Sx75 rfl (hsRow_get _ (by exact hfl)))))) ?_
          refine ug (v := .slice (some ⟨b24, 0, none⟩) m m) (fun _ _ => ym) ?_
          refine ug (v := .int .i64 ((toOf m now : Nat) : Int)) (fun _ _ => ym) ?_
          refine ug (v := .pointer (some ⟨b24, toOf m now, none⟩)) (fun _ _ => (y_indexAddr rfl rfl rfl (r_index1 (toOf m now) Try.underlying157 inf3 (by rfl) htl))) ?_
          refine ug (v := .int .i64 (workAt now ((toOf m now : Nat) : Int))) (fun _ Sx79 => (y_load rfl rfl (r_load Try.underlying3 rfl (St.cl 1 Sx79 rfl (hsRow_get _ (by exact htl)))))) ?_
          refine ug (v := .int .i64 (gapOf m now)) (fun _ _ => (y_binop rfl rfl rfl (r_sub rfl ⟨by show _ ≤ gapOf m now; omega, by show gapOf m now ≤ _; omega⟩))) ?_
          by_cases h81 : gapOf m now ≤ x37.work
          ·refine ug (v := .bool true) (fun _ _ => ygeqT h81) ?_
           refine uv (v := .bool true) (fun _ _ => ypF) ?_
           refine wU_nil fun w84 S85 => ?_; clear S43
           refine pk [1, 6, 7, 10, 35, 9, 11, 36, 12, 13, 14, 46, 47, 15, 48, 17, 16, 81] ?_
           refine wQ_then (wC_cond_t rfl (wC_exit (wQ_then_exit (wQ_blk_same (wQ_then (wC_region (vv (v := .int .i64 ((i + 1 : Nat) : Int)) (y_binop rfl rfl rfl (r_add (by omega) (by omega))) ?_)))))))
           refine vm ?_
           refine qk [1, 6, 7, 10, 35, 9, 11, 36, 12, 13, 14, 46, 47, 15, 48] ?_
           have S86 : St w.heap.size w w84 [_, _, _, _, _] := (St.del 0 S85); clear S85
           refine wQ_round (i + 1, bs) ?_ ⟨rfl, rfl, rfl, rfl, rfl, rfl, rfl, rfl, rfl, rfl, rfl, rfl, rfl, rfl, rfl, trivial⟩ (by first | omega | (dsimp only; omega))
           exact ⟨(by dsimp only; omega), (by dsimp only; exact (bestTo_no (by rw [hwx]; first | (simp [*]; done) | (simp [*]; omega))).trans hi34), S86⟩
          ·refine ug (v := .bool false) (fun _ _ => ygeqF h81) ?_
           refine uv (v := .bool false) (fun _ _ => ypF) ?_
           refine wU_nil fun w89 S90 => ?_; clear S43
           refine pk [1, 6, 7, 10, 35, 9, 11, 36, 12, 13, 14, 46, 47, 15, 48, 17, 16, 81] ?_
           refine wQ_then (wC_cond_f rfl (wC_skip (wQ_then ?_)))
           have hc : wants now gone (frOf m now) (gapOf m now) i = true := by rw [hwx]; simp [*]; omega
           rcases bs with _ | b
           ·refine wC_sub (l' := [(1, .int .i64 ((m : Nat) : Int)), (6, .slice none 0 0), (7, .int .i64 0), (10, .slice (some ⟨b11, 0, none⟩) l.length l.length), (35, .int .i64 ((mv : Nat) : Int)), (9, .slice (some ⟨g36, 0, none⟩) l.length c1), (11, .slice A3 it c3), (36, .int .i64 ((it : Nat) : Int)), (12, .slice (some ⟨b24, 0, none⟩) m m), (13, .int .i64 ((frOf m now : Nat) : Int)), (14, .int .i64 ((toOf m now : Nat) : Int)), (46, .slice (some ⟨g36, 0, none⟩) l.length c1), (47, .int .i64 ((l.length : Nat) : Int)), (15, .int .i64 (-1)), (48, .int .i64 ((i : Nat) : Int)), (17, .pointer (some ⟨b39, 0, none⟩)), (16, .int .i64 ((i : Nat) : Int)), (81, .bool false)]) ⟨rfl, rfl, rfl, rfl, rfl, rfl, rfl, rfl, rfl, rfl, rfl, rfl, rfl, rfl, rfl, rfl, rfl, rfl, trivial⟩ (wC_seq (wC_quiet S90 mixed (by kernel_rfl) ?_))
            refine uv (v := .int .i64 (-1)) (fun _ _ => ym) ?_
            refine uv (v := .bool true) (fun _ _ => dlssT) ?_
            refine uv (v := .bool true) (fun _ _ => ym) ?_
            iterate 8 refine usk ?_
            refine uv (v := .bool true) (fun _ _ => ypT) ?_
            refine wU_nil fun w95 S96 => ?_; clear S90
            refine pk [1, 6, 7, 10, 35, 9, 11, 36, 12, 13, 14, 46, 47, 15, 48, 16, 93] ?_
            refine wQ_then (wC_cond_t rfl (wC_region (vm ?_)))
            refine va ?_
            refine qk [1, 6, 7, 10, 35, 9, 11, 36, 12, 13, 14, 46, 47, 15, 48] ?_
            refine wQ_blk_n (wQ_then (wC_region (vv (v := .int .i64 ((i + 1 : Nat) : Int)) (y_binop rfl rfl rfl (r_add (by omega) (by omega))) ?_)))
            refine vm ?_
            refine qk [1, 6, 7, 10, 35, 9, 11, 36, 12, 13, 14, 46, 47, 15, 48] ?_
            have S97 : St w.heap.size w w95 [_, _, _, _, _] := (St.del 0 S96); clear S96
            refine wQ_round (i + 1, some i) ?_ ⟨rfl, rfl, rfl, rfl, rfl, rfl, rfl, rfl, rfl, rfl, rfl, rfl, rfl, rfl, rfl, trivial⟩ (by first | omega | (dsimp only; omega))
            exact ⟨(by dsimp only; omega), (by dsimp only; exact bestTo_new hc hi34), S97⟩
           ·have hbl := bestTo_lt hi34
            have hbl2 : b < l.length := by omega
            refine wC_sub (l' := [(1, .int .i64 ((m : Nat) : Int)), (6, .slice none 0 0), (7, .int .i64 0), (10, .slice (some ⟨b11, 0, none⟩) l.length l.length), (35, .int .i64 ((mv : Nat) : Int)), (9, .slice (some ⟨g36, 0, none⟩) l.length c1), (11, .slice A3 it c3), (36, .int .i64 ((it : Nat) : Int)), (12, .slice (some ⟨b24, 0, none⟩) m m), (13, .int .i64 ((frOf m now : Nat) : Int)), (14, .int .i64 ((toOf m now : Nat) : Int)), (46, .slice (some ⟨g36, 0, none⟩) l.length c1), (47, .int .i64 ((l.length : Nat) : Int)), (15, .int .i64 ((b : Nat) : Int)), (48, .int .i64 ((i : Nat) : Int)), (17, .pointer (some ⟨b39, 0, none⟩)), (16, .int .i64 ((i : Nat) : Int)), (81, .bool false)]) ⟨rfl, rfl, rfl, rfl, rfl, rfl, rfl, rfl, rfl, rfl, rfl, rfl, rfl, rfl, rfl, rfl, rfl, rfl, trivial⟩ (wC_seq (wC_quiet S90 mixed (by kernel_rfl) ?_))
            refine uv (v := .int .i64 ((b : Nat) : Int)) (fun _ _ => ym) ?_
            refine uv (v := .bool false) (fun _ _ => (dlssF (h := by omega))) ?_
            refine uv (v := .bool false) (fun _ _ => ym) ?_
            refine ug (v := .pointer (some ⟨b39, 2, none⟩)) (fun _ _ => yfa _ fa162_2) ?_
            refine ug (v := .int .i64 x37.work) (fun _ Sx102 => ylc 0 Sx102 Try.underlying3) ?_
            refine ug (v := .slice (some ⟨g36, 0, none⟩) l.length c1) (fun _ _ => ym) ?_
            refine ug (v := .int .i64 ((b : Nat) : Int)) (fun _ _ => ym) ?_
            obtain ⟨x105, hx106⟩ : ∃ x, (now)[b]? = some x := ⟨_, List.getElem?_eq_getElem (by have := (St.ord 3 S90 rfl).1; rw [fm_len (sz := 3) (fun _ => rfl)] at this; omega)⟩
            refine ug (v := .pointer (some ⟨g36, 0 + b * 3, none⟩)) (fun _ _ => (y_indexAddr rfl rfl rfl (r_indexAddr b Try.underlying42 inf162 (by omega) (by omega)))) ?_
            refine ug (v := .pointer (some ⟨g36, 0 + b * 3 + 2, none⟩)) (fun _ _ => yfa _ fa162_2) ?_
            refine ug (v := .int .i64 x105.work) (fun _ Sx109 => (y_load rfl rfl (r_load Try.underlying3 rfl (Rd.cl2 (i := 2) (St.ord 3 Sx109 rfl) (fm_get (enc := Ld.cells) (sz := 3) (fun _ => rfl) hx106 rfl))))) ?_
            by_cases h110 : x105.work < x37.work
            ·refine ug (v := .bool true) (fun _ _ => ygtrT h110) ?_
             refine uv (v := .bool true) (fun _ _ => ypF) ?_
             refine wU_nil fun w113 S114 => ?_; clear S90
             refine pk [1, 6, 7, 10, 35, 9, 11, 36, 12, 13, 14, 46, 47, 15, 48, 16, 93] ?_
             refine wQ_then (wC_cond_t rfl (wC_region (vm ?_)))
             refine va ?_
             refine qk [1, 6, 7, 10, 35, 9, 11, 36, 12, 13, 14, 46, 47, 15, 48] ?_
             refine wQ_blk_n (wQ_then (wC_region (vv (v := .int .i64 ((i + 1 : Nat) : Int)) (y_binop rfl rfl rfl (r_add (by omega) (by omega))) ?_)))
             refine vm ?_
             refine qk [1, 6, 7, 10, 35, 9, 11, 36, 12, 13, 14, 46, 47, 15, 48] ?_
             have S115 : St w.heap.size w w113 [_, _, _, _, _] := (St.del 0 S114); clear S114
             refine wQ_round (i + 1, some i) ?_ ⟨rfl, rfl, rfl, rfl, rfl, rfl, rfl, rfl, rfl, rfl, rfl, rfl, rfl, rfl, rfl, trivial⟩ (by first | omega | (dsimp only; omega))
             exact ⟨(by dsimp only; omega), (by dsimp only; exact bestTo_more hc hi34 (by rw [workOf_at hx106, workOf_at hx38]; omega)), S115⟩
            ·refine ug (v := .bool false) (fun _ _ => ygtrF h110) ?_
             refine uv (v := .bool false) (fun _ _ => ypF) ?_
             refine wU_nil fun w118 S119 => ?_; clear S90
             refine pk [1, 6, 7, 10, 35, 9, 11, 36, 12, 13, 14, 46, 47, 15, 48, 16, 93] ?_
             refine wQ_then (wC_cond_f rfl (wC_skip (wQ_blk_n (wQ_then (wC_region (vv (v := .int .i64 ((i + 1 : Nat) : Int)) (y_binop rfl rfl rfl (r_add (by omega) (by omega))) ?_))))))
             refine vm ?_
             refine qk [1, 6, 7, 10, 35, 9, 11, 36, 12, 13, 14, 46, 47, 15, 48] ?_
             have S120 : St w.heap.size w w118 [_, _, _, _, _] := (St.del 0 S119); clear S119
             refine wQ_round (i + 1, some b) ?_ ⟨rfl, rfl, rfl, rfl, rfl, rfl, rfl, rfl, rfl, rfl, rfl, rfl, rfl, rfl, rfl, trivial⟩ (by first | omega | (dsimp only; omega))
             exact ⟨(by dsimp only; omega), (by dsimp only; exact bestTo_stay hc hi34 (by rw [workOf_at hx106, workOf_at hx38]; omega)), S120⟩
        ·refine ug (v := .bool true) (fun _ _ => yneqT h53) ?_
         refine uv (v := .bool true) (fun _ _ => ypF) ?_
         refine uv (v := .bool true) (fun _ _ => ym) ?_
         iterate 3 refine usk ?_
         refine uv (v := .bool true) (fun _ _ => ypT) ?_
         refine uv (v := .bool true) (fun _ _ => ym) ?_
         iterate 12 refine usk ?_
         refine uv (v := .bool true) (fun _ _ => ypT) ?_
         refine wU_nil fun w127 S128 => ?_; clear S43
         refine pk [1, 6, 7, 10, 35, 9, 11, 36, 12, 13, 14, 46, 47, 15, 48, 17, 16, 81] ?_
         refine wQ_then (wC_cond_t rfl (wC_exit (wQ_then_exit (wQ_blk_same (wQ_then (wC_region (vv (v := .int .i64 ((i + 1 : Nat) : Int)) (y_binop rfl rfl rfl (r_add (by omega) (by omega))) ?_)))))))
         refine vm ?_
         refine qk [1, 6, 7, 10, 35, 9, 11, 36, 12, 13, 14, 46, 47, 15, 48] ?_
         have S129 : St w.heap.size w w127 [_, _, _, _, _] := (St.del 0 S128); clear S128
         refine wQ_round (i + 1, bs) ?_ ⟨rfl, rfl, rfl, rfl, rfl, rfl, rfl, rfl, rfl, rfl, rfl, rfl, rfl, rfl, rfl, trivial⟩ (by first | omega | (dsimp only; omega))
         exact ⟨(by dsimp only; omega), (by dsimp only; exact (bestTo_no (by rw [hwx]; first | (simp [*]; done) | (simp [*]; omega))).trans hi34), S129⟩
       ·refine usk ?_
        iterate 3 refine usk ?_
        refine uv (v := .bool true) (fun _ _ => ypT) ?_
        refine uv (v := .bool true) (fun _ _ => ym) ?_
        iterate 3 refine usk ?_
        refine uv (v := .bool true) (fun _ _ => ypT) ?_
        refine uv (v := .bool true) (fun _ _ => ym) ?_
        iterate 12 refine usk ?_
        refine uv (v := .bool true) (fun _ _ => ypT) ?_
        refine wU_nil fun w135 S136 => ?_; clear S43
        refine pk [1, 6, 7, 10, 35, 9, 11, 36, 12, 13, 14, 46, 47, 15, 48, 17, 16, 81] ?_
        refine wQ_then (wC_cond_t rfl (wC_exit (wQ_then_exit (wQ_blk_same (wQ_then (wC_region (vv (v := .int .i64 ((i + 1 : Nat) : Int)) (y_binop rfl rfl rfl (r_add (by omega) (by omega))) ?_)))))))
        refine vm ?_
        refine qk [1, 6, 7, 10, 35, 9, 11, 36, 12, 13, 14, 46, 47, 15, 48] ?_
        have S137 : St w.heap.size w w135 [_, _, _, _, _] := (St.del 0 S136); clear S136
        refine wQ_round (i + 1, bs) ?_ ⟨rfl, rfl, rfl, rfl, rfl, rfl, rfl, rfl, rfl, rfl, rfl, rfl, rfl, rfl, rfl, trivial⟩ (by first | omega | (dsimp only; omega))
        exact ⟨(by dsimp only; omega), (by dsimp only; exact (bestTo_no (by rw [hwx]; first | (simp [*]; done) | (simp [*]; omega))).trans hi34), S137⟩
      ·refine vv (ylssF h35) ?_
       refine wL_nil (wQ_then (wC_seq (wC_cond_f rfl (wC_exit (wQ_then_exit (wQ_then_exit (wQ_blk_same (wQ_then (wC_seq (wC_seq ?_))))))))))
       have hie : i = l.length := by omega
       subst hie
       rcases bs with _ | b
       ·have hbb : bestOf m now gone = none := by unfold bestOf; rw [hi21]; exact hi34
        refine wC_sub (l' := [(1, .int .i64 ((m : Nat) : Int)), (6, .slice none 0 0), (7, .int .i64 0), (10, .slice (some ⟨b11, 0, none⟩) l.length l.length), (35, .int .i64 ((mv : Nat) : Int)), (9, .slice A1 l.length c1), (11, .slice A3 it c3), (36, .int .i64 ((it : Nat) : Int)), (12, .slice (some ⟨b24, 0, none⟩) m m), (13, .int .i64 ((frOf m now : Nat) : Int)), (14, .int .i64 ((toOf m now : Nat) : Int)), (46, .slice A1 l.length c1), (47, .int .i64 ((l.length : Nat) : Int)), (15, .int .i64 (-1)), (49, .bool false)]) ⟨rfl, rfl, rfl, rfl, rfl, rfl, rfl, rfl, rfl, rfl, rfl, rfl, rfl, rfl, rfl, trivial⟩ (wC_region (vm ?_))
        refine vv dlssT ?_
        refine qk [1, 6, 7, 10, 35, 9, 11, 36, 13, 14, 15, 97] ?_
        refine wQ_then (wC_cond_t rfl (wC_exit (wQ_then_exit (wQ_blk_ne rfl (wQ_then_exit (wQ_then_exit (wQ_blk_same (wQ_then (wC_seq (wC_region (vm ?_)))))))))))
        iterate 2 refine va ?_
        refine qk [6, 7] ?_
        refine x_te (wQ_scope_ret ?_)
        refine wQ_post (rs := [.tmp 6, .tmp 7]) (vs := [.slice A3 it c3, .int .i64 0]) rfl ⟨rfl, rfl, trivial⟩ ?_
        have S138 : St w.heap.size w w31 [_] := (St.del 0 (St.del 2 (St.del 3 (St.del 4 S32)))); clear S32
        have S139 := S138.sealAll 0 rfl; clear S138
        change St _ _ _ [.rdo 3 A3 it ((outp).flatMap Pln.cells)] at S139
        have hal : (balM l ((m : Nat) : Int) ((mv : Nat) : Int)) = (outp, 0) := bal_ok h0 (by omega) (by rw [hi19]; rw [show mv - it = mv - (it + 1) + 1 from by omega, bal_none hbb, List.append_nil])
        rw [hal]
        have hol : outp.length = it := hi22
        refine ⟨A3, c3, ?_, ?_⟩
        · dsimp only; rw [hol]; rfl
        · dsimp only; rw [hol]; exact S139
       ·have hbb : bestOf m now gone = some b := by unfold bestOf; rw [hi21]; exact hi34
        have hbl := best_lt hbb
        refine wC_sub (l' := [(1, .int .i64 ((m : Nat) : Int)), (6, .slice none 0 0), (7, .int .i64 0), (10, .slice (some ⟨b11, 0, none⟩) l.length l.length), (35, .int .i64 ((mv : Nat) : Int)), (9, .slice A1 l.length c1), (11, .slice A3 it c3), (36, .int .i64 ((it : Nat) : Int)), (12, .slice (some ⟨b24, 0, none⟩) m m), (13, .int .i64 ((frOf m now : Nat) : Int)), (14, .int .i64 ((toOf m now : Nat) : Int)), (46, .slice A1 l.length c1), (47, .int .i64 ((l.length : Nat) : Int)), (15, .int .i64 ((b : Nat) : Int)), (49, .bool false)]) ⟨rfl, rfl, rfl, rfl, rfl, rfl, rfl, rfl, rfl, rfl, rfl, rfl, rfl, rfl, rfl, trivial⟩ (wC_region (vm ?_))
        refine vv (dlssF (h := by omega)) ?_
        refine qk [1, 6, 7, 10, 35, 9, 11, 36, 13, 14, 15, 97] ?_
        refine x_tnktsr (vm ?_)
        refine vm ?_
        refine vv (v := .pointer (some ⟨b11, b, none⟩)) (y_indexAddr rfl rfl rfl (r_index1 b Try.underlying156 inf4 (by rfl) (by omega))) ?_
        refine wL_stAt (row' := boRow (fun j => decide (j = b) || gone j) l.length) 3 S32 (wn rfl) rfl rfl rfl rfl rfl rfl inf4 rfl (by rw [boRow_size]; omega) (boRow_set _) ?_; intro w140 S141; clear S32
        change St _ _ _ [_, _, _, .blk b11 (boRow (fun j => decide (j = b) || gone j) l.length) 4, _] at S141
        refine qk [1, 6, 7, 10, 35, 9, 11, 36, 13, 14, 15] ?_
        refine x_tsr (vm ?_)
        iterate 2 refine vm ?_
        obtain ⟨g142, rfl⟩ := own_some (S141.own 2 rfl) (by omega)
        obtain ⟨x143, hx144⟩ : ∃ x, (now)[b]? = some x := ⟨_, List.getElem?_eq_getElem (by have := (St.ord 2 S141 rfl).1; rw [fm_len (sz := 3) (fun _ => rfl)] at this; omega)⟩
        refine vv (v := .pointer (some ⟨g142, 0 + b * 3, none⟩)) (y_indexAddr rfl rfl rfl (r_indexAddr b Try.underlying42 inf162 (by omega) (by omega))) ?_
        refine vv (yfa (0 + b * 3 + 1) fa162_1) ?_
        refine wL_stOwn (xs' := (moveLd now b (toOf m now)).flatMap Ld.cells) 2 S141 (wn rfl) rfl rfl rfl rfl rfl rfl inf3 rfl (oneAll rfl) (by omega) (by rw [Nat.zero_add]; exact moveLd_cells) ?_; intro w145 S146; clear S141
        change St _ _ _ [_, _, .own 162 3 (.slice (some ⟨g142, 0, none⟩) l.length c1) l.length ((moveLd now b (toOf m now)).flatMap Ld.cells), _, _] at S146
        have hxm : (moveLd now b (toOf m now))[b]? = some ⟨x143.queue, ((toOf m now : Nat) : Int), x143.work⟩ := by rw [moveLd_get, hx144]; simp
        refine qk [1, 6, 7, 10, 35, 9, 11, 36, 13, 14, 15] ?_
        refine x_tr (vm ?_)
        iterate 2 refine vm ?_
        refine vv (v := .pointer (some ⟨g142, 0 + b * 3, none⟩)) (y_indexAddr rfl rfl rfl (r_indexAddr b Try.underlying42 inf162 (by omega) (by omega))) ?_
        refine vv (yfa (0 + b * 3) fa162_0) ?_
        refine vv (v := .int .i64 x143.queue) (y_load rfl rfl (r_load Try.underlying3 rfl (Rd.cl2 (i := 0) (St.ord 2 S146 rfl) (fm_get (enc := Ld.cells) (sz := 3) (fun _ => rfl) hxm rfl)))) ?_
        iterate 2 refine vm ?_
        refine vv (v := .agg #[.int .i64 x143.queue, .int .i64 ((frOf m now : Nat) : Int), .int .i64 ((toOf m now : Nat) : Int)]) (y_build (vs := [(0, .int .i64 x143.queue), (1, .int .i64 ((frOf m now : Nat) : Int)), (2, .int .i64 ((toOf m now : Nat) : Int))]) rfl ⟨rfl, rfl, rfl, rfl, rfl, rfl, trivial⟩ (by kernel_rfl)) ?_
        refine wL_new (V := fun b => .slice (some ⟨b, 0, none⟩) 1 1) (row := #[.int .i64 x143.queue, .int .i64 ((frOf m now : Nat) : Int), .int .i64 ((toOf m now : Nat) : Int)]) (t := 164) S146 (wn rfl) rfl rfl (d_buildSlice (vs := [(0, .agg #[.int .i64 x143.queue, .int .i64 ((frOf m now : Nat) : Int), .int .i64 ((toOf m now : Nat) : Int)])]) rfl ⟨rfl, rfl, trivial⟩ (by kernel_rfl)) ?_; intro b147 w148 S149; clear S146
        refine wL_append (news := [.int .i64 x143.queue, .int .i64 ((frOf m now : Nat) : Int), .int .i64 ((toOf m now : Nat) : Int)]) (xs' := (outp ++ [(⟨x143.queue, ((frOf m now : Nat) : Int), ((toOf m now : Nat) : Int)⟩ : Pln)]).flatMap Pln.cells) 2 S149 (wn rfl) rfl rfl rfl rfl rfl rfl (St.bld (xs := [.int .i64 x143.queue, .int .i64 ((frOf m now : Nat) : Int), .int .i64 ((toOf m now : Nat) : Int)]) 0 S149 rfl rfl rfl) Try.underlying44 infz164 rfl (by decide) (oneAll rfl) (by simp only [maxLen]; omega) (by omega) (fm_snoc (enc := Pln.cells) rfl rfl) ?_; intro A150 c151 w152 hc154 hm155 S153; clear S149
        change St _ _ _ [_, _, .own 164 3 (.slice A150 (it + 1) c151) (it + 1) ((outp ++ [(⟨x143.queue, ((frOf m now : Nat) : Int), ((toOf m now : Nat) : Int)⟩ : Pln)]).flatMap Pln.cells), _, _, _] at S153
        refine va ?_
        refine qk [1, 6, 7, 10, 35, 9, 11, 36] ?_
        refine wQ_blk_n (wQ_then (wC_region (vv (v := .int .i64 ((it + 1 : Nat) : Int)) (y_binop rfl rfl rfl (r_add (by omega) (by omega))) ?_)))
        refine vm ?_
        refine qk [1, 6, 7, 10, 35, 9, 11, 36] ?_
        have S156 : St w.heap.size w w152 [_, _, _, _] := (St.del 0 (St.del 1 S153)); clear S153
        refine wQ_round (it + 1, moveLd now b (toOf m now), (fun j => decide (j = b) || gone j), outp ++ [(⟨x143.queue, ((frOf m now : Nat) : Int), ((toOf m now : Nat) : Int)⟩ : Pln)], (some ⟨g142, 0, none⟩), c1, A150, c151) ?_ ⟨rfl, rfl, rfl, rfl, rfl, rfl, rfl, rfl, trivial⟩ (by first | omega | (dsimp only; omega))
        exact ⟨(by dsimp only; omega), (by dsimp only; rw [hi19, show mv - it = mv - (it + 1) + 1 from by omega, bal_some hbb, queueOf_at hx144, List.append_assoc]; rfl), (HNow.move (toOf_lt (by omega))), (by dsimp only; rw [moveLd_len]; exact hi21), (by dsimp only; rw [List.length_append, hi22]; rfl), (by dsimp only; exact S156)⟩
    ·refine vv (ylssF h23) ?_
     refine wL_nil (wQ_then (wC_seq (wC_cond_f rfl (wC_exit (wQ_then_exit (wQ_then_exit (wQ_blk_same (wQ_then (wC_seq (wC_region (vm ?_)))))))))))
     iterate 2 refine va ?_
     refine qk [6, 7] ?_
     refine x_te (wQ_scope_ret ?_)
     refine wQ_post (rs := [.tmp 6, .tmp 7]) (vs := [.slice A3 it c3, .int .i64 0]) rfl ⟨rfl, rfl, trivial⟩ ?_
     have S157 : St w.heap.size w w16 [_] := (St.del 1 (St.del 2 (St.del 3 S17))); clear S17
     have S158 := S157.sealAll 0 rfl; clear S157
     change St _ _ _ [.rdo 3 A3 it ((outp).flatMap Pln.cells)] at S158
     have hal : (balM l ((m : Nat) : Int) ((mv : Nat) : Int)) = (outp, 0) := bal_ok h0 (by omega) (by rw [hi19]; rw [show mv - it = 0 from by omega]; exact List.append_nil _)
     rw [hal]
     have hol : outp.length = it := hi22
     refine ⟨A3, c3, ?_, ?_⟩
     · dsimp only; rw [hol]; rfl
     · dsimp only; rw [hol]; exact S158
  ·refine wC_region (vm ?_)
   by_cases hm0 : moves < 0
   ·refine vv (ylssT hm0) ?_
    refine vm ?_
    iterate 2 refine vs ?_
    refine vv ypT ?_
    refine qk [0, 1, 2, 6, 7, 29] ?_
    refine x_tysr (va ?_)
    refine va ?_
    refine qk [6, 7] ?_
    refine x_teh (wQ_scope_ret ?_)
    refine wQ_post (rs := [.tmp 6, .tmp 7]) (vs := [.slice none 0 0, .int .i64 2]) rfl ⟨rfl, rfl, trivial⟩ ?_
    have S159 : St w.heap.size w w1 [] := (St.del 0 S2); clear S2
    rw [bal_range h0 (by omega)]
    exact ⟨none, 0, rfl, rdo_nil S159⟩
   ·refine vv (ylssF hm0) ?_
    refine vm ?_
    refine vg ym ?_
    refine vg (dgtrT (h := by omega)) ?_
    refine vv ypF ?_
    refine qk [0, 1, 2, 6, 7, 29] ?_
    refine x_tysr (va ?_)
    refine va ?_
    refine qk [6, 7] ?_
    refine x_teh (wQ_scope_ret ?_)
    refine wQ_post (rs := [.tmp 6, .tmp 7]) (vs := [.slice none 0 0, .int .i64 2]) rfl ⟨rfl, rfl, trivial⟩ ?_
    have S160 : St w.heap.size w w1 [] := (St.del 0 S2); clear S2
    rw [bal_range h0 (by omega)]
    exact ⟨none, 0, rfl, rdo_nil S160⟩
 ·refine vv (yneqT h0) ?_
  refine qk [0, 1, 2, 6, 7, 8, 22] ?_
  refine x_tysr (vm ?_)
  iterate 2 refine va ?_
  refine qk [6, 7] ?_
  refine x_teh (wQ_scope_ret ?_)
  refine wQ_post (rs := [.tmp 6, .tmp 7]) (vs := [.slice none 0 0, .int .i64 (ldsFault l nodes)]) rfl ⟨rfl, rfl, trivial⟩ ?_
  have S161 : St w.heap.size w w1 [] := (St.del 0 S2); clear S2
  rw [bal_bad h0]
  exact ⟨none, 0, rfl, rdo_nil S161⟩
end Go.Proofs.Ytkjlafpafmihaaa

