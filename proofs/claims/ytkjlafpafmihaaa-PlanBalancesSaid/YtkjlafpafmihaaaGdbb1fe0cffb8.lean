/- Parts of proofs: lemmas on memory, on single functions and on the plain models; no condition of their own. -/
import Derived.Test.YtkjlafpafmihaaaRows
import Derived.WalkKit
import Derived.ProofKit
import Derived.OpenShut
import Derived.SizedLaws
import Derived.WalkSpells
import Derived.WalkLawsBesides
import Derived.Handy
import Derived.Deep.QuietTactic
import Derived.BigQuiet
import Derived.Lib.Hide
import Derived.Maps.AppendAt
import Derived.Deep.AppendLies
import Derived.RegionTactic
import Derived.OwnWalk
import Derived.ChangeKeysEq
import Derived.Laws.Tables
import Derived.Deep.MidRow
import Derived.StillTailTactics
import Derived.OrdersHeld
import Derived.Deep.RegionHeld3
import Derived.Laws.IdiomCopy
import Derived.Laws.BitsAllLaws
import Derived.Scope
import Derived.Deep.DeepCutAuto
import Derived.Deep.CutRange
import Derived.Shelf.SlSortCmp.WholeK
import Derived.Shelf.SlSortCmp.NoneTotal
import Derived.Shelf.SlicesG.Cmp
import Derived.Shelf.SlGeneric
import Derived.Ground.SlsfProg
import Derived.Ground.SlgcProg
import Derived.Test.YtkjlafpafmihaaaG0bca59653183
import Derived.Test.YtkjlafpafmihaaaG0fbb77ee8a1f
import Derived.Test.YtkjlafpafmihaaaG1b3f031f3838
import Derived.Test.YtkjlafpafmihaaaG3d3d00a3ec74
import Derived.Test.YtkjlafpafmihaaaG47e839a0fbf8
import Derived.Test.YtkjlafpafmihaaaG7513e187c541
import Derived.Test.YtkjlafpafmihaaaG94c6852e5657
import Derived.Test.YtkjlafpafmihaaaGa09fbd9efb78
import Derived.Test.YtkjlafpafmihaaaGa90ca60c6bbf
import Derived.Test.YtkjlafpafmihaaaGb48b52f65941
import Derived.Test.YtkjlafpafmihaaaGc7b9dc944e44
import Derived.Test.YtkjlafpafmihaaaGc7e713607da7
import Derived.Test.YtkjlafpafmihaaaGe0a7094eaa1d
set_option linter.unusedVariables false
set_option linter.unusedSimpArgs false

namespace Go.Proofs.Ytkjlafpafmihaaa
open Go.ChangeShapes Go.WideShapes Go.RowKit

theorem take_snoc {l : List Ld} {k : Nat} {x : Ld} (h : l[k]? = some x) : (l.take k).flatMap Ld.cells ++ Ld.cells x = (l.take (k + 1)).flatMap Ld.cells := by
  rw [List.take_add_one, h]
  simp

set_option maxRecDepth 100000 in
set_option maxHeartbeats 8000000 in
theorem Balanced_calls (A : Option Addr) (c : Nat) (l : List Ld) (nodes moves : Int) (w : World) (h : Rd w w.heap.size 3 A l.length (l.flatMap Ld.cells)) (hm : l.length ≤ maxLen) :
    Calls Try.prog 37 #[.slice A l.length c, .int .i64 nodes, .int .i64 moves] w (BalPost w (balM l nodes moves)) := by
 have S := (St.start w).addRd h; clear h
 refine fnw 131 Try.func37 ?_
 refine cw [0, 1, 2] ?_
 refine x_sr (va ?_)
 refine va ?_
 refine wL_nil (wQ_then (wC_seq (wC_region (vm ?_))))
 refine vm ?_
 refine cab en116 S (LoadsFault_calls A l.length c l nodes _ (St.rd 0 S rfl) hm) ?_; intro w1 S2; clear S
 refine va ?_
 refine qk [0, 1, 2, 6, 7, 8] ?_
 refine x_tssr (vm ?_)
 by_cases h0 : ldsFault l nodes = 0
 ·obtain ⟨hn1, hn5, hlo⟩ := ldsFault_zero h0
  have HN := NowOk.start hlo hn1
  have hl4 := HN.len
  obtain ⟨m, hmn⟩ : ∃ m : Nat, nodes = (m : Int) := ⟨nodes.toNat, by omega⟩
  subst hmn
  rw [Int.toNat_natCast] at HN
  refine vv (yneqF h0) ?_
  refine qk [0, 1, 2, 6, 7, 8, 23] ?_
  refine x_tnktssr (vm ?_)
  by_cases hmv : 0 ≤ moves ∧ moves ≤ 4
  ·refine cal en107 (In_t hmv _) ?_
   rintro _ w4 ⟨rfl, rfl⟩
   refine ⟨_, rfl, ?_⟩
   refine vv (v := .bool false) yno ?_
   refine qk [0, 1, 2, 6, 7, 27] ?_
   refine wQ_then (wC_cond_f rfl (wC_skip (wQ_then (wC_seq ?_))))
   obtain ⟨mv, hmq⟩ : ∃ q : Nat, moves = (q : Int) := ⟨moves.toNat, by omega⟩
   subst hmq
   have S5 := S2.nil 162 3; clear S2
   change St _ _ _ [.own 162 3 (.slice none 0 0) 0 ((([] : List Ld)).flatMap Ld.cells), _] at S5
   refine wC_region (va ?_)
   refine qk [0, 1, 2, 6, 7, 9] ?_
   refine x_tssr (va ?_)
   refine wL_nil (wQ_then (wC_block (wC_loop (X := Nat × (Option Addr) × Nat) (fun xv => [(0, .slice A l.length c), (1, .int .i64 ((m : Nat) : Int)), (2, .int .i64 ((mv : Nat) : Int)), (6, .slice none 0 0), (7, .int .i64 0), (9, .slice xv.2.1 xv.1 xv.2.2), (10, .int .i64 ((xv.1 : Nat) : Int))]) (fun xv wr => (xv.1 ≤ l.length) ∧ St w.heap.size w wr [.own 162 3 (.slice xv.2.1 xv.1 xv.2.2) xv.1 ((l.take xv.1).flatMap Ld.cells), .rd 3 A l.length ((l).flatMap Ld.cells)]) (fun xv => l.length - xv.1) (0, none, 0) ?_ ?_ ?_)))
   ·exact ⟨Nat.zero_le _, S5⟩
   ·exact ⟨rfl, rfl, rfl, rfl, rfl, rfl, rfl, trivial⟩
   ·rintro ⟨k, A1, c1⟩ w6 ⟨hi8, S7⟩
    try dsimp only at hi8 S7; clear S5
    refine wC_sub (l' := [(0, .slice A l.length c), (1, .int .i64 ((m : Nat) : Int)), (2, .int .i64 ((mv : Nat) : Int)), (6, .slice none 0 0), (7, .int .i64 0), (9, .slice A1 k c1), (10, .int .i64 ((k : Nat) : Int))]) ⟨rfl, rfl, rfl, rfl, rfl, rfl, rfl, trivial⟩ (wC_seq (wC_seq (wC_region (vm ?_))))
    refine vm ?_
    refine vv (v := .int .i64 ((l.length : Nat) : Int)) (y_builtin (vs := [.slice A l.length c]) rfl ⟨rfl, trivial⟩ fun _ => r_len rfl Try.underlying42) ?_
    by_cases h9 : ((k : Nat) : Int) < ((l.length : Nat) : Int)
    ·refine vv (ylssT h9) ?_
     refine qk [0, 1, 2, 6, 7, 9, 10, 31] ?_
     refine wQ_then (wC_cond_t rfl (wC_skip (wQ_then (wC_seq (wC_block (wC_region (vm ?_)))))))
     iterate 2 refine vm ?_
     obtain ⟨b10, o11, rfl⟩ := Rd.addr (St.rd 1 S7 rfl) (by omega)
     obtain ⟨x12, hx13⟩ : ∃ x, (l)[k]? = some x := ⟨_, List.getElem?_eq_getElem (by have := (St.rd 1 S7 rfl).1; rw [fm_len (sz := 3) (fun _ => rfl)] at this; omega)⟩
     refine vv (v := .pointer (some ⟨b10, o11 + k * 3, none⟩)) (y_indexAddr rfl rfl rfl (r_indexAddr k Try.underlying42 inf162 (by omega) (by omega))) ?_
     refine vv (y_load rfl rfl (r_load_agg (cs := Ld.cells x12) Try.underlying162 rfl inf162 rfl (Rd.rg2 (St.rd 1 S7 rfl) (fun _ _ h => fm_get (enc := Ld.cells) (sz := 3) (fun _ => rfl) hx13 h)))) ?_
     refine wL_new (V := fun b => .slice (some ⟨b, 0, none⟩) 1 1) (row := #[.int .i64 x12.queue, .int .i64 x12.node, .int .i64 x12.work]) (t := 162) S7 (wn rfl) rfl rfl (d_buildSlice (vs := [(0, .agg #[.int .i64 x12.queue, .int .i64 x12.node, .int .i64 x12.work])]) rfl ⟨rfl, rfl, trivial⟩ (by kernel_rfl)) ?_; intro b14 w15 S16; clear S7
     refine wL_append (news := [.int .i64 x12.queue, .int .i64 x12.node, .int .i64 x12.work]) (xs' := (l.take (k + 1)).flatMap Ld.cells) 1 S16 (wn rfl) rfl rfl rfl rfl rfl rfl (St.bld (xs := [.int .i64 x12.queue, .int .i64 x12.node, .int .i64 x12.work]) 0 S16 rfl rfl rfl) Try.underlying42 infz162 rfl (by decide) (oneAll rfl) (by simp only [maxLen]; omega) (by omega) (take_snoc hx13) ?_; intro A17 c18 w19 hc21 hm22 S20; clear S16
     change St _ _ _ [_, .own 162 3 (.slice A17 (k + 1) c18) (k + 1) ((l.take (k + 1)).flatMap Ld.cells), _] at S20
     refine va ?_
     refine qk [0, 1, 2, 6, 7, 9, 10] ?_
     refine wQ_blk_n (wQ_then (wC_region (vm ?_)))
     refine vv (v := .int .i64 ((k + 1 : Nat) : Int)) (y_binop rfl rfl rfl (r_add (by omega) (by omega))) ?_
     refine va ?_
     refine qk [0, 1, 2, 6, 7, 9, 10] ?_
     have S23 : St w.heap.size w w19 [_, _] := (St.del 0 S20); clear S20
     refine wQ_round (k + 1, A17, c18) ?_ ⟨rfl, rfl, rfl, rfl, rfl, rfl, rfl, trivial⟩ (by first | omega | (dsimp only; omega))
     exact ⟨(by dsimp only; omega), S23⟩
    ·refine vv (ylssF h9) ?_
     refine qk [0, 1, 2, 6, 7, 9, 10, 31] ?_
     refine wQ_then (wC_cond_f rfl (wC_exit (wQ_then_exit (wQ_then_exit (wQ_blk_same (wQ_then (wC_seq ?_)))))))
     obtain rfl : k = l.length := by omega
     rw [List.take_length] at S7
     refine wC_region (wL_new (V := fun b => .slice (some ⟨b, 0, none⟩) 4 4) (row := boRow (fun _ => false) 4) (t := 4) S7 (wn rfl) rfl rfl (d_makeSlice rfl rfl rfl (bools_make 4 (by omega) _)) ?_); intro b24 w25 S26; clear S7
     refine va ?_
     refine qk [1, 2, 6, 7, 9, 11] ?_
     refine x_tsr (va ?_)
     refine wL_nil (wQ_then (wC_seq (wC_block ?_)))
     have S27 := S26.nil 164 3; clear S26
     change St _ _ _ [.own 164 3 (.slice none 0 0) 0 ((([] : List Pln)).flatMap Pln.cells), _, _, _] at S27
     have S28 : St w.heap.size w w25 [_, _, _, _] := S27.re [0, 2, 1, 3] (by decide); clear S27
     refine wC_loop (X := Nat × (List Ld) × (Nat → Bool) × (Nat → Bool) × (List Pln) × (Option Addr) × Nat × (Option Addr) × Nat) (fun xv => [(1, .int .i64 ((m : Nat) : Int)), (2, .int .i64 ((mv : Nat) : Int)), (6, .slice none 0 0), (7, .int .i64 0), (11, .slice (some ⟨b24, 0, none⟩) 4 4), (9, .slice xv.2.2.2.2.2.1 l.length xv.2.2.2.2.2.2.1), (12, .slice xv.2.2.2.2.2.2.2.1 xv.1 xv.2.2.2.2.2.2.2.2)]) (fun xv wr => (xv.1 ≤ mv) ∧ (balGo m mv l (fun _ => false) = xv.2.2.2.2.1 ++ balGo m (mv - xv.1) xv.2.1 xv.2.2.1) ∧ (NowOk m xv.2.1) ∧ (xv.2.1.length = l.length) ∧ (xv.2.2.2.2.1.length = xv.1) ∧ (Both xv.2.1 xv.2.2.1 xv.2.2.2.1) ∧ St w.heap.size w wr [.own 164 3 (.slice xv.2.2.2.2.2.2.2.1 xv.1 xv.2.2.2.2.2.2.2.2) xv.1 ((xv.2.2.2.2.1).flatMap Pln.cells), .own 162 3 (.slice xv.2.2.2.2.2.1 l.length xv.2.2.2.2.2.2.1) l.length ((xv.2.1).flatMap Ld.cells), .blk b24 (boRow xv.2.2.2.1 4) 4, .rd 3 A l.length ((l).flatMap Ld.cells)]) (fun xv => mv - xv.1) (0, l, fun _ => false, fun _ => false, [], A1, c1, none, 0) ?_ ?_ ?_
     ·exact ⟨Nat.zero_le _, rfl, HN, rfl, rfl, fun _ _ _ => rfl, S28⟩
     ·exact ⟨rfl, rfl, rfl, rfl, rfl, rfl, rfl, trivial⟩
     ·rintro ⟨it, now, gone, mo, outp, A4, c4, A3, c3⟩ w29 ⟨hi31, hi32, hi33, hi34, hi35, hi36, S30⟩
      try dsimp only at hi31 hi32 hi33 hi34 hi35 hi36 S30; clear S28
      refine wC_sub (l' := [(1, .int .i64 ((m : Nat) : Int)), (2, .int .i64 ((mv : Nat) : Int)), (6, .slice none 0 0), (7, .int .i64 0), (11, .slice (some ⟨b24, 0, none⟩) 4 4), (9, .slice A4 l.length c4), (12, .slice A3 it c3)]) ⟨rfl, rfl, rfl, rfl, rfl, rfl, rfl, trivial⟩ ?_
      have HNow := hi33
      have hbo := hi36
      have hn4 := HNow.len
      refine wC_seq (wC_seq (wC_region (vm ?_)))
      refine vv (v := .int .i64 ((it : Nat) : Int)) (y_builtin (vs := [.slice A3 it c3]) rfl ⟨rfl, trivial⟩ fun _ => r_len rfl Try.underlying44) ?_
      refine vm ?_
      by_cases h37 : ((it : Nat) : Int) < ((mv : Nat) : Int)
      ·refine vv (ylssT h37) ?_
       refine qk [1, 2, 6, 7, 11, 9, 12, 45] ?_
       refine wQ_then (wC_cond_t rfl (wC_skip (wQ_then (wC_block (wC_seq (wC_region (vm ?_)))))))
       refine vm ?_
       refine cal en117 (busiest_calls A4 l.length c4 m now _ (St.ord 1 S30 rfl) hl4 (by omega) (by omega) (fun x hx => (HNow.each x hx).1)) ?_
       rintro _ w38 ⟨rfl, rfl⟩
       refine ⟨_, rfl, ?_⟩
       refine vm ?_
       refine vv yx ?_
       refine vv yx ?_
       iterate 2 refine va ?_
       refine qk [1, 2, 6, 7, 11, 9, 12, 13, 14] ?_
       refine wQ_then (wC_seq ?_)
       have hgp := gap_in HNow
       have hfl := frOf_lt (now := now) (m := m) (by omega)
       have htl := toOf_lt (now := now) (m := m) (by omega)
       refine wC_region (vm ?_)
       refine vm ?_
       refine cal en118 (workAt_calls A4 l.length c4 now ((frOf m now : Nat) : Int) _ (St.ord 1 S30 rfl) hl4 (fun x hx => (HNow.each x hx).1)) ?_
       rintro _ w39 ⟨rfl, rfl⟩
       refine ⟨_, rfl, ?_⟩
       iterate 2 refine vm ?_
       refine cal en118 (workAt_calls A4 l.length c4 now ((toOf m now : Nat) : Int) _ (St.ord 1 S30 rfl) hl4 (fun x hx => (HNow.each x hx).1)) ?_
       rintro _ w40 ⟨rfl, rfl⟩
       refine ⟨_, rfl, ?_⟩
       refine vv (v := .int .i64 (gapOf m now)) (y_binop rfl rfl rfl (r_sub rfl ⟨by show _ ≤ gapOf m now; omega, by show gapOf m now ≤ _; omega⟩)) ?_
       refine va ?_
       refine qk [1, 2, 6, 7, 11, 9, 12, 13, 14, 15] ?_
       refine x_tsr (va ?_)
       refine wL_nil (wQ_then (wC_seq (wC_seq (wC_region (vm ?_)))))
       refine vv (v := .int .i64 ((l.length : Nat) : Int)) (y_builtin (vs := [.slice A4 l.length c4]) rfl ⟨rfl, trivial⟩ fun _ => r_len rfl Try.underlying42) ?_
       refine vv (v := .int .i64 (((l.length : Nat) : Int) - 1)) (y_binop rfl rfl rfl (r_sub (by omega) (by omega))) ?_
       refine va ?_
       refine qk [1, 2, 6, 7, 11, 9, 12, 13, 14, 15, 16, 17] ?_
       refine wQ_then (wC_block (wC_loop (X := Nat × (Option Nat)) (fun xv => [(1, .int .i64 ((m : Nat) : Int)), (2, .int .i64 ((mv : Nat) : Int)), (6, .slice none 0 0), (7, .int .i64 0), (11, .slice (some ⟨b24, 0, none⟩) 4 4), (9, .slice A4 l.length c4), (12, .slice A3 it c3), (13, .int .i64 ((frOf m now : Nat) : Int)), (14, .int .i64 ((toOf m now : Nat) : Int)), (15, .int .i64 (gapOf m now)), (16, .int .i64 (bestInt xv.2)), (17, .int .i64 (((xv.1 : Nat) : Int) - 1))]) (fun xv wr => (xv.1 ≤ l.length) ∧ (BestP (wants now gone (frOf m now) (gapOf m now)) (workOf now) xv.1 l.length xv.2) ∧ St w.heap.size w wr [.own 164 3 (.slice A3 it c3) it ((outp).flatMap Pln.cells), .own 162 3 (.slice A4 l.length c4) l.length ((now).flatMap Ld.cells), .blk b24 (boRow mo 4) 4, .rd 3 A l.length ((l).flatMap Ld.cells)]) (fun xv => xv.1) (l.length, none) ?_ ?_ ?_))
       ·exact ⟨Nat.le_refl _, fun j h1 h2 => absurd h1 (by omega), S30⟩
       ·exact ⟨rfl, rfl, rfl, rfl, rfl, rfl, rfl, rfl, rfl, rfl, rfl, rfl, trivial⟩
       ·rintro ⟨q, bs⟩ w41 ⟨hi43, hi44, S42⟩
        try dsimp only at hi43 hi44 S42; clear S30
        refine wC_sub (l' := [(1, .int .i64 ((m : Nat) : Int)), (2, .int .i64 ((mv : Nat) : Int)), (6, .slice none 0 0), (7, .int .i64 0), (11, .slice (some ⟨b24, 0, none⟩) 4 4), (9, .slice A4 l.length c4), (12, .slice A3 it c3), (13, .int .i64 ((frOf m now : Nat) : Int)), (14, .int .i64 ((toOf m now : Nat) : Int)), (15, .int .i64 (gapOf m now)), (16, .int .i64 (bestInt bs)), (17, .int .i64 (((q : Nat) : Int) - 1))]) ⟨rfl, rfl, rfl, rfl, rfl, rfl, rfl, rfl, rfl, rfl, rfl, rfl, trivial⟩ (wC_seq (wC_seq (wC_region (vm ?_))))
        by_cases h45 : 0 ≤ ((q : Nat) : Int) - 1
        ·refine vv (ygeqT h45) ?_
         refine qk [1, 2, 6, 7, 11, 9, 12, 13, 14, 15, 16, 17, 63] ?_
         refine wQ_then (wC_cond_t rfl (wC_skip (wQ_then (wC_seq (wC_block (wC_seq ?_))))))
         obtain ⟨i, hqi⟩ : ∃ i, q = i + 1 := ⟨q - 1, by omega⟩
         subst hqi
         have hqe : ((i + 1 : Nat) : Int) - 1 = ((i : Nat) : Int) := by omega
         rcases bs with _ | b
         ·refine wC_sub (l' := [(1, .int .i64 ((m : Nat) : Int)), (2, .int .i64 ((mv : Nat) : Int)), (6, .slice none 0 0), (7, .int .i64 0), (11, .slice (some ⟨b24, 0, none⟩) 4 4), (9, .slice A4 l.length c4), (12, .slice A3 it c3), (13, .int .i64 ((frOf m now : Nat) : Int)), (14, .int .i64 ((toOf m now : Nat) : Int)), (15, .int .i64 (gapOf m now)), (16, .int .i64 (-1)), (17, .int .i64 (((i + 1 : Nat) : Int) - 1)), (63, .bool true)]) ⟨rfl, rfl, rfl, rfl, rfl, rfl, rfl, rfl, rfl, rfl, rfl, rfl, rfl, trivial⟩ ?_
          rw [hqe]
          refine wC_region (vm ?_)
          refine vm ?_
          obtain ⟨g46, rfl⟩ := own_some (S42.own 1 rfl) (by omega)
          obtain ⟨x47, hx48⟩ : ∃ x, (now)[i]? = some x := ⟨_, List.getElem?_eq_getElem (by have := (St.ord 1 S42 rfl).1; rw [fm_len (sz := 3) (fun _ => rfl)] at this; omega)⟩
          refine vv (v := .pointer (some ⟨g46, 0 + i * 3, none⟩)) (y_indexAddr rfl rfl rfl (r_indexAddr i Try.underlying42 inf162 (by omega) (by omega))) ?_
          refine vv (y_load rfl rfl (r_load_agg (cs := Ld.cells x47) Try.underlying162 rfl inf162 rfl (Rd.rg2 (St.ord 1 S42 rfl) (fun _ _ h => fm_get (enc := Ld.cells) (sz := 3) (fun _ => rfl) hx48 h)))) ?_
          refine na (row := #[.int .i64 0, .int .i64 0, .int .i64 0]) S42 Try.zeroValue162 ?_; intro b49 w50 S51; clear S42
          refine sa 0 S51 inf162 ?_; intro w52 S53; clear S51
          refine qk [1, 2, 6, 7, 11, 9, 12, 13, 14, 15, 16, 17, 18] ?_
          refine wQ_then ?_
          have hwx := wants_at (gone := gone) (fr := frOf m now) (gap := gapOf m now) hx48
          rw [← hbo i x47 hx48] at hwx
          have hxe := HNow.each x47 (List.mem_of_getElem? hx48)
          refine wC_seq (wC_quiet S53 mixed (by kernel_rfl) ?_)
          refine uv (v := .pointer (some ⟨b49, 1, none⟩)) (fun _ _ => yfa _ fa162_1) ?_
          refine uv (v := .int .i64 x47.node) (fun _ Sx55 => ylc 0 Sx55 Try.underlying3) ?_
          refine uv (v := .int .i64 ((frOf m now : Nat) : Int)) (fun _ _ => ym) ?_
          by_cases h57 : x47.node = ((frOf m now : Nat) : Int)
          ·refine uv (v := .bool true) (fun _ _ => yeqlT h57) ?_
           refine uv (v := .bool true) (fun _ _ => ym) ?_
           refine ug (v := .slice (some ⟨b24, 0, none⟩) 4 4) (fun _ _ => ym) ?_
           refine ug (v := .pointer (some ⟨b49, 0, none⟩)) (fun _ _ => yfa _ fa162_0) ?_
           refine ug (v := .int .i64 x47.queue) (fun _ Sx62 => ylc 0 Sx62 Try.underlying3) ?_
           refine ug (v := .pointer (some ⟨b24, x47.queue.toNat, none⟩)) (fun _ _ => (y_indexAddr rfl rfl rfl (r_index1 x47.queue.toNat Try.underlying156 inf4 (by omega) (by omega)))) ?_
           refine ug (v := .bool (mo x47.queue.toNat)) (fun _ Sx64 => (y_load rfl rfl (r_load Try.underlying4 rfl (St.cl 3 Sx64 rfl (boRow_get mo (by omega)))))) ?_
           cases hb65 : (mo x47.queue.toNat)
           ·refine ug (v := .bool true) (fun _ _ => yno) ?_
            refine uv (v := .bool true) (fun _ _ => ypT) ?_
            refine uv (v := .bool true) (fun _ _ => ym) ?_
            refine ug (v := .pointer (some ⟨b49, 2, none⟩)) (fun _ _ => yfa _ fa162_2) ?_
            refine ug (v := .int .i64 x47.work) (fun _ Sx70 => ylc 0 Sx70 Try.underlying3) ?_
            refine ug (v := .int .i64 (gapOf m now)) (fun _ _ => ym) ?_
            refine ug (v := .int .i64 ((gapOf m now) - 1)) (fun _ _ => (y_binop rfl rfl rfl (r_sub (by omega) (by omega)))) ?_
            by_cases hp73 : 1 ≤ x47.work ∧ x47.work ≤ (gapOf m now) - 1
            ·refine wU_call (v := .bool true) (vs := [.int .i64 x47.work, .int .i64 1, .int .i64 ((gapOf m now) - 1)]) (wg rfl rfl rfl rfl) rfl rfl (fun _ => (e_call (vs := [.int .i64 x47.work, .int .i64 1, .int .i64 ((gapOf m now) - 1)]) rfl en107 ⟨rfl, rfl, rfl, trivial⟩)) (fun _ Sx74 => (In_t hp73 _).mono fun _ _ h => ⟨h.1, h.2 ▸ Sx74⟩) ?_
             refine uv (v := .bool true) (fun _ _ => ypT) ?_
             refine uv (v := .bool true) (fun _ _ => ym) ?_
             refine ug (v := .int .i64 (-1)) (fun _ _ => ym) ?_
             refine ug (v := .bool true) (fun _ _ => dlssT) ?_
             refine ug (v := .bool true) (fun _ _ => ym) ?_
             iterate 8 refine usk ?_
             refine ug (v := .bool true) (fun _ _ => ypT) ?_
             refine uv (v := .bool true) (fun _ _ => ypT) ?_
             refine wU_nil fun w82 S83 => ?_; clear S53
             refine pk [1, 2, 6, 7, 11, 9, 12, 13, 14, 15, 16, 17, 102] ?_
             refine wQ_then (wC_cond_t rfl (wC_region (vm ?_)))
             refine va ?_
             refine qk [1, 2, 6, 7, 11, 9, 12, 13, 14, 15, 16, 17] ?_
             refine wQ_blk_n (wQ_then (wC_region (vm ?_)))
             refine vv (v := .int .i64 (((i : Nat) : Int) - 1)) (y_binop rfl rfl rfl (r_sub (by omega) (by omega))) ?_
             refine va ?_
             refine qk [1, 2, 6, 7, 11, 9, 12, 13, 14, 15, 16, 17] ?_
             have S84 : St w.heap.size w w82 [_, _, _, _] := (St.del 0 S83); clear S83
             refine wQ_round (i, some i) ?_ ⟨rfl, rfl, rfl, rfl, rfl, rfl, rfl, rfl, rfl, rfl, rfl, rfl, trivial⟩ (by first | omega | (dsimp only; omega))
             exact ⟨(by dsimp only; omega), (by dsimp only; exact BestP.first hi44 (by omega) (by rw [hwx]; simp [*]; omega)), S84⟩
            ·refine wU_call (v := .bool false) (vs := [.int .i64 x47.work, .int .i64 1, .int .i64 ((gapOf m now) - 1)]) (wg rfl rfl rfl rfl) rfl rfl (fun _ => (e_call (vs := [.int .i64 x47.work, .int .i64 1, .int .i64 ((gapOf m now) - 1)]) rfl en107 ⟨rfl, rfl, rfl, trivial⟩)) (fun _ Sx85 => (In_f hp73 _).mono fun _ _ h => ⟨h.1, h.2 ▸ Sx85⟩) ?_
             refine uv (v := .bool false) (fun _ _ => ypT) ?_
             refine uv (v := .bool false) (fun _ _ => ym) ?_
             iterate 12 refine usk ?_
             refine uv (v := .bool false) (fun _ _ => ypF) ?_
             refine wU_nil fun w89 S90 => ?_; clear S53
             refine pk [1, 2, 6, 7, 11, 9, 12, 13, 14, 15, 16, 17, 102] ?_
             refine wQ_then (wC_cond_f rfl (wC_skip (wQ_blk_n (wQ_then (wC_region (vm ?_))))))
             refine vv (v := .int .i64 (((i : Nat) : Int) - 1)) (y_binop rfl rfl rfl (r_sub (by omega) (by omega))) ?_
             refine va ?_
             refine qk [1, 2, 6, 7, 11, 9, 12, 13, 14, 15, 16, 17] ?_
             have S91 : St w.heap.size w w89 [_, _, _, _] := (St.del 0 S90); clear S90
             refine wQ_round (i, none) ?_ ⟨rfl, rfl, rfl, rfl, rfl, rfl, rfl, rfl, rfl, rfl, rfl, rfl, trivial⟩ (by first | omega | (dsimp only; omega))
             exact ⟨(by dsimp only; omega), (by dsimp only; exact BestP.skip hi44 (by rw [hwx]; first | (simp [*]; done) | (simp [*]; omega))), S91⟩
           ·refine ug (v := .bool false) (fun _ _ => yno) ?_
            refine uv (v := .bool false) (fun _ _ => ypT) ?_
            refine uv (v := .bool false) (fun _ _ => ym) ?_
            iterate 5 refine usk ?_
            refine uv (v := .bool false) (fun _ _ => ypF) ?_
            refine uv (v := .bool false) (fun _ _ => ym) ?_
            iterate 12 refine usk ?_
            refine uv (v := .bool false) (fun _ _ => ypF) ?_
            refine wU_nil fun w98 S99 => ?_; clear S53
            refine pk [1, 2, 6, 7, 11, 9, 12, 13, 14, 15, 16, 17, 102] ?_
            refine wQ_then (wC_cond_f rfl (wC_skip (wQ_blk_n (wQ_then (wC_region (vm ?_))))))
            refine vv (v := .int .i64 (((i : Nat) : Int) - 1)) (y_binop rfl rfl rfl (r_sub (by omega) (by omega))) ?_
            refine va ?_
            refine qk [1, 2, 6, 7, 11, 9, 12, 13, 14, 15, 16, 17] ?_
            have S100 : St w.heap.size w w98 [_, _, _, _] := (St.del 0 S99); clear S99
            refine wQ_round (i, none) ?_ ⟨rfl, rfl, rfl, rfl, rfl, rfl, rfl, rfl, rfl, rfl, rfl, rfl, trivial⟩ (by first | omega | (dsimp only; omega))
            exact ⟨(by dsimp only; omega), (by dsimp only; exact BestP.skip hi44 (by rw [hwx]; first | (simp [*]; done) | (simp [*]; omega))), S100⟩
          ·refine uv (v := .bool false) (fun _ _ => yeqlF h57) ?_
           refine uv (v := .bool false) (fun _ _ => ym) ?_
           iterate 6 refine usk ?_
           refine uv (v := .bool false) (fun _ _ => ypF) ?_
           refine uv (v := .bool false) (fun _ _ => ym) ?_
           iterate 5 refine usk ?_
           refine uv (v := .bool false) (fun _ _ => ypF) ?_
           refine uv (v := .bool false) (fun _ _ => ym) ?_
           iterate 12 refine usk ?_
           refine uv (v := .bool false) (fun _ _ => ypF) ?_
           refine wU_nil fun w108 S109 => ?_; clear S53
           refine pk [1, 2, 6, 7, 11, 9, 12, 13, 14, 15, 16, 17, 102] ?_
           refine wQ_then (wC_cond_f rfl (wC_skip (wQ_blk_n (wQ_then (wC_region (vm ?_))))))
           refine vv (v := .int .i64 (((i : Nat) : Int) - 1)) (y_binop rfl rfl rfl (r_sub (by omega) (by omega))) ?_
           refine va ?_
           refine qk [1, 2, 6, 7, 11, 9, 12, 13, 14, 15, 16, 17] ?_
           have S110 : St w.heap.size w w108 [_, _, _, _] := (St.del 0 S109); clear S109
           refine wQ_round (i, none) ?_ ⟨rfl, rfl, rfl, rfl, rfl, rfl, rfl, rfl, rfl, rfl, rfl, rfl, trivial⟩ (by first | omega | (dsimp only; omega))
           exact ⟨(by dsimp only; omega), (by dsimp only; exact BestP.skip hi44 (by rw [hwx]; first | (simp [*]; done) | (simp [*]; omega))), S110⟩
         ·have hbl2 : b < l.length := hi44.2.1
          refine wC_sub (l' := [(1, .int .i64 ((m : Nat) : Int)), (2, .int .i64 ((mv : Nat) : Int)), (6, .slice none 0 0), (7, .int .i64 0), (11, .slice (some ⟨b24, 0, none⟩) 4 4), (9, .slice A4 l.length c4), (12, .slice A3 it c3), (13, .int .i64 ((frOf m now : Nat) : Int)), (14, .int .i64 ((toOf m now : Nat) : Int)), (15, .int .i64 (gapOf m now)), (16, .int .i64 ((b : Nat) : Int)), (17, .int .i64 (((i + 1 : Nat) : Int) - 1)), (63, .bool true)]) ⟨rfl, rfl, rfl, rfl, rfl, rfl, rfl, rfl, rfl, rfl, rfl, rfl, rfl, trivial⟩ ?_
          rw [hqe]
          refine wC_region (vm ?_)
          refine vm ?_
          obtain ⟨g111, rfl⟩ := own_some (S42.own 1 rfl) (by omega)
          obtain ⟨x112, hx113⟩ : ∃ x, (now)[i]? = some x := ⟨_, List.getElem?_eq_getElem (by have := (St.ord 1 S42 rfl).1; rw [fm_len (sz := 3) (fun _ => rfl)] at this; omega)⟩
          refine vv (v := .pointer (some ⟨g111, 0 + i * 3, none⟩)) (y_indexAddr rfl rfl rfl (r_indexAddr i Try.underlying42 inf162 (by omega) (by omega))) ?_
          refine vv (y_load rfl rfl (r_load_agg (cs := Ld.cells x112) Try.underlying162 rfl inf162 rfl (Rd.rg2 (St.ord 1 S42 rfl) (fun _ _ h => fm_get (enc := Ld.cells) (sz := 3) (fun _ => rfl) hx113 h)))) ?_
          refine na (row := #[.int .i64 0, .int .i64 0, .int .i64 0]) S42 Try.zeroValue162 ?_; intro b114 w115 S116; clear S42
          refine sa 0 S116 inf162 ?_; intro w117 S118; clear S116
          refine qk [1, 2, 6, 7, 11, 9, 12, 13, 14, 15, 16, 17, 18] ?_
          refine wQ_then ?_
          have hwx := wants_at (gone := gone) (fr := frOf m now) (gap := gapOf m now) hx113
          rw [← hbo i x112 hx113] at hwx
          have hxe := HNow.each x112 (List.mem_of_getElem? hx113)
          refine wC_seq (wC_quiet S118 mixed (by kernel_rfl) ?_)
          refine uv (v := .pointer (some ⟨b114, 1, none⟩)) (fun _ _ => yfa _ fa162_1) ?_
          refine uv (v := .int .i64 x112.node) (fun _ Sx120 => ylc 0 Sx120 Try.underlying3) ?_
          refine uv (v := .int .i64 ((frOf m now : Nat) : Int)) (fun _ _ => ym) ?_
          by_cases h122 : x112.node = ((frOf m now : Nat) : Int)
          ·refine uv (v := .bool true) (fun _ _ => yeqlT h122) ?_
           refine uv (v := .bool true) (fun _ _ => ym) ?_
           refine ug (v := .slice (some ⟨b24, 0, none⟩) 4 4) (fun _ _ => ym) ?_
           refine ug (v := .pointer (some ⟨b114, 0, none⟩)) (fun _ _ => yfa _ fa162_0) ?_
           refine ug (v := .int .i64 x112.queue) (fun _ Sx127 => ylc 0 Sx127 Try.underlying3) ?_
           refine ug (v := .pointer (some ⟨b24, x112.queue.toNat, none⟩)) (fun _ _ => (y_indexAddr rfl rfl rfl (r_index1 x112.queue.toNat Try.underlying156 inf4 (by omega) (by omega)))) ?_
           refine ug (v := .bool (mo x112.queue.toNat)) (fun _ Sx129 => (y_load rfl rfl (r_load Try.underlying4 rfl (St.cl 3 Sx129 rfl (boRow_get mo (by omega)))))) ?_
           cases hb130 : (mo x112.queue.toNat)
           ·refine ug (v := .bool true) (fun _ _ => yno) ?_
            refine uv (v := .bool true) (fun _ _ => ypT) ?_
            refine uv (v := .bool true) (fun _ _ => ym) ?_
            refine ug (v := .pointer (some ⟨b114, 2, none⟩)) (fun _ _ => yfa _ fa162_2) ?_
            refine ug (v := .int .i64 x112.work) (fun _ Sx135 => ylc 0 Sx135 Try.underlying3) ?_
            refine ug (v := .int .i64 (gapOf m now)) (fun _ _ => ym) ?_
            refine ug (v := .int .i64 ((gapOf m now) - 1)) (fun _ _ => (y_binop rfl rfl rfl (r_sub (by omega) (by omega)))) ?_
            by_cases hp138 : 1 ≤ x112.work ∧ x112.work ≤ (gapOf m now) - 1
            ·refine wU_call (v := .bool true) (vs := [.int .i64 x112.work, .int .i64 1, .int .i64 ((gapOf m now) - 1)]) (wg rfl rfl rfl rfl) rfl rfl (fun _ => (e_call (vs := [.int .i64 x112.work, .int .i64 1, .int .i64 ((gapOf m now) - 1)]) rfl en107 ⟨rfl, rfl, rfl, trivial⟩)) (fun _ Sx139 => (In_t hp138 _).mono fun _ _ h => ⟨h.1, h.2 ▸ Sx139⟩) ?_
             refine uv (v := .bool true) (fun _ _ => ypT) ?_
             refine uv (v := .bool true) (fun _ _ => ym) ?_
             refine ug (v := .int .i64 ((b : Nat) : Int)) (fun _ _ => ym) ?_
             refine ug (v := .bool false) (fun _ _ => (dlssF (h := by omega))) ?_
             refine ug (v := .bool false) (fun _ _ => ym) ?_
             refine ug (v := .pointer (some ⟨b114, 2, none⟩)) (fun _ _ => yfa _ fa162_2) ?_
             refine ug (v := .int .i64 x112.work) (fun _ Sx146 => ylc 0 Sx146 Try.underlying3) ?_
             refine ug (v := .slice (some ⟨g111, 0, none⟩) l.length c4) (fun _ _ => ym) ?_
             refine ug (v := .int .i64 ((b : Nat) : Int)) (fun _ _ => ym) ?_
             obtain ⟨x149, hx150⟩ : ∃ x, (now)[b]? = some x := ⟨_, List.getElem?_eq_getElem (by have := (St.ord 2 S118 rfl).1; rw [fm_len (sz := 3) (fun _ => rfl)] at this; omega)⟩
             refine ug (v := .pointer (some ⟨g111, 0 + b * 3, none⟩)) (fun _ _ => (y_indexAddr rfl rfl rfl (r_indexAddr b Try.underlying42 inf162 (by omega) (by omega)))) ?_
             refine ug (v := .pointer (some ⟨g111, 0 + b * 3 + 2, none⟩)) (fun _ _ => yfa _ fa162_2) ?_
             refine ug (v := .int .i64 x149.work) (fun _ Sx153 => (y_load rfl rfl (r_load Try.underlying3 rfl (Rd.cl2 (i := 2) (St.ord 2 Sx153 rfl) (fm_get (enc := Ld.cells) (sz := 3) (fun _ => rfl) hx150 rfl))))) ?_
             by_cases h154 : x149.work ≤ x112.work
             ·refine ug (v := .bool true) (fun _ _ => ygeqT h154) ?_
              refine ug (v := .bool true) (fun _ _ => ypF) ?_
              refine uv (v := .bool true) (fun _ _ => ypT) ?_
              refine wU_nil fun w158 S159 => ?_; clear S118
              refine pk [1, 2, 6, 7, 11, 9, 12, 13, 14, 15, 16, 17, 102] ?_
              refine wQ_then (wC_cond_t rfl (wC_region (vm ?_)))
              refine va ?_
              refine qk [1, 2, 6, 7, 11, 9, 12, 13, 14, 15, 16, 17] ?_
              refine wQ_blk_n (wQ_then (wC_region (vm ?_)))
              refine vv (v := .int .i64 (((i : Nat) : Int) - 1)) (y_binop rfl rfl rfl (r_sub (by omega) (by omega))) ?_
              refine va ?_
              refine qk [1, 2, 6, 7, 11, 9, 12, 13, 14, 15, 16, 17] ?_
              have S160 : St w.heap.size w w158 [_, _, _, _] := (St.del 0 S159); clear S159
              refine wQ_round (i, some i) ?_ ⟨rfl, rfl, rfl, rfl, rfl, rfl, rfl, rfl, rfl, rfl, rfl, rfl, trivial⟩ (by first | omega | (dsimp only; omega))
              exact ⟨(by dsimp only; omega), (by dsimp only; exact BestP.over hi44 (by rw [hwx]; simp [*]; omega) (by rw [workOf_at hx150, workOf_at hx113]; omega)), S160⟩
             ·refine ug (v := .bool false) (fun _ _ => ygeqF h154) ?_
              refine ug (v := .bool false) (fun _ _ => ypF) ?_
              refine uv (v := .bool false) (fun _ _ => ypT) ?_
              refine wU_nil fun w164 S165 => ?_; clear S118
              refine pk [1, 2, 6, 7, 11, 9, 12, 13, 14, 15, 16, 17, 102] ?_
              refine wQ_then (wC_cond_f rfl (wC_skip (wQ_blk_n (wQ_then (wC_region (vm ?_))))))
              refine vv (v := .int .i64 (((i : Nat) : Int) - 1)) (y_binop rfl rfl rfl (r_sub (by omega) (by omega))) ?_
              refine va ?_
              refine qk [1, 2, 6, 7, 11, 9, 12, 13, 14, 15, 16, 17] ?_
              have S166 : St w.heap.size w w164 [_, _, _, _] := (St.del 0 S165); clear S165
              refine wQ_round (i, some b) ?_ ⟨rfl, rfl, rfl, rfl, rfl, rfl, rfl, rfl, rfl, rfl, rfl, rfl, trivial⟩ (by first | omega | (dsimp only; omega))
              exact ⟨(by dsimp only; omega), (by dsimp only; exact BestP.stay hi44 (by rw [workOf_at hx150, workOf_at hx113]; omega)), S166⟩
            ·refine wU_call (v := .bool false) (vs := [.int .i64 x112.work, .int .i64 1, .int .i64 ((gapOf m now) - 1)]) (wg rfl rfl rfl rfl) rfl rfl (fun _ => (e_call (vs := [.int .i64 x112.work, .int .i64 1, .int .i64 ((gapOf m now) - 1)]) rfl en107 ⟨rfl, rfl, rfl, trivial⟩)) (fun _ Sx167 => (In_f hp138 _).mono fun _ _ h => ⟨h.1, h.2 ▸ Sx167⟩) ?_
             refine uv (v := .bool false) (fun _ _ => ypT) ?_
             refine uv (v := .bool false) (fun _ _ => ym) ?_
             iterate 12 refine usk ?_
             refine uv (v := .bool false) (fun _ _ => ypF) ?_
             refine wU_nil fun w171 S172 => ?_; clear S118
             refine pk [1, 2, 6, 7, 11, 9, 12, 13, 14, 15, 16, 17, 102] ?_
             refine wQ_then (wC_cond_f rfl (wC_skip (wQ_blk_n (wQ_then (wC_region (vm ?_))))))
             refine vv (v := .int .i64 (((i : Nat) : Int) - 1)) (y_binop rfl rfl rfl (r_sub (by omega) (by omega))) ?_
             refine va ?_
             refine qk [1, 2, 6, 7, 11, 9, 12, 13, 14, 15, 16, 17] ?_
             have S173 : St w.heap.size w w171 [_, _, _, _] := (St.del 0 S172); clear S172
             refine wQ_round (i, some b) ?_ ⟨rfl, rfl, rfl, rfl, rfl, rfl, rfl, rfl, rfl, rfl, rfl, rfl, trivial⟩ (by first | omega | (dsimp only; omega))
             exact ⟨(by dsimp only; omega), (by dsimp only; exact BestP.skip hi44 (by rw [hwx]; first | (simp [*]; done) | (simp [*]; omega))), S173⟩
           ·refine ug (v := .bool false) (fun _ _ => yno) ?_
            refine uv (v := .bool false) (fun _ _ => ypT) ?_
            refine uv (v := .bool false) (fun _ _ => ym) ?_
            iterate 5 refine usk ?_
            refine uv (v := .bool false) (fun _ _ => ypF) ?_
            refine uv (v := .bool false) (fun _ _ => ym) ?_
            iterate 12 refine usk ?_
            refine uv (v := .bool false) (fun _ _ => ypF) ?_
            refine wU_nil fun w180 S181 => ?_; clear S118
            refine pk [1, 2, 6, 7, 11, 9, 12, 13, 14, 15, 16, 17, 102] ?_
            refine wQ_then (wC_cond_f rfl (wC_skip (wQ_blk_n (wQ_then (wC_region (vm ?_))))))
            refine vv (v := .int .i64 (((i : Nat) : Int) - 1)) (y_binop rfl rfl rfl (r_sub (by omega) (by omega))) ?_
            refine va ?_
            refine qk [1, 2, 6, 7, 11, 9, 12, 13, 14, 15, 16, 17] ?_
            have S182 : St w.heap.size w w180 [_, _, _, _] := (St.del 0 S181); clear S181
            refine wQ_round (i, some b) ?_ ⟨rfl, rfl, rfl, rfl, rfl, rfl, rfl, rfl, rfl, rfl, rfl, rfl, trivial⟩ (by first | omega | (dsimp only; omega))
            exact ⟨(by dsimp only; omega), (by dsimp only; exact BestP.skip hi44 (by rw [hwx]; first | (simp [*]; done) | (simp [*]; omega))), S182⟩
          ·refine uv (v := .bool false) (fun _ _ => yeqlF h122) ?_
           refine uv (v := .bool false) (fun _ _ => ym) ?_
           iterate 6 refine usk ?_
           refine uv (v := .bool false) (fun _ _ => ypF) ?_
           refine uv (v := .bool false) (fun _ _ => ym) ?_
           iterate 5 refine usk ?_
           refine uv (v := .bool false) (fun _ _ => ypF) ?_
           refine uv (v := .bool false) (fun _ _ => ym) ?_
           iterate 12 refine usk ?_
           refine uv (v := .bool false) (fun _ _ => ypF) ?_
           refine wU_nil fun w190 S191 => ?_; clear S118
           refine pk [1, 2, 6, 7, 11, 9, 12, 13, 14, 15, 16, 17, 102] ?_
           refine wQ_then (wC_cond_f rfl (wC_skip (wQ_blk_n (wQ_then (wC_region (vm ?_))))))
           refine vv (v := .int .i64 (((i : Nat) : Int) - 1)) (y_binop rfl rfl rfl (r_sub (by omega) (by omega))) ?_
           refine va ?_
           refine qk [1, 2, 6, 7, 11, 9, 12, 13, 14, 15, 16, 17] ?_
           have S192 : St w.heap.size w w190 [_, _, _, _] := (St.del 0 S191); clear S191
           refine wQ_round (i, some b) ?_ ⟨rfl, rfl, rfl, rfl, rfl, rfl, rfl, rfl, rfl, rfl, rfl, rfl, trivial⟩ (by first | omega | (dsimp only; omega))
           exact ⟨(by dsimp only; omega), (by dsimp only; exact BestP.skip hi44 (by rw [hwx]; first | (simp [*]; done) | (simp [*]; omega))), S192⟩
        ·refine vv (ygeqF h45) ?_
         refine qk [1, 2, 6, 7, 11, 9, 12, 13, 14, 15, 16, 17, 63] ?_
         refine wQ_then (wC_cond_f rfl (wC_exit (wQ_then_exit (wQ_then_exit (wQ_blk_same (wQ_then (wC_seq (wC_seq ?_))))))))
         obtain rfl : q = 0 := by omega
         rcases bs with _ | b
         ·have hbb : bestOf m now gone = none := by unfold bestOf; rw [hi34]; exact hi44.done.symm
          refine wC_sub (l' := [(1, .int .i64 ((m : Nat) : Int)), (2, .int .i64 ((mv : Nat) : Int)), (6, .slice none 0 0), (7, .int .i64 0), (11, .slice (some ⟨b24, 0, none⟩) 4 4), (9, .slice A4 l.length c4), (12, .slice A3 it c3), (13, .int .i64 ((frOf m now : Nat) : Int)), (14, .int .i64 ((toOf m now : Nat) : Int)), (15, .int .i64 (gapOf m now)), (16, .int .i64 (-1)), (63, .bool false)]) ⟨rfl, rfl, rfl, rfl, rfl, rfl, rfl, rfl, rfl, rfl, rfl, rfl, trivial⟩ (wC_region (vm ?_))
          refine vv dlssT ?_
          refine qk [1, 2, 6, 7, 11, 9, 12, 13, 14, 16, 105] ?_
          refine x_tysr (vm ?_)
          iterate 2 refine va ?_
          refine qk [6, 7] ?_
          refine wQ_then (wC_ret (wQ_then_ret (wQ_blk_ret (wQ_then_ret (wQ_blk_ret (wQ_then_ret (wQ_post (rs := [.tmp 6, .tmp 7]) (vs := [.slice A3 it c3, .int .i64 0]) rfl ⟨rfl, rfl, trivial⟩ ?_)))))))
          have S193 : St w.heap.size w w41 [_] := (St.del 1 (St.del 2 (St.del 3 S42))); clear S42
          have S194 := S193.sealAll 0 rfl; clear S193
          change St _ _ _ [.rdo 3 A3 it ((outp).flatMap Pln.cells)] at S194
          have hal : (balM l ((m : Nat) : Int) ((mv : Nat) : Int)) = (outp, 0) := bal_ok h0 (by omega) (by rw [hi32]; rw [show mv - it = mv - (it + 1) + 1 from by omega, bal_none hbb, List.append_nil])
          rw [hal]
          have hol : outp.length = it := hi35
          refine ⟨A3, c3, ?_, ?_⟩
          · dsimp only; rw [hol]; rfl
          · dsimp only; rw [hol]; exact S194
         ·have hbb : bestOf m now gone = some b := by unfold bestOf; rw [hi34]; exact hi44.done.symm
          have hbl := best_lt hbb
          refine wC_sub (l' := [(1, .int .i64 ((m : Nat) : Int)), (2, .int .i64 ((mv : Nat) : Int)), (6, .slice none 0 0), (7, .int .i64 0), (11, .slice (some ⟨b24, 0, none⟩) 4 4), (9, .slice A4 l.length c4), (12, .slice A3 it c3), (13, .int .i64 ((frOf m now : Nat) : Int)), (14, .int .i64 ((toOf m now : Nat) : Int)), (15, .int .i64 (gapOf m now)), (16, .int .i64 ((b : Nat) : Int)), (63, .bool false)]) ⟨rfl, rfl, rfl, rfl, rfl, rfl, rfl, rfl, rfl, rfl, rfl, rfl, trivial⟩ (wC_region (vm ?_))
          refine vv (dlssF (h := by omega)) ?_
          refine qk [1, 2, 6, 7, 11, 9, 12, 13, 14, 16, 105] ?_
          refine x_tnktsr (vm ?_)
          iterate 2 refine vm ?_
          obtain ⟨g195, rfl⟩ := own_some (S42.own 1 rfl) (by omega)
          obtain ⟨x196, hx197⟩ : ∃ x, (now)[b]? = some x := ⟨_, List.getElem?_eq_getElem (by have := (St.ord 1 S42 rfl).1; rw [fm_len (sz := 3) (fun _ => rfl)] at this; omega)⟩
          refine vv (v := .pointer (some ⟨g195, 0 + b * 3, none⟩)) (y_indexAddr rfl rfl rfl (r_indexAddr b Try.underlying42 inf162 (by omega) (by omega))) ?_
          refine vv (yfa (0 + b * 3) fa162_0) ?_
          refine vv (y_load rfl rfl (r_load Try.underlying3 rfl (Rd.cl2 (i := 0) (St.ord 1 S42 rfl) (fm_get (enc := Ld.cells) (sz := 3) (fun _ => rfl) hx197 rfl)))) ?_
          have hye := HNow.each x196 (List.mem_of_getElem? hx197)
          refine vv (v := .pointer (some ⟨b24, x196.queue.toNat, none⟩)) (y_indexAddr rfl rfl rfl (r_index1 x196.queue.toNat Try.underlying156 inf4 (by omega) (by omega))) ?_
          refine wL_stAt (row' := boRow (fun j => decide (j = x196.queue.toNat) || mo j) 4) 2 S42 (wn rfl) rfl rfl rfl rfl rfl rfl inf4 rfl (by rw [boRow_size]; omega) (boRow_set _) ?_; intro w198 S199; clear S42
          change St _ _ _ [_, _, .blk b24 (boRow (fun j => decide (j = x196.queue.toNat) || mo j) 4) 4, _] at S199
          refine qk [1, 2, 6, 7, 11, 9, 12, 13, 14, 16] ?_
          refine x_tsr (vm ?_)
          iterate 2 refine vm ?_
          refine vv (v := .pointer (some ⟨g195, 0 + b * 3, none⟩)) (y_indexAddr rfl rfl rfl (r_indexAddr b Try.underlying42 inf162 (by omega) (by omega))) ?_
          refine vv (yfa (0 + b * 3) fa162_0) ?_
          refine vv (y_load rfl rfl (r_load Try.underlying3 rfl (Rd.cl2 (i := 0) (St.ord 1 S199 rfl) (fm_get (enc := Ld.cells) (sz := 3) (fun _ => rfl) hx197 rfl)))) ?_
          iterate 2 refine vm ?_
          refine vv (v := .agg #[.int .i64 x196.queue, .int .i64 ((frOf m now : Nat) : Int), .int .i64 ((toOf m now : Nat) : Int)]) (y_build (vs := [(0, .int .i64 x196.queue), (1, .int .i64 ((frOf m now : Nat) : Int)), (2, .int .i64 ((toOf m now : Nat) : Int))]) rfl ⟨rfl, rfl, rfl, rfl, rfl, rfl, trivial⟩ (by kernel_rfl)) ?_
          refine wL_new (V := fun b => .slice (some ⟨b, 0, none⟩) 1 1) (row := #[.int .i64 x196.queue, .int .i64 ((frOf m now : Nat) : Int), .int .i64 ((toOf m now : Nat) : Int)]) (t := 164) S199 (wn rfl) rfl rfl (d_buildSlice (vs := [(0, .agg #[.int .i64 x196.queue, .int .i64 ((frOf m now : Nat) : Int), .int .i64 ((toOf m now : Nat) : Int)])]) rfl ⟨rfl, rfl, trivial⟩ (by kernel_rfl)) ?_; intro b200 w201 S202; clear S199
          refine wL_append (news := [.int .i64 x196.queue, .int .i64 ((frOf m now : Nat) : Int), .int .i64 ((toOf m now : Nat) : Int)]) (xs' := (outp ++ [(⟨x196.queue, ((frOf m now : Nat) : Int), ((toOf m now : Nat) : Int)⟩ : Pln)]).flatMap Pln.cells) 1 S202 (wn rfl) rfl rfl rfl rfl rfl rfl (St.bld (xs := [.int .i64 x196.queue, .int .i64 ((frOf m now : Nat) : Int), .int .i64 ((toOf m now : Nat) : Int)]) 0 S202 rfl rfl rfl) Try.underlying44 infz164 rfl (by decide) (oneAll rfl) (by simp only [maxLen]; omega) (by omega) (fm_snoc (enc := Pln.cells) rfl rfl) ?_; intro A203 c204 w205 hc207 hm208 S206; clear S202
          change St _ _ _ [_, .own 164 3 (.slice A203 (it + 1) c204) (it + 1) ((outp ++ [(⟨x196.queue, ((frOf m now : Nat) : Int), ((toOf m now : Nat) : Int)⟩ : Pln)]).flatMap Pln.cells), _, _, _] at S206
          refine va ?_
          refine qk [1, 2, 6, 7, 11, 9, 12, 14, 16] ?_
          refine x_tr (vm ?_)
          iterate 2 refine vm ?_
          refine vv (v := .pointer (some ⟨g195, 0 + b * 3, none⟩)) (y_indexAddr rfl rfl rfl (r_indexAddr b Try.underlying42 inf162 (by omega) (by omega))) ?_
          refine vv (yfa (0 + b * 3 + 1) fa162_1) ?_
          refine wL_stOwn (xs' := (moveLd now b (toOf m now)).flatMap Ld.cells) 2 S206 (wn rfl) rfl rfl rfl rfl rfl rfl inf3 rfl (oneAll rfl) (by omega) (by rw [Nat.zero_add]; exact moveLd_cells) ?_; intro w209 S210; clear S206
          change St _ _ _ [_, _, .own 162 3 (.slice (some ⟨g195, 0, none⟩) l.length c4) l.length ((moveLd now b (toOf m now)).flatMap Ld.cells), _, _] at S210
          have hxm : (moveLd now b (toOf m now))[b]? = some ⟨x196.queue, ((toOf m now : Nat) : Int), x196.work⟩ := by rw [moveLd_get, hx197]; simp
          refine qk [1, 2, 6, 7, 11, 9, 12] ?_
          refine wQ_blk_n ?_
          have S211 : St w.heap.size w w209 [_, _, _, _] := (St.del 0 S210); clear S210
          refine wQ_round (it + 1, moveLd now b (toOf m now), (fun j => decide (j = b) || gone j), (fun j => decide (j = x196.queue.toNat) || mo j), outp ++ [(⟨x196.queue, ((frOf m now : Nat) : Int), ((toOf m now : Nat) : Int)⟩ : Pln)], (some ⟨g195, 0, none⟩), c4, A203, c204) ?_ ⟨rfl, rfl, rfl, rfl, rfl, rfl, rfl, trivial⟩ (by first | omega | (dsimp only; omega))
          exact ⟨(by dsimp only; omega), (by dsimp only; rw [hi32, show mv - it = mv - (it + 1) + 1 from by omega, bal_some hbb, queueOf_at hx197, List.append_assoc]; rfl), (HNow.move (toOf_lt (by omega))), (by dsimp only; rw [moveLd_len]; exact hi34), (by dsimp only; rw [List.length_append, hi35]; rfl), (Both.move hbo HNow hx197), (by dsimp only; exact S211)⟩
      ·refine vv (ylssF h37) ?_
       refine qk [1, 2, 6, 7, 11, 9, 12, 45] ?_
       refine wQ_then (wC_cond_f rfl (wC_exit (wQ_then_exit (wQ_then_exit (wQ_blk_same (wQ_then (wC_seq (wC_region (vm ?_)))))))))
       iterate 2 refine va ?_
       refine qk [6, 7] ?_
       refine x_te (wQ_post (rs := [.tmp 6, .tmp 7]) (vs := [.slice A3 it c3, .int .i64 0]) rfl ⟨rfl, rfl, trivial⟩ ?_)
       have S212 : St w.heap.size w w29 [_] := (St.del 1 (St.del 2 (St.del 3 S30))); clear S30
       have S213 := S212.sealAll 0 rfl; clear S212
       change St _ _ _ [.rdo 3 A3 it ((outp).flatMap Pln.cells)] at S213
       have hal : (balM l ((m : Nat) : Int) ((mv : Nat) : Int)) = (outp, 0) := bal_ok h0 (by omega) (by rw [hi32]; rw [show mv - it = 0 from by omega]; exact List.append_nil _)
       rw [hal]
       have hol : outp.length = it := hi35
       refine ⟨A3, c3, ?_, ?_⟩
       · dsimp only; rw [hol]; rfl
       · dsimp only; rw [hol]; exact S213
  ·refine cal en107 (In_f hmv _) ?_
   rintro _ w214 ⟨rfl, rfl⟩
   refine ⟨_, rfl, ?_⟩
   refine vv (v := .bool true) yno ?_
   refine qk [0, 1, 2, 6, 7, 27] ?_
   refine x_tysr (va ?_)
   refine va ?_
   refine qk [6, 7] ?_
   refine x_teh (wQ_post (rs := [.tmp 6, .tmp 7]) (vs := [.slice none 0 0, .int .i64 2]) rfl ⟨rfl, rfl, trivial⟩ ?_)
   have S215 : St w.heap.size w w1 [] := (St.del 0 S2); clear S2
   rw [bal_range h0 (by omega)]
   exact ⟨none, 0, rfl, rdo_nil S215⟩
 ·refine vv (yneqT h0) ?_
  refine qk [0, 1, 2, 6, 7, 8, 23] ?_
  refine x_tysr (vm ?_)
  iterate 2 refine va ?_
  refine qk [6, 7] ?_
  refine x_teh (wQ_post (rs := [.tmp 6, .tmp 7]) (vs := [.slice none 0 0, .int .i64 (ldsFault l nodes)]) rfl ⟨rfl, rfl, trivial⟩ ?_)
  have S216 : St w.heap.size w w1 [] := (St.del 0 S2); clear S2
  rw [bal_bad h0]
  exact ⟨none, 0, rfl, rdo_nil S216⟩
end Go.Proofs.Ytkjlafpafmihaaa

namespace Go.Proofs.Ytkjlafpafmihaaa
open Go.ChangeShapes Go.WideShapes Go.RowKit

set_option maxRecDepth 100000 in
theorem pln_neq (x : Pln) (w : World) : (binOp .neq 164 (.agg (x.cells).toArray) (.agg (x.cells).toArray)).run Try.prog w = .ok (.bool false) w :=
  run_neq_self w (l := (.at_ (.int .i64) :: .at_ (.int .i64) :: .at_ (.int .i64) :: [])) (by kernel_rfl) (by kernel_rfl) (fun xs => by unfold mkV; rw [Try.underlying164]) ⟨⟨_, rfl⟩, ⟨_, rfl⟩, ⟨_, rfl⟩, trivial⟩
set_option maxRecDepth 100000 in
theorem ld_neq (x : Ld) (w : World) : (binOp .neq 162 (.agg (x.cells).toArray) (.agg (x.cells).toArray)).run Try.prog w = .ok (.bool false) w :=
  run_neq_self w (l := (.at_ (.int .i64) :: .at_ (.int .i64) :: .at_ (.int .i64) :: [])) (by kernel_rfl) (by kernel_rfl) (fun xs => by unfold mkV; rw [Try.underlying162]) ⟨⟨_, rfl⟩, ⟨_, rfl⟩, ⟨_, rfl⟩, trivial⟩

set_option maxRecDepth 100000 in
set_option maxHeartbeats 2000000 in
theorem samePlans_calls (A A' : Option Addr) (c c' : Nat) (l : List Pln) (w : World) (h : Rd w w.heap.size 3 A l.length ((l).flatMap Pln.cells)) (h' : Rd w w.heap.size 3 A' l.length ((l).flatMap Pln.cells)) (hl : l.length ≤ 1152921504606846976) :
    Calls Try.prog 38 #[.slice A l.length c, .slice A' l.length c'] w (BoolB w true) := by
 have S := ((St.start w).addRd h').addRd h
 refine fnw 26 Try.func38 ?_
 refine cw [0, 1] ?_
 refine x_sr (va ?_)
 refine wL_nil (wQ_then (wC_seq (wC_seq (wC_region (vm ?_)))))
 refine vv (v := .int .i64 ((l.length : Nat) : Int)) (y_builtin (vs := [.slice A l.length c]) rfl ⟨rfl, trivial⟩ fun _ => r_len rfl Try.underlying44) ?_
 refine vm ?_
 refine vv (v := .int .i64 ((l.length : Nat) : Int)) (y_builtin (vs := [.slice A' l.length c']) rfl ⟨rfl, trivial⟩ fun _ => r_len rfl Try.underlying44) ?_
 refine vv (yneqF rfl) ?_
 refine qk [0, 1, 4, 10] ?_
 refine x_tnktssr (va ?_)
 refine qk [0, 1, 4, 5] ?_
 refine wQ_then (wC_block (wC_loop (X := Nat) (fun xv => [(0, .slice A l.length c), (1, .slice A' l.length c'), (4, .bool false), (5, .int .i64 ((xv : Nat) : Int))]) (fun xv wr => (xv ≤ l.length) ∧ St w.heap.size w wr [.rd 3 A l.length ((l).flatMap Pln.cells), .rd 3 A' l.length ((l).flatMap Pln.cells)]) (fun xv => l.length - xv) (0) ?_ ?_ ?_))
 ·exact ⟨Nat.zero_le _, S⟩
 ·exact ⟨rfl, rfl, rfl, rfl, trivial⟩
 ·rintro k w1 ⟨hi3, S2⟩
  try dsimp only at hi3 S2; clear S
  refine wC_sub (l' := [(0, .slice A l.length c), (1, .slice A' l.length c'), (4, .bool false), (5, .int .i64 ((k : Nat) : Int))]) ⟨rfl, rfl, rfl, rfl, trivial⟩ (wC_seq (wC_seq (wC_region (vm ?_))))
  refine vm ?_
  refine vv (v := .int .i64 ((l.length : Nat) : Int)) (y_builtin (vs := [.slice A l.length c]) rfl ⟨rfl, trivial⟩ fun _ => r_len rfl Try.underlying44) ?_
  by_cases h4 : ((k : Nat) : Int) < ((l.length : Nat) : Int)
  ·refine vv (ylssT h4) ?_
   refine qk [0, 1, 4, 5, 14] ?_
   refine wQ_then (wC_cond_t rfl (wC_skip (wQ_then (wC_seq (wC_block (wC_seq (wC_quiet S2 mixed (by kernel_rfl) ?_)))))))
   refine uv (v := .slice A l.length c) (fun _ _ => ym) ?_
   refine uv (v := .int .i64 ((k : Nat) : Int)) (fun _ _ => ym) ?_
   obtain ⟨b7, o8, rfl⟩ := Rd.addr (St.rd 0 S2 rfl) (by omega)
   obtain ⟨x9, hx10⟩ : ∃ x, (l)[k]? = some x := ⟨_, List.getElem?_eq_getElem (by have := (St.rd 0 S2 rfl).1; rw [fm_len (sz := 3) (fun _ => rfl)] at this; omega)⟩
   refine uv (v := .pointer (some ⟨b7, o8 + k * 3, none⟩)) (fun _ _ => (y_indexAddr rfl rfl rfl (r_indexAddr k Try.underlying44 inf164 (by omega) (by omega)))) ?_
   refine uv (v := .agg #[.int .i64 x9.queue, .int .i64 x9.fr, .int .i64 x9.to]) (fun _ Sx12 => (y_load rfl rfl (r_load_agg (cs := Pln.cells x9) Try.underlying164 rfl inf164 rfl (Rd.rg2 (St.rd 0 Sx12 rfl) (fun _ _ h => fm_get (enc := Pln.cells) (sz := 3) (fun _ => rfl) hx10 h))))) ?_
   refine uv (v := .slice A' l.length c') (fun _ _ => ym) ?_
   refine uv (v := .int .i64 ((k : Nat) : Int)) (fun _ _ => ym) ?_
   obtain ⟨b15, o16, rfl⟩ := Rd.addr (St.rd 1 S2 rfl) (by omega)
   refine uv (v := .pointer (some ⟨b15, o16 + k * 3, none⟩)) (fun _ _ => (y_indexAddr rfl rfl rfl (r_indexAddr k Try.underlying44 inf164 (by omega) (by omega)))) ?_
   refine uv (v := .agg #[.int .i64 x9.queue, .int .i64 x9.fr, .int .i64 x9.to]) (fun _ Sx18 => (y_load rfl rfl (r_load_agg (cs := Pln.cells x9) Try.underlying164 rfl inf164 rfl (Rd.rg2 (St.rd 1 Sx18 rfl) (fun _ _ h => fm_get (enc := Pln.cells) (sz := 3) (fun _ => rfl) hx10 h))))) ?_
   refine uv (v := .bool false) (fun _ _ => (y_binop rfl rfl rfl (r_eqg (by kernel_rfl) (pln_neq x9  _)))) ?_
   refine wU_nil fun w20 S21 => ?_; clear S2
   refine pk [0, 1, 4, 5, 25] ?_
   refine wQ_then (wC_cond_f rfl (wC_skip (wQ_blk_n (wQ_then (wC_region (vm ?_))))))
   refine vv (v := .int .i64 ((k + 1 : Nat) : Int)) (y_binop rfl rfl rfl (r_add (by omega) (by omega))) ?_
   refine va ?_
   refine qk [0, 1, 4, 5] ?_
   refine wQ_round (k + 1) ?_ ⟨rfl, rfl, rfl, rfl, trivial⟩ (by first | omega | (dsimp only; omega))
   exact ⟨(by omega), S21⟩
  ·refine vv (ylssF h4) ?_
   refine qk [0, 1, 4, 5, 14] ?_
   refine wQ_then (wC_cond_f rfl (wC_exit (wQ_then_exit (wQ_then_exit (wQ_blk_same (wQ_then (wC_seq (wC_region (va ?_)))))))))
   refine qk [4] ?_
   refine x_te (pt ?_)
   exact ⟨rfl, S2.low⟩

set_option maxRecDepth 100000 in
set_option maxHeartbeats 2000000 in
theorem sameLoads_calls (A A' : Option Addr) (c c' : Nat) (l : List Ld) (w : World) (h : Rd w w.heap.size 3 A l.length ((l).flatMap Ld.cells)) (h' : Rd w w.heap.size 3 A' l.length ((l).flatMap Ld.cells)) (hl : l.length ≤ 1152921504606846976) :
    Calls Try.prog 39 #[.slice A l.length c, .slice A' l.length c'] w (BoolB w true) := by
 have S := ((St.start w).addRd h').addRd h
 refine fnw 26 Try.func39 ?_
 refine cw [0, 1] ?_
 refine x_sr (va ?_)
 refine wL_nil (wQ_then (wC_seq (wC_seq (wC_region (vm ?_)))))
 refine vv (v := .int .i64 ((l.length : Nat) : Int)) (y_builtin (vs := [.slice A l.length c]) rfl ⟨rfl, trivial⟩ fun _ => r_len rfl Try.underlying42) ?_
 refine vm ?_
 refine vv (v := .int .i64 ((l.length : Nat) : Int)) (y_builtin (vs := [.slice A' l.length c']) rfl ⟨rfl, trivial⟩ fun _ => r_len rfl Try.underlying42) ?_
 refine vv (yneqF rfl) ?_
 refine qk [0, 1, 4, 10] ?_
 refine x_tnktssr (va ?_)
 refine qk [0, 1, 4, 5] ?_
 refine wQ_then (wC_block (wC_loop (X := Nat) (fun xv => [(0, .slice A l.length c), (1, .slice A' l.length c'), (4, .bool false), (5, .int .i64 ((xv : Nat) : Int))]) (fun xv wr => (xv ≤ l.length) ∧ St w.heap.size w wr [.rd 3 A l.length ((l).flatMap Ld.cells), .rd 3 A' l.length ((l).flatMap Ld.cells)]) (fun xv => l.length - xv) (0) ?_ ?_ ?_))
 ·exact ⟨Nat.zero_le _, S⟩
 ·exact ⟨rfl, rfl, rfl, rfl, trivial⟩
 ·rintro k w1 ⟨hi3, S2⟩
  try dsimp only at hi3 S2; clear S
  refine wC_sub (l' := [(0, .slice A l.length c), (1, .slice A' l.length c'), (4, .bool false), (5, .int .i64 ((k : Nat) : Int))]) ⟨rfl, rfl, rfl, rfl, trivial⟩ (wC_seq (wC_seq (wC_region (vm ?_))))
  refine vm ?_
  refine vv (v := .int .i64 ((l.length : Nat) : Int)) (y_builtin (vs := [.slice A l.length c]) rfl ⟨rfl, trivial⟩ fun _ => r_len rfl Try.underlying42) ?_
  by_cases h4 : ((k : Nat) : Int) < ((l.length : Nat) : Int)
  ·refine vv (ylssT h4) ?_
   refine qk [0, 1, 4, 5, 14] ?_
   refine wQ_then (wC_cond_t rfl (wC_skip (wQ_then (wC_seq (wC_block (wC_seq (wC_quiet S2 mixed (by kernel_rfl) ?_)))))))
   refine uv (v := .slice A l.length c) (fun _ _ => ym) ?_
   refine uv (v := .int .i64 ((k : Nat) : Int)) (fun _ _ => ym) ?_
   obtain ⟨b7, o8, rfl⟩ := Rd.addr (St.rd 0 S2 rfl) (by omega)
   obtain ⟨x9, hx10⟩ : ∃ x, (l)[k]? = some x := ⟨_, List.getElem?_eq_getElem (by have := (St.rd 0 S2 rfl).1; rw [fm_len (sz := 3) (fun _ => rfl)] at this; omega)⟩
   refine uv (v := .pointer (some ⟨b7, o8 + k * 3, none⟩)) (fun _ _ => (y_indexAddr rfl rfl rfl (r_indexAddr k Try.underlying42 inf162 (by omega) (by omega)))) ?_
   refine uv (v := .agg #[.int .i64 x9.queue, .int .i64 x9.node, .int .i64 x9.work]) (fun _ Sx12 => (y_load rfl rfl (r_load_agg (cs := Ld.cells x9) Try.underlying162 rfl inf162 rfl (Rd.rg2 (St.rd 0 Sx12 rfl) (fun _ _ h => fm_get (enc := Ld.cells) (sz := 3) (fun _ => rfl) hx10 h))))) ?_
   refine uv (v := .slice A' l.length c') (fun _ _ => ym) ?_
   refine uv (v := .int .i64 ((k : Nat) : Int)) (fun _ _ => ym) ?_
   obtain ⟨b15, o16, rfl⟩ := Rd.addr (St.rd 1 S2 rfl) (by omega)
   refine uv (v := .pointer (some ⟨b15, o16 + k * 3, none⟩)) (fun _ _ => (y_indexAddr rfl rfl rfl (r_indexAddr k Try.underlying42 inf162 (by omega) (by omega)))) ?_
   refine uv (v := .agg #[.int .i64 x9.queue, .int .i64 x9.node, .int .i64 x9.work]) (fun _ Sx18 => (y_load rfl rfl (r_load_agg (cs := Ld.cells x9) Try.underlying162 rfl inf162 rfl (Rd.rg2 (St.rd 1 Sx18 rfl) (fun _ _ h => fm_get (enc := Ld.cells) (sz := 3) (fun _ => rfl) hx10 h))))) ?_
   refine uv (v := .bool false) (fun _ _ => (y_binop rfl rfl rfl (r_eqg (by kernel_rfl) (ld_neq x9  _)))) ?_
   refine wU_nil fun w20 S21 => ?_; clear S2
   refine pk [0, 1, 4, 5, 25] ?_
   refine wQ_then (wC_cond_f rfl (wC_skip (wQ_blk_n (wQ_then (wC_region (vm ?_))))))
   refine vv (v := .int .i64 ((k + 1 : Nat) : Int)) (y_binop rfl rfl rfl (r_add (by omega) (by omega))) ?_
   refine va ?_
   refine qk [0, 1, 4, 5] ?_
   refine wQ_round (k + 1) ?_ ⟨rfl, rfl, rfl, rfl, trivial⟩ (by first | omega | (dsimp only; omega))
   exact ⟨(by omega), S21⟩
  ·refine vv (ylssF h4) ?_
   refine qk [0, 1, 4, 5, 14] ?_
   refine wQ_then (wC_cond_f rfl (wC_exit (wQ_then_exit (wQ_then_exit (wQ_blk_same (wQ_then (wC_seq (wC_region (va ?_)))))))))
   refine qk [4] ?_
   refine x_te (pt ?_)
   exact ⟨rfl, S2.low⟩

theorem balGo_len (m : Nat) : ∀ (k : Nat) (now : List Ld) (gone : Nat → Bool), (balGo m k now gone).length ≤ k
  | 0, _, _ => Nat.le_refl _
  | k + 1, now, gone => by
    rw [balGo]
    split
    · exact Nat.zero_le _
    · rw [List.length_cons]; exact Nat.succ_le_succ (balGo_len m k _ _)
theorem balM_len {l : List Ld} {nodes moves : Int} : (balM l nodes moves).1.length ≤ 4 := by
  unfold balM
  split
  · exact Nat.zero_le _
  · split
    · exact Nat.zero_le _
    · have := balGo_len nodes.toNat moves.toNat l (fun _ => false)
      dsimp only
      omega

set_option maxRecDepth 100000 in
set_option maxHeartbeats 4000000 in
theorem planBalances_calls (A : Option Addr) (c : Nat) (l : List Ld) (nodes moves : Int) (w : World) (h : Rd w w.heap.size 3 A l.length (l.flatMap Ld.cells)) (hm : l.length ≤ maxLen) (hc : l.length * 24 ≤ reachBytes) :
    Calls Try.prog 5 #[.slice A l.length c, .int .i64 nodes, .int .i64 moves] w (fun e w' => e = .returned (.bool true) ∧ Below w.heap.size w w') := by
 have S := (St.start w).addRd h; clear h
 have hc2 := hc
 unfold reachBytes at hc2
 have H1 := fun A c w h => Balance_calls A c l nodes moves w h hm
 have H2 := fun A c w h => Balanced_calls A c l nodes moves w h hm
 have hlen := balM_len (l := l) (nodes := nodes) (moves := moves)
 generalize balM l nodes moves = R at H1 H2 hlen
 refine fnw 41 Try.func5 ?_
 refine cw [0, 1, 2] ?_
 refine x_sr (va ?_)
 refine wL_nil (wQ_then (wC_seq (wC_region (vm ?_))))
 refine cal en35 (loads_calls A l.length c l _ (St.rd 0 S rfl) hc) ?_
 rintro _ w5 ⟨A1, c2, rfl, hb3, ho4⟩
 refine ⟨_, rfl, ?_⟩
 have S6 := S.onOwn hb3 ho4; clear hb3 ho4 S
 change St _ _ _ [.own 162 3 (.slice A1 l.length c2) l.length ((l).flatMap Ld.cells), _] at S6
 refine va ?_
 refine qk [0, 1, 2, 6, 7] ?_
 refine x_tsr (vm ?_)
 iterate 2 refine vm ?_
 refine cal en36 (H1 A1 c2 _ (St.ord 0 S6 rfl)) ?_
 rintro _ w9 ⟨A7, c8, rfl, T11⟩
 refine ⟨_, rfl, ?_⟩
 have S10 := S6.ext T11 rfl; clear T11 S6
 change St _ _ _ [.rdo 3 A7 R.1.length ((R.1).flatMap Pln.cells), _, _] at S10
 refine vm ?_
 refine vv yx ?_
 refine vv yx ?_
 iterate 2 refine va ?_
 refine qk [0, 1, 2, 6, 7, 8, 9] ?_
 refine x_tsr (vm ?_)
 iterate 2 refine vm ?_
 refine cal en37 (H2 A c _ (St.rd 2 S10 rfl)) ?_
 rintro _ w14 ⟨A12, c13, rfl, T16⟩
 refine ⟨_, rfl, ?_⟩
 have S15 := S10.ext T16 rfl; clear T16 S10
 change St _ _ _ [.rdo 3 A12 R.1.length ((R.1).flatMap Pln.cells), _, _, _] at S15
 refine vm ?_
 refine vv yx ?_
 refine vv yx ?_
 iterate 2 refine va ?_
 refine qk [0, 6, 7, 8, 9, 10, 11] ?_
 refine x_tsr (vm ?_)
 refine vm ?_
 refine vv (yeqlT rfl) ?_
 refine vm ?_
 refine vg ym ?_
 refine vg ym ?_
 refine calg en38 (samePlans_calls A7 A12 c8 c13 R.1 _ (St.rdo 1 S15 rfl) (St.rdo 0 S15 rfl) (by omega)) ?_
 rintro _ w17 ⟨rfl, hb19⟩
 refine ⟨_, rfl, ?_⟩
 have S18 := S15.on hb19; clear hb19 S15
 refine vv ypT ?_
 refine vm ?_
 refine vg ym ?_
 refine vg ym ?_
 refine calg en39 (sameLoads_calls A1 A c2 c l _ (St.ord 2 S18 rfl) (St.rd 3 S18 rfl) (by omega)) ?_
 rintro _ w20 ⟨rfl, hb22⟩
 refine ⟨_, rfl, ?_⟩
 have S21 := S18.on hb22; clear hb22 S18
 refine vv ypT ?_
 refine va ?_
 refine qk [6] ?_
 refine x_te (pt ?_)
 exact ⟨rfl, S21.low⟩

set_option maxRecDepth 100000 in
theorem planBalances_walk (W : World) (args : Array Value) (h : All2 (ArgOk Try.prog W) args.toList Try.f5.params.toList) :
    Calls Try.prog 5 args W fun e W' => e = .returned (.bool true) ∧ Below W.heap.size W W' := by
  rw [Try.params5] at h
  obtain ⟨v, l1, hv, h1, h0⟩ := All2.cons_ h
  obtain ⟨v2, l2, hv2, ⟨⟨base, hk⟩, _⟩, h3⟩ := All2.cons_ h0
  obtain ⟨v3, l3, hv3, ⟨⟨base3, hk3⟩, _⟩, h5⟩ := All2.cons_ h3
  have h4 := All2.nil_ h5
  subst h4
  subst hv3
  subst hv2
  obtain rfl : args = #[v, v2, v3] := by cases args; simp_all
  obtain ⟨A, n, c, l, rfl, hr, hn, hm, hb, _⟩ := arg_loads h1
  obtain ⟨nodes, rfl⟩ := okWide_int Try.underlying3 hk
  obtain ⟨moves, rfl⟩ := okWide_int Try.underlying3 hk3
  obtain rfl := hr.ld_len
  exact planBalances_calls A c l nodes moves W hr (Nat.le_trans hn hm) (by omega)
end Go.Proofs.Ytkjlafpafmihaaa

