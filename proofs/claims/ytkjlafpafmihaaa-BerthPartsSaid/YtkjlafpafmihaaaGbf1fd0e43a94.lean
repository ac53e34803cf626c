/- Parts of proofs: lemmas on memory, on single functions and on the plain models; no condition of their own. -/
import Derived.Test.YtkjlafpafmihaaaRows
import Derived.WalkKit
import Derived.ProofKit
import Derived.OpenShut
import Derived.SizedLaws
import Derived.WalkSpells
import Derived.WalkLawsBesides
import Derived.Handy
import Derived.Deep.QuietTactic
import Derived.BigQuiet
import Derived.Lib.Hide
import Derived.Maps.AppendAt
import Derived.Deep.AppendLies
import Derived.RegionTactic
import Derived.OwnWalk
import Derived.Laws.Tables
import Derived.Deep.MidRow
import Derived.StillTailTactics
import Derived.OrdersHeld
import Derived.Deep.RegionHeld3
import Derived.Laws.IdiomCopy
import Derived.ChangeKeysEq
import Derived.Laws.BitsAllLaws
import Derived.Deep.DeepCutAuto
import Derived.Deep.CutRange
import Derived.Shelf.SlSortCmp.WholeK
import Derived.Shelf.SlSortCmp.NoneTotal
import Derived.Shelf.SlicesG.Cmp
import Derived.Shelf.SlGeneric
import Derived.Ground.SlsfProg
import Derived.Ground.SlgcProg
import Derived.Maps.OwnSet
import Derived.Lib.SliceRun
import Derived.Deep.RegionLaw
import Derived.Test.YtkjlafpafmihaaaG06e1f1d2e814
import Derived.Test.YtkjlafpafmihaaaG0e35ec4e0bdc
import Derived.Test.YtkjlafpafmihaaaG1ad51a58616a
import Derived.Test.YtkjlafpafmihaaaG2143c9b0b786
import Derived.Test.YtkjlafpafmihaaaG3cad135f796d
import Derived.Test.YtkjlafpafmihaaaG4616653cfbd3
import Derived.Test.YtkjlafpafmihaaaG5c9dd345a9af
import Derived.Test.YtkjlafpafmihaaaG668153da7687
import Derived.Test.YtkjlafpafmihaaaG6864b573849f
import Derived.Test.YtkjlafpafmihaaaG69ea6f18ea30
import Derived.Test.YtkjlafpafmihaaaG6ad8477b615d
import Derived.Test.YtkjlafpafmihaaaG728b59412085
import Derived.Test.YtkjlafpafmihaaaG89cf66bf90ea
import Derived.Test.YtkjlafpafmihaaaG8ba6bfb0af5b
import Derived.Test.YtkjlafpafmihaaaG9d6a0cc61d66
import Derived.Test.YtkjlafpafmihaaaG9e974038fe9d
import Derived.Test.YtkjlafpafmihaaaGa89c1a6f9966
import Derived.Test.YtkjlafpafmihaaaGa956530333d6
import Derived.Test.YtkjlafpafmihaaaGad4fca606e19
import Derived.Test.YtkjlafpafmihaaaGb06670d46fbe
import Derived.Test.YtkjlafpafmihaaaGb705d1f06a25
import Derived.Test.YtkjlafpafmihaaaGc78e27da6ed6
import Derived.Test.YtkjlafpafmihaaaGdea6a90e7048
import Derived.Test.YtkjlafpafmihaaaGea986721f1a3
import Derived.Test.YtkjlafpafmihaaaGf3cc171333c0
import Derived.Test.YtkjlafpafmihaaaGfa05affeb4fa
import Derived.Test.YtkjlafpafmihaaaGfed51b8f206e
set_option linter.unusedVariables false
set_option linter.unusedSimpArgs false

namespace Go.Proofs.Ytkjlafpafmihaaa
open Go.ChangeShapes Go.WideShapes Go.RowKit

def PartPost (w : World) (r : List Ev × Bool × Int) (e : Ending) (w' : World) : Prop := ∃ A c, e = .returned (.tuple #[.slice A r.1.length c, .bool r.2.1, .int .i64 r.2.2]) ∧ St w.heap.size w w' [.rdo 6 A r.1.length (evCells r.1)]
end Go.Proofs.Ytkjlafpafmihaaa

namespace Go.Proofs.Ytkjlafpafmihaaa
open Go.ChangeShapes Go.WideShapes Go.RowKit

section
variable {b : Brt} {hv : Int}
theorem part_leav (h : ¬ leavM b hv = 0) : partM b hv = ([], false, leavM b hv) := by
  unfold leavM at h ⊢
  unfold partM
  split
  · rfl
  · rename_i h1
    rw [if_neg h1] at h
    split
    · rfl
    · rename_i h2
      rw [if_neg h2] at h
      split
      · rfl
      · rename_i h3
        rw [if_neg h3] at h
        exact absurd rfl h
end

end Go.Proofs.Ytkjlafpafmihaaa

namespace Go.Proofs.Ytkjlafpafmihaaa
open Go.ChangeShapes Go.WideShapes Go.RowKit

section
variable {b : Brt} {k m : Nat}
theorem part_ok (h : brtFault b = 0) (hr : b.role = 2 ∨ b.role = 3) (hk : k ≤ b.evs.length) (hm : min (k + 3) b.evs.length = k + m) : partM b k = ((b.evs.drop k).take m, decide (b.role = 3 ∧ k + m = b.evs.length), 0) := by
  unfold partM
  rw [if_neg (fun h1 => h1 h), if_neg (by omega), if_neg (by omega)]
  refine Prod.ext ?_ (Prod.ext ?_ rfl)
  · simp only [Int.toNat_natCast]
    rw [List.take_eq_take_iff, List.length_drop]
    omega
  · simp only [Int.toNat_natCast]
    congr 1
    exact propext ⟨fun h => ⟨h.1, by omega⟩, fun h => ⟨h.1, by omega⟩⟩
end
set_option maxRecDepth 100000 in
set_option maxHeartbeats 2000000 in
theorem Part_calls (ro ep fr tg rd : Int) (A : Option Addr) (c : Nat) (l : List Ev) (hv : Int) (hlc : l.length ≤ c) (w : World) (h : Rd w w.heap.size 6 A l.length (evCells l)) (hb : l.length * 48 ≤ reachBytes) :
    Calls Try.prog 84 #[.agg #[.int .i64 ro, .int .i64 ep, .int .i64 fr, .int .i64 tg, .int .i64 rd, .slice A l.length c], .int .i64 hv] w (PartPost w (partM ⟨ro, ep, fr, tg, rd, l⟩ hv)) := by
 have S := (St.start w).addRd h; clear h
 have hb2 := hb
 unfold reachBytes at hb2
 refine calls_of_wC (N := 53) (vs := [.agg #[.int .i64 ro, .int .i64 ep, .int .i64 fr, .int .i64 tg, .int .i64 rd, .slice A l.length c], .int .i64 hv]) Try.func84 rfl rfl rfl ?_
 refine wC_sub (l' := [(0, .agg #[.int .i64 ro, .int .i64 ep, .int .i64 fr, .int .i64 tg, .int .i64 rd, .slice A l.length c]), (1, .int .i64 hv)]) ⟨rfl, rfl, trivial⟩ (wC_seq (wC_region (wL_new (V := fun b => .pointer (some ⟨b, 0, none⟩)) (row := #[.int .i64 ro, .int .i64 ep, .int .i64 fr, .int .i64 tg, .int .i64 rd, .slice A l.length c]) (t := 108) S (wn rfl) rfl rfl (d_box rfl rfl rfl) ?_))); intro b1 w2 S3; clear S
 refine wL_val (wn rfl) rfl rfl (y_assign rfl rfl) ?_
 refine wL_val (wn rfl) rfl rfl (y_assign rfl rfl) ?_
 refine wL_val (wn rfl) rfl rfl (y_assign rfl rfl) ?_
 refine wL_nil (wQ_sub (l' := [(1, _), (2, _), (4, _), (5, _), (6, _)]) ⟨rfl, rfl, rfl, rfl, rfl, trivial⟩ (wQ_then (wC_seq (wC_seq (wC_region (wL_val (wn rfl) rfl rfl (y_load rfl rfl (r_load_row 0 S3 rfl Try.underlying108 rfl inf108 rfl)) ?_))))))
 refine wL_call (vs := [.agg #[.int .i64 ro, .int .i64 ep, .int .i64 fr, .int .i64 tg, .int .i64 rd, .slice A l.length c]]) (wn rfl) rfl rfl (e_call (vs := [.agg #[.int .i64 ro, .int .i64 ep, .int .i64 fr, .int .i64 tg, .int .i64 rd, .slice A l.length c]]) rfl en76 ⟨rfl, trivial⟩) (BCheck_calls ro ep fr tg rd A c l _ (St.rd 1 S3 rfl) (by omega)) ?_
 rintro _ w4 ⟨rfl, hb6⟩
 refine ⟨_, rfl, ?_⟩
 have S5 := S3.on hb6; clear hb6 S3
 refine wL_val (wn rfl) rfl rfl (y_assign rfl rfl) ?_
 refine wL_nil (wQ_sub (l' := [(1, _), (2, _), (4, _), (5, _), (6, _), (7, _)]) ⟨rfl, rfl, rfl, rfl, rfl, rfl, trivial⟩ (wQ_then (wC_seq (wC_region (wL_val (wn rfl) rfl rfl (y_move rfl rfl) ?_)))))
 by_cases h7 : brtFault ⟨ro, ep, fr, tg, rd, l⟩ = 0
 ·have hsh := (bf_zero h7).1
  unfold shapeB at hsh
  have hln := tellM_len (bf_zero h7).2
  dsimp only at hsh hln
  refine wL_val (v := .bool false) (wn rfl) rfl rfl (y_binop rfl rfl rfl (r_neq_f h7)) ?_
  refine wL_nil (wQ_sub (l' := [(1, _), (2, _), (4, _), (5, _), (6, _), (7, _), (12, _)]) ⟨rfl, rfl, rfl, rfl, rfl, rfl, rfl, trivial⟩ (wQ_then (wC_cond_f rfl (wC_skip (wQ_then (wC_seq (wC_seq (wC_region (wL_val (v := .pointer (some ⟨b1, 0, none⟩)) (wn rfl) rfl rfl (y_fieldAddr rfl rfl (fa108_0 _ _ _)) ?_)))))))))
  refine wL_val (wn rfl) rfl rfl (y_load rfl rfl (r_load Try.underlying3 rfl (St.cl 0 S5 rfl rfl))) ?_
  by_cases h8 : ro = 2
  ·refine wL_val (v := .bool false) (wn rfl) rfl rfl (y_binop rfl rfl rfl (r_neq_f h8)) ?_
   refine wL_val (wn rfl) rfl rfl (y_move rfl rfl) ?_
   refine wL_skip (wg rfl rfl rfl rfl) rfl rfl ?_
   refine wL_skip (wg rfl rfl rfl rfl) rfl rfl ?_
   refine wL_skip (wg rfl rfl rfl rfl) rfl rfl ?_
   refine wL_val (wn rfl) rfl rfl (y_pick_f rfl rfl rfl) ?_
   refine wL_nil (wQ_sub (l' := [(1, _), (2, _), (4, _), (5, _), (6, _), (21, _)]) ⟨rfl, rfl, rfl, rfl, rfl, rfl, trivial⟩ (wQ_then (wC_cond_f rfl (wC_skip (wQ_then (wC_seq (wC_seq (wC_region (wL_val (wn rfl) rfl rfl (y_move rfl rfl) ?_)))))))))
   by_cases h9 : hv < 0
   ·refine wL_val (v := .bool true) (wn rfl) rfl rfl (y_binop rfl rfl rfl (r_lss_t h9)) ?_
    refine wL_val (wn rfl) rfl rfl (y_move rfl rfl) ?_
    refine wL_skip (wg rfl rfl rfl rfl) rfl rfl ?_
    refine wL_skip (wg rfl rfl rfl rfl) rfl rfl ?_
    refine wL_skip (wg rfl rfl rfl rfl) rfl rfl ?_
    refine wL_skip (wg rfl rfl rfl rfl) rfl rfl ?_
    refine wL_skip (wg rfl rfl rfl rfl) rfl rfl ?_
    refine wL_val (wn rfl) rfl rfl (y_pick_t rfl rfl rfl) ?_
    refine wL_nil (wQ_sub (l' := [(1, _), (2, _), (4, _), (5, _), (6, _), (30, _)]) ⟨rfl, rfl, rfl, rfl, rfl, rfl, trivial⟩ (wQ_then (wC_cond_t rfl (wC_seq (wC_region (wL_val (wn rfl) rfl rfl (y_assign rfl rfl) ?_))))))
    refine wL_val (wn rfl) rfl rfl (y_assign rfl rfl) ?_
    refine wL_val (wn rfl) rfl rfl (y_assign rfl rfl) ?_
    refine wL_nil (wQ_sub (l' := [(4, _), (5, _), (6, _)]) ⟨rfl, rfl, rfl, trivial⟩ (wQ_then (wC_ret (wQ_then_ret (wQ_post (rs := [.tmp 4, .tmp 5, .tmp 6]) (vs := [.slice none 0 0, .bool false, .int .i64 2]) rfl ⟨rfl, rfl, rfl, trivial⟩ ?_)))))
    have S10 : St w.heap.size w w4 [] := (St.del 0 (St.del 1 S5)); clear S5
    rw [show partM ⟨ro, ep, fr, tg, rd, l⟩ hv = ([], false, 2) from by unfold partM; (try dsimp only); (repeat' (first | rfl | omega | split)) <;> (simp only [Prod.mk.injEq, Brt.mk.injEq, and_true, true_and, and_self]; omega)]
    exact ⟨none, 0, rfl, rdo_nil S10⟩
   ·refine wL_val (v := .bool false) (wn rfl) rfl rfl (y_binop rfl rfl rfl (r_lss_f h9)) ?_
    refine wL_val (wn rfl) rfl rfl (y_move rfl rfl) ?_
    refine wL_val (wg rfl rfl rfl rfl) rfl rfl (y_move rfl rfl) ?_
    refine wL_val (v := .pointer (some ⟨b1, 5, none⟩)) (wg rfl rfl rfl rfl) rfl rfl (y_fieldAddr rfl rfl (fa108_5 _ _ _)) ?_
    refine wL_val (wg rfl rfl rfl rfl) rfl rfl (y_load rfl rfl (r_load Try.underlying57 rfl (St.cl 0 S5 rfl rfl))) ?_
    refine wL_val (v := .int .i64 ((l.length : Nat) : Int)) (wg rfl rfl rfl rfl) rfl rfl (y_builtin (vs := [.slice A l.length c]) rfl ⟨rfl, trivial⟩ fun _ => r_len rfl Try.underlying57) ?_
    by_cases h11 : ((l.length : Nat) : Int) < hv
    ·refine wL_val (v := .bool true) (wg rfl rfl rfl rfl) rfl rfl (y_binop rfl rfl rfl (r_gtr_t h11)) ?_
     refine wL_val (wn rfl) rfl rfl (y_pick_f rfl rfl rfl) ?_
     refine wL_nil (wQ_sub (l' := [(1, _), (2, _), (4, _), (5, _), (6, _), (30, _)]) ⟨rfl, rfl, rfl, rfl, rfl, rfl, trivial⟩ (wQ_then (wC_cond_t rfl (wC_seq (wC_region (wL_val (wn rfl) rfl rfl (y_assign rfl rfl) ?_))))))
     refine wL_val (wn rfl) rfl rfl (y_assign rfl rfl) ?_
     refine wL_val (wn rfl) rfl rfl (y_assign rfl rfl) ?_
     refine wL_nil (wQ_sub (l' := [(4, _), (5, _), (6, _)]) ⟨rfl, rfl, rfl, trivial⟩ (wQ_then (wC_ret (wQ_then_ret (wQ_post (rs := [.tmp 4, .tmp 5, .tmp 6]) (vs := [.slice none 0 0, .bool false, .int .i64 2]) rfl ⟨rfl, rfl, rfl, trivial⟩ ?_)))))
     have S12 : St w.heap.size w w4 [] := (St.del 0 (St.del 1 S5)); clear S5
     rw [show partM ⟨ro, ep, fr, tg, rd, l⟩ hv = ([], false, 2) from by unfold partM; (try dsimp only); (repeat' (first | rfl | omega | split)) <;> (simp only [Prod.mk.injEq, Brt.mk.injEq, and_true, true_and, and_self]; omega)]
     exact ⟨none, 0, rfl, rdo_nil S12⟩
    ·refine wL_val (v := .bool false) (wg rfl rfl rfl rfl) rfl rfl (y_binop rfl rfl rfl (r_gtr_f h11)) ?_
     refine wL_val (wn rfl) rfl rfl (y_pick_f rfl rfl rfl) ?_
     refine wL_nil (wQ_sub (l' := [(1, _), (2, _), (4, _), (5, _), (6, _), (30, _)]) ⟨rfl, rfl, rfl, rfl, rfl, rfl, trivial⟩ (wQ_then (wC_cond_f rfl (wC_skip (wQ_then (wC_seq ?_))))))
     obtain ⟨k, rfl⟩ : ∃ k : Nat, hv = k := ⟨hv.toNat, by omega⟩
     obtain ⟨m, hm⟩ : ∃ m, min (k + 3) l.length = k + m := ⟨min (k + 3) l.length - k, by omega⟩
     refine wC_region (wL_val (wn rfl) rfl rfl (y_move rfl rfl) ?_)
     refine wL_val (v := .int .i64 ((k + 3 : Nat) : Int)) (wn rfl) rfl rfl (y_binop rfl rfl rfl (r_add (by omega) (by omega))) ?_
     refine wL_val (v := .pointer (some ⟨b1, 5, none⟩)) (wn rfl) rfl rfl (y_fieldAddr rfl rfl (fa108_5 _ _ _)) ?_
     refine wL_val (wn rfl) rfl rfl (y_load rfl rfl (r_load Try.underlying57 rfl (St.cl 0 S5 rfl rfl))) ?_
     refine wL_val (v := .int .i64 ((l.length : Nat) : Int)) (wn rfl) rfl rfl (y_builtin (vs := [.slice A l.length c]) rfl ⟨rfl, trivial⟩ fun _ => r_len rfl Try.underlying57) ?_
     refine wL_val (v := .int .i64 ((k + m : Nat) : Int)) (wn rfl) rfl rfl (y_builtin (vs := [.int .i64 ((k + 3 : Nat) : Int), .int .i64 ((l.length : Nat) : Int)]) rfl ⟨rfl, rfl, trivial⟩ fun _ => by rw [r_minN, hm]) ?_
     refine wL_val (wn rfl) rfl rfl (y_assign rfl rfl) ?_
     refine wL_nil (wQ_sub (l' := [(1, _), (2, _), (4, _), (5, _), (6, _), (8, _)]) ⟨rfl, rfl, rfl, rfl, rfl, rfl, trivial⟩ (wQ_then ?_))
     obtain ⟨A13, hs14, hr15, hk16⟩ := eslice (P := Try.prog) (t := 57) (enc := Ev.cells) (s := 6) (fun _ => rfl) (A := A) (b := l) (n := l.length) (c := c) (lo := (some (.int .i64 ((k : Nat) : Int)))) (hi := (some (.int .i64 ((k + m : Nat) : Int)))) (mx := none) (l := k) (k := k + m) (q := c) (m := m) (c' := c - k) Try.underlying57 inf37 (sb_lh k (k + m) rfl rfl (by omega) (by omega)) (by omega) (by omega) (by omega) (by omega) rfl
     have S17 := S5.addRd (hr15 _ _ (S5.all 1 _ rfl)); clear S5
     change St _ _ _ [.rd 6 A13 m (((l.drop k).take m).flatMap Ev.cells), _, _] at S17
     by_cases hr3 : ro = 3
     ·by_cases hend : ((k + m : Nat) : Int) = ((l.length : Nat) : Int)
      ·refine wC_seq ?_
       have S18 := S17.drew; clear S17
       refine wC_any_ (C := fun w' => St w.heap.size w w' [.rd 6 A13 m (((l.drop k).take m).flatMap Ev.cells), .blk b1 #[.int .i64 ro, .int .i64 ep, .int .i64 fr, .int .i64 tg, .int .i64 rd, .slice A l.length c] 108, .rd 6 A l.length ((l).flatMap Ev.cells)]) (n := 19) (listed := #[false, false, false, false, false, false, false, false, false, false, false, false, false, false, false, false, false, false, false]) mixed rfl rfl ?_
       refine wA_take (v := .pointer (some ⟨b1, 5, none⟩)) (i := 0) (n := 18) (listed' := #[true, false, false, false, false, false, false, false, false, false, false, false, false, false, false, false, false, false, false]) rfl (by kernel_rfl) (by kernel_rfl) (by kernel_rfl) S18 rfl (wn rfl) rfl rfl (fun _ _ => (y_fieldAddr rfl rfl (fa108_5 _ _ _))) ?_
       refine wA_take (v := .slice A l.length c) (i := 1) (n := 17) (listed' := #[true, true, false, false, false, false, false, false, false, false, false, false, false, false, false, false, false, false, false]) rfl (by kernel_rfl) (by kernel_rfl) (by kernel_rfl) S18 rfl (wn rfl) rfl rfl (fun _ Sx20 => (y_load rfl rfl (r_load Try.underlying57 rfl (St.cl 1 Sx20 rfl rfl)))) ?_
       refine wA_take (v := .int .i64 ((k : Nat) : Int)) (i := 2) (n := 16) (listed' := #[true, true, true, false, false, false, false, false, false, false, false, false, false, false, false, false, false, false, false]) rfl (by kernel_rfl) (by kernel_rfl) (by kernel_rfl) S18 rfl (wn rfl) rfl rfl (fun _ _ => (y_move rfl rfl)) ?_
       refine wA_take (v := .int .i64 ((k + m : Nat) : Int)) (i := 3) (n := 15) (listed' := #[true, true, true, true, false, false, false, false, false, false, false, false, false, false, false, false, false, false, false]) rfl (by kernel_rfl) (by kernel_rfl) (by kernel_rfl) S18 rfl (wn rfl) rfl rfl (fun _ _ => (y_move rfl rfl)) ?_
       refine wA_take (v := .slice A13 m (c - k)) (i := 4) (n := 14) (listed' := #[true, true, true, true, true, false, false, false, false, false, false, false, false, false, false, false, false, false, false]) rfl (by kernel_rfl) (by kernel_rfl) (by kernel_rfl) S18 rfl (wn rfl) rfl rfl (fun _ _ => (y_slice rfl rfl (evo_s rfl) (evo_s rfl) evo_n (hs14 _))) ?_
       refine wA_take (v := .pointer (some ⟨b1, 0, none⟩)) (i := 6) (n := 13) (listed' := #[true, true, true, true, true, false, true, false, false, false, false, false, false, false, false, false, false, false, false]) rfl (by kernel_rfl) (by kernel_rfl) (by kernel_rfl) S18 rfl (wn rfl) rfl rfl (fun _ _ => (y_fieldAddr rfl rfl (fa108_0 _ _ _))) ?_
       refine wA_take (v := .int .i64 ro) (i := 7) (n := 12) (listed' := #[true, true, true, true, true, false, true, true, false, false, false, false, false, false, false, false, false, false, false]) rfl (by kernel_rfl) (by kernel_rfl) (by kernel_rfl) S18 rfl (wn rfl) rfl rfl (fun _ Sx25 => (y_load rfl rfl (r_load Try.underlying3 rfl (St.cl 1 Sx25 rfl rfl)))) ?_
       refine wA_take (v := .bool true) (i := 8) (n := 11) (listed' := #[true, true, true, true, true, false, true, true, true, false, false, false, false, false, false, false, false, false, false]) rfl (by kernel_rfl) (by kernel_rfl) (by kernel_rfl) S18 rfl (wn rfl) rfl rfl (fun _ _ => (y_binop rfl rfl rfl (r_eql_t hr3))) ?_
       refine wA_one (n := 10) (r := 5) (by kernel_rfl) ?_
       refine wN_call_ (i := 5) (listed' := #[true, true, true, true, true, true, true, true, true, false, false, false, false, false, false, false, false, false, false]) rfl rfl (vs := [.slice A13 m (c - k)]) (wn rfl) rfl rfl (e_call (vs := [.slice A13 m (c - k)]) rfl en157 ⟨rfl, trivial⟩) (CloneV_calls A13 m (c - k) _ _ (St.rd 0 S18 rfl) (evCells_one _) (by unfold reachBytes; omega)) ?_
       rintro _ w31 ⟨A27, c28, rfl, hb29, ho30⟩
       refine ⟨_, rfl, ?_⟩
       have S32 := S18.onOwn hb29 ho30; clear hb29 ho30 S18
       change St _ _ _ [.own 37 6 (.slice A27 m c28) m (((l.drop k).take m).flatMap Ev.cells), _, _, _] at S32
       refine ⟨(St.del 0 S32), ?_⟩
       refine wA_take (v := .bool true) (i := 9) (n := 9) (listed' := #[true, true, true, true, true, true, true, true, true, true, false, false, false, false, false, false, false, false, false]) rfl (by kernel_rfl) (by kernel_rfl) (by kernel_rfl) (St.del 0 S32) rfl (wn rfl) rfl rfl (fun _ _ => (y_move rfl rfl)) ?_
       refine wA_take (v := .int .i64 ((k + m : Nat) : Int)) (i := 10) (n := 8) (listed' := #[true, true, true, true, true, true, true, true, true, true, true, false, false, false, false, false, false, false, false]) rfl (by kernel_rfl) (by kernel_rfl) (by kernel_rfl) (St.del 0 S32) rfl (wg rfl rfl rfl rfl) rfl rfl (fun _ _ => (y_move rfl rfl)) ?_
       refine wA_take (v := .pointer (some ⟨b1, 5, none⟩)) (i := 11) (n := 7) (listed' := #[true, true, true, true, true, true, true, true, true, true, true, true, false, false, false, false, false, false, false]) rfl (by kernel_rfl) (by kernel_rfl) (by kernel_rfl) (St.del 0 S32) rfl (wg rfl rfl rfl rfl) rfl rfl (fun _ _ => (y_fieldAddr rfl rfl (fa108_5 _ _ _))) ?_
       refine wA_take (v := .slice A l.length c) (i := 12) (n := 6) (listed' := #[true, true, true, true, true, true, true, true, true, true, true, true, true, false, false, false, false, false, false]) rfl (by kernel_rfl) (by kernel_rfl) (by kernel_rfl) (St.del 0 S32) rfl (wg rfl rfl rfl rfl) rfl rfl (fun _ Sx36 => (y_load rfl rfl (r_load Try.underlying57 rfl (St.cl 1 Sx36 rfl rfl)))) ?_
       refine wA_take (v := .int .i64 ((l.length : Nat) : Int)) (i := 13) (n := 5) (listed' := #[true, true, true, true, true, true, true, true, true, true, true, true, true, true, false, false, false, false, false]) rfl (by kernel_rfl) (by kernel_rfl) (by kernel_rfl) (St.del 0 S32) rfl (wg rfl rfl rfl rfl) rfl rfl (fun _ _ => (y_builtin (vs := [.slice A l.length c]) rfl ⟨rfl, trivial⟩ fun _ => r_len rfl Try.underlying57)) ?_
       refine wA_take (v := .bool true) (i := 14) (n := 4) (listed' := #[true, true, true, true, true, true, true, true, true, true, true, true, true, true, true, false, false, false, false]) rfl (by kernel_rfl) (by kernel_rfl) (by kernel_rfl) (St.del 0 S32) rfl (wg rfl rfl rfl rfl) rfl rfl (fun _ _ => (y_binop rfl rfl rfl (r_eql_t hend))) ?_
       refine wA_take (v := .bool true) (i := 15) (n := 3) (listed' := #[true, true, true, true, true, true, true, true, true, true, true, true, true, true, true, true, false, false, false]) rfl (by kernel_rfl) (by kernel_rfl) (by kernel_rfl) (St.del 0 S32) rfl (wn rfl) rfl rfl (fun _ _ => (y_pick_t rfl rfl rfl)) ?_
       refine wA_take (v := .slice A27 m c28) (i := 16) (n := 2) (listed' := #[true, true, true, true, true, true, true, true, true, true, true, true, true, true, true, true, true, false, false]) rfl (by kernel_rfl) (by kernel_rfl) (by kernel_rfl) (St.del 0 S32) rfl (wn rfl) rfl rfl (fun _ _ => (y_assign rfl rfl)) ?_
       refine wA_take (v := .bool true) (i := 17) (n := 1) (listed' := #[true, true, true, true, true, true, true, true, true, true, true, true, true, true, true, true, true, true, false]) rfl (by kernel_rfl) (by kernel_rfl) (by kernel_rfl) (St.del 0 S32) rfl (wn rfl) rfl rfl (fun _ _ => (y_assign rfl rfl)) ?_
       refine wA_take (v := .int .i64 0) (i := 18) (n := 0) (listed' := #[true, true, true, true, true, true, true, true, true, true, true, true, true, true, true, true, true, true, true]) rfl (by kernel_rfl) (by kernel_rfl) (by kernel_rfl) (St.del 0 S32) rfl (wn rfl) rfl rfl (fun _ _ => (y_assign rfl rfl)) ?_
       refine wA_done (by kernel_rfl) ?_
       refine wQ_sub (l' := [(4, _), (5, _), (6, _)]) ⟨rfl, rfl, rfl, trivial⟩ (wQ_then (wC_ret (wQ_post (rs := [.tmp 4, .tmp 5, .tmp 6]) (vs := [.slice A27 m c28, .bool true, .int .i64 0]) rfl ⟨rfl, rfl, rfl, trivial⟩ ?_)))
       have S43 : St w.heap.size w w31 [_] := (St.del 1 (St.del 2 (St.del 3 S32))); clear S32
       have S44 := S43.sealAll 0 rfl; clear S43
       change St _ _ _ [.rdo 6 A27 m (((l.drop k).take m).flatMap Ev.cells)] at S44
       have hlm : ((l.drop k).take m).length = m := by rw [List.length_take, List.length_drop]; omega
       rw [part_ok (b := ⟨ro, ep, fr, tg, rd, l⟩) h7 (by dsimp only; omega) (by dsimp only; omega) hm]
       dsimp only
       rw [decide_eq_true ⟨hr3, by omega⟩]
       refine ⟨A27, c28, ?_, ?_⟩
       · dsimp only; rw [hlm]; rfl
       · dsimp only; rw [hlm]; exact S44
      ·refine wC_seq ?_
       have S45 := S17.drew; clear S17
       refine wC_any_ (C := fun w' => St w.heap.size w w' [.rd 6 A13 m (((l.drop k).take m).flatMap Ev.cells), .blk b1 #[.int .i64 ro, .int .i64 ep, .int .i64 fr, .int .i64 tg, .int .i64 rd, .slice A l.length c] 108, .rd 6 A l.length ((l).flatMap Ev.cells)]) (n := 19) (listed := #[false, false, false, false, false, false, false, false, false, false, false, false, false, false, false, false, false, false, false]) mixed rfl rfl ?_
       refine wA_take (v := .pointer (some ⟨b1, 5, none⟩)) (i := 0) (n := 18) (listed' := #[true, false, false, false, false, false, false, false, false, false, false, false, false, false, false, false, false, false, false]) rfl (by kernel_rfl) (by kernel_rfl) (by kernel_rfl) S45 rfl (wn rfl) rfl rfl (fun _ _ => (y_fieldAddr rfl rfl (fa108_5 _ _ _))) ?_
       refine wA_take (v := .slice A l.length c) (i := 1) (n := 17) (listed' := #[true, true, false, false, false, false, false, false, false, false, false, false, false, false, false, false, false, false, false]) rfl (by kernel_rfl) (by kernel_rfl) (by kernel_rfl) S45 rfl (wn rfl) rfl rfl (fun _ Sx47 => (y_load rfl rfl (r_load Try.underlying57 rfl (St.cl 1 Sx47 rfl rfl)))) ?_
       refine wA_take (v := .int .i64 ((k : Nat) : Int)) (i := 2) (n := 16) (listed' := #[true, true, true, false, false, false, false, false, false, false, false, false, false, false, false, false, false, false, false]) rfl (by kernel_rfl) (by kernel_rfl) (by kernel_rfl) S45 rfl (wn rfl) rfl rfl (fun _ _ => (y_move rfl rfl)) ?_
       refine wA_take (v := .int .i64 ((k + m : Nat) : Int)) (i := 3) (n := 15) (listed' := #[true, true, true, true, false, false, false, false, false, false, false, false, false, false, false, false, false, false, false]) rfl (by kernel_rfl) (by kernel_rfl) (by kernel_rfl) S45 rfl (wn rfl) rfl rfl (fun _ _ => (y_move rfl rfl)) ?_
       refine wA_take (v := .slice A13 m (c - k)) (i := 4) (n := 14) (listed' := #[true, true, true, true, true, false, false, false, false, false, false, false, false, false, false, false, false, false, false]) rfl (by kernel_rfl) (by kernel_rfl) (by kernel_rfl) S45 rfl (wn rfl) rfl rfl (fun _ _ => (y_slice rfl rfl (evo_s rfl) (evo_s rfl) evo_n (hs14 _))) ?_
       refine wA_take (v := .pointer (some ⟨b1, 0, none⟩)) (i := 6) (n := 13) (listed' := #[true, true, true, true, true, false, true, false, false, false, false, false, false, false, false, false, false, false, false]) rfl (by kernel_rfl) (by kernel_rfl) (by kernel_rfl) S45 rfl (wn rfl) rfl rfl (fun _ _ => (y_fieldAddr rfl rfl (fa108_0 _ _ _))) ?_
       refine wA_take (v := .int .i64 ro) (i := 7) (n := 12) (listed' := #[true, true, true, true, true, false, true, true, false, false, false, false, false, false, false, false, false, false, false]) rfl (by kernel_rfl) (by kernel_rfl) (by kernel_rfl) S45 rfl (wn rfl) rfl rfl (fun _ Sx52 => (y_load rfl rfl (r_load Try.underlying3 rfl (St.cl 1 Sx52 rfl rfl)))) ?_
       refine wA_take (v := .bool true) (i := 8) (n := 11) (listed' := #[true, true, true, true, true, false, true, true, true, false, false, false, false, false, false, false, false, false, false]) rfl (by kernel_rfl) (by kernel_rfl) (by kernel_rfl) S45 rfl (wn rfl) rfl rfl (fun _ _ => (y_binop rfl rfl rfl (r_eql_t hr3))) ?_
       refine wA_one (n := 10) (r := 5) (by kernel_rfl) ?_
       refine wN_call_ (i := 5) (listed' := #[true, true, true, true, true, true, true, true, true, false, false, false, false, false, false, false, false, false, false]) rfl rfl (vs := [.slice A13 m (c - k)]) (wn rfl) rfl rfl (e_call (vs := [.slice A13 m (c - k)]) rfl en157 ⟨rfl, trivial⟩) (CloneV_calls A13 m (c - k) _ _ (St.rd 0 S45 rfl) (evCells_one _) (by unfold reachBytes; omega)) ?_
       rintro _ w58 ⟨A54, c55, rfl, hb56, ho57⟩
       refine ⟨_, rfl, ?_⟩
       have S59 := S45.onOwn hb56 ho57; clear hb56 ho57 S45
       change St _ _ _ [.own 37 6 (.slice A54 m c55) m (((l.drop k).take m).flatMap Ev.cells), _, _, _] at S59
       refine ⟨(St.del 0 S59), ?_⟩
       refine wA_take (v := .bool true) (i := 9) (n := 9) (listed' := #[true, true, true, true, true, true, true, true, true, true, false, false, false, false, false, false, false, false, false]) rfl (by kernel_rfl) (by kernel_rfl) (by kernel_rfl) (St.del 0 S59) rfl (wn rfl) rfl rfl (fun _ _ => (y_move rfl rfl)) ?_
       refine wA_take (v := .int .i64 ((k + m : Nat) : Int)) (i := 10) (n := 8) (listed' := #[true, true, true, true, true, true, true, true, true, true, true, false, false, false, false, false, false, false, false]) rfl (by kernel_rfl) (by kernel_rfl) (by kernel_rfl) (St.del 0 S59) rfl (wg rfl rfl rfl rfl) rfl rfl (fun _ _ => (y_move rfl rfl)) ?_
       refine wA_take (v := .pointer (some ⟨b1, 5, none⟩)) (i := 11) (n := 7) (listed' := #[true, true, true, true, true, true, true, true, true, true, true, true, false, false, false, false, false, false, false]) rfl (by kernel_rfl) (by kernel_rfl) (by kernel_rfl) (St.del 0 S59) rfl (wg rfl rfl rfl rfl) rfl rfl (fun _ _ => (y_fieldAddr rfl rfl (fa108_5 _ _ _))) ?_
       refine wA_take (v := .slice A l.length c) (i := 12) (n := 6) (listed' := #[true, true, true, true, true, true, true, true, true, true, true, true, true, false, false, false, false, false, false]) rfl (by kernel_rfl) (by kernel_rfl) (by kernel_rfl) (St.del 0 S59) rfl (wg rfl rfl rfl rfl) rfl rfl (fun _ Sx63 => (y_load rfl rfl (r_load Try.underlying57 rfl (St.cl 1 Sx63 rfl rfl)))) ?_
       refine wA_take (v := .int .i64 ((l.length : Nat) : Int)) (i := 13) (n := 5) (listed' := #[true, true, true, true, true, true, true, true, true, true, true, true, true, true, false, false, false, false, false]) rfl (by kernel_rfl) (by kernel_rfl) (by kernel_rfl) (St.del 0 S59) rfl (wg rfl rfl rfl rfl) rfl rfl (fun _ _ => (y_builtin (vs := [.slice A l.length c]) rfl ⟨rfl, trivial⟩ fun _ => r_len rfl Try.underlying57)) ?_
       refine wA_take (v := .bool false) (i := 14) (n := 4) (listed' := #[true, true, true, true, true, true, true, true, true, true, true, true, true, true, true, false, false, false, false]) rfl (by kernel_rfl) (by kernel_rfl) (by kernel_rfl) (St.del 0 S59) rfl (wg rfl rfl rfl rfl) rfl rfl (fun _ _ => (y_binop rfl rfl rfl (r_eql_f hend))) ?_
       refine wA_take (v := .bool false) (i := 15) (n := 3) (listed' := #[true, true, true, true, true, true, true, true, true, true, true, true, true, true, true, true, false, false, false]) rfl (by kernel_rfl) (by kernel_rfl) (by kernel_rfl) (St.del 0 S59) rfl (wn rfl) rfl rfl (fun _ _ => (y_pick_t rfl rfl rfl)) ?_
       refine wA_take (v := .slice A54 m c55) (i := 16) (n := 2) (listed' := #[true, true, true, true, true, true, true, true, true, true, true, true, true, true, true, true, true, false, false]) rfl (by kernel_rfl) (by kernel_rfl) (by kernel_rfl) (St.del 0 S59) rfl (wn rfl) rfl rfl (fun _ _ => (y_assign rfl rfl)) ?_
       refine wA_take (v := .bool false) (i := 17) (n := 1) (listed' := #[true, true, true, true, true, true, true, true, true, true, true, true, true, true, true, true, true, true, false]) rfl (by kernel_rfl) (by kernel_rfl) (by kernel_rfl) (St.del 0 S59) rfl (wn rfl) rfl rfl (fun _ _ => (y_assign rfl rfl)) ?_
       refine wA_take (v := .int .i64 0) (i := 18) (n := 0) (listed' := #[true, true, true, true, true, true, true, true, true, true, true, true, true, true, true, true, true, true, true]) rfl (by kernel_rfl) (by kernel_rfl) (by kernel_rfl) (St.del 0 S59) rfl (wn rfl) rfl rfl (fun _ _ => (y_assign rfl rfl)) ?_
       refine wA_done (by kernel_rfl) ?_
       refine wQ_sub (l' := [(4, _), (5, _), (6, _)]) ⟨rfl, rfl, rfl, trivial⟩ (wQ_then (wC_ret (wQ_post (rs := [.tmp 4, .tmp 5, .tmp 6]) (vs := [.slice A54 m c55, .bool false, .int .i64 0]) rfl ⟨rfl, rfl, rfl, trivial⟩ ?_)))
       have S70 : St w.heap.size w w58 [_] := (St.del 1 (St.del 2 (St.del 3 S59))); clear S59
       have S71 := S70.sealAll 0 rfl; clear S70
       change St _ _ _ [.rdo 6 A54 m (((l.drop k).take m).flatMap Ev.cells)] at S71
       have hlm : ((l.drop k).take m).length = m := by rw [List.length_take, List.length_drop]; omega
       rw [part_ok (b := ⟨ro, ep, fr, tg, rd, l⟩) h7 (by dsimp only; omega) (by dsimp only; omega) hm]
       dsimp only
       rw [decide_eq_false (fun h => hend (by omega))]
       refine ⟨A54, c55, ?_, ?_⟩
       · dsimp only; rw [hlm]; rfl
       · dsimp only; rw [hlm]; exact S71
     ·refine wC_seq ?_
      have S72 := S17.drew; clear S17
      refine wC_any_ (C := fun w' => St w.heap.size w w' [.rd 6 A13 m (((l.drop k).take m).flatMap Ev.cells), .blk b1 #[.int .i64 ro, .int .i64 ep, .int .i64 fr, .int .i64 tg, .int .i64 rd, .slice A l.length c] 108, .rd 6 A l.length ((l).flatMap Ev.cells)]) (n := 19) (listed := #[false, false, false, false, false, false, false, false, false, false, false, false, false, false, false, false, false, false, false]) mixed rfl rfl ?_
      refine wA_take (v := .pointer (some ⟨b1, 5, none⟩)) (i := 0) (n := 18) (listed' := #[true, false, false, false, false, false, false, false, false, false, false, false, false, false, false, false, false, false, false]) rfl (by kernel_rfl) (by kernel_rfl) (by kernel_rfl) S72 rfl (wn rfl) rfl rfl (fun _ _ => (y_fieldAddr rfl rfl (fa108_5 _ _ _))) ?_
      refine wA_take (v := .slice A l.length c) (i := 1) (n := 17) (listed' := #[true, true, false, false, false, false, false, false, false, false, false, false, false, false, false, false, false, false, false]) rfl (by kernel_rfl) (by kernel_rfl) (by kernel_rfl) S72 rfl (wn rfl) rfl rfl (fun _ Sx74 => (y_load rfl rfl (r_load Try.underlying57 rfl (St.cl 1 Sx74 rfl rfl)))) ?_
      refine wA_take (v := .int .i64 ((k : Nat) : Int)) (i := 2) (n := 16) (listed' := #[true, true, true, false, false, false, false, false, false, false, false, false, false, false, false, false, false, false, false]) rfl (by kernel_rfl) (by kernel_rfl) (by kernel_rfl) S72 rfl (wn rfl) rfl rfl (fun _ _ => (y_move rfl rfl)) ?_
      refine wA_take (v := .int .i64 ((k + m : Nat) : Int)) (i := 3) (n := 15) (listed' := #[true, true, true, true, false, false, false, false, false, false, false, false, false, false, false, false, false, false, false]) rfl (by kernel_rfl) (by kernel_rfl) (by kernel_rfl) S72 rfl (wn rfl) rfl rfl (fun _ _ => (y_move rfl rfl)) ?_
      refine wA_take (v := .slice A13 m (c - k)) (i := 4) (n := 14) (listed' := #[true, true, true, true, true, false, false, false, false, false, false, false, false, false, false, false, false, false, false]) rfl (by kernel_rfl) (by kernel_rfl) (by kernel_rfl) S72 rfl (wn rfl) rfl rfl (fun _ _ => (y_slice rfl rfl (evo_s rfl) (evo_s rfl) evo_n (hs14 _))) ?_
      refine wA_take (v := .pointer (some ⟨b1, 0, none⟩)) (i := 6) (n := 13) (listed' := #[true, true, true, true, true, false, true, false, false, false, false, false, false, false, false, false, false, false, false]) rfl (by kernel_rfl) (by kernel_rfl) (by kernel_rfl) S72 rfl (wn rfl) rfl rfl (fun _ _ => (y_fieldAddr rfl rfl (fa108_0 _ _ _))) ?_
      refine wA_take (v := .int .i64 ro) (i := 7) (n := 12) (listed' := #[true, true, true, true, true, false, true, true, false, false, false, false, false, false, false, false, false, false, false]) rfl (by kernel_rfl) (by kernel_rfl) (by kernel_rfl) S72 rfl (wn rfl) rfl rfl (fun _ Sx79 => (y_load rfl rfl (r_load Try.underlying3 rfl (St.cl 1 Sx79 rfl rfl)))) ?_
      refine wA_take (v := .bool false) (i := 8) (n := 11) (listed' := #[true, true, true, true, true, false, true, true, true, false, false, false, false, false, false, false, false, false, false]) rfl (by kernel_rfl) (by kernel_rfl) (by kernel_rfl) S72 rfl (wn rfl) rfl rfl (fun _ _ => (y_binop rfl rfl rfl (r_eql_f hr3))) ?_
      refine wA_one (n := 10) (r := 5) (by kernel_rfl) ?_
      refine wN_call_ (i := 5) (listed' := #[true, true, true, true, true, true, true, true, true, false, false, false, false, false, false, false, false, false, false]) rfl rfl (vs := [.slice A13 m (c - k)]) (wn rfl) rfl rfl (e_call (vs := [.slice A13 m (c - k)]) rfl en157 ⟨rfl, trivial⟩) (CloneV_calls A13 m (c - k) _ _ (St.rd 0 S72 rfl) (evCells_one _) (by unfold reachBytes; omega)) ?_
      rintro _ w85 ⟨A81, c82, rfl, hb83, ho84⟩
      refine ⟨_, rfl, ?_⟩
      have S86 := S72.onOwn hb83 ho84; clear hb83 ho84 S72
      change St _ _ _ [.own 37 6 (.slice A81 m c82) m (((l.drop k).take m).flatMap Ev.cells), _, _, _] at S86
      refine ⟨(St.del 0 S86), ?_⟩
      refine wA_take (v := .bool false) (i := 9) (n := 9) (listed' := #[true, true, true, true, true, true, true, true, true, true, false, false, false, false, false, false, false, false, false]) rfl (by kernel_rfl) (by kernel_rfl) (by kernel_rfl) (St.del 0 S86) rfl (wn rfl) rfl rfl (fun _ _ => (y_move rfl rfl)) ?_
      refine wA_skip (i := 10) (n := 8) (listed' := #[true, true, true, true, true, true, true, true, true, true, true, false, false, false, false, false, false, false, false]) rfl (by kernel_rfl) (by kernel_rfl) (by kernel_rfl) (St.del 0 S86) rfl (wg rfl rfl rfl rfl) rfl rfl ?_
      refine wA_skip (i := 11) (n := 7) (listed' := #[true, true, true, true, true, true, true, true, true, true, true, true, false, false, false, false, false, false, false]) rfl (by kernel_rfl) (by kernel_rfl) (by kernel_rfl) (St.del 0 S86) rfl (wg rfl rfl rfl rfl) rfl rfl ?_
      refine wA_skip (i := 12) (n := 6) (listed' := #[true, true, true, true, true, true, true, true, true, true, true, true, true, false, false, false, false, false, false]) rfl (by kernel_rfl) (by kernel_rfl) (by kernel_rfl) (St.del 0 S86) rfl (wg rfl rfl rfl rfl) rfl rfl ?_
      refine wA_skip (i := 13) (n := 5) (listed' := #[true, true, true, true, true, true, true, true, true, true, true, true, true, true, false, false, false, false, false]) rfl (by kernel_rfl) (by kernel_rfl) (by kernel_rfl) (St.del 0 S86) rfl (wg rfl rfl rfl rfl) rfl rfl ?_
      refine wA_skip (i := 14) (n := 4) (listed' := #[true, true, true, true, true, true, true, true, true, true, true, true, true, true, true, false, false, false, false]) rfl (by kernel_rfl) (by kernel_rfl) (by kernel_rfl) (St.del 0 S86) rfl (wg rfl rfl rfl rfl) rfl rfl ?_
      refine wA_take (v := .bool false) (i := 15) (n := 3) (listed' := #[true, true, true, true, true, true, true, true, true, true, true, true, true, true, true, true, false, false, false]) rfl (by kernel_rfl) (by kernel_rfl) (by kernel_rfl) (St.del 0 S86) rfl (wn rfl) rfl rfl (fun _ _ => (y_pick_f rfl rfl rfl)) ?_
      refine wA_take (v := .slice A81 m c82) (i := 16) (n := 2) (listed' := #[true, true, true, true, true, true, true, true, true, true, true, true, true, true, true, true, true, false, false]) rfl (by kernel_rfl) (by kernel_rfl) (by kernel_rfl) (St.del 0 S86) rfl (wn rfl) rfl rfl (fun _ _ => (y_assign rfl rfl)) ?_
      refine wA_take (v := .bool false) (i := 17) (n := 1) (listed' := #[true, true, true, true, true, true, true, true, true, true, true, true, true, true, true, true, true, true, false]) rfl (by kernel_rfl) (by kernel_rfl) (by kernel_rfl) (St.del 0 S86) rfl (wn rfl) rfl rfl (fun _ _ => (y_assign rfl rfl)) ?_
      refine wA_take (v := .int .i64 0) (i := 18) (n := 0) (listed' := #[true, true, true, true, true, true, true, true, true, true, true, true, true, true, true, true, true, true, true]) rfl (by kernel_rfl) (by kernel_rfl) (by kernel_rfl) (St.del 0 S86) rfl (wn rfl) rfl rfl (fun _ _ => (y_assign rfl rfl)) ?_
      refine wA_done (by kernel_rfl) ?_
      refine wQ_sub (l' := [(4, _), (5, _), (6, _)]) ⟨rfl, rfl, rfl, trivial⟩ (wQ_then (wC_ret (wQ_post (rs := [.tmp 4, .tmp 5, .tmp 6]) (vs := [.slice A81 m c82, .bool false, .int .i64 0]) rfl ⟨rfl, rfl, rfl, trivial⟩ ?_)))
      have S92 : St w.heap.size w w85 [_] := (St.del 1 (St.del 2 (St.del 3 S86))); clear S86
      have S93 := S92.sealAll 0 rfl; clear S92
      change St _ _ _ [.rdo 6 A81 m (((l.drop k).take m).flatMap Ev.cells)] at S93
      have hlm : ((l.drop k).take m).length = m := by rw [List.length_take, List.length_drop]; omega
      rw [part_ok (b := ⟨ro, ep, fr, tg, rd, l⟩) h7 (by dsimp only; omega) (by dsimp only; omega) hm]
      dsimp only
      rw [decide_eq_false (fun h => hr3 h.1)]
      refine ⟨A81, c82, ?_, ?_⟩
      · dsimp only; rw [hlm]; rfl
      · dsimp only; rw [hlm]; exact S93
  ·refine wL_val (v := .bool true) (wn rfl) rfl rfl (y_binop rfl rfl rfl (r_neq_t h8)) ?_
   refine wL_val (wn rfl) rfl rfl (y_move rfl rfl) ?_
   refine wL_val (v := .pointer (some ⟨b1, 0, none⟩)) (wg rfl rfl rfl rfl) rfl rfl (y_fieldAddr rfl rfl (fa108_0 _ _ _)) ?_
   refine wL_val (wg rfl rfl rfl rfl) rfl rfl (y_load rfl rfl (r_load Try.underlying3 rfl (St.cl 0 S5 rfl rfl))) ?_
   by_cases h94 : ro = 3
   ·refine wL_val (v := .bool false) (wg rfl rfl rfl rfl) rfl rfl (y_binop rfl rfl rfl (r_neq_f h94)) ?_
    refine wL_val (wn rfl) rfl rfl (y_pick_t rfl rfl rfl) ?_
    refine wL_nil (wQ_sub (l' := [(1, _), (2, _), (4, _), (5, _), (6, _), (21, _)]) ⟨rfl, rfl, rfl, rfl, rfl, rfl, trivial⟩ (wQ_then (wC_cond_f rfl (wC_skip (wQ_then (wC_seq (wC_seq (wC_region (wL_val (wn rfl) rfl rfl (y_move rfl rfl) ?_)))))))))
    by_cases h95 : hv < 0
    ·refine wL_val (v := .bool true) (wn rfl) rfl rfl (y_binop rfl rfl rfl (r_lss_t h95)) ?_
     refine wL_val (wn rfl) rfl rfl (y_move rfl rfl) ?_
     refine wL_skip (wg rfl rfl rfl rfl) rfl rfl ?_
     refine wL_skip (wg rfl rfl rfl rfl) rfl rfl ?_
     refine wL_skip (wg rfl rfl rfl rfl) rfl rfl ?_
     refine wL_skip (wg rfl rfl rfl rfl) rfl rfl ?_
     refine wL_skip (wg rfl rfl rfl rfl) rfl rfl ?_
     refine wL_val (wn rfl) rfl rfl (y_pick_t rfl rfl rfl) ?_
     refine wL_nil (wQ_sub (l' := [(1, _), (2, _), (4, _), (5, _), (6, _), (30, _)]) ⟨rfl, rfl, rfl, rfl, rfl, rfl, trivial⟩ (wQ_then (wC_cond_t rfl (wC_seq (wC_region (wL_val (wn rfl) rfl rfl (y_assign rfl rfl) ?_))))))
     refine wL_val (wn rfl) rfl rfl (y_assign rfl rfl) ?_
     refine wL_val (wn rfl) rfl rfl (y_assign rfl rfl) ?_
     refine wL_nil (wQ_sub (l' := [(4, _), (5, _), (6, _)]) ⟨rfl, rfl, rfl, trivial⟩ (wQ_then (wC_ret (wQ_then_ret (wQ_post (rs := [.tmp 4, .tmp 5, .tmp 6]) (vs := [.slice none 0 0, .bool false, .int .i64 2]) rfl ⟨rfl, rfl, rfl, trivial⟩ ?_)))))
     have S96 : St w.heap.size w w4 [] := (St.del 0 (St.del 1 S5)); clear S5
     rw [show partM ⟨ro, ep, fr, tg, rd, l⟩ hv = ([], false, 2) from by unfold partM; (try dsimp only); (repeat' (first | rfl | omega | split)) <;> (simp only [Prod.mk.injEq, Brt.mk.injEq, and_true, true_and, and_self]; omega)]
     exact ⟨none, 0, rfl, rdo_nil S96⟩
    ·refine wL_val (v := .bool false) (wn rfl) rfl rfl (y_binop rfl rfl rfl (r_lss_f h95)) ?_
     refine wL_val (wn rfl) rfl rfl (y_move rfl rfl) ?_
     refine wL_val (wg rfl rfl rfl rfl) rfl rfl (y_move rfl rfl) ?_
     refine wL_val (v := .pointer (some ⟨b1, 5, none⟩)) (wg rfl rfl rfl rfl) rfl rfl (y_fieldAddr rfl rfl (fa108_5 _ _ _)) ?_
     refine wL_val (wg rfl rfl rfl rfl) rfl rfl (y_load rfl rfl (r_load Try.underlying57 rfl (St.cl 0 S5 rfl rfl))) ?_
     refine wL_val (v := .int .i64 ((l.length : Nat) : Int)) (wg rfl rfl rfl rfl) rfl rfl (y_builtin (vs := [.slice A l.length c]) rfl ⟨rfl, trivial⟩ fun _ => r_len rfl Try.underlying57) ?_
     by_cases h97 : ((l.length : Nat) : Int) < hv
     ·refine wL_val (v := .bool true) (wg rfl rfl rfl rfl) rfl rfl (y_binop rfl rfl rfl (r_gtr_t h97)) ?_
      refine wL_val (wn rfl) rfl rfl (y_pick_f rfl rfl rfl) ?_
      refine wL_nil (wQ_sub (l' := [(1, _), (2, _), (4, _), (5, _), (6, _), (30, _)]) ⟨rfl, rfl, rfl, rfl, rfl, rfl, trivial⟩ (wQ_then (wC_cond_t rfl (wC_seq (wC_region (wL_val (wn rfl) rfl rfl (y_assign rfl rfl) ?_))))))
      refine wL_val (wn rfl) rfl rfl (y_assign rfl rfl) ?_
      refine wL_val (wn rfl) rfl rfl (y_assign rfl rfl) ?_
      refine wL_nil (wQ_sub (l' := [(4, _), (5, _), (6, _)]) ⟨rfl, rfl, rfl, trivial⟩ (wQ_then (wC_ret (wQ_then_ret (wQ_post (rs := [.tmp 4, .tmp 5, .tmp 6]) (vs := [.slice none 0 0, .bool false, .int .i64 2]) rfl ⟨rfl, rfl, rfl, trivial⟩ ?_)))))
      have S98 : St w.heap.size w w4 [] := (St.del 0 (St.del 1 S5)); clear S5
      rw [show partM ⟨ro, ep, fr, tg, rd, l⟩ hv = ([], false, 2) from by unfold partM; (try dsimp only); (repeat' (first | rfl | omega | split)) <;> (simp only [Prod.mk.injEq, Brt.mk.injEq, and_true, true_and, and_self]; omega)]
      exact ⟨none, 0, rfl, rdo_nil S98⟩
     ·refine wL_val (v := .bool false) (wg rfl rfl rfl rfl) rfl rfl (y_binop rfl rfl rfl (r_gtr_f h97)) ?_
      refine wL_val (wn rfl) rfl rfl (y_pick_f rfl rfl rfl) ?_
      refine wL_nil (wQ_sub (l' := [(1, _), (2, _), (4, _), (5, _), (6, _), (30, _)]) ⟨rfl, rfl, rfl, rfl, rfl, rfl, trivial⟩ (wQ_then (wC_cond_f rfl (wC_skip (wQ_then (wC_seq ?_))))))
      obtain ⟨k, rfl⟩ : ∃ k : Nat, hv = k := ⟨hv.toNat, by omega⟩
      obtain ⟨m, hm⟩ : ∃ m, min (k + 3) l.length = k + m := ⟨min (k + 3) l.length - k, by omega⟩
      refine wC_region (wL_val (wn rfl) rfl rfl (y_move rfl rfl) ?_)
      refine wL_val (v := .int .i64 ((k + 3 : Nat) : Int)) (wn rfl) rfl rfl (y_binop rfl rfl rfl (r_add (by omega) (by omega))) ?_
      refine wL_val (v := .pointer (some ⟨b1, 5, none⟩)) (wn rfl) rfl rfl (y_fieldAddr rfl rfl (fa108_5 _ _ _)) ?_
      refine wL_val (wn rfl) rfl rfl (y_load rfl rfl (r_load Try.underlying57 rfl (St.cl 0 S5 rfl rfl))) ?_
      refine wL_val (v := .int .i64 ((l.length : Nat) : Int)) (wn rfl) rfl rfl (y_builtin (vs := [.slice A l.length c]) rfl ⟨rfl, trivial⟩ fun _ => r_len rfl Try.underlying57) ?_
      refine wL_val (v := .int .i64 ((k + m : Nat) : Int)) (wn rfl) rfl rfl (y_builtin (vs := [.int .i64 ((k + 3 : Nat) : Int), .int .i64 ((l.length : Nat) : Int)]) rfl ⟨rfl, rfl, trivial⟩ fun _ => by rw [r_minN, hm]) ?_
      refine wL_val (wn rfl) rfl rfl (y_assign rfl rfl) ?_
      refine wL_nil (wQ_sub (l' := [(1, _), (2, _), (4, _), (5, _), (6, _), (8, _)]) ⟨rfl, rfl, rfl, rfl, rfl, rfl, trivial⟩ (wQ_then ?_))
      obtain ⟨A99, hs100, hr101, hk102⟩ := eslice (P := Try.prog) (t := 57) (enc := Ev.cells) (s := 6) (fun _ => rfl) (A := A) (b := l) (n := l.length) (c := c) (lo := (some (.int .i64 ((k : Nat) : Int)))) (hi := (some (.int .i64 ((k + m : Nat) : Int)))) (mx := none) (l := k) (k := k + m) (q := c) (m := m) (c' := c - k) Try.underlying57 inf37 (sb_lh k (k + m) rfl rfl (by omega) (by omega)) (by omega) (by omega) (by omega) (by omega) rfl
      have S103 := S5.addRd (hr101 _ _ (S5.all 1 _ rfl)); clear S5
      change St _ _ _ [.rd 6 A99 m (((l.drop k).take m).flatMap Ev.cells), _, _] at S103
      by_cases hr3 : ro = 3
      ·by_cases hend : ((k + m : Nat) : Int) = ((l.length : Nat) : Int)
       ·refine wC_seq ?_
        have S104 := S103.drew; clear S103
        refine wC_any_ (C := fun w' => St w.heap.size w w' [.rd 6 A99 m (((l.drop k).take m).flatMap Ev.cells), .blk b1 #[.int .i64 ro, .int .i64 ep, .int .i64 fr, .int .i64 tg, .int .i64 rd, .slice A l.length c] 108, .rd 6 A l.length ((l).flatMap Ev.cells)]) (n := 19) (listed := #[false, false, false, false, false, false, false, false, false, false, false, false, false, false, false, false, false, false, false]) mixed rfl rfl ?_
        refine wA_take (v := .pointer (some ⟨b1, 5, none⟩)) (i := 0) (n := 18) (listed' := #[true, false, false, false, false, false, false, false, false, false, false, false, false, false, false, false, false, false, false]) rfl (by kernel_rfl) (by kernel_rfl) (by kernel_rfl) S104 rfl (wn rfl) rfl rfl (fun _ _ => (y_fieldAddr rfl rfl (fa108_5 _ _ _))) ?_
        refine wA_take (v := .slice A l.length c) (i := 1) (n := 17) (listed' := #[true, true, false, false, false, false, false, false, false, false, false, false, false, false, false, false, false, false, false]) rfl (by kernel_rfl) (by kernel_rfl) (by kernel_rfl) S104 rfl (wn rfl) rfl rfl (fun _ Sx106 => (y_load rfl rfl (r_load Try.underlying57 rfl (St.cl 1 Sx106 rfl rfl)))) ?_
        refine wA_take (v := .int .i64 ((k : Nat) : Int)) (i := 2) (n := 16) (listed' := #[true, true, true, false, false, false, false, false, false, false, false, false, false, false, false, false, false, false, false]) rfl (by kernel_rfl) (by kernel_rfl) (by kernel_rfl) S104 rfl (wn rfl) rfl rfl (fun _ _ => (y_move rfl rfl)) ?_
        refine wA_take (v := .int .i64 ((k + m : Nat) : Int)) (i := 3) (n := 15) (listed' := #[true, true, true, true, false, false, false, false, false, false, false, false, false, false, false, false, false, false, false]) rfl (by kernel_rfl) (by kernel_rfl) (by kernel_rfl) S104 rfl (wn rfl) rfl rfl (fun _ _ => (y_move rfl rfl)) ?_
        refine wA_take (v := .slice A99 m (c - k)) (i := 4) (n := 14) (listed' := #[true, true, true, true, true, false, false, false, false, false, false, false, false, false, false, false, false, false, false]) rfl (by kernel_rfl) (by kernel_rfl) (by kernel_rfl) S104 rfl (wn rfl) rfl rfl (fun _ _ => (y_slice rfl rfl (evo_s rfl) (evo_s rfl) evo_n (hs100 _))) ?_
        refine wA_take (v := .pointer (some ⟨b1, 0, none⟩)) (i := 6) (n := 13) (listed' := #[true, true, true, true, true, false, true, false, false, false, false, false, false, false, false, false, false, false, false]) rfl (by kernel_rfl) (by kernel_rfl) (by kernel_rfl) S104 rfl (wn rfl) rfl rfl (fun _ _ => (y_fieldAddr rfl rfl (fa108_0 _ _ _))) ?_
        refine wA_take (v := .int .i64 ro) (i := 7) (n := 12) (listed' := #[true, true, true, true, true, false, true, true, false, false, false, false, false, false, false, false, false, false, false]) rfl (by kernel_rfl) (by kernel_rfl) (by kernel_rfl) S104 rfl (wn rfl) rfl rfl (fun _ Sx111 => (y_load rfl rfl (r_load Try.underlying3 rfl (St.cl 1 Sx111 rfl rfl)))) ?_
        refine wA_take (v := .bool true) (i := 8) (n := 11) (listed' := #[true, true, true, true, true, false, true, true, true, false, false, false, false, false, false, false, false, false, false]) rfl (by kernel_rfl) (by kernel_rfl) (by kernel_rfl) S104 rfl (wn rfl) rfl rfl (fun _ _ => (y_binop rfl rfl rfl (r_eql_t hr3))) ?_
        refine wA_one (n := 10) (r := 5) (by kernel_rfl) ?_
        refine wN_call_ (i := 5) (listed' := #[true, true, true, true, true, true, true, true, true, false, false, false, false, false, false, false, false, false, false]) rfl rfl (vs := [.slice A99 m (c - k)]) (wn rfl) rfl rfl (e_call (vs := [.slice A99 m (c - k)]) rfl en157 ⟨rfl, trivial⟩) (CloneV_calls A99 m (c - k) _ _ (St.rd 0 S104 rfl) (evCells_one _) (by unfold reachBytes; omega)) ?_
        rintro _ w117 ⟨A113, c114, rfl, hb115, ho116⟩
        refine ⟨_, rfl, ?_⟩
        have S118 := S104.onOwn hb115 ho116; clear hb115 ho116 S104
        change St _ _ _ [.own 37 6 (.slice A113 m c114) m (((l.drop k).take m).flatMap Ev.cells), _, _, _] at S118
        refine ⟨(St.del 0 S118), ?_⟩
        refine wA_take (v := .bool true) (i := 9) (n := 9) (listed' := #[true, true, true, true, true, true, true, true, true, true, false, false, false, false, false, false, false, false, false]) rfl (by kernel_rfl) (by kernel_rfl) (by kernel_rfl) (St.del 0 S118) rfl (wn rfl) rfl rfl (fun _ _ => (y_move rfl rfl)) ?_
        refine wA_take (v := .int .i64 ((k + m : Nat) : Int)) (i := 10) (n := 8) (listed' := #[true, true, true, true, true, true, true, true, true, true, true, false, false, false, false, false, false, false, false]) rfl (by kernel_rfl) (by kernel_rfl) (by kernel_rfl) (St.del 0 S118) rfl (wg rfl rfl rfl rfl) rfl rfl (fun _ _ => (y_move rfl rfl)) ?_
        refine wA_take (v := .pointer (some ⟨b1, 5, none⟩)) (i := 11) (n := 7) (listed' := #[true, true, true, true, true, true, true, true, true, true, true, true, false, false, false, false, false, false, false]) rfl (by kernel_rfl) (by kernel_rfl) (by kernel_rfl) (St.del 0 S118) rfl (wg rfl rfl rfl rfl) rfl rfl (fun _ _ => (y_fieldAddr rfl rfl (fa108_5 _ _ _))) ?_
        refine wA_take (v := .slice A l.length c) (i := 12) (n := 6) (listed' := #[true, true, true, true, true, true, true, true, true, true, true, true, true, false, false, false, false, false, false]) rfl (by kernel_rfl) (by kernel_rfl) (by kernel_rfl) (St.del 0 S118) rfl (wg rfl rfl rfl rfl) rfl rfl (fun _ Sx122 => (y_load rfl rfl (r_load Try.underlying57 rfl (St.cl 1 Sx122 rfl rfl)))) ?_
        refine wA_take (v := .int .i64 ((l.length : Nat) : Int)) (i := 13) (n := 5) (listed' := #[true, true, true, true, true, true, true, true, true, true, true, true, true, true, false, false, false, false, false]) rfl (by kernel_rfl) (by kernel_rfl) (by kernel_rfl) (St.del 0 S118) rfl (wg rfl rfl rfl rfl) rfl rfl (fun _ _ => (y_builtin (vs := [.slice A l.length c]) rfl ⟨rfl, trivial⟩ fun _ => r_len rfl Try.underlying57)) ?_
        refine wA_take (v := .bool true) (i := 14) (n := 4) (listed' := #[true, true, true, true, true, true, true, true, true, true, true, true, true, true, true, false, false, false, false]) rfl (by kernel_rfl) (by kernel_rfl) (by kernel_rfl) (St.del 0 S118) rfl (wg rfl rfl rfl rfl) rfl rfl (fun _ _ => (y_binop rfl rfl rfl (r_eql_t hend))) ?_
        refine wA_take (v := .bool true) (i := 15) (n := 3) (listed' := #[true, true, true, true, true, true, true, true, true, true, true, true, true, true, true, true, false, false, false]) rfl (by kernel_rfl) (by kernel_rfl) (by kernel_rfl) (St.del 0 S118) rfl (wn rfl) rfl rfl (fun _ _ => (y_pick_t rfl rfl rfl)) ?_
        refine wA_take (v := .slice A113 m c114) (i := 16) (n := 2) (listed' := #[true, true, true, true, true, true, true, true, true, true, true, true, true, true, true, true, true, false, false]) rfl (by kernel_rfl) (by kernel_rfl) (by kernel_rfl) (St.del 0 S118) rfl (wn rfl) rfl rfl (fun _ _ => (y_assign rfl rfl)) ?_
        refine wA_take (v := .bool true) (i := 17) (n := 1) (listed' := #[true, true, true, true, true, true, true, true, true, true, true, true, true, true, true, true, true, true, false]) rfl (by kernel_rfl) (by kernel_rfl) (by kernel_rfl) (St.del 0 S118) rfl (wn rfl) rfl rfl (fun _ _ => (y_assign rfl rfl)) ?_
        refine wA_take (v := .int .i64 0) (i := 18) (n := 0) (listed' := #[true, true, true, true, true, true, true, true, true, true, true, true, true, true, true, true, true, true, true]) rfl (by kernel_rfl) (by kernel_rfl) (by kernel_rfl) (St.del 0 S118) rfl (wn rfl) rfl rfl (fun _ _ => (y_assign rfl rfl)) ?_
        refine wA_done (by kernel_rfl) ?_
        refine wQ_sub (l' := [(4, _), (5, _), (6, _)]) ⟨rfl, rfl, rfl, trivial⟩ (wQ_then (wC_ret (wQ_post (rs := [.tmp 4, .tmp 5, .tmp 6]) (vs := [.slice A113 m c114, .bool true, .int .i64 0]) rfl ⟨rfl, rfl, rfl, trivial⟩ ?_)))
        have S129 : St w.heap.size w w117 [_] := (St.del 1 (St.del 2 (St.del 3 S118))); clear S118
        have S130 := S129.sealAll 0 rfl; clear S129
        change St _ _ _ [.rdo 6 A113 m (((l.drop k).take m).flatMap Ev.cells)] at S130
        have hlm : ((l.drop k).take m).length = m := by rw [List.length_take, List.length_drop]; omega
        rw [part_ok (b := ⟨ro, ep, fr, tg, rd, l⟩) h7 (by dsimp only; omega) (by dsimp only; omega) hm]
        dsimp only
        rw [decide_eq_true ⟨hr3, by omega⟩]
        refine ⟨A113, c114, ?_, ?_⟩
        · dsimp only; rw [hlm]; rfl
        · dsimp only; rw [hlm]; exact S130
       ·refine wC_seq ?_
        have S131 := S103.drew; clear S103
        refine wC_any_ (C := fun w' => St w.heap.size w w' [.rd 6 A99 m (((l.drop k).take m).flatMap Ev.cells), .blk b1 #[.int .i64 ro, .int .i64 ep, .int .i64 fr, .int .i64 tg, .int .i64 rd, .slice A l.length c] 108, .rd 6 A l.length ((l).flatMap Ev.cells)]) (n := 19) (listed := #[false, false, false, false, false, false, false, false, false, false, false, false, false, false, false, false, false, false, false]) mixed rfl rfl ?_
        refine wA_take (v := .pointer (some ⟨b1, 5, none⟩)) (i := 0) (n := 18) (listed' := #[true, false, false, false, false, false, false, false, false, false, false, false, false, false, false, false, false, false, false]) rfl (by kernel_rfl) (by kernel_rfl) (by kernel_rfl) S131 rfl (wn rfl) rfl rfl (fun _ _ => (y_fieldAddr rfl rfl (fa108_5 _ _ _))) ?_
        refine wA_take (v := .slice A l.length c) (i := 1) (n := 17) (listed' := #[true, true, false, false, false, false, false, false, false, false, false, false, false, false, false, false, false, false, false]) rfl (by kernel_rfl) (by kernel_rfl) (by kernel_rfl) S131 rfl (wn rfl) rfl rfl (fun _ Sx133 => (y_load rfl rfl (r_load Try.underlying57 rfl (St.cl 1 Sx133 rfl rfl)))) ?_
        refine wA_take (v := .int .i64 ((k : Nat) : Int)) (i := 2) (n := 16) (listed' := #[true, true, true, false, false, false, false, false, false, false, false, false, false, false, false, false, false, false, false]) rfl (by kernel_rfl) (by kernel_rfl) (by kernel_rfl) S131 rfl (wn rfl) rfl rfl (fun _ _ => (y_move rfl rfl)) ?_
        refine wA_take (v := .int .i64 ((k + m : Nat) : Int)) (i := 3) (n := 15) (listed' := #[true, true, true, true, false, false, false, false, false, false, false, false, false, false, false, false, false, false, false]) rfl (by kernel_rfl) (by kernel_rfl) (by kernel_rfl) S131 rfl (wn rfl) rfl rfl (fun _ _ => (y_move rfl rfl)) ?_
        refine wA_take (v := .slice A99 m (c - k)) (i := 4) (n := 14) (listed' := #[true, true, true, true, true, false, false, false, false, false, false, false, false, false, false, false, false, false, false]) rfl (by kernel_rfl) (by kernel_rfl) (by kernel_rfl) S131 rfl (wn rfl) rfl rfl (fun _ _ => (y_slice rfl rfl (evo_s rfl) (evo_s rfl) evo_n (hs100 _))) ?_
        refine wA_take (v := .pointer (some ⟨b1, 0, none⟩)) (i := 6) (n := 13) (listed' := #[true, true, true, true, true, false, true, false, false, false, false, false, false, false, false, false, false, false, false]) rfl (by kernel_rfl) (by kernel_rfl) (by kernel_rfl) S131 rfl (wn rfl) rfl rfl (fun _ _ => (y_fieldAddr rfl rfl (fa108_0 _ _ _))) ?_
        refine wA_take (v := .int .i64 ro) (i := 7) (n := 12) (listed' := #[true, true, true, true, true, false, true, true, false, false, false, false, false, false, false, false, false, false, false]) rfl (by kernel_rfl) (by kernel_rfl) (by kernel_rfl) S131 rfl (wn rfl) rfl rfl (fun _ Sx138 => (y_load rfl rfl (r_load Try.underlying3 rfl (St.cl 1 Sx138 rfl rfl)))) ?_
        refine wA_take (v := .bool true) (i := 8) (n := 11) (listed' := #[true, true, true, true, true, false, true, true, true, false, false, false, false, false, false, false, false, false, false]) rfl (by kernel_rfl) (by kernel_rfl) (by kernel_rfl) S131 rfl (wn rfl) rfl rfl (fun _ _ => (y_binop rfl rfl rfl (r_eql_t hr3))) ?_
        refine wA_one (n := 10) (r := 5) (by kernel_rfl) ?_
        refine wN_call_ (i := 5) (listed' := #[true, true, true, true, true, true, true, true, true, false, false, false, false, false, false, false, false, false, false]) rfl rfl (vs := [.slice A99 m (c - k)]) (wn rfl) rfl rfl (e_call (vs := [.slice A99 m (c - k)]) rfl en157 ⟨rfl, trivial⟩) (CloneV_calls A99 m (c - k) _ _ (St.rd 0 S131 rfl) (evCells_one _) (by unfold reachBytes; omega)) ?_
        rintro _ w144 ⟨A140, c141, rfl, hb142, ho143⟩
        refine ⟨_, rfl, ?_⟩
        have S145 := S131.onOwn hb142 ho143; clear hb142 ho143 S131
        change St _ _ _ [.own 37 6 (.slice A140 m c141) m (((l.drop k).take m).flatMap Ev.cells), _, _, _] at S145
        refine ⟨(St.del 0 S145), ?_⟩
        refine wA_take (v := .bool true) (i := 9) (n := 9) (listed' := #[true, true, true, true, true, true, true, true, true, true, false, false, false, false, false, false, false, false, false]) rfl (by kernel_rfl) (by kernel_rfl) (by kernel_rfl) (St.del 0 S145) rfl (wn rfl) rfl rfl (fun _ _ => (y_move rfl rfl)) ?_
        refine wA_take (v := .int .i64 ((k + m : Nat) : Int)) (i := 10) (n := 8) (listed' := #[true, true, true, true, true, true, true, true, true, true, true, false, false, false, false, false, false, false, false]) rfl (by kernel_rfl) (by kernel_rfl) (by kernel_rfl) (St.del 0 S145) rfl (wg rfl rfl rfl rfl) rfl rfl (fun _ _ => (y_move rfl rfl)) ?_
        refine wA_take (v := .pointer (some ⟨b1, 5, none⟩)) (i := 11) (n := 7) (listed' := #[true, true, true, true, true, true, true, true, true, true, true, true, false, false, false, false, false, false, false]) rfl (by kernel_rfl) (by kernel_rfl) (by kernel_rfl) (St.del 0 S145) rfl (wg rfl rfl rfl rfl) rfl rfl (fun _ _ => (y_fieldAddr rfl rfl (fa108_5 _ _ _))) ?_
        refine wA_take (v := .slice A l.length c) (i := 12) (n := 6) (listed' := #[true, true, true, true, true, true, true, true, true, true, true, true, true, false, false, false, false, false, false]) rfl (by kernel_rfl) (by kernel_rfl) (by kernel_rfl) (St.del 0 S145) rfl (wg rfl rfl rfl rfl) rfl rfl (fun _ Sx149 => (y_load rfl rfl (r_load Try.underlying57 rfl (St.cl 1 Sx149 rfl rfl)))) ?_
        refine wA_take (v := .int .i64 ((l.length : Nat) : Int)) (i := 13) (n := 5) (listed' := #[true, true, true, true, true, true, true, true, true, true, true, true, true, true, false, false, false, false, false]) rfl (by kernel_rfl) (by kernel_rfl) (by kernel_rfl) (St.del 0 S145) rfl (wg rfl rfl rfl rfl) rfl rfl (fun _ _ => (y_builtin (vs := [.slice A l.length c]) rfl ⟨rfl, trivial⟩ fun _ => r_len rfl Try.underlying57)) ?_
        refine wA_take (v := .bool false) (i := 14) (n := 4) (listed' := #[true, true, true, true, true, true, true, true, true, true, true, true, true, true, true, false, false, false, false]) rfl (by kernel_rfl) (by kernel_rfl) (by kernel_rfl) (St.del 0 S145) rfl (wg rfl rfl rfl rfl) rfl rfl (fun _ _ => (y_binop rfl rfl rfl (r_eql_f hend))) ?_
        refine wA_take (v := .bool false) (i := 15) (n := 3) (listed' := #[true, true, true, true, true, true, true, true, true, true, true, true, true, true, true, true, false, false, false]) rfl (by kernel_rfl) (by kernel_rfl) (by kernel_rfl) (St.del 0 S145) rfl (wn rfl) rfl rfl (fun _ _ => (y_pick_t rfl rfl rfl)) ?_
        refine wA_take (v := .slice A140 m c141) (i := 16) (n := 2) (listed' := #[true, true, true, true, true, true, true, true, true, true, true, true, true, true, true, true, true, false, false]) rfl (by kernel_rfl) (by kernel_rfl) (by kernel_rfl) (St.del 0 S145) rfl (wn rfl) rfl rfl (fun _ _ => (y_assign rfl rfl)) ?_
        refine wA_take (v := .bool false) (i := 17) (n := 1) (listed' := #[true, true, true, true, true, true, true, true, true, true, true, true, true, true, true, true, true, true, false]) rfl (by kernel_rfl) (by kernel_rfl) (by kernel_rfl) (St.del 0 S145) rfl (wn rfl) rfl rfl (fun _ _ => (y_assign rfl rfl)) ?_
        refine wA_take (v := .int .i64 0) (i := 18) (n := 0) (listed' := #[true, true, true, true, true, true, true, true, true, true, true, true, true, true, true, true, true, true, true]) rfl (by kernel_rfl) (by kernel_rfl) (by kernel_rfl) (St.del 0 S145) rfl (wn rfl) rfl rfl (fun _ _ => (y_assign rfl rfl)) ?_
        refine wA_done (by kernel_rfl) ?_
        refine wQ_sub (l' := [(4, _), (5, _), (6, _)]) ⟨rfl, rfl, rfl, trivial⟩ (wQ_then (wC_ret (wQ_post (rs := [.tmp 4, .tmp 5, .tmp 6]) (vs := [.slice A140 m c141, .bool false, .int .i64 0]) rfl ⟨rfl, rfl, rfl, trivial⟩ ?_)))
        have S156 : St w.heap.size w w144 [_] := (St.del 1 (St.del 2 (St.del 3 S145))); clear S145
        have S157 := S156.sealAll 0 rfl; clear S156
        change St _ _ _ [.rdo 6 A140 m (((l.drop k).take m).flatMap Ev.cells)] at S157
        have hlm : ((l.drop k).take m).length = m := by rw [List.length_take, List.length_drop]; omega
        rw [part_ok (b := ⟨ro, ep, fr, tg, rd, l⟩) h7 (by dsimp only; omega) (by dsimp only; omega) hm]
        dsimp only
        rw [decide_eq_false (fun h => hend (by omega))]
        refine ⟨A140, c141, ?_, ?_⟩
        · dsimp only; rw [hlm]; rfl
        · dsimp only; rw [hlm]; exact S157
      ·refine wC_seq ?_
       have S158 := S103.drew; clear S103
       refine wC_any_ (C := fun w' => St w.heap.size w w' [.rd 6 A99 m (((l.drop k).take m).flatMap Ev.cells), .blk b1 #[.int .i64 ro, .int .i64 ep, .int .i64 fr, .int .i64 tg, .int .i64 rd, .slice A l.length c] 108, .rd 6 A l.length ((l).flatMap Ev.cells)]) (n := 19) (listed := #[false, false, false, false, false, false, false, false, false, false, false, false, false, false, false, false, false, false, false]) mixed rfl rfl ?_
       refine wA_take (v := .pointer (some ⟨b1, 5, none⟩)) (i := 0) (n := 18) (listed' := #[true, false, false, false, false, false, false, false, false, false, false, false, false, false, false, false, false, false, false]) rfl (by kernel_rfl) (by kernel_rfl) (by kernel_rfl) S158 rfl (wn rfl) rfl rfl (fun _ _ => (y_fieldAddr rfl rfl (fa108_5 _ _ _))) ?_
       refine wA_take (v := .slice A l.length c) (i := 1) (n := 17) (listed' := #[true, true, false, false, false, false, false, false, false, false, false, false, false, false, false, false, false, false, false]) rfl (by kernel_rfl) (by kernel_rfl) (by kernel_rfl) S158 rfl (wn rfl) rfl rfl (fun _ Sx160 => (y_load rfl rfl (r_load Try.underlying57 rfl (St.cl 1 Sx160 rfl rfl)))) ?_
       refine wA_take (v := .int .i64 ((k : Nat) : Int)) (i := 2) (n := 16) (listed' := #[true, true, true, false, false, false, false, false, false, false, false, false, false, false, false, false, false, false, false]) rfl (by kernel_rfl) (by kernel_rfl) (by kernel_rfl) S158 rfl (wn rfl) rfl rfl (fun _ _ => (y_move rfl rfl)) ?_
       refine wA_take (v := .int .i64 ((k + m : Nat) : Int)) (i := 3) (n := 15) (listed' := #[true, true, true, true, false, false, false, false, false, false, false, false, false, false, false, false, false, false, false]) rfl (by kernel_rfl) (by kernel_rfl) (by kernel_rfl) S158 rfl (wn rfl) rfl rfl (fun _ _ => (y_move rfl rfl)) ?_
       refine wA_take (v := .slice A99 m (c - k)) (i := 4) (n := 14) (listed' := #[true, true, true, true, true, false, false, false, false, false, false, false, false, false, false, false, false, false, false]) rfl (by kernel_rfl) (by kernel_rfl) (by kernel_rfl) S158 rfl (wn rfl) rfl rfl (fun _ _ => (y_slice rfl rfl (evo_s rfl) (evo_s rfl) evo_n (hs100 _))) ?_
       refine wA_take (v := .pointer (some ⟨b1, 0, none⟩)) (i := 6) (n := 13) (listed' := #[true, true, true, true, true, false, true, false, false, false, false, false, false, false, false, false, false, false, false]) rfl (by kernel_rfl) (by kernel_rfl) (by kernel_rfl) S158 rfl (wn rfl) rfl rfl (fun _ _ => (y_fieldAddr rfl rfl (fa108_0 _ _ _))) ?_
       refine wA_take (v := .int .i64 ro) (i := 7) (n := 12) (listed' := #[true, true, true, true, true, false, true, true, false, false, false, false, false, false, false, false, false, false, false]) rfl (by kernel_rfl) (by kernel_rfl) (by kernel_rfl) S158 rfl (wn rfl) rfl rfl (fun _ Sx165 => (y_load rfl rfl (r_load Try.underlying3 rfl (St.cl 1 Sx165 rfl rfl)))) ?_
       refine wA_take (v := .bool false) (i := 8) (n := 11) (listed' := #[true, true, true, true, true, false, true, true, true, false, false, false, false, false, false, false, false, false, false]) rfl (by kernel_rfl) (by kernel_rfl) (by kernel_rfl) S158 rfl (wn rfl) rfl rfl (fun _ _ => (y_binop rfl rfl rfl (r_eql_f hr3))) ?_
       refine wA_one (n := 10) (r := 5) (by kernel_rfl) ?_
       refine wN_call_ (i := 5) (listed' := #[true, true, true, true, true, true, true, true, true, false, false, false, false, false, false, false, false, false, false]) rfl rfl (vs := [.slice A99 m (c - k)]) (wn rfl) rfl rfl (e_call (vs := [.slice A99 m (c - k)]) rfl en157 ⟨rfl, trivial⟩) (CloneV_calls A99 m (c - k) _ _ (St.rd 0 S158 rfl) (evCells_one _) (by unfold reachBytes; omega)) ?_
       rintro _ w171 ⟨A167, c168, rfl, hb169, ho170⟩
       refine ⟨_, rfl, ?_⟩
       have S172 := S158.onOwn hb169 ho170; clear hb169 ho170 S158
       change St _ _ _ [.own 37 6 (.slice A167 m c168) m (((l.drop k).take m).flatMap Ev.cells), _, _, _] at S172
       refine ⟨(St.del 0 S172), ?_⟩
       refine wA_take (v := .bool false) (i := 9) (n := 9) (listed' := #[true, true, true, true, true, true, true, true, true, true, false, false, false, false, false, false, false, false, false]) rfl (by kernel_rfl) (by kernel_rfl) (by kernel_rfl) (St.del 0 S172) rfl (wn rfl) rfl rfl (fun _ _ => (y_move rfl rfl)) ?_
       refine wA_skip (i := 10) (n := 8) (listed' := #[true, true, true, true, true, true, true, true, true, true, true, false, false, false, false, false, false, false, false]) rfl (by kernel_rfl) (by kernel_rfl) (by kernel_rfl) (St.del 0 S172) rfl (wg rfl rfl rfl rfl) rfl rfl ?_
       refine wA_skip (i := 11) (n := 7) (listed' := #[true, true, true, true, true, true, true, true, true, true, true, true, false, false, false, false, false, false, false]) rfl (by kernel_rfl) (by kernel_rfl) (by kernel_rfl) (St.del 0 S172) rfl (wg rfl rfl rfl rfl) rfl rfl ?_
       refine wA_skip (i := 12) (n := 6) (listed' := #[true, true, true, true, true, true, true, true, true, true, true, true, true, false, false, false, false, false, false]) rfl (by kernel_rfl) (by kernel_rfl) (by kernel_rfl) (St.del 0 S172) rfl (wg rfl rfl rfl rfl) rfl rfl ?_
       refine wA_skip (i := 13) (n := 5) (listed' := #[true, true, true, true, true, true, true, true, true, true, true, true, true, true, false, false, false, false, false]) rfl (by kernel_rfl) (by kernel_rfl) (by kernel_rfl) (St.del 0 S172) rfl (wg rfl rfl rfl rfl) rfl rfl ?_
       refine wA_skip (i := 14) (n := 4) (listed' := #[true, true, true, true, true, true, true, true, true, true, true, true, true, true, true, false, false, false, false]) rfl (by kernel_rfl) (by kernel_rfl) (by kernel_rfl) (St.del 0 S172) rfl (wg rfl rfl rfl rfl) rfl rfl ?_
       refine wA_take (v := .bool false) (i := 15) (n := 3) (listed' := #[true, true, true, true, true, true, true, true, true, true, true, true, true, true, true, true, false, false, false]) rfl (by kernel_rfl) (by kernel_rfl) (by kernel_rfl) (St.del 0 S172) rfl (wn rfl) rfl rfl (fun _ _ => (y_pick_f rfl rfl rfl)) ?_
       refine wA_take (v := .slice A167 m c168) (i := 16) (n := 2) (listed' := #[true, true, true, true, true, true, true, true, true, true, true, true, true, true, true, true, true, false, false]) rfl (by kernel_rfl) (by kernel_rfl) (by kernel_rfl) (St.del 0 S172) rfl (wn rfl) rfl rfl (fun _ _ => (y_assign rfl rfl)) ?_
       refine wA_take (v := .bool false) (i := 17) (n := 1) (listed' := #[true, true, true, true, true, true, true, true, true, true, true, true, true, true, true, true, true, true, false]) rfl (by kernel_rfl) (by kernel_rfl) (by kernel_rfl) (St.del 0 S172) rfl (wn rfl) rfl rfl (fun _ _ => (y_assign rfl rfl)) ?_
       refine wA_take (v := .int .i64 0) (i := 18) (n := 0) (listed' := #[true, true, true, true, true, true, true, true, true, true, true, true, true, true, true, true, true, true, true]) rfl (by kernel_rfl) (by kernel_rfl) (by kernel_rfl) (St.del 0 S172) rfl (wn rfl) rfl rfl (fun _ _ => (y_assign rfl rfl)) ?_
       refine wA_done (by kernel_rfl) ?_
       refine wQ_sub (l' := [(4, _), (5, _), (6, _)]) ⟨rfl, rfl, rfl, trivial⟩ (wQ_then (wC_ret (wQ_post (rs := [.tmp 4, .tmp 5, .tmp 6]) (vs := [.slice A167 m c168, .bool false, .int .i64 0]) rfl ⟨rfl, rfl, rfl, trivial⟩ ?_)))
       have S178 : St w.heap.size w w171 [_] := (St.del 1 (St.del 2 (St.del 3 S172))); clear S172
       have S179 := S178.sealAll 0 rfl; clear S178
       change St _ _ _ [.rdo 6 A167 m (((l.drop k).take m).flatMap Ev.cells)] at S179
       have hlm : ((l.drop k).take m).length = m := by rw [List.length_take, List.length_drop]; omega
       rw [part_ok (b := ⟨ro, ep, fr, tg, rd, l⟩) h7 (by dsimp only; omega) (by dsimp only; omega) hm]
       dsimp only
       rw [decide_eq_false (fun h => hr3 h.1)]
       refine ⟨A167, c168, ?_, ?_⟩
       · dsimp only; rw [hlm]; rfl
       · dsimp only; rw [hlm]; exact S179
   ·refine wL_val (v := .bool true) (wg rfl rfl rfl rfl) rfl rfl (y_binop rfl rfl rfl (r_neq_t h94)) ?_
    refine wL_val (wn rfl) rfl rfl (y_pick_t rfl rfl rfl) ?_
    refine wL_nil (wQ_sub (l' := [(1, _), (2, _), (4, _), (5, _), (6, _), (21, _)]) ⟨rfl, rfl, rfl, rfl, rfl, rfl, trivial⟩ (wQ_then (wC_cond_t rfl (wC_seq (wC_region (wL_val (wn rfl) rfl rfl (y_assign rfl rfl) ?_))))))
    refine wL_val (wn rfl) rfl rfl (y_assign rfl rfl) ?_
    refine wL_val (wn rfl) rfl rfl (y_assign rfl rfl) ?_
    refine wL_nil (wQ_sub (l' := [(4, _), (5, _), (6, _)]) ⟨rfl, rfl, rfl, trivial⟩ (wQ_then (wC_ret (wQ_then_ret (wQ_post (rs := [.tmp 4, .tmp 5, .tmp 6]) (vs := [.slice none 0 0, .bool false, .int .i64 7]) rfl ⟨rfl, rfl, rfl, trivial⟩ ?_)))))
    have S180 : St w.heap.size w w4 [] := (St.del 0 (St.del 1 S5)); clear S5
    rw [show partM ⟨ro, ep, fr, tg, rd, l⟩ hv = ([], false, 7) from by unfold partM; (try dsimp only); (repeat' (first | rfl | omega | split)) <;> (simp only [Prod.mk.injEq, Brt.mk.injEq, and_true, true_and, and_self]; omega)]
    exact ⟨none, 0, rfl, rdo_nil S180⟩
 ·refine wL_val (v := .bool true) (wn rfl) rfl rfl (y_binop rfl rfl rfl (r_neq_t h7)) ?_
  refine wL_nil (wQ_sub (l' := [(1, _), (2, _), (4, _), (5, _), (6, _), (7, _), (12, _)]) ⟨rfl, rfl, rfl, rfl, rfl, rfl, rfl, trivial⟩ (wQ_then (wC_cond_t rfl (wC_seq (wC_region (wL_val (wn rfl) rfl rfl (y_move rfl rfl) ?_))))))
  refine wL_val (wn rfl) rfl rfl (y_assign rfl rfl) ?_
  refine wL_val (wn rfl) rfl rfl (y_assign rfl rfl) ?_
  refine wL_val (wn rfl) rfl rfl (y_assign rfl rfl) ?_
  refine wL_nil (wQ_sub (l' := [(4, _), (5, _), (6, _)]) ⟨rfl, rfl, rfl, trivial⟩ (wQ_then (wC_ret (wQ_then_ret (wQ_post (rs := [.tmp 4, .tmp 5, .tmp 6]) (vs := [.slice none 0 0, .bool false, .int .i64 (brtFault ⟨ro, ep, fr, tg, rd, l⟩)]) rfl ⟨rfl, rfl, rfl, trivial⟩ ?_)))))
  have S181 : St w.heap.size w w4 [] := (St.del 0 (St.del 1 S5)); clear S5
  rw [show partM ⟨ro, ep, fr, tg, rd, l⟩ hv = ([], false, brtFault ⟨ro, ep, fr, tg, rd, l⟩) from by unfold partM; (try dsimp only); (repeat' (first | rfl | omega | split)) <;> (simp only [Prod.mk.injEq, Brt.mk.injEq, and_true, true_and, and_self]; omega)]
  exact ⟨none, 0, rfl, rdo_nil S181⟩
end Go.Proofs.Ytkjlafpafmihaaa

namespace Go.Proofs.Ytkjlafpafmihaaa
open Go.ChangeShapes Go.WideShapes Go.RowKit

set_option maxRecDepth 100000 in
set_option maxHeartbeats 2000000 in
theorem PartOf_calls (ro ep fr tg rd : Int) (A : Option Addr) (c : Nat) (l : List Ev) (hv : Int) (w : World) (h : Rd w w.heap.size 6 A l.length (evCells l)) (hb : l.length * 48 ≤ reachBytes) :
    Calls Try.prog 85 #[.agg #[.int .i64 ro, .int .i64 ep, .int .i64 fr, .int .i64 tg, .int .i64 rd, .slice A l.length c], .int .i64 hv] w (PartPost w (partM ⟨ro, ep, fr, tg, rd, l⟩ hv)) := by
 have S := (St.start w).addRd h; clear h
 have hb2 := hb
 unfold reachBytes at hb2
 refine calls_of_wC (N := 52) (vs := [.agg #[.int .i64 ro, .int .i64 ep, .int .i64 fr, .int .i64 tg, .int .i64 rd, .slice A l.length c], .int .i64 hv]) Try.func85 rfl rfl rfl ?_
 refine wC_sub (l' := [(0, .agg #[.int .i64 ro, .int .i64 ep, .int .i64 fr, .int .i64 tg, .int .i64 rd, .slice A l.length c]), (1, .int .i64 hv)]) ⟨rfl, rfl, trivial⟩ (wC_seq (wC_region (wL_new (V := fun b => .pointer (some ⟨b, 0, none⟩)) (row := #[.int .i64 ro, .int .i64 ep, .int .i64 fr, .int .i64 tg, .int .i64 rd, .slice A l.length c]) (t := 108) S (wn rfl) rfl rfl (d_box rfl rfl rfl) ?_))); intro b1 w2 S3; clear S
 refine wL_val (wn rfl) rfl rfl (y_assign rfl rfl) ?_
 refine wL_val (wn rfl) rfl rfl (y_assign rfl rfl) ?_
 refine wL_val (wn rfl) rfl rfl (y_assign rfl rfl) ?_
 refine wL_nil (wQ_sub (l' := [(1, _), (2, _), (4, _), (5, _), (6, _)]) ⟨rfl, rfl, rfl, rfl, rfl, trivial⟩ (wQ_then (wC_seq (wC_region (wL_val (wn rfl) rfl rfl (y_load rfl rfl (r_load_row 0 S3 rfl Try.underlying108 rfl inf108 rfl)) ?_)))))
 refine wL_val (wn rfl) rfl rfl (y_move rfl rfl) ?_
 refine wL_call (vs := [.agg #[.int .i64 ro, .int .i64 ep, .int .i64 fr, .int .i64 tg, .int .i64 rd, .slice A l.length c], .int .i64 hv]) (wn rfl) rfl rfl (e_call (vs := [.agg #[.int .i64 ro, .int .i64 ep, .int .i64 fr, .int .i64 tg, .int .i64 rd, .slice A l.length c], .int .i64 hv]) rfl en158 ⟨rfl, rfl, trivial⟩) (leavingFault_calls ro ep fr tg rd A c l hv _ (St.rd 1 S3 rfl) (by omega)) ?_
 rintro _ w4 ⟨rfl, hb6⟩
 refine ⟨_, rfl, ?_⟩
 have S5 := S3.on hb6; clear hb6 S3
 refine wL_val (wn rfl) rfl rfl (y_assign rfl rfl) ?_
 refine wL_nil (wQ_sub (l' := [(1, _), (2, _), (4, _), (5, _), (6, _), (7, _)]) ⟨rfl, rfl, rfl, rfl, rfl, rfl, trivial⟩ (wQ_then (wC_seq (wC_seq (wC_region (wL_val (wn rfl) rfl rfl (y_move rfl rfl) ?_))))))
 by_cases h7 : leavM ⟨ro, ep, fr, tg, rd, l⟩ hv = 0
 ·have hlv := leav_zero h7
  have hsh := (bf_zero hlv.1).1
  unfold shapeB at hsh
  have hln := tellM_len (bf_zero hlv.1).2
  dsimp only at hlv hsh hln
  refine wL_val (v := .bool false) (wn rfl) rfl rfl (y_binop rfl rfl rfl (r_neq_f h7)) ?_
  refine wL_nil (wQ_sub (l' := [(1, _), (2, _), (4, _), (5, _), (6, _), (7, _), (14, _)]) ⟨rfl, rfl, rfl, rfl, rfl, rfl, rfl, trivial⟩ (wQ_then (wC_cond_f rfl (wC_skip (wQ_then (wC_seq ?_))))))
  obtain ⟨k, rfl⟩ : ∃ k : Nat, hv = k := ⟨hv.toNat, by omega⟩
  obtain ⟨m, hm⟩ : ∃ m, min (k + 3) l.length = k + m := ⟨min (k + 3) l.length - k, by omega⟩
  refine wC_region (wL_val (wn rfl) rfl rfl (y_assign rfl rfl) ?_)
  refine wL_nil (wQ_sub (l' := [(1, _), (2, _), (4, _), (5, _), (6, _), (8, _)]) ⟨rfl, rfl, rfl, rfl, rfl, rfl, trivial⟩ (wQ_then (wC_seq (wC_seq (wC_region (wL_val (wn rfl) rfl rfl (y_move rfl rfl) ?_))))))
  refine wL_val (wn rfl) rfl rfl (y_assign rfl rfl) ?_
  refine wL_nil (wQ_sub (l' := [(1, _), (2, _), (4, _), (5, _), (6, _), (8, _), (9, _)]) ⟨rfl, rfl, rfl, rfl, rfl, rfl, rfl, trivial⟩ (wQ_then (wC_block ?_)))
  have S8 := S5.nil 37 6; clear S5
  change St _ _ _ [.own 37 6 (.slice none 0 0) 0 ((([] : List Ev)).flatMap Ev.cells), _, _] at S8
  refine wC_loop (X := Nat × (Option Addr) × Nat) (fun xv => [(1, .int .i64 ((k : Nat) : Int)), (2, .pointer (some ⟨b1, 0, none⟩)), (4, .slice none 0 0), (5, .bool false), (6, .int .i64 0), (8, .slice xv.2.1 xv.1 xv.2.2), (9, .int .i64 ((k + xv.1 : Nat) : Int))]) (fun xv wr => (xv.1 ≤ m) ∧ St w.heap.size w wr [.own 37 6 (.slice xv.2.1 xv.1 xv.2.2) xv.1 (((l.drop k).take xv.1).flatMap Ev.cells), .blk b1 #[.int .i64 ro, .int .i64 ep, .int .i64 fr, .int .i64 tg, .int .i64 rd, .slice A l.length c] 108, .rd 6 A l.length ((l).flatMap Ev.cells)]) (fun xv => m - xv.1) (0, none, 0) ?_ ?_ ?_
  ·exact ⟨Nat.zero_le _, S8⟩
  ·exact ⟨rfl, rfl, rfl, rfl, rfl, rfl, rfl, trivial⟩
  ·rintro ⟨j, Ab, cb⟩ w9 ⟨hi11, S10⟩
   try dsimp only at hi11 S10; clear S8
   refine wC_sub (l' := [(1, .int .i64 ((k : Nat) : Int)), (2, .pointer (some ⟨b1, 0, none⟩)), (4, .slice none 0 0), (5, .bool false), (6, .int .i64 0), (8, .slice Ab j cb), (9, .int .i64 ((k + j : Nat) : Int))]) ⟨rfl, rfl, rfl, rfl, rfl, rfl, rfl, trivial⟩ (wC_seq (wC_seq (wC_region (wL_val (wn rfl) rfl rfl (y_move rfl rfl) ?_))))
   refine wL_val (v := .pointer (some ⟨b1, 5, none⟩)) (wn rfl) rfl rfl (y_fieldAddr rfl rfl (fa108_5 _ _ _)) ?_
   refine wL_val (wn rfl) rfl rfl (y_load rfl rfl (r_load Try.underlying57 rfl (St.cl 1 S10 rfl rfl))) ?_
   refine wL_val (v := .int .i64 ((l.length : Nat) : Int)) (wn rfl) rfl rfl (y_builtin (vs := [.slice A l.length c]) rfl ⟨rfl, trivial⟩ fun _ => r_len rfl Try.underlying57) ?_
   by_cases h12 : ((k + j : Nat) : Int) < ((l.length : Nat) : Int)
   ·refine wL_val (v := .bool true) (wn rfl) rfl rfl (y_binop rfl rfl rfl (r_lss_t h12)) ?_
    refine wL_val (wn rfl) rfl rfl (y_move rfl rfl) ?_
    refine wL_val (wg rfl rfl rfl rfl) rfl rfl (y_move rfl rfl) ?_
    refine wL_val (wg rfl rfl rfl rfl) rfl rfl (y_move rfl rfl) ?_
    refine wL_val (v := .int .i64 ((k + 3 : Nat) : Int)) (wg rfl rfl rfl rfl) rfl rfl (y_binop rfl rfl rfl (r_add (by omega) (by omega))) ?_
    by_cases h13 : ((k + j : Nat) : Int) < ((k + 3 : Nat) : Int)
    ·refine wL_val (v := .bool true) (wg rfl rfl rfl rfl) rfl rfl (y_binop rfl rfl rfl (r_lss_t h13)) ?_
     refine wL_val (wn rfl) rfl rfl (y_pick_t rfl rfl rfl) ?_
     refine wL_nil (wQ_sub (l' := [(1, _), (2, _), (4, _), (5, _), (6, _), (8, _), (9, _), (27, _)]) ⟨rfl, rfl, rfl, rfl, rfl, rfl, rfl, rfl, trivial⟩ (wQ_then (wC_cond_t rfl (wC_skip (wQ_then (wC_seq (wC_block (wC_region (wL_val (wn rfl) rfl rfl (y_move rfl rfl) ?_)))))))))
     refine wL_val (v := .pointer (some ⟨b1, 5, none⟩)) (wn rfl) rfl rfl (y_fieldAddr rfl rfl (fa108_5 _ _ _)) ?_
     refine wL_val (wn rfl) rfl rfl (y_load rfl rfl (r_load Try.underlying57 rfl (St.cl 1 S10 rfl rfl))) ?_
     refine wL_val (wn rfl) rfl rfl (y_move rfl rfl) ?_
     obtain ⟨b14, o15, rfl⟩ := Rd.addr (St.rd 2 S10 rfl) (by omega)
     obtain ⟨x16, hx17⟩ : ∃ x, (l)[k + j]? = some x := ⟨_, List.getElem?_eq_getElem (by have := (St.rd 2 S10 rfl).1; rw [fm_len (sz := 6) (fun _ => rfl)] at this; omega)⟩
     refine wL_val (v := .pointer (some ⟨b14, o15 + (k + j) * 6, none⟩)) (wn rfl) rfl rfl (y_indexAddr rfl rfl rfl (r_indexAddr (k + j) Try.underlying57 inf37 (by omega) (by omega))) ?_
     refine wL_val (wn rfl) rfl rfl (y_load rfl rfl (r_load_agg (cs := Ev.cells x16) Try.underlying37 rfl inf37 rfl (Rd.rg2 (St.rd 2 S10 rfl) (fun _ _ h => fm_get (enc := Ev.cells) (sz := 6) (fun _ => rfl) hx17 h)))) ?_
     refine wL_new (V := fun b => .slice (some ⟨b, 0, none⟩) 1 1) (row := #[.int .i64 x16.kind, .int .i64 x16.producer, .int .i64 x16.id, .int .i64 x16.body, .int .i64 x16.hepoch, .int .i64 x16.hno]) (t := 37) S10 (wn rfl) rfl rfl (d_buildSlice (vs := [(0, .agg #[.int .i64 x16.kind, .int .i64 x16.producer, .int .i64 x16.id, .int .i64 x16.body, .int .i64 x16.hepoch, .int .i64 x16.hno])]) rfl ⟨rfl, rfl, trivial⟩ (by kernel_rfl)) ?_; intro b18 w19 S20; clear S10
     refine wL_append (news := [.int .i64 x16.kind, .int .i64 x16.producer, .int .i64 x16.id, .int .i64 x16.body, .int .i64 x16.hepoch, .int .i64 x16.hno]) (xs' := ((l.drop k).take (j + 1)).flatMap Ev.cells) 1 S20 (wn rfl) rfl rfl rfl rfl rfl rfl (St.bld (xs := [.int .i64 x16.kind, .int .i64 x16.producer, .int .i64 x16.id, .int .i64 x16.body, .int .i64 x16.hepoch, .int .i64 x16.hno]) 0 S20 rfl rfl rfl) Try.underlying57 infz37 rfl (by decide) (oneAll rfl) (by simp only [maxLen]; omega) (by omega) (fm_snoc (enc := Ev.cells) (take_snoc_ (by rw [List.getElem?_drop]; exact hx17)) rfl) ?_; intro A21 c22 w23 hc25 hm26 S24; clear S20
     change St _ _ _ [_, .own 37 6 (.slice A21 (j + 1) c22) (j + 1) (((l.drop k).take (j + 1)).flatMap Ev.cells), _, _] at S24
     refine wL_val (wn rfl) rfl rfl (y_assign rfl rfl) ?_
     refine wL_nil (wQ_sub (l' := [(1, _), (2, _), (4, _), (5, _), (6, _), (8, _), (9, _)]) ⟨rfl, rfl, rfl, rfl, rfl, rfl, rfl, trivial⟩ (wQ_blk_n (wQ_then (wC_region (wL_val (wn rfl) rfl rfl (y_move rfl rfl) ?_)))))
     refine wL_val (v := .int .i64 (((k + j) + 1 : Nat) : Int)) (wn rfl) rfl rfl (y_binop rfl rfl rfl (r_add (by omega) (by omega))) ?_
     refine wL_val (wn rfl) rfl rfl (y_assign rfl rfl) ?_
     refine wL_nil (wQ_sub (l' := [(1, _), (2, _), (4, _), (5, _), (6, _), (8, _), (9, _)]) ⟨rfl, rfl, rfl, rfl, rfl, rfl, rfl, trivial⟩ ?_)
     have S27 : St w.heap.size w w23 [_, _, _] := (St.del 0 S24); clear S24
     refine wQ_round (j + 1, A21, c22) ?_ ⟨rfl, rfl, rfl, rfl, rfl, rfl, rfl, trivial⟩ (by first | omega | (dsimp only; omega))
     exact ⟨(by dsimp only; omega), S27⟩
    ·refine wL_val (v := .bool false) (wg rfl rfl rfl rfl) rfl rfl (y_binop rfl rfl rfl (r_lss_f h13)) ?_
     refine wL_val (wn rfl) rfl rfl (y_pick_t rfl rfl rfl) ?_
     refine wL_nil (wQ_sub (l' := [(1, _), (2, _), (4, _), (5, _), (6, _), (8, _), (9, _), (27, _)]) ⟨rfl, rfl, rfl, rfl, rfl, rfl, rfl, rfl, trivial⟩ (wQ_then (wC_cond_f rfl (wC_exit (wQ_then_exit (wQ_then_exit (wQ_blk_same (wQ_then ?_))))))))
     obtain rfl : m = j := by omega
     by_cases hr3 : ro = 3
     ·by_cases hend : ((k + m : Nat) : Int) = ((l.length : Nat) : Int)
      ·refine wC_seq (wC_quiet S10 mixed (by kernel_rfl) ?_)
       refine wU_val (v := .slice Ab m cb) (wn rfl) rfl rfl (fun _ _ => (y_move rfl rfl)) ?_
       refine wU_val (v := .pointer (some ⟨b1, 0, none⟩)) (wn rfl) rfl rfl (fun _ _ => (y_fieldAddr rfl rfl (fa108_0 _ _ _))) ?_
       refine wU_val (v := .int .i64 ro) (wn rfl) rfl rfl (fun _ Sx30 => (y_load rfl rfl (r_load Try.underlying3 rfl (St.cl 1 Sx30 rfl rfl)))) ?_
       refine wU_val (v := .bool true) (wn rfl) rfl rfl (fun _ _ => (y_binop rfl rfl rfl (r_eql_t hr3))) ?_
       refine wU_val (v := .bool true) (wn rfl) rfl rfl (fun _ _ => (y_move rfl rfl)) ?_
       refine wU_val (v := .int .i64 ((k : Nat) : Int)) (wg rfl rfl rfl rfl) rfl rfl (fun _ _ => (y_move rfl rfl)) ?_
       refine wU_val (v := .slice Ab m cb) (wg rfl rfl rfl rfl) rfl rfl (fun _ _ => (y_move rfl rfl)) ?_
       refine wU_val (v := .int .i64 ((m : Nat) : Int)) (wg rfl rfl rfl rfl) rfl rfl (fun _ _ => (y_builtin (vs := [.slice Ab m cb]) rfl ⟨rfl, trivial⟩ fun _ => r_len rfl Try.underlying57)) ?_
       refine wU_val (v := .int .i64 ((k + m : Nat) : Int)) (wg rfl rfl rfl rfl) rfl rfl (fun _ _ => (y_binop rfl rfl rfl (r_add (by omega) (by omega)))) ?_
       refine wU_val (v := .pointer (some ⟨b1, 5, none⟩)) (wg rfl rfl rfl rfl) rfl rfl (fun _ _ => (y_fieldAddr rfl rfl (fa108_5 _ _ _))) ?_
       refine wU_val (v := .slice A l.length c) (wg rfl rfl rfl rfl) rfl rfl (fun _ Sx38 => (y_load rfl rfl (r_load Try.underlying57 rfl (St.cl 1 Sx38 rfl rfl)))) ?_
       refine wU_val (v := .int .i64 ((l.length : Nat) : Int)) (wg rfl rfl rfl rfl) rfl rfl (fun _ _ => (y_builtin (vs := [.slice A l.length c]) rfl ⟨rfl, trivial⟩ fun _ => r_len rfl Try.underlying57)) ?_
       refine wU_val (v := .bool true) (wg rfl rfl rfl rfl) rfl rfl (fun _ _ => (y_binop rfl rfl rfl (r_eql_t hend))) ?_
       refine wU_val (v := .bool true) (wn rfl) rfl rfl (fun _ _ => (y_pick_t rfl rfl rfl)) ?_
       refine wU_val (v := .slice Ab m cb) (wn rfl) rfl rfl (fun _ _ => (y_assign rfl rfl)) ?_
       refine wU_val (v := .bool true) (wn rfl) rfl rfl (fun _ _ => (y_assign rfl rfl)) ?_
       refine wU_val (v := .int .i64 0) (wn rfl) rfl rfl (fun _ _ => (y_assign rfl rfl)) ?_
       refine wU_nil fun w45 S46 => ?_; clear S10
       refine wQ_sub (l' := [(4, _), (5, _), (6, _)]) ⟨rfl, rfl, rfl, trivial⟩ (wQ_then (wC_ret (wQ_post (rs := [.tmp 4, .tmp 5, .tmp 6]) (vs := [.slice Ab m cb, .bool true, .int .i64 0]) rfl ⟨rfl, rfl, rfl, trivial⟩ ?_)))
       have S47 : St w.heap.size w w45 [_] := (St.del 1 (St.del 2 S46)); clear S46
       have S48 := S47.sealAll 0 rfl; clear S47
       change St _ _ _ [.rdo 6 Ab m (((l.drop k).take m).flatMap Ev.cells)] at S48
       have hlm : ((l.drop k).take m).length = m := by rw [List.length_take, List.length_drop]; omega
       rw [part_ok (b := ⟨ro, ep, fr, tg, rd, l⟩) hlv.1 (by dsimp only; omega) (by dsimp only; omega) hm]
       dsimp only
       rw [decide_eq_true ⟨hr3, by omega⟩]
       refine ⟨Ab, cb, ?_, ?_⟩
       · dsimp only; rw [hlm]; rfl
       · dsimp only; rw [hlm]; exact S48
      ·refine wC_seq (wC_quiet S10 mixed (by kernel_rfl) ?_)
       refine wU_val (v := .slice Ab m cb) (wn rfl) rfl rfl (fun _ _ => (y_move rfl rfl)) ?_
       refine wU_val (v := .pointer (some ⟨b1, 0, none⟩)) (wn rfl) rfl rfl (fun _ _ => (y_fieldAddr rfl rfl (fa108_0 _ _ _))) ?_
       refine wU_val (v := .int .i64 ro) (wn rfl) rfl rfl (fun _ Sx51 => (y_load rfl rfl (r_load Try.underlying3 rfl (St.cl 1 Sx51 rfl rfl)))) ?_
       refine wU_val (v := .bool true) (wn rfl) rfl rfl (fun _ _ => (y_binop rfl rfl rfl (r_eql_t hr3))) ?_
       refine wU_val (v := .bool true) (wn rfl) rfl rfl (fun _ _ => (y_move rfl rfl)) ?_
       refine wU_val (v := .int .i64 ((k : Nat) : Int)) (wg rfl rfl rfl rfl) rfl rfl (fun _ _ => (y_move rfl rfl)) ?_
       refine wU_val (v := .slice Ab m cb) (wg rfl rfl rfl rfl) rfl rfl (fun _ _ => (y_move rfl rfl)) ?_
       refine wU_val (v := .int .i64 ((m : Nat) : Int)) (wg rfl rfl rfl rfl) rfl rfl (fun _ _ => (y_builtin (vs := [.slice Ab m cb]) rfl ⟨rfl, trivial⟩ fun _ => r_len rfl Try.underlying57)) ?_
       refine wU_val (v := .int .i64 ((k + m : Nat) : Int)) (wg rfl rfl rfl rfl) rfl rfl (fun _ _ => (y_binop rfl rfl rfl (r_add (by omega) (by omega)))) ?_
       refine wU_val (v := .pointer (some ⟨b1, 5, none⟩)) (wg rfl rfl rfl rfl) rfl rfl (fun _ _ => (y_fieldAddr rfl rfl (fa108_5 _ _ _))) ?_
       refine wU_val (v := .slice A l.length c) (wg rfl rfl rfl rfl) rfl rfl (fun _ Sx59 => (y_load rfl rfl (r_load Try.underlying57 rfl (St.cl 1 Sx59 rfl rfl)))) ?_
       refine wU_val (v := .int .i64 ((l.length : Nat) : Int)) (wg rfl rfl rfl rfl) rfl rfl (fun _ _ => (y_builtin (vs := [.slice A l.length c]) rfl ⟨rfl, trivial⟩ fun _ => r_len rfl Try.underlying57)) ?_
       refine wU_val (v := .bool false) (wg rfl rfl rfl rfl) rfl rfl (fun _ _ => (y_binop rfl rfl rfl (r_eql_f hend))) ?_
       refine wU_val (v := .bool false) (wn rfl) rfl rfl (fun _ _ => (y_pick_t rfl rfl rfl)) ?_
       refine wU_val (v := .slice Ab m cb) (wn rfl) rfl rfl (fun _ _ => (y_assign rfl rfl)) ?_
       refine wU_val (v := .bool false) (wn rfl) rfl rfl (fun _ _ => (y_assign rfl rfl)) ?_
       refine wU_val (v := .int .i64 0) (wn rfl) rfl rfl (fun _ _ => (y_assign rfl rfl)) ?_
       refine wU_nil fun w66 S67 => ?_; clear S10
       refine wQ_sub (l' := [(4, _), (5, _), (6, _)]) ⟨rfl, rfl, rfl, trivial⟩ (wQ_then (wC_ret (wQ_post (rs := [.tmp 4, .tmp 5, .tmp 6]) (vs := [.slice Ab m cb, .bool false, .int .i64 0]) rfl ⟨rfl, rfl, rfl, trivial⟩ ?_)))
       have S68 : St w.heap.size w w66 [_] := (St.del 1 (St.del 2 S67)); clear S67
       have S69 := S68.sealAll 0 rfl; clear S68
       change St _ _ _ [.rdo 6 Ab m (((l.drop k).take m).flatMap Ev.cells)] at S69
       have hlm : ((l.drop k).take m).length = m := by rw [List.length_take, List.length_drop]; omega
       rw [part_ok (b := ⟨ro, ep, fr, tg, rd, l⟩) hlv.1 (by dsimp only; omega) (by dsimp only; omega) hm]
       dsimp only
       rw [decide_eq_false (fun h => hend (by omega))]
       refine ⟨Ab, cb, ?_, ?_⟩
       · dsimp only; rw [hlm]; rfl
       · dsimp only; rw [hlm]; exact S69
     ·refine wC_seq (wC_quiet S10 mixed (by kernel_rfl) ?_)
      refine wU_val (v := .slice Ab m cb) (wn rfl) rfl rfl (fun _ _ => (y_move rfl rfl)) ?_
      refine wU_val (v := .pointer (some ⟨b1, 0, none⟩)) (wn rfl) rfl rfl (fun _ _ => (y_fieldAddr rfl rfl (fa108_0 _ _ _))) ?_
      refine wU_val (v := .int .i64 ro) (wn rfl) rfl rfl (fun _ Sx72 => (y_load rfl rfl (r_load Try.underlying3 rfl (St.cl 1 Sx72 rfl rfl)))) ?_
      refine wU_val (v := .bool false) (wn rfl) rfl rfl (fun _ _ => (y_binop rfl rfl rfl (r_eql_f hr3))) ?_
      refine wU_val (v := .bool false) (wn rfl) rfl rfl (fun _ _ => (y_move rfl rfl)) ?_
      refine wU_skip (wg rfl rfl rfl rfl) rfl rfl ?_
      refine wU_skip (wg rfl rfl rfl rfl) rfl rfl ?_
      refine wU_skip (wg rfl rfl rfl rfl) rfl rfl ?_
      refine wU_skip (wg rfl rfl rfl rfl) rfl rfl ?_
      refine wU_skip (wg rfl rfl rfl rfl) rfl rfl ?_
      refine wU_skip (wg rfl rfl rfl rfl) rfl rfl ?_
      refine wU_skip (wg rfl rfl rfl rfl) rfl rfl ?_
      refine wU_skip (wg rfl rfl rfl rfl) rfl rfl ?_
      refine wU_val (v := .bool false) (wn rfl) rfl rfl (fun _ _ => (y_pick_f rfl rfl rfl)) ?_
      refine wU_val (v := .slice Ab m cb) (wn rfl) rfl rfl (fun _ _ => (y_assign rfl rfl)) ?_
      refine wU_val (v := .bool false) (wn rfl) rfl rfl (fun _ _ => (y_assign rfl rfl)) ?_
      refine wU_val (v := .int .i64 0) (wn rfl) rfl rfl (fun _ _ => (y_assign rfl rfl)) ?_
      refine wU_nil fun w79 S80 => ?_; clear S10
      refine wQ_sub (l' := [(4, _), (5, _), (6, _)]) ⟨rfl, rfl, rfl, trivial⟩ (wQ_then (wC_ret (wQ_post (rs := [.tmp 4, .tmp 5, .tmp 6]) (vs := [.slice Ab m cb, .bool false, .int .i64 0]) rfl ⟨rfl, rfl, rfl, trivial⟩ ?_)))
      have S81 : St w.heap.size w w79 [_] := (St.del 1 (St.del 2 S80)); clear S80
      have S82 := S81.sealAll 0 rfl; clear S81
      change St _ _ _ [.rdo 6 Ab m (((l.drop k).take m).flatMap Ev.cells)] at S82
      have hlm : ((l.drop k).take m).length = m := by rw [List.length_take, List.length_drop]; omega
      rw [part_ok (b := ⟨ro, ep, fr, tg, rd, l⟩) hlv.1 (by dsimp only; omega) (by dsimp only; omega) hm]
      dsimp only
      rw [decide_eq_false (fun h => hr3 h.1)]
      refine ⟨Ab, cb, ?_, ?_⟩
      · dsimp only; rw [hlm]; rfl
      · dsimp only; rw [hlm]; exact S82
   ·refine wL_val (v := .bool false) (wn rfl) rfl rfl (y_binop rfl rfl rfl (r_lss_f h12)) ?_
    refine wL_val (wn rfl) rfl rfl (y_move rfl rfl) ?_
    refine wL_skip (wg rfl rfl rfl rfl) rfl rfl ?_
    refine wL_skip (wg rfl rfl rfl rfl) rfl rfl ?_
    refine wL_skip (wg rfl rfl rfl rfl) rfl rfl ?_
    refine wL_skip (wg rfl rfl rfl rfl) rfl rfl ?_
    refine wL_val (wn rfl) rfl rfl (y_pick_f rfl rfl rfl) ?_
    refine wL_nil (wQ_sub (l' := [(1, _), (2, _), (4, _), (5, _), (6, _), (8, _), (9, _), (27, _)]) ⟨rfl, rfl, rfl, rfl, rfl, rfl, rfl, rfl, trivial⟩ (wQ_then (wC_cond_f rfl (wC_exit (wQ_then_exit (wQ_then_exit (wQ_blk_same (wQ_then ?_))))))))
    obtain rfl : m = j := by omega
    by_cases hr3 : ro = 3
    ·by_cases hend : ((k + m : Nat) : Int) = ((l.length : Nat) : Int)
     ·refine wC_seq (wC_quiet S10 mixed (by kernel_rfl) ?_)
      refine wU_val (v := .slice Ab m cb) (wn rfl) rfl rfl (fun _ _ => (y_move rfl rfl)) ?_
      refine wU_val (v := .pointer (some ⟨b1, 0, none⟩)) (wn rfl) rfl rfl (fun _ _ => (y_fieldAddr rfl rfl (fa108_0 _ _ _))) ?_
      refine wU_val (v := .int .i64 ro) (wn rfl) rfl rfl (fun _ Sx85 => (y_load rfl rfl (r_load Try.underlying3 rfl (St.cl 1 Sx85 rfl rfl)))) ?_
      refine wU_val (v := .bool true) (wn rfl) rfl rfl (fun _ _ => (y_binop rfl rfl rfl (r_eql_t hr3))) ?_
      refine wU_val (v := .bool true) (wn rfl) rfl rfl (fun _ _ => (y_move rfl rfl)) ?_
      refine wU_val (v := .int .i64 ((k : Nat) : Int)) (wg rfl rfl rfl rfl) rfl rfl (fun _ _ => (y_move rfl rfl)) ?_
      refine wU_val (v := .slice Ab m cb) (wg rfl rfl rfl rfl) rfl rfl (fun _ _ => (y_move rfl rfl)) ?_
      refine wU_val (v := .int .i64 ((m : Nat) : Int)) (wg rfl rfl rfl rfl) rfl rfl (fun _ _ => (y_builtin (vs := [.slice Ab m cb]) rfl ⟨rfl, trivial⟩ fun _ => r_len rfl Try.underlying57)) ?_
      refine wU_val (v := .int .i64 ((k + m : Nat) : Int)) (wg rfl rfl rfl rfl) rfl rfl (fun _ _ => (y_binop rfl rfl rfl (r_add (by omega) (by omega)))) ?_
      refine wU_val (v := .pointer (some ⟨b1, 5, none⟩)) (wg rfl rfl rfl rfl) rfl rfl (fun _ _ => (y_fieldAddr rfl rfl (fa108_5 _ _ _))) ?_
      refine wU_val (v := .slice A l.length c) (wg rfl rfl rfl rfl) rfl rfl (fun _ Sx93 => (y_load rfl rfl (r_load Try.underlying57 rfl (St.cl 1 Sx93 rfl rfl)))) ?_
      refine wU_val (v := .int .i64 ((l.length : Nat) : Int)) (wg rfl rfl rfl rfl) rfl rfl (fun _ _ => (y_builtin (vs := [.slice A l.length c]) rfl ⟨rfl, trivial⟩ fun _ => r_len rfl Try.underlying57)) ?_
      refine wU_val (v := .bool true) (wg rfl rfl rfl rfl) rfl rfl (fun _ _ => (y_binop rfl rfl rfl (r_eql_t hend))) ?_
      refine wU_val (v := .bool true) (wn rfl) rfl rfl (fun _ _ => (y_pick_t rfl rfl rfl)) ?_
      refine wU_val (v := .slice Ab m cb) (wn rfl) rfl rfl (fun _ _ => (y_assign rfl rfl)) ?_
      refine wU_val (v := .bool true) (wn rfl) rfl rfl (fun _ _ => (y_assign rfl rfl)) ?_
      refine wU_val (v := .int .i64 0) (wn rfl) rfl rfl (fun _ _ => (y_assign rfl rfl)) ?_
      refine wU_nil fun w100 S101 => ?_; clear S10
      refine wQ_sub (l' := [(4, _), (5, _), (6, _)]) ⟨rfl, rfl, rfl, trivial⟩ (wQ_then (wC_ret (wQ_post (rs := [.tmp 4, .tmp 5, .tmp 6]) (vs := [.slice Ab m cb, .bool true, .int .i64 0]) rfl ⟨rfl, rfl, rfl, trivial⟩ ?_)))
      have S102 : St w.heap.size w w100 [_] := (St.del 1 (St.del 2 S101)); clear S101
      have S103 := S102.sealAll 0 rfl; clear S102
      change St _ _ _ [.rdo 6 Ab m (((l.drop k).take m).flatMap Ev.cells)] at S103
      have hlm : ((l.drop k).take m).length = m := by rw [List.length_take, List.length_drop]; omega
      rw [part_ok (b := ⟨ro, ep, fr, tg, rd, l⟩) hlv.1 (by dsimp only; omega) (by dsimp only; omega) hm]
      dsimp only
      rw [decide_eq_true ⟨hr3, by omega⟩]
      refine ⟨Ab, cb, ?_, ?_⟩
      · dsimp only; rw [hlm]; rfl
      · dsimp only; rw [hlm]; exact S103
     ·refine wC_seq (wC_quiet S10 mixed (by kernel_rfl) ?_)
      refine wU_val (v := .slice Ab m cb) (wn rfl) rfl rfl (fun _ _ => (y_move rfl rfl)) ?_
      refine wU_val (v := .pointer (some ⟨b1, 0, none⟩)) (wn rfl) rfl rfl (fun _ _ => (y_fieldAddr rfl rfl (fa108_0 _ _ _))) ?_
      refine wU_val (v := .int .i64 ro) (wn rfl) rfl rfl (fun _ Sx106 => (y_load rfl rfl (r_load Try.underlying3 rfl (St.cl 1 Sx106 rfl rfl)))) ?_
      refine wU_val (v := .bool true) (wn rfl) rfl rfl (fun _ _ => (y_binop rfl rfl rfl (r_eql_t hr3))) ?_
      refine wU_val (v := .bool true) (wn rfl) rfl rfl (fun _ _ => (y_move rfl rfl)) ?_
      refine wU_val (v := .int .i64 ((k : Nat) : Int)) (wg rfl rfl rfl rfl) rfl rfl (fun _ _ => (y_move rfl rfl)) ?_
      refine wU_val (v := .slice Ab m cb) (wg rfl rfl rfl rfl) rfl rfl (fun _ _ => (y_move rfl rfl)) ?_
      refine wU_val (v := .int .i64 ((m : Nat) : Int)) (wg rfl rfl rfl rfl) rfl rfl (fun _ _ => (y_builtin (vs := [.slice Ab m cb]) rfl ⟨rfl, trivial⟩ fun _ => r_len rfl Try.underlying57)) ?_
      refine wU_val (v := .int .i64 ((k + m : Nat) : Int)) (wg rfl rfl rfl rfl) rfl rfl (fun _ _ => (y_binop rfl rfl rfl (r_add (by omega) (by omega)))) ?_
      refine wU_val (v := .pointer (some ⟨b1, 5, none⟩)) (wg rfl rfl rfl rfl) rfl rfl (fun _ _ => (y_fieldAddr rfl rfl (fa108_5 _ _ _))) ?_
      refine wU_val (v := .slice A l.length c) (wg rfl rfl rfl rfl) rfl rfl (fun _ Sx114 => (y_load rfl rfl (r_load Try.underlying57 rfl (St.cl 1 Sx114 rfl rfl)))) ?_
      refine wU_val (v := .int .i64 ((l.length : Nat) : Int)) (wg rfl rfl rfl rfl) rfl rfl (fun _ _ => (y_builtin (vs := [.slice A l.length c]) rfl ⟨rfl, trivial⟩ fun _ => r_len rfl Try.underlying57)) ?_
      refine wU_val (v := .bool false) (wg rfl rfl rfl rfl) rfl rfl (fun _ _ => (y_binop rfl rfl rfl (r_eql_f hend))) ?_
      refine wU_val (v := .bool false) (wn rfl) rfl rfl (fun _ _ => (y_pick_t rfl rfl rfl)) ?_
      refine wU_val (v := .slice Ab m cb) (wn rfl) rfl rfl (fun _ _ => (y_assign rfl rfl)) ?_
      refine wU_val (v := .bool false) (wn rfl) rfl rfl (fun _ _ => (y_assign rfl rfl)) ?_
      refine wU_val (v := .int .i64 0) (wn rfl) rfl rfl (fun _ _ => (y_assign rfl rfl)) ?_
      refine wU_nil fun w121 S122 => ?_; clear S10
      refine wQ_sub (l' := [(4, _), (5, _), (6, _)]) ⟨rfl, rfl, rfl, trivial⟩ (wQ_then (wC_ret (wQ_post (rs := [.tmp 4, .tmp 5, .tmp 6]) (vs := [.slice Ab m cb, .bool false, .int .i64 0]) rfl ⟨rfl, rfl, rfl, trivial⟩ ?_)))
      have S123 : St w.heap.size w w121 [_] := (St.del 1 (St.del 2 S122)); clear S122
      have S124 := S123.sealAll 0 rfl; clear S123
      change St _ _ _ [.rdo 6 Ab m (((l.drop k).take m).flatMap Ev.cells)] at S124
      have hlm : ((l.drop k).take m).length = m := by rw [List.length_take, List.length_drop]; omega
      rw [part_ok (b := ⟨ro, ep, fr, tg, rd, l⟩) hlv.1 (by dsimp only; omega) (by dsimp only; omega) hm]
      dsimp only
      rw [decide_eq_false (fun h => hend (by omega))]
      refine ⟨Ab, cb, ?_, ?_⟩
      · dsimp only; rw [hlm]; rfl
      · dsimp only; rw [hlm]; exact S124
    ·refine wC_seq (wC_quiet S10 mixed (by kernel_rfl) ?_)
     refine wU_val (v := .slice Ab m cb) (wn rfl) rfl rfl (fun _ _ => (y_move rfl rfl)) ?_
     refine wU_val (v := .pointer (some ⟨b1, 0, none⟩)) (wn rfl) rfl rfl (fun _ _ => (y_fieldAddr rfl rfl (fa108_0 _ _ _))) ?_
     refine wU_val (v := .int .i64 ro) (wn rfl) rfl rfl (fun _ Sx127 => (y_load rfl rfl (r_load Try.underlying3 rfl (St.cl 1 Sx127 rfl rfl)))) ?_
     refine wU_val (v := .bool false) (wn rfl) rfl rfl (fun _ _ => (y_binop rfl rfl rfl (r_eql_f hr3))) ?_
     refine wU_val (v := .bool false) (wn rfl) rfl rfl (fun _ _ => (y_move rfl rfl)) ?_
     refine wU_skip (wg rfl rfl rfl rfl) rfl rfl ?_
     refine wU_skip (wg rfl rfl rfl rfl) rfl rfl ?_
     refine wU_skip (wg rfl rfl rfl rfl) rfl rfl ?_
     refine wU_skip (wg rfl rfl rfl rfl) rfl rfl ?_
     refine wU_skip (wg rfl rfl rfl rfl) rfl rfl ?_
     refine wU_skip (wg rfl rfl rfl rfl) rfl rfl ?_
     refine wU_skip (wg rfl rfl rfl rfl) rfl rfl ?_
     refine wU_skip (wg rfl rfl rfl rfl) rfl rfl ?_
     refine wU_val (v := .bool false) (wn rfl) rfl rfl (fun _ _ => (y_pick_f rfl rfl rfl)) ?_
     refine wU_val (v := .slice Ab m cb) (wn rfl) rfl rfl (fun _ _ => (y_assign rfl rfl)) ?_
     refine wU_val (v := .bool false) (wn rfl) rfl rfl (fun _ _ => (y_assign rfl rfl)) ?_
     refine wU_val (v := .int .i64 0) (wn rfl) rfl rfl (fun _ _ => (y_assign rfl rfl)) ?_
     refine wU_nil fun w134 S135 => ?_; clear S10
     refine wQ_sub (l' := [(4, _), (5, _), (6, _)]) ⟨rfl, rfl, rfl, trivial⟩ (wQ_then (wC_ret (wQ_post (rs := [.tmp 4, .tmp 5, .tmp 6]) (vs := [.slice Ab m cb, .bool false, .int .i64 0]) rfl ⟨rfl, rfl, rfl, trivial⟩ ?_)))
     have S136 : St w.heap.size w w134 [_] := (St.del 1 (St.del 2 S135)); clear S135
     have S137 := S136.sealAll 0 rfl; clear S136
     change St _ _ _ [.rdo 6 Ab m (((l.drop k).take m).flatMap Ev.cells)] at S137
     have hlm : ((l.drop k).take m).length = m := by rw [List.length_take, List.length_drop]; omega
     rw [part_ok (b := ⟨ro, ep, fr, tg, rd, l⟩) hlv.1 (by dsimp only; omega) (by dsimp only; omega) hm]
     dsimp only
     rw [decide_eq_false (fun h => hr3 h.1)]
     refine ⟨Ab, cb, ?_, ?_⟩
     · dsimp only; rw [hlm]; rfl
     · dsimp only; rw [hlm]; exact S137
 ·refine wL_val (v := .bool true) (wn rfl) rfl rfl (y_binop rfl rfl rfl (r_neq_t h7)) ?_
  refine wL_nil (wQ_sub (l' := [(1, _), (2, _), (4, _), (5, _), (6, _), (7, _), (14, _)]) ⟨rfl, rfl, rfl, rfl, rfl, rfl, rfl, trivial⟩ (wQ_then (wC_cond_t rfl (wC_seq (wC_region (wL_val (wn rfl) rfl rfl (y_move rfl rfl) ?_))))))
  refine wL_val (wn rfl) rfl rfl (y_assign rfl rfl) ?_
  refine wL_val (wn rfl) rfl rfl (y_assign rfl rfl) ?_
  refine wL_val (wn rfl) rfl rfl (y_assign rfl rfl) ?_
  refine wL_nil (wQ_sub (l' := [(4, _), (5, _), (6, _)]) ⟨rfl, rfl, rfl, trivial⟩ (wQ_then (wC_ret (wQ_then_ret (wQ_post (rs := [.tmp 4, .tmp 5, .tmp 6]) (vs := [.slice none 0 0, .bool false, .int .i64 (leavM ⟨ro, ep, fr, tg, rd, l⟩ hv)]) rfl ⟨rfl, rfl, rfl, trivial⟩ ?_)))))
  have S138 : St w.heap.size w w4 [] := (St.del 0 (St.del 1 S5)); clear S5
  rw [part_leav h7]
  exact ⟨none, 0, rfl, rdo_nil S138⟩
end Go.Proofs.Ytkjlafpafmihaaa

namespace Go.Proofs.Ytkjlafpafmihaaa
open Go.ChangeShapes Go.WideShapes Go.RowKit

theorem partM_len {b : Brt} {hv : Int} : (partM b hv).1.length ≤ b.evs.length + 1 := by
  unfold partM
  (repeat' split) <;> (try simp [zeroB]) <;> (try omega)

set_option maxRecDepth 100000 in
set_option maxHeartbeats 2000000 in
theorem berthParts_calls (ro ep fr tg rd : Int) (A : Option Addr) (c : Nat) (l : List Ev) (hv : Int) (hlc : l.length ≤ c) (w : World) (h : Rd w w.heap.size 6 A l.length (evCells l)) (hb : l.length * 48 ≤ reachBytes) :
    Calls Try.prog 21 #[.agg #[.int .i64 ro, .int .i64 ep, .int .i64 fr, .int .i64 tg, .int .i64 rd, .slice A l.length c], .int .i64 hv] w fun e w' => e = .returned (.bool true) ∧ Below w.heap.size w w' := by
 have S := (St.start w).addRd h; clear h
 have hb2 := hb
 unfold reachBytes at hb2
 have HP := fun A c w h hlc => Part_calls ro ep fr tg rd A c l hv hlc w h hb
 have HR := fun A c w h => PartOf_calls ro ep fr tg rd A c l hv w h hb
 have hlen := partM_len (b := ⟨ro, ep, fr, tg, rd, l⟩) (hv := hv)
 generalize partM ⟨ro, ep, fr, tg, rd, l⟩ hv = R at HP HR hlen
 dsimp only at hlen
 refine calls_of_wC (N := 46) (vs := [.agg #[.int .i64 ro, .int .i64 ep, .int .i64 fr, .int .i64 tg, .int .i64 rd, .slice A l.length c], .int .i64 hv]) Try.func21 rfl rfl rfl ?_
 refine wC_sub (l' := [(0, .agg #[.int .i64 ro, .int .i64 ep, .int .i64 fr, .int .i64 tg, .int .i64 rd, .slice A l.length c]), (1, .int .i64 hv)]) ⟨rfl, rfl, trivial⟩ (wC_seq (wC_region (wL_new (V := fun b => .pointer (some ⟨b, 0, none⟩)) (row := #[.int .i64 ro, .int .i64 ep, .int .i64 fr, .int .i64 tg, .int .i64 rd, .slice A l.length c]) (t := 108) S (wn rfl) rfl rfl (d_box rfl rfl rfl) ?_))); intro b1 w2 S3; clear S
 refine wL_val (wn rfl) rfl rfl (y_assign rfl rfl) ?_
 refine wL_nil (wQ_sub (l' := [(1, _), (2, _), (4, _)]) ⟨rfl, rfl, rfl, trivial⟩ (wQ_then (wC_seq (wC_region (wL_val (wn rfl) rfl rfl (y_load rfl rfl (r_load_row 0 S3 rfl Try.underlying108 rfl inf108 rfl)) ?_)))))
 refine wL_call (vs := [.agg #[.int .i64 ro, .int .i64 ep, .int .i64 fr, .int .i64 tg, .int .i64 rd, .slice A l.length c]]) (wn rfl) rfl rfl (e_call (vs := [.agg #[.int .i64 ro, .int .i64 ep, .int .i64 fr, .int .i64 tg, .int .i64 rd, .slice A l.length c]]) rfl en77 ⟨rfl, trivial⟩) (berths_calls ro ep fr tg rd A c l _ (St.rd 1 S3 rfl) hb) ?_
 rintro _ w6 ⟨A4, c5, rfl, T8⟩
 refine ⟨_, rfl, ?_⟩
 have S7 := S3.ext T8 rfl; clear T8 S3
 change St _ _ _ [.own 37 6 (.slice A4 l.length c5) l.length ((l).flatMap Ev.cells), _, _] at S7
 refine wL_new (V := fun b => .pointer (some ⟨b, 0, none⟩)) (row := #[.int .i64 0, .int .i64 0, .int .i64 0, .int .i64 0, .int .i64 0, .slice none 0 0]) (t := 108) S7 (wn rfl) rfl rfl (d_alloc rfl (Try.zeroValue108 _) rfl) ?_; intro b9 w10 S11; clear S7
 refine wL_st (fs' := [_, _, _, _]) 0 S11 (wn rfl) rfl rfl rfl rfl rfl rfl inf108 rfl (oneAll rfl) (Nat.le_of_ble_eq_true rfl) (setAll_all rfl) rfl ?_; intro w12 S13; clear S11
 refine wL_nil (wQ_sub (l' := [(1, _), (2, _), (4, _), (5, _)]) ⟨rfl, rfl, rfl, rfl, trivial⟩ (wQ_then (wC_seq (wC_region (wL_val (wn rfl) rfl rfl (y_load rfl rfl (r_load_row 0 S13 rfl Try.underlying108 rfl inf108 rfl)) ?_)))))
 refine wL_val (wn rfl) rfl rfl (y_move rfl rfl) ?_
 refine wL_call (vs := [.agg #[.int .i64 ro, .int .i64 ep, .int .i64 fr, .int .i64 tg, .int .i64 rd, .slice A4 l.length c5], .int .i64 hv]) (wn rfl) rfl rfl (e_call (vs := [.agg #[.int .i64 ro, .int .i64 ep, .int .i64 fr, .int .i64 tg, .int .i64 rd, .slice A4 l.length c5], .int .i64 hv]) rfl en84 ⟨rfl, rfl, trivial⟩) (HP A4 c5 _ (St.ord 1 S13 rfl) (own_caps (S13.own 1 rfl)).1) ?_
 rintro _ w16 ⟨A14, c15, rfl, T18⟩
 refine ⟨_, rfl, ?_⟩
 have S17 := S13.ext T18 rfl; clear T18 S13
 change St _ _ _ [.rdo 6 A14 R.1.length ((R.1).flatMap Ev.cells), _, _, _, _] at S17
 refine wL_val (wn rfl) rfl rfl (y_move rfl rfl) ?_
 refine wL_val (wn rfl) rfl rfl (y_extract rfl rfl rfl) ?_
 refine wL_val (wn rfl) rfl rfl (y_extract rfl rfl rfl) ?_
 refine wL_val (wn rfl) rfl rfl (y_extract rfl rfl rfl) ?_
 refine wL_val (wn rfl) rfl rfl (y_assign rfl rfl) ?_
 refine wL_val (wn rfl) rfl rfl (y_assign rfl rfl) ?_
 refine wL_val (wn rfl) rfl rfl (y_assign rfl rfl) ?_
 refine wL_nil (wQ_sub (l' := [(1, _), (2, _), (4, _), (5, _), (6, _), (7, _), (8, _)]) ⟨rfl, rfl, rfl, rfl, rfl, rfl, rfl, trivial⟩ (wQ_then (wC_seq (wC_region (wL_val (wn rfl) rfl rfl (y_load rfl rfl (r_load_row 3 S17 rfl Try.underlying108 rfl inf108 rfl)) ?_)))))
 refine wL_val (wn rfl) rfl rfl (y_move rfl rfl) ?_
 refine wL_call (vs := [.agg #[.int .i64 ro, .int .i64 ep, .int .i64 fr, .int .i64 tg, .int .i64 rd, .slice A l.length c], .int .i64 hv]) (wn rfl) rfl rfl (e_call (vs := [.agg #[.int .i64 ro, .int .i64 ep, .int .i64 fr, .int .i64 tg, .int .i64 rd, .slice A l.length c], .int .i64 hv]) rfl en85 ⟨rfl, rfl, trivial⟩) (HR A c _ (St.rd 4 S17 rfl)) ?_
 rintro _ w21 ⟨A19, c20, rfl, T23⟩
 refine ⟨_, rfl, ?_⟩
 have S22 := S17.ext T23 rfl; clear T23 S17
 change St _ _ _ [.rdo 6 A19 R.1.length ((R.1).flatMap Ev.cells), _, _, _, _, _] at S22
 refine wL_val (wn rfl) rfl rfl (y_move rfl rfl) ?_
 refine wL_val (wn rfl) rfl rfl (y_extract rfl rfl rfl) ?_
 refine wL_val (wn rfl) rfl rfl (y_extract rfl rfl rfl) ?_
 refine wL_val (wn rfl) rfl rfl (y_extract rfl rfl rfl) ?_
 refine wL_val (wn rfl) rfl rfl (y_assign rfl rfl) ?_
 refine wL_val (wn rfl) rfl rfl (y_assign rfl rfl) ?_
 refine wL_val (wn rfl) rfl rfl (y_assign rfl rfl) ?_
 refine wL_nil (wQ_sub (l' := [(2, _), (4, _), (5, _), (6, _), (7, _), (8, _), (9, _), (10, _), (11, _)]) ⟨rfl, rfl, rfl, rfl, rfl, rfl, rfl, rfl, rfl, trivial⟩ (wQ_then (wC_seq (wC_region (wL_val (wn rfl) rfl rfl (y_move rfl rfl) ?_)))))
 refine wL_val (wn rfl) rfl rfl (y_move rfl rfl) ?_
 refine wL_val (v := .bool true) (wn rfl) rfl rfl (y_binop rfl rfl rfl (r_beq_self Try.underlying4)) ?_
 refine wL_val (wn rfl) rfl rfl (y_move rfl rfl) ?_
 refine wL_val (wg rfl rfl rfl rfl) rfl rfl (y_move rfl rfl) ?_
 refine wL_val (wg rfl rfl rfl rfl) rfl rfl (y_move rfl rfl) ?_
 refine wL_val (v := .bool true) (wg rfl rfl rfl rfl) rfl rfl (y_binop rfl rfl rfl (r_eql_t rfl)) ?_
 refine wL_val (wn rfl) rfl rfl (y_pick_t rfl rfl rfl) ?_
 refine wL_val (wn rfl) rfl rfl (y_move rfl rfl) ?_
 refine wL_val (wg rfl rfl rfl rfl) rfl rfl (y_move rfl rfl) ?_
 refine wL_val (wg rfl rfl rfl rfl) rfl rfl (y_move rfl rfl) ?_
 refine wL_call (vs := [.slice A14 R.1.length c15, .slice A19 R.1.length c20]) (wg rfl rfl rfl rfl) rfl rfl (e_call (vs := [.slice A14 R.1.length c15, .slice A19 R.1.length c20]) rfl en72 ⟨rfl, rfl, trivial⟩) (sameEvents_t (St.rdo 1 S22 rfl) (St.rdo 0 S22 rfl) (by simp only [maxLen]; omega) (by simp only [maxLen]; omega)) ?_
 rintro _ w24 ⟨rfl, hb26⟩
 refine ⟨_, rfl, ?_⟩
 have S25 := S22.on hb26; clear hb26 S22
 refine wL_val (wn rfl) rfl rfl (y_pick_t rfl rfl rfl) ?_
 refine wL_val (wn rfl) rfl rfl (y_move rfl rfl) ?_
 refine wL_val (wg rfl rfl rfl rfl) rfl rfl (y_load rfl rfl (r_load_row 2 S25 rfl Try.underlying108 rfl inf108 rfl)) ?_
 refine wL_val (wg rfl rfl rfl rfl) rfl rfl (y_load rfl rfl (r_load_row 4 S25 rfl Try.underlying108 rfl inf108 rfl)) ?_
 refine wL_call (vs := [.agg #[.int .i64 ro, .int .i64 ep, .int .i64 fr, .int .i64 tg, .int .i64 rd, .slice A4 l.length c5], .agg #[.int .i64 ro, .int .i64 ep, .int .i64 fr, .int .i64 tg, .int .i64 rd, .slice A l.length c]]) (wg rfl rfl rfl rfl) rfl rfl (e_call (vs := [.agg #[.int .i64 ro, .int .i64 ep, .int .i64 fr, .int .i64 tg, .int .i64 rd, .slice A4 l.length c5], .agg #[.int .i64 ro, .int .i64 ep, .int .i64 fr, .int .i64 tg, .int .i64 rd, .slice A l.length c]]) rfl en81 ⟨rfl, rfl, trivial⟩) (sameBerth_calls ro ep fr tg rd A4 c5 A c l _ (St.ord 3 S25 rfl) (St.rd 5 S25 rfl) (by omega)) ?_
 rintro _ w27 ⟨rfl, hb29⟩
 refine ⟨_, rfl, ?_⟩
 have S28 := S25.on hb29; clear hb29 S25
 refine wL_val (wn rfl) rfl rfl (y_pick_t rfl rfl rfl) ?_
 refine wL_val (wn rfl) rfl rfl (y_assign rfl rfl) ?_
 refine wL_nil (wQ_sub (l' := [(4, _)]) ⟨rfl, trivial⟩ (wQ_then (wC_ret (wQ_post (rs := [.tmp 4]) (vs := [.bool true]) rfl ⟨rfl, trivial⟩ ?_))))
 exact ⟨rfl, S28.low⟩

set_option maxRecDepth 100000 in
theorem berthParts_walk (W : World) (args : Array Value) (h : All2 (ArgOk Try.prog W) args.toList Try.f21.params.toList) :
    Calls Try.prog 21 args W fun e W' => e = .returned (.bool true) ∧ Below W.heap.size W W' := by
  rw [Try.params21] at h
  obtain ⟨v0, l0, hv0, h0, g0⟩ := All2.cons_ h
  obtain ⟨v1, l1, hv1, h1, g1⟩ := All2.cons_ g0
  have h9 := All2.nil_ g1
  subst h9
  obtain rfl : args = #[v0, v1] := by cases args; simp_all
  obtain ⟨ro, ep, fr, tg, rd, A, c, l, rfl, hr, hn, hc, hb⟩ := arg_berth h0
  obtain ⟨⟨_, hk1⟩, _, _⟩ := h1
  obtain ⟨hv, rfl⟩ := okWide_int Try.underlying3 hk1
  exact berthParts_calls ro ep fr tg rd A c l hv hn W hr hb
end Go.Proofs.Ytkjlafpafmihaaa

