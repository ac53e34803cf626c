/- Parts of proofs: lemmas on memory, on single functions and on the plain models; no condition of their own. -/
import Derived.Test.YtkjlafpafmihaaaRows
import Derived.WalkKit
import Derived.ProofKit
import Derived.OpenShut
import Derived.SizedLaws
import Derived.WalkSpells
import Derived.WalkLawsBesides
import Derived.Handy
import Derived.Deep.QuietTactic
import Derived.BigQuiet
import Derived.Lib.Hide
import Derived.Maps.AppendAt
import Derived.Deep.AppendLies
import Derived.RegionTactic
import Derived.OwnWalk
import Derived.Laws.Tables
import Derived.Deep.MidRow
import Derived.StillTailTactics
import Derived.OrdersHeld
import Derived.Deep.RegionHeld3
import Derived.Laws.IdiomCopy
import Derived.ChangeKeysEq
import Derived.Laws.BitsAllLaws
import Derived.Deep.DeepCutAuto
import Derived.Deep.CutRange
import Derived.Shelf.SlSortCmp.WholeK
import Derived.Shelf.SlSortCmp.NoneTotal
import Derived.Shelf.SlicesG.Cmp
import Derived.Shelf.SlGeneric
import Derived.Ground.SlsfProg
import Derived.Ground.SlgcProg
import Derived.Maps.OwnSet
import Derived.Lib.SliceRun
import Derived.Deep.RegionLaw
import Derived.Test.YtkjlafpafmihaaaG06e1f1d2e814
import Derived.Test.YtkjlafpafmihaaaG0e35ec4e0bdc
import Derived.Test.YtkjlafpafmihaaaG2143c9b0b786
import Derived.Test.YtkjlafpafmihaaaG3cad135f796d
import Derived.Test.YtkjlafpafmihaaaG668153da7687
import Derived.Test.YtkjlafpafmihaaaG69ea6f18ea30
import Derived.Test.YtkjlafpafmihaaaG8ba6bfb0af5b
import Derived.Test.YtkjlafpafmihaaaG9d6a0cc61d66
import Derived.Test.YtkjlafpafmihaaaGa89c1a6f9966
import Derived.Test.YtkjlafpafmihaaaGa956530333d6
import Derived.Test.YtkjlafpafmihaaaGad4fca606e19
import Derived.Test.YtkjlafpafmihaaaGb06670d46fbe
import Derived.Test.YtkjlafpafmihaaaGb705d1f06a25
import Derived.Test.YtkjlafpafmihaaaGc78e27da6ed6
import Derived.Test.YtkjlafpafmihaaaGf3cc171333c0
import Derived.Test.YtkjlafpafmihaaaGfed51b8f206e
set_option linter.unusedVariables false
set_option linter.unusedSimpArgs false

namespace Go.Proofs.Ytkjlafpafmihaaa
open Go.ChangeShapes Go.WideShapes Go.RowKit

noncomputable def leavM (b : Brt) (hv : Int) : Int := if brtFault b ≠ 0 then brtFault b else if b.role ≠ 2 ∧ b.role ≠ 3 then 7 else if ¬ (0 ≤ hv ∧ hv ≤ b.evs.length) then 2 else 0
section
variable {b : Brt} {hv : Int}
theorem leav_zero (h : leavM b hv = 0) : brtFault b = 0 ∧ (b.role = 2 ∨ b.role = 3) ∧ 0 ≤ hv ∧ hv ≤ b.evs.length := by
  unfold leavM at h
  split at h
  · rename_i h1; exact absurd h h1
  · split at h
    · cases h
    · split at h
      · cases h
      · rename_i h1 h2 h3
        refine ⟨?_, ?_, ?_⟩ <;> omega
end

end Go.Proofs.Ytkjlafpafmihaaa

namespace Go.Proofs.Ytkjlafpafmihaaa
open Go.ChangeShapes Go.WideShapes Go.RowKit

set_option maxRecDepth 100000 in
set_option maxHeartbeats 1000000 in
theorem leavingFault_calls (ro ep fr tg rd : Int) (A : Option Addr) (c : Nat) (l : List Ev) (hv : Int) (w : World) (h : Rd w w.heap.size 6 A l.length (evCells l)) (hl : l.length ≤ 1152921504606846976) :
    Calls Try.prog 158 #[.agg #[.int .i64 ro, .int .i64 ep, .int .i64 fr, .int .i64 tg, .int .i64 rd, .slice A l.length c], .int .i64 hv] w (IPost w (leavM ⟨ro, ep, fr, tg, rd, l⟩ hv)) := by
 have S := (St.start w).addRd h; clear h
 refine calls_of_wC (N := 25) (vs := [.agg #[.int .i64 ro, .int .i64 ep, .int .i64 fr, .int .i64 tg, .int .i64 rd, .slice A l.length c], .int .i64 hv]) Try.func158 rfl rfl rfl ?_
 refine wC_sub (l' := [(0, .agg #[.int .i64 ro, .int .i64 ep, .int .i64 fr, .int .i64 tg, .int .i64 rd, .slice A l.length c]), (1, .int .i64 hv)]) ⟨rfl, rfl, trivial⟩ (wC_seq (wC_region (wL_new (V := fun b => .pointer (some ⟨b, 0, none⟩)) (row := #[.int .i64 ro, .int .i64 ep, .int .i64 fr, .int .i64 tg, .int .i64 rd, .slice A l.length c]) (t := 108) S (wn rfl) rfl rfl (d_box rfl rfl rfl) ?_))); intro b1 w2 S3; clear S
 refine wL_val (wn rfl) rfl rfl (y_assign rfl rfl) ?_
 refine wL_nil (wQ_sub (l' := [(1, _), (2, _), (4, _)]) ⟨rfl, rfl, rfl, trivial⟩ (wQ_then (wC_seq (wC_region (wL_val (wn rfl) rfl rfl (y_load rfl rfl (r_load_row 0 S3 rfl Try.underlying108 rfl inf108 rfl)) ?_)))))
 refine wL_call (vs := [.agg #[.int .i64 ro, .int .i64 ep, .int .i64 fr, .int .i64 tg, .int .i64 rd, .slice A l.length c]]) (wn rfl) rfl rfl (e_call (vs := [.agg #[.int .i64 ro, .int .i64 ep, .int .i64 fr, .int .i64 tg, .int .i64 rd, .slice A l.length c]]) rfl en78 ⟨rfl, trivial⟩) (BerthFault_calls ro ep fr tg rd A c l _ (St.rd 1 S3 rfl) (by omega)) ?_
 rintro _ w4 ⟨rfl, hb6⟩
 refine ⟨_, rfl, ?_⟩
 have S5 := S3.on hb6; clear hb6 S3
 refine wL_val (wn rfl) rfl rfl (y_assign rfl rfl) ?_
 refine wL_nil (wQ_sub (l' := [(1, _), (2, _), (4, _), (5, _)]) ⟨rfl, rfl, rfl, rfl, trivial⟩ (wQ_then (wC_seq (wC_seq (wC_region (wL_val (wn rfl) rfl rfl (y_move rfl rfl) ?_))))))
 by_cases h7 : brtFault ⟨ro, ep, fr, tg, rd, l⟩ = 0
 ·have hsh := (bf_zero h7).1
  unfold shapeB at hsh
  have hln := tellM_len (bf_zero h7).2
  dsimp only at hsh hln
  refine wL_val (v := .bool false) (wn rfl) rfl rfl (y_binop rfl rfl rfl (r_neq_f h7)) ?_
  refine wL_nil (wQ_sub (l' := [(1, _), (2, _), (4, _), (5, _), (9, _)]) ⟨rfl, rfl, rfl, rfl, rfl, trivial⟩ (wQ_then (wC_cond_f rfl (wC_skip (wQ_then (wC_seq (wC_seq (wC_region (wL_val (v := .pointer (some ⟨b1, 0, none⟩)) (wn rfl) rfl rfl (y_fieldAddr rfl rfl (fa108_0 _ _ _)) ?_)))))))))
  refine wL_val (wn rfl) rfl rfl (y_load rfl rfl (r_load Try.underlying3 rfl (St.cl 0 S5 rfl rfl))) ?_
  by_cases h8 : ro = 2
  ·refine wL_val (v := .bool false) (wn rfl) rfl rfl (y_binop rfl rfl rfl (r_neq_f h8)) ?_
   refine wL_val (wn rfl) rfl rfl (y_move rfl rfl) ?_
   refine wL_skip (wg rfl rfl rfl rfl) rfl rfl ?_
   refine wL_skip (wg rfl rfl rfl rfl) rfl rfl ?_
   refine wL_skip (wg rfl rfl rfl rfl) rfl rfl ?_
   refine wL_val (wn rfl) rfl rfl (y_pick_f rfl rfl rfl) ?_
   refine wL_nil (wQ_sub (l' := [(1, _), (2, _), (4, _), (18, _)]) ⟨rfl, rfl, rfl, rfl, trivial⟩ (wQ_then (wC_cond_f rfl (wC_skip (wQ_then (wC_seq (wC_seq (wC_region (wL_val (wn rfl) rfl rfl (y_move rfl rfl) ?_)))))))))
   refine wL_val (v := .pointer (some ⟨b1, 5, none⟩)) (wn rfl) rfl rfl (y_fieldAddr rfl rfl (fa108_5 _ _ _)) ?_
   refine wL_val (wn rfl) rfl rfl (y_load rfl rfl (r_load Try.underlying57 rfl (St.cl 0 S5 rfl rfl))) ?_
   refine wL_val (v := .int .i64 ((l.length : Nat) : Int)) (wn rfl) rfl rfl (y_builtin (vs := [.slice A l.length c]) rfl ⟨rfl, trivial⟩ fun _ => r_len rfl Try.underlying57) ?_
   by_cases hp9 : 0 ≤ hv ∧ hv ≤ ((l.length : Nat) : Int)
   ·refine wL_call (vs := [.int .i64 hv, .int .i64 0, .int .i64 ((l.length : Nat) : Int)]) (wn rfl) rfl rfl (e_call (vs := [.int .i64 hv, .int .i64 0, .int .i64 ((l.length : Nat) : Int)]) rfl en107 ⟨rfl, rfl, rfl, trivial⟩) (In_t hp9 _) ?_
    rintro _ w10 ⟨rfl, rfl⟩
    refine ⟨_, rfl, ?_⟩
    refine wL_val (v := .bool false) (wn rfl) rfl rfl (y_unop rfl rfl r_not) ?_
    refine wL_nil (wQ_sub (l' := [(4, _), (24, _)]) ⟨rfl, rfl, trivial⟩ (wQ_then (wC_cond_f rfl (wC_skip (wQ_then (wC_seq (wC_region (wL_val (wn rfl) rfl rfl (y_assign rfl rfl) ?_))))))))
    refine wL_nil (wQ_sub (l' := [(4, _)]) ⟨rfl, trivial⟩ (wQ_then (wC_ret (wQ_post (rs := [.tmp 4]) (vs := [.int .i64 0]) rfl ⟨rfl, trivial⟩ ?_))))
    exact ⟨ret_int_ (by unfold leavM; (try dsimp only); (repeat' (first | rfl | omega | split))), S5.low⟩
   ·refine wL_call (vs := [.int .i64 hv, .int .i64 0, .int .i64 ((l.length : Nat) : Int)]) (wn rfl) rfl rfl (e_call (vs := [.int .i64 hv, .int .i64 0, .int .i64 ((l.length : Nat) : Int)]) rfl en107 ⟨rfl, rfl, rfl, trivial⟩) (In_f hp9 _) ?_
    rintro _ w11 ⟨rfl, rfl⟩
    refine ⟨_, rfl, ?_⟩
    refine wL_val (v := .bool true) (wn rfl) rfl rfl (y_unop rfl rfl r_not) ?_
    refine wL_nil (wQ_sub (l' := [(4, _), (24, _)]) ⟨rfl, rfl, trivial⟩ (wQ_then (wC_cond_t rfl (wC_seq (wC_region (wL_val (wn rfl) rfl rfl (y_assign rfl rfl) ?_))))))
    refine wL_nil (wQ_sub (l' := [(4, _)]) ⟨rfl, trivial⟩ (wQ_then (wC_ret (wQ_then_ret (wQ_post (rs := [.tmp 4]) (vs := [.int .i64 2]) rfl ⟨rfl, trivial⟩ ?_)))))
    exact ⟨ret_int_ (by unfold leavM; (try dsimp only); (repeat' (first | rfl | omega | split))), S5.low⟩
  ·refine wL_val (v := .bool true) (wn rfl) rfl rfl (y_binop rfl rfl rfl (r_neq_t h8)) ?_
   refine wL_val (wn rfl) rfl rfl (y_move rfl rfl) ?_
   refine wL_val (v := .pointer (some ⟨b1, 0, none⟩)) (wg rfl rfl rfl rfl) rfl rfl (y_fieldAddr rfl rfl (fa108_0 _ _ _)) ?_
   refine wL_val (wg rfl rfl rfl rfl) rfl rfl (y_load rfl rfl (r_load Try.underlying3 rfl (St.cl 0 S5 rfl rfl))) ?_
   by_cases h12 : ro = 3
   ·refine wL_val (v := .bool false) (wg rfl rfl rfl rfl) rfl rfl (y_binop rfl rfl rfl (r_neq_f h12)) ?_
    refine wL_val (wn rfl) rfl rfl (y_pick_t rfl rfl rfl) ?_
    refine wL_nil (wQ_sub (l' := [(1, _), (2, _), (4, _), (18, _)]) ⟨rfl, rfl, rfl, rfl, trivial⟩ (wQ_then (wC_cond_f rfl (wC_skip (wQ_then (wC_seq (wC_seq (wC_region (wL_val (wn rfl) rfl rfl (y_move rfl rfl) ?_)))))))))
    refine wL_val (v := .pointer (some ⟨b1, 5, none⟩)) (wn rfl) rfl rfl (y_fieldAddr rfl rfl (fa108_5 _ _ _)) ?_
    refine wL_val (wn rfl) rfl rfl (y_load rfl rfl (r_load Try.underlying57 rfl (St.cl 0 S5 rfl rfl))) ?_
    refine wL_val (v := .int .i64 ((l.length : Nat) : Int)) (wn rfl) rfl rfl (y_builtin (vs := [.slice A l.length c]) rfl ⟨rfl, trivial⟩ fun _ => r_len rfl Try.underlying57) ?_
    by_cases hp13 : 0 ≤ hv ∧ hv ≤ ((l.length : Nat) : Int)
    ·refine wL_call (vs := [.int .i64 hv, .int .i64 0, .int .i64 ((l.length : Nat) : Int)]) (wn rfl) rfl rfl (e_call (vs := [.int .i64 hv, .int .i64 0, .int .i64 ((l.length : Nat) : Int)]) rfl en107 ⟨rfl, rfl, rfl, trivial⟩) (In_t hp13 _) ?_
     rintro _ w14 ⟨rfl, rfl⟩
     refine ⟨_, rfl, ?_⟩
     refine wL_val (v := .bool false) (wn rfl) rfl rfl (y_unop rfl rfl r_not) ?_
     refine wL_nil (wQ_sub (l' := [(4, _), (24, _)]) ⟨rfl, rfl, trivial⟩ (wQ_then (wC_cond_f rfl (wC_skip (wQ_then (wC_seq (wC_region (wL_val (wn rfl) rfl rfl (y_assign rfl rfl) ?_))))))))
     refine wL_nil (wQ_sub (l' := [(4, _)]) ⟨rfl, trivial⟩ (wQ_then (wC_ret (wQ_post (rs := [.tmp 4]) (vs := [.int .i64 0]) rfl ⟨rfl, trivial⟩ ?_))))
     exact ⟨ret_int_ (by unfold leavM; (try dsimp only); (repeat' (first | rfl | omega | split))), S5.low⟩
    ·refine wL_call (vs := [.int .i64 hv, .int .i64 0, .int .i64 ((l.length : Nat) : Int)]) (wn rfl) rfl rfl (e_call (vs := [.int .i64 hv, .int .i64 0, .int .i64 ((l.length : Nat) : Int)]) rfl en107 ⟨rfl, rfl, rfl, trivial⟩) (In_f hp13 _) ?_
     rintro _ w15 ⟨rfl, rfl⟩
     refine ⟨_, rfl, ?_⟩
     refine wL_val (v := .bool true) (wn rfl) rfl rfl (y_unop rfl rfl r_not) ?_
     refine wL_nil (wQ_sub (l' := [(4, _), (24, _)]) ⟨rfl, rfl, trivial⟩ (wQ_then (wC_cond_t rfl (wC_seq (wC_region (wL_val (wn rfl) rfl rfl (y_assign rfl rfl) ?_))))))
     refine wL_nil (wQ_sub (l' := [(4, _)]) ⟨rfl, trivial⟩ (wQ_then (wC_ret (wQ_then_ret (wQ_post (rs := [.tmp 4]) (vs := [.int .i64 2]) rfl ⟨rfl, trivial⟩ ?_)))))
     exact ⟨ret_int_ (by unfold leavM; (try dsimp only); (repeat' (first | rfl | omega | split))), S5.low⟩
   ·refine wL_val (v := .bool true) (wg rfl rfl rfl rfl) rfl rfl (y_binop rfl rfl rfl (r_neq_t h12)) ?_
    refine wL_val (wn rfl) rfl rfl (y_pick_t rfl rfl rfl) ?_
    refine wL_nil (wQ_sub (l' := [(1, _), (2, _), (4, _), (18, _)]) ⟨rfl, rfl, rfl, rfl, trivial⟩ (wQ_then (wC_cond_t rfl (wC_seq (wC_region (wL_val (wn rfl) rfl rfl (y_assign rfl rfl) ?_))))))
    refine wL_nil (wQ_sub (l' := [(4, _)]) ⟨rfl, trivial⟩ (wQ_then (wC_ret (wQ_then_ret (wQ_post (rs := [.tmp 4]) (vs := [.int .i64 7]) rfl ⟨rfl, trivial⟩ ?_)))))
    exact ⟨ret_int_ (by unfold leavM; (try dsimp only); (repeat' (first | rfl | omega | split))), S5.low⟩
 ·refine wL_val (v := .bool true) (wn rfl) rfl rfl (y_binop rfl rfl rfl (r_neq_t h7)) ?_
  refine wL_nil (wQ_sub (l' := [(1, _), (2, _), (4, _), (5, _), (9, _)]) ⟨rfl, rfl, rfl, rfl, rfl, trivial⟩ (wQ_then (wC_cond_t rfl (wC_seq (wC_region (wL_val (wn rfl) rfl rfl (y_move rfl rfl) ?_))))))
  refine wL_val (wn rfl) rfl rfl (y_assign rfl rfl) ?_
  refine wL_nil (wQ_sub (l' := [(4, _)]) ⟨rfl, trivial⟩ (wQ_then (wC_ret (wQ_then_ret (wQ_post (rs := [.tmp 4]) (vs := [.int .i64 (brtFault ⟨ro, ep, fr, tg, rd, l⟩)]) rfl ⟨rfl, trivial⟩ ?_)))))
  exact ⟨ret_int_ (by unfold leavM; (try dsimp only); (repeat' (first | rfl | omega | split))), S5.low⟩

end Go.Proofs.Ytkjlafpafmihaaa

