/- Parts of proofs: lemmas on memory, on single functions and on the plain models; no condition of their own. -/
import Derived.Test.YtkjlafpafmihaaaRows
import Derived.WalkKit
import Derived.ProofKit
import Derived.OpenShut
import Derived.SizedLaws
import Derived.WalkSpells
import Derived.WalkLawsBesides
import Derived.Handy
import Derived.Deep.QuietTactic
import Derived.BigQuiet
import Derived.Lib.Hide
import Derived.Maps.AppendAt
import Derived.Deep.AppendLies
import Derived.RegionTactic
import Derived.OwnWalk
import Derived.Laws.Tables
import Derived.Deep.MidRow
import Derived.StillTailTactics
import Derived.OrdersHeld
import Derived.Deep.RegionHeld3
import Derived.Laws.IdiomCopy
import Derived.ChangeKeysEq
import Derived.Laws.BitsAllLaws
import Derived.Deep.DeepCutAuto
import Derived.Deep.CutRange
import Derived.Shelf.SlSortCmp.WholeK
import Derived.Shelf.SlSortCmp.NoneTotal
import Derived.Shelf.SlicesG.Cmp
import Derived.Shelf.SlGeneric
import Derived.Ground.SlsfProg
import Derived.Ground.SlgcProg
import Derived.Maps.OwnSet
import Derived.Lib.SliceRun
import Derived.Deep.RegionLaw
import Derived.Test.YtkjlafpafmihaaaG3a09ee29adfd
import Derived.Test.YtkjlafpafmihaaaG4391f5675e30
import Derived.Test.YtkjlafpafmihaaaG53d9860cd554
import Derived.Test.YtkjlafpafmihaaaG5a4470397ed8
import Derived.Test.YtkjlafpafmihaaaG6c7d926bdf1e
import Derived.Test.YtkjlafpafmihaaaG8c8ada4b342a
import Derived.Test.YtkjlafpafmihaaaG90f7600ce72e
import Derived.Test.YtkjlafpafmihaaaG9b85a56455eb
import Derived.Test.YtkjlafpafmihaaaGbba4dd792112
import Derived.Test.YtkjlafpafmihaaaGbea5e349a2aa
import Derived.Test.YtkjlafpafmihaaaGcd1d2a0662d0
import Derived.Test.YtkjlafpafmihaaaGd5358a42e1a9
import Derived.Test.YtkjlafpafmihaaaGd7f7ec5356a9
import Derived.Test.YtkjlafpafmihaaaGdb62e807c2bc
set_option linter.unusedVariables false
set_option linter.unusedSimpArgs false

namespace Go.Proofs.Ytkjlafpafmihaaa
open Go.ChangeShapes Go.WideShapes Go.RowKit

set_option maxRecDepth 100000 in
set_option maxHeartbeats 1000000 in
theorem CloneV_calls (A : Option Addr) (n c : Nat) (l : List Value) (w : World) (h : Rd w w.heap.size 6 A n l) (hone : ∀ u ∈ l, u.oneCell' = true) (hc : n * 48 ≤ reachBytes) :
    Calls Try.prog 157 #[.slice A n c] w (OwnPost w 37 6 n l) := by
 unfold reachBytes at hc
 have S := (St.start w).addRd h
 refine calls_of_wC (N := 8) (vs := [.slice A n c]) Try.func157 rfl rfl rfl ?_
 refine wC_sub (l' := [(0, .slice A n c)]) ⟨rfl, trivial⟩ (wC_seq (wC_region (wL_val (wn rfl) rfl rfl (y_assign rfl rfl) ?_)))
 refine wL_nil (wQ_then (wC_seq (wC_seq (wC_region (wL_val (wn rfl) rfl rfl (y_move rfl rfl) ?_)))))
 cases A with
 | none =>
  obtain ⟨rfl, rfl⟩ := rd_none h
  refine wL_val (v := .bool true) (wn rfl) rfl rfl (y_binop rfl rfl rfl (r_slnil Try.underlying57)) ?_
  refine wL_nil (wQ_sub (l' := [(0, _), (2, _), (4, _)]) ⟨rfl, rfl, rfl, trivial⟩ (wQ_then (wC_cond_t rfl (wC_seq (wC_region (wL_val (wn rfl) rfl rfl (y_assign rfl rfl) ?_))))))
  refine wL_nil (wQ_sub (l' := [(2, _)]) ⟨rfl, trivial⟩ (wQ_then (wC_ret (wQ_then_ret (wQ_post (rs := [.tmp 2]) (vs := [.slice none 0 0]) rfl ⟨rfl, trivial⟩ ?_)))))
  exact OwnPost.of (Below.refl _ _) (ownsRow_nil_ _ _ _ _)
 | some a =>
  refine wL_val (v := .bool false) (wn rfl) rfl rfl (y_binop rfl rfl rfl (r_slnil Try.underlying57)) ?_
  refine wL_nil (wQ_sub (l' := [(0, _), (2, _), (4, _)]) ⟨rfl, rfl, rfl, trivial⟩ (wQ_then (wC_cond_f rfl (wC_skip (wQ_then (wC_seq (wC_region (wL_newOwn (V := fun b => .slice (some ⟨b, 0, none⟩) 0 0) (row := #[]) (t := 37) (n := 0) (s := 6) (xs := []) S (wn rfl) rfl rfl (d_buildSlice (vs := []) rfl trivial (by kernel_rfl)) (by simp) (Nat.zero_le _) rfl ?_)))))))); intro b1 w2 S3; clear S
  refine wL_val (wn rfl) rfl rfl (y_move rfl rfl) ?_
  refine wL_append (news := l) (xs' := l) 0 S3 (wn rfl) rfl rfl rfl rfl rfl rfl (St.rd 1 S3 rfl) Try.underlying57 infz37 rfl (by decide) hone (by simp only [maxLen]; omega) (by omega) rfl ?_; intro A4 c5 w6 hc8 hm9 S7; clear S3
  change St _ _ _ [.own 37 6 (.slice A4 (0 + n) c5) (0 + n) l, _] at S7
  refine wL_val (wn rfl) rfl rfl (y_assign rfl rfl) ?_
  refine wL_nil (wQ_sub (l' := [(2, _)]) ⟨rfl, trivial⟩ (wQ_then (wC_ret (wQ_post (rs := [.tmp 2]) (vs := [.slice A4 (0 + n) c5]) rfl ⟨rfl, trivial⟩ ?_))))
  have S10 : St w.heap.size w w6 [_] := (St.del 1 S7); clear S7
  have ho := S10.own 0 rfl
  simp only [Nat.zero_add] at ho ⊢
  exact OwnPost.of S10.low ho

end Go.Proofs.Ytkjlafpafmihaaa

