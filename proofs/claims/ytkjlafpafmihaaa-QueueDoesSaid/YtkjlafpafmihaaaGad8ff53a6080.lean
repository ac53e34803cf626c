/- Parts of proofs: lemmas on memory, on single functions and on the plain models; no condition of their own. -/
import Derived.Test.YtkjlafpafmihaaaRows
import Derived.WalkKit
import Derived.ProofKit
import Derived.OpenShut
import Derived.SizedLaws
import Derived.WalkSpells
import Derived.WalkLawsBesides
import Derived.Handy
import Derived.Deep.QuietTactic
import Derived.BigQuiet
import Derived.Lib.Hide
import Derived.Maps.AppendAt
import Derived.Deep.AppendLies
import Derived.RegionTactic
import Derived.OwnWalk
import Derived.Laws.Tables
import Derived.Deep.MidRow
import Derived.StillTailTactics
import Derived.OrdersHeld
import Derived.Deep.RegionHeld3
import Derived.Laws.IdiomCopy
import Derived.ChangeKeysEq
import Derived.Laws.BitsAllLaws
import Derived.Deep.DeepCutAuto
import Derived.Deep.CutRange
import Derived.Maps.OwnSet
import Derived.Test.YtkjlafpafmihaaaG0e35ec4e0bdc
import Derived.Test.YtkjlafpafmihaaaG2143c9b0b786
import Derived.Test.YtkjlafpafmihaaaG3cad135f796d
import Derived.Test.YtkjlafpafmihaaaG668153da7687
import Derived.Test.YtkjlafpafmihaaaGa89c1a6f9966
import Derived.Test.YtkjlafpafmihaaaGa956530333d6
import Derived.Test.YtkjlafpafmihaaaGad4fca606e19
import Derived.Test.YtkjlafpafmihaaaGb705d1f06a25
import Derived.Test.YtkjlafpafmihaaaGc78e27da6ed6
import Derived.Test.YtkjlafpafmihaaaGfed51b8f206e
set_option linter.unusedVariables false
set_option linter.unusedSimpArgs false

namespace Go.Proofs.Ytkjlafpafmihaaa
open Go.ChangeShapes Go.WideShapes Go.RowKit

set_option maxRecDepth 100000 in
set_option maxHeartbeats 1000000 in
theorem queues_calls (ep nx gv : Int) (A1 A2 : Option Addr) (c1 c2 : Nat) (rs : List Msg) (ls : List Ls) (W : Wins) (w : World) (h1 : Rd w w.heap.size 2 A1 rs.length (rs.flatMap Msg.cells)) (h2 : Rd w w.heap.size 4 A2 ls.length (ls.flatMap Ls.cells)) (hb1 : rs.length * 16 ≤ reachBytes) (hb2 : ls.length * 32 ≤ reachBytes) :
    Calls Try.prog 31 #[.agg (qRow ep nx gv (.slice A1 rs.length c1) (.slice A2 ls.length c2) W)] w (QNew w ep nx gv rs ls W) := by
 have S := ((St.start w).addRd h2).addRd h1
 refine calls_of_wC (N := 5) (vs := [.agg (qRow ep nx gv (.slice A1 rs.length c1) (.slice A2 ls.length c2) W)]) Try.func31 rfl rfl rfl ?_
 refine wC_sub (l' := [(0, .agg (qRow ep nx gv (.slice A1 rs.length c1) (.slice A2 ls.length c2) W))]) ⟨rfl, trivial⟩ (wC_seq (wC_region (wL_new (V := fun b => .pointer (some ⟨b, 0, none⟩)) (row := qRow ep nx gv (.slice A1 rs.length c1) (.slice A2 ls.length c2) W) (t := 29) S (wn rfl) rfl rfl (d_box rfl rfl rfl) ?_))); intro b1 w2 S3; clear S
 refine wL_new (V := fun b => .pointer (some ⟨b, 0, none⟩)) (row := qRow 0 0 0 (.slice none 0 0) (.slice none 0 0) zeroWs) (t := 29) S3 (wn rfl) rfl rfl (d_alloc rfl (Try.zeroValue29 _) rfl) ?_; intro b4 w5 S6; clear S3
 refine wL_nil (wQ_sub (l' := [(1, _), (2, _)]) ⟨rfl, rfl, trivial⟩ (wQ_then (wC_seq (wC_region (wL_val (wn rfl) rfl rfl (y_load rfl rfl (r_load_row 1 S6 rfl Try.underlying29 rfl inf29 rfl)) ?_)))))
 refine wL_call (vs := [.agg (qRow ep nx gv (.slice A1 rs.length c1) (.slice A2 ls.length c2) W)]) (wn rfl) rfl rfl (e_call (vs := [.agg (qRow ep nx gv (.slice A1 rs.length c1) (.slice A2 ls.length c2) W)]) rfl en106 ⟨rfl, trivial⟩) (QueueCopy_calls ep nx gv A1 A2 c1 c2 rs ls W _ (St.rd 2 S6 rfl) (St.rd 3 S6 rfl) hb1 hb2) ?_
 rintro _ w11 ⟨A7, c8, A9, c10, rfl, T13⟩
 refine ⟨_, rfl, ?_⟩
 have S12 := S6.ext T13 rfl; clear T13 S6
 change St _ _ _ [.own 141 4 (.slice A9 ls.length c10) ls.length ((ls).flatMap Ls.cells), .own 137 2 (.slice A7 rs.length c8) rs.length ((rs).flatMap Msg.cells), _, _, _, _] at S12
 refine wL_st (fs' := [_, _, _, _, _, _]) 2 S12 (wn rfl) rfl rfl rfl rfl rfl rfl inf29 rfl (qRow_one rfl rfl) (Nat.le_of_ble_eq_true rfl) (setAll_all rfl) rfl ?_; intro w14 S15; clear S12
 refine wL_nil (wQ_sub (l' := [(2, _)]) ⟨rfl, trivial⟩ (wQ_then (wC_ret (wQ_post (rs := [.cell 2 29]) (vs := [.agg (qRow ep nx gv (.slice A7 rs.length c8) (.slice A9 ls.length c10) W)]) rfl ⟨⟨_, rfl, res_row 2 S15 rfl Try.underlying29 rfl inf29⟩, trivial⟩ ?_))))
 have S16 : St w.heap.size w w14 [_, _] := (St.del 2 (St.del 3 (St.del 4 (St.del 5 S15)))); clear S15
 exact ⟨_, _, _, _, rfl, S16⟩

end Go.Proofs.Ytkjlafpafmihaaa

