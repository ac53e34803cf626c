/- Parts of proofs: lemmas on memory, on single functions and on the plain models; no condition of their own. -/
import Derived.Test.YtkjlafpafmihaaaRows
import Derived.WalkKit
import Derived.ProofKit
import Derived.OpenShut
import Derived.SizedLaws
import Derived.WalkSpells
import Derived.WalkLawsBesides
import Derived.Handy
import Derived.Deep.QuietTactic
import Derived.BigQuiet
import Derived.Lib.Hide
import Derived.Maps.AppendAt
import Derived.Deep.AppendLies
import Derived.RegionTactic
import Derived.OwnWalk
import Derived.Laws.Tables
import Derived.Deep.MidRow
import Derived.StillTailTactics
import Derived.OrdersHeld
import Derived.Deep.RegionHeld3
import Derived.Laws.IdiomCopy
import Derived.ChangeKeysEq
import Derived.Laws.BitsAllLaws
import Derived.Deep.DeepCutAuto
import Derived.Deep.CutRange
import Derived.Test.YtkjlafpafmihaaaG3266bb5701e5
import Derived.Test.YtkjlafpafmihaaaG4391f5675e30
import Derived.Test.YtkjlafpafmihaaaG53d9860cd554
import Derived.Test.YtkjlafpafmihaaaG5a4470397ed8
import Derived.Test.YtkjlafpafmihaaaG6c7d926bdf1e
import Derived.Test.YtkjlafpafmihaaaG8c8ada4b342a
import Derived.Test.YtkjlafpafmihaaaG90f7600ce72e
import Derived.Test.YtkjlafpafmihaaaG9b85a56455eb
import Derived.Test.YtkjlafpafmihaaaGbea5e349a2aa
import Derived.Test.YtkjlafpafmihaaaGc91015c24562
import Derived.Test.YtkjlafpafmihaaaGd7f7ec5356a9
import Derived.Test.YtkjlafpafmihaaaGdb62e807c2bc
set_option linter.unusedVariables false
set_option linter.unusedSimpArgs false

namespace Go.Proofs.Ytkjlafpafmihaaa
open Go.ChangeShapes Go.WideShapes Go.RowKit

set_option maxRecDepth 100000 in
set_option maxHeartbeats 1000000 in
theorem events_calls (A : Option Addr) (c : Nat) (l : List Ev) (w : World) (h : Rd w w.heap.size 6 A l.length (evCells l)) (hb : l.length * 48 ≤ reachBytes) :
    Calls Try.prog 69 #[.slice A l.length c] w (OwnPost w 37 6 l.length (evCells l)) := by
 have S := (St.start w).addRd h; clear h
 refine calls_of_wC (N := 5) (vs := [.slice A l.length c]) Try.func69 rfl rfl rfl ?_
 refine wC_sub (l' := [(0, .slice A l.length c)]) ⟨rfl, trivial⟩ (wC_seq (wC_region (wL_val (wn rfl) rfl rfl (y_assign rfl rfl) ?_)))
 refine wL_nil (wQ_then (wC_seq (wC_region (wL_val (wn rfl) rfl rfl (y_move rfl rfl) ?_))))
 refine wL_call (vs := [.slice A l.length c]) (wn rfl) rfl rfl (e_call (vs := [.slice A l.length c]) rfl en152 ⟨rfl, trivial⟩) (EventsCopy_calls A l.length c l _ (St.rd 0 S rfl) hb) ?_
 rintro _ w5 ⟨A1, c2, rfl, hb3, ho4⟩
 refine ⟨_, rfl, ?_⟩
 have S6 := S.onOwn hb3 ho4; clear hb3 ho4 S
 change St _ _ _ [.own 37 6 (.slice A1 l.length c2) l.length ((l).flatMap Ev.cells), _] at S6
 refine wL_val (wn rfl) rfl rfl (y_assign rfl rfl) ?_
 refine wL_nil (wQ_sub (l' := [(2, _)]) ⟨rfl, trivial⟩ (wQ_then (wC_ret (wQ_post (rs := [.tmp 2]) (vs := [.slice A1 l.length c2]) rfl ⟨rfl, trivial⟩ ?_))))
 have S7 : St w.heap.size w w5 [_] := (St.del 1 S6); clear S6
 exact OwnPost.of S7.low (S7.own 0 rfl)
end Go.Proofs.Ytkjlafpafmihaaa

