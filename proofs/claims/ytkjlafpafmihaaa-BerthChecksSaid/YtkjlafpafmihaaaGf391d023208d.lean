/- Parts of proofs: lemmas on memory, on single functions and on the plain models; no condition of their own. -/
import Derived.Test.YtkjlafpafmihaaaRows
import Derived.WalkKit
import Derived.ProofKit
import Derived.OpenShut
import Derived.SizedLaws
import Derived.WalkSpells
import Derived.WalkLawsBesides
import Derived.Handy
import Derived.Deep.QuietTactic
import Derived.BigQuiet
import Derived.Lib.Hide
import Derived.Maps.AppendAt
import Derived.Deep.AppendLies
import Derived.RegionTactic
import Derived.OwnWalk
import Derived.Laws.Tables
import Derived.Deep.MidRow
import Derived.StillTailTactics
import Derived.OrdersHeld
import Derived.Deep.RegionHeld3
import Derived.Laws.IdiomCopy
import Derived.ChangeKeysEq
import Derived.Laws.BitsAllLaws
import Derived.Deep.DeepCutAuto
import Derived.Deep.CutRange
import Derived.Shelf.SlSortCmp.WholeK
import Derived.Shelf.SlSortCmp.NoneTotal
import Derived.Shelf.SlicesG.Cmp
import Derived.Shelf.SlGeneric
import Derived.Ground.SlsfProg
import Derived.Ground.SlgcProg
import Derived.Maps.OwnSet
import Derived.Lib.SliceRun
import Derived.Deep.RegionLaw
import Derived.Test.YtkjlafpafmihaaaG06e1f1d2e814
import Derived.Test.YtkjlafpafmihaaaG0e35ec4e0bdc
import Derived.Test.YtkjlafpafmihaaaG2143c9b0b786
import Derived.Test.YtkjlafpafmihaaaG3cad135f796d
import Derived.Test.YtkjlafpafmihaaaG668153da7687
import Derived.Test.YtkjlafpafmihaaaG69ea6f18ea30
import Derived.Test.YtkjlafpafmihaaaG8ba6bfb0af5b
import Derived.Test.YtkjlafpafmihaaaG9d6a0cc61d66
import Derived.Test.YtkjlafpafmihaaaGa89c1a6f9966
import Derived.Test.YtkjlafpafmihaaaGa956530333d6
import Derived.Test.YtkjlafpafmihaaaGad4fca606e19
import Derived.Test.YtkjlafpafmihaaaGb705d1f06a25
import Derived.Test.YtkjlafpafmihaaaGc78e27da6ed6
import Derived.Test.YtkjlafpafmihaaaGf3cc171333c0
set_option linter.unusedVariables false
set_option linter.unusedSimpArgs false

namespace Go.Proofs.Ytkjlafpafmihaaa
open Go.ChangeShapes Go.WideShapes Go.RowKit

set_option maxRecDepth 100000 in
set_option maxHeartbeats 1000000 in
theorem berthChecks_calls (ro ep fr tg rd : Int) (A : Option Addr) (c : Nat) (l : List Ev) (hlc : l.length ≤ c) (w : World) (h : Rd w w.heap.size 6 A l.length (evCells l)) (hb : l.length * 48 ≤ reachBytes) :
    Calls Try.prog 18 #[.agg #[.int .i64 ro, .int .i64 ep, .int .i64 fr, .int .i64 tg, .int .i64 rd, .slice A l.length c]] w fun e w' => e = .returned (.bool true) ∧ Below w.heap.size w w' := by
 have S := (St.start w).addRd h; clear h
 have hb2 := hb
 unfold reachBytes at hb2
 refine calls_of_wC (N := 13) (vs := [.agg #[.int .i64 ro, .int .i64 ep, .int .i64 fr, .int .i64 tg, .int .i64 rd, .slice A l.length c]]) Try.func18 rfl rfl rfl ?_
 refine wC_sub (l' := [(0, .agg #[.int .i64 ro, .int .i64 ep, .int .i64 fr, .int .i64 tg, .int .i64 rd, .slice A l.length c])]) ⟨rfl, trivial⟩ (wC_seq (wC_region (wL_new (V := fun b => .pointer (some ⟨b, 0, none⟩)) (row := #[.int .i64 ro, .int .i64 ep, .int .i64 fr, .int .i64 tg, .int .i64 rd, .slice A l.length c]) (t := 108) S (wn rfl) rfl rfl (d_box rfl rfl rfl) ?_))); intro b1 w2 S3; clear S
 refine wL_val (wn rfl) rfl rfl (y_assign rfl rfl) ?_
 refine wL_nil (wQ_sub (l' := [(1, _), (2, _)]) ⟨rfl, rfl, trivial⟩ (wQ_then (wC_seq (wC_region (wL_val (wn rfl) rfl rfl (y_load rfl rfl (r_load_row 0 S3 rfl Try.underlying108 rfl inf108 rfl)) ?_)))))
 refine wL_call (vs := [.agg #[.int .i64 ro, .int .i64 ep, .int .i64 fr, .int .i64 tg, .int .i64 rd, .slice A l.length c]]) (wn rfl) rfl rfl (e_call (vs := [.agg #[.int .i64 ro, .int .i64 ep, .int .i64 fr, .int .i64 tg, .int .i64 rd, .slice A l.length c]]) rfl en77 ⟨rfl, trivial⟩) (berths_calls ro ep fr tg rd A c l _ (St.rd 1 S3 rfl) hb) ?_
 rintro _ w6 ⟨A4, c5, rfl, T8⟩
 refine ⟨_, rfl, ?_⟩
 have S7 := S3.ext T8 rfl; clear T8 S3
 change St _ _ _ [.own 37 6 (.slice A4 l.length c5) l.length ((l).flatMap Ev.cells), _, _] at S7
 refine wL_call (vs := [.agg #[.int .i64 ro, .int .i64 ep, .int .i64 fr, .int .i64 tg, .int .i64 rd, .slice A4 l.length c5]]) (wn rfl) rfl rfl (e_call (vs := [.agg #[.int .i64 ro, .int .i64 ep, .int .i64 fr, .int .i64 tg, .int .i64 rd, .slice A4 l.length c5]]) rfl en76 ⟨rfl, trivial⟩) (BCheck_calls ro ep fr tg rd A4 c5 l _ (St.ord 0 S7 rfl) (by omega)) ?_
 rintro _ w9 ⟨rfl, hb11⟩
 refine ⟨_, rfl, ?_⟩
 have S10 := S7.on hb11; clear hb11 S7
 refine wL_val (wn rfl) rfl rfl (y_assign rfl rfl) ?_
 refine wL_nil (wQ_sub (l' := [(1, _), (2, _), (3, _)]) ⟨rfl, rfl, rfl, trivial⟩ (wQ_then (wC_seq (wC_region (wL_val (wn rfl) rfl rfl (y_load rfl rfl (r_load_row 1 S10 rfl Try.underlying108 rfl inf108 rfl)) ?_)))))
 refine wL_call (vs := [.agg #[.int .i64 ro, .int .i64 ep, .int .i64 fr, .int .i64 tg, .int .i64 rd, .slice A l.length c]]) (wn rfl) rfl rfl (e_call (vs := [.agg #[.int .i64 ro, .int .i64 ep, .int .i64 fr, .int .i64 tg, .int .i64 rd, .slice A l.length c]]) rfl en78 ⟨rfl, trivial⟩) (BerthFault_calls ro ep fr tg rd A c l _ (St.rd 2 S10 rfl) (by omega)) ?_
 rintro _ w12 ⟨rfl, hb14⟩
 refine ⟨_, rfl, ?_⟩
 have S13 := S10.on hb14; clear hb14 S10
 refine wL_val (wn rfl) rfl rfl (y_assign rfl rfl) ?_
 refine wL_nil (wQ_sub (l' := [(2, _), (3, _), (4, _)]) ⟨rfl, rfl, rfl, trivial⟩ (wQ_then (wC_seq (wC_region (wL_val (wn rfl) rfl rfl (y_move rfl rfl) ?_)))))
 refine wL_val (wn rfl) rfl rfl (y_move rfl rfl) ?_
 refine wL_val (v := .bool true) (wn rfl) rfl rfl (y_binop rfl rfl rfl (r_eql_t rfl)) ?_
 refine wL_val (wn rfl) rfl rfl (y_assign rfl rfl) ?_
 refine wL_nil (wQ_sub (l' := [(2, _)]) ⟨rfl, trivial⟩ (wQ_then (wC_ret (wQ_post (rs := [.tmp 2]) (vs := [.bool true]) rfl ⟨rfl, trivial⟩ ?_))))
 exact ⟨rfl, S13.low⟩

set_option maxRecDepth 100000 in
theorem berthChecks_walk (W : World) (args : Array Value) (h : All2 (ArgOk Try.prog W) args.toList Try.f18.params.toList) :
    Calls Try.prog 18 args W fun e W' => e = .returned (.bool true) ∧ Below W.heap.size W W' := by
  rw [Try.params18] at h
  obtain ⟨v0, l0, hv0, h0, g0⟩ := All2.cons_ h
  have h9 := All2.nil_ g0
  subst h9
  obtain rfl : args = #[v0] := by cases args; simp_all
  obtain ⟨ro, ep, fr, tg, rd, A, c, l, rfl, hr, hn, hc, hb⟩ := arg_berth h0
  exact berthChecks_calls ro ep fr tg rd A c l hn W hr hb
end Go.Proofs.Ytkjlafpafmihaaa

