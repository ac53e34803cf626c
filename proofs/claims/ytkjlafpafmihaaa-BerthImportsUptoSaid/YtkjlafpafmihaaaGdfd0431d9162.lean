/- Parts of proofs: lemmas on memory, on single functions and on the plain models; no condition of their own. -/
import Derived.Test.YtkjlafpafmihaaaRows
import Derived.WalkKit
import Derived.ProofKit
import Derived.OpenShut
import Derived.SizedLaws
import Derived.WalkSpells
import Derived.WalkLawsBesides
import Derived.Handy
import Derived.Deep.QuietTactic
import Derived.BigQuiet
import Derived.Lib.Hide
import Derived.Maps.AppendAt
import Derived.Deep.AppendLies
import Derived.RegionTactic
import Derived.OwnWalk
import Derived.Laws.Tables
import Derived.Deep.MidRow
import Derived.StillTailTactics
import Derived.OrdersHeld
import Derived.Deep.RegionHeld3
import Derived.Laws.IdiomCopy
import Derived.ChangeKeysEq
import Derived.Laws.BitsAllLaws
import Derived.Deep.DeepCutAuto
import Derived.Deep.CutRange
import Derived.Shelf.SlSortCmp.WholeK
import Derived.Shelf.SlSortCmp.NoneTotal
import Derived.Shelf.SlicesG.Cmp
import Derived.Shelf.SlGeneric
import Derived.Ground.SlsfProg
import Derived.Ground.SlgcProg
import Derived.Maps.OwnSet
import Derived.Lib.SliceRun
import Derived.Deep.RegionLaw
import Derived.Test.YtkjlafpafmihaaaG10bc09417b62
import Derived.Test.YtkjlafpafmihaaaG19e1afd8d7e3
import Derived.Test.YtkjlafpafmihaaaG3266bb5701e5
import Derived.Test.YtkjlafpafmihaaaG3d212660837e
import Derived.Test.YtkjlafpafmihaaaG53d9860cd554
import Derived.Test.YtkjlafpafmihaaaG5a4470397ed8
import Derived.Test.YtkjlafpafmihaaaG5e9429b7852d
import Derived.Test.YtkjlafpafmihaaaG6c7d926bdf1e
import Derived.Test.YtkjlafpafmihaaaG8c8ada4b342a
import Derived.Test.YtkjlafpafmihaaaG90f7600ce72e
import Derived.Test.YtkjlafpafmihaaaG9b85a56455eb
import Derived.Test.YtkjlafpafmihaaaGbba4dd792112
import Derived.Test.YtkjlafpafmihaaaGbea5e349a2aa
import Derived.Test.YtkjlafpafmihaaaGc91015c24562
import Derived.Test.YtkjlafpafmihaaaGcd1d2a0662d0
import Derived.Test.YtkjlafpafmihaaaGd7f7ec5356a9
import Derived.Test.YtkjlafpafmihaaaGdb62e807c2bc
import Derived.Test.YtkjlafpafmihaaaGe672b991440f
set_option linter.unusedVariables false
set_option linter.unusedSimpArgs false

namespace Go.Proofs.Ytkjlafpafmihaaa
open Go.ChangeShapes Go.WideShapes Go.RowKit

/-- A telling's cells: a queue's, a slice. -/
def tRow (e n g : Int) (r l : Value) (W : Wins) (a : Value) : Array Value := (.int .i64 e :: .int .i64 n :: .int .i64 g :: r :: l :: (W.cells ++ [a])).toArray
section
variable {e n g : Int} {r l a : Value} {W : Wins}
theorem tRow_size : (tRow e n g r l W a).size = 42 := rfl
theorem tRow_q : ∀ (j : Nat) (u : Value), (qRow e n g r l W).toList[j]? = some u → (tRow e n g r l W a)[0 + j]? = some u := sub_row (m := 41) rfl
theorem tRow_p0 {e' n' g' : Int} {r' l' : Value} {W' : Wins} : setAll (tRow e n g r l W a) 0 (qRow e' n' g' r' l' W').toList = tRow e' n' g' r' l' W' a := by
  apply Array.toList_inj.1
  rw [setAll_list _ _ _ (by rw [tRow_size]; show 0 + 41 ≤ 42; omega)]
  rfl
end
/-- A telling: its block, its queue's slices, its answers. -/
def tellFacts (g : Nat) (Q : Qd) (an : List Ans) (A1 : Option Addr) (c1 : Nat) (A2 : Option Addr) (c2 : Nat) (A3 : Option Addr) (c3 : Nat) (fs : List Fact) : List Fact :=
  (.blk g (tRow Q.ep Q.nx Q.gv (.slice A1 Q.ready.length c1) (.slice A2 Q.leases.length c2) Q.ws (.slice A3 an.length c3)) 203) :: (.rdo 2 A1 Q.ready.length ((Q.ready).flatMap Msg.cells)) :: (.rdo 4 A2 Q.leases.length ((Q.leases).flatMap Ls.cells)) :: (.own 93 4 (.slice A3 an.length c3) an.length ((an).flatMap Ans.cells)) :: fs
def AddPost (B : Nat) (w0 : World) (g : Nat) (fs : List Fact) (an : List Ans) (r : Qd × Ans × Bool × Int) (e : Ending) (w' : World) : Prop :=
  ((r.2.2.2 = 0 ∧ r.2.2.1 = true) → e = .returned (.bool true) ∧ ∃ A1 c1 A2 c2 A3 c3, St B w0 w' (tellFacts g r.1 (an ++ [r.2.1]) A1 c1 A2 c2 A3 c3 fs)) ∧ (¬ (r.2.2.2 = 0 ∧ r.2.2.1 = true) → e = .returned (.bool false) ∧ St B w0 w' fs)
def TellPost (w : World) (r : Qd × List Ans × Int) (e : Ending) (w' : World) : Prop :=
  (r.2.2 = 0 → ∃ g A1 c1 A2 c2 A3 c3, e = .returned (.tuple #[.pointer (some ⟨g, 0, none⟩), .int .i64 0]) ∧ St w.heap.size w w' (tellFacts g r.1 r.2.1 A1 c1 A2 c2 A3 c3 [])) ∧ (r.2.2 ≠ 0 → e = .returned (.tuple #[.pointer none, .int .i64 r.2.2]) ∧ Below w.heap.size w w')
def ToldPost (w : World) (r : Qd × List Ans × Int) (e : Ending) (w' : World) : Prop := ∃ A1 c1 A2 c2 A3 c3,
  e = .returned (.tuple #[.agg (qRow r.1.ep r.1.nx r.1.gv (.slice A1 r.1.ready.length c1) (.slice A2 r.1.leases.length c2) r.1.ws), .slice A3 r.2.1.length c3, .int .i64 r.2.2]) ∧
  St w.heap.size w w' [.rdo 2 A1 r.1.ready.length (r.1.ready.flatMap Msg.cells), .rdo 4 A2 r.1.leases.length (r.1.leases.flatMap Ls.cells), .rdo 4 A3 r.2.1.length (r.2.1.flatMap Ans.cells)]
set_option maxRecDepth 100000 in
set_option maxHeartbeats 2000000 in
theorem add_calls {B g c1 c2 c3 : Nat} {w0 w : World} {fs : List Fact} {A1 A2 A3 : Option Addr} {Q : Qd} {an : List Ans} {x : Ev} (S : St B w0 w (tellFacts g Q an A1 c1 A2 c2 A3 c3 fs)) (hq : Q.ready.length + Q.leases.length ≤ 501) (ha : an.length ≤ 2000) :
    Calls Try.prog 181 #[.pointer (some ⟨g, 0, none⟩), .agg #[.int .i64 x.kind, .int .i64 x.producer, .int .i64 x.id, .int .i64 x.body, .int .i64 x.hepoch, .int .i64 x.hno]] w (AddPost B w0 g fs an (doM Q x)) := by
 unfold tellFacts at S
 obtain ⟨R, hR⟩ : ∃ R, doM Q x = R := ⟨_, rfl⟩
 refine calls_of_wC (N := 40) (vs := [.pointer (some ⟨g, 0, none⟩), .agg #[.int .i64 x.kind, .int .i64 x.producer, .int .i64 x.id, .int .i64 x.body, .int .i64 x.hepoch, .int .i64 x.hno]]) Try.func181 rfl rfl rfl ?_
 refine wC_sub (l' := [(0, .pointer (some ⟨g, 0, none⟩)), (1, .agg #[.int .i64 x.kind, .int .i64 x.producer, .int .i64 x.id, .int .i64 x.body, .int .i64 x.hepoch, .int .i64 x.hno])]) ⟨rfl, rfl, trivial⟩ (wC_seq (wC_region (wL_new (V := fun b => .pointer (some ⟨b, 0, none⟩)) (row := #[.int .i64 x.kind, .int .i64 x.producer, .int .i64 x.id, .int .i64 x.body, .int .i64 x.hepoch, .int .i64 x.hno]) (t := 37) S (wn rfl) rfl rfl (d_box rfl rfl rfl) ?_))); intro b1 w2 S3; clear S
 refine wL_val (wn rfl) rfl rfl (y_assign rfl rfl) ?_
 refine wL_nil (wQ_sub (l' := [(0, _), (3, _), (4, _)]) ⟨rfl, rfl, rfl, trivial⟩ (wQ_then (wC_cut (X := Nat × Nat × (Option Addr) × Nat × (Option Addr) × Nat) (fun xv => [(0, .pointer (some ⟨g, 0, none⟩)), (4, .bool false), (5, .pointer (some ⟨xv.1, 0, none⟩)), (6, .pointer (some ⟨xv.2.1, 0, none⟩)), (7, .bool R.2.2.1), (8, .int .i64 R.2.2.2)]) (fun xv wr => St B w0 wr ((.blk xv.2.1 #[.int .i64 R.2.1.code, .int .i64 R.2.1.hep, .int .i64 R.2.1.hno, .int .i64 R.2.1.body] 93) :: (.blk xv.1 (qRow R.1.ep R.1.nx R.1.gv (.slice xv.2.2.1 R.1.ready.length xv.2.2.2.1) (.slice xv.2.2.2.2.1 R.1.leases.length xv.2.2.2.2.2) R.1.ws) 29) :: (.rdo 2 xv.2.2.1 R.1.ready.length ((R.1.ready).flatMap Msg.cells)) :: (.rdo 4 xv.2.2.2.2.1 R.1.leases.length ((R.1.leases).flatMap Ls.cells)) :: (.blk b1 #[.int .i64 x.kind, .int .i64 x.producer, .int .i64 x.id, .int .i64 x.body, .int .i64 x.hepoch, .int .i64 x.hno] 37) :: (.blk g (tRow Q.ep Q.nx Q.gv (.slice A1 Q.ready.length c1) (.slice A2 Q.leases.length c2) Q.ws (.slice A3 an.length c3)) 203) :: (.rdo 2 A1 Q.ready.length ((Q.ready).flatMap Msg.cells)) :: (.rdo 4 A2 Q.leases.length ((Q.leases).flatMap Ls.cells)) :: (.own 93 4 (.slice A3 an.length c3) an.length ((an).flatMap Ans.cells)) :: fs)) ?_ ?_)))
 ·have S4 := S3.drew; clear S3
  refine wC_any_ (C := fun w' => St B w0 w' ((.blk b1 #[.int .i64 x.kind, .int .i64 x.producer, .int .i64 x.id, .int .i64 x.body, .int .i64 x.hepoch, .int .i64 x.hno] 37) :: (.blk g (tRow Q.ep Q.nx Q.gv (.slice A1 Q.ready.length c1) (.slice A2 Q.leases.length c2) Q.ws (.slice A3 an.length c3)) 203) :: (.rdo 2 A1 Q.ready.length ((Q.ready).flatMap Msg.cells)) :: (.rdo 4 A2 Q.leases.length ((Q.leases).flatMap Ls.cells)) :: (.own 93 4 (.slice A3 an.length c3) an.length ((an).flatMap Ans.cells)) :: fs)) (n := 17) (listed := #[false, false, false, false, false, false, false, false, false, false, false, false, false, false, false, false, false]) mixed rfl rfl ?_
  refine wA_take (v := .pointer (some ⟨g, 0, none⟩)) (i := 0) (n := 16) (listed' := #[true, false, false, false, false, false, false, false, false, false, false, false, false, false, false, false, false]) rfl (by kernel_rfl) (by kernel_rfl) (by kernel_rfl) S4 rfl (wn rfl) rfl rfl (fun _ _ => (y_move rfl rfl)) ?_
  refine wA_take (v := .pointer (some ⟨g, 0, none⟩)) (i := 1) (n := 15) (listed' := #[true, true, false, false, false, false, false, false, false, false, false, false, false, false, false, false, false]) rfl (by kernel_rfl) (by kernel_rfl) (by kernel_rfl) S4 rfl (wn rfl) rfl rfl (fun _ _ => (y_nil rfl rfl trivial)) ?_
  refine wA_take (v := .pointer (some ⟨g, 0, none⟩)) (i := 2) (n := 14) (listed' := #[true, true, true, false, false, false, false, false, false, false, false, false, false, false, false, false, false]) rfl (by kernel_rfl) (by kernel_rfl) (by kernel_rfl) S4 rfl (wn rfl) rfl rfl (fun _ _ => (y_fieldAddr rfl rfl (fa203_0 _ _ _))) ?_
  refine wA_take (v := .agg (qRow Q.ep Q.nx Q.gv (.slice A1 Q.ready.length c1) (.slice A2 Q.leases.length c2) Q.ws)) (i := 3) (n := 13) (listed' := #[true, true, true, true, false, false, false, false, false, false, false, false, false, false, false, false, false]) rfl (by kernel_rfl) (by kernel_rfl) (by kernel_rfl) S4 rfl (wn rfl) rfl rfl (fun _ Sx8 => (y_load rfl rfl (r_load_agg (cs := (qRow Q.ep Q.nx Q.gv (.slice A1 Q.ready.length c1) (.slice A2 Q.leases.length c2) Q.ws).toList) Try.underlying29 rfl inf29 rfl (St.rg 1 Sx8 rfl (tRow_q))))) ?_
  refine wA_take (v := .agg #[.int .i64 x.kind, .int .i64 x.producer, .int .i64 x.id, .int .i64 x.body, .int .i64 x.hepoch, .int .i64 x.hno]) (i := 4) (n := 12) (listed' := #[true, true, true, true, true, false, false, false, false, false, false, false, false, false, false, false, false]) rfl (by kernel_rfl) (by kernel_rfl) (by kernel_rfl) S4 rfl (wn rfl) rfl rfl (fun _ Sx9 => (y_load rfl rfl (r_load_row 0 Sx9 rfl Try.underlying37 rfl inf37 rfl))) ?_
  refine wA_three (n := 11) (r := 5) (s := 11) (t := 12) (by kernel_rfl) ?_ ?_ ?_
  ·have HD := fun A1 A2 c1 c2 w h1 h2 => Do_calls Q.ep Q.nx Q.gv x.kind x.producer x.id x.body x.hepoch x.hno A1 A2 c1 c2 Q.ready Q.leases Q.ws w h1 h2 (by unfold reachBytes; omega) (by unfold reachBytes; omega)
   rw [show doM ⟨Q.ep, Q.nx, Q.gv, Q.ready, Q.leases, Q.ws⟩ ⟨x.kind, x.producer, x.id, x.body, x.hepoch, x.hno⟩ = R from hR] at HD
   refine wN_call_ (i := 5) (listed' := #[true, true, true, true, true, true, false, false, false, false, false, false, false, false, false, false, false]) rfl rfl (vs := [.agg (qRow Q.ep Q.nx Q.gv (.slice A1 Q.ready.length c1) (.slice A2 Q.leases.length c2) Q.ws), .agg #[.int .i64 x.kind, .int .i64 x.producer, .int .i64 x.id, .int .i64 x.body, .int .i64 x.hepoch, .int .i64 x.hno]]) (wn rfl) rfl rfl (e_call (vs := [.agg (qRow Q.ep Q.nx Q.gv (.slice A1 Q.ready.length c1) (.slice A2 Q.leases.length c2) Q.ws), .agg #[.int .i64 x.kind, .int .i64 x.producer, .int .i64 x.id, .int .i64 x.body, .int .i64 x.hepoch, .int .i64 x.hno]]) rfl en66 ⟨rfl, rfl, trivial⟩) (HD A1 A2 c1 c2 _ (St.rdo 2 S4 rfl) (St.rdo 3 S4 rfl)) ?_
   rintro _ w14 ⟨A10, c11, A12, c13, rfl, T16⟩
   refine ⟨_, rfl, ?_⟩
   have S15 := S4.ext T16 rfl; clear T16 S4
   change St _ _ _ ((.rdo 2 A10 R.1.ready.length ((R.1.ready).flatMap Msg.cells)) :: (.rdo 4 A12 R.1.leases.length ((R.1.leases).flatMap Ls.cells)) :: _ :: _ :: _ :: _ :: _ :: fs) at S15; clear HD
   refine ⟨(St.del 0 (St.del 1 S15)), ?_⟩
   refine wA_take (v := .tuple #[.agg (qRow R.1.ep R.1.nx R.1.gv (.slice A10 R.1.ready.length c11) (.slice A12 R.1.leases.length c13) R.1.ws), .agg #[.int .i64 R.2.1.code, .int .i64 R.2.1.hep, .int .i64 R.2.1.hno, .int .i64 R.2.1.body], .bool R.2.2.1, .int .i64 R.2.2.2]) (i := 6) (n := 10) (listed' := #[true, true, true, true, true, true, true, false, false, false, false, false, false, false, false, false, false]) rfl (by kernel_rfl) (by kernel_rfl) (by kernel_rfl) (St.del 0 (St.del 1 S15)) rfl (wn rfl) rfl rfl (fun _ _ => (y_move rfl rfl)) ?_
   refine wA_take (v := .agg (qRow R.1.ep R.1.nx R.1.gv (.slice A10 R.1.ready.length c11) (.slice A12 R.1.leases.length c13) R.1.ws)) (i := 7) (n := 9) (listed' := #[true, true, true, true, true, true, true, true, false, false, false, false, false, false, false, false, false]) rfl (by kernel_rfl) (by kernel_rfl) (by kernel_rfl) (St.del 0 (St.del 1 S15)) rfl (wn rfl) rfl rfl (fun _ _ => (y_extract rfl rfl rfl)) ?_
   refine wA_take (v := .agg #[.int .i64 R.2.1.code, .int .i64 R.2.1.hep, .int .i64 R.2.1.hno, .int .i64 R.2.1.body]) (i := 8) (n := 8) (listed' := #[true, true, true, true, true, true, true, true, true, false, false, false, false, false, false, false, false]) rfl (by kernel_rfl) (by kernel_rfl) (by kernel_rfl) (St.del 0 (St.del 1 S15)) rfl (wn rfl) rfl rfl (fun _ _ => (y_extract rfl rfl rfl)) ?_
   refine wA_take (v := .bool R.2.2.1) (i := 9) (n := 7) (listed' := #[true, true, true, true, true, true, true, true, true, true, false, false, false, false, false, false, false]) rfl (by kernel_rfl) (by kernel_rfl) (by kernel_rfl) (St.del 0 (St.del 1 S15)) rfl (wn rfl) rfl rfl (fun _ _ => (y_extract rfl rfl rfl)) ?_
   refine wA_take (v := .int .i64 R.2.2.2) (i := 10) (n := 6) (listed' := #[true, true, true, true, true, true, true, true, true, true, true, false, false, false, false, false, false]) rfl (by kernel_rfl) (by kernel_rfl) (by kernel_rfl) (St.del 0 (St.del 1 S15)) rfl (wn rfl) rfl rfl (fun _ _ => (y_extract rfl rfl rfl)) ?_
   refine wA_two (n := 5) (r := 11) (s := 12) (by kernel_rfl) ?_ ?_
   ·refine wN_new (i := 11) (listed' := #[true, true, true, true, true, true, true, true, true, true, true, true, false, false, false, false, false]) rfl rfl (V := fun b => .pointer (some ⟨b, 0, none⟩)) (row := qRow 0 0 0 (.slice none 0 0) (.slice none 0 0) zeroWs) (t := 29) S15 (wn rfl) rfl rfl (d_alloc rfl (Try.zeroValue29 _) rfl) ?_; intro b22 w23 S24; clear S15
    refine ⟨(St.del 0 (St.del 1 (St.del 2 S24))), ?_⟩
    refine wA_one (n := 4) (r := 12) (by kernel_rfl) ?_
    refine wN_new (i := 12) (listed' := #[true, true, true, true, true, true, true, true, true, true, true, true, true, false, false, false, false]) rfl rfl (V := fun b => .pointer (some ⟨b, 0, none⟩)) (row := #[.int .i64 0, .int .i64 0, .int .i64 0, .int .i64 0]) (t := 93) S24 (wn rfl) rfl rfl (d_alloc rfl (Try.zeroValue93 _) rfl) ?_; intro b25 w26 S27; clear S24
    refine ⟨(St.del 0 (St.del 1 (St.del 2 (St.del 3 S27)))), ?_⟩
    refine wA_one (n := 3) (r := 13) (by kernel_rfl) ?_
    refine wN_st (i := 13) (listed' := #[true, true, true, true, true, true, true, true, true, true, true, true, true, true, false, false, false]) rfl rfl (fs' := (_ :: _ :: _ :: _ :: _ :: _ :: _ :: _ :: _ :: fs)) 1 S27 (wn rfl) rfl rfl rfl rfl rfl rfl inf29 rfl (qRow_one rfl rfl) (Nat.le_of_ble_eq_true rfl) (setAll_all rfl) rfl ?_; intro w28 S29; clear S27
    refine ⟨(St.del 0 (St.del 1 (St.del 2 (St.del 3 S29)))), ?_⟩
    refine wA_one (n := 2) (r := 14) (by kernel_rfl) ?_
    refine wN_st (i := 14) (listed' := #[true, true, true, true, true, true, true, true, true, true, true, true, true, true, true, false, false]) rfl rfl (fs' := (_ :: _ :: _ :: _ :: _ :: _ :: _ :: _ :: _ :: fs)) 0 S29 (wn rfl) rfl rfl rfl rfl rfl rfl inf93 rfl (oneAll rfl) (Nat.le_of_ble_eq_true rfl) (setAll_all rfl) rfl ?_; intro w30 S31; clear S29
    refine ⟨(St.del 0 (St.del 1 (St.del 2 (St.del 3 S31)))), ?_⟩
    refine wA_take (v := .bool R.2.2.1) (i := 15) (n := 1) (listed' := #[true, true, true, true, true, true, true, true, true, true, true, true, true, true, true, true, false]) rfl (by kernel_rfl) (by kernel_rfl) (by kernel_rfl) (St.del 0 (St.del 1 (St.del 2 (St.del 3 S31)))) rfl (wn rfl) rfl rfl (fun _ _ => (y_assign rfl rfl)) ?_
    refine wA_take (v := .int .i64 R.2.2.2) (i := 16) (n := 0) (listed' := #[true, true, true, true, true, true, true, true, true, true, true, true, true, true, true, true, true]) rfl (by kernel_rfl) (by kernel_rfl) (by kernel_rfl) (St.del 0 (St.del 1 (St.del 2 (St.del 3 S31)))) rfl (wn rfl) rfl rfl (fun _ _ => (y_assign rfl rfl)) ?_
    refine wA_done (by kernel_rfl) ?_
    refine wQ_sub (l' := [(0, _), (4, _), (5, _), (6, _), (7, _), (8, _)]) ⟨rfl, rfl, rfl, rfl, rfl, rfl, trivial⟩ (wQ_cut (b22, b25, A10, c11, A12, c13) ?_ ⟨rfl, rfl, rfl, rfl, rfl, rfl, trivial⟩)
    exact S31
   ·refine wN_new (i := 12) (listed' := #[true, true, true, true, true, true, true, true, true, true, true, false, true, false, false, false, false]) rfl rfl (V := fun b => .pointer (some ⟨b, 0, none⟩)) (row := #[.int .i64 0, .int .i64 0, .int .i64 0, .int .i64 0]) (t := 93) S15 (wn rfl) rfl rfl (d_alloc rfl (Try.zeroValue93 _) rfl) ?_; intro b34 w35 S36; clear S15
    refine ⟨(St.del 0 (St.del 1 (St.del 2 S36))), ?_⟩
    refine wA_one (n := 4) (r := 11) (by kernel_rfl) ?_
    refine wN_new (i := 11) (listed' := #[true, true, true, true, true, true, true, true, true, true, true, true, true, false, false, false, false]) rfl rfl (V := fun b => .pointer (some ⟨b, 0, none⟩)) (row := qRow 0 0 0 (.slice none 0 0) (.slice none 0 0) zeroWs) (t := 29) S36 (wn rfl) rfl rfl (d_alloc rfl (Try.zeroValue29 _) rfl) ?_; intro b37 w38 S39; clear S36
    refine ⟨(St.del 0 (St.del 1 (St.del 2 (St.del 3 S39)))), ?_⟩
    refine wA_one (n := 3) (r := 13) (by kernel_rfl) ?_
    refine wN_st (i := 13) (listed' := #[true, true, true, true, true, true, true, true, true, true, true, true, true, true, false, false, false]) rfl rfl (fs' := (_ :: _ :: _ :: _ :: _ :: _ :: _ :: _ :: _ :: fs)) 0 S39 (wn rfl) rfl rfl rfl rfl rfl rfl inf29 rfl (qRow_one rfl rfl) (Nat.le_of_ble_eq_true rfl) (setAll_all rfl) rfl ?_; intro w40 S41; clear S39
    refine ⟨(St.del 0 (St.del 1 (St.del 2 (St.del 3 S41)))), ?_⟩
    refine wA_one (n := 2) (r := 14) (by kernel_rfl) ?_
    refine wN_st (i := 14) (listed' := #[true, true, true, true, true, true, true, true, true, true, true, true, true, true, true, false, false]) rfl rfl (fs' := (_ :: _ :: _ :: _ :: _ :: _ :: _ :: _ :: _ :: fs)) 1 S41 (wn rfl) rfl rfl rfl rfl rfl rfl inf93 rfl (oneAll rfl) (Nat.le_of_ble_eq_true rfl) (setAll_all rfl) rfl ?_; intro w42 S43; clear S41
    refine ⟨(St.del 0 (St.del 1 (St.del 2 (St.del 3 S43)))), ?_⟩
    refine wA_take (v := .bool R.2.2.1) (i := 15) (n := 1) (listed' := #[true, true, true, true, true, true, true, true, true, true, true, true, true, true, true, true, false]) rfl (by kernel_rfl) (by kernel_rfl) (by kernel_rfl) (St.del 0 (St.del 1 (St.del 2 (St.del 3 S43)))) rfl (wn rfl) rfl rfl (fun _ _ => (y_assign rfl rfl)) ?_
    refine wA_take (v := .int .i64 R.2.2.2) (i := 16) (n := 0) (listed' := #[true, true, true, true, true, true, true, true, true, true, true, true, true, true, true, true, true]) rfl (by kernel_rfl) (by kernel_rfl) (by kernel_rfl) (St.del 0 (St.del 1 (St.del 2 (St.del 3 S43)))) rfl (wn rfl) rfl rfl (fun _ _ => (y_assign rfl rfl)) ?_
    refine wA_done (by kernel_rfl) ?_
    refine wQ_sub (l' := [(0, _), (4, _), (6, _), (5, _), (7, _), (8, _)]) ⟨rfl, rfl, rfl, rfl, rfl, rfl, trivial⟩ ?_
    have S46 : St B w0 w42 (_ :: _ :: _ :: _ :: _ :: _ :: _ :: _ :: _ :: fs) := (((((((((S43.bring 8 rfl).bring 8 rfl).bring 8 rfl).bring 8 rfl).bring 8 rfl).bring 8 rfl).bring 8 rfl).bring 7 rfl).bring 8 rfl); clear S43
    refine wQ_cut (b37, b34, A10, c11, A12, c13) ?_ ⟨rfl, rfl, rfl, rfl, rfl, rfl, trivial⟩
    exact S46
  ·refine wN_new (i := 11) (listed' := #[true, true, true, true, true, false, false, false, false, false, false, true, false, false, false, false, false]) rfl rfl (V := fun b => .pointer (some ⟨b, 0, none⟩)) (row := qRow 0 0 0 (.slice none 0 0) (.slice none 0 0) zeroWs) (t := 29) S4 (wn rfl) rfl rfl (d_alloc rfl (Try.zeroValue29 _) rfl) ?_; intro b47 w48 S49; clear S4
   refine ⟨(St.del 0 S49), ?_⟩
   refine wA_two (n := 10) (r := 5) (s := 12) (by kernel_rfl) ?_ ?_
   ·have HD := fun A1 A2 c1 c2 w h1 h2 => Do_calls Q.ep Q.nx Q.gv x.kind x.producer x.id x.body x.hepoch x.hno A1 A2 c1 c2 Q.ready Q.leases Q.ws w h1 h2 (by unfold reachBytes; omega) (by unfold reachBytes; omega)
    rw [show doM ⟨Q.ep, Q.nx, Q.gv, Q.ready, Q.leases, Q.ws⟩ ⟨x.kind, x.producer, x.id, x.body, x.hepoch, x.hno⟩ = R from hR] at HD
    refine wN_call_ (i := 5) (listed' := #[true, true, true, true, true, true, false, false, false, false, false, true, false, false, false, false, false]) rfl rfl (vs := [.agg (qRow Q.ep Q.nx Q.gv (.slice A1 Q.ready.length c1) (.slice A2 Q.leases.length c2) Q.ws), .agg #[.int .i64 x.kind, .int .i64 x.producer, .int .i64 x.id, .int .i64 x.body, .int .i64 x.hepoch, .int .i64 x.hno]]) (wn rfl) rfl rfl (e_call (vs := [.agg (qRow Q.ep Q.nx Q.gv (.slice A1 Q.ready.length c1) (.slice A2 Q.leases.length c2) Q.ws), .agg #[.int .i64 x.kind, .int .i64 x.producer, .int .i64 x.id, .int .i64 x.body, .int .i64 x.hepoch, .int .i64 x.hno]]) rfl en66 ⟨rfl, rfl, trivial⟩) (HD A1 A2 c1 c2 _ (St.rdo 3 S49 rfl) (St.rdo 4 S49 rfl)) ?_
    rintro _ w54 ⟨A50, c51, A52, c53, rfl, T56⟩
    refine ⟨_, rfl, ?_⟩
    have S55 := S49.ext T56 rfl; clear T56 S49
    change St _ _ _ ((.rdo 2 A50 R.1.ready.length ((R.1.ready).flatMap Msg.cells)) :: (.rdo 4 A52 R.1.leases.length ((R.1.leases).flatMap Ls.cells)) :: _ :: _ :: _ :: _ :: _ :: _ :: fs) at S55; clear HD
    refine ⟨(St.del 0 (St.del 1 (St.del 2 S55))), ?_⟩
    refine wA_take (v := .tuple #[.agg (qRow R.1.ep R.1.nx R.1.gv (.slice A50 R.1.ready.length c51) (.slice A52 R.1.leases.length c53) R.1.ws), .agg #[.int .i64 R.2.1.code, .int .i64 R.2.1.hep, .int .i64 R.2.1.hno, .int .i64 R.2.1.body], .bool R.2.2.1, .int .i64 R.2.2.2]) (i := 6) (n := 9) (listed' := #[true, true, true, true, true, true, true, false, false, false, false, true, false, false, false, false, false]) rfl (by kernel_rfl) (by kernel_rfl) (by kernel_rfl) (St.del 0 (St.del 1 (St.del 2 S55))) rfl (wn rfl) rfl rfl (fun _ _ => (y_move rfl rfl)) ?_
    refine wA_take (v := .agg (qRow R.1.ep R.1.nx R.1.gv (.slice A50 R.1.ready.length c51) (.slice A52 R.1.leases.length c53) R.1.ws)) (i := 7) (n := 8) (listed' := #[true, true, true, true, true, true, true, true, false, false, false, true, false, false, false, false, false]) rfl (by kernel_rfl) (by kernel_rfl) (by kernel_rfl) (St.del 0 (St.del 1 (St.del 2 S55))) rfl (wn rfl) rfl rfl (fun _ _ => (y_extract rfl rfl rfl)) ?_
    refine wA_take (v := .agg #[.int .i64 R.2.1.code, .int .i64 R.2.1.hep, .int .i64 R.2.1.hno, .int .i64 R.2.1.body]) (i := 8) (n := 7) (listed' := #[true, true, true, true, true, true, true, true, true, false, false, true, false, false, false, false, false]) rfl (by kernel_rfl) (by kernel_rfl) (by kernel_rfl) (St.del 0 (St.del 1 (St.del 2 S55))) rfl (wn rfl) rfl rfl (fun _ _ => (y_extract rfl rfl rfl)) ?_
    refine wA_take (v := .bool R.2.2.1) (i := 9) (n := 6) (listed' := #[true, true, true, true, true, true, true, true, true, true, false, true, false, false, false, false, false]) rfl (by kernel_rfl) (by kernel_rfl) (by kernel_rfl) (St.del 0 (St.del 1 (St.del 2 S55))) rfl (wn rfl) rfl rfl (fun _ _ => (y_extract rfl rfl rfl)) ?_
    refine wA_take (v := .int .i64 R.2.2.2) (i := 10) (n := 5) (listed' := #[true, true, true, true, true, true, true, true, true, true, true, true, false, false, false, false, false]) rfl (by kernel_rfl) (by kernel_rfl) (by kernel_rfl) (St.del 0 (St.del 1 (St.del 2 S55))) rfl (wn rfl) rfl rfl (fun _ _ => (y_extract rfl rfl rfl)) ?_
    refine wA_one (n := 4) (r := 12) (by kernel_rfl) ?_
    refine wN_new (i := 12) (listed' := #[true, true, true, true, true, true, true, true, true, true, true, true, true, false, false, false, false]) rfl rfl (V := fun b => .pointer (some ⟨b, 0, none⟩)) (row := #[.int .i64 0, .int .i64 0, .int .i64 0, .int .i64 0]) (t := 93) S55 (wn rfl) rfl rfl (d_alloc rfl (Try.zeroValue93 _) rfl) ?_; intro b62 w63 S64; clear S55
    refine ⟨(St.del 0 (St.del 1 (St.del 2 (St.del 3 S64)))), ?_⟩
    refine wA_one (n := 3) (r := 13) (by kernel_rfl) ?_
    refine wN_st (i := 13) (listed' := #[true, true, true, true, true, true, true, true, true, true, true, true, true, true, false, false, false]) rfl rfl (fs' := (_ :: _ :: _ :: _ :: _ :: _ :: _ :: _ :: _ :: fs)) 3 S64 (wn rfl) rfl rfl rfl rfl rfl rfl inf29 rfl (qRow_one rfl rfl) (Nat.le_of_ble_eq_true rfl) (setAll_all rfl) rfl ?_; intro w65 S66; clear S64
    refine ⟨(St.del 0 (St.del 1 (St.del 2 (St.del 3 S66)))), ?_⟩
    refine wA_one (n := 2) (r := 14) (by kernel_rfl) ?_
    refine wN_st (i := 14) (listed' := #[true, true, true, true, true, true, true, true, true, true, true, true, true, true, true, false, false]) rfl rfl (fs' := (_ :: _ :: _ :: _ :: _ :: _ :: _ :: _ :: _ :: fs)) 0 S66 (wn rfl) rfl rfl rfl rfl rfl rfl inf93 rfl (oneAll rfl) (Nat.le_of_ble_eq_true rfl) (setAll_all rfl) rfl ?_; intro w67 S68; clear S66
    refine ⟨(St.del 0 (St.del 1 (St.del 2 (St.del 3 S68)))), ?_⟩
    refine wA_take (v := .bool R.2.2.1) (i := 15) (n := 1) (listed' := #[true, true, true, true, true, true, true, true, true, true, true, true, true, true, true, true, false]) rfl (by kernel_rfl) (by kernel_rfl) (by kernel_rfl) (St.del 0 (St.del 1 (St.del 2 (St.del 3 S68)))) rfl (wn rfl) rfl rfl (fun _ _ => (y_assign rfl rfl)) ?_
    refine wA_take (v := .int .i64 R.2.2.2) (i := 16) (n := 0) (listed' := #[true, true, true, true, true, true, true, true, true, true, true, true, true, true, true, true, true]) rfl (by kernel_rfl) (by kernel_rfl) (by kernel_rfl) (St.del 0 (St.del 1 (St.del 2 (St.del 3 S68)))) rfl (wn rfl) rfl rfl (fun _ _ => (y_assign rfl rfl)) ?_
    refine wA_done (by kernel_rfl) ?_
    refine wQ_sub (l' := [(0, _), (4, _), (5, _), (6, _), (7, _), (8, _)]) ⟨rfl, rfl, rfl, rfl, rfl, rfl, trivial⟩ ?_
    have S71 : St B w0 w67 (_ :: _ :: _ :: _ :: _ :: _ :: _ :: _ :: _ :: fs) := (((((((((S68.bring 8 rfl).bring 8 rfl).bring 8 rfl).bring 8 rfl).bring 8 rfl).bring 7 rfl).bring 7 rfl).bring 8 rfl).bring 8 rfl); clear S68
    refine wQ_cut (b47, b62, A50, c51, A52, c53) ?_ ⟨rfl, rfl, rfl, rfl, rfl, rfl, trivial⟩
    exact S71
   ·refine wN_new (i := 12) (listed' := #[true, true, true, true, true, false, false, false, false, false, false, true, true, false, false, false, false]) rfl rfl (V := fun b => .pointer (some ⟨b, 0, none⟩)) (row := #[.int .i64 0, .int .i64 0, .int .i64 0, .int .i64 0]) (t := 93) S49 (wn rfl) rfl rfl (d_alloc rfl (Try.zeroValue93 _) rfl) ?_; intro b72 w73 S74; clear S49
    refine ⟨(St.del 0 (St.del 1 S74)), ?_⟩
    refine wA_one (n := 9) (r := 5) (by kernel_rfl) ?_
    have HD := fun A1 A2 c1 c2 w h1 h2 => Do_calls Q.ep Q.nx Q.gv x.kind x.producer x.id x.body x.hepoch x.hno A1 A2 c1 c2 Q.ready Q.leases Q.ws w h1 h2 (by unfold reachBytes; omega) (by unfold reachBytes; omega)
    rw [show doM ⟨Q.ep, Q.nx, Q.gv, Q.ready, Q.leases, Q.ws⟩ ⟨x.kind, x.producer, x.id, x.body, x.hepoch, x.hno⟩ = R from hR] at HD
    refine wN_call_ (i := 5) (listed' := #[true, true, true, true, true, true, false, false, false, false, false, true, true, false, false, false, false]) rfl rfl (vs := [.agg (qRow Q.ep Q.nx Q.gv (.slice A1 Q.ready.length c1) (.slice A2 Q.leases.length c2) Q.ws), .agg #[.int .i64 x.kind, .int .i64 x.producer, .int .i64 x.id, .int .i64 x.body, .int .i64 x.hepoch, .int .i64 x.hno]]) (wn rfl) rfl rfl (e_call (vs := [.agg (qRow Q.ep Q.nx Q.gv (.slice A1 Q.ready.length c1) (.slice A2 Q.leases.length c2) Q.ws), .agg #[.int .i64 x.kind, .int .i64 x.producer, .int .i64 x.id, .int .i64 x.body, .int .i64 x.hepoch, .int .i64 x.hno]]) rfl en66 ⟨rfl, rfl, trivial⟩) (HD A1 A2 c1 c2 _ (St.rdo 4 S74 rfl) (St.rdo 5 S74 rfl)) ?_
    rintro _ w79 ⟨A75, c76, A77, c78, rfl, T81⟩
    refine ⟨_, rfl, ?_⟩
    have S80 := S74.ext T81 rfl; clear T81 S74
    change St _ _ _ ((.rdo 2 A75 R.1.ready.length ((R.1.ready).flatMap Msg.cells)) :: (.rdo 4 A77 R.1.leases.length ((R.1.leases).flatMap Ls.cells)) :: _ :: _ :: _ :: _ :: _ :: _ :: _ :: fs) at S80; clear HD
    refine ⟨(St.del 0 (St.del 1 (St.del 2 (St.del 3 S80)))), ?_⟩
    refine wA_take (v := .tuple #[.agg (qRow R.1.ep R.1.nx R.1.gv (.slice A75 R.1.ready.length c76) (.slice A77 R.1.leases.length c78) R.1.ws), .agg #[.int .i64 R.2.1.code, .int .i64 R.2.1.hep, .int .i64 R.2.1.hno, .int .i64 R.2.1.body], .bool R.2.2.1, .int .i64 R.2.2.2]) (i := 6) (n := 8) (listed' := #[true, true, true, true, true, true, true, false, false, false, false, true, true, false, false, false, false]) rfl (by kernel_rfl) (by kernel_rfl) (by kernel_rfl) (St.del 0 (St.del 1 (St.del 2 (St.del 3 S80)))) rfl (wn rfl) rfl rfl (fun _ _ => (y_move rfl rfl)) ?_
    refine wA_take (v := .agg (qRow R.1.ep R.1.nx R.1.gv (.slice A75 R.1.ready.length c76) (.slice A77 R.1.leases.length c78) R.1.ws)) (i := 7) (n := 7) (listed' := #[true, true, true, true, true, true, true, true, false, false, false, true, true, false, false, false, false]) rfl (by kernel_rfl) (by kernel_rfl) (by kernel_rfl) (St.del 0 (St.del 1 (St.del 2 (St.del 3 S80)))) rfl (wn rfl) rfl rfl (fun _ _ => (y_extract rfl rfl rfl)) ?_
    refine wA_take (v := .agg #[.int .i64 R.2.1.code, .int .i64 R.2.1.hep, .int .i64 R.2.1.hno, .int .i64 R.2.1.body]) (i := 8) (n := 6) (listed' := #[true, true, true, true, true, true, true, true, true, false, false, true, true, false, false, false, false]) rfl (by kernel_rfl) (by kernel_rfl) (by kernel_rfl) (St.del 0 (St.del 1 (St.del 2 (St.del 3 S80)))) rfl (wn rfl) rfl rfl (fun _ _ => (y_extract rfl rfl rfl)) ?_
    refine wA_take (v := .bool R.2.2.1) (i := 9) (n := 5) (listed' := #[true, true, true, true, true, true, true, true, true, true, false, true, true, false, false, false, false]) rfl (by kernel_rfl) (by kernel_rfl) (by kernel_rfl) (St.del 0 (St.del 1 (St.del 2 (St.del 3 S80)))) rfl (wn rfl) rfl rfl (fun _ _ => (y_extract rfl rfl rfl)) ?_
    refine wA_take (v := .int .i64 R.2.2.2) (i := 10) (n := 4) (listed' := #[true, true, true, true, true, true, true, true, true, true, true, true, true, false, false, false, false]) rfl (by kernel_rfl) (by kernel_rfl) (by kernel_rfl) (St.del 0 (St.del 1 (St.del 2 (St.del 3 S80)))) rfl (wn rfl) rfl rfl (fun _ _ => (y_extract rfl rfl rfl)) ?_
    refine wA_one (n := 3) (r := 13) (by kernel_rfl) ?_
    refine wN_st (i := 13) (listed' := #[true, true, true, true, true, true, true, true, true, true, true, true, true, true, false, false, false]) rfl rfl (fs' := (_ :: _ :: _ :: _ :: _ :: _ :: _ :: _ :: _ :: fs)) 3 S80 (wn rfl) rfl rfl rfl rfl rfl rfl inf29 rfl (qRow_one rfl rfl) (Nat.le_of_ble_eq_true rfl) (setAll_all rfl) rfl ?_; intro w87 S88; clear S80
    refine ⟨(St.del 0 (St.del 1 (St.del 2 (St.del 3 S88)))), ?_⟩
    refine wA_one (n := 2) (r := 14) (by kernel_rfl) ?_
    refine wN_st (i := 14) (listed' := #[true, true, true, true, true, true, true, true, true, true, true, true, true, true, true, false, false]) rfl rfl (fs' := (_ :: _ :: _ :: _ :: _ :: _ :: _ :: _ :: _ :: fs)) 2 S88 (wn rfl) rfl rfl rfl rfl rfl rfl inf93 rfl (oneAll rfl) (Nat.le_of_ble_eq_true rfl) (setAll_all rfl) rfl ?_; intro w89 S90; clear S88
    refine ⟨(St.del 0 (St.del 1 (St.del 2 (St.del 3 S90)))), ?_⟩
    refine wA_take (v := .bool R.2.2.1) (i := 15) (n := 1) (listed' := #[true, true, true, true, true, true, true, true, true, true, true, true, true, true, true, true, false]) rfl (by kernel_rfl) (by kernel_rfl) (by kernel_rfl) (St.del 0 (St.del 1 (St.del 2 (St.del 3 S90)))) rfl (wn rfl) rfl rfl (fun _ _ => (y_assign rfl rfl)) ?_
    refine wA_take (v := .int .i64 R.2.2.2) (i := 16) (n := 0) (listed' := #[true, true, true, true, true, true, true, true, true, true, true, true, true, true, true, true, true]) rfl (by kernel_rfl) (by kernel_rfl) (by kernel_rfl) (St.del 0 (St.del 1 (St.del 2 (St.del 3 S90)))) rfl (wn rfl) rfl rfl (fun _ _ => (y_assign rfl rfl)) ?_
    refine wA_done (by kernel_rfl) ?_
    refine wQ_sub (l' := [(0, _), (4, _), (5, _), (6, _), (7, _), (8, _)]) ⟨rfl, rfl, rfl, rfl, rfl, rfl, trivial⟩ ?_
    have S93 : St B w0 w89 (_ :: _ :: _ :: _ :: _ :: _ :: _ :: _ :: _ :: fs) := (((((((((S90.bring 8 rfl).bring 8 rfl).bring 8 rfl).bring 8 rfl).bring 8 rfl).bring 6 rfl).bring 6 rfl).bring 8 rfl).bring 8 rfl); clear S90
    refine wQ_cut (b47, b72, A75, c76, A77, c78) ?_ ⟨rfl, rfl, rfl, rfl, rfl, rfl, trivial⟩
    exact S93
  ·refine wN_new (i := 12) (listed' := #[true, true, true, true, true, false, false, false, false, false, false, false, true, false, false, false, false]) rfl rfl (V := fun b => .pointer (some ⟨b, 0, none⟩)) (row := #[.int .i64 0, .int .i64 0, .int .i64 0, .int .i64 0]) (t := 93) S4 (wn rfl) rfl rfl (d_alloc rfl (Try.zeroValue93 _) rfl) ?_; intro b94 w95 S96; clear S4
   refine ⟨(St.del 0 S96), ?_⟩
   refine wA_two (n := 10) (r := 5) (s := 11) (by kernel_rfl) ?_ ?_
   ·have HD := fun A1 A2 c1 c2 w h1 h2 => Do_calls Q.ep Q.nx Q.gv x.kind x.producer x.id x.body x.hepoch x.hno A1 A2 c1 c2 Q.ready Q.leases Q.ws w h1 h2 (by unfold reachBytes; omega) (by unfold reachBytes; omega)
    rw [show doM ⟨Q.ep, Q.nx, Q.gv, Q.ready, Q.leases, Q.ws⟩ ⟨x.kind, x.producer, x.id, x.body, x.hepoch, x.hno⟩ = R from hR] at HD
    refine wN_call_ (i := 5) (listed' := #[true, true, true, true, true, true, false, false, false, false, false, false, true, false, false, false, false]) rfl rfl (vs := [.agg (qRow Q.ep Q.nx Q.gv (.slice A1 Q.ready.length c1) (.slice A2 Q.leases.length c2) Q.ws), .agg #[.int .i64 x.kind, .int .i64 x.producer, .int .i64 x.id, .int .i64 x.body, .int .i64 x.hepoch, .int .i64 x.hno]]) (wn rfl) rfl rfl (e_call (vs := [.agg (qRow Q.ep Q.nx Q.gv (.slice A1 Q.ready.length c1) (.slice A2 Q.leases.length c2) Q.ws), .agg #[.int .i64 x.kind, .int .i64 x.producer, .int .i64 x.id, .int .i64 x.body, .int .i64 x.hepoch, .int .i64 x.hno]]) rfl en66 ⟨rfl, rfl, trivial⟩) (HD A1 A2 c1 c2 _ (St.rdo 3 S96 rfl) (St.rdo 4 S96 rfl)) ?_
    rintro _ w101 ⟨A97, c98, A99, c100, rfl, T103⟩
    refine ⟨_, rfl, ?_⟩
    have S102 := S96.ext T103 rfl; clear T103 S96
    change St _ _ _ ((.rdo 2 A97 R.1.ready.length ((R.1.ready).flatMap Msg.cells)) :: (.rdo 4 A99 R.1.leases.length ((R.1.leases).flatMap Ls.cells)) :: _ :: _ :: _ :: _ :: _ :: _ :: fs) at S102; clear HD
    refine ⟨(St.del 0 (St.del 1 (St.del 2 S102))), ?_⟩
    refine wA_take (v := .tuple #[.agg (qRow R.1.ep R.1.nx R.1.gv (.slice A97 R.1.ready.length c98) (.slice A99 R.1.leases.length c100) R.1.ws), .agg #[.int .i64 R.2.1.code, .int .i64 R.2.1.hep, .int .i64 R.2.1.hno, .int .i64 R.2.1.body], .bool R.2.2.1, .int .i64 R.2.2.2]) (i := 6) (n := 9) (listed' := #[true, true, true, true, true, true, true, false, false, false, false, false, true, false, false, false, false]) rfl (by kernel_rfl) (by kernel_rfl) (by kernel_rfl) (St.del 0 (St.del 1 (St.del 2 S102))) rfl (wn rfl) rfl rfl (fun _ _ => (y_move rfl rfl)) ?_
    refine wA_take (v := .agg (qRow R.1.ep R.1.nx R.1.gv (.slice A97 R.1.ready.length c98) (.slice A99 R.1.leases.length c100) R.1.ws)) (i := 7) (n := 8) (listed' := #[true, true, true, true, true, true, true, true, false, false, false, false, true, false, false, false, false]) rfl (by kernel_rfl) (by kernel_rfl) (by kernel_rfl) (St.del 0 (St.del 1 (St.del 2 S102))) rfl (wn rfl) rfl rfl (fun _ _ => (y_extract rfl rfl rfl)) ?_
    refine wA_take (v := .agg #[.int .i64 R.2.1.code, .int .i64 R.2.1.hep, .int .i64 R.2.1.hno, .int .i64 R.2.1.body]) (i := 8) (n := 7) (listed' := #[true, true, true, true, true, true, true, true, true, false, false, false, true, false, false, false, false]) rfl (by kernel_rfl) (by kernel_rfl) (by kernel_rfl) (St.del 0 (St.del 1 (St.del 2 S102))) rfl (wn rfl) rfl rfl (fun _ _ => (y_extract rfl rfl rfl)) ?_
    refine wA_take (v := .bool R.2.2.1) (i := 9) (n := 6) (listed' := #[true, true, true, true, true, true, true, true, true, true, false, false, true, false, false, false, false]) rfl (by kernel_rfl) (by kernel_rfl) (by kernel_rfl) (St.del 0 (St.del 1 (St.del 2 S102))) rfl (wn rfl) rfl rfl (fun _ _ => (y_extract rfl rfl rfl)) ?_
    refine wA_take (v := .int .i64 R.2.2.2) (i := 10) (n := 5) (listed' := #[true, true, true, true, true, true, true, true, true, true, true, false, true, false, false, false, false]) rfl (by kernel_rfl) (by kernel_rfl) (by kernel_rfl) (St.del 0 (St.del 1 (St.del 2 S102))) rfl (wn rfl) rfl rfl (fun _ _ => (y_extract rfl rfl rfl)) ?_
    refine wA_one (n := 4) (r := 11) (by kernel_rfl) ?_
    refine wN_new (i := 11) (listed' := #[true, true, true, true, true, true, true, true, true, true, true, true, true, false, false, false, false]) rfl rfl (V := fun b => .pointer (some ⟨b, 0, none⟩)) (row := qRow 0 0 0 (.slice none 0 0) (.slice none 0 0) zeroWs) (t := 29) S102 (wn rfl) rfl rfl (d_alloc rfl (Try.zeroValue29 _) rfl) ?_; intro b109 w110 S111; clear S102
    refine ⟨(St.del 0 (St.del 1 (St.del 2 (St.del 3 S111)))), ?_⟩
    refine wA_one (n := 3) (r := 13) (by kernel_rfl) ?_
    refine wN_st (i := 13) (listed' := #[true, true, true, true, true, true, true, true, true, true, true, true, true, true, false, false, false]) rfl rfl (fs' := (_ :: _ :: _ :: _ :: _ :: _ :: _ :: _ :: _ :: fs)) 0 S111 (wn rfl) rfl rfl rfl rfl rfl rfl inf29 rfl (qRow_one rfl rfl) (Nat.le_of_ble_eq_true rfl) (setAll_all rfl) rfl ?_; intro w112 S113; clear S111
    refine ⟨(St.del 0 (St.del 1 (St.del 2 (St.del 3 S113)))), ?_⟩
    refine wA_one (n := 2) (r := 14) (by kernel_rfl) ?_
    refine wN_st (i := 14) (listed' := #[true, true, true, true, true, true, true, true, true, true, true, true, true, true, true, false, false]) rfl rfl (fs' := (_ :: _ :: _ :: _ :: _ :: _ :: _ :: _ :: _ :: fs)) 3 S113 (wn rfl) rfl rfl rfl rfl rfl rfl inf93 rfl (oneAll rfl) (Nat.le_of_ble_eq_true rfl) (setAll_all rfl) rfl ?_; intro w114 S115; clear S113
    refine ⟨(St.del 0 (St.del 1 (St.del 2 (St.del 3 S115)))), ?_⟩
    refine wA_take (v := .bool R.2.2.1) (i := 15) (n := 1) (listed' := #[true, true, true, true, true, true, true, true, true, true, true, true, true, true, true, true, false]) rfl (by kernel_rfl) (by kernel_rfl) (by kernel_rfl) (St.del 0 (St.del 1 (St.del 2 (St.del 3 S115)))) rfl (wn rfl) rfl rfl (fun _ _ => (y_assign rfl rfl)) ?_
    refine wA_take (v := .int .i64 R.2.2.2) (i := 16) (n := 0) (listed' := #[true, true, true, true, true, true, true, true, true, true, true, true, true, true, true, true, true]) rfl (by kernel_rfl) (by kernel_rfl) (by kernel_rfl) (St.del 0 (St.del 1 (St.del 2 (St.del 3 S115)))) rfl (wn rfl) rfl rfl (fun _ _ => (y_assign rfl rfl)) ?_
    refine wA_done (by kernel_rfl) ?_
    refine wQ_sub (l' := [(0, _), (4, _), (6, _), (5, _), (7, _), (8, _)]) ⟨rfl, rfl, rfl, rfl, rfl, rfl, trivial⟩ ?_
    have S118 : St B w0 w114 (_ :: _ :: _ :: _ :: _ :: _ :: _ :: _ :: _ :: fs) := (((((((((S115.bring 8 rfl).bring 8 rfl).bring 8 rfl).bring 8 rfl).bring 8 rfl).bring 7 rfl).bring 7 rfl).bring 7 rfl).bring 8 rfl); clear S115
    refine wQ_cut (b109, b94, A97, c98, A99, c100) ?_ ⟨rfl, rfl, rfl, rfl, rfl, rfl, trivial⟩
    exact S118
   ·refine wN_new (i := 11) (listed' := #[true, true, true, true, true, false, false, false, false, false, false, true, true, false, false, false, false]) rfl rfl (V := fun b => .pointer (some ⟨b, 0, none⟩)) (row := qRow 0 0 0 (.slice none 0 0) (.slice none 0 0) zeroWs) (t := 29) S96 (wn rfl) rfl rfl (d_alloc rfl (Try.zeroValue29 _) rfl) ?_; intro b119 w120 S121; clear S96
    refine ⟨(St.del 0 (St.del 1 S121)), ?_⟩
    refine wA_one (n := 9) (r := 5) (by kernel_rfl) ?_
    have HD := fun A1 A2 c1 c2 w h1 h2 => Do_calls Q.ep Q.nx Q.gv x.kind x.producer x.id x.body x.hepoch x.hno A1 A2 c1 c2 Q.ready Q.leases Q.ws w h1 h2 (by unfold reachBytes; omega) (by unfold reachBytes; omega)
    rw [show doM ⟨Q.ep, Q.nx, Q.gv, Q.ready, Q.leases, Q.ws⟩ ⟨x.kind, x.producer, x.id, x.body, x.hepoch, x.hno⟩ = R from hR] at HD
    refine wN_call_ (i := 5) (listed' := #[true, true, true, true, true, true, false, false, false, false, false, true, true, false, false, false, false]) rfl rfl (vs := [.agg (qRow Q.ep Q.nx Q.gv (.slice A1 Q.ready.length c1) (.slice A2 Q.leases.length c2) Q.ws), .agg #[.int .i64 x.kind, .int .i64 x.producer, .int .i64 x.id, .int .i64 x.body, .int .i64 x.hepoch, .int .i64 x.hno]]) (wn rfl) rfl rfl (e_call (vs := [.agg (qRow Q.ep Q.nx Q.gv (.slice A1 Q.ready.length c1) (.slice A2 Q.leases.length c2) Q.ws), .agg #[.int .i64 x.kind, .int .i64 x.producer, .int .i64 x.id, .int .i64 x.body, .int .i64 x.hepoch, .int .i64 x.hno]]) rfl en66 ⟨rfl, rfl, trivial⟩) (HD A1 A2 c1 c2 _ (St.rdo 4 S121 rfl) (St.rdo 5 S121 rfl)) ?_
    rintro _ w126 ⟨A122, c123, A124, c125, rfl, T128⟩
    refine ⟨_, rfl, ?_⟩
    have S127 := S121.ext T128 rfl; clear T128 S121
    change St _ _ _ ((.rdo 2 A122 R.1.ready.length ((R.1.ready).flatMap Msg.cells)) :: (.rdo 4 A124 R.1.leases.length ((R.1.leases).flatMap Ls.cells)) :: _ :: _ :: _ :: _ :: _ :: _ :: _ :: fs) at S127; clear HD
    refine ⟨(St.del 0 (St.del 1 (St.del 2 (St.del 3 S127)))), ?_⟩
    refine wA_take (v := .tuple #[.agg (qRow R.1.ep R.1.nx R.1.gv (.slice A122 R.1.ready.length c123) (.slice A124 R.1.leases.length c125) R.1.ws), .agg #[.int .i64 R.2.1.code, .int .i64 R.2.1.hep, .int .i64 R.2.1.hno, .int .i64 R.2.1.body], .bool R.2.2.1, .int .i64 R.2.2.2]) (i := 6) (n := 8) (listed' := #[true, true, true, true, true, true, true, false, false, false, false, true, true, false, false, false, false]) rfl (by kernel_rfl) (by kernel_rfl) (by kernel_rfl) (St.del 0 (St.del 1 (St.del 2 (St.del 3 S127)))) rfl (wn rfl) rfl rfl (fun _ _ => (y_move rfl rfl)) ?_
    refine wA_take (v := .agg (qRow R.1.ep R.1.nx R.1.gv (.slice A122 R.1.ready.length c123) (.slice A124 R.1.leases.length c125) R.1.ws)) (i := 7) (n := 7) (listed' := #[true, true, true, true, true, true, true, true, false, false, false, true, true, false, false, false, false]) rfl (by kernel_rfl) (by kernel_rfl) (by kernel_rfl) (St.del 0 (St.del 1 (St.del 2 (St.del 3 S127)))) rfl (wn rfl) rfl rfl (fun _ _ => (y_extract rfl rfl rfl)) ?_
    refine wA_take (v := .agg #[.int .i64 R.2.1.code, .int .i64 R.2.1.hep, .int .i64 R.2.1.hno, .int .i64 R.2.1.body]) (i := 8) (n := 6) (listed' := #[true, true, true, true, true, true, true, true, true, false, false, true, true, false, false, false, false]) rfl (by kernel_rfl) (by kernel_rfl) (by kernel_rfl) (St.del 0 (St.del 1 (St.del 2 (St.del 3 S127)))) rfl (wn rfl) rfl rfl (fun _ _ => (y_extract rfl rfl rfl)) ?_
    refine wA_take (v := .bool R.2.2.1) (i := 9) (n := 5) (listed' := #[true, true, true, true, true, true, true, true, true, true, false, true, true, false, false, false, false]) rfl (by kernel_rfl) (by kernel_rfl) (by kernel_rfl) (St.del 0 (St.del 1 (St.del 2 (St.del 3 S127)))) rfl (wn rfl) rfl rfl (fun _ _ => (y_extract rfl rfl rfl)) ?_
    refine wA_take (v := .int .i64 R.2.2.2) (i := 10) (n := 4) (listed' := #[true, true, true, true, true, true, true, true, true, true, true, true, true, false, false, false, false]) rfl (by kernel_rfl) (by kernel_rfl) (by kernel_rfl) (St.del 0 (St.del 1 (St.del 2 (St.del 3 S127)))) rfl (wn rfl) rfl rfl (fun _ _ => (y_extract rfl rfl rfl)) ?_
    refine wA_one (n := 3) (r := 13) (by kernel_rfl) ?_
    refine wN_st (i := 13) (listed' := #[true, true, true, true, true, true, true, true, true, true, true, true, true, true, false, false, false]) rfl rfl (fs' := (_ :: _ :: _ :: _ :: _ :: _ :: _ :: _ :: _ :: fs)) 2 S127 (wn rfl) rfl rfl rfl rfl rfl rfl inf29 rfl (qRow_one rfl rfl) (Nat.le_of_ble_eq_true rfl) (setAll_all rfl) rfl ?_; intro w134 S135; clear S127
    refine ⟨(St.del 0 (St.del 1 (St.del 2 (St.del 3 S135)))), ?_⟩
    refine wA_one (n := 2) (r := 14) (by kernel_rfl) ?_
    refine wN_st (i := 14) (listed' := #[true, true, true, true, true, true, true, true, true, true, true, true, true, true, true, false, false]) rfl rfl (fs' := (_ :: _ :: _ :: _ :: _ :: _ :: _ :: _ :: _ :: fs)) 3 S135 (wn rfl) rfl rfl rfl rfl rfl rfl inf93 rfl (oneAll rfl) (Nat.le_of_ble_eq_true rfl) (setAll_all rfl) rfl ?_; intro w136 S137; clear S135
    refine ⟨(St.del 0 (St.del 1 (St.del 2 (St.del 3 S137)))), ?_⟩
    refine wA_take (v := .bool R.2.2.1) (i := 15) (n := 1) (listed' := #[true, true, true, true, true, true, true, true, true, true, true, true, true, true, true, true, false]) rfl (by kernel_rfl) (by kernel_rfl) (by kernel_rfl) (St.del 0 (St.del 1 (St.del 2 (St.del 3 S137)))) rfl (wn rfl) rfl rfl (fun _ _ => (y_assign rfl rfl)) ?_
    refine wA_take (v := .int .i64 R.2.2.2) (i := 16) (n := 0) (listed' := #[true, true, true, true, true, true, true, true, true, true, true, true, true, true, true, true, true]) rfl (by kernel_rfl) (by kernel_rfl) (by kernel_rfl) (St.del 0 (St.del 1 (St.del 2 (St.del 3 S137)))) rfl (wn rfl) rfl rfl (fun _ _ => (y_assign rfl rfl)) ?_
    refine wA_done (by kernel_rfl) ?_
    refine wQ_sub (l' := [(0, _), (4, _), (6, _), (5, _), (7, _), (8, _)]) ⟨rfl, rfl, rfl, rfl, rfl, rfl, trivial⟩ ?_
    have S140 : St B w0 w136 (_ :: _ :: _ :: _ :: _ :: _ :: _ :: _ :: _ :: fs) := (((((((((S137.bring 8 rfl).bring 8 rfl).bring 8 rfl).bring 8 rfl).bring 8 rfl).bring 6 rfl).bring 6 rfl).bring 7 rfl).bring 8 rfl); clear S137
    refine wQ_cut (b119, b94, A122, c123, A124, c125) ?_ ⟨rfl, rfl, rfl, rfl, rfl, rfl, trivial⟩
    exact S140
 ·rintro ⟨b141, b142, A143, c144, A145, c146⟩ w147 S148
  try dsimp only at S148; clear S3
  refine wC_sub (l' := [(0, .pointer (some ⟨g, 0, none⟩)), (4, .bool false), (5, .pointer (some ⟨b141, 0, none⟩)), (6, .pointer (some ⟨b142, 0, none⟩)), (7, .bool R.2.2.1), (8, .int .i64 R.2.2.2)]) ⟨rfl, rfl, rfl, rfl, rfl, rfl, trivial⟩ (wC_seq (wC_seq (wC_region (wL_val (wn rfl) rfl rfl (y_move rfl rfl) ?_))))
  by_cases h1 : R.2.2.2 = 0
  ·refine wL_val (v := .bool false) (wn rfl) rfl rfl (y_binop rfl rfl rfl (r_neq_f h1)) ?_
   refine wL_val (wn rfl) rfl rfl (y_move rfl rfl) ?_
   refine wL_val (wg rfl rfl rfl rfl) rfl rfl (y_move rfl rfl) ?_
   cases h2 : R.2.2.1
   ·refine wL_val (v := .bool true) (wg rfl rfl rfl rfl) rfl rfl (y_unop rfl rfl r_not) ?_
    refine wL_val (wn rfl) rfl rfl (y_pick_f rfl rfl rfl) ?_
    refine wL_nil (wQ_sub (l' := [(0, _), (4, _), (5, _), (6, _), (25, _)]) ⟨rfl, rfl, rfl, rfl, rfl, trivial⟩ (wQ_then (wC_cond_t rfl (wC_seq (wC_region (wL_val (wn rfl) rfl rfl (y_assign rfl rfl) ?_))))))
    refine wL_nil (wQ_sub (l' := [(4, _)]) ⟨rfl, trivial⟩ (wQ_then (wC_ret (wQ_then_ret (wQ_post (rs := [.tmp 4]) (vs := [.bool false]) rfl ⟨rfl, trivial⟩ ?_)))))
    rw [show doM Q x = R from hR]
    have S149 : St B w0 w147 (fs) := (St.del 0 (St.del 1 (St.del 2 (St.del 3 (St.del 4 (St.del 5 (St.del 6 (St.del 7 (St.del 8 S148))))))))); clear S148
    exact ⟨fun h => absurd h (fun h => by rw [h2] at h; exact absurd h.2 (by simp)), fun _ => ⟨rfl, S149⟩⟩
   ·refine wL_val (v := .bool false) (wg rfl rfl rfl rfl) rfl rfl (y_unop rfl rfl r_not) ?_
    refine wL_val (wn rfl) rfl rfl (y_pick_f rfl rfl rfl) ?_
    refine wL_nil (wQ_sub (l' := [(0, _), (4, _), (5, _), (6, _), (25, _)]) ⟨rfl, rfl, rfl, rfl, rfl, trivial⟩ (wQ_then (wC_cond_f rfl (wC_skip (wQ_then (wC_seq (wC_region (wL_val (wn rfl) rfl rfl (y_move rfl rfl) ?_))))))))
    refine wL_val (wn rfl) rfl rfl (y_load rfl rfl (r_load_row 1 S148 rfl Try.underlying29 rfl inf29 rfl)) ?_
    refine wL_val (wn rfl) rfl rfl (y_nil rfl rfl trivial) ?_
    refine wL_val (v := .pointer (some ⟨g, 0, none⟩)) (wn rfl) rfl rfl (y_fieldAddr rfl rfl (fa203_0 _ _ _)) ?_
    refine wL_st (cs := qRow R.1.ep R.1.nx R.1.gv (.slice A143 R.1.ready.length c144) (.slice A145 R.1.leases.length c146) R.1.ws) (row' := tRow R.1.ep R.1.nx R.1.gv (.slice A143 R.1.ready.length c144) (.slice A145 R.1.leases.length c146) R.1.ws (.slice A3 an.length c3)) (fs' := (_ :: _ :: _ :: _ :: _ :: (.blk g (tRow R.1.ep R.1.nx R.1.gv (.slice A143 R.1.ready.length c144) (.slice A145 R.1.leases.length c146) R.1.ws (.slice A3 an.length c3)) 203) :: _ :: _ :: _ :: fs)) 5 S148 (wn rfl) rfl rfl rfl rfl rfl rfl inf29 rfl (qRow_one rfl rfl) (Nat.le_of_ble_eq_true rfl) tRow_p0 rfl ?_; intro w150 S151; clear S148
    refine wL_nil (wQ_sub (l' := [(0, _), (4, _), (6, _)]) ⟨rfl, rfl, rfl, trivial⟩ (wQ_then (wC_seq ?_)))
    have S152 := S151.drew; clear S151
    refine wC_head (C := fun w' => St B w0 w' ((.blk b142 #[.int .i64 R.2.1.code, .int .i64 R.2.1.hep, .int .i64 R.2.1.hno, .int .i64 R.2.1.body] 93) :: (.blk b141 (qRow R.1.ep R.1.nx R.1.gv (.slice A143 R.1.ready.length c144) (.slice A145 R.1.leases.length c146) R.1.ws) 29) :: (.rdo 2 A143 R.1.ready.length ((R.1.ready).flatMap Msg.cells)) :: (.rdo 4 A145 R.1.leases.length ((R.1.leases).flatMap Ls.cells)) :: (.blk b1 #[.int .i64 x.kind, .int .i64 x.producer, .int .i64 x.id, .int .i64 x.body, .int .i64 x.hepoch, .int .i64 x.hno] 37) :: (.blk g (tRow R.1.ep R.1.nx R.1.gv (.slice A143 R.1.ready.length c144) (.slice A145 R.1.leases.length c146) R.1.ws (.slice A3 an.length c3)) 203) :: (.rdo 2 A1 Q.ready.length ((Q.ready).flatMap Msg.cells)) :: (.rdo 4 A2 Q.leases.length ((Q.leases).flatMap Ls.cells)) :: fs)) (m := 11) (listed := #[false, false, false, false, false, false, false, false, false, false, false]) 8 mixed rfl rfl ?_
    refine wG_take (v := .pointer (some ⟨g, 0, none⟩)) (i := 0) (m := 10) (listed' := #[true, false, false, false, false, false, false, false, false, false, false]) rfl (by kernel_rfl) (by kernel_rfl) (by kernel_rfl) rfl (by kernel_rfl) rfl (St.del 8 S152) rfl (wn rfl) rfl rfl (fun _ _ => (y_move rfl rfl)) ?_
    refine wG_take (v := .pointer (some ⟨g, 0, none⟩)) (i := 1) (m := 9) (listed' := #[true, true, false, false, false, false, false, false, false, false, false]) rfl (by kernel_rfl) (by kernel_rfl) (by kernel_rfl) rfl (by kernel_rfl) rfl (St.del 8 S152) rfl (wn rfl) rfl rfl (fun _ _ => (y_move rfl rfl)) ?_
    refine wG_take (v := .pointer (some ⟨g, 0, none⟩)) (i := 2) (m := 8) (listed' := #[true, true, true, false, false, false, false, false, false, false, false]) rfl (by kernel_rfl) (by kernel_rfl) (by kernel_rfl) rfl (by kernel_rfl) rfl (St.del 8 S152) rfl (wn rfl) rfl rfl (fun _ _ => (y_nil rfl rfl trivial)) ?_
    refine wG_take (v := .pointer (some ⟨g, 41, none⟩)) (i := 3) (m := 7) (listed' := #[true, true, true, true, false, false, false, false, false, false, false]) rfl (by kernel_rfl) (by kernel_rfl) (by kernel_rfl) rfl (by kernel_rfl) rfl (St.del 8 S152) rfl (wn rfl) rfl rfl (fun _ _ => (y_fieldAddr rfl rfl (fa203_1 _ _ _))) ?_
    refine wG_take (v := .slice A3 an.length c3) (i := 4) (m := 6) (listed' := #[true, true, true, true, true, false, false, false, false, false, false]) rfl (by kernel_rfl) (by kernel_rfl) (by kernel_rfl) rfl (by kernel_rfl) rfl (St.del 8 S152) rfl (wn rfl) rfl rfl (fun _ Sx157 => (y_load rfl rfl (r_load Try.underlying103 rfl (St.cl 5 Sx157 rfl rfl)))) ?_
    refine wG_take (v := .agg #[.int .i64 R.2.1.code, .int .i64 R.2.1.hep, .int .i64 R.2.1.hno, .int .i64 R.2.1.body]) (i := 5) (m := 5) (listed' := #[true, true, true, true, true, true, false, false, false, false, false]) rfl (by kernel_rfl) (by kernel_rfl) (by kernel_rfl) rfl (by kernel_rfl) rfl (St.del 8 S152) rfl (wn rfl) rfl rfl (fun _ Sx158 => (y_load rfl rfl (r_load_row 0 Sx158 rfl Try.underlying93 rfl inf93 rfl))) ?_
    refine wG_one (m := 4) (r := 6) (by kernel_rfl) ?_
    refine wH_new (i := 6) (listed' := #[true, true, true, true, true, true, true, false, false, false, false]) rfl rfl (V := fun b => .slice (some ⟨b, 0, none⟩) 1 1) (row := #[.int .i64 R.2.1.code, .int .i64 R.2.1.hep, .int .i64 R.2.1.hno, .int .i64 R.2.1.body]) (t := 93) S152 (wn rfl) rfl rfl (d_buildSlice (vs := [(0, .agg #[.int .i64 R.2.1.code, .int .i64 R.2.1.hep, .int .i64 R.2.1.hno, .int .i64 R.2.1.body])]) rfl ⟨rfl, rfl, trivial⟩ (by kernel_rfl)) ?_; intro b159 w160 S161; clear S152
    refine ⟨(St.del 0 (St.del 9 S161)), ?_⟩
    refine wG_one (m := 3) (r := 7) (by kernel_rfl) ?_
    refine wH_append (i := 7) (listed' := #[true, true, true, true, true, true, true, true, false, false, false]) rfl rfl (news := [.int .i64 R.2.1.code, .int .i64 R.2.1.hep, .int .i64 R.2.1.hno, .int .i64 R.2.1.body]) (xs' := (an ++ [R.2.1]).flatMap Ans.cells) 9 S161 (wn rfl) rfl rfl rfl rfl rfl rfl (St.bld (xs := [.int .i64 R.2.1.code, .int .i64 R.2.1.hep, .int .i64 R.2.1.hno, .int .i64 R.2.1.body]) 0 S161 rfl rfl rfl) Try.underlying103 infz93 rfl (by decide) (oneAll rfl) (by simp only [maxLen]; omega) (by omega) (fm_snoc (enc := Ans.cells) rfl rfl) ?_; intro A162 c163 w164 hc166 hm167 S165; clear S161
    change St _ _ _ (_ :: _ :: _ :: _ :: _ :: _ :: _ :: _ :: _ :: (.own 93 4 (.slice A162 (an.length + 1) c163) (an.length + 1) ((an ++ [R.2.1]).flatMap Ans.cells)) :: fs) at S165
    refine ⟨(St.del 0 (St.del 9 S165)), ?_⟩
    refine wG_tail (by kernel_rfl) rfl rfl rfl ?_
    refine wL_val (wn rfl) rfl rfl (y_nil rfl rfl trivial) ?_
    refine wL_val (v := .pointer (some ⟨g, 41, none⟩)) (wn rfl) rfl rfl (y_fieldAddr rfl rfl (fa203_1 _ _ _)) ?_
    refine wL_st (cs := #[.slice A162 (an.length + 1) c163]) (row' := tRow R.1.ep R.1.nx R.1.gv (.slice A143 R.1.ready.length c144) (.slice A145 R.1.leases.length c146) R.1.ws (.slice A162 (an.length + 1) c163)) (fs' := (_ :: _ :: _ :: _ :: _ :: _ :: (.blk g (tRow R.1.ep R.1.nx R.1.gv (.slice A143 R.1.ready.length c144) (.slice A145 R.1.leases.length c146) R.1.ws (.slice A162 (an.length + 1) c163)) 203) :: _ :: _ :: _ :: fs)) 6 S165 (wn rfl) rfl rfl rfl rfl rfl rfl inf103 rfl (oneAll rfl) (Nat.le_of_ble_eq_true rfl) rfl rfl ?_; intro w168 S169; clear S165
    refine wL_nil (wQ_np ?_)
    refine wQ_sub (l' := [(4, _)]) ⟨rfl, trivial⟩ (wQ_then (wC_seq (wC_region (wL_val (wn rfl) rfl rfl (y_assign rfl rfl) ?_))))
    refine wL_nil (wQ_then (wC_ret (wQ_post (rs := [.tmp 4]) (vs := [.bool true]) rfl ⟨rfl, trivial⟩ ?_)))
    rw [show doM Q x = R from hR]
    have S170 : St B w0 w168 (_ :: _ :: _ :: _ :: fs) := (St.del 0 (St.del 1 (St.del 2 (St.del 5 (St.del 7 (St.del 8 S169)))))); clear S169
    have S171 : St B w0 w168 (_ :: _ :: _ :: _ :: fs) := ((((S170.bring 3 rfl).bring 2 rfl).bring 2 rfl).bring 3 rfl); clear S170
    have hal : (an ++ [R.2.1]).length = an.length + 1 := by simp
    refine ⟨fun _ => ⟨rfl, A143, c144, A145, c146, A162, c163, ?_⟩, fun h => absurd ⟨h1, h2⟩ h⟩
    unfold tellFacts
    rw [hal]
    exact S171
  ·refine wL_val (v := .bool true) (wn rfl) rfl rfl (y_binop rfl rfl rfl (r_neq_t h1)) ?_
   refine wL_val (wn rfl) rfl rfl (y_move rfl rfl) ?_
   refine wL_skip (wg rfl rfl rfl rfl) rfl rfl ?_
   refine wL_skip (wg rfl rfl rfl rfl) rfl rfl ?_
   refine wL_val (wn rfl) rfl rfl (y_pick_t rfl rfl rfl) ?_
   refine wL_nil (wQ_sub (l' := [(0, _), (4, _), (5, _), (6, _), (25, _)]) ⟨rfl, rfl, rfl, rfl, rfl, trivial⟩ (wQ_then (wC_cond_t rfl (wC_seq (wC_region (wL_val (wn rfl) rfl rfl (y_assign rfl rfl) ?_))))))
   refine wL_nil (wQ_sub (l' := [(4, _)]) ⟨rfl, trivial⟩ (wQ_then (wC_ret (wQ_then_ret (wQ_post (rs := [.tmp 4]) (vs := [.bool false]) rfl ⟨rfl, trivial⟩ ?_)))))
   rw [show doM Q x = R from hR]
   have S172 : St B w0 w147 (fs) := (St.del 0 (St.del 1 (St.del 2 (St.del 3 (St.del 4 (St.del 5 (St.del 6 (St.del 7 (St.del 8 S148))))))))); clear S148
   exact ⟨fun h => absurd h (fun h => h1 h.1), fun _ => ⟨rfl, S172⟩⟩

theorem tellM_zero {l : List Ev} (h : ¬ (tellM l).2.2 = 0) : (tellM l).1 = zeroQd ∧ (tellM l).2.1 = [] := by
  by_cases hl : 2000 < l.length
  · rw [tellM_big hl]; exact ⟨rfl, rfl⟩
  · cases hg : tellGo zeroQd [] l with
    | none => rw [tellM_no hl hg]; exact ⟨rfl, rfl⟩
    | some r => rw [tellM_ok hl hg] at h; exact absurd rfl h

set_option maxRecDepth 100000 in
set_option maxHeartbeats 2000000 in
theorem tell_calls (A : Option Addr) (c : Nat) (l : List Ev) (w : World) (h : Rd w w.heap.size 6 A l.length (evCells l)) (hl : l.length ≤ 1152921504606846976) :
    Calls Try.prog 153 #[.slice A l.length c] w (TellPost w (tellM l)) := by
 have S := (St.start w).addRd h; clear h
 refine calls_of_wC (N := 24) (vs := [.slice A l.length c]) Try.func153 rfl rfl rfl ?_
 refine wC_sub (l' := [(0, .slice A l.length c)]) ⟨rfl, trivial⟩ (wC_seq (wC_region (wL_val (wn rfl) rfl rfl (y_assign rfl rfl) ?_)))
 refine wL_val (wn rfl) rfl rfl (y_assign rfl rfl) ?_
 refine wL_nil (wQ_then (wC_seq (wC_seq (wC_region (wL_val (wn rfl) rfl rfl (y_move rfl rfl) ?_)))))
 refine wL_val (v := .int .i64 ((l.length : Nat) : Int)) (wn rfl) rfl rfl (y_builtin (vs := [.slice A l.length c]) rfl ⟨rfl, trivial⟩ fun _ => r_len rfl Try.underlying57) ?_
 by_cases h1 : 2000 < ((l.length : Nat) : Int)
 ·refine wL_val (v := .bool true) (wn rfl) rfl rfl (y_binop rfl rfl rfl (r_gtr_t h1)) ?_
  refine wL_nil (wQ_sub (l' := [(0, _), (2, _), (3, _), (9, _)]) ⟨rfl, rfl, rfl, rfl, trivial⟩ (wQ_then (wC_cond_t rfl (wC_seq (wC_region (wL_val (wn rfl) rfl rfl (y_assign rfl rfl) ?_))))))
  refine wL_val (wn rfl) rfl rfl (y_assign rfl rfl) ?_
  refine wL_nil (wQ_sub (l' := [(2, _), (3, _)]) ⟨rfl, rfl, trivial⟩ (wQ_then (wC_ret (wQ_then_ret (wQ_post (rs := [.tmp 2, .tmp 3]) (vs := [.pointer none, .int .i64 1]) rfl ⟨rfl, rfl, trivial⟩ ?_)))))
  rw [tellM_big (by omega)]
  exact ⟨fun h => absurd h (by decide), fun _ => ⟨rfl, S.low⟩⟩
 ·refine wL_val (v := .bool false) (wn rfl) rfl rfl (y_binop rfl rfl rfl (r_gtr_f h1)) ?_
  refine wL_nil (wQ_sub (l' := [(0, _), (2, _), (3, _), (9, _)]) ⟨rfl, rfl, rfl, rfl, trivial⟩ (wQ_then (wC_cond_f rfl (wC_skip (wQ_then (wC_seq (wC_region (wL_val (v := .agg (tRow 0 0 0 (.slice none 0 0) (.slice none 0 0) zeroWs (.slice none 0 0))) (wn rfl) rfl rfl (y_build (vs := []) rfl trivial (by kernel_rfl)) ?_))))))))
  refine wL_new (V := fun b => .pointer (some ⟨b, 0, none⟩)) (row := tRow 0 0 0 (.slice none 0 0) (.slice none 0 0) zeroWs (.slice none 0 0)) (t := 203) S (wn rfl) rfl rfl (d_box rfl rfl rfl) ?_; intro b2 w3 S4; clear S
  refine wL_val (wn rfl) rfl rfl (y_assign rfl rfl) ?_
  refine wL_nil (wQ_sub (l' := [(0, _), (2, _), (3, _), (4, _)]) ⟨rfl, rfl, rfl, rfl, trivial⟩ (wQ_then (wC_seq (wC_seq (wC_region (wL_val (wn rfl) rfl rfl (y_move rfl rfl) ?_))))))
  refine wL_val (v := .int .i64 ((l.length : Nat) : Int)) (wn rfl) rfl rfl (y_builtin (vs := [.slice A l.length c]) rfl ⟨rfl, trivial⟩ fun _ => r_len rfl Try.underlying57) ?_
  refine wL_val (wn rfl) rfl rfl (y_move rfl rfl) ?_
  refine wL_nil (wQ_sub (l' := [(2, _), (3, _), (4, _), (12, _), (13, _), (14, _)]) ⟨rfl, rfl, rfl, rfl, rfl, rfl, trivial⟩ (wQ_then (wC_block ?_)))
  have S5 := rdo_nil (s := 2) (rdo_nil (s := 4) (S4.nil 93 4)); clear S4
  change St _ _ _ [.rdo 2 none 0 ((zeroQd.ready).flatMap Msg.cells), .rdo 4 none 0 ((zeroQd.leases).flatMap Ls.cells), .own 93 4 (.slice none 0 0) 0 (([]).flatMap Ans.cells), .blk b2 (tRow 0 0 0 (.slice none 0 0) (.slice none 0 0) zeroWs (.slice none 0 0)) 203, .rd 6 A l.length ((l).flatMap Ev.cells)] at S5
  have S6 : St w.heap.size w w3 [_, _, _, _, _] := S5.re [3, 0, 1, 2, 4] (by decide); clear S5
  refine wC_loop (X := Nat × Qd × (List Ans) × (Option Addr) × Nat × (Option Addr) × Nat × (Option Addr) × Nat) (fun xv => [(2, .pointer none), (3, .int .i64 0), (4, .pointer (some ⟨b2, 0, none⟩)), (12, .slice A l.length c), (13, .int .i64 ((l.length : Nat) : Int)), (14, .int .i64 ((xv.1 : Nat) : Int))]) (fun xv wr => (xv.1 ≤ l.length) ∧ (tellGo zeroQd [] l = tellGo xv.2.1 xv.2.2.1 (l.drop xv.1)) ∧ (xv.2.1.ready.length + xv.2.1.leases.length ≤ 501) ∧ (xv.2.2.1.length = xv.1) ∧ St w.heap.size w wr [.blk b2 (tRow xv.2.1.ep xv.2.1.nx xv.2.1.gv (.slice xv.2.2.2.1 xv.2.1.ready.length xv.2.2.2.2.1) (.slice xv.2.2.2.2.2.1 xv.2.1.leases.length xv.2.2.2.2.2.2.1) xv.2.1.ws (.slice xv.2.2.2.2.2.2.2.1 xv.2.2.1.length xv.2.2.2.2.2.2.2.2)) 203, .rdo 2 xv.2.2.2.1 xv.2.1.ready.length ((xv.2.1.ready).flatMap Msg.cells), .rdo 4 xv.2.2.2.2.2.1 xv.2.1.leases.length ((xv.2.1.leases).flatMap Ls.cells), .own 93 4 (.slice xv.2.2.2.2.2.2.2.1 xv.2.2.1.length xv.2.2.2.2.2.2.2.2) xv.2.2.1.length ((xv.2.2.1).flatMap Ans.cells), .rd 6 A l.length ((l).flatMap Ev.cells)]) (fun xv => l.length - xv.1) (0, zeroQd, [], none, 0, none, 0, none, 0) ?_ ?_ ?_
  ·exact ⟨Nat.zero_le _, rfl, (by simp [zeroQd]), rfl, S6⟩
  ·exact ⟨rfl, rfl, rfl, rfl, rfl, rfl, trivial⟩
  ·rintro ⟨k, Q, an, A1, c1, A2, c2, A3, c3⟩ w7 ⟨hi9, hi10, hi11, hi12, S8⟩
   try dsimp only at hi9 hi10 hi11 hi12 S8; clear S6
   refine wC_sub (l' := [(2, .pointer none), (3, .int .i64 0), (4, .pointer (some ⟨b2, 0, none⟩)), (12, .slice A l.length c), (13, .int .i64 ((l.length : Nat) : Int)), (14, .int .i64 ((k : Nat) : Int))]) ⟨rfl, rfl, rfl, rfl, rfl, rfl, trivial⟩ (wC_seq (wC_region ?_))
   by_cases h13 : ((k : Nat) : Int) < ((l.length : Nat) : Int)
   ·refine wL_val (v := .bool true) (wn rfl) rfl rfl (y_binop rfl rfl rfl (r_lss_t h13)) ?_
    refine wL_nil (wQ_then (wC_seq (wC_cond_t rfl (wC_skip (wQ_then (wC_seq (wC_block (wC_seq (wC_region ?_)))))))))
    obtain ⟨b14, o15, rfl⟩ := Rd.addr (St.rd 4 S8 rfl) (by omega)
    obtain ⟨x16, hx17⟩ : ∃ x, (l)[k]? = some x := ⟨_, List.getElem?_eq_getElem (by have := (St.rd 4 S8 rfl).1; rw [fm_len (sz := 6) (fun _ => rfl)] at this; omega)⟩
    refine wL_val (v := .pointer (some ⟨b14, o15 + k * 6, none⟩)) (wn rfl) rfl rfl (y_indexAddr rfl rfl rfl (r_indexAddr k Try.underlying57 inf37 (by omega) (by omega))) ?_
    refine wL_val (wn rfl) rfl rfl (y_load rfl rfl (r_load_agg (cs := Ev.cells x16) Try.underlying37 rfl inf37 rfl (Rd.rg2 (St.rd 4 S8 rfl) (fun _ _ h => fm_get (enc := Ev.cells) (sz := 6) (fun _ => rfl) hx17 h)))) ?_
    refine wL_new (V := fun b => .pointer (some ⟨b, 0, none⟩)) (row := #[.int .i64 0, .int .i64 0, .int .i64 0, .int .i64 0, .int .i64 0, .int .i64 0]) (t := 37) S8 (wn rfl) rfl rfl (d_alloc rfl (Try.zeroValue37 _) rfl) ?_; intro b18 w19 S20; clear S8
    refine wL_st (fs' := [_, _, _, _, _, _]) 0 S20 (wn rfl) rfl rfl rfl rfl rfl rfl inf37 rfl (oneAll rfl) (Nat.le_of_ble_eq_true rfl) (setAll_all rfl) rfl ?_; intro w21 S22; clear S20
    refine wL_nil (wQ_sub (l' := [(2, _), (3, _), (4, _), (12, _), (13, _), (14, _), (6, _)]) ⟨rfl, rfl, rfl, rfl, rfl, rfl, rfl, trivial⟩ (wQ_then (wC_seq (wC_region (wL_val (wn rfl) rfl rfl (y_move rfl rfl) ?_)))))
    refine wL_val (wn rfl) rfl rfl (y_load rfl rfl (r_load_row 0 S22 rfl Try.underlying37 rfl inf37 rfl)) ?_
    have S23 : St w.heap.size w w21 [_, _, _, _, _, _] := S22.re [1, 2, 3, 4, 0, 5] (by decide); clear S22
    obtain ⟨R, hR⟩ : ∃ R, doM Q x16 = R := ⟨_, rfl⟩
    have HA := add_calls (fs := [.blk b18 #[.int .i64 x16.kind, .int .i64 x16.producer, .int .i64 x16.id, .int .i64 x16.body, .int .i64 x16.hepoch, .int .i64 x16.hno] 37, .rd 6 (some ⟨b14, o15, none⟩) l.length ((l).flatMap Ev.cells)]) (x := x16) (show St _ _ _ (tellFacts _ _ _ _ _ _ _ _ _ _) from S23) hi11 (by omega)
    rw [hR] at HA
    by_cases hok : R.2.2.2 = 0 ∧ R.2.2.1 = true
    ·refine wL_call (vs := [.pointer (some ⟨b2, 0, none⟩), .agg #[.int .i64 x16.kind, .int .i64 x16.producer, .int .i64 x16.id, .int .i64 x16.body, .int .i64 x16.hepoch, .int .i64 x16.hno]]) (wn rfl) rfl rfl (e_call (vs := [.pointer (some ⟨b2, 0, none⟩), .agg #[.int .i64 x16.kind, .int .i64 x16.producer, .int .i64 x16.id, .int .i64 x16.body, .int .i64 x16.hepoch, .int .i64 x16.hno]]) rfl en181 ⟨rfl, rfl, trivial⟩) (HA.mono fun _ _ h => h.1 hok) ?_
     rintro _ w24 ⟨rfl, A26, c27, A28, c29, A30, c31, S25⟩
     refine ⟨_, rfl, ?_⟩
     change St _ _ _ [.blk b2 (tRow R.1.ep R.1.nx R.1.gv (.slice A26 R.1.ready.length c27) (.slice A28 R.1.leases.length c29) R.1.ws (.slice A30 ((an ++ [R.2.1]).length) c31)) 203, .rdo 2 A26 R.1.ready.length ((R.1.ready).flatMap Msg.cells), .rdo 4 A28 R.1.leases.length ((R.1.leases).flatMap Ls.cells), .own 93 4 (.slice A30 ((an ++ [R.2.1]).length) c31) ((an ++ [R.2.1]).length) ((an ++ [R.2.1]).flatMap Ans.cells), .blk b18 #[.int .i64 x16.kind, .int .i64 x16.producer, .int .i64 x16.id, .int .i64 x16.body, .int .i64 x16.hepoch, .int .i64 x16.hno] 37, .rd 6 (some ⟨b14, o15, none⟩) l.length ((l).flatMap Ev.cells)] at S25; clear HA
     refine wL_val (v := .bool false) (wn rfl) rfl rfl (y_unop rfl rfl r_not) ?_
     refine wL_nil (wQ_sub (l' := [(2, _), (3, _), (4, _), (12, _), (13, _), (14, _), (21, _)]) ⟨rfl, rfl, rfl, rfl, rfl, rfl, rfl, trivial⟩ (wQ_then (wC_cond_f rfl (wC_skip (wQ_blk_n (wQ_then (wC_region (wL_val (v := .int .i64 ((k + 1 : Nat) : Int)) (wn rfl) rfl rfl (y_binop rfl rfl rfl (r_add (by omega) (by omega))) ?_))))))))
     refine wL_val (wn rfl) rfl rfl (y_move rfl rfl) ?_
     refine wL_nil (wQ_sub (l' := [(2, _), (3, _), (4, _), (12, _), (13, _), (14, _)]) ⟨rfl, rfl, rfl, rfl, rfl, rfl, trivial⟩ ?_)
     have S32 : St w.heap.size w w24 [_, _, _, _, _] := S25.re [0, 1, 2, 3, 5] (by decide); clear S25
     refine wQ_round (k + 1, R.1, an ++ [R.2.1], A26, c27, A28, c29, A30, c31) ?_ ⟨rfl, rfl, rfl, rfl, rfl, rfl, trivial⟩ (by first | omega | (dsimp only; omega))
     exact ⟨(by dsimp only; omega), (by dsimp only; rw [hi10, tellGo_step hx17 (by rw [hR]; exact hok.1) (by rw [hR]; exact hok.2), hR]), by dsimp only; exact hR ▸ do_len (by rw [hR]; exact hok.1), (by dsimp only; rw [List.length_append, hi12]; rfl), S32⟩
    ·refine wL_call (vs := [.pointer (some ⟨b2, 0, none⟩), .agg #[.int .i64 x16.kind, .int .i64 x16.producer, .int .i64 x16.id, .int .i64 x16.body, .int .i64 x16.hepoch, .int .i64 x16.hno]]) (wn rfl) rfl rfl (e_call (vs := [.pointer (some ⟨b2, 0, none⟩), .agg #[.int .i64 x16.kind, .int .i64 x16.producer, .int .i64 x16.id, .int .i64 x16.body, .int .i64 x16.hepoch, .int .i64 x16.hno]]) rfl en181 ⟨rfl, rfl, trivial⟩) (HA.mono fun _ _ h => h.2 hok) ?_
     rintro _ w33 ⟨rfl, S34⟩
     refine ⟨_, rfl, ?_⟩
     change St _ _ _ [.blk b18 #[.int .i64 x16.kind, .int .i64 x16.producer, .int .i64 x16.id, .int .i64 x16.body, .int .i64 x16.hepoch, .int .i64 x16.hno] 37, .rd 6 (some ⟨b14, o15, none⟩) l.length ((l).flatMap Ev.cells)] at S34; clear HA
     refine wL_val (v := .bool true) (wn rfl) rfl rfl (y_unop rfl rfl r_not) ?_
     refine wL_nil (wQ_sub (l' := [(2, _), (3, _), (4, _), (12, _), (13, _), (14, _), (21, _)]) ⟨rfl, rfl, rfl, rfl, rfl, rfl, rfl, trivial⟩ (wQ_then (wC_cond_t rfl (wC_seq (wC_region (wL_val (wn rfl) rfl rfl (y_assign rfl rfl) ?_))))))
     refine wL_val (wn rfl) rfl rfl (y_assign rfl rfl) ?_
     refine wL_nil (wQ_sub (l' := [(2, _), (3, _)]) ⟨rfl, rfl, trivial⟩ (wQ_then (wC_ret (wQ_blk_ret (wQ_then_ret (wQ_then_ret (wQ_blk_ret (wQ_then_ret (wQ_post (rs := [.tmp 2, .tmp 3]) (vs := [.pointer none, .int .i64 3]) rfl ⟨rfl, rfl, trivial⟩ ?_)))))))))
     rw [tellM_no (by omega) (by rw [hi10]; exact tellGo_stop hx17 (by rw [hR]; exact hok))]
     exact ⟨fun h => absurd h (by decide), fun _ => ⟨rfl, S34.low⟩⟩
   ·refine wL_val (v := .bool false) (wn rfl) rfl rfl (y_binop rfl rfl rfl (r_lss_f h13)) ?_
    refine wL_nil (wQ_then (wC_seq (wC_cond_f rfl (wC_exit (wQ_then_exit (wQ_then_exit (wQ_blk_same (wQ_then (wC_seq (wC_region (wL_val (wn rfl) rfl rfl (y_move rfl rfl) ?_)))))))))))
    refine wL_val (wn rfl) rfl rfl (y_assign rfl rfl) ?_
    refine wL_val (wn rfl) rfl rfl (y_assign rfl rfl) ?_
    refine wL_nil (wQ_sub (l' := [(2, _), (3, _)]) ⟨rfl, rfl, trivial⟩ (wQ_then (wC_ret (wQ_post (rs := [.tmp 2, .tmp 3]) (vs := [.pointer (some ⟨b2, 0, none⟩), .int .i64 0]) rfl ⟨rfl, rfl, trivial⟩ ?_))))
    have S41 : St w.heap.size w w7 [_, _, _, _] := S8.re [0, 1, 2, 3] (by decide); clear S8
    rw [tellM_ok (r := (Q, an)) (by omega) (by rw [hi10]; exact tellGo_end (by omega))]
    exact ⟨fun _ => ⟨b2, A1, c1, A2, c2, A3, c3, rfl, S41⟩, fun h => absurd rfl h⟩

set_option maxRecDepth 100000 in
set_option maxHeartbeats 2000000 in
theorem Told_calls (A : Option Addr) (c : Nat) (l : List Ev) (w : World) (h : Rd w w.heap.size 6 A l.length (evCells l)) (hl : l.length ≤ 1152921504606846976) :
    Calls Try.prog 154 #[.slice A l.length c] w (ToldPost w (tellM l)) := by
 have S := (St.start w).addRd h; clear h
 refine calls_of_wC (N := 47) (vs := [.slice A l.length c]) Try.func154 rfl rfl rfl ?_
 refine wC_sub (l' := [(0, .slice A l.length c)]) ⟨rfl, trivial⟩ (wC_seq (wC_region (wL_new (V := fun b => .pointer (some ⟨b, 0, none⟩)) (row := qRow 0 0 0 (.slice none 0 0) (.slice none 0 0) zeroWs) (t := 29) S (wn rfl) rfl rfl (d_alloc rfl (Try.zeroValue29 _) rfl) ?_))); intro b1 w2 S3; clear S
 refine wL_val (wn rfl) rfl rfl (y_assign rfl rfl) ?_
 refine wL_val (wn rfl) rfl rfl (y_assign rfl rfl) ?_
 refine wL_nil (wQ_then (wC_seq (wC_seq (wC_region (wL_val (wn rfl) rfl rfl (y_move rfl rfl) ?_)))))
 refine wL_val (v := .int .i64 ((l.length : Nat) : Int)) (wn rfl) rfl rfl (y_builtin (vs := [.slice A l.length c]) rfl ⟨rfl, trivial⟩ fun _ => r_len rfl Try.underlying57) ?_
 by_cases h4 : 2000 < ((l.length : Nat) : Int)
 ·refine wL_val (v := .bool true) (wn rfl) rfl rfl (y_binop rfl rfl rfl (r_gtr_t h4)) ?_
  refine wL_nil (wQ_sub (l' := [(0, _), (2, _), (3, _), (4, _), (14, _)]) ⟨rfl, rfl, rfl, rfl, rfl, trivial⟩ (wQ_then (wC_cond_t rfl (wC_seq (wC_region (wL_val (v := .agg (qRow 0 0 0 (.slice none 0 0) (.slice none 0 0) zeroWs)) (wn rfl) rfl rfl (y_build (vs := []) rfl trivial (by kernel_rfl)) ?_))))))
  refine wL_st (fs' := [_, _]) 0 S3 (wn rfl) rfl rfl rfl rfl rfl rfl inf29 rfl (qRow_one rfl rfl) (Nat.le_of_ble_eq_true rfl) (setAll_all rfl) rfl ?_; intro w5 S6; clear S3
  refine wL_val (wn rfl) rfl rfl (y_assign rfl rfl) ?_
  refine wL_val (wn rfl) rfl rfl (y_assign rfl rfl) ?_
  refine wL_nil (wQ_sub (l' := [(2, _), (3, _), (4, _)]) ⟨rfl, rfl, rfl, trivial⟩ (wQ_then (wC_ret (wQ_then_ret (wQ_post (rs := [.cell 2 29, .tmp 3, .tmp 4]) (vs := [.agg (qRow 0 0 0 (.slice none 0 0) (.slice none 0 0) zeroWs), .slice none 0 0, .int .i64 1]) rfl ⟨⟨_, rfl, res_row 0 S6 rfl Try.underlying29 rfl inf29⟩, rfl, rfl, trivial⟩ ?_)))))
  rw [tellM_big (by omega)]
  have S7 : St w.heap.size w w5 [] := (St.del 0 (St.del 1 S6)); clear S6
  exact ⟨none, 0, none, 0, none, 0, rfl, rdo_nil (rdo_nil (rdo_nil S7))⟩
 ·refine wL_val (v := .bool false) (wn rfl) rfl rfl (y_binop rfl rfl rfl (r_gtr_f h4)) ?_
  refine wL_nil (wQ_sub (l' := [(0, _), (2, _), (3, _), (4, _), (14, _)]) ⟨rfl, rfl, rfl, rfl, rfl, trivial⟩ (wQ_then (wC_cond_f rfl (wC_skip (wQ_then (wC_seq (wC_region (wL_new (V := fun b => .pointer (some ⟨b, 0, none⟩)) (row := qRow 0 0 0 (.slice none 0 0) (.slice none 0 0) zeroWs) (t := 29) S3 (wn rfl) rfl rfl (d_alloc rfl (Try.zeroValue29 _) rfl) ?_)))))))); intro b8 w9 S10; clear S3
  refine wL_nil (wQ_sub (l' := [(0, _), (2, _), (3, _), (4, _), (5, _)]) ⟨rfl, rfl, rfl, rfl, rfl, trivial⟩ (wQ_then (wC_seq (wC_region (wL_val (wn rfl) rfl rfl (y_assign rfl rfl) ?_)))))
  refine wL_nil (wQ_then (wC_seq (wC_seq (wC_region (wL_val (wn rfl) rfl rfl (y_assign rfl rfl) ?_)))))
  refine wL_nil (wQ_then (wC_block ?_))
  have S11 := rdo_nil (s := 2) (rdo_nil (s := 4) (S10.nil 93 4)); clear S10
  change St _ _ _ [.rdo 2 none 0 ((zeroQd.ready).flatMap Msg.cells), .rdo 4 none 0 ((zeroQd.leases).flatMap Ls.cells), .own 93 4 (.slice none 0 0) 0 (([]).flatMap Ans.cells), .blk b8 (qRow 0 0 0 (.slice none 0 0) (.slice none 0 0) zeroWs) 29, .blk b1 (qRow 0 0 0 (.slice none 0 0) (.slice none 0 0) zeroWs) 29, .rd 6 A l.length ((l).flatMap Ev.cells)] at S11
  refine wC_loop (X := Nat × Qd × (List Ans) × (Option Addr) × Nat × (Option Addr) × Nat × (Option Addr) × Nat) (fun xv => [(0, .slice A l.length c), (2, .pointer (some ⟨b1, 0, none⟩)), (3, .slice none 0 0), (4, .int .i64 0), (5, .pointer (some ⟨b8, 0, none⟩)), (6, .slice xv.2.2.2.2.2.2.2.1 xv.1 xv.2.2.2.2.2.2.2.2), (7, .int .i64 ((xv.1 : Nat) : Int))]) (fun xv wr => (xv.1 ≤ l.length) ∧ (tellGo zeroQd [] l = tellGo xv.2.1 xv.2.2.1 (l.drop xv.1)) ∧ (xv.2.1.ready.length + xv.2.1.leases.length ≤ 501) ∧ (xv.2.2.1.length = xv.1) ∧ St w.heap.size w wr [.rdo 2 xv.2.2.2.1 xv.2.1.ready.length ((xv.2.1.ready).flatMap Msg.cells), .rdo 4 xv.2.2.2.2.2.1 xv.2.1.leases.length ((xv.2.1.leases).flatMap Ls.cells), .own 93 4 (.slice xv.2.2.2.2.2.2.2.1 xv.1 xv.2.2.2.2.2.2.2.2) xv.1 ((xv.2.2.1).flatMap Ans.cells), .blk b8 (qRow xv.2.1.ep xv.2.1.nx xv.2.1.gv (.slice xv.2.2.2.1 xv.2.1.ready.length xv.2.2.2.2.1) (.slice xv.2.2.2.2.2.1 xv.2.1.leases.length xv.2.2.2.2.2.2.1) xv.2.1.ws) 29, .blk b1 (qRow 0 0 0 (.slice none 0 0) (.slice none 0 0) zeroWs) 29, .rd 6 A l.length ((l).flatMap Ev.cells)]) (fun xv => l.length - xv.1) (0, zeroQd, [], none, 0, none, 0, none, 0) ?_ ?_ ?_
  ·exact ⟨Nat.zero_le _, rfl, (by simp [zeroQd]), rfl, S11⟩
  ·exact ⟨rfl, rfl, rfl, rfl, rfl, rfl, rfl, trivial⟩
  ·rintro ⟨k, Q, an, A1, c1, A2, c2, A3, c3⟩ w12 ⟨hi14, hi15, hi16, hi17, S13⟩
   try dsimp only at hi14 hi15 hi16 hi17 S13; clear S11
   refine wC_sub (l' := [(0, .slice A l.length c), (2, .pointer (some ⟨b1, 0, none⟩)), (3, .slice none 0 0), (4, .int .i64 0), (5, .pointer (some ⟨b8, 0, none⟩)), (6, .slice A3 k c3), (7, .int .i64 ((k : Nat) : Int))]) ⟨rfl, rfl, rfl, rfl, rfl, rfl, rfl, trivial⟩ (wC_seq (wC_seq (wC_region (wL_val (wn rfl) rfl rfl (y_move rfl rfl) ?_))))
   refine wL_val (wn rfl) rfl rfl (y_move rfl rfl) ?_
   refine wL_val (v := .int .i64 ((l.length : Nat) : Int)) (wn rfl) rfl rfl (y_builtin (vs := [.slice A l.length c]) rfl ⟨rfl, trivial⟩ fun _ => r_len rfl Try.underlying57) ?_
   by_cases h18 : ((k : Nat) : Int) < ((l.length : Nat) : Int)
   ·refine wL_val (v := .bool true) (wn rfl) rfl rfl (y_binop rfl rfl rfl (r_lss_t h18)) ?_
    refine wL_nil (wQ_sub (l' := [(0, _), (2, _), (3, _), (4, _), (5, _), (6, _), (7, _), (19, _)]) ⟨rfl, rfl, rfl, rfl, rfl, rfl, rfl, rfl, trivial⟩ (wQ_then (wC_cond_t rfl (wC_skip (wQ_then (wC_seq (wC_block ?_)))))))
    obtain ⟨x19, hx20⟩ : ∃ x, (l)[k]? = some x := ⟨_, List.getElem?_eq_getElem (by have := (St.rd 5 S13 rfl).1; rw [fm_len (sz := 6) (fun _ => rfl)] at this; omega)⟩
    obtain ⟨R, hR⟩ : ∃ R, doM Q x19 = R := ⟨_, rfl⟩
    obtain ⟨b21, o22, rfl⟩ := Rd.addr (St.rd 5 S13 rfl) (by omega)
    refine wC_cut (X := Nat × Nat × (Option Addr) × Nat × (Option Addr) × Nat) (fun xv => [(0, .slice (some ⟨b21, o22, none⟩) l.length c), (2, .pointer (some ⟨b1, 0, none⟩)), (3, .slice none 0 0), (4, .int .i64 0), (5, .pointer (some ⟨b8, 0, none⟩)), (6, .slice A3 k c3), (7, .int .i64 ((k : Nat) : Int)), (8, .pointer (some ⟨xv.1, 0, none⟩)), (9, .pointer (some ⟨xv.2.1, 0, none⟩)), (10, .bool R.2.2.1), (11, .int .i64 R.2.2.2)]) (fun xv wr => St w.heap.size w wr [.blk xv.2.1 #[.int .i64 R.2.1.code, .int .i64 R.2.1.hep, .int .i64 R.2.1.hno, .int .i64 R.2.1.body] 93, .blk xv.1 (qRow R.1.ep R.1.nx R.1.gv (.slice xv.2.2.1 R.1.ready.length xv.2.2.2.1) (.slice xv.2.2.2.2.1 R.1.leases.length xv.2.2.2.2.2) R.1.ws) 29, .rdo 2 xv.2.2.1 R.1.ready.length ((R.1.ready).flatMap Msg.cells), .rdo 4 xv.2.2.2.2.1 R.1.leases.length ((R.1.leases).flatMap Ls.cells), .rdo 2 A1 Q.ready.length ((Q.ready).flatMap Msg.cells), .rdo 4 A2 Q.leases.length ((Q.leases).flatMap Ls.cells), .own 93 4 (.slice A3 k c3) k ((an).flatMap Ans.cells), .blk b8 (qRow Q.ep Q.nx Q.gv (.slice A1 Q.ready.length c1) (.slice A2 Q.leases.length c2) Q.ws) 29, .blk b1 (qRow 0 0 0 (.slice none 0 0) (.slice none 0 0) zeroWs) 29, .rd 6 (some ⟨b21, o22, none⟩) l.length ((l).flatMap Ev.cells)]) ?_ ?_
    ·have S23 := S13.drew; clear S13
     refine wC_any_ (C := fun w' => St w.heap.size w w' [.rdo 2 A1 Q.ready.length ((Q.ready).flatMap Msg.cells), .rdo 4 A2 Q.leases.length ((Q.leases).flatMap Ls.cells), .own 93 4 (.slice A3 k c3) k ((an).flatMap Ans.cells), .blk b8 (qRow Q.ep Q.nx Q.gv (.slice A1 Q.ready.length c1) (.slice A2 Q.leases.length c2) Q.ws) 29, .blk b1 (qRow 0 0 0 (.slice none 0 0) (.slice none 0 0) zeroWs) 29, .rd 6 (some ⟨b21, o22, none⟩) l.length ((l).flatMap Ev.cells)]) (n := 17) (listed := #[false, false, false, false, false, false, false, false, false, false, false, false, false, false, false, false, false]) mixed rfl rfl ?_
     refine wA_take (v := .agg (qRow Q.ep Q.nx Q.gv (.slice A1 Q.ready.length c1) (.slice A2 Q.leases.length c2) Q.ws)) (i := 0) (n := 16) (listed' := #[true, false, false, false, false, false, false, false, false, false, false, false, false, false, false, false, false]) rfl (by kernel_rfl) (by kernel_rfl) (by kernel_rfl) S23 rfl (wn rfl) rfl rfl (fun _ Sx24 => (y_load rfl rfl (r_load_row 3 Sx24 rfl Try.underlying29 rfl inf29 rfl))) ?_
     refine wA_take (v := .slice (some ⟨b21, o22, none⟩) l.length c) (i := 1) (n := 15) (listed' := #[true, true, false, false, false, false, false, false, false, false, false, false, false, false, false, false, false]) rfl (by kernel_rfl) (by kernel_rfl) (by kernel_rfl) S23 rfl (wn rfl) rfl rfl (fun _ _ => (y_move rfl rfl)) ?_
     refine wA_take (v := .int .i64 ((k : Nat) : Int)) (i := 2) (n := 14) (listed' := #[true, true, true, false, false, false, false, false, false, false, false, false, false, false, false, false, false]) rfl (by kernel_rfl) (by kernel_rfl) (by kernel_rfl) S23 rfl (wn rfl) rfl rfl (fun _ _ => (y_move rfl rfl)) ?_
     refine wA_take (v := .pointer (some ⟨b21, o22 + k * 6, none⟩)) (i := 3) (n := 13) (listed' := #[true, true, true, true, false, false, false, false, false, false, false, false, false, false, false, false, false]) rfl (by kernel_rfl) (by kernel_rfl) (by kernel_rfl) S23 rfl (wn rfl) rfl rfl (fun _ _ => (y_indexAddr rfl rfl rfl (r_indexAddr k Try.underlying57 inf37 (by omega) (by omega)))) ?_
     refine wA_take (v := .agg #[.int .i64 x19.kind, .int .i64 x19.producer, .int .i64 x19.id, .int .i64 x19.body, .int .i64 x19.hepoch, .int .i64 x19.hno]) (i := 4) (n := 12) (listed' := #[true, true, true, true, true, false, false, false, false, false, false, false, false, false, false, false, false]) rfl (by kernel_rfl) (by kernel_rfl) (by kernel_rfl) S23 rfl (wn rfl) rfl rfl (fun _ Sx28 => (y_load rfl rfl (r_load_agg (cs := Ev.cells x19) Try.underlying37 rfl inf37 rfl (Rd.rg2 (St.rd 5 Sx28 rfl) (fun _ _ h => fm_get (enc := Ev.cells) (sz := 6) (fun _ => rfl) hx20 h))))) ?_
     refine wA_three (n := 11) (r := 5) (s := 11) (t := 12) (by kernel_rfl) ?_ ?_ ?_
     ·have HD := fun A1 A2 c1 c2 w h1 h2 => QueueDone_calls Q.ep Q.nx Q.gv x19.kind x19.producer x19.id x19.body x19.hepoch x19.hno A1 A2 c1 c2 Q.ready Q.leases Q.ws w h1 h2 (by unfold reachBytes; omega) (by unfold reachBytes; omega)
      rw [show doM ⟨Q.ep, Q.nx, Q.gv, Q.ready, Q.leases, Q.ws⟩ ⟨x19.kind, x19.producer, x19.id, x19.body, x19.hepoch, x19.hno⟩ = R from hR] at HD
      refine wN_call_ (i := 5) (listed' := #[true, true, true, true, true, true, false, false, false, false, false, false, false, false, false, false, false]) rfl rfl (vs := [.agg (qRow Q.ep Q.nx Q.gv (.slice A1 Q.ready.length c1) (.slice A2 Q.leases.length c2) Q.ws), .agg #[.int .i64 x19.kind, .int .i64 x19.producer, .int .i64 x19.id, .int .i64 x19.body, .int .i64 x19.hepoch, .int .i64 x19.hno]]) (wn rfl) rfl rfl (e_call (vs := [.agg (qRow Q.ep Q.nx Q.gv (.slice A1 Q.ready.length c1) (.slice A2 Q.leases.length c2) Q.ws), .agg #[.int .i64 x19.kind, .int .i64 x19.producer, .int .i64 x19.id, .int .i64 x19.body, .int .i64 x19.hepoch, .int .i64 x19.hno]]) rfl en67 ⟨rfl, rfl, trivial⟩) (HD A1 A2 c1 c2 _ (St.rdo 0 S23 rfl) (St.rdo 1 S23 rfl)) ?_
      rintro _ w33 ⟨A29, c30, A31, c32, rfl, T35⟩
      refine ⟨_, rfl, ?_⟩
      have S34 := S23.ext T35 rfl; clear T35 S23
      change St _ _ _ [.rdo 2 A29 R.1.ready.length ((R.1.ready).flatMap Msg.cells), .rdo 4 A31 R.1.leases.length ((R.1.leases).flatMap Ls.cells), _, _, _, _, _, _] at S34; clear HD
      refine ⟨(St.del 0 (St.del 1 S34)), ?_⟩
      refine wA_take (v := .tuple #[.agg (qRow R.1.ep R.1.nx R.1.gv (.slice A29 R.1.ready.length c30) (.slice A31 R.1.leases.length c32) R.1.ws), .agg #[.int .i64 R.2.1.code, .int .i64 R.2.1.hep, .int .i64 R.2.1.hno, .int .i64 R.2.1.body], .bool R.2.2.1, .int .i64 R.2.2.2]) (i := 6) (n := 10) (listed' := #[true, true, true, true, true, true, true, false, false, false, false, false, false, false, false, false, false]) rfl (by kernel_rfl) (by kernel_rfl) (by kernel_rfl) (St.del 0 (St.del 1 S34)) rfl (wn rfl) rfl rfl (fun _ _ => (y_move rfl rfl)) ?_
      refine wA_take (v := .agg (qRow R.1.ep R.1.nx R.1.gv (.slice A29 R.1.ready.length c30) (.slice A31 R.1.leases.length c32) R.1.ws)) (i := 7) (n := 9) (listed' := #[true, true, true, true, true, true, true, true, false, false, false, false, false, false, false, false, false]) rfl (by kernel_rfl) (by kernel_rfl) (by kernel_rfl) (St.del 0 (St.del 1 S34)) rfl (wn rfl) rfl rfl (fun _ _ => (y_extract rfl rfl rfl)) ?_
      refine wA_take (v := .agg #[.int .i64 R.2.1.code, .int .i64 R.2.1.hep, .int .i64 R.2.1.hno, .int .i64 R.2.1.body]) (i := 8) (n := 8) (listed' := #[true, true, true, true, true, true, true, true, true, false, false, false, false, false, false, false, false]) rfl (by kernel_rfl) (by kernel_rfl) (by kernel_rfl) (St.del 0 (St.del 1 S34)) rfl (wn rfl) rfl rfl (fun _ _ => (y_extract rfl rfl rfl)) ?_
      refine wA_take (v := .bool R.2.2.1) (i := 9) (n := 7) (listed' := #[true, true, true, true, true, true, true, true, true, true, false, false, false, false, false, false, false]) rfl (by kernel_rfl) (by kernel_rfl) (by kernel_rfl) (St.del 0 (St.del 1 S34)) rfl (wn rfl) rfl rfl (fun _ _ => (y_extract rfl rfl rfl)) ?_
      refine wA_take (v := .int .i64 R.2.2.2) (i := 10) (n := 6) (listed' := #[true, true, true, true, true, true, true, true, true, true, true, false, false, false, false, false, false]) rfl (by kernel_rfl) (by kernel_rfl) (by kernel_rfl) (St.del 0 (St.del 1 S34)) rfl (wn rfl) rfl rfl (fun _ _ => (y_extract rfl rfl rfl)) ?_
      refine wA_two (n := 5) (r := 11) (s := 12) (by kernel_rfl) ?_ ?_
      ·refine wN_new (i := 11) (listed' := #[true, true, true, true, true, true, true, true, true, true, true, true, false, false, false, false, false]) rfl rfl (V := fun b => .pointer (some ⟨b, 0, none⟩)) (row := qRow 0 0 0 (.slice none 0 0) (.slice none 0 0) zeroWs) (t := 29) S34 (wn rfl) rfl rfl (d_alloc rfl (Try.zeroValue29 _) rfl) ?_; intro b41 w42 S43; clear S34
       refine ⟨(St.del 0 (St.del 1 (St.del 2 S43))), ?_⟩
       refine wA_one (n := 4) (r := 12) (by kernel_rfl) ?_
       refine wN_new (i := 12) (listed' := #[true, true, true, true, true, true, true, true, true, true, true, true, true, false, false, false, false]) rfl rfl (V := fun b => .pointer (some ⟨b, 0, none⟩)) (row := #[.int .i64 0, .int .i64 0, .int .i64 0, .int .i64 0]) (t := 93) S43 (wn rfl) rfl rfl (d_alloc rfl (Try.zeroValue93 _) rfl) ?_; intro b44 w45 S46; clear S43
       refine ⟨(St.del 0 (St.del 1 (St.del 2 (St.del 3 S46)))), ?_⟩
       refine wA_one (n := 3) (r := 13) (by kernel_rfl) ?_
       refine wN_st (i := 13) (listed' := #[true, true, true, true, true, true, true, true, true, true, true, true, true, true, false, false, false]) rfl rfl (fs' := [_, _, _, _, _, _, _, _, _, _]) 1 S46 (wn rfl) rfl rfl rfl rfl rfl rfl inf29 rfl (qRow_one rfl rfl) (Nat.le_of_ble_eq_true rfl) (setAll_all rfl) rfl ?_; intro w47 S48; clear S46
       refine ⟨(St.del 0 (St.del 1 (St.del 2 (St.del 3 S48)))), ?_⟩
       refine wA_one (n := 2) (r := 14) (by kernel_rfl) ?_
       refine wN_st (i := 14) (listed' := #[true, true, true, true, true, true, true, true, true, true, true, true, true, true, true, false, false]) rfl rfl (fs' := [_, _, _, _, _, _, _, _, _, _]) 0 S48 (wn rfl) rfl rfl rfl rfl rfl rfl inf93 rfl (oneAll rfl) (Nat.le_of_ble_eq_true rfl) (setAll_all rfl) rfl ?_; intro w49 S50; clear S48
       refine ⟨(St.del 0 (St.del 1 (St.del 2 (St.del 3 S50)))), ?_⟩
       refine wA_take (v := .bool R.2.2.1) (i := 15) (n := 1) (listed' := #[true, true, true, true, true, true, true, true, true, true, true, true, true, true, true, true, false]) rfl (by kernel_rfl) (by kernel_rfl) (by kernel_rfl) (St.del 0 (St.del 1 (St.del 2 (St.del 3 S50)))) rfl (wn rfl) rfl rfl (fun _ _ => (y_assign rfl rfl)) ?_
       refine wA_take (v := .int .i64 R.2.2.2) (i := 16) (n := 0) (listed' := #[true, true, true, true, true, true, true, true, true, true, true, true, true, true, true, true, true]) rfl (by kernel_rfl) (by kernel_rfl) (by kernel_rfl) (St.del 0 (St.del 1 (St.del 2 (St.del 3 S50)))) rfl (wn rfl) rfl rfl (fun _ _ => (y_assign rfl rfl)) ?_
       refine wA_done (by kernel_rfl) ?_
       refine wQ_sub (l' := [(0, _), (2, _), (3, _), (4, _), (5, _), (6, _), (7, _), (8, _), (9, _), (10, _), (11, _)]) ⟨rfl, rfl, rfl, rfl, rfl, rfl, rfl, rfl, rfl, rfl, rfl, trivial⟩ (wQ_cut (b41, b44, A29, c30, A31, c32) ?_ ⟨rfl, rfl, rfl, rfl, rfl, rfl, rfl, rfl, rfl, rfl, rfl, trivial⟩)
       exact S50
      ·refine wN_new (i := 12) (listed' := #[true, true, true, true, true, true, true, true, true, true, true, false, true, false, false, false, false]) rfl rfl (V := fun b => .pointer (some ⟨b, 0, none⟩)) (row := #[.int .i64 0, .int .i64 0, .int .i64 0, .int .i64 0]) (t := 93) S34 (wn rfl) rfl rfl (d_alloc rfl (Try.zeroValue93 _) rfl) ?_; intro b53 w54 S55; clear S34
       refine ⟨(St.del 0 (St.del 1 (St.del 2 S55))), ?_⟩
       refine wA_one (n := 4) (r := 11) (by kernel_rfl) ?_
       refine wN_new (i := 11) (listed' := #[true, true, true, true, true, true, true, true, true, true, true, true, true, false, false, false, false]) rfl rfl (V := fun b => .pointer (some ⟨b, 0, none⟩)) (row := qRow 0 0 0 (.slice none 0 0) (.slice none 0 0) zeroWs) (t := 29) S55 (wn rfl) rfl rfl (d_alloc rfl (Try.zeroValue29 _) rfl) ?_; intro b56 w57 S58; clear S55
       refine ⟨(St.del 0 (St.del 1 (St.del 2 (St.del 3 S58)))), ?_⟩
       refine wA_one (n := 3) (r := 13) (by kernel_rfl) ?_
       refine wN_st (i := 13) (listed' := #[true, true, true, true, true, true, true, true, true, true, true, true, true, true, false, false, false]) rfl rfl (fs' := [_, _, _, _, _, _, _, _, _, _]) 0 S58 (wn rfl) rfl rfl rfl rfl rfl rfl inf29 rfl (qRow_one rfl rfl) (Nat.le_of_ble_eq_true rfl) (setAll_all rfl) rfl ?_; intro w59 S60; clear S58
       refine ⟨(St.del 0 (St.del 1 (St.del 2 (St.del 3 S60)))), ?_⟩
       refine wA_one (n := 2) (r := 14) (by kernel_rfl) ?_
       refine wN_st (i := 14) (listed' := #[true, true, true, true, true, true, true, true, true, true, true, true, true, true, true, false, false]) rfl rfl (fs' := [_, _, _, _, _, _, _, _, _, _]) 1 S60 (wn rfl) rfl rfl rfl rfl rfl rfl inf93 rfl (oneAll rfl) (Nat.le_of_ble_eq_true rfl) (setAll_all rfl) rfl ?_; intro w61 S62; clear S60
       refine ⟨(St.del 0 (St.del 1 (St.del 2 (St.del 3 S62)))), ?_⟩
       refine wA_take (v := .bool R.2.2.1) (i := 15) (n := 1) (listed' := #[true, true, true, true, true, true, true, true, true, true, true, true, true, true, true, true, false]) rfl (by kernel_rfl) (by kernel_rfl) (by kernel_rfl) (St.del 0 (St.del 1 (St.del 2 (St.del 3 S62)))) rfl (wn rfl) rfl rfl (fun _ _ => (y_assign rfl rfl)) ?_
       refine wA_take (v := .int .i64 R.2.2.2) (i := 16) (n := 0) (listed' := #[true, true, true, true, true, true, true, true, true, true, true, true, true, true, true, true, true]) rfl (by kernel_rfl) (by kernel_rfl) (by kernel_rfl) (St.del 0 (St.del 1 (St.del 2 (St.del 3 S62)))) rfl (wn rfl) rfl rfl (fun _ _ => (y_assign rfl rfl)) ?_
       refine wA_done (by kernel_rfl) ?_
       refine wQ_sub (l' := [(0, _), (2, _), (3, _), (4, _), (5, _), (6, _), (7, _), (9, _), (8, _), (10, _), (11, _)]) ⟨rfl, rfl, rfl, rfl, rfl, rfl, rfl, rfl, rfl, rfl, rfl, trivial⟩ ?_
       have S65 : St w.heap.size w w61 [_, _, _, _, _, _, _, _, _, _] := S62.re [1, 0, 2, 3, 4, 5, 6, 7, 8, 9] (by decide); clear S62
       refine wQ_cut (b56, b53, A29, c30, A31, c32) ?_ ⟨rfl, rfl, rfl, rfl, rfl, rfl, rfl, rfl, rfl, rfl, rfl, trivial⟩
       exact S65
     ·refine wN_new (i := 11) (listed' := #[true, true, true, true, true, false, false, false, false, false, false, true, false, false, false, false, false]) rfl rfl (V := fun b => .pointer (some ⟨b, 0, none⟩)) (row := qRow 0 0 0 (.slice none 0 0) (.slice none 0 0) zeroWs) (t := 29) S23 (wn rfl) rfl rfl (d_alloc rfl (Try.zeroValue29 _) rfl) ?_; intro b66 w67 S68; clear S23
      refine ⟨(St.del 0 S68), ?_⟩
      refine wA_two (n := 10) (r := 5) (s := 12) (by kernel_rfl) ?_ ?_
      ·have HD := fun A1 A2 c1 c2 w h1 h2 => QueueDone_calls Q.ep Q.nx Q.gv x19.kind x19.producer x19.id x19.body x19.hepoch x19.hno A1 A2 c1 c2 Q.ready Q.leases Q.ws w h1 h2 (by unfold reachBytes; omega) (by unfold reachBytes; omega)
       rw [show doM ⟨Q.ep, Q.nx, Q.gv, Q.ready, Q.leases, Q.ws⟩ ⟨x19.kind, x19.producer, x19.id, x19.body, x19.hepoch, x19.hno⟩ = R from hR] at HD
       refine wN_call_ (i := 5) (listed' := #[true, true, true, true, true, true, false, false, false, false, false, true, false, false, false, false, false]) rfl rfl (vs := [.agg (qRow Q.ep Q.nx Q.gv (.slice A1 Q.ready.length c1) (.slice A2 Q.leases.length c2) Q.ws), .agg #[.int .i64 x19.kind, .int .i64 x19.producer, .int .i64 x19.id, .int .i64 x19.body, .int .i64 x19.hepoch, .int .i64 x19.hno]]) (wn rfl) rfl rfl (e_call (vs := [.agg (qRow Q.ep Q.nx Q.gv (.slice A1 Q.ready.length c1) (.slice A2 Q.leases.length c2) Q.ws), .agg #[.int .i64 x19.kind, .int .i64 x19.producer, .int .i64 x19.id, .int .i64 x19.body, .int .i64 x19.hepoch, .int .i64 x19.hno]]) rfl en67 ⟨rfl, rfl, trivial⟩) (HD A1 A2 c1 c2 _ (St.rdo 1 S68 rfl) (St.rdo 2 S68 rfl)) ?_
       rintro _ w73 ⟨A69, c70, A71, c72, rfl, T75⟩
       refine ⟨_, rfl, ?_⟩
       have S74 := S68.ext T75 rfl; clear T75 S68
       change St _ _ _ [.rdo 2 A69 R.1.ready.length ((R.1.ready).flatMap Msg.cells), .rdo 4 A71 R.1.leases.length ((R.1.leases).flatMap Ls.cells), _, _, _, _, _, _, _] at S74; clear HD
       refine ⟨(St.del 0 (St.del 1 (St.del 2 S74))), ?_⟩
       refine wA_take (v := .tuple #[.agg (qRow R.1.ep R.1.nx R.1.gv (.slice A69 R.1.ready.length c70) (.slice A71 R.1.leases.length c72) R.1.ws), .agg #[.int .i64 R.2.1.code, .int .i64 R.2.1.hep, .int .i64 R.2.1.hno, .int .i64 R.2.1.body], .bool R.2.2.1, .int .i64 R.2.2.2]) (i := 6) (n := 9) (listed' := #[true, true, true, true, true, true, true, false, false, false, false, true, false, false, false, false, false]) rfl (by kernel_rfl) (by kernel_rfl) (by kernel_rfl) (St.del 0 (St.del 1 (St.del 2 S74))) rfl (wn rfl) rfl rfl (fun _ _ => (y_move rfl rfl)) ?_
       refine wA_take (v := .agg (qRow R.1.ep R.1.nx R.1.gv (.slice A69 R.1.ready.length c70) (.slice A71 R.1.leases.length c72) R.1.ws)) (i := 7) (n := 8) (listed' := #[true, true, true, true, true, true, true, true, false, false, false, true, false, false, false, false, false]) rfl (by kernel_rfl) (by kernel_rfl) (by kernel_rfl) (St.del 0 (St.del 1 (St.del 2 S74))) rfl (wn rfl) rfl rfl (fun _ _ => (y_extract rfl rfl rfl)) ?_
       refine wA_take (v := .agg #[.int .i64 R.2.1.code, .int .i64 R.2.1.hep, .int .i64 R.2.1.hno, .int .i64 R.2.1.body]) (i := 8) (n := 7) (listed' := #[true, true, true, true, true, true, true, true, true, false, false, true, false, false, false, false, false]) rfl (by kernel_rfl) (by kernel_rfl) (by kernel_rfl) (St.del 0 (St.del 1 (St.del 2 S74))) rfl (wn rfl) rfl rfl (fun _ _ => (y_extract rfl rfl rfl)) ?_
       refine wA_take (v := .bool R.2.2.1) (i := 9) (n := 6) (listed' := #[true, true, true, true, true, true, true, true, true, true, false, true, false, false, false, false, false]) rfl (by kernel_rfl) (by kernel_rfl) (by kernel_rfl) (St.del 0 (St.del 1 (St.del 2 S74))) rfl (wn rfl) rfl rfl (fun _ _ => (y_extract rfl rfl rfl)) ?_
       refine wA_take (v := .int .i64 R.2.2.2) (i := 10) (n := 5) (listed' := #[true, true, true, true, true, true, true, true, true, true, true, true, false, false, false, false, false]) rfl (by kernel_rfl) (by kernel_rfl) (by kernel_rfl) (St.del 0 (St.del 1 (St.del 2 S74))) rfl (wn rfl) rfl rfl (fun _ _ => (y_extract rfl rfl rfl)) ?_
       refine wA_one (n := 4) (r := 12) (by kernel_rfl) ?_
       refine wN_new (i := 12) (listed' := #[true, true, true, true, true, true, true, true, true, true, true, true, true, false, false, false, false]) rfl rfl (V := fun b => .pointer (some ⟨b, 0, none⟩)) (row := #[.int .i64 0, .int .i64 0, .int .i64 0, .int .i64 0]) (t := 93) S74 (wn rfl) rfl rfl (d_alloc rfl (Try.zeroValue93 _) rfl) ?_; intro b81 w82 S83; clear S74
       refine ⟨(St.del 0 (St.del 1 (St.del 2 (St.del 3 S83)))), ?_⟩
       refine wA_one (n := 3) (r := 13) (by kernel_rfl) ?_
       refine wN_st (i := 13) (listed' := #[true, true, true, true, true, true, true, true, true, true, true, true, true, true, false, false, false]) rfl rfl (fs' := [_, _, _, _, _, _, _, _, _, _]) 3 S83 (wn rfl) rfl rfl rfl rfl rfl rfl inf29 rfl (qRow_one rfl rfl) (Nat.le_of_ble_eq_true rfl) (setAll_all rfl) rfl ?_; intro w84 S85; clear S83
       refine ⟨(St.del 0 (St.del 1 (St.del 2 (St.del 3 S85)))), ?_⟩
       refine wA_one (n := 2) (r := 14) (by kernel_rfl) ?_
       refine wN_st (i := 14) (listed' := #[true, true, true, true, true, true, true, true, true, true, true, true, true, true, true, false, false]) rfl rfl (fs' := [_, _, _, _, _, _, _, _, _, _]) 0 S85 (wn rfl) rfl rfl rfl rfl rfl rfl inf93 rfl (oneAll rfl) (Nat.le_of_ble_eq_true rfl) (setAll_all rfl) rfl ?_; intro w86 S87; clear S85
       refine ⟨(St.del 0 (St.del 1 (St.del 2 (St.del 3 S87)))), ?_⟩
       refine wA_take (v := .bool R.2.2.1) (i := 15) (n := 1) (listed' := #[true, true, true, true, true, true, true, true, true, true, true, true, true, true, true, true, false]) rfl (by kernel_rfl) (by kernel_rfl) (by kernel_rfl) (St.del 0 (St.del 1 (St.del 2 (St.del 3 S87)))) rfl (wn rfl) rfl rfl (fun _ _ => (y_assign rfl rfl)) ?_
       refine wA_take (v := .int .i64 R.2.2.2) (i := 16) (n := 0) (listed' := #[true, true, true, true, true, true, true, true, true, true, true, true, true, true, true, true, true]) rfl (by kernel_rfl) (by kernel_rfl) (by kernel_rfl) (St.del 0 (St.del 1 (St.del 2 (St.del 3 S87)))) rfl (wn rfl) rfl rfl (fun _ _ => (y_assign rfl rfl)) ?_
       refine wA_done (by kernel_rfl) ?_
       refine wQ_sub (l' := [(0, _), (2, _), (3, _), (4, _), (5, _), (6, _), (7, _), (8, _), (9, _), (10, _), (11, _)]) ⟨rfl, rfl, rfl, rfl, rfl, rfl, rfl, rfl, rfl, rfl, rfl, trivial⟩ ?_
       have S90 : St w.heap.size w w86 [_, _, _, _, _, _, _, _, _, _] := S87.re [0, 3, 1, 2, 4, 5, 6, 7, 8, 9] (by decide); clear S87
       refine wQ_cut (b66, b81, A69, c70, A71, c72) ?_ ⟨rfl, rfl, rfl, rfl, rfl, rfl, rfl, rfl, rfl, rfl, rfl, trivial⟩
       exact S90
      ·refine wN_new (i := 12) (listed' := #[true, true, true, true, true, false, false, false, false, false, false, true, true, false, false, false, false]) rfl rfl (V := fun b => .pointer (some ⟨b, 0, none⟩)) (row := #[.int .i64 0, .int .i64 0, .int .i64 0, .int .i64 0]) (t := 93) S68 (wn rfl) rfl rfl (d_alloc rfl (Try.zeroValue93 _) rfl) ?_; intro b91 w92 S93; clear S68
       refine ⟨(St.del 0 (St.del 1 S93)), ?_⟩
       refine wA_one (n := 9) (r := 5) (by kernel_rfl) ?_
       have HD := fun A1 A2 c1 c2 w h1 h2 => QueueDone_calls Q.ep Q.nx Q.gv x19.kind x19.producer x19.id x19.body x19.hepoch x19.hno A1 A2 c1 c2 Q.ready Q.leases Q.ws w h1 h2 (by unfold reachBytes; omega) (by unfold reachBytes; omega)
       rw [show doM ⟨Q.ep, Q.nx, Q.gv, Q.ready, Q.leases, Q.ws⟩ ⟨x19.kind, x19.producer, x19.id, x19.body, x19.hepoch, x19.hno⟩ = R from hR] at HD
       refine wN_call_ (i := 5) (listed' := #[true, true, true, true, true, true, false, false, false, false, false, true, true, false, false, false, false]) rfl rfl (vs := [.agg (qRow Q.ep Q.nx Q.gv (.slice A1 Q.ready.length c1) (.slice A2 Q.leases.length c2) Q.ws), .agg #[.int .i64 x19.kind, .int .i64 x19.producer, .int .i64 x19.id, .int .i64 x19.body, .int .i64 x19.hepoch, .int .i64 x19.hno]]) (wn rfl) rfl rfl (e_call (vs := [.agg (qRow Q.ep Q.nx Q.gv (.slice A1 Q.ready.length c1) (.slice A2 Q.leases.length c2) Q.ws), .agg #[.int .i64 x19.kind, .int .i64 x19.producer, .int .i64 x19.id, .int .i64 x19.body, .int .i64 x19.hepoch, .int .i64 x19.hno]]) rfl en67 ⟨rfl, rfl, trivial⟩) (HD A1 A2 c1 c2 _ (St.rdo 2 S93 rfl) (St.rdo 3 S93 rfl)) ?_
       rintro _ w98 ⟨A94, c95, A96, c97, rfl, T100⟩
       refine ⟨_, rfl, ?_⟩
       have S99 := S93.ext T100 rfl; clear T100 S93
       change St _ _ _ [.rdo 2 A94 R.1.ready.length ((R.1.ready).flatMap Msg.cells), .rdo 4 A96 R.1.leases.length ((R.1.leases).flatMap Ls.cells), _, _, _, _, _, _, _, _] at S99; clear HD
       refine ⟨(St.del 0 (St.del 1 (St.del 2 (St.del 3 S99)))), ?_⟩
       refine wA_take (v := .tuple #[.agg (qRow R.1.ep R.1.nx R.1.gv (.slice A94 R.1.ready.length c95) (.slice A96 R.1.leases.length c97) R.1.ws), .agg #[.int .i64 R.2.1.code, .int .i64 R.2.1.hep, .int .i64 R.2.1.hno, .int .i64 R.2.1.body], .bool R.2.2.1, .int .i64 R.2.2.2]) (i := 6) (n := 8) (listed' := #[true, true, true, true, true, true, true, false, false, false, false, true, true, false, false, false, false]) rfl (by kernel_rfl) (by kernel_rfl) (by kernel_rfl) (St.del 0 (St.del 1 (St.del 2 (St.del 3 S99)))) rfl (wn rfl) rfl rfl (fun _ _ => (y_move rfl rfl)) ?_
       refine wA_take (v := .agg (qRow R.1.ep R.1.nx R.1.gv (.slice A94 R.1.ready.length c95) (.slice A96 R.1.leases.length c97) R.1.ws)) (i := 7) (n := 7) (listed' := #[true, true, true, true, true, true, true, true, false, false, false, true, true, false, false, false, false]) rfl (by kernel_rfl) (by kernel_rfl) (by kernel_rfl) (St.del 0 (St.del 1 (St.del 2 (St.del 3 S99)))) rfl (wn rfl) rfl rfl (fun _ _ => (y_extract rfl rfl rfl)) ?_
       refine wA_take (v := .agg #[.int .i64 R.2.1.code, .int .i64 R.2.1.hep, .int .i64 R.2.1.hno, .int .i64 R.2.1.body]) (i := 8) (n := 6) (listed' := #[true, true, true, true, true, true, true, true, true, false, false, true, true, false, false, false, false]) rfl (by kernel_rfl) (by kernel_rfl) (by kernel_rfl) (St.del 0 (St.del 1 (St.del 2 (St.del 3 S99)))) rfl (wn rfl) rfl rfl (fun _ _ => (y_extract rfl rfl rfl)) ?_
       refine wA_take (v := .bool R.2.2.1) (i := 9) (n := 5) (listed' := #[true, true, true, true, true, true, true, true, true, true, false, true, true, false, false, false, false]) rfl (by kernel_rfl) (by kernel_rfl) (by kernel_rfl) (St.del 0 (St.del 1 (St.del 2 (St.del 3 S99)))) rfl (wn rfl) rfl rfl (fun _ _ => (y_extract rfl rfl rfl)) ?_
       refine wA_take (v := .int .i64 R.2.2.2) (i := 10) (n := 4) (listed' := #[true, true, true, true, true, true, true, true, true, true, true, true, true, false, false, false, false]) rfl (by kernel_rfl) (by kernel_rfl) (by kernel_rfl) (St.del 0 (St.del 1 (St.del 2 (St.del 3 S99)))) rfl (wn rfl) rfl rfl (fun _ _ => (y_extract rfl rfl rfl)) ?_
       refine wA_one (n := 3) (r := 13) (by kernel_rfl) ?_
       refine wN_st (i := 13) (listed' := #[true, true, true, true, true, true, true, true, true, true, true, true, true, true, false, false, false]) rfl rfl (fs' := [_, _, _, _, _, _, _, _, _, _]) 3 S99 (wn rfl) rfl rfl rfl rfl rfl rfl inf29 rfl (qRow_one rfl rfl) (Nat.le_of_ble_eq_true rfl) (setAll_all rfl) rfl ?_; intro w106 S107; clear S99
       refine ⟨(St.del 0 (St.del 1 (St.del 2 (St.del 3 S107)))), ?_⟩
       refine wA_one (n := 2) (r := 14) (by kernel_rfl) ?_
       refine wN_st (i := 14) (listed' := #[true, true, true, true, true, true, true, true, true, true, true, true, true, true, true, false, false]) rfl rfl (fs' := [_, _, _, _, _, _, _, _, _, _]) 2 S107 (wn rfl) rfl rfl rfl rfl rfl rfl inf93 rfl (oneAll rfl) (Nat.le_of_ble_eq_true rfl) (setAll_all rfl) rfl ?_; intro w108 S109; clear S107
       refine ⟨(St.del 0 (St.del 1 (St.del 2 (St.del 3 S109)))), ?_⟩
       refine wA_take (v := .bool R.2.2.1) (i := 15) (n := 1) (listed' := #[true, true, true, true, true, true, true, true, true, true, true, true, true, true, true, true, false]) rfl (by kernel_rfl) (by kernel_rfl) (by kernel_rfl) (St.del 0 (St.del 1 (St.del 2 (St.del 3 S109)))) rfl (wn rfl) rfl rfl (fun _ _ => (y_assign rfl rfl)) ?_
       refine wA_take (v := .int .i64 R.2.2.2) (i := 16) (n := 0) (listed' := #[true, true, true, true, true, true, true, true, true, true, true, true, true, true, true, true, true]) rfl (by kernel_rfl) (by kernel_rfl) (by kernel_rfl) (St.del 0 (St.del 1 (St.del 2 (St.del 3 S109)))) rfl (wn rfl) rfl rfl (fun _ _ => (y_assign rfl rfl)) ?_
       refine wA_done (by kernel_rfl) ?_
       refine wQ_sub (l' := [(0, _), (2, _), (3, _), (4, _), (5, _), (6, _), (7, _), (8, _), (9, _), (10, _), (11, _)]) ⟨rfl, rfl, rfl, rfl, rfl, rfl, rfl, rfl, rfl, rfl, rfl, trivial⟩ ?_
       have S112 : St w.heap.size w w108 [_, _, _, _, _, _, _, _, _, _] := S109.re [2, 3, 0, 1, 4, 5, 6, 7, 8, 9] (by decide); clear S109
       refine wQ_cut (b66, b91, A94, c95, A96, c97) ?_ ⟨rfl, rfl, rfl, rfl, rfl, rfl, rfl, rfl, rfl, rfl, rfl, trivial⟩
       exact S112
     ·refine wN_new (i := 12) (listed' := #[true, true, true, true, true, false, false, false, false, false, false, false, true, false, false, false, false]) rfl rfl (V := fun b => .pointer (some ⟨b, 0, none⟩)) (row := #[.int .i64 0, .int .i64 0, .int .i64 0, .int .i64 0]) (t := 93) S23 (wn rfl) rfl rfl (d_alloc rfl (Try.zeroValue93 _) rfl) ?_; intro b113 w114 S115; clear S23
      refine ⟨(St.del 0 S115), ?_⟩
      refine wA_two (n := 10) (r := 5) (s := 11) (by kernel_rfl) ?_ ?_
      ·have HD := fun A1 A2 c1 c2 w h1 h2 => QueueDone_calls Q.ep Q.nx Q.gv x19.kind x19.producer x19.id x19.body x19.hepoch x19.hno A1 A2 c1 c2 Q.ready Q.leases Q.ws w h1 h2 (by unfold reachBytes; omega) (by unfold reachBytes; omega)
       rw [show doM ⟨Q.ep, Q.nx, Q.gv, Q.ready, Q.leases, Q.ws⟩ ⟨x19.kind, x19.producer, x19.id, x19.body, x19.hepoch, x19.hno⟩ = R from hR] at HD
       refine wN_call_ (i := 5) (listed' := #[true, true, true, true, true, true, false, false, false, false, false, false, true, false, false, false, false]) rfl rfl (vs := [.agg (qRow Q.ep Q.nx Q.gv (.slice A1 Q.ready.length c1) (.slice A2 Q.leases.length c2) Q.ws), .agg #[.int .i64 x19.kind, .int .i64 x19.producer, .int .i64 x19.id, .int .i64 x19.body, .int .i64 x19.hepoch, .int .i64 x19.hno]]) (wn rfl) rfl rfl (e_call (vs := [.agg (qRow Q.ep Q.nx Q.gv (.slice A1 Q.ready.length c1) (.slice A2 Q.leases.length c2) Q.ws), .agg #[.int .i64 x19.kind, .int .i64 x19.producer, .int .i64 x19.id, .int .i64 x19.body, .int .i64 x19.hepoch, .int .i64 x19.hno]]) rfl en67 ⟨rfl, rfl, trivial⟩) (HD A1 A2 c1 c2 _ (St.rdo 1 S115 rfl) (St.rdo 2 S115 rfl)) ?_
       rintro _ w120 ⟨A116, c117, A118, c119, rfl, T122⟩
       refine ⟨_, rfl, ?_⟩
       have S121 := S115.ext T122 rfl; clear T122 S115
       change St _ _ _ [.rdo 2 A116 R.1.ready.length ((R.1.ready).flatMap Msg.cells), .rdo 4 A118 R.1.leases.length ((R.1.leases).flatMap Ls.cells), _, _, _, _, _, _, _] at S121; clear HD
       refine ⟨(St.del 0 (St.del 1 (St.del 2 S121))), ?_⟩
       refine wA_take (v := .tuple #[.agg (qRow R.1.ep R.1.nx R.1.gv (.slice A116 R.1.ready.length c117) (.slice A118 R.1.leases.length c119) R.1.ws), .agg #[.int .i64 R.2.1.code, .int .i64 R.2.1.hep, .int .i64 R.2.1.hno, .int .i64 R.2.1.body], .bool R.2.2.1, .int .i64 R.2.2.2]) (i := 6) (n := 9) (listed' := #[true, true, true, true, true, true, true, false, false, false, false, false, true, false, false, false, false]) rfl (by kernel_rfl) (by kernel_rfl) (by kernel_rfl) (St.del 0 (St.del 1 (St.del 2 S121))) rfl (wn rfl) rfl rfl (fun _ _ => (y_move rfl rfl)) ?_
       refine wA_take (v := .agg (qRow R.1.ep R.1.nx R.1.gv (.slice A116 R.1.ready.length c117) (.slice A118 R.1.leases.length c119) R.1.ws)) (i := 7) (n := 8) (listed' := #[true, true, true, true, true, true, true, true, false, false, false, false, true, false, false, false, false]) rfl (by kernel_rfl) (by kernel_rfl) (by kernel_rfl) (St.del 0 (St.del 1 (St.del 2 S121))) rfl (wn rfl) rfl rfl (fun _ _ => (y_extract rfl rfl rfl)) ?_
       refine wA_take (v := .agg #[.int .i64 R.2.1.code, .int .i64 R.2.1.hep, .int .i64 R.2.1.hno, .int .i64 R.2.1.body]) (i := 8) (n := 7) (listed' := #[true, true, true, true, true, true, true, true, true, false, false, false, true, false, false, false, false]) rfl (by kernel_rfl) (by kernel_rfl) (by kernel_rfl) (St.del 0 (St.del 1 (St.del 2 S121))) rfl (wn rfl) rfl rfl (fun _ _ => (y_extract rfl rfl rfl)) ?_
       refine wA_take (v := .bool R.2.2.1) (i := 9) (n := 6) (listed' := #[true, true, true, true, true, true, true, true, true, true, false, false, true, false, false, false, false]) rfl (by kernel_rfl) (by kernel_rfl) (by kernel_rfl) (St.del 0 (St.del 1 (St.del 2 S121))) rfl (wn rfl) rfl rfl (fun _ _ => (y_extract rfl rfl rfl)) ?_
       refine wA_take (v := .int .i64 R.2.2.2) (i := 10) (n := 5) (listed' := #[true, true, true, true, true, true, true, true, true, true, true, false, true, false, false, false, false]) rfl (by kernel_rfl) (by kernel_rfl) (by kernel_rfl) (St.del 0 (St.del 1 (St.del 2 S121))) rfl (wn rfl) rfl rfl (fun _ _ => (y_extract rfl rfl rfl)) ?_
       refine wA_one (n := 4) (r := 11) (by kernel_rfl) ?_
       refine wN_new (i := 11) (listed' := #[true, true, true, true, true, true, true, true, true, true, true, true, true, false, false, false, false]) rfl rfl (V := fun b => .pointer (some ⟨b, 0, none⟩)) (row := qRow 0 0 0 (.slice none 0 0) (.slice none 0 0) zeroWs) (t := 29) S121 (wn rfl) rfl rfl (d_alloc rfl (Try.zeroValue29 _) rfl) ?_; intro b128 w129 S130; clear S121
       refine ⟨(St.del 0 (St.del 1 (St.del 2 (St.del 3 S130)))), ?_⟩
       refine wA_one (n := 3) (r := 13) (by kernel_rfl) ?_
       refine wN_st (i := 13) (listed' := #[true, true, true, true, true, true, true, true, true, true, true, true, true, true, false, false, false]) rfl rfl (fs' := [_, _, _, _, _, _, _, _, _, _]) 0 S130 (wn rfl) rfl rfl rfl rfl rfl rfl inf29 rfl (qRow_one rfl rfl) (Nat.le_of_ble_eq_true rfl) (setAll_all rfl) rfl ?_; intro w131 S132; clear S130
       refine ⟨(St.del 0 (St.del 1 (St.del 2 (St.del 3 S132)))), ?_⟩
       refine wA_one (n := 2) (r := 14) (by kernel_rfl) ?_
       refine wN_st (i := 14) (listed' := #[true, true, true, true, true, true, true, true, true, true, true, true, true, true, true, false, false]) rfl rfl (fs' := [_, _, _, _, _, _, _, _, _, _]) 3 S132 (wn rfl) rfl rfl rfl rfl rfl rfl inf93 rfl (oneAll rfl) (Nat.le_of_ble_eq_true rfl) (setAll_all rfl) rfl ?_; intro w133 S134; clear S132
       refine ⟨(St.del 0 (St.del 1 (St.del 2 (St.del 3 S134)))), ?_⟩
       refine wA_take (v := .bool R.2.2.1) (i := 15) (n := 1) (listed' := #[true, true, true, true, true, true, true, true, true, true, true, true, true, true, true, true, false]) rfl (by kernel_rfl) (by kernel_rfl) (by kernel_rfl) (St.del 0 (St.del 1 (St.del 2 (St.del 3 S134)))) rfl (wn rfl) rfl rfl (fun _ _ => (y_assign rfl rfl)) ?_
       refine wA_take (v := .int .i64 R.2.2.2) (i := 16) (n := 0) (listed' := #[true, true, true, true, true, true, true, true, true, true, true, true, true, true, true, true, true]) rfl (by kernel_rfl) (by kernel_rfl) (by kernel_rfl) (St.del 0 (St.del 1 (St.del 2 (St.del 3 S134)))) rfl (wn rfl) rfl rfl (fun _ _ => (y_assign rfl rfl)) ?_
       refine wA_done (by kernel_rfl) ?_
       refine wQ_sub (l' := [(0, _), (2, _), (3, _), (4, _), (5, _), (6, _), (7, _), (9, _), (8, _), (10, _), (11, _)]) ⟨rfl, rfl, rfl, rfl, rfl, rfl, rfl, rfl, rfl, rfl, rfl, trivial⟩ ?_
       have S137 : St w.heap.size w w133 [_, _, _, _, _, _, _, _, _, _] := S134.re [3, 0, 1, 2, 4, 5, 6, 7, 8, 9] (by decide); clear S134
       refine wQ_cut (b128, b113, A116, c117, A118, c119) ?_ ⟨rfl, rfl, rfl, rfl, rfl, rfl, rfl, rfl, rfl, rfl, rfl, trivial⟩
       exact S137
      ·refine wN_new (i := 11) (listed' := #[true, true, true, true, true, false, false, false, false, false, false, true, true, false, false, false, false]) rfl rfl (V := fun b => .pointer (some ⟨b, 0, none⟩)) (row := qRow 0 0 0 (.slice none 0 0) (.slice none 0 0) zeroWs) (t := 29) S115 (wn rfl) rfl rfl (d_alloc rfl (Try.zeroValue29 _) rfl) ?_; intro b138 w139 S140; clear S115
       refine ⟨(St.del 0 (St.del 1 S140)), ?_⟩
       refine wA_one (n := 9) (r := 5) (by kernel_rfl) ?_
       have HD := fun A1 A2 c1 c2 w h1 h2 => QueueDone_calls Q.ep Q.nx Q.gv x19.kind x19.producer x19.id x19.body x19.hepoch x19.hno A1 A2 c1 c2 Q.ready Q.leases Q.ws w h1 h2 (by unfold reachBytes; omega) (by unfold reachBytes; omega)
       rw [show doM ⟨Q.ep, Q.nx, Q.gv, Q.ready, Q.leases, Q.ws⟩ ⟨x19.kind, x19.producer, x19.id, x19.body, x19.hepoch, x19.hno⟩ = R from hR] at HD
       refine wN_call_ (i := 5) (listed' := #[true, true, true, true, true, true, false, false, false, false, false, true, true, false, false, false, false]) rfl rfl (vs := [.agg (qRow Q.ep Q.nx Q.gv (.slice A1 Q.ready.length c1) (.slice A2 Q.leases.length c2) Q.ws), .agg #[.int .i64 x19.kind, .int .i64 x19.producer, .int .i64 x19.id, .int .i64 x19.body, .int .i64 x19.hepoch, .int .i64 x19.hno]]) (wn rfl) rfl rfl (e_call (vs := [.agg (qRow Q.ep Q.nx Q.gv (.slice A1 Q.ready.length c1) (.slice A2 Q.leases.length c2) Q.ws), .agg #[.int .i64 x19.kind, .int .i64 x19.producer, .int .i64 x19.id, .int .i64 x19.body, .int .i64 x19.hepoch, .int .i64 x19.hno]]) rfl en67 ⟨rfl, rfl, trivial⟩) (HD A1 A2 c1 c2 _ (St.rdo 2 S140 rfl) (St.rdo 3 S140 rfl)) ?_
       rintro _ w145 ⟨A141, c142, A143, c144, rfl, T147⟩
       refine ⟨_, rfl, ?_⟩
       have S146 := S140.ext T147 rfl; clear T147 S140
       change St _ _ _ [.rdo 2 A141 R.1.ready.length ((R.1.ready).flatMap Msg.cells), .rdo 4 A143 R.1.leases.length ((R.1.leases).flatMap Ls.cells), _, _, _, _, _, _, _, _] at S146; clear HD
       refine ⟨(St.del 0 (St.del 1 (St.del 2 (St.del 3 S146)))), ?_⟩
       refine wA_take (v := .tuple #[.agg (qRow R.1.ep R.1.nx R.1.gv (.slice A141 R.1.ready.length c142) (.slice A143 R.1.leases.length c144) R.1.ws), .agg #[.int .i64 R.2.1.code, .int .i64 R.2.1.hep, .int .i64 R.2.1.hno, .int .i64 R.2.1.body], .bool R.2.2.1, .int .i64 R.2.2.2]) (i := 6) (n := 8) (listed' := #[true, true, true, true, true, true, true, false, false, false, false, true, true, false, false, false, false]) rfl (by kernel_rfl) (by kernel_rfl) (by kernel_rfl) (St.del 0 (St.del 1 (St.del 2 (St.del 3 S146)))) rfl (wn rfl) rfl rfl (fun _ _ => (y_move rfl rfl)) ?_
       refine wA_take (v := .agg (qRow R.1.ep R.1.nx R.1.gv (.slice A141 R.1.ready.length c142) (.slice A143 R.1.leases.length c144) R.1.ws)) (i := 7) (n := 7) (listed' := #[true, true, true, true, true, true, true, true, false, false, false, true, true, false, false, false, false]) rfl (by kernel_rfl) (by kernel_rfl) (by kernel_rfl) (St.del 0 (St.del 1 (St.del 2 (St.del 3 S146)))) rfl (wn rfl) rfl rfl (fun _ _ => (y_extract rfl rfl rfl)) ?_
       refine wA_take (v := .agg #[.int .i64 R.2.1.code, .int .i64 R.2.1.hep, .int .i64 R.2.1.hno, .int .i64 R.2.1.body]) (i := 8) (n := 6) (listed' := #[true, true, true, true, true, true, true, true, true, false, false, true, true, false, false, false, false]) rfl (by kernel_rfl) (by kernel_rfl) (by kernel_rfl) (St.del 0 (St.del 1 (St.del 2 (St.del 3 S146)))) rfl (wn rfl) rfl rfl (fun _ _ => (y_extract rfl rfl rfl)) ?_
       refine wA_take (v := .bool R.2.2.1) (i := 9) (n := 5) (listed' := #[true, true, true, true, true, true, true, true, true, true, false, true, true, false, false, false, false]) rfl (by kernel_rfl) (by kernel_rfl) (by kernel_rfl) (St.del 0 (St.del 1 (St.del 2 (St.del 3 S146)))) rfl (wn rfl) rfl rfl (fun _ _ => (y_extract rfl rfl rfl)) ?_
       refine wA_take (v := .int .i64 R.2.2.2) (i := 10) (n := 4) (listed' := #[true, true, true, true, true, true, true, true, true, true, true, true, true, false, false, false, false]) rfl (by kernel_rfl) (by kernel_rfl) (by kernel_rfl) (St.del 0 (St.del 1 (St.del 2 (St.del 3 S146)))) rfl (wn rfl) rfl rfl (fun _ _ => (y_extract rfl rfl rfl)) ?_
       refine wA_one (n := 3) (r := 13) (by kernel_rfl) ?_
       refine wN_st (i := 13) (listed' := #[true, true, true, true, true, true, true, true, true, true, true, true, true, true, false, false, false]) rfl rfl (fs' := [_, _, _, _, _, _, _, _, _, _]) 2 S146 (wn rfl) rfl rfl rfl rfl rfl rfl inf29 rfl (qRow_one rfl rfl) (Nat.le_of_ble_eq_true rfl) (setAll_all rfl) rfl ?_; intro w153 S154; clear S146
       refine ⟨(St.del 0 (St.del 1 (St.del 2 (St.del 3 S154)))), ?_⟩
       refine wA_one (n := 2) (r := 14) (by kernel_rfl) ?_
       refine wN_st (i := 14) (listed' := #[true, true, true, true, true, true, true, true, true, true, true, true, true, true, true, false, false]) rfl rfl (fs' := [_, _, _, _, _, _, _, _, _, _]) 3 S154 (wn rfl) rfl rfl rfl rfl rfl rfl inf93 rfl (oneAll rfl) (Nat.le_of_ble_eq_true rfl) (setAll_all rfl) rfl ?_; intro w155 S156; clear S154
       refine ⟨(St.del 0 (St.del 1 (St.del 2 (St.del 3 S156)))), ?_⟩
       refine wA_take (v := .bool R.2.2.1) (i := 15) (n := 1) (listed' := #[true, true, true, true, true, true, true, true, true, true, true, true, true, true, true, true, false]) rfl (by kernel_rfl) (by kernel_rfl) (by kernel_rfl) (St.del 0 (St.del 1 (St.del 2 (St.del 3 S156)))) rfl (wn rfl) rfl rfl (fun _ _ => (y_assign rfl rfl)) ?_
       refine wA_take (v := .int .i64 R.2.2.2) (i := 16) (n := 0) (listed' := #[true, true, true, true, true, true, true, true, true, true, true, true, true, true, true, true, true]) rfl (by kernel_rfl) (by kernel_rfl) (by kernel_rfl) (St.del 0 (St.del 1 (St.del 2 (St.del 3 S156)))) rfl (wn rfl) rfl rfl (fun _ _ => (y_assign rfl rfl)) ?_
       refine wA_done (by kernel_rfl) ?_
       refine wQ_sub (l' := [(0, _), (2, _), (3, _), (4, _), (5, _), (6, _), (7, _), (9, _), (8, _), (10, _), (11, _)]) ⟨rfl, rfl, rfl, rfl, rfl, rfl, rfl, rfl, rfl, rfl, rfl, trivial⟩ ?_
       have S159 : St w.heap.size w w155 [_, _, _, _, _, _, _, _, _, _] := S156.re [3, 2, 0, 1, 4, 5, 6, 7, 8, 9] (by decide); clear S156
       refine wQ_cut (b138, b113, A141, c142, A143, c144) ?_ ⟨rfl, rfl, rfl, rfl, rfl, rfl, rfl, rfl, rfl, rfl, rfl, trivial⟩
       exact S159
    ·rintro ⟨b160, b161, A162, c163, A164, c165⟩ w166 S167
     try dsimp only at S167; clear S13
     refine wC_sub (l' := [(0, .slice (some ⟨b21, o22, none⟩) l.length c), (2, .pointer (some ⟨b1, 0, none⟩)), (3, .slice none 0 0), (4, .int .i64 0), (5, .pointer (some ⟨b8, 0, none⟩)), (6, .slice A3 k c3), (7, .int .i64 ((k : Nat) : Int)), (8, .pointer (some ⟨b160, 0, none⟩)), (9, .pointer (some ⟨b161, 0, none⟩)), (10, .bool R.2.2.1), (11, .int .i64 R.2.2.2)]) ⟨rfl, rfl, rfl, rfl, rfl, rfl, rfl, rfl, rfl, rfl, rfl, trivial⟩ (wC_seq (wC_seq (wC_region (wL_val (wn rfl) rfl rfl (y_move rfl rfl) ?_))))
     by_cases h1 : R.2.2.2 = 0
     ·refine wL_val (v := .bool false) (wn rfl) rfl rfl (y_binop rfl rfl rfl (r_neq_f h1)) ?_
      refine wL_val (wn rfl) rfl rfl (y_move rfl rfl) ?_
      refine wL_val (wg rfl rfl rfl rfl) rfl rfl (y_move rfl rfl) ?_
      cases h2 : R.2.2.1
      ·refine wL_val (v := .bool true) (wg rfl rfl rfl rfl) rfl rfl (y_unop rfl rfl r_not) ?_
       refine wL_val (wn rfl) rfl rfl (y_pick_f rfl rfl rfl) ?_
       refine wL_nil (wQ_sub (l' := [(0, _), (2, _), (3, _), (4, _), (5, _), (6, _), (7, _), (8, _), (9, _), (38, _)]) ⟨rfl, rfl, rfl, rfl, rfl, rfl, rfl, rfl, rfl, rfl, trivial⟩ (wQ_then (wC_cond_t rfl (wC_seq (wC_region (wL_val (v := .agg (qRow 0 0 0 (.slice none 0 0) (.slice none 0 0) zeroWs)) (wn rfl) rfl rfl (y_build (vs := []) rfl trivial (by kernel_rfl)) ?_))))))
       refine wL_st (fs' := [_, _, _, _, _, _, _, _, _, _]) 8 S167 (wn rfl) rfl rfl rfl rfl rfl rfl inf29 rfl (qRow_one rfl rfl) (Nat.le_of_ble_eq_true rfl) (setAll_all rfl) rfl ?_; intro w168 S169; clear S167
       refine wL_val (wn rfl) rfl rfl (y_assign rfl rfl) ?_
       refine wL_val (wn rfl) rfl rfl (y_assign rfl rfl) ?_
       refine wL_nil (wQ_sub (l' := [(2, _), (3, _), (4, _)]) ⟨rfl, rfl, rfl, trivial⟩ (wQ_then (wC_ret (wQ_then_ret (wQ_blk_ret (wQ_then_ret (wQ_then_ret (wQ_blk_ret (wQ_then_ret (wQ_post (rs := [.cell 2 29, .tmp 3, .tmp 4]) (vs := [.agg (qRow 0 0 0 (.slice none 0 0) (.slice none 0 0) zeroWs), .slice none 0 0, .int .i64 3]) rfl ⟨⟨_, rfl, res_row 8 S169 rfl Try.underlying29 rfl inf29⟩, rfl, rfl, trivial⟩ ?_))))))))))
       rw [tellM_no (by omega) (by rw [hi15]; exact tellGo_stop hx20 (by rw [hR]; exact fun h => by rw [h2] at h; exact absurd h.2 (by simp)))]
       have S170 : St w.heap.size w w168 [] := (St.del 0 (St.del 1 (St.del 2 (St.del 3 (St.del 4 (St.del 5 (St.del 6 (St.del 7 (St.del 8 (St.del 9 S169)))))))))); clear S169
       exact ⟨none, 0, none, 0, none, 0, rfl, rdo_nil (rdo_nil (rdo_nil S170))⟩
      ·refine wL_val (v := .bool false) (wg rfl rfl rfl rfl) rfl rfl (y_unop rfl rfl r_not) ?_
       refine wL_val (wn rfl) rfl rfl (y_pick_f rfl rfl rfl) ?_
       refine wL_nil (wQ_sub (l' := [(0, _), (2, _), (3, _), (4, _), (5, _), (6, _), (7, _), (8, _), (9, _), (38, _)]) ⟨rfl, rfl, rfl, rfl, rfl, rfl, rfl, rfl, rfl, rfl, trivial⟩ (wQ_then (wC_cond_f rfl (wC_skip (wQ_then (wC_seq (wC_region (wL_val (wn rfl) rfl rfl (y_load rfl rfl (r_load_row 1 S167 rfl Try.underlying29 rfl inf29 rfl)) ?_))))))))
       refine wL_st (fs' := [_, _, _, _, _, _, _, _, _, _]) 7 S167 (wn rfl) rfl rfl rfl rfl rfl rfl inf29 rfl (qRow_one rfl rfl) (Nat.le_of_ble_eq_true rfl) (setAll_all rfl) rfl ?_; intro w171 S172; clear S167
       refine wL_nil (wQ_sub (l' := [(0, _), (2, _), (3, _), (4, _), (5, _), (6, _), (7, _), (9, _)]) ⟨rfl, rfl, rfl, rfl, rfl, rfl, rfl, rfl, trivial⟩ (wQ_then (wC_region (wL_val (wn rfl) rfl rfl (y_move rfl rfl) ?_))))
       refine wL_val (wn rfl) rfl rfl (y_load rfl rfl (r_load_row 0 S172 rfl Try.underlying93 rfl inf93 rfl)) ?_
       refine wL_new (V := fun b => .slice (some ⟨b, 0, none⟩) 1 1) (row := #[.int .i64 R.2.1.code, .int .i64 R.2.1.hep, .int .i64 R.2.1.hno, .int .i64 R.2.1.body]) (t := 93) S172 (wn rfl) rfl rfl (d_buildSlice (vs := [(0, .agg #[.int .i64 R.2.1.code, .int .i64 R.2.1.hep, .int .i64 R.2.1.hno, .int .i64 R.2.1.body])]) rfl ⟨rfl, rfl, trivial⟩ (by kernel_rfl)) ?_; intro b173 w174 S175; clear S172
       refine wL_append (news := [.int .i64 R.2.1.code, .int .i64 R.2.1.hep, .int .i64 R.2.1.hno, .int .i64 R.2.1.body]) (xs' := (an ++ [R.2.1]).flatMap Ans.cells) 7 S175 (wn rfl) rfl rfl rfl rfl rfl rfl (St.bld (xs := [.int .i64 R.2.1.code, .int .i64 R.2.1.hep, .int .i64 R.2.1.hno, .int .i64 R.2.1.body]) 0 S175 rfl rfl rfl) Try.underlying103 infz93 rfl (by decide) (oneAll rfl) (by simp only [maxLen]; omega) (by omega) (fm_snoc (enc := Ans.cells) rfl rfl) ?_; intro A176 c177 w178 hc180 hm181 S179; clear S175
       change St _ _ _ [_, _, _, _, _, _, _, .own 93 4 (.slice A176 (k + 1) c177) (k + 1) ((an ++ [R.2.1]).flatMap Ans.cells), _, _, _] at S179
       refine wL_val (wn rfl) rfl rfl (y_assign rfl rfl) ?_
       refine wL_nil (wQ_sub (l' := [(0, _), (2, _), (3, _), (4, _), (5, _), (6, _), (7, _)]) ⟨rfl, rfl, rfl, rfl, rfl, rfl, rfl, trivial⟩ (wQ_blk_n (wQ_then (wC_region (wL_val (wn rfl) rfl rfl (y_move rfl rfl) ?_)))))
       refine wL_val (v := .int .i64 ((k + 1 : Nat) : Int)) (wn rfl) rfl rfl (y_binop rfl rfl rfl (r_add (by omega) (by omega))) ?_
       refine wL_val (wn rfl) rfl rfl (y_assign rfl rfl) ?_
       refine wL_nil (wQ_sub (l' := [(0, _), (2, _), (3, _), (4, _), (5, _), (6, _), (7, _)]) ⟨rfl, rfl, rfl, rfl, rfl, rfl, rfl, trivial⟩ ?_)
       have S182 : St w.heap.size w w178 [_, _, _, _, _, _] := S179.re [3, 4, 7, 8, 9, 10] (by decide); clear S179
       refine wQ_round (k + 1, R.1, an ++ [R.2.1], A162, c163, A164, c165, A176, c177) ?_ ⟨rfl, rfl, rfl, rfl, rfl, rfl, rfl, trivial⟩ (by first | omega | (dsimp only; omega))
       exact ⟨(by dsimp only; omega), (by dsimp only; rw [hi15, tellGo_step hx20 (by rw [hR]; exact h1) (by rw [hR]; exact h2), hR]), by dsimp only; exact hR ▸ do_len (by rw [hR]; exact h1), (by dsimp only; rw [List.length_append, hi17]; rfl), S182⟩
     ·refine wL_val (v := .bool true) (wn rfl) rfl rfl (y_binop rfl rfl rfl (r_neq_t h1)) ?_
      refine wL_val (wn rfl) rfl rfl (y_move rfl rfl) ?_
      refine wL_skip (wg rfl rfl rfl rfl) rfl rfl ?_
      refine wL_skip (wg rfl rfl rfl rfl) rfl rfl ?_
      refine wL_val (wn rfl) rfl rfl (y_pick_t rfl rfl rfl) ?_
      refine wL_nil (wQ_sub (l' := [(0, _), (2, _), (3, _), (4, _), (5, _), (6, _), (7, _), (8, _), (9, _), (38, _)]) ⟨rfl, rfl, rfl, rfl, rfl, rfl, rfl, rfl, rfl, rfl, trivial⟩ (wQ_then (wC_cond_t rfl (wC_seq (wC_region (wL_val (v := .agg (qRow 0 0 0 (.slice none 0 0) (.slice none 0 0) zeroWs)) (wn rfl) rfl rfl (y_build (vs := []) rfl trivial (by kernel_rfl)) ?_))))))
      refine wL_st (fs' := [_, _, _, _, _, _, _, _, _, _]) 8 S167 (wn rfl) rfl rfl rfl rfl rfl rfl inf29 rfl (qRow_one rfl rfl) (Nat.le_of_ble_eq_true rfl) (setAll_all rfl) rfl ?_; intro w183 S184; clear S167
      refine wL_val (wn rfl) rfl rfl (y_assign rfl rfl) ?_
      refine wL_val (wn rfl) rfl rfl (y_assign rfl rfl) ?_
      refine wL_nil (wQ_sub (l' := [(2, _), (3, _), (4, _)]) ⟨rfl, rfl, rfl, trivial⟩ (wQ_then (wC_ret (wQ_then_ret (wQ_blk_ret (wQ_then_ret (wQ_then_ret (wQ_blk_ret (wQ_then_ret (wQ_post (rs := [.cell 2 29, .tmp 3, .tmp 4]) (vs := [.agg (qRow 0 0 0 (.slice none 0 0) (.slice none 0 0) zeroWs), .slice none 0 0, .int .i64 3]) rfl ⟨⟨_, rfl, res_row 8 S184 rfl Try.underlying29 rfl inf29⟩, rfl, rfl, trivial⟩ ?_))))))))))
      rw [tellM_no (by omega) (by rw [hi15]; exact tellGo_stop hx20 (by rw [hR]; exact fun h => h1 h.1))]
      have S185 : St w.heap.size w w183 [] := (St.del 0 (St.del 1 (St.del 2 (St.del 3 (St.del 4 (St.del 5 (St.del 6 (St.del 7 (St.del 8 (St.del 9 S184)))))))))); clear S184
      exact ⟨none, 0, none, 0, none, 0, rfl, rdo_nil (rdo_nil (rdo_nil S185))⟩
   ·refine wL_val (v := .bool false) (wn rfl) rfl rfl (y_binop rfl rfl rfl (r_lss_f h18)) ?_
    refine wL_nil (wQ_sub (l' := [(0, _), (2, _), (3, _), (4, _), (5, _), (6, _), (7, _), (19, _)]) ⟨rfl, rfl, rfl, rfl, rfl, rfl, rfl, rfl, trivial⟩ (wQ_then (wC_cond_f rfl (wC_exit (wQ_then_exit (wQ_then_exit (wQ_blk_same (wQ_then (wC_seq (wC_region (wL_val (wn rfl) rfl rfl (y_load rfl rfl (r_load_row 3 S13 rfl Try.underlying29 rfl inf29 rfl)) ?_)))))))))))
    refine wL_val (wn rfl) rfl rfl (y_move rfl rfl) ?_
    refine wL_st (fs' := [_, _, _, _, _, _]) 4 S13 (wn rfl) rfl rfl rfl rfl rfl rfl inf29 rfl (qRow_one rfl rfl) (Nat.le_of_ble_eq_true rfl) (setAll_all rfl) rfl ?_; intro w186 S187; clear S13
    refine wL_val (wn rfl) rfl rfl (y_assign rfl rfl) ?_
    refine wL_val (wn rfl) rfl rfl (y_assign rfl rfl) ?_
    refine wL_nil (wQ_sub (l' := [(2, _), (3, _), (4, _)]) ⟨rfl, rfl, rfl, trivial⟩ (wQ_then (wC_ret (wQ_post (rs := [.cell 2 29, .tmp 3, .tmp 4]) (vs := [.agg (qRow Q.ep Q.nx Q.gv (.slice A1 Q.ready.length c1) (.slice A2 Q.leases.length c2) Q.ws), .slice A3 k c3, .int .i64 0]) rfl ⟨⟨_, rfl, res_row 4 S187 rfl Try.underlying29 rfl inf29⟩, rfl, rfl, trivial⟩ ?_))))
    have S188 : St w.heap.size w w186 [_, _, _] := S187.re [0, 1, 2] (by decide); clear S187
    have S189 := S188.sealAll 2 rfl; clear S188
    change St _ _ _ [_, _, .rdo 4 A3 k ((an).flatMap Ans.cells)] at S189
    obtain rfl := hi17
    rw [tellM_ok (r := (Q, an)) (by omega) (by rw [hi15]; exact tellGo_end (by omega))]
    exact ⟨A1, c1, A2, c2, A3, c3, rfl, S189⟩

end Go.Proofs.Ytkjlafpafmihaaa

