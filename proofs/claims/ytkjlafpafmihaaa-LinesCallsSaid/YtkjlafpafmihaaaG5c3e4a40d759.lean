/- Parts of proofs: lemmas on memory, on single functions and on the plain models; no condition of their own. -/
import Derived.Test.YtkjlafpafmihaaaRows
import Derived.WalkKit
import Derived.ProofKit
import Derived.OpenShut
import Derived.SizedLaws
import Derived.WalkSpells
import Derived.WalkLawsBesides
import Derived.Handy
import Derived.Deep.QuietTactic
import Derived.BigQuiet
import Derived.Lib.Hide
import Derived.Maps.AppendAt
import Derived.Deep.AppendLies
import Derived.RegionTactic
import Derived.OwnWalk
import Derived.Laws.Tables
import Derived.Deep.MidRow
import Derived.StillTailTactics
import Derived.OrdersHeld
import Derived.Deep.RegionHeld3
import Derived.Laws.IdiomCopy
import Derived.ChangeKeysEq
import Derived.Laws.BitsAllLaws
import Derived.Deep.DeepCutAuto
import Derived.Deep.CutRange
import Derived.Scope
import Derived.Shelf.SlSortCmp.WholeK
import Derived.Shelf.SlSortCmp.NoneTotal
import Derived.Shelf.SlicesG.Cmp
import Derived.Shelf.SlGeneric
import Derived.Ground.SlsfProg
import Derived.Ground.SlgcProg
import Derived.Maps.OwnSet
import Derived.Lib.SliceRun
import Derived.Deep.RegionLaw
import Derived.Test.YtkjlafpafmihaaaG102d53fcab1e
import Derived.Test.YtkjlafpafmihaaaG106a6d0673e2
import Derived.Test.YtkjlafpafmihaaaG191435b3f518
import Derived.Test.YtkjlafpafmihaaaG2304bc9cabd8
import Derived.Test.YtkjlafpafmihaaaG2345edf4eaef
import Derived.Test.YtkjlafpafmihaaaG32e02c1e1d9b
import Derived.Test.YtkjlafpafmihaaaG3389e63a8858
import Derived.Test.YtkjlafpafmihaaaG37e7b647d51a
import Derived.Test.YtkjlafpafmihaaaG5048191d089e
import Derived.Test.YtkjlafpafmihaaaG6143c69656b1
import Derived.Test.YtkjlafpafmihaaaG6f4fec0f3fed
import Derived.Test.YtkjlafpafmihaaaG878ee676a6ad
import Derived.Test.YtkjlafpafmihaaaG8da0aee0f1a5
import Derived.Test.YtkjlafpafmihaaaG977ff9568a39
import Derived.Test.YtkjlafpafmihaaaGa1b4b7d9fd42
import Derived.Test.YtkjlafpafmihaaaGa54395e311fb
import Derived.Test.YtkjlafpafmihaaaGaa2045d604a6
import Derived.Test.YtkjlafpafmihaaaGaa2c3092d2b5
import Derived.Test.YtkjlafpafmihaaaGbd4cc4649efe
import Derived.Test.YtkjlafpafmihaaaGe29d7414e059
import Derived.Test.YtkjlafpafmihaaaGe8bce0846ba6
set_option linter.unusedVariables false
set_option linter.unusedSimpArgs false

namespace Go.Proofs.Ytkjlafpafmihaaa
open Go.ChangeShapes Go.WideShapes Go.RowKit

theorem acs_one (l : List Ac) : ∀ u ∈ l.flatMap Ac.cells, u.oneCell' = true := by
  intro u hu
  rw [List.mem_flatMap] at hu
  obtain ⟨z, _, hz⟩ := hu
  simp [Ac.cells] at hz
  rcases hz with rfl | rfl | rfl | rfl | rfl | rfl | rfl | rfl | rfl | rfl | rfl <;> rfl
def callsGo : List Ac → Nat → Int × Int
  | [], n => (n, 0)
  | x :: xs, n => if actFault x ≠ 0 then (0, actFault x) else callsGo xs (if x.kd = 2 then n + 1 else n)
section
variable {l : List Ac} {k n : Nat} {x : Ac}
theorem drop_con2 {α : Type} {l : List α} {k : Nat} {x : α} (h : l[k]? = some x) : l.drop k = x :: l.drop (k + 1) := by
  obtain ⟨hk, rfl⟩ := List.getElem?_eq_some_iff.1 h
  exact List.drop_eq_getElem_cons hk
theorem calls_bad (h : l[k]? = some x) (hf : ¬ actFault x = 0) : callsGo (l.drop k) n = (0, actFault x) := by rw [drop_con2 h, callsGo, if_pos hf]
theorem calls_yes (h : l[k]? = some x) (hf : actFault x = 0) (hk : x.kd = 2) : callsGo (l.drop k) n = callsGo (l.drop (k + 1)) (n + 1) := by rw [drop_con2 h, callsGo, if_neg (by simp [hf]), if_pos hk]
theorem calls_no (h : l[k]? = some x) (hf : actFault x = 0) (hk : ¬ x.kd = 2) : callsGo (l.drop k) n = callsGo (l.drop (k + 1)) n := by rw [drop_con2 h, callsGo, if_neg (by simp [hf]), if_neg hk]
theorem calls_end (h : l.length ≤ k) : callsGo (l.drop k) n = ((n : Int), 0) := by rw [List.drop_of_length_le h, callsGo]
end
theorem af_ev {x : Ac} (h : actFault x = 0) (hk : x.kd = 2) : evFault ⟨x.ek, x.ep, x.ei, x.eb, x.eh, x.en⟩ = 0 := by
  obtain ⟨kd, nd, qu, at_, kp, ek, ep, ei, eb, eh, en⟩ := x
  dsimp only at hk
  subst hk
  rcases kinds 2 ek with h1 | h1 | h1 | h1 | h1 | h1 | h1 | h1 | h1 | ⟨_, rfl⟩ | ⟨_, rfl⟩ | ⟨_, rfl⟩ | hn
  all_goals first | (cases h1; done) | (simp [actFault, formL, inB, Ac.get, Ac.ints, fin, zer, zeros] at h; simp [evFault, inR]; omega) | (unfold actFault at h; dsimp only at h; rw [hn] at h; cases h)
def CallsPost (w : World) (r : Int × Int) (e : Ending) (w' : World) : Prop := e = .returned (.tuple #[.int .i64 r.1, .int .i64 r.2]) ∧ Below w.heap.size w w'
def ActsPost (w : World) (l : List Ac) (e : Ending) (w' : World) : Prop := ∃ A c, e = .returned (.slice A l.length c) ∧ St w.heap.size w w' [.rdo 11 A l.length (l.flatMap Ac.cells)]

set_option maxRecDepth 100000 in
set_option maxHeartbeats 2000000 in
theorem asks_calls (x : Ac) (h0 : actFault x = 0) (w : World) :
    Calls Try.prog 135 #[.agg #[.int .i64 x.kd, .int .i64 x.nd, .int .i64 x.qu, .int .i64 x.at_, .int .i64 x.kp, .int .i64 x.ek, .int .i64 x.ep, .int .i64 x.ei, .int .i64 x.eb, .int .i64 x.eh, .int .i64 x.en]] w (BoolB w (decide (x.kd = 2))) := by
 have S := St.start w
 refine fnw 12 Try.func135 ?_
 refine cw [0] ?_
 refine x_sr (nb (row := #[.int .i64 x.kd, .int .i64 x.nd, .int .i64 x.qu, .int .i64 x.at_, .int .i64 x.kp, .int .i64 x.ek, .int .i64 x.ep, .int .i64 x.ei, .int .i64 x.eb, .int .i64 x.eh, .int .i64 x.en]) S ?_); intro b1 w2 S3; clear S
 refine va ?_
 refine qk [1, 2] ?_
 refine x_tsr (vv (yfa 0 fa39_0) ?_)
 refine vv (ylc 0 S3 Try.underlying3) ?_
 by_cases h4 : x.kd = 2
 ·refine vv (yeqlT h4) ?_
  refine vm ?_
  refine vg (yfa 5 fa39_5) ?_
  refine vg (y_load rfl rfl (r_load_agg (cs := [.int .i64 x.ek, .int .i64 x.ep, .int .i64 x.ei, .int .i64 x.eb, .int .i64 x.eh, .int .i64 x.en]) Try.underlying37 rfl inf37 rfl (St.rg 0 S3 rfl (sub_row (x := 5) (m := 6) rfl)))) ?_
  have HE := fun w => Check_below ⟨x.ek, x.ep, x.ei, x.eb, x.eh, x.en⟩ w
  rw [af_ev h0 h4] at HE
  refine calg en142 (HE _) ?_
  rintro _ w5 ⟨rfl, hb7⟩
  refine ⟨_, rfl, ?_⟩
  have S6 := S3.on hb7; clear hb7 S3
  refine vg deqlT ?_
  refine vv ypT ?_
  refine va ?_
  refine qk [2] ?_
  refine x_te (pt ?_)
  rw [decide_eq_true h4]
  exact ⟨rfl, S6.low⟩
 ·refine vv (yeqlF h4) ?_
  refine vm ?_
  iterate 4 refine vs ?_
  refine vv ypF ?_
  refine va ?_
  refine qk [2] ?_
  refine x_te (pt ?_)
  rw [decide_eq_false h4]
  exact ⟨rfl, S3.low⟩

set_option maxRecDepth 100000 in
set_option maxHeartbeats 4000000 in
theorem LCalls_calls (A : Option Addr) (c : Nat) (l : List Ac) (w : World) (h : Rd w w.heap.size 11 A l.length (l.flatMap Ac.cells)) (hb : l.length * 88 ≤ reachBytes) :
    Calls Try.prog 54 #[.slice A l.length c] w (CallsPost w (callsGo l 0)) := by
 have S := (St.start w).addRd h; clear h
 have hb2 := hb
 unfold reachBytes at hb2
 refine fnw 25 Try.func54 ?_
 refine cw [0] ?_
 refine x_sr (va ?_)
 refine va ?_
 refine wL_nil (wQ_then (wC_seq (wC_region (va ?_))))
 refine wL_nil (wQ_then (wC_seq (wC_seq (wC_region (vm ?_)))))
 refine vv (v := .int .i64 ((l.length : Nat) : Int)) (y_builtin (vs := [.slice A l.length c]) rfl ⟨rfl, trivial⟩ fun _ => r_len rfl Try.underlying74) ?_
 refine vm ?_
 refine qk [2, 3, 4, 8, 9, 10] ?_
 refine wQ_then (wC_block (wC_loop (X := Nat × Nat) (fun xv => [(2, .int .i64 0), (3, .int .i64 0), (8, .slice A l.length c), (9, .int .i64 ((l.length : Nat) : Int)), (10, .int .i64 ((xv.1 : Nat) : Int)), (4, .int .i64 ((xv.2 : Nat) : Int))]) (fun xv wr => (xv.1 ≤ l.length) ∧ (callsGo l 0 = callsGo (l.drop xv.1) xv.2) ∧ (xv.2 ≤ xv.1) ∧ St w.heap.size w wr [.rd 11 A l.length ((l).flatMap Ac.cells)]) (fun xv => l.length - xv.1) (0, 0) ?_ ?_ ?_))
 ·exact ⟨Nat.zero_le _, rfl, Nat.le_refl _, S⟩
 ·exact ⟨rfl, rfl, rfl, rfl, rfl, rfl, trivial⟩
 ·rintro ⟨k, n⟩ w1 ⟨hi3, hi4, hi5, S2⟩
  try dsimp only at hi3 hi4 hi5 S2; clear S
  refine wC_sub (l' := [(2, .int .i64 0), (3, .int .i64 0), (8, .slice A l.length c), (9, .int .i64 ((l.length : Nat) : Int)), (10, .int .i64 ((k : Nat) : Int)), (4, .int .i64 ((n : Nat) : Int))]) ⟨rfl, rfl, rfl, rfl, rfl, rfl, trivial⟩ (wC_seq (wC_region ?_))
  by_cases h6 : ((k : Nat) : Int) < ((l.length : Nat) : Int)
  ·refine vv (ylssT h6) ?_
   refine wL_nil (wQ_then (wC_seq (wC_cond_t rfl (wC_skip (wQ_then (wC_seq (wC_block (wC_seq (wC_region ?_)))))))))
   obtain ⟨b7, o8, rfl⟩ := Rd.addr (St.rd 0 S2 rfl) (by omega)
   obtain ⟨x9, hx10⟩ := elm k (St.rd 0 S2 rfl) (by omega)
   refine vv (v := .pointer (some ⟨b7, o8 + k * 11, none⟩)) (y_indexAddr rfl rfl rfl (r_indexAddr k Try.underlying74 inf39 (by omega) (by omega))) ?_
   refine vv (y_load rfl rfl (r_load_agg (cs := Ac.cells x9) Try.underlying39 rfl inf39 rfl (Rd.rg2 (St.rd 0 S2 rfl) (fun _ _ h => fm_get (enc := Ac.cells) (sz := 11) (fun _ => rfl) hx10 h)))) ?_
   refine na (row := #[.int .i64 0, .int .i64 0, .int .i64 0, .int .i64 0, .int .i64 0, .int .i64 0, .int .i64 0, .int .i64 0, .int .i64 0, .int .i64 0, .int .i64 0]) S2 Try.zeroValue39 ?_; intro b11 w12 S13; clear S2
   refine sa 0 S13 inf39 ?_; intro w14 S15; clear S13
   refine qk [2, 3, 8, 9, 10, 4, 6] ?_
   refine x_tssr (vv (ylr 0 S15 Try.underlying39 inf39) ?_)
   refine cab en33 S15 (LCheck_calls x9 _) ?_; intro w16 S17; clear S15
   refine va ?_
   refine qk [2, 3, 8, 9, 10, 4, 6, 7] ?_
   refine x_tsr (vm ?_)
   by_cases h19 : actFault x9 = 0
   ·refine vv (yneqF h19) ?_
    refine qk [2, 3, 8, 9, 10, 4, 6, 7, 17] ?_
    refine x_tnktsr (vv (ylr 0 S17 Try.underlying39 inf39) ?_)
    by_cases hp20 : x9.kd = 2
    ·have HC21 := fun (w : World) => asks_calls x9 h19 w
     rw [decide_eq_true hp20] at HC21
     refine cal en135 (HC21 _) ?_
     rintro _ w22 ⟨rfl, hb24⟩
     refine ⟨_, rfl, ?_⟩
     have S23 := S17.on hb24; clear hb24 S17; clear HC21
     refine qk [2, 3, 8, 9, 10, 4, 20] ?_
     refine wQ_then (wC_cond_t rfl (wC_region (vm ?_)))
     refine vv (v := .int .i64 ((n + 1 : Nat) : Int)) (y_binop rfl rfl rfl (r_add (by omega) (by omega))) ?_
     refine va ?_
     refine qk [2, 3, 8, 9, 10, 4] ?_
     refine wQ_blk_n (wQ_then (wC_region (vv (v := .int .i64 ((k + 1 : Nat) : Int)) (y_binop rfl rfl rfl (r_add (by omega) (by omega))) ?_)))
     refine vm ?_
     refine qk [2, 3, 8, 9, 10, 4] ?_
     have S25 : St _ _ _ [_] := S23.dels [0]; clear S23
     refine wQ_round (k + 1, n + 1) ?_ ⟨rfl, rfl, rfl, rfl, rfl, rfl, trivial⟩ (by first | omega | (dsimp only; omega))
     exact ⟨(by dsimp only; omega), (by dsimp only; rw [hi4]; exact calls_yes hx10 h19 hp20), (by dsimp only; omega), S25⟩
    ·have HC26 := fun (w : World) => asks_calls x9 h19 w
     rw [decide_eq_false hp20] at HC26
     refine cal en135 (HC26 _) ?_
     rintro _ w27 ⟨rfl, hb29⟩
     refine ⟨_, rfl, ?_⟩
     have S28 := S17.on hb29; clear hb29 S17; clear HC26
     refine qk [2, 3, 8, 9, 10, 4, 20] ?_
     refine wQ_then (wC_cond_f rfl (wC_skip (wQ_blk_n (wQ_then (wC_region (vv (v := .int .i64 ((k + 1 : Nat) : Int)) (y_binop rfl rfl rfl (r_add (by omega) (by omega))) ?_))))))
     refine vm ?_
     refine qk [2, 3, 8, 9, 10, 4] ?_
     have S30 : St _ _ _ [_] := S28.dels [0]; clear S28
     refine wQ_round (k + 1, n) ?_ ⟨rfl, rfl, rfl, rfl, rfl, rfl, trivial⟩ (by first | omega | (dsimp only; omega))
     exact ⟨(by dsimp only; omega), (by dsimp only; rw [hi4]; exact calls_no hx10 h19 hp20), (by dsimp only; omega), S30⟩
   ·refine vv (yneqT h19) ?_
    refine qk [2, 3, 8, 9, 10, 4, 6, 7, 17] ?_
    refine x_tysr (vm ?_)
    iterate 2 refine va ?_
    refine qk [2, 3] ?_
    refine wQ_then (wC_ret (wQ_then_ret (wQ_blk_ret (wQ_then_ret (wQ_then_ret (wQ_blk_ret (wQ_then_ret (wQ_post (rs := [.tmp 2, .tmp 3]) (vs := [.int .i64 0, .int .i64 (actFault x9)]) rfl ⟨rfl, rfl, trivial⟩ ?_))))))))
    rw [hi4, calls_bad hx10 h19]
    exact ⟨rfl, S17.low⟩
  ·refine vv (ylssF h6) ?_
   refine wL_nil (wQ_then (wC_seq (wC_cond_f rfl (wC_exit (wQ_then_exit (wQ_then_exit (wQ_blk_same (wQ_then (wC_seq (wC_region (vm ?_)))))))))))
   iterate 2 refine va ?_
   refine qk [2, 3] ?_
   refine x_te (wQ_post (rs := [.tmp 2, .tmp 3]) (vs := [.int .i64 ((n : Nat) : Int), .int .i64 0]) rfl ⟨rfl, rfl, trivial⟩ ?_)
   rw [hi4, calls_end (by omega)]
   exact ⟨rfl, S2.low⟩

set_option maxRecDepth 100000 in
set_option maxHeartbeats 4000000 in
theorem CallsOf_calls (A : Option Addr) (c : Nat) (l : List Ac) (w : World) (h : Rd w w.heap.size 11 A l.length (l.flatMap Ac.cells)) (hb : l.length * 88 ≤ reachBytes) :
    Calls Try.prog 56 #[.slice A l.length c] w (CallsPost w (callsGo l 0)) := by
 have S := (St.start w).addRd h; clear h
 have hb2 := hb
 unfold reachBytes at hb2
 refine fnw 30 Try.func56 ?_
 refine cw [0] ?_
 refine x_sr (va ?_)
 refine va ?_
 refine wL_nil (wQ_then (wC_seq (wC_region (va ?_))))
 refine wL_nil (wQ_then (wC_seq (wC_seq (wC_region (va ?_)))))
 refine wL_nil (wQ_then (wC_block (wC_loop (X := Nat × Nat) (fun xv => [(0, .slice A l.length c), (2, .int .i64 0), (3, .int .i64 0), (5, .int .i64 ((xv.1 : Nat) : Int)), (4, .int .i64 ((xv.2 : Nat) : Int))]) (fun xv wr => (xv.1 ≤ l.length) ∧ (callsGo l 0 = callsGo (l.drop xv.1) xv.2) ∧ (xv.2 ≤ xv.1) ∧ St w.heap.size w wr [.rd 11 A l.length ((l).flatMap Ac.cells)]) (fun xv => l.length - xv.1) (0, 0) ?_ ?_ ?_)))
 ·exact ⟨Nat.zero_le _, rfl, Nat.le_refl _, S⟩
 ·exact ⟨rfl, rfl, rfl, rfl, rfl, trivial⟩
 ·rintro ⟨k, n⟩ w1 ⟨hi3, hi4, hi5, S2⟩
  try dsimp only at hi3 hi4 hi5 S2; clear S
  refine wC_sub (l' := [(0, .slice A l.length c), (2, .int .i64 0), (3, .int .i64 0), (5, .int .i64 ((k : Nat) : Int)), (4, .int .i64 ((n : Nat) : Int))]) ⟨rfl, rfl, rfl, rfl, rfl, trivial⟩ (wC_seq (wC_seq (wC_region (vm ?_))))
  refine vm ?_
  refine vv (v := .int .i64 ((l.length : Nat) : Int)) (y_builtin (vs := [.slice A l.length c]) rfl ⟨rfl, trivial⟩ fun _ => r_len rfl Try.underlying74) ?_
  by_cases h6 : ((k : Nat) : Int) < ((l.length : Nat) : Int)
  ·refine vv (ylssT h6) ?_
   refine qk [0, 2, 3, 5, 4, 10] ?_
   refine wQ_then (wC_cond_t rfl (wC_skip (wQ_then (wC_seq (wC_block (wC_seq (wC_region (vm ?_))))))))
   refine vm ?_
   obtain ⟨b7, o8, rfl⟩ := Rd.addr (St.rd 0 S2 rfl) (by omega)
   obtain ⟨x9, hx10⟩ := elm k (St.rd 0 S2 rfl) (by omega)
   refine vv (v := .pointer (some ⟨b7, o8 + k * 11, none⟩)) (y_indexAddr rfl rfl rfl (r_indexAddr k Try.underlying74 inf39 (by omega) (by omega))) ?_
   refine vv (y_load rfl rfl (r_load_agg (cs := Ac.cells x9) Try.underlying39 rfl inf39 rfl (Rd.rg2 (St.rd 0 S2 rfl) (fun _ _ h => fm_get (enc := Ac.cells) (sz := 11) (fun _ => rfl) hx10 h)))) ?_
   refine cab en34 S2 (ActFault_calls x9 _) ?_; intro w11 S12; clear S2
   refine va ?_
   refine qk [0, 2, 3, 5, 4, 6] ?_
   refine x_tssr (vm ?_)
   by_cases h14 : actFault x9 = 0
   ·refine vv (yneqF h14) ?_
    refine qk [0, 2, 3, 5, 4, 6, 19] ?_
    refine x_tnktsr (vm ?_)
    refine vm ?_
    refine vv (v := .pointer (some ⟨b7, o8 + k * 11, none⟩)) (y_indexAddr rfl rfl rfl (r_indexAddr k Try.underlying74 inf39 (by omega) (by omega))) ?_
    refine vv (yfa (o8 + k * 11) fa39_0) ?_
    refine vv (y_load rfl rfl (r_load Try.underlying3 rfl (Rd.cl2 (i := 0) (St.rd 0 S12 rfl) (fm_get (enc := Ac.cells) (sz := 11) (fun _ => rfl) hx10 rfl)))) ?_
    by_cases h15 : x9.kd = 2
    ·refine vv (yeqlT h15) ?_
     refine qk [0, 2, 3, 5, 4, 26] ?_
     refine wQ_then (wC_cond_t rfl (wC_region (vm ?_)))
     refine vv (v := .int .i64 ((n + 1 : Nat) : Int)) (y_binop rfl rfl rfl (r_add (by omega) (by omega))) ?_
     refine va ?_
     refine qk [0, 2, 3, 5, 4] ?_
     refine wQ_blk_n (wQ_then (wC_region (vm ?_)))
     refine vv (v := .int .i64 ((k + 1 : Nat) : Int)) (y_binop rfl rfl rfl (r_add (by omega) (by omega))) ?_
     refine va ?_
     refine qk [0, 2, 3, 5, 4] ?_
     refine wQ_round (k + 1, n + 1) ?_ ⟨rfl, rfl, rfl, rfl, rfl, trivial⟩ (by first | omega | (dsimp only; omega))
     exact ⟨(by dsimp only; omega), (by dsimp only; rw [hi4]; exact calls_yes hx10 h14 h15), (by dsimp only; omega), S12⟩
    ·refine vv (yeqlF h15) ?_
     refine qk [0, 2, 3, 5, 4, 26] ?_
     refine wQ_then (wC_cond_f rfl (wC_skip (wQ_blk_n (wQ_then (wC_region (vm ?_))))))
     refine vv (v := .int .i64 ((k + 1 : Nat) : Int)) (y_binop rfl rfl rfl (r_add (by omega) (by omega))) ?_
     refine va ?_
     refine qk [0, 2, 3, 5, 4] ?_
     refine wQ_round (k + 1, n) ?_ ⟨rfl, rfl, rfl, rfl, rfl, trivial⟩ (by first | omega | (dsimp only; omega))
     exact ⟨(by dsimp only; omega), (by dsimp only; rw [hi4]; exact calls_no hx10 h14 h15), (by dsimp only; omega), S12⟩
   ·refine vv (yneqT h14) ?_
    refine qk [0, 2, 3, 5, 4, 6, 19] ?_
    refine x_tysr (vm ?_)
    iterate 2 refine va ?_
    refine qk [2, 3] ?_
    refine wQ_then (wC_ret (wQ_then_ret (wQ_blk_ret (wQ_then_ret (wQ_then_ret (wQ_blk_ret (wQ_then_ret (wQ_post (rs := [.tmp 2, .tmp 3]) (vs := [.int .i64 0, .int .i64 (actFault x9)]) rfl ⟨rfl, rfl, trivial⟩ ?_))))))))
    rw [hi4, calls_bad hx10 h14]
    exact ⟨rfl, S12.low⟩
  ·refine vv (ylssF h6) ?_
   refine qk [0, 2, 3, 5, 4, 10] ?_
   refine wQ_then (wC_cond_f rfl (wC_exit (wQ_then_exit (wQ_then_exit (wQ_blk_same (wQ_then (wC_seq (wC_region (vm ?_)))))))))
   iterate 2 refine va ?_
   refine qk [2, 3] ?_
   refine x_te (wQ_post (rs := [.tmp 2, .tmp 3]) (vs := [.int .i64 ((n : Nat) : Int), .int .i64 0]) rfl ⟨rfl, rfl, trivial⟩ ?_)
   rw [hi4, calls_end (by omega)]
   exact ⟨rfl, S2.low⟩

set_option maxRecDepth 100000 in
set_option maxHeartbeats 2000000 in
theorem acts_calls (A : Option Addr) (c : Nat) (l : List Ac) (w : World) (h : Rd w w.heap.size 11 A l.length (l.flatMap Ac.cells)) (hb : l.length * 88 ≤ reachBytes) :
    Calls Try.prog 55 #[.slice A l.length c] w (ActsPost w l) := by
 have S := (St.start w).addRd h; clear h
 have hb2 := hb
 unfold reachBytes at hb2
 refine fnw 5 Try.func55 ?_
 refine cw [0] ?_
 refine x_sr (va ?_)
 refine wL_nil (wQ_then (wC_seq ?_))
 have S1 := S.nil 39 11; clear S
 change St _ _ _ [.own 39 11 (.slice none 0 0) 0 ((([] : List Ac)).flatMap Ac.cells), _] at S1
 refine wC_region (vm ?_)
 refine wL_append (news := (l).flatMap Ac.cells) (xs' := (l).flatMap Ac.cells) 0 S1 (wn rfl) rfl rfl rfl rfl rfl rfl (St.rd 1 S1 rfl) Try.underlying74 infz39 rfl (by decide) (acs_one _) (by simp only [maxLen]; omega) (by omega) (by simp) ?_; intro A2 c3 w4 hc6 hm7 S5; clear S1
 change St _ _ _ [.own 39 11 (.slice A2 (0 + l.length) c3) (0 + l.length) ((l).flatMap Ac.cells), _] at S5
 refine va ?_
 refine qk [2] ?_
 refine x_te (pt ?_)
 have S8 : St _ _ _ [_] := S5.dels [1]; clear S5
 have S9 := S8.sealAll 0 rfl; clear S8
 change St _ _ _ [.rdo 11 A2 (0 + l.length) ((l).flatMap Ac.cells)] at S9
 rw [Nat.zero_add] at S9
 exact ⟨A2, c3, by rw [Nat.zero_add]; rfl, S9⟩

set_option maxRecDepth 100000 in
set_option maxHeartbeats 2000000 in
theorem linesCalls_calls (A : Option Addr) (c : Nat) (l : List Ac) (w : World) (h : Rd w w.heap.size 11 A l.length (l.flatMap Ac.cells)) (hb : l.length * 88 ≤ reachBytes) :
    Calls Try.prog 11 #[.slice A l.length c] w (fun e w' => e = .returned (.bool true) ∧ Below w.heap.size w w') := by
 have S := (St.start w).addRd h; clear h
 have hb2 := hb
 unfold reachBytes at hb2
 have H1 := fun A c w h => LCalls_calls A c l w h hb
 have H2 := fun A c w h => CallsOf_calls A c l w h hb
 generalize callsGo l 0 = R at H1 H2
 refine fnw 26 Try.func11 ?_
 refine cw [0] ?_
 refine x_sr (va ?_)
 refine wL_nil (wQ_then (wC_seq (wC_region (vm ?_))))
 refine cal en55 (acts_calls A c l _ (St.rd 0 S rfl) hb) ?_
 rintro _ w3 ⟨A1, c2, rfl, T5⟩
 refine ⟨_, rfl, ?_⟩
 have S4 := S.ext T5 rfl; clear T5 S
 change St _ _ _ [.rdo 11 A1 l.length ((l).flatMap Ac.cells), _] at S4
 refine cab en54 S4 (H1 A1 c2 _ (St.rdo 0 S4 rfl)) ?_; intro w6 S7; clear S4
 refine vm ?_
 refine vv yx ?_
 refine vv yx ?_
 iterate 2 refine va ?_
 refine qk [0, 2, 3, 4] ?_
 refine x_tsr (vm ?_)
 refine cab en56 S7 (H2 A c _ (St.rd 1 S7 rfl)) ?_; intro w9 S10; clear S7
 refine vm ?_
 refine vv yx ?_
 refine vv yx ?_
 iterate 2 refine va ?_
 refine qk [2, 3, 4, 5, 6] ?_
 refine x_tsr (vm ?_)
 refine vm ?_
 refine vv (yeqlT rfl) ?_
 refine vm ?_
 refine vg ym ?_
 refine vg ym ?_
 refine vg (yeqlT rfl) ?_
 refine vv ypT ?_
 refine va ?_
 refine qk [2] ?_
 refine x_te (pt ?_)
 exact ⟨rfl, S10.low⟩

set_option maxRecDepth 100000 in
instance : IntRec Ac where
  size := 11
  ints x := x.ints
  of l := ⟨l.getD 0 0, l.getD 1 0, l.getD 2 0, l.getD 3 0, l.getD 4 0, l.getD 5 0, l.getD 6 0, l.getD 7 0, l.getD 8 0, l.getD 9 0, l.getD 10 0⟩
  pos := by omega
  len _ := rfl
  inv xs h := by
    obtain ⟨a1, xs, rfl⟩ := List.exists_cons_of_length_eq_add_one h
    obtain ⟨a2, xs, rfl⟩ := List.exists_cons_of_length_eq_add_one (Nat.succ.inj h)
    have h := Nat.succ.inj (Nat.succ.inj h)
    obtain ⟨a3, xs, rfl⟩ := List.exists_cons_of_length_eq_add_one h
    obtain ⟨a4, xs, rfl⟩ := List.exists_cons_of_length_eq_add_one (Nat.succ.inj h)
    have h := Nat.succ.inj (Nat.succ.inj h)
    obtain ⟨a5, xs, rfl⟩ := List.exists_cons_of_length_eq_add_one h
    obtain ⟨a6, xs, rfl⟩ := List.exists_cons_of_length_eq_add_one (Nat.succ.inj h)
    have h := Nat.succ.inj (Nat.succ.inj h)
    obtain ⟨a7, xs, rfl⟩ := List.exists_cons_of_length_eq_add_one h
    obtain ⟨a8, xs, rfl⟩ := List.exists_cons_of_length_eq_add_one (Nat.succ.inj h)
    have h := Nat.succ.inj (Nat.succ.inj h)
    obtain ⟨a9, xs, rfl⟩ := List.exists_cons_of_length_eq_add_one h
    obtain ⟨a10, xs, rfl⟩ := List.exists_cons_of_length_eq_add_one (Nat.succ.inj h)
    have h := Nat.succ.inj (Nat.succ.inj h)
    obtain ⟨a11, xs, rfl⟩ := List.exists_cons_of_length_eq_add_one h
    obtain rfl := List.eq_nil_of_length_eq_zero (Nat.succ.inj h)
    rfl
set_option maxRecDepth 100000 in
theorem flat_acs : flat Try.prog 30 74 = some [.sl 88 (List.replicate 11 (.int .i64))] := by kernel_rfl
set_option maxRecDepth 100000 in
theorem arg_acts {W : World} {v : Value} (h : ArgOk Try.prog W v 74) : ∃ A c, ∃ l : List Ac, v = .slice A l.length c ∧ Rd W W.heap.size 11 A l.length (l.flatMap Ac.cells) ∧ l.length ≤ c ∧ c * 88 ≤ reachBytes := by
  obtain ⟨⟨base, hk⟩, l, hl, ha⟩ := h
  rw [flat_acs] at hl
  cases hl
  obtain ⟨A, n, c, rfl⟩ := okWide_slice Try.underlying74 hk
  obtain ⟨a, l1, e, h1, _⟩ := All2.cons_ ha
  simp [Value.cells] at e
  obtain ⟨rfl, _⟩ := e
  obtain ⟨A', n', c', l, e, hr, hn, hc, hb, h0⟩ := open_recs (α := Ac) h1
  simp only [Value.slice.injEq] at e
  obtain ⟨rfl, rfl, rfl⟩ := e
  have hlen : l.length = n := Rd.rec_len (α := Ac) hr
  subst hlen
  exact ⟨A, c, l, rfl, hr, hn, hb⟩
theorem linesCalls_walk (W : World) (args : Array Value) (h : All2 (ArgOk Try.prog W) args.toList Try.f11.params.toList) :
    Calls Try.prog 11 args W fun e W' => e = .returned (.bool true) ∧ Below W.heap.size W W' := by
  rw [Try.params11] at h
  obtain ⟨v, l1, hv, h1, h0⟩ := All2.cons_ h
  have h4 := All2.nil_ h0
  subst h4
  obtain rfl : args = #[v] := by cases args; simp_all
  obtain ⟨A, c, l, rfl, hr, hn, hb⟩ := arg_acts h1
  exact linesCalls_calls A c l W hr (by omega)
end Go.Proofs.Ytkjlafpafmihaaa

