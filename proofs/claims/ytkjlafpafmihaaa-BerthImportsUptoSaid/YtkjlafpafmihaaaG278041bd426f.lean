/- Parts of proofs: lemmas on memory, on single functions and on the plain models; no condition of their own. -/
import Derived.Test.YtkjlafpafmihaaaRows
import Derived.WalkKit
import Derived.ProofKit
import Derived.OpenShut
import Derived.SizedLaws
import Derived.WalkSpells
import Derived.WalkLawsBesides
import Derived.Handy
import Derived.Deep.QuietTactic
import Derived.BigQuiet
import Derived.Lib.Hide
import Derived.Maps.AppendAt
import Derived.Deep.AppendLies
import Derived.RegionTactic
import Derived.OwnWalk
import Derived.Laws.Tables
import Derived.Deep.MidRow
import Derived.StillTailTactics
import Derived.OrdersHeld
import Derived.Deep.RegionHeld3
import Derived.Laws.IdiomCopy
import Derived.ChangeKeysEq
import Derived.Laws.BitsAllLaws
import Derived.Deep.DeepCutAuto
import Derived.Deep.CutRange
import Derived.Shelf.SlSortCmp.WholeK
import Derived.Shelf.SlSortCmp.NoneTotal
import Derived.Shelf.SlicesG.Cmp
import Derived.Shelf.SlGeneric
import Derived.Ground.SlsfProg
import Derived.Ground.SlgcProg
import Derived.Maps.OwnSet
import Derived.Lib.SliceRun
import Derived.Deep.RegionLaw
import Derived.Test.YtkjlafpafmihaaaG0768a3dac2e7
import Derived.Test.YtkjlafpafmihaaaG0ae8f8518dc6
import Derived.Test.YtkjlafpafmihaaaG0bb5158af57c
import Derived.Test.YtkjlafpafmihaaaG19e1afd8d7e3
import Derived.Test.YtkjlafpafmihaaaG235dffc219c5
import Derived.Test.YtkjlafpafmihaaaG2f41042746e8
import Derived.Test.YtkjlafpafmihaaaG31d2ca6204c6
import Derived.Test.YtkjlafpafmihaaaG340501f20f50
import Derived.Test.YtkjlafpafmihaaaG35d6066fb91e
import Derived.Test.YtkjlafpafmihaaaG3a09ee29adfd
import Derived.Test.YtkjlafpafmihaaaG3a58e6ed639b
import Derived.Test.YtkjlafpafmihaaaG53d9860cd554
import Derived.Test.YtkjlafpafmihaaaG5a4470397ed8
import Derived.Test.YtkjlafpafmihaaaG5df3d2fa3f32
import Derived.Test.YtkjlafpafmihaaaG65ff75e8a9e5
import Derived.Test.YtkjlafpafmihaaaG6c7d926bdf1e
import Derived.Test.YtkjlafpafmihaaaG8270fc04d990
import Derived.Test.YtkjlafpafmihaaaG8c8ada4b342a
import Derived.Test.YtkjlafpafmihaaaG90f7600ce72e
import Derived.Test.YtkjlafpafmihaaaG9b85a56455eb
import Derived.Test.YtkjlafpafmihaaaGad5e3ea4a660
import Derived.Test.YtkjlafpafmihaaaGb04a46e84bb8
import Derived.Test.YtkjlafpafmihaaaGbea5e349a2aa
import Derived.Test.YtkjlafpafmihaaaGc5181b6c0e3d
import Derived.Test.YtkjlafpafmihaaaGc91015c24562
import Derived.Test.YtkjlafpafmihaaaGcd1d2a0662d0
import Derived.Test.YtkjlafpafmihaaaGd5358a42e1a9
import Derived.Test.YtkjlafpafmihaaaGd7f7ec5356a9
import Derived.Test.YtkjlafpafmihaaaGdb62e807c2bc
import Derived.Test.YtkjlafpafmihaaaGf1544f3cc3bb
import Derived.Test.YtkjlafpafmihaaaGfd1e0ec60262
set_option linter.unusedVariables false
set_option linter.unusedSimpArgs false

namespace Go.Proofs.Ytkjlafpafmihaaa
open Go.ChangeShapes Go.WideShapes Go.RowKit

def impNew (b : Brt) (ep : Int) (d : Nat) (l : List Ev) (last : Bool) : Brt := if last = true then ⟨1, ep, 0, 0, 0, b.evs ++ l.drop d ++ [brkEv]⟩ else { b with evs := b.evs ++ l.drop d }
theorem impNew_t {b : Brt} {ep : Int} {d : Nat} {l : List Ev} : impNew b ep d l true = ⟨1, ep, 0, 0, 0, b.evs ++ l.drop d ++ [brkEv]⟩ := rfl
theorem impNew_f {b : Brt} {ep : Int} {d : Nat} {l : List Ev} : impNew b ep d l false = { b with evs := b.evs ++ l.drop d } := rfl
theorem imp_go {b : Brt} {ep : Int} {k : Nat} {K : List Ev} {last : Bool} (h : brtFault b = 0) (hr : b.role = 4) (he : b.ep = ep) (hk : k ≤ b.evs.length) : importM b ep k K last =
    if ¬ (b.evs.drop k).take K.length = K.take (b.evs.length - k) then (zeroB, 3) else if last = true ∧ k + K.length < b.evs.length then (zeroB, 3)
    else if brtFault (impNew b ep (b.evs.length - k) K last) ≠ 0 then (zeroB, 3) else (impNew b ep (b.evs.length - k) K last, 0) := by
  unfold importM impNew
  rw [if_neg (fun h1 => h1 h), if_neg (fun h1 => h1 hr), if_neg (fun h1 => h1 he), if_neg (by omega), Int.toNat_natCast]
section
variable {l K : List Ev} {k d p i : Nat}
theorem imp_iff (hd : l.length = k + d) (hp : min d K.length = p) : ((l.drop k).take K.length = K.take d) ↔ ((l.drop k).take p = K.take p) := by
  have e1 : (l.drop k).take K.length = (l.drop k).take p := by rw [List.take_eq_take_iff, List.length_drop]; omega
  have e2 : K.take d = K.take p := by rw [List.take_eq_take_iff]; omega
  rw [e1, e2]
theorem imp_drop (hp : min d K.length = p) : K.drop p = K.drop d := by
  rcases Nat.le_total d K.length with h | h
  · rw [show p = d by omega]
  · rw [List.drop_eq_nil_of_le h, List.drop_eq_nil_of_le (by omega)]
theorem imp_ne {a b : Ev} (hd : l.length = k + d) (hi : i < d) (ha : l[k + i]? = some a) (hb : K[i]? = some b) (hab : ¬ a = b) : ¬ (l.drop k).take K.length = K.take d := by
  intro h
  obtain ⟨hK, _⟩ := List.getElem?_eq_some_iff.1 hb
  have h1 : ((l.drop k).take K.length)[i]? = some a := by rw [List.getElem?_take, if_pos hK, List.getElem?_drop]; exact ha
  have h2 : (K.take d)[i]? = some b := by rw [List.getElem?_take, if_pos hi]; exact hb
  rw [h, h2] at h1
  injection h1 with h3
  exact hab h3.symm
theorem imp_step {a : Ev} (hi : i < d) (ha : l[k + i]? = some a) (hb : K[i]? = some a) (h : (l.drop k).take (min i d) = K.take (min i d)) : (l.drop k).take (min (i + 1) d) = K.take (min (i + 1) d) := by
  rw [show min i d = i by omega] at h
  rw [show min (i + 1) d = i + 1 by omega, List.take_add_one, List.take_add_one, h, hb, List.getElem?_drop, ha]
theorem imp_past (hi : ¬ i < d) (h : (l.drop k).take (min i d) = K.take (min i d)) : (l.drop k).take (min (i + 1) d) = K.take (min (i + 1) d) := by
  rw [show min (i + 1) d = min i d by omega]; exact h
theorem imp_tail {x : Ev} (hi : ¬ i < d) (hx : K[i]? = some x) : l ++ (K.take i).drop d ++ [x] = l ++ (K.take (i + 1)).drop d := by
  obtain ⟨hK, _⟩ := List.getElem?_eq_some_iff.1 hx
  rw [List.take_add_one, hx, List.drop_append_of_le_length (by rw [List.length_take]; omega), List.append_assoc]
  rfl
theorem imp_none (hi : i < d) : l ++ (K.take i).drop d = l ++ (K.take (i + 1)).drop d := by
  rw [List.drop_eq_nil_of_le (by rw [List.length_take]; omega), List.drop_eq_nil_of_le (by rw [List.length_take]; omega)]
end
theorem evneq_f {a b : Ev} (h : a = b) (w : World) : (binOp .neq 37 (.agg #[.int .i64 a.kind, .int .i64 a.producer, .int .i64 a.id, .int .i64 a.body, .int .i64 a.hepoch, .int .i64 a.hno])
    (.agg #[.int .i64 b.kind, .int .i64 b.producer, .int .i64 b.id, .int .i64 b.body, .int .i64 b.hepoch, .int .i64 b.hno])).run Try.prog w = .ok (.bool false) w := by
  rw [run_neq_ev, decide_eq_true h]; rfl
theorem evneq_t {a b : Ev} (h : ¬ a = b) (w : World) : (binOp .neq 37 (.agg #[.int .i64 a.kind, .int .i64 a.producer, .int .i64 a.id, .int .i64 a.body, .int .i64 a.hepoch, .int .i64 a.hno])
    (.agg #[.int .i64 b.kind, .int .i64 b.producer, .int .i64 b.id, .int .i64 b.body, .int .i64 b.hepoch, .int .i64 b.hno])).run Try.prog w = .ok (.bool true) w := by
  rw [run_neq_ev, decide_eq_false h]; rfl
theorem evs_ne {x y : List Ev} {k : Nat} {a b : Ev} (ha : x[k]? = some a) (hb : y[k]? = some b) (h : ¬ a = b) : ¬ x = y := fun e => by
  rw [e, hb] at ha
  injection ha with h1
  exact h h1.symm

set_option maxRecDepth 100000 in
set_option maxHeartbeats 1000000 in
theorem EqualE_calls (A A' : Option Addr) (c c' n : Nat) (xs ys : List Ev) (w : World) (h : Rd w w.heap.size 6 A n (evCells xs)) (h' : Rd w w.heap.size 6 A' n (evCells ys)) (hx : xs.length = n) (hy : ys.length = n) (hn : n ≤ 1152921504606846976) :
    Calls Try.prog 162 #[.slice A n c, .slice A' n c'] w (BoolB w (decide (xs = ys))) := by
 have S := ((St.start w).addRd h').addRd h; clear h h'
 refine calls_of_wC (N := 26) (vs := [.slice A n c, .slice A' n c']) Try.func162 rfl rfl rfl ?_
 refine wC_sub (l' := [(0, .slice A n c), (1, .slice A' n c')]) ⟨rfl, rfl, trivial⟩ (wC_seq (wC_region (wL_val (wn rfl) rfl rfl (y_assign rfl rfl) ?_)))
 refine wL_nil (wQ_then (wC_seq (wC_seq (wC_region (wL_val (wn rfl) rfl rfl (y_move rfl rfl) ?_)))))
 refine wL_val (v := .int .i64 ((n : Nat) : Int)) (wn rfl) rfl rfl (y_builtin (vs := [.slice A n c]) rfl ⟨rfl, trivial⟩ fun _ => r_len rfl Try.underlying57) ?_
 refine wL_val (wn rfl) rfl rfl (y_move rfl rfl) ?_
 refine wL_val (v := .int .i64 ((n : Nat) : Int)) (wn rfl) rfl rfl (y_builtin (vs := [.slice A' n c']) rfl ⟨rfl, trivial⟩ fun _ => r_len rfl Try.underlying57) ?_
 refine wL_val (v := .bool false) (wn rfl) rfl rfl (y_binop rfl rfl rfl (r_neq_f rfl)) ?_
 refine wL_nil (wQ_sub (l' := [(0, _), (1, _), (4, _), (10, _)]) ⟨rfl, rfl, rfl, rfl, trivial⟩ (wQ_then (wC_cond_f rfl (wC_skip (wQ_then (wC_seq (wC_seq (wC_region (wL_val (wn rfl) rfl rfl (y_move rfl rfl) ?_)))))))))
 refine wL_val (v := .int .i64 ((n : Nat) : Int)) (wn rfl) rfl rfl (y_builtin (vs := [.slice A n c]) rfl ⟨rfl, trivial⟩ fun _ => r_len rfl Try.underlying57) ?_
 refine wL_val (wn rfl) rfl rfl (y_move rfl rfl) ?_
 refine wL_nil (wQ_sub (l' := [(0, _), (1, _), (4, _), (12, _), (13, _)]) ⟨rfl, rfl, rfl, rfl, rfl, trivial⟩ (wQ_then (wC_block (wC_loop (X := Nat) (fun xv => [(0, .slice A n c), (1, .slice A' n c'), (4, .bool false), (12, .int .i64 ((n : Nat) : Int)), (13, .int .i64 ((xv : Nat) : Int))]) (fun xv wr => (xv ≤ n) ∧ (xs.take xv = ys.take xv) ∧ St w.heap.size w wr [.rd 6 A n ((xs).flatMap Ev.cells), .rd 6 A' n ((ys).flatMap Ev.cells)]) (fun xv => n - xv) (0) ?_ ?_ ?_))))
 ·exact ⟨Nat.zero_le _, rfl, S⟩
 ·exact ⟨rfl, rfl, rfl, rfl, rfl, trivial⟩
 ·rintro k w1 ⟨hi3, hi4, S2⟩
  try dsimp only at hi3 hi4 S2; clear S
  refine wC_sub (l' := [(0, .slice A n c), (1, .slice A' n c'), (4, .bool false), (12, .int .i64 ((n : Nat) : Int)), (13, .int .i64 ((k : Nat) : Int))]) ⟨rfl, rfl, rfl, rfl, rfl, trivial⟩ (wC_seq (wC_region ?_))
  by_cases h5 : ((k : Nat) : Int) < ((n : Nat) : Int)
  ·refine wL_val (v := .bool true) (wn rfl) rfl rfl (y_binop rfl rfl rfl (r_lss_t h5)) ?_
   refine wL_nil (wQ_then (wC_seq (wC_cond_t rfl (wC_skip (wQ_then (wC_seq (wC_block (wC_seq (wC_region (wL_val (wn rfl) rfl rfl (y_move rfl rfl) ?_))))))))))
   refine wL_val (wn rfl) rfl rfl (y_assign rfl rfl) ?_
   refine wL_nil (wQ_sub (l' := [(0, _), (1, _), (4, _), (12, _), (13, _), (5, _)]) ⟨rfl, rfl, rfl, rfl, rfl, rfl, trivial⟩ (wQ_then (wC_seq (wC_quiet S2 mixed (by kernel_rfl) ?_))))
   refine wU_val (v := .slice A n c) (wn rfl) rfl rfl (fun _ _ => (y_move rfl rfl)) ?_
   refine wU_val (v := .int .i64 ((k : Nat) : Int)) (wn rfl) rfl rfl (fun _ _ => (y_move rfl rfl)) ?_
   obtain ⟨b8, o9, rfl⟩ := Rd.addr (St.rd 0 S2 rfl) (by omega)
   obtain ⟨x10, hx11⟩ : ∃ x, (xs)[k]? = some x := ⟨_, List.getElem?_eq_getElem (by have := (St.rd 0 S2 rfl).1; rw [fm_len (sz := 6) (fun _ => rfl)] at this; omega)⟩
   refine wU_val (v := .pointer (some ⟨b8, o9 + k * 6, none⟩)) (wn rfl) rfl rfl (fun _ _ => (y_indexAddr rfl rfl rfl (r_indexAddr k Try.underlying57 inf37 (by omega) (by omega)))) ?_
   refine wU_val (v := .agg #[.int .i64 x10.kind, .int .i64 x10.producer, .int .i64 x10.id, .int .i64 x10.body, .int .i64 x10.hepoch, .int .i64 x10.hno]) (wn rfl) rfl rfl (fun _ Sx13 => (y_load rfl rfl (r_load_agg (cs := Ev.cells x10) Try.underlying37 rfl inf37 rfl (Rd.rg2 (St.rd 0 Sx13 rfl) (fun _ _ h => fm_get (enc := Ev.cells) (sz := 6) (fun _ => rfl) hx11 h))))) ?_
   refine wU_val (v := .slice A' n c') (wn rfl) rfl rfl (fun _ _ => (y_move rfl rfl)) ?_
   refine wU_val (v := .int .i64 ((k : Nat) : Int)) (wn rfl) rfl rfl (fun _ _ => (y_move rfl rfl)) ?_
   obtain ⟨b16, o17, rfl⟩ := Rd.addr (St.rd 1 S2 rfl) (by omega)
   obtain ⟨x18, hx19⟩ : ∃ x, (ys)[k]? = some x := ⟨_, List.getElem?_eq_getElem (by have := (St.rd 1 S2 rfl).1; rw [fm_len (sz := 6) (fun _ => rfl)] at this; omega)⟩
   refine wU_val (v := .pointer (some ⟨b16, o17 + k * 6, none⟩)) (wn rfl) rfl rfl (fun _ _ => (y_indexAddr rfl rfl rfl (r_indexAddr k Try.underlying57 inf37 (by omega) (by omega)))) ?_
   refine wU_val (v := .agg #[.int .i64 x18.kind, .int .i64 x18.producer, .int .i64 x18.id, .int .i64 x18.body, .int .i64 x18.hepoch, .int .i64 x18.hno]) (wn rfl) rfl rfl (fun _ Sx21 => (y_load rfl rfl (r_load_agg (cs := Ev.cells x18) Try.underlying37 rfl inf37 rfl (Rd.rg2 (St.rd 1 Sx21 rfl) (fun _ _ h => fm_get (enc := Ev.cells) (sz := 6) (fun _ => rfl) hx19 h))))) ?_
   by_cases hev : x10 = x18
   ·refine wU_val (v := .bool false) (wn rfl) rfl rfl (fun _ _ => (y_binop rfl rfl rfl (r_eqg (by kernel_rfl) (evneq_f hev _)))) ?_
    refine wU_nil fun w23 S24 => ?_; clear S2
    refine wQ_sub (l' := [(0, _), (1, _), (4, _), (12, _), (13, _), (24, _)]) ⟨rfl, rfl, rfl, rfl, rfl, rfl, trivial⟩ (wQ_then (wC_cond_f rfl (wC_skip (wQ_blk_n (wQ_then (wC_region (wL_val (v := .int .i64 ((k + 1 : Nat) : Int)) (wn rfl) rfl rfl (y_binop rfl rfl rfl (r_add (by omega) (by omega))) ?_)))))))
    refine wL_val (wn rfl) rfl rfl (y_move rfl rfl) ?_
    refine wL_nil (wQ_sub (l' := [(0, _), (1, _), (4, _), (12, _), (13, _)]) ⟨rfl, rfl, rfl, rfl, rfl, trivial⟩ (wQ_round (k + 1) ?_ ⟨rfl, rfl, rfl, rfl, rfl, trivial⟩ (by first | omega | (dsimp only; omega))))
    exact ⟨(by omega), (by rw [List.take_add_one, List.take_add_one, hi4, hx11, hx19, hev]), S24⟩
   ·refine wU_val (v := .bool true) (wn rfl) rfl rfl (fun _ _ => (y_binop rfl rfl rfl (r_eqg (by kernel_rfl) (evneq_t hev _)))) ?_
    refine wU_nil fun w26 S27 => ?_; clear S2
    refine wQ_sub (l' := [(0, _), (1, _), (4, _), (12, _), (13, _), (24, _)]) ⟨rfl, rfl, rfl, rfl, rfl, rfl, trivial⟩ (wQ_then (wC_cond_t rfl (wC_seq (wC_region (wL_val (wn rfl) rfl rfl (y_assign rfl rfl) ?_)))))
    refine wL_nil (wQ_sub (l' := [(4, _)]) ⟨rfl, trivial⟩ (wQ_then (wC_ret (wQ_blk_ret (wQ_then_ret (wQ_then_ret (wQ_blk_ret (wQ_then_ret (wQ_post (rs := [.tmp 4]) (vs := [.bool false]) rfl ⟨rfl, trivial⟩ ?_)))))))))
    exact ⟨congrArg (fun b => Ending.returned (.bool b)) (decide_eq_false (evs_ne hx11 hx19 hev)).symm, S27.low⟩
  ·refine wL_val (v := .bool false) (wn rfl) rfl rfl (y_binop rfl rfl rfl (r_lss_f h5)) ?_
   refine wL_nil (wQ_then (wC_seq (wC_cond_f rfl (wC_exit (wQ_then_exit (wQ_then_exit (wQ_blk_same (wQ_then (wC_seq (wC_region (wL_val (wn rfl) rfl rfl (y_assign rfl rfl) ?_)))))))))))
   refine wL_nil (wQ_sub (l' := [(4, _)]) ⟨rfl, trivial⟩ (wQ_then (wC_ret (wQ_post (rs := [.tmp 4]) (vs := [.bool true]) rfl ⟨rfl, trivial⟩ ?_))))
   obtain rfl : n = k := by omega
   have he : xs = ys := by rw [← List.take_of_length_le (Nat.le_of_eq hx), ← List.take_of_length_le (l := ys) (Nat.le_of_eq hy)]; exact hi4
   exact ⟨congrArg (fun b => Ending.returned (.bool b)) (decide_eq_true he).symm, S2.low⟩

set_option maxRecDepth 100000 in
set_option maxHeartbeats 4000000 in
theorem Import_calls (ro ep fr tg rd : Int) (A : Option Addr) (c : Nat) (l : List Ev) (e at_ : Int) (A2 : Option Addr) (c2 : Nat) (K : List Ev) (last : Bool) (hlc : l.length ≤ c) (hkc : K.length ≤ c2) (w : World) (hK : Rd w w.heap.size 6 A2 K.length (evCells K)) (h : Rd w w.heap.size 6 A l.length (evCells l)) (hb : l.length * 48 ≤ reachBytes) (hbK : (K.length + 2001) * 48 ≤ reachBytes) :
    Calls Try.prog 96 #[.agg #[.int .i64 ro, .int .i64 ep, .int .i64 fr, .int .i64 tg, .int .i64 rd, .slice A l.length c], .int .i64 e, .int .i64 at_, .slice A2 K.length c2, .bool last] w (BrtPost w (importM ⟨ro, ep, fr, tg, rd, l⟩ e at_ K last)) := by
 have S := ((St.start w).addRd hK).addRd h; clear h hK
 have hb2 := hb
 unfold reachBytes at hb2
 refine calls_of_wC (N := 101) (vs := [.agg #[.int .i64 ro, .int .i64 ep, .int .i64 fr, .int .i64 tg, .int .i64 rd, .slice A l.length c], .int .i64 e, .int .i64 at_, .slice A2 K.length c2, .bool last]) Try.func96 rfl rfl rfl ?_
 refine wC_sub (l' := [(0, .agg #[.int .i64 ro, .int .i64 ep, .int .i64 fr, .int .i64 tg, .int .i64 rd, .slice A l.length c]), (1, .int .i64 e), (2, .int .i64 at_), (3, .slice A2 K.length c2), (4, .bool last)]) ⟨rfl, rfl, rfl, rfl, rfl, trivial⟩ (wC_seq (wC_region (wL_new (V := fun b => .pointer (some ⟨b, 0, none⟩)) (row := #[.int .i64 ro, .int .i64 ep, .int .i64 fr, .int .i64 tg, .int .i64 rd, .slice A l.length c]) (t := 108) S (wn rfl) rfl rfl (d_box rfl rfl rfl) ?_))); intro b1 w2 S3; clear S
 refine wL_new (V := fun b => .pointer (some ⟨b, 0, none⟩)) (row := #[.int .i64 0, .int .i64 0, .int .i64 0, .int .i64 0, .int .i64 0, .slice none 0 0]) (t := 108) S3 (wn rfl) rfl rfl (d_alloc rfl (Try.zeroValue108 _) rfl) ?_; intro b4 w5 S6; clear S3
 refine wL_val (wn rfl) rfl rfl (y_assign rfl rfl) ?_
 refine wL_nil (wQ_sub (l' := [(1, _), (2, _), (3, _), (4, _), (5, _), (10, _), (11, _)]) ⟨rfl, rfl, rfl, rfl, rfl, rfl, rfl, trivial⟩ (wQ_then (wC_seq (wC_seq (wC_region (wL_val (wn rfl) rfl rfl (y_load rfl rfl (r_load_row 1 S6 rfl Try.underlying108 rfl inf108 rfl)) ?_))))))
 refine wL_call (vs := [.agg #[.int .i64 ro, .int .i64 ep, .int .i64 fr, .int .i64 tg, .int .i64 rd, .slice A l.length c]]) (wn rfl) rfl rfl (e_call (vs := [.agg #[.int .i64 ro, .int .i64 ep, .int .i64 fr, .int .i64 tg, .int .i64 rd, .slice A l.length c]]) rfl en76 ⟨rfl, trivial⟩) (BCheck_calls ro ep fr tg rd A c l _ (St.rd 2 S6 rfl) (by omega)) ?_
 rintro _ w7 ⟨rfl, hb9⟩
 refine ⟨_, rfl, ?_⟩
 have S8 := S6.on hb9; clear hb9 S6
 refine wL_val (wn rfl) rfl rfl (y_assign rfl rfl) ?_
 refine wL_nil (wQ_sub (l' := [(1, _), (2, _), (3, _), (4, _), (5, _), (10, _), (11, _), (12, _)]) ⟨rfl, rfl, rfl, rfl, rfl, rfl, rfl, rfl, trivial⟩ (wQ_then (wC_block (wC_seq (wC_region (wL_val (wn rfl) rfl rfl (y_move rfl rfl) ?_))))))
 by_cases h10 : brtFault ⟨ro, ep, fr, tg, rd, l⟩ = 0
 ·have hsh := (bf_zero h10).1
  unfold shapeB at hsh
  have hln := tellM_len (bf_zero h10).2
  dsimp only at hsh hln
  refine wL_val (v := .bool false) (wn rfl) rfl rfl (y_binop rfl rfl rfl (r_neq_f h10)) ?_
  refine wL_val (wn rfl) rfl rfl (y_assign rfl rfl) ?_
  refine wL_nil (wQ_sub (l' := [(1, _), (2, _), (3, _), (4, _), (5, _), (10, _), (11, _), (12, _), (17, _)]) ⟨rfl, rfl, rfl, rfl, rfl, rfl, rfl, rfl, rfl, trivial⟩ (wQ_then (wC_cond_f rfl (wC_seq (wC_region (wL_val (v := .pointer (some ⟨b1, 0, none⟩)) (wn rfl) rfl rfl (y_fieldAddr rfl rfl (fa108_0 _ _ _)) ?_))))))
  refine wL_val (wn rfl) rfl rfl (y_load rfl rfl (r_load Try.underlying3 rfl (St.cl 1 S8 rfl rfl))) ?_
  by_cases h11 : ro = 4
  ·refine wL_val (v := .bool false) (wn rfl) rfl rfl (y_binop rfl rfl rfl (r_neq_f h11)) ?_
   refine wL_val (wn rfl) rfl rfl (y_assign rfl rfl) ?_
   refine wL_nil (wQ_sub (l' := [(1, _), (2, _), (3, _), (4, _), (5, _), (10, _), (11, _), (22, _)]) ⟨rfl, rfl, rfl, rfl, rfl, rfl, rfl, rfl, trivial⟩ (wQ_then (wC_cond_f rfl (wC_seq (wC_region (wL_val (v := .pointer (some ⟨b1, 1, none⟩)) (wn rfl) rfl rfl (y_fieldAddr rfl rfl (fa108_1 _ _ _)) ?_))))))
   refine wL_val (wn rfl) rfl rfl (y_load rfl rfl (r_load Try.underlying3 rfl (St.cl 1 S8 rfl rfl))) ?_
   refine wL_val (wn rfl) rfl rfl (y_move rfl rfl) ?_
   by_cases h12 : ep = e
   ·refine wL_val (v := .bool false) (wn rfl) rfl rfl (y_binop rfl rfl rfl (r_neq_f h12)) ?_
    refine wL_val (wn rfl) rfl rfl (y_assign rfl rfl) ?_
    refine wL_nil (wQ_sub (l' := [(1, _), (2, _), (3, _), (4, _), (5, _), (10, _), (11, _), (27, _)]) ⟨rfl, rfl, rfl, rfl, rfl, rfl, rfl, rfl, trivial⟩ (wQ_then (wC_cond_f rfl (wC_seq (wC_region (wL_val (wn rfl) rfl rfl (y_move rfl rfl) ?_))))))
    by_cases h13 : at_ < 0
    ·refine wL_val (v := .bool true) (wn rfl) rfl rfl (y_binop rfl rfl rfl (r_lss_t h13)) ?_
     refine wL_val (wn rfl) rfl rfl (y_move rfl rfl) ?_
     refine wL_skip (wg rfl rfl rfl rfl) rfl rfl ?_
     refine wL_skip (wg rfl rfl rfl rfl) rfl rfl ?_
     refine wL_skip (wg rfl rfl rfl rfl) rfl rfl ?_
     refine wL_skip (wg rfl rfl rfl rfl) rfl rfl ?_
     refine wL_skip (wg rfl rfl rfl rfl) rfl rfl ?_
     refine wL_val (wn rfl) rfl rfl (y_pick_t rfl rfl rfl) ?_
     refine wL_val (wn rfl) rfl rfl (y_assign rfl rfl) ?_
     refine wL_nil (wQ_sub (l' := [(1, _), (2, _), (3, _), (4, _), (5, _), (10, _), (11, _), (33, _)]) ⟨rfl, rfl, rfl, rfl, rfl, rfl, rfl, rfl, trivial⟩ (wQ_then (wC_cond_t rfl (wC_seq (wC_region (wL_val (v := .agg #[.int .i64 0, .int .i64 0, .int .i64 0, .int .i64 0, .int .i64 0, .slice none 0 0]) (wn rfl) rfl rfl (y_build (vs := []) rfl trivial (by kernel_rfl)) ?_))))))
     refine wL_st (fs' := [_, _, _, _]) 0 S8 (wn rfl) rfl rfl rfl rfl rfl rfl inf108 rfl (oneAll rfl) (Nat.le_of_ble_eq_true rfl) (setAll_all rfl) rfl ?_; intro w14 S15; clear S8
     refine wL_val (wn rfl) rfl rfl (y_assign rfl rfl) ?_
     refine wL_nil (wQ_sub (l' := [(10, _), (11, _)]) ⟨rfl, rfl, trivial⟩ (wQ_then (wC_ret (wQ_blk_ret (wQ_then_ret (wQ_post (rs := [.cell 10 108, .tmp 11]) (vs := [.agg #[.int .i64 0, .int .i64 0, .int .i64 0, .int .i64 0, .int .i64 0, .slice none 0 0], .int .i64 2]) rfl ⟨⟨_, rfl, res_row 0 S15 rfl Try.underlying108 rfl inf108⟩, rfl, trivial⟩ ?_))))))
     have S16 : St w.heap.size w w14 [] := (St.del 0 (St.del 1 (St.del 2 (St.del 3 S15)))); clear S15
     rw [show importM ⟨ro, ep, fr, tg, rd, l⟩ e at_ K last = (zeroB, 2) from by unfold importM; (try dsimp only); (repeat' (first | rfl | omega | split)) <;> (simp only [Prod.mk.injEq, Brt.mk.injEq, and_true, true_and, and_self]; omega)]
     exact ⟨none, 0, rfl, rdo_nil S16⟩
    ·refine wL_val (v := .bool false) (wn rfl) rfl rfl (y_binop rfl rfl rfl (r_lss_f h13)) ?_
     refine wL_val (wn rfl) rfl rfl (y_move rfl rfl) ?_
     refine wL_val (wg rfl rfl rfl rfl) rfl rfl (y_move rfl rfl) ?_
     refine wL_val (v := .pointer (some ⟨b1, 5, none⟩)) (wg rfl rfl rfl rfl) rfl rfl (y_fieldAddr rfl rfl (fa108_5 _ _ _)) ?_
     refine wL_val (wg rfl rfl rfl rfl) rfl rfl (y_load rfl rfl (r_load Try.underlying57 rfl (St.cl 1 S8 rfl rfl))) ?_
     refine wL_val (v := .int .i64 ((l.length : Nat) : Int)) (wg rfl rfl rfl rfl) rfl rfl (y_builtin (vs := [.slice A l.length c]) rfl ⟨rfl, trivial⟩ fun _ => r_len rfl Try.underlying57) ?_
     by_cases h17 : ((l.length : Nat) : Int) < at_
     ·refine wL_val (v := .bool true) (wg rfl rfl rfl rfl) rfl rfl (y_binop rfl rfl rfl (r_gtr_t h17)) ?_
      refine wL_val (wn rfl) rfl rfl (y_pick_f rfl rfl rfl) ?_
      refine wL_val (wn rfl) rfl rfl (y_assign rfl rfl) ?_
      refine wL_nil (wQ_sub (l' := [(1, _), (2, _), (3, _), (4, _), (5, _), (10, _), (11, _), (33, _)]) ⟨rfl, rfl, rfl, rfl, rfl, rfl, rfl, rfl, trivial⟩ (wQ_then (wC_cond_t rfl (wC_seq (wC_region (wL_val (v := .agg #[.int .i64 0, .int .i64 0, .int .i64 0, .int .i64 0, .int .i64 0, .slice none 0 0]) (wn rfl) rfl rfl (y_build (vs := []) rfl trivial (by kernel_rfl)) ?_))))))
      refine wL_st (fs' := [_, _, _, _]) 0 S8 (wn rfl) rfl rfl rfl rfl rfl rfl inf108 rfl (oneAll rfl) (Nat.le_of_ble_eq_true rfl) (setAll_all rfl) rfl ?_; intro w18 S19; clear S8
      refine wL_val (wn rfl) rfl rfl (y_assign rfl rfl) ?_
      refine wL_nil (wQ_sub (l' := [(10, _), (11, _)]) ⟨rfl, rfl, trivial⟩ (wQ_then (wC_ret (wQ_blk_ret (wQ_then_ret (wQ_post (rs := [.cell 10 108, .tmp 11]) (vs := [.agg #[.int .i64 0, .int .i64 0, .int .i64 0, .int .i64 0, .int .i64 0, .slice none 0 0], .int .i64 2]) rfl ⟨⟨_, rfl, res_row 0 S19 rfl Try.underlying108 rfl inf108⟩, rfl, trivial⟩ ?_))))))
      have S20 : St w.heap.size w w18 [] := (St.del 0 (St.del 1 (St.del 2 (St.del 3 S19)))); clear S19
      rw [show importM ⟨ro, ep, fr, tg, rd, l⟩ e at_ K last = (zeroB, 2) from by unfold importM; (try dsimp only); (repeat' (first | rfl | omega | split)) <;> (simp only [Prod.mk.injEq, Brt.mk.injEq, and_true, true_and, and_self]; omega)]
      exact ⟨none, 0, rfl, rdo_nil S20⟩
     ·refine wL_val (v := .bool false) (wg rfl rfl rfl rfl) rfl rfl (y_binop rfl rfl rfl (r_gtr_f h17)) ?_
      refine wL_val (wn rfl) rfl rfl (y_pick_f rfl rfl rfl) ?_
      refine wL_val (wn rfl) rfl rfl (y_assign rfl rfl) ?_
      refine wL_nil (wQ_sub (l' := [(1, _), (2, _), (3, _), (4, _), (5, _), (10, _), (11, _), (33, _)]) ⟨rfl, rfl, rfl, rfl, rfl, rfl, rfl, rfl, trivial⟩ (wQ_then (wC_cond_f rfl (wC_skip (wQ_blk_n (wQ_then (wC_seq ?_)))))))
      obtain rfl : ro = 4 := by omega
      obtain rfl : tg = 0 := by omega
      obtain rfl : rd = 0 := by omega
      obtain rfl : e = ep := by omega
      clear hsh
      have hbL : (l.length + K.length + 1) * 48 ≤ reachBytes := Nat.le_trans (Nat.mul_le_mul_right 48 (by omega)) hbK
      have hb3 := hbL
      unfold reachBytes at hb3
      obtain ⟨k, rfl⟩ : ∃ k : Nat, at_ = k := ⟨at_.toNat, by omega⟩
      obtain ⟨d, hd⟩ : ∃ d, l.length = k + d := ⟨l.length - k, by omega⟩
      obtain ⟨p, hp⟩ : ∃ p, min d K.length = p := ⟨_, rfl⟩
      have hqm := Lib.hid (imp_iff (l := l) (K := K) hd hp)
      refine wC_region (wL_val (v := .pointer (some ⟨b1, 5, none⟩)) (wn rfl) rfl rfl (y_fieldAddr rfl rfl (fa108_5 _ _ _)) ?_)
      refine wL_val (wn rfl) rfl rfl (y_load rfl rfl (r_load Try.underlying57 rfl (St.cl 1 S8 rfl rfl))) ?_
      refine wL_val (v := .int .i64 ((l.length : Nat) : Int)) (wn rfl) rfl rfl (y_builtin (vs := [.slice A l.length c]) rfl ⟨rfl, trivial⟩ fun _ => r_len rfl Try.underlying57) ?_
      refine wL_val (wn rfl) rfl rfl (y_move rfl rfl) ?_
      refine wL_val (v := .int .i64 ((d : Nat) : Int)) (wn rfl) rfl rfl (y_binop rfl rfl rfl (r_sub (by omega) (by omega))) ?_
      refine wL_val (wn rfl) rfl rfl (y_move rfl rfl) ?_
      refine wL_val (v := .int .i64 ((K.length : Nat) : Int)) (wn rfl) rfl rfl (y_builtin (vs := [.slice A2 K.length c2]) rfl ⟨rfl, trivial⟩ fun _ => r_len rfl Try.underlying57) ?_
      refine wL_val (v := .int .i64 ((p : Nat) : Int)) (wn rfl) rfl rfl (y_builtin (vs := [.int .i64 ((d : Nat) : Int), .int .i64 ((K.length : Nat) : Int)]) rfl ⟨rfl, rfl, trivial⟩ fun _ => by rw [r_minN, hp]) ?_
      refine wL_val (wn rfl) rfl rfl (y_assign rfl rfl) ?_
      refine wL_nil (wQ_sub (l' := [(1, _), (2, _), (3, _), (4, _), (5, _), (10, _), (11, _), (13, _)]) ⟨rfl, rfl, rfl, rfl, rfl, rfl, rfl, rfl, trivial⟩ (wQ_then (wC_seq ?_)))
      obtain ⟨A21, hs22, hr23, hk24⟩ := eslice (P := Try.prog) (t := 57) (enc := Ev.cells) (s := 6) (fun _ => rfl) (A := A) (b := l) (n := l.length) (c := c) (lo := (some (.int .i64 ((k : Nat) : Int)))) (hi := (some (.int .i64 ((k + p : Nat) : Int)))) (mx := (some (.int .i64 ((k + p : Nat) : Int)))) (l := k) (k := k + p) (q := k + p) (m := p) (c' := p) Try.underlying57 inf37 (sb_lhm k (k + p) (k + p) rfl rfl rfl (by omega) (by omega) (by omega)) (by omega) (by omega) (by omega) (by omega) (by omega)
      have S25 := S8.addRd (hr23 _ _ (S8.all 2 _ rfl)); clear S8
      change St _ _ _ [.rd 6 A21 p (((l.drop k).take p).flatMap Ev.cells), _, _, _, _] at S25
      obtain ⟨A26, hs27, hr28, hk29⟩ := eslice (P := Try.prog) (t := 57) (enc := Ev.cells) (s := 6) (fun _ => rfl) (A := A2) (b := K) (n := K.length) (c := c2) (lo := none) (hi := (some (.int .i64 ((p : Nat) : Int)))) (mx := (some (.int .i64 ((p : Nat) : Int)))) (l := 0) (k := p) (q := p) (m := p) (c' := p) Try.underlying57 inf37 (sb_hm p p rfl rfl (by omega) (by omega)) (by omega) (by omega) (by omega) (by omega) (by omega)
      have S30 := S25.addRd (hr28 _ _ (S25.all 4 _ rfl)); clear S25
      change St _ _ _ [.rd 6 A26 p (((K.drop 0).take p).flatMap Ev.cells), _, _, _, _, _] at S30
      have S31 := S30; clear S30
      rw [List.drop_zero] at S31
      change St _ _ _ [.rd 6 A26 p ((K.take p).flatMap Ev.cells), _, _, _, _, _] at S31
      refine wC_seq (wC_quiet S31 mixed (by kernel_rfl) ?_)
      refine wU_val (v := .pointer (some ⟨b1, 5, none⟩)) (wn rfl) rfl rfl (fun _ _ => (y_fieldAddr rfl rfl (fa108_5 _ _ _))) ?_
      refine wU_val (v := .slice A l.length c) (wn rfl) rfl rfl (fun _ Sx33 => (y_load rfl rfl (r_load Try.underlying57 rfl (St.cl 3 Sx33 rfl rfl)))) ?_
      refine wU_val (v := .int .i64 ((k : Nat) : Int)) (wn rfl) rfl rfl (fun _ _ => (y_move rfl rfl)) ?_
      refine wU_val (v := .int .i64 ((k : Nat) : Int)) (wn rfl) rfl rfl (fun _ _ => (y_move rfl rfl)) ?_
      refine wU_val (v := .int .i64 ((p : Nat) : Int)) (wn rfl) rfl rfl (fun _ _ => (y_move rfl rfl)) ?_
      refine wU_val (v := .int .i64 ((k + p : Nat) : Int)) (wn rfl) rfl rfl (fun _ _ => (y_binop rfl rfl rfl (r_add (by omega) (by omega)))) ?_
      refine wU_val (v := .int .i64 ((k : Nat) : Int)) (wn rfl) rfl rfl (fun _ _ => (y_move rfl rfl)) ?_
      refine wU_val (v := .int .i64 ((p : Nat) : Int)) (wn rfl) rfl rfl (fun _ _ => (y_move rfl rfl)) ?_
      refine wU_val (v := .int .i64 ((k + p : Nat) : Int)) (wn rfl) rfl rfl (fun _ _ => (y_binop rfl rfl rfl (r_add (by omega) (by omega)))) ?_
      refine wU_val (v := .slice A21 p p) (wn rfl) rfl rfl (fun _ _ => (y_slice rfl rfl (evo_s rfl) (evo_s rfl) (evo_s rfl) (hs22 _))) ?_
      refine wU_val (v := .slice A2 K.length c2) (wn rfl) rfl rfl (fun _ _ => (y_move rfl rfl)) ?_
      refine wU_val (v := .int .i64 ((p : Nat) : Int)) (wn rfl) rfl rfl (fun _ _ => (y_move rfl rfl)) ?_
      refine wU_val (v := .int .i64 ((p : Nat) : Int)) (wn rfl) rfl rfl (fun _ _ => (y_move rfl rfl)) ?_
      refine wU_val (v := .slice A26 p p) (wn rfl) rfl rfl (fun _ _ => (y_slice rfl rfl evo_n (evo_s rfl) (evo_s rfl) (hs27 _))) ?_
      have HE := fun (w : World) h h1 => EqualE_calls A21 A26 p p p ((l.drop k).take p) (K.take p) w h h1 (by rw [List.length_take, List.length_drop]; omega) (by rw [List.length_take]; omega) (by omega)
      by_cases hq : (l.drop k).take p = K.take p
      ·rw [decide_eq_true hq] at HE
       refine wU_call (v := .bool true) (vs := [.slice A21 p p, .slice A26 p p]) (wn rfl) rfl rfl (fun _ => (e_call (vs := [.slice A21 p p, .slice A26 p p]) rfl en162 ⟨rfl, rfl, trivial⟩)) (fun _ Sx46 => (HE _ (St.rd 1 Sx46 rfl) (St.rd 0 Sx46 rfl)).mono fun _ _ h => ⟨h.1, Sx46.on h.2⟩) ?_; clear HE
       refine wU_val (v := .bool false) (wn rfl) rfl rfl (fun _ _ => (y_unop rfl rfl r_not)) ?_
       refine wU_nil fun w48 S49 => ?_; clear S31
       refine wQ_sub (l' := [(1, _), (2, _), (3, _), (4, _), (5, _), (10, _), (11, _), (13, _), (67, _)]) ⟨rfl, rfl, rfl, rfl, rfl, rfl, rfl, rfl, rfl, trivial⟩ (wQ_then (wC_cond_f rfl (wC_skip (wQ_then ?_))))
       have hpd := imp_drop (K := K) hp
       obtain ⟨A50, hs51, hr52, hk53⟩ := eslice (P := Try.prog) (t := 57) (enc := Ev.cells) (s := 6) (fun _ => rfl) (A := A2) (b := K) (n := K.length) (c := c2) (lo := (some (.int .i64 ((p : Nat) : Int)))) (hi := none) (mx := none) (l := p) (k := K.length) (q := c2) (m := (K.drop d).length) (c' := c2 - p) Try.underlying57 inf37 (sb_l p rfl (by omega)) (by omega) (by omega) (by omega) (by rw [List.length_drop]; omega) (by omega)
       have S54 := S49.addRd (hr52 _ _ (S49.all 5 _ rfl)); clear S49
       change St _ _ _ [.rd 6 A50 ((K.drop d).length) (((K.drop p).take ((K.drop d).length)).flatMap Ev.cells), _, _, _, _, _, _] at S54
       have S55 := S54; clear S54
       rw [hpd, List.take_length] at S55
       change St _ _ _ [.rd 6 A50 ((K.drop d).length) ((K.drop d).flatMap Ev.cells), _, _, _, _, _, _] at S55
       have hlk : (l ++ (K.drop d)).length = l.length + (K.length - d) := by simp
       have hw2 : ((l ++ (K.drop d)).length + ([brkEv] : List Ev).length) * 48 ≤ reachBytes := by rw [hlk]; exact Nat.le_trans (Nat.mul_le_mul_right 48 (by simp only [List.length_cons, List.length_nil]; omega)) hbL
       refine wC_cut (X := Nat × (Option Addr) × Nat) (fun xv => [(1, .int .i64 e), (2, .int .i64 ((k : Nat) : Int)), (3, .slice A2 K.length c2), (4, .bool last), (5, .pointer (some ⟨b1, 0, none⟩)), (10, .pointer (some ⟨b4, 0, none⟩)), (11, .int .i64 0), (14, .pointer (some ⟨xv.1, 0, none⟩))]) (fun xv wr => St w.heap.size w wr [.blk xv.1 #[.int .i64 4, .int .i64 e, .int .i64 fr, .int .i64 0, .int .i64 0, .slice xv.2.1 ((l ++ (K.drop d)).length) xv.2.2] 108, .own 37 6 (.slice xv.2.1 ((l ++ (K.drop d)).length) xv.2.2) ((l ++ (K.drop d)).length) ((l ++ (K.drop d)).flatMap Ev.cells), .rd 6 A50 ((K.drop d).length) ((K.drop d).flatMap Ev.cells), .rd 6 A26 p ((K.take p).flatMap Ev.cells), .rd 6 A21 p (((l.drop k).take p).flatMap Ev.cells), .blk b4 #[.int .i64 0, .int .i64 0, .int .i64 0, .int .i64 0, .int .i64 0, .slice none 0 0] 108, .blk b1 #[.int .i64 4, .int .i64 e, .int .i64 fr, .int .i64 0, .int .i64 0, .slice A l.length c] 108, .rd 6 A l.length ((l).flatMap Ev.cells), .rd 6 A2 K.length ((K).flatMap Ev.cells)]) ?_ ?_
       ·have S56 := S55.drew; clear S55
        refine wC_head (C := fun w' => St w.heap.size w w' [.rd 6 A50 ((K.drop d).length) ((K.drop d).flatMap Ev.cells), .rd 6 A26 p ((K.take p).flatMap Ev.cells), .rd 6 A21 p (((l.drop k).take p).flatMap Ev.cells), .blk b4 #[.int .i64 0, .int .i64 0, .int .i64 0, .int .i64 0, .int .i64 0, .slice none 0 0] 108, .blk b1 #[.int .i64 4, .int .i64 e, .int .i64 fr, .int .i64 0, .int .i64 0, .slice A l.length c] 108, .rd 6 A l.length ((l).flatMap Ev.cells), .rd 6 A2 K.length ((K).flatMap Ev.cells)]) (m := 7) (listed := #[false, false, false, false, false, false, false]) 6 mixed rfl rfl ?_
        refine wG_take (v := .agg #[.int .i64 4, .int .i64 e, .int .i64 fr, .int .i64 0, .int .i64 0, .slice A l.length c]) (i := 0) (m := 6) (listed' := #[true, false, false, false, false, false, false]) rfl (by kernel_rfl) (by kernel_rfl) (by kernel_rfl) rfl (by kernel_rfl) rfl S56 rfl (wn rfl) rfl rfl (fun _ Sx57 => (y_load rfl rfl (r_load_row 4 Sx57 rfl Try.underlying108 rfl inf108 rfl))) ?_
        refine wG_take (v := .slice A2 K.length c2) (i := 1) (m := 5) (listed' := #[true, true, false, false, false, false, false]) rfl (by kernel_rfl) (by kernel_rfl) (by kernel_rfl) rfl (by kernel_rfl) rfl S56 rfl (wn rfl) rfl rfl (fun _ _ => (y_move rfl rfl)) ?_
        refine wG_take (v := .int .i64 ((p : Nat) : Int)) (i := 2) (m := 4) (listed' := #[true, true, true, false, false, false, false]) rfl (by kernel_rfl) (by kernel_rfl) (by kernel_rfl) rfl (by kernel_rfl) rfl S56 rfl (wn rfl) rfl rfl (fun _ _ => (y_move rfl rfl)) ?_
        refine wG_take (v := .slice A50 ((K.drop d).length) (c2 - p)) (i := 3) (m := 3) (listed' := #[true, true, true, true, false, false, false]) rfl (by kernel_rfl) (by kernel_rfl) (by kernel_rfl) rfl (by kernel_rfl) rfl S56 rfl (wn rfl) rfl rfl (fun _ _ => (y_slice rfl rfl (evo_s rfl) evo_n evo_n (hs51 _))) ?_
        refine wG_two (m := 2) (r := 4) (s := 5) (by kernel_rfl) ?_ ?_
        ·refine wH_call (i := 4) (listed' := #[true, true, true, true, true, false, false]) rfl rfl (vs := [.agg #[.int .i64 4, .int .i64 e, .int .i64 fr, .int .i64 0, .int .i64 0, .slice A l.length c], .slice A50 ((K.drop d).length) (c2 - p)]) (wn rfl) rfl rfl (e_call (vs := [.agg #[.int .i64 4, .int .i64 e, .int .i64 fr, .int .i64 0, .int .i64 0, .slice A l.length c], .slice A50 ((K.drop d).length) (c2 - p)]) rfl en160 ⟨rfl, rfl, trivial⟩) (with_calls 4 e fr 0 0 A c l A50 (c2 - p) (K.drop d) _ (St.rd 5 S56 rfl) (St.rd 0 S56 rfl) (by rw [List.length_drop]; unfold reachBytes; omega)) ?_
         rintro _ w63 ⟨A61, c62, rfl, T65⟩
         refine ⟨_, rfl, ?_⟩
         have S64 := S56.ext T65 rfl; clear T65 S56
         change St _ _ _ [.own 37 6 (.slice A61 ((l ++ (K.drop d)).length) c62) ((l ++ (K.drop d)).length) ((l ++ (K.drop d)).flatMap Ev.cells), _, _, _, _, _, _, _] at S64
         refine ⟨(St.del 0 S64), ?_⟩
         refine wG_one (m := 1) (r := 5) (by kernel_rfl) ?_
         refine wH_new (i := 5) (listed' := #[true, true, true, true, true, true, false]) rfl rfl (V := fun b => .pointer (some ⟨b, 0, none⟩)) (row := #[.int .i64 0, .int .i64 0, .int .i64 0, .int .i64 0, .int .i64 0, .slice none 0 0]) (t := 108) S64 (wn rfl) rfl rfl (d_alloc rfl (Try.zeroValue108 _) rfl) ?_; intro b66 w67 S68; clear S64
         refine ⟨(St.del 0 (St.del 1 S68)), ?_⟩
         refine wG_tail (by kernel_rfl) rfl rfl rfl ?_
         refine wL_st (fs' := [_, _, _, _, _, _, _, _, _]) 0 S68 (wn rfl) rfl rfl rfl rfl rfl rfl inf108 rfl (oneAll rfl) (Nat.le_of_ble_eq_true rfl) (setAll_all rfl) rfl ?_; intro w69 S70; clear S68
         refine wL_nil (wQ_np ?_)
         refine wQ_sub (l' := [(1, _), (2, _), (3, _), (4, _), (5, _), (10, _), (11, _), (14, _)]) ⟨rfl, rfl, rfl, rfl, rfl, rfl, rfl, rfl, trivial⟩ (wQ_cut (b66, A61, c62) ?_ ⟨rfl, rfl, rfl, rfl, rfl, rfl, rfl, rfl, trivial⟩)
         exact S70
        ·refine wH_new (i := 5) (listed' := #[true, true, true, true, false, true, false]) rfl rfl (V := fun b => .pointer (some ⟨b, 0, none⟩)) (row := #[.int .i64 0, .int .i64 0, .int .i64 0, .int .i64 0, .int .i64 0, .slice none 0 0]) (t := 108) S56 (wn rfl) rfl rfl (d_alloc rfl (Try.zeroValue108 _) rfl) ?_; intro b71 w72 S73; clear S56
         refine ⟨(St.del 0 S73), ?_⟩
         refine wG_one (m := 1) (r := 4) (by kernel_rfl) ?_
         refine wH_call (i := 4) (listed' := #[true, true, true, true, true, true, false]) rfl rfl (vs := [.agg #[.int .i64 4, .int .i64 e, .int .i64 fr, .int .i64 0, .int .i64 0, .slice A l.length c], .slice A50 ((K.drop d).length) (c2 - p)]) (wn rfl) rfl rfl (e_call (vs := [.agg #[.int .i64 4, .int .i64 e, .int .i64 fr, .int .i64 0, .int .i64 0, .slice A l.length c], .slice A50 ((K.drop d).length) (c2 - p)]) rfl en160 ⟨rfl, rfl, trivial⟩) (with_calls 4 e fr 0 0 A c l A50 (c2 - p) (K.drop d) _ (St.rd 6 S73 rfl) (St.rd 1 S73 rfl) (by rw [List.length_drop]; unfold reachBytes; omega)) ?_
         rintro _ w76 ⟨A74, c75, rfl, T78⟩
         refine ⟨_, rfl, ?_⟩
         have S77 := S73.ext T78 rfl; clear T78 S73
         change St _ _ _ [.own 37 6 (.slice A74 ((l ++ (K.drop d)).length) c75) ((l ++ (K.drop d)).length) ((l ++ (K.drop d)).flatMap Ev.cells), _, _, _, _, _, _, _, _] at S77
         refine ⟨(St.del 0 (St.del 1 S77)), ?_⟩
         refine wG_tail (by kernel_rfl) rfl rfl rfl ?_
         refine wL_st (fs' := [_, _, _, _, _, _, _, _, _]) 1 S77 (wn rfl) rfl rfl rfl rfl rfl rfl inf108 rfl (oneAll rfl) (Nat.le_of_ble_eq_true rfl) (setAll_all rfl) rfl ?_; intro w79 S80; clear S77
         refine wL_nil (wQ_np ?_)
         refine wQ_sub (l' := [(1, _), (2, _), (3, _), (4, _), (5, _), (10, _), (11, _), (14, _)]) ⟨rfl, rfl, rfl, rfl, rfl, rfl, rfl, rfl, trivial⟩ ?_
         have S81 : St w.heap.size w w79 [_, _, _, _, _, _, _, _, _] := S80.re [1, 0, 2, 3, 4, 5, 6, 7, 8] (by decide); clear S80
         refine wQ_cut (b71, A74, c75) ?_ ⟨rfl, rfl, rfl, rfl, rfl, rfl, rfl, rfl, trivial⟩
         exact S81
       ·rintro ⟨b82, A83, c84⟩ w85 S86
        try dsimp only at S86; clear S55
        refine wC_sub (l' := [(1, .int .i64 e), (2, .int .i64 ((k : Nat) : Int)), (3, .slice A2 K.length c2), (4, .bool last), (5, .pointer (some ⟨b1, 0, none⟩)), (10, .pointer (some ⟨b4, 0, none⟩)), (11, .int .i64 0), (14, .pointer (some ⟨b82, 0, none⟩))]) ⟨rfl, rfl, rfl, rfl, rfl, rfl, rfl, rfl, trivial⟩ (wC_seq (wC_block (wC_seq (wC_region (wL_val (wn rfl) rfl rfl (y_move rfl rfl) ?_)))))
        refine wL_val (wn rfl) rfl rfl (y_move rfl rfl) ?_
        cases hb87 : (last)
        ·refine wL_skip (wg rfl rfl rfl rfl) rfl rfl ?_
         refine wL_skip (wg rfl rfl rfl rfl) rfl rfl ?_
         refine wL_skip (wg rfl rfl rfl rfl) rfl rfl ?_
         refine wL_skip (wg rfl rfl rfl rfl) rfl rfl ?_
         refine wL_skip (wg rfl rfl rfl rfl) rfl rfl ?_
         refine wL_skip (wg rfl rfl rfl rfl) rfl rfl ?_
         refine wL_skip (wg rfl rfl rfl rfl) rfl rfl ?_
         refine wL_skip (wg rfl rfl rfl rfl) rfl rfl ?_
         refine wL_val (wn rfl) rfl rfl (y_pick_f rfl rfl rfl) ?_
         refine wL_val (wn rfl) rfl rfl (y_assign rfl rfl) ?_
         refine wL_nil (wQ_sub (l' := [(1, _), (4, _), (10, _), (11, _), (14, _), (74, _)]) ⟨rfl, rfl, rfl, rfl, rfl, rfl, trivial⟩ (wQ_then (wC_cond_f rfl (wC_seq (wC_region (wL_val (wn rfl) rfl rfl (y_move rfl rfl) ?_))))))
         refine wL_val (wn rfl) rfl rfl (y_assign rfl rfl) ?_
         refine wL_nil (wQ_sub (l' := [(1, _), (10, _), (11, _), (14, _), (87, _)]) ⟨rfl, rfl, rfl, rfl, rfl, trivial⟩ (wQ_then (wC_cond_f rfl (wC_skip (wQ_blk_n (wQ_then (wC_seq (wC_seq (wC_region (wL_val (wn rfl) rfl rfl (y_load rfl rfl (r_load_row 0 S86 rfl Try.underlying108 rfl inf108 rfl)) ?_))))))))))
         refine wL_call (vs := [.agg #[.int .i64 4, .int .i64 e, .int .i64 fr, .int .i64 0, .int .i64 0, .slice A83 ((l ++ (K.drop d)).length) c84]]) (wn rfl) rfl rfl (e_call (vs := [.agg #[.int .i64 4, .int .i64 e, .int .i64 fr, .int .i64 0, .int .i64 0, .slice A83 ((l ++ (K.drop d)).length) c84]]) rfl en76 ⟨rfl, trivial⟩) (BCheck_calls 4 e fr 0 0 A83 c84 (l ++ (K.drop d)) _ (St.ord 1 S86 rfl) (by simp only [List.length_append, List.length_cons, List.length_nil, List.length_drop]; omega)) ?_
         rintro _ w88 ⟨rfl, hb90⟩
         refine ⟨_, rfl, ?_⟩
         have S89 := S86.on hb90; clear hb90 S86
         by_cases h91 : brtFault ⟨4, e, fr, 0, 0, l ++ (K.drop d)⟩ = 0
         ·refine wL_val (v := .bool false) (wn rfl) rfl rfl (y_binop rfl rfl rfl (r_neq_f h91)) ?_
          refine wL_nil (wQ_sub (l' := [(10, _), (11, _), (14, _), (98, _)]) ⟨rfl, rfl, rfl, rfl, trivial⟩ (wQ_then (wC_cond_f rfl (wC_skip (wQ_then (wC_seq (wC_region (wL_val (wn rfl) rfl rfl (y_load rfl rfl (r_load_row 0 S89 rfl Try.underlying108 rfl inf108 rfl)) ?_))))))))
          refine wL_st (fs' := [_, _, _, _, _, _, _, _, _]) 5 S89 (wn rfl) rfl rfl rfl rfl rfl rfl inf108 rfl (oneAll rfl) (Nat.le_of_ble_eq_true rfl) (setAll_all rfl) rfl ?_; intro w92 S93; clear S89
          refine wL_val (wn rfl) rfl rfl (y_assign rfl rfl) ?_
          refine wL_nil (wQ_sub (l' := [(10, _), (11, _)]) ⟨rfl, rfl, trivial⟩ (wQ_then (wC_ret (wQ_post (rs := [.cell 10 108, .tmp 11]) (vs := [.agg #[.int .i64 4, .int .i64 e, .int .i64 fr, .int .i64 0, .int .i64 0, .slice A83 ((l ++ (K.drop d)).length) c84], .int .i64 0]) rfl ⟨⟨_, rfl, res_row 5 S93 rfl Try.underlying108 rfl inf108⟩, rfl, trivial⟩ ?_))))
          rw [imp_go (b := ⟨4, e, fr, 0, 0, l⟩) (k := k) h10 rfl rfl (by dsimp only; omega)]
          dsimp only
          rw [show l.length - k = d from by omega]
          rw [if_neg (fun h => h (hqm.out.2 hq))]
          rw [if_neg (by simp)]
          rw [impNew_f]
          dsimp only
          rw [if_neg (fun h => h h91)]
          have S94 : St w.heap.size w w92 [_] := (St.del 0 (St.del 2 (St.del 3 (St.del 4 (St.del 5 (St.del 6 (St.del 7 (St.del 8 S93)))))))); clear S93
          have S95 := S94.sealAll 0 rfl; clear S94
          change St _ _ _ [.rdo 6 A83 ((l ++ (K.drop d)).length) ((l ++ (K.drop d)).flatMap Ev.cells)] at S95
          exact ⟨A83, c84, rfl, S95⟩
         ·refine wL_val (v := .bool true) (wn rfl) rfl rfl (y_binop rfl rfl rfl (r_neq_t h91)) ?_
          refine wL_nil (wQ_sub (l' := [(10, _), (11, _), (14, _), (98, _)]) ⟨rfl, rfl, rfl, rfl, trivial⟩ (wQ_then (wC_cond_t rfl (wC_seq (wC_region (wL_val (v := .agg #[.int .i64 0, .int .i64 0, .int .i64 0, .int .i64 0, .int .i64 0, .slice none 0 0]) (wn rfl) rfl rfl (y_build (vs := []) rfl trivial (by kernel_rfl)) ?_))))))
          refine wL_st (fs' := [_, _, _, _, _, _, _, _, _]) 5 S89 (wn rfl) rfl rfl rfl rfl rfl rfl inf108 rfl (oneAll rfl) (Nat.le_of_ble_eq_true rfl) (setAll_all rfl) rfl ?_; intro w96 S97; clear S89
          refine wL_val (wn rfl) rfl rfl (y_assign rfl rfl) ?_
          refine wL_nil (wQ_sub (l' := [(10, _), (11, _)]) ⟨rfl, rfl, trivial⟩ (wQ_then (wC_ret (wQ_then_ret (wQ_post (rs := [.cell 10 108, .tmp 11]) (vs := [.agg #[.int .i64 0, .int .i64 0, .int .i64 0, .int .i64 0, .int .i64 0, .slice none 0 0], .int .i64 3]) rfl ⟨⟨_, rfl, res_row 5 S97 rfl Try.underlying108 rfl inf108⟩, rfl, trivial⟩ ?_)))))
          rw [imp_go (b := ⟨4, e, fr, 0, 0, l⟩) (k := k) h10 rfl rfl (by dsimp only; omega)]
          dsimp only
          rw [show l.length - k = d from by omega]
          rw [if_neg (fun h => h (hqm.out.2 hq))]
          rw [if_neg (by simp)]
          rw [impNew_f]
          dsimp only
          rw [if_pos h91]
          have S98 : St w.heap.size w w96 [] := (St.del 0 (St.del 1 (St.del 2 (St.del 3 (St.del 4 (St.del 5 (St.del 6 (St.del 7 (St.del 8 S97))))))))); clear S97
          exact ⟨none, 0, rfl, rdo_nil S98⟩
        ·refine wL_val (wg rfl rfl rfl rfl) rfl rfl (y_move rfl rfl) ?_
         refine wL_val (wg rfl rfl rfl rfl) rfl rfl (y_move rfl rfl) ?_
         refine wL_val (v := .int .i64 ((K.length : Nat) : Int)) (wg rfl rfl rfl rfl) rfl rfl (y_builtin (vs := [.slice A2 K.length c2]) rfl ⟨rfl, trivial⟩ fun _ => r_len rfl Try.underlying57) ?_
         refine wL_val (v := .int .i64 ((k + K.length : Nat) : Int)) (wg rfl rfl rfl rfl) rfl rfl (y_binop rfl rfl rfl (r_add (by omega) (by omega))) ?_
         refine wL_val (v := .pointer (some ⟨b1, 5, none⟩)) (wg rfl rfl rfl rfl) rfl rfl (y_fieldAddr rfl rfl (fa108_5 _ _ _)) ?_
         refine wL_val (wg rfl rfl rfl rfl) rfl rfl (y_load rfl rfl (r_load Try.underlying57 rfl (St.cl 6 S86 rfl rfl))) ?_
         refine wL_val (v := .int .i64 ((l.length : Nat) : Int)) (wg rfl rfl rfl rfl) rfl rfl (y_builtin (vs := [.slice A l.length c]) rfl ⟨rfl, trivial⟩ fun _ => r_len rfl Try.underlying57) ?_
         by_cases h99 : ((k + K.length : Nat) : Int) < ((l.length : Nat) : Int)
         ·refine wL_val (v := .bool true) (wg rfl rfl rfl rfl) rfl rfl (y_binop rfl rfl rfl (r_lss_t h99)) ?_
          refine wL_val (wn rfl) rfl rfl (y_pick_t rfl rfl rfl) ?_
          refine wL_val (wn rfl) rfl rfl (y_assign rfl rfl) ?_
          refine wL_nil (wQ_sub (l' := [(1, _), (4, _), (10, _), (11, _), (14, _), (74, _)]) ⟨rfl, rfl, rfl, rfl, rfl, rfl, trivial⟩ (wQ_then (wC_cond_t rfl (wC_seq (wC_region (wL_val (v := .agg #[.int .i64 0, .int .i64 0, .int .i64 0, .int .i64 0, .int .i64 0, .slice none 0 0]) (wn rfl) rfl rfl (y_build (vs := []) rfl trivial (by kernel_rfl)) ?_))))))
          refine wL_st (fs' := [_, _, _, _, _, _, _, _, _]) 5 S86 (wn rfl) rfl rfl rfl rfl rfl rfl inf108 rfl (oneAll rfl) (Nat.le_of_ble_eq_true rfl) (setAll_all rfl) rfl ?_; intro w100 S101; clear S86
          refine wL_val (wn rfl) rfl rfl (y_assign rfl rfl) ?_
          refine wL_nil (wQ_sub (l' := [(10, _), (11, _)]) ⟨rfl, rfl, trivial⟩ (wQ_then (wC_ret (wQ_blk_ret (wQ_then_ret (wQ_post (rs := [.cell 10 108, .tmp 11]) (vs := [.agg #[.int .i64 0, .int .i64 0, .int .i64 0, .int .i64 0, .int .i64 0, .slice none 0 0], .int .i64 3]) rfl ⟨⟨_, rfl, res_row 5 S101 rfl Try.underlying108 rfl inf108⟩, rfl, trivial⟩ ?_))))))
          rw [imp_go (b := ⟨4, e, fr, 0, 0, l⟩) (k := k) h10 rfl rfl (by dsimp only; omega)]
          dsimp only
          rw [show l.length - k = d from by omega]
          rw [if_neg (fun h => h (hqm.out.2 hq))]
          rw [if_pos ⟨rfl, by omega⟩]
          have S102 : St w.heap.size w w100 [] := (St.del 0 (St.del 1 (St.del 2 (St.del 3 (St.del 4 (St.del 5 (St.del 6 (St.del 7 (St.del 8 S101))))))))); clear S101
          exact ⟨none, 0, rfl, rdo_nil S102⟩
         ·refine wL_val (v := .bool false) (wg rfl rfl rfl rfl) rfl rfl (y_binop rfl rfl rfl (r_lss_f h99)) ?_
          refine wL_val (wn rfl) rfl rfl (y_pick_t rfl rfl rfl) ?_
          refine wL_val (wn rfl) rfl rfl (y_assign rfl rfl) ?_
          refine wL_nil (wQ_sub (l' := [(1, _), (4, _), (10, _), (11, _), (14, _), (74, _)]) ⟨rfl, rfl, rfl, rfl, rfl, rfl, trivial⟩ (wQ_then (wC_cond_f rfl (wC_seq (wC_region (wL_val (wn rfl) rfl rfl (y_move rfl rfl) ?_))))))
          refine wL_val (wn rfl) rfl rfl (y_assign rfl rfl) ?_
          refine wL_nil (wQ_sub (l' := [(1, _), (10, _), (11, _), (14, _), (87, _)]) ⟨rfl, rfl, rfl, rfl, rfl, trivial⟩ (wQ_then (wC_cond_t rfl (wC_region (wL_val (wn rfl) rfl rfl (y_move rfl rfl) ?_)))))
          refine wL_val (v := .pointer (some ⟨b82, 5, none⟩)) (wn rfl) rfl rfl (y_fieldAddr rfl rfl (fa108_5 _ _ _)) ?_
          refine wL_val (wn rfl) rfl rfl (y_load rfl rfl (r_load Try.underlying57 rfl (St.cl 0 S86 rfl rfl))) ?_
          refine wL_val (v := .agg #[.int .i64 1, .int .i64 e, .int .i64 0, .int .i64 0, .int .i64 0, .slice A83 ((l ++ (K.drop d)).length) c84]) (wn rfl) rfl rfl (y_build (vs := [(0, .int .i64 1), (1, .int .i64 e), (5, .slice A83 ((l ++ (K.drop d)).length) c84)]) rfl ⟨rfl, rfl, rfl, rfl, rfl, rfl, trivial⟩ (by kernel_rfl)) ?_
          refine wL_val (v := .agg #[.int .i64 4, .int .i64 0, .int .i64 0, .int .i64 0, .int .i64 0, .int .i64 0]) (wn rfl) rfl rfl (y_build (vs := [(0, .int .i64 4)]) rfl ⟨rfl, rfl, trivial⟩ (by kernel_rfl)) ?_
          refine wL_new (V := fun b => .slice (some ⟨b, 0, none⟩) 1 1) (row := #[.int .i64 4, .int .i64 0, .int .i64 0, .int .i64 0, .int .i64 0, .int .i64 0]) (t := 37) S86 (wn rfl) rfl rfl (d_buildSlice (vs := [(0, .agg #[.int .i64 4, .int .i64 0, .int .i64 0, .int .i64 0, .int .i64 0, .int .i64 0])]) rfl ⟨rfl, rfl, trivial⟩ (by kernel_rfl)) ?_; intro b103 w104 S105; clear S86
          refine wL_call (vs := [.agg #[.int .i64 1, .int .i64 e, .int .i64 0, .int .i64 0, .int .i64 0, .slice A83 ((l ++ (K.drop d)).length) c84], .slice (some ⟨b103, 0, none⟩) 1 1]) (wn rfl) rfl rfl (e_call (vs := [.agg #[.int .i64 1, .int .i64 e, .int .i64 0, .int .i64 0, .int .i64 0, .slice A83 ((l ++ (K.drop d)).length) c84], .slice (some ⟨b103, 0, none⟩) 1 1]) rfl en160 ⟨rfl, rfl, trivial⟩) (with_calls 1 e 0 0 0 A83 c84 (l ++ (K.drop d)) (some ⟨b103, 0, none⟩) 1 [brkEv] _ (St.ord 2 S105 rfl) (St.bld (xs := evCells [brkEv]) 0 S105 rfl rfl rfl) hw2) ?_
          rintro _ w108 ⟨A106, c107, rfl, T110⟩
          refine ⟨_, rfl, ?_⟩
          have S109 := S105.ext T110 rfl; clear T110 S105
          change St _ _ _ [.own 37 6 (.slice A106 ((l ++ (K.drop d) ++ [brkEv]).length) c107) ((l ++ (K.drop d) ++ [brkEv]).length) ((l ++ (K.drop d) ++ [brkEv]).flatMap Ev.cells), _, _, _, _, _, _, _, _, _, _] at S109
          refine wL_st (fs' := [_, _, _, _, _, _, _, _, _, _, _]) 2 S109 (wn rfl) rfl rfl rfl rfl rfl rfl inf108 rfl (oneAll rfl) (Nat.le_of_ble_eq_true rfl) (setAll_all rfl) rfl ?_; intro w111 S112; clear S109
          refine wL_nil (wQ_sub (l' := [(10, _), (11, _), (14, _)]) ⟨rfl, rfl, rfl, trivial⟩ (wQ_blk_n (wQ_then (wC_seq (wC_seq (wC_region (wL_val (wn rfl) rfl rfl (y_load rfl rfl (r_load_row 2 S112 rfl Try.underlying108 rfl inf108 rfl)) ?_)))))))
          refine wL_call (vs := [.agg #[.int .i64 1, .int .i64 e, .int .i64 0, .int .i64 0, .int .i64 0, .slice A106 ((l ++ (K.drop d) ++ [brkEv]).length) c107]]) (wn rfl) rfl rfl (e_call (vs := [.agg #[.int .i64 1, .int .i64 e, .int .i64 0, .int .i64 0, .int .i64 0, .slice A106 ((l ++ (K.drop d) ++ [brkEv]).length) c107]]) rfl en76 ⟨rfl, trivial⟩) (BCheck_calls 1 e 0 0 0 A106 c107 (l ++ (K.drop d) ++ [brkEv]) _ (St.ord 0 S112 rfl) (by simp only [List.length_append, List.length_cons, List.length_nil, List.length_drop]; omega)) ?_
          rintro _ w113 ⟨rfl, hb115⟩
          refine ⟨_, rfl, ?_⟩
          have S114 := S112.on hb115; clear hb115 S112
          by_cases h116 : brtFault ⟨1, e, 0, 0, 0, l ++ (K.drop d) ++ [brkEv]⟩ = 0
          ·refine wL_val (v := .bool false) (wn rfl) rfl rfl (y_binop rfl rfl rfl (r_neq_f h116)) ?_
           refine wL_nil (wQ_sub (l' := [(10, _), (11, _), (14, _), (98, _)]) ⟨rfl, rfl, rfl, rfl, trivial⟩ (wQ_then (wC_cond_f rfl (wC_skip (wQ_then (wC_seq (wC_region (wL_val (wn rfl) rfl rfl (y_load rfl rfl (r_load_row 2 S114 rfl Try.underlying108 rfl inf108 rfl)) ?_))))))))
           refine wL_st (fs' := [_, _, _, _, _, _, _, _, _, _, _]) 7 S114 (wn rfl) rfl rfl rfl rfl rfl rfl inf108 rfl (oneAll rfl) (Nat.le_of_ble_eq_true rfl) (setAll_all rfl) rfl ?_; intro w117 S118; clear S114
           refine wL_val (wn rfl) rfl rfl (y_assign rfl rfl) ?_
           refine wL_nil (wQ_sub (l' := [(10, _), (11, _)]) ⟨rfl, rfl, trivial⟩ (wQ_then (wC_ret (wQ_post (rs := [.cell 10 108, .tmp 11]) (vs := [.agg #[.int .i64 1, .int .i64 e, .int .i64 0, .int .i64 0, .int .i64 0, .slice A106 ((l ++ (K.drop d) ++ [brkEv]).length) c107], .int .i64 0]) rfl ⟨⟨_, rfl, res_row 7 S118 rfl Try.underlying108 rfl inf108⟩, rfl, trivial⟩ ?_))))
           rw [imp_go (b := ⟨4, e, fr, 0, 0, l⟩) (k := k) h10 rfl rfl (by dsimp only; omega)]
           dsimp only
           rw [show l.length - k = d from by omega]
           rw [if_neg (fun h => h (hqm.out.2 hq))]
           rw [if_neg (by simp; omega)]
           rw [impNew_t]
           dsimp only
           rw [if_neg (fun h => h h116)]
           have S119 : St w.heap.size w w117 [_] := (St.del 1 (St.del 2 (St.del 3 (St.del 4 (St.del 5 (St.del 6 (St.del 7 (St.del 8 (St.del 9 (St.del 10 S118)))))))))); clear S118
           have S120 := S119.sealAll 0 rfl; clear S119
           change St _ _ _ [.rdo 6 A106 ((l ++ (K.drop d) ++ [brkEv]).length) ((l ++ (K.drop d) ++ [brkEv]).flatMap Ev.cells)] at S120
           exact ⟨A106, c107, rfl, S120⟩
          ·refine wL_val (v := .bool true) (wn rfl) rfl rfl (y_binop rfl rfl rfl (r_neq_t h116)) ?_
           refine wL_nil (wQ_sub (l' := [(10, _), (11, _), (14, _), (98, _)]) ⟨rfl, rfl, rfl, rfl, trivial⟩ (wQ_then (wC_cond_t rfl (wC_seq (wC_region (wL_val (v := .agg #[.int .i64 0, .int .i64 0, .int .i64 0, .int .i64 0, .int .i64 0, .slice none 0 0]) (wn rfl) rfl rfl (y_build (vs := []) rfl trivial (by kernel_rfl)) ?_))))))
           refine wL_st (fs' := [_, _, _, _, _, _, _, _, _, _, _]) 7 S114 (wn rfl) rfl rfl rfl rfl rfl rfl inf108 rfl (oneAll rfl) (Nat.le_of_ble_eq_true rfl) (setAll_all rfl) rfl ?_; intro w121 S122; clear S114
           refine wL_val (wn rfl) rfl rfl (y_assign rfl rfl) ?_
           refine wL_nil (wQ_sub (l' := [(10, _), (11, _)]) ⟨rfl, rfl, trivial⟩ (wQ_then (wC_ret (wQ_then_ret (wQ_post (rs := [.cell 10 108, .tmp 11]) (vs := [.agg #[.int .i64 0, .int .i64 0, .int .i64 0, .int .i64 0, .int .i64 0, .slice none 0 0], .int .i64 3]) rfl ⟨⟨_, rfl, res_row 7 S122 rfl Try.underlying108 rfl inf108⟩, rfl, trivial⟩ ?_)))))
           rw [imp_go (b := ⟨4, e, fr, 0, 0, l⟩) (k := k) h10 rfl rfl (by dsimp only; omega)]
           dsimp only
           rw [show l.length - k = d from by omega]
           rw [if_neg (fun h => h (hqm.out.2 hq))]
           rw [if_neg (by simp; omega)]
           rw [impNew_t]
           dsimp only
           rw [if_pos h116]
           have S123 : St w.heap.size w w121 [] := (St.del 0 (St.del 1 (St.del 2 (St.del 3 (St.del 4 (St.del 5 (St.del 6 (St.del 7 (St.del 8 (St.del 9 (St.del 10 S122))))))))))); clear S122
           exact ⟨none, 0, rfl, rdo_nil S123⟩
      ·rw [decide_eq_false hq] at HE
       refine wU_call (v := .bool false) (vs := [.slice A21 p p, .slice A26 p p]) (wn rfl) rfl rfl (fun _ => (e_call (vs := [.slice A21 p p, .slice A26 p p]) rfl en162 ⟨rfl, rfl, trivial⟩)) (fun _ Sx124 => (HE _ (St.rd 1 Sx124 rfl) (St.rd 0 Sx124 rfl)).mono fun _ _ h => ⟨h.1, Sx124.on h.2⟩) ?_; clear HE
       refine wU_val (v := .bool true) (wn rfl) rfl rfl (fun _ _ => (y_unop rfl rfl r_not)) ?_
       refine wU_nil fun w126 S127 => ?_; clear S31
       refine wQ_sub (l' := [(1, _), (2, _), (3, _), (4, _), (5, _), (10, _), (11, _), (13, _), (67, _)]) ⟨rfl, rfl, rfl, rfl, rfl, rfl, rfl, rfl, rfl, trivial⟩ (wQ_then (wC_cond_t rfl (wC_seq (wC_region (wL_val (v := .agg #[.int .i64 0, .int .i64 0, .int .i64 0, .int .i64 0, .int .i64 0, .slice none 0 0]) (wn rfl) rfl rfl (y_build (vs := []) rfl trivial (by kernel_rfl)) ?_)))))
       refine wL_st (fs' := [_, _, _, _, _, _]) 2 S127 (wn rfl) rfl rfl rfl rfl rfl rfl inf108 rfl (oneAll rfl) (Nat.le_of_ble_eq_true rfl) (setAll_all rfl) rfl ?_; intro w128 S129; clear S127
       refine wL_val (wn rfl) rfl rfl (y_assign rfl rfl) ?_
       refine wL_nil (wQ_sub (l' := [(10, _), (11, _)]) ⟨rfl, rfl, trivial⟩ (wQ_then (wC_ret (wQ_then_ret (wQ_post (rs := [.cell 10 108, .tmp 11]) (vs := [.agg #[.int .i64 0, .int .i64 0, .int .i64 0, .int .i64 0, .int .i64 0, .slice none 0 0], .int .i64 3]) rfl ⟨⟨_, rfl, res_row 2 S129 rfl Try.underlying108 rfl inf108⟩, rfl, trivial⟩ ?_)))))
       rw [imp_go (b := ⟨4, e, fr, 0, 0, l⟩) (k := k) h10 rfl rfl (by dsimp only; omega)]
       dsimp only
       rw [show l.length - k = d from by omega]
       rw [if_pos (fun h => hq (hqm.out.1 h))]
       have S130 : St w.heap.size w w128 [] := (St.del 0 (St.del 1 (St.del 2 (St.del 3 (St.del 4 (St.del 5 S129)))))); clear S129
       exact ⟨none, 0, rfl, rdo_nil S130⟩
   ·refine wL_val (v := .bool true) (wn rfl) rfl rfl (y_binop rfl rfl rfl (r_neq_t h12)) ?_
    refine wL_val (wn rfl) rfl rfl (y_assign rfl rfl) ?_
    refine wL_nil (wQ_sub (l' := [(1, _), (2, _), (3, _), (4, _), (5, _), (10, _), (11, _), (27, _)]) ⟨rfl, rfl, rfl, rfl, rfl, rfl, rfl, rfl, trivial⟩ (wQ_then (wC_cond_t rfl (wC_seq (wC_region (wL_val (v := .agg #[.int .i64 0, .int .i64 0, .int .i64 0, .int .i64 0, .int .i64 0, .slice none 0 0]) (wn rfl) rfl rfl (y_build (vs := []) rfl trivial (by kernel_rfl)) ?_))))))
    refine wL_st (fs' := [_, _, _, _]) 0 S8 (wn rfl) rfl rfl rfl rfl rfl rfl inf108 rfl (oneAll rfl) (Nat.le_of_ble_eq_true rfl) (setAll_all rfl) rfl ?_; intro w131 S132; clear S8
    refine wL_val (wn rfl) rfl rfl (y_assign rfl rfl) ?_
    refine wL_nil (wQ_sub (l' := [(10, _), (11, _)]) ⟨rfl, rfl, trivial⟩ (wQ_then (wC_ret (wQ_blk_ret (wQ_then_ret (wQ_post (rs := [.cell 10 108, .tmp 11]) (vs := [.agg #[.int .i64 0, .int .i64 0, .int .i64 0, .int .i64 0, .int .i64 0, .slice none 0 0], .int .i64 15]) rfl ⟨⟨_, rfl, res_row 0 S132 rfl Try.underlying108 rfl inf108⟩, rfl, trivial⟩ ?_))))))
    have S133 : St w.heap.size w w131 [] := (St.del 0 (St.del 1 (St.del 2 (St.del 3 S132)))); clear S132
    rw [show importM ⟨ro, ep, fr, tg, rd, l⟩ e at_ K last = (zeroB, 15) from by unfold importM; (try dsimp only); (repeat' (first | rfl | omega | split)) <;> (simp only [Prod.mk.injEq, Brt.mk.injEq, and_true, true_and, and_self]; omega)]
    exact ⟨none, 0, rfl, rdo_nil S133⟩
  ·refine wL_val (v := .bool true) (wn rfl) rfl rfl (y_binop rfl rfl rfl (r_neq_t h11)) ?_
   refine wL_val (wn rfl) rfl rfl (y_assign rfl rfl) ?_
   refine wL_nil (wQ_sub (l' := [(1, _), (2, _), (3, _), (4, _), (5, _), (10, _), (11, _), (22, _)]) ⟨rfl, rfl, rfl, rfl, rfl, rfl, rfl, rfl, trivial⟩ (wQ_then (wC_cond_t rfl (wC_seq (wC_region (wL_val (v := .agg #[.int .i64 0, .int .i64 0, .int .i64 0, .int .i64 0, .int .i64 0, .slice none 0 0]) (wn rfl) rfl rfl (y_build (vs := []) rfl trivial (by kernel_rfl)) ?_))))))
   refine wL_st (fs' := [_, _, _, _]) 0 S8 (wn rfl) rfl rfl rfl rfl rfl rfl inf108 rfl (oneAll rfl) (Nat.le_of_ble_eq_true rfl) (setAll_all rfl) rfl ?_; intro w134 S135; clear S8
   refine wL_val (wn rfl) rfl rfl (y_assign rfl rfl) ?_
   refine wL_nil (wQ_sub (l' := [(10, _), (11, _)]) ⟨rfl, rfl, trivial⟩ (wQ_then (wC_ret (wQ_blk_ret (wQ_then_ret (wQ_post (rs := [.cell 10 108, .tmp 11]) (vs := [.agg #[.int .i64 0, .int .i64 0, .int .i64 0, .int .i64 0, .int .i64 0, .slice none 0 0], .int .i64 7]) rfl ⟨⟨_, rfl, res_row 0 S135 rfl Try.underlying108 rfl inf108⟩, rfl, trivial⟩ ?_))))))
   have S136 : St w.heap.size w w134 [] := (St.del 0 (St.del 1 (St.del 2 (St.del 3 S135)))); clear S135
   rw [show importM ⟨ro, ep, fr, tg, rd, l⟩ e at_ K last = (zeroB, 7) from by unfold importM; (try dsimp only); (repeat' (first | rfl | omega | split)) <;> (simp only [Prod.mk.injEq, Brt.mk.injEq, and_true, true_and, and_self]; omega)]
   exact ⟨none, 0, rfl, rdo_nil S136⟩
 ·refine wL_val (v := .bool true) (wn rfl) rfl rfl (y_binop rfl rfl rfl (r_neq_t h10)) ?_
  refine wL_val (wn rfl) rfl rfl (y_assign rfl rfl) ?_
  refine wL_nil (wQ_sub (l' := [(1, _), (2, _), (3, _), (4, _), (5, _), (10, _), (11, _), (12, _), (17, _)]) ⟨rfl, rfl, rfl, rfl, rfl, rfl, rfl, rfl, rfl, trivial⟩ (wQ_then (wC_cond_t rfl (wC_seq (wC_region (wL_val (v := .agg #[.int .i64 0, .int .i64 0, .int .i64 0, .int .i64 0, .int .i64 0, .slice none 0 0]) (wn rfl) rfl rfl (y_build (vs := []) rfl trivial (by kernel_rfl)) ?_))))))
  refine wL_val (wn rfl) rfl rfl (y_move rfl rfl) ?_
  refine wL_st (fs' := [_, _, _, _]) 0 S8 (wn rfl) rfl rfl rfl rfl rfl rfl inf108 rfl (oneAll rfl) (Nat.le_of_ble_eq_true rfl) (setAll_all rfl) rfl ?_; intro w137 S138; clear S8
  refine wL_val (wn rfl) rfl rfl (y_assign rfl rfl) ?_
  refine wL_nil (wQ_sub (l' := [(10, _), (11, _)]) ⟨rfl, rfl, trivial⟩ (wQ_then (wC_ret (wQ_blk_ret (wQ_then_ret (wQ_post (rs := [.cell 10 108, .tmp 11]) (vs := [.agg #[.int .i64 0, .int .i64 0, .int .i64 0, .int .i64 0, .int .i64 0, .slice none 0 0], .int .i64 (brtFault ⟨ro, ep, fr, tg, rd, l⟩)]) rfl ⟨⟨_, rfl, res_row 0 S138 rfl Try.underlying108 rfl inf108⟩, rfl, trivial⟩ ?_))))))
  have S139 : St w.heap.size w w137 [] := (St.del 0 (St.del 1 (St.del 2 (St.del 3 S138)))); clear S138
  rw [show importM ⟨ro, ep, fr, tg, rd, l⟩ e at_ K last = (zeroB, brtFault ⟨ro, ep, fr, tg, rd, l⟩) from by unfold importM; (try dsimp only); (repeat' (first | rfl | omega | split)) <;> (simp only [Prod.mk.injEq, Brt.mk.injEq, and_true, true_and, and_self]; omega)]
  exact ⟨none, 0, rfl, rdo_nil S139⟩
end Go.Proofs.Ytkjlafpafmihaaa

namespace Go.Proofs.Ytkjlafpafmihaaa
open Go.ChangeShapes Go.WideShapes Go.RowKit

set_option maxRecDepth 100000 in
set_option maxHeartbeats 4000000 in
theorem Imported_calls (ro ep fr tg rd : Int) (A : Option Addr) (c : Nat) (l : List Ev) (e at_ : Int) (A2 : Option Addr) (c2 : Nat) (K : List Ev) (last : Bool) (hlc : l.length ≤ c) (hkc : K.length ≤ c2) (w : World) (hK : Rd w w.heap.size 6 A2 K.length (evCells K)) (h : Rd w w.heap.size 6 A l.length (evCells l)) (hb : l.length * 48 ≤ reachBytes) (hbK : (K.length + 2001) * 48 ≤ reachBytes) :
    Calls Try.prog 97 #[.agg #[.int .i64 ro, .int .i64 ep, .int .i64 fr, .int .i64 tg, .int .i64 rd, .slice A l.length c], .int .i64 e, .int .i64 at_, .slice A2 K.length c2, .bool last] w (BrtPost w (importM ⟨ro, ep, fr, tg, rd, l⟩ e at_ K last)) := by
 have S := ((St.start w).addRd hK).addRd h; clear h hK
 have hb2 := hb
 unfold reachBytes at hb2
 refine calls_of_wC (N := 97) (vs := [.agg #[.int .i64 ro, .int .i64 ep, .int .i64 fr, .int .i64 tg, .int .i64 rd, .slice A l.length c], .int .i64 e, .int .i64 at_, .slice A2 K.length c2, .bool last]) Try.func97 rfl rfl rfl ?_
 refine wC_sub (l' := [(0, .agg #[.int .i64 ro, .int .i64 ep, .int .i64 fr, .int .i64 tg, .int .i64 rd, .slice A l.length c]), (1, .int .i64 e), (2, .int .i64 at_), (3, .slice A2 K.length c2), (4, .bool last)]) ⟨rfl, rfl, rfl, rfl, rfl, trivial⟩ (wC_seq (wC_region (wL_new (V := fun b => .pointer (some ⟨b, 0, none⟩)) (row := #[.int .i64 ro, .int .i64 ep, .int .i64 fr, .int .i64 tg, .int .i64 rd, .slice A l.length c]) (t := 108) S (wn rfl) rfl rfl (d_box rfl rfl rfl) ?_))); intro b1 w2 S3; clear S
 refine wL_new (V := fun b => .pointer (some ⟨b, 0, none⟩)) (row := #[.int .i64 0, .int .i64 0, .int .i64 0, .int .i64 0, .int .i64 0, .slice none 0 0]) (t := 108) S3 (wn rfl) rfl rfl (d_alloc rfl (Try.zeroValue108 _) rfl) ?_; intro b4 w5 S6; clear S3
 refine wL_val (wn rfl) rfl rfl (y_assign rfl rfl) ?_
 refine wL_nil (wQ_sub (l' := [(1, _), (2, _), (3, _), (4, _), (5, _), (10, _), (11, _)]) ⟨rfl, rfl, rfl, rfl, rfl, rfl, rfl, trivial⟩ (wQ_then (wC_seq (wC_region (wL_val (wn rfl) rfl rfl (y_load rfl rfl (r_load_row 1 S6 rfl Try.underlying108 rfl inf108 rfl)) ?_)))))
 refine wL_call (vs := [.agg #[.int .i64 ro, .int .i64 ep, .int .i64 fr, .int .i64 tg, .int .i64 rd, .slice A l.length c]]) (wn rfl) rfl rfl (e_call (vs := [.agg #[.int .i64 ro, .int .i64 ep, .int .i64 fr, .int .i64 tg, .int .i64 rd, .slice A l.length c]]) rfl en78 ⟨rfl, trivial⟩) (BerthFault_calls ro ep fr tg rd A c l _ (St.rd 2 S6 rfl) (by omega)) ?_
 rintro _ w7 ⟨rfl, hb9⟩
 refine ⟨_, rfl, ?_⟩
 have S8 := S6.on hb9; clear hb9 S6
 refine wL_val (wn rfl) rfl rfl (y_assign rfl rfl) ?_
 refine wL_nil (wQ_sub (l' := [(1, _), (2, _), (3, _), (4, _), (5, _), (10, _), (11, _), (12, _)]) ⟨rfl, rfl, rfl, rfl, rfl, rfl, rfl, rfl, trivial⟩ (wQ_then (wC_seq (wC_seq (wC_region (wL_val (wn rfl) rfl rfl (y_move rfl rfl) ?_))))))
 by_cases h10 : brtFault ⟨ro, ep, fr, tg, rd, l⟩ = 0
 ·have hsh := (bf_zero h10).1
  unfold shapeB at hsh
  have hln := tellM_len (bf_zero h10).2
  dsimp only at hsh hln
  refine wL_val (v := .bool false) (wn rfl) rfl rfl (y_binop rfl rfl rfl (r_neq_f h10)) ?_
  refine wL_nil (wQ_sub (l' := [(1, _), (2, _), (3, _), (4, _), (5, _), (10, _), (11, _), (12, _), (18, _)]) ⟨rfl, rfl, rfl, rfl, rfl, rfl, rfl, rfl, rfl, trivial⟩ (wQ_then (wC_cond_f rfl (wC_skip (wQ_then (wC_seq (wC_seq (wC_region (wL_val (v := .pointer (some ⟨b1, 0, none⟩)) (wn rfl) rfl rfl (y_fieldAddr rfl rfl (fa108_0 _ _ _)) ?_)))))))))
  refine wL_val (wn rfl) rfl rfl (y_load rfl rfl (r_load Try.underlying3 rfl (St.cl 1 S8 rfl rfl))) ?_
  by_cases h11 : ro = 4
  ·refine wL_val (v := .bool false) (wn rfl) rfl rfl (y_binop rfl rfl rfl (r_neq_f h11)) ?_
   refine wL_nil (wQ_sub (l' := [(1, _), (2, _), (3, _), (4, _), (5, _), (10, _), (11, _), (23, _)]) ⟨rfl, rfl, rfl, rfl, rfl, rfl, rfl, rfl, trivial⟩ (wQ_then (wC_cond_f rfl (wC_skip (wQ_then (wC_seq (wC_seq (wC_region (wL_val (v := .pointer (some ⟨b1, 1, none⟩)) (wn rfl) rfl rfl (y_fieldAddr rfl rfl (fa108_1 _ _ _)) ?_)))))))))
   refine wL_val (wn rfl) rfl rfl (y_load rfl rfl (r_load Try.underlying3 rfl (St.cl 1 S8 rfl rfl))) ?_
   refine wL_val (wn rfl) rfl rfl (y_move rfl rfl) ?_
   by_cases h12 : ep = e
   ·refine wL_val (v := .bool false) (wn rfl) rfl rfl (y_binop rfl rfl rfl (r_neq_f h12)) ?_
    refine wL_nil (wQ_sub (l' := [(2, _), (3, _), (4, _), (5, _), (10, _), (11, _), (28, _)]) ⟨rfl, rfl, rfl, rfl, rfl, rfl, rfl, trivial⟩ (wQ_then (wC_cond_f rfl (wC_skip (wQ_then (wC_seq (wC_seq (wC_region (wL_val (wn rfl) rfl rfl (y_move rfl rfl) ?_)))))))))
    refine wL_val (v := .pointer (some ⟨b1, 5, none⟩)) (wn rfl) rfl rfl (y_fieldAddr rfl rfl (fa108_5 _ _ _)) ?_
    refine wL_val (wn rfl) rfl rfl (y_load rfl rfl (r_load Try.underlying57 rfl (St.cl 1 S8 rfl rfl))) ?_
    refine wL_val (v := .int .i64 ((l.length : Nat) : Int)) (wn rfl) rfl rfl (y_builtin (vs := [.slice A l.length c]) rfl ⟨rfl, trivial⟩ fun _ => r_len rfl Try.underlying57) ?_
    by_cases hp13 : 0 ≤ at_ ∧ at_ ≤ ((l.length : Nat) : Int)
    ·refine wL_call (vs := [.int .i64 at_, .int .i64 0, .int .i64 ((l.length : Nat) : Int)]) (wn rfl) rfl rfl (e_call (vs := [.int .i64 at_, .int .i64 0, .int .i64 ((l.length : Nat) : Int)]) rfl en107 ⟨rfl, rfl, rfl, trivial⟩) (In_t hp13 _) ?_
     rintro _ w14 ⟨rfl, rfl⟩
     refine ⟨_, rfl, ?_⟩
     refine wL_val (v := .bool false) (wn rfl) rfl rfl (y_unop rfl rfl r_not) ?_
     refine wL_nil (wQ_sub (l' := [(2, _), (3, _), (4, _), (5, _), (10, _), (11, _), (35, _)]) ⟨rfl, rfl, rfl, rfl, rfl, rfl, rfl, trivial⟩ (wQ_then (wC_cond_f rfl (wC_skip (wQ_then (wC_seq ?_))))))
     obtain rfl : ro = 4 := by omega
     obtain rfl : tg = 0 := by omega
     obtain rfl : rd = 0 := by omega
     obtain rfl : e = ep := by omega
     clear hsh
     have hbL : (l.length + K.length + 1) * 48 ≤ reachBytes := Nat.le_trans (Nat.mul_le_mul_right 48 (by omega)) hbK
     have hb3 := hbL
     unfold reachBytes at hb3
     obtain ⟨k, rfl⟩ : ∃ k : Nat, at_ = k := ⟨at_.toNat, by omega⟩
     obtain ⟨d, hd⟩ : ∃ d, l.length = k + d := ⟨l.length - k, by omega⟩
     obtain ⟨p, hp⟩ : ∃ p, min d K.length = p := ⟨_, rfl⟩
     have hqm := Lib.hid (imp_iff (l := l) (K := K) hd hp)
     refine wC_region (wL_val (wn rfl) rfl rfl (y_load rfl rfl (r_load_row 1 S8 rfl Try.underlying108 rfl inf108 rfl)) ?_)
     refine wL_call (vs := [.agg #[.int .i64 4, .int .i64 e, .int .i64 fr, .int .i64 0, .int .i64 0, .slice A l.length c]]) (wn rfl) rfl rfl (e_call (vs := [.agg #[.int .i64 4, .int .i64 e, .int .i64 fr, .int .i64 0, .int .i64 0, .slice A l.length c]]) rfl en156 ⟨rfl, trivial⟩) (BerthCopy_calls 4 e fr 0 0 A c l _ (St.rd 2 S8 rfl) hb) ?_
     rintro _ w17 ⟨A15, c16, rfl, T19⟩
     refine ⟨_, rfl, ?_⟩
     have S18 := S8.ext T19 rfl; clear T19 S8
     change St _ _ _ [.own 37 6 (.slice A15 l.length c16) l.length ((l).flatMap Ev.cells), _, _, _, _] at S18
     refine wL_new (V := fun b => .pointer (some ⟨b, 0, none⟩)) (row := #[.int .i64 0, .int .i64 0, .int .i64 0, .int .i64 0, .int .i64 0, .slice none 0 0]) (t := 108) S18 (wn rfl) rfl rfl (d_alloc rfl (Try.zeroValue108 _) rfl) ?_; intro b20 w21 S22; clear S18
     refine wL_st (fs' := [_, _, _, _, _, _]) 0 S22 (wn rfl) rfl rfl rfl rfl rfl rfl inf108 rfl (oneAll rfl) (Nat.le_of_ble_eq_true rfl) (setAll_all rfl) rfl ?_; intro w23 S24; clear S22
     refine wL_nil (wQ_sub (l' := [(2, _), (3, _), (4, _), (5, _), (10, _), (11, _), (13, _)]) ⟨rfl, rfl, rfl, rfl, rfl, rfl, rfl, trivial⟩ (wQ_then (wC_seq (wC_seq (wC_region (wL_val (wn rfl) rfl rfl (y_assign rfl rfl) ?_))))))
     refine wL_nil (wQ_then (wC_block (wC_loop (X := Nat × (Option Addr) × Nat) (fun xv => [(2, .int .i64 ((k : Nat) : Int)), (3, .slice A2 K.length c2), (4, .bool last), (5, .pointer (some ⟨b1, 0, none⟩)), (10, .pointer (some ⟨b4, 0, none⟩)), (11, .int .i64 0), (13, .pointer (some ⟨b20, 0, none⟩)), (14, .int .i64 ((xv.1 : Nat) : Int))]) (fun xv wr => (xv.1 ≤ K.length) ∧ ((l.drop k).take (min xv.1 d) = K.take (min xv.1 d)) ∧ St w.heap.size w wr [.blk b20 #[.int .i64 4, .int .i64 e, .int .i64 fr, .int .i64 0, .int .i64 0, .slice xv.2.1 (l.length + (xv.1 - d)) xv.2.2] 108, .own 37 6 (.slice xv.2.1 (l.length + (xv.1 - d)) xv.2.2) (l.length + (xv.1 - d)) ((l ++ (K.take xv.1).drop d).flatMap Ev.cells), .blk b4 #[.int .i64 0, .int .i64 0, .int .i64 0, .int .i64 0, .int .i64 0, .slice none 0 0] 108, .blk b1 #[.int .i64 4, .int .i64 e, .int .i64 fr, .int .i64 0, .int .i64 0, .slice A l.length c] 108, .rd 6 A l.length ((l).flatMap Ev.cells), .rd 6 A2 K.length ((K).flatMap Ev.cells)]) (fun xv => K.length - xv.1) (0, A15, c16) ?_ ?_ ?_)))
     ·exact ⟨Nat.zero_le _, by simp, by dsimp only; rw [show l.length + (0 - d) = l.length from by omega, show l ++ (K.take 0).drop d = l from by simp]; exact S24⟩
     ·exact ⟨rfl, rfl, rfl, rfl, rfl, rfl, rfl, rfl, trivial⟩
     ·rintro ⟨i, Ab, cb⟩ w25 ⟨hi27, hi28, S26⟩
      try dsimp only at hi27 hi28 S26; clear S24
      refine wC_sub (l' := [(2, .int .i64 ((k : Nat) : Int)), (3, .slice A2 K.length c2), (4, .bool last), (5, .pointer (some ⟨b1, 0, none⟩)), (10, .pointer (some ⟨b4, 0, none⟩)), (11, .int .i64 0), (13, .pointer (some ⟨b20, 0, none⟩)), (14, .int .i64 ((i : Nat) : Int))]) ⟨rfl, rfl, rfl, rfl, rfl, rfl, rfl, rfl, trivial⟩ (wC_seq (wC_seq (wC_region (wL_val (wn rfl) rfl rfl (y_move rfl rfl) ?_))))
      refine wL_val (wn rfl) rfl rfl (y_move rfl rfl) ?_
      refine wL_val (v := .int .i64 ((K.length : Nat) : Int)) (wn rfl) rfl rfl (y_builtin (vs := [.slice A2 K.length c2]) rfl ⟨rfl, trivial⟩ fun _ => r_len rfl Try.underlying57) ?_
      by_cases h29 : ((i : Nat) : Int) < ((K.length : Nat) : Int)
      ·refine wL_val (v := .bool true) (wn rfl) rfl rfl (y_binop rfl rfl rfl (r_lss_t h29)) ?_
       refine wL_nil (wQ_sub (l' := [(2, _), (3, _), (4, _), (5, _), (10, _), (11, _), (13, _), (14, _), (42, _)]) ⟨rfl, rfl, rfl, rfl, rfl, rfl, rfl, rfl, rfl, trivial⟩ (wQ_then (wC_cond_t rfl (wC_skip (wQ_then (wC_seq (wC_block (wC_seq (wC_seq (wC_region (wL_val (wn rfl) rfl rfl (y_move rfl rfl) ?_)))))))))))
       refine wL_val (wn rfl) rfl rfl (y_move rfl rfl) ?_
       refine wL_val (v := .int .i64 ((k + i : Nat) : Int)) (wn rfl) rfl rfl (y_binop rfl rfl rfl (r_add (by omega) (by omega))) ?_
       refine wL_val (v := .pointer (some ⟨b1, 5, none⟩)) (wn rfl) rfl rfl (y_fieldAddr rfl rfl (fa108_5 _ _ _)) ?_
       refine wL_val (wn rfl) rfl rfl (y_load rfl rfl (r_load Try.underlying57 rfl (St.cl 3 S26 rfl rfl))) ?_
       refine wL_val (v := .int .i64 ((l.length : Nat) : Int)) (wn rfl) rfl rfl (y_builtin (vs := [.slice A l.length c]) rfl ⟨rfl, trivial⟩ fun _ => r_len rfl Try.underlying57) ?_
       by_cases hid : i < d
       ·refine wL_val (v := .bool true) (wn rfl) rfl rfl (y_binop rfl rfl rfl (r_lss_t (by omega))) ?_
        refine wL_nil (wQ_sub (l' := [(2, _), (3, _), (4, _), (5, _), (10, _), (11, _), (13, _), (14, _), (51, _)]) ⟨rfl, rfl, rfl, rfl, rfl, rfl, rfl, rfl, rfl, trivial⟩ (wQ_then (wC_cond_t rfl (wC_seq (wC_seq (wC_quiet S26 mixed (by kernel_rfl) ?_))))))
        refine wU_val (v := .pointer (some ⟨b1, 5, none⟩)) (wn rfl) rfl rfl (fun _ _ => (y_fieldAddr rfl rfl (fa108_5 _ _ _))) ?_
        refine wU_val (v := .slice A l.length c) (wn rfl) rfl rfl (fun _ Sx31 => (y_load rfl rfl (r_load Try.underlying57 rfl (St.cl 3 Sx31 rfl rfl)))) ?_
        refine wU_val (v := .int .i64 ((k : Nat) : Int)) (wn rfl) rfl rfl (fun _ _ => (y_move rfl rfl)) ?_
        refine wU_val (v := .int .i64 ((i : Nat) : Int)) (wn rfl) rfl rfl (fun _ _ => (y_move rfl rfl)) ?_
        refine wU_val (v := .int .i64 ((k + i : Nat) : Int)) (wn rfl) rfl rfl (fun _ _ => (y_binop rfl rfl rfl (r_add (by omega) (by omega)))) ?_
        obtain ⟨b35, o36, rfl⟩ := Rd.addr (St.rd 4 S26 rfl) (by omega)
        obtain ⟨x37, hx38⟩ : ∃ x, (l)[k + i]? = some x := ⟨_, List.getElem?_eq_getElem (by have := (St.rd 4 S26 rfl).1; rw [fm_len (sz := 6) (fun _ => rfl)] at this; omega)⟩
        refine wU_val (v := .pointer (some ⟨b35, o36 + (k + i) * 6, none⟩)) (wn rfl) rfl rfl (fun _ _ => (y_indexAddr rfl rfl rfl (r_indexAddr (k + i) Try.underlying57 inf37 (by omega) (by omega)))) ?_
        refine wU_val (v := .agg #[.int .i64 x37.kind, .int .i64 x37.producer, .int .i64 x37.id, .int .i64 x37.body, .int .i64 x37.hepoch, .int .i64 x37.hno]) (wn rfl) rfl rfl (fun _ Sx40 => (y_load rfl rfl (r_load_agg (cs := Ev.cells x37) Try.underlying37 rfl inf37 rfl (Rd.rg2 (St.rd 4 Sx40 rfl) (fun _ _ h => fm_get (enc := Ev.cells) (sz := 6) (fun _ => rfl) hx38 h))))) ?_
        refine wU_val (v := .slice A2 K.length c2) (wn rfl) rfl rfl (fun _ _ => (y_move rfl rfl)) ?_
        refine wU_val (v := .int .i64 ((i : Nat) : Int)) (wn rfl) rfl rfl (fun _ _ => (y_move rfl rfl)) ?_
        obtain ⟨b43, o44, rfl⟩ := Rd.addr (St.rd 5 S26 rfl) (by omega)
        obtain ⟨x45, hx46⟩ : ∃ x, (K)[i]? = some x := ⟨_, List.getElem?_eq_getElem (by have := (St.rd 5 S26 rfl).1; rw [fm_len (sz := 6) (fun _ => rfl)] at this; omega)⟩
        refine wU_val (v := .pointer (some ⟨b43, o44 + i * 6, none⟩)) (wn rfl) rfl rfl (fun _ _ => (y_indexAddr rfl rfl rfl (r_indexAddr i Try.underlying57 inf37 (by omega) (by omega)))) ?_
        refine wU_val (v := .agg #[.int .i64 x45.kind, .int .i64 x45.producer, .int .i64 x45.id, .int .i64 x45.body, .int .i64 x45.hepoch, .int .i64 x45.hno]) (wn rfl) rfl rfl (fun _ Sx48 => (y_load rfl rfl (r_load_agg (cs := Ev.cells x45) Try.underlying37 rfl inf37 rfl (Rd.rg2 (St.rd 5 Sx48 rfl) (fun _ _ h => fm_get (enc := Ev.cells) (sz := 6) (fun _ => rfl) hx46 h))))) ?_
        by_cases hev : x37 = x45
        ·refine wU_val (v := .bool false) (wn rfl) rfl rfl (fun _ _ => (y_binop rfl rfl rfl (r_eqg (by kernel_rfl) (evneq_f hev _)))) ?_
         refine wU_nil fun w50 S51 => ?_; clear S26
         refine wQ_sub (l' := [(2, _), (3, _), (4, _), (5, _), (10, _), (11, _), (13, _), (14, _), (63, _)]) ⟨rfl, rfl, rfl, rfl, rfl, rfl, rfl, rfl, rfl, trivial⟩ (wQ_then (wC_cond_f rfl (wC_skip (wQ_then (wC_exit (wQ_then_exit (wQ_blk_same (wQ_then (wC_region (wL_val (wn rfl) rfl rfl (y_move rfl rfl) ?_))))))))))
         refine wL_val (v := .int .i64 ((i + 1 : Nat) : Int)) (wn rfl) rfl rfl (y_binop rfl rfl rfl (r_add (by omega) (by omega))) ?_
         refine wL_val (wn rfl) rfl rfl (y_assign rfl rfl) ?_
         refine wL_nil (wQ_sub (l' := [(2, _), (3, _), (4, _), (5, _), (10, _), (11, _), (13, _), (14, _)]) ⟨rfl, rfl, rfl, rfl, rfl, rfl, rfl, rfl, trivial⟩ ?_)
         have S52 := S51; clear S51
         rw [show l.length + (i - d) = l.length + (i + 1 - d) from by omega, imp_none hid] at S52
         refine wQ_round (i + 1, Ab, cb) ?_ ⟨rfl, rfl, rfl, rfl, rfl, rfl, rfl, rfl, trivial⟩ (by first | omega | (dsimp only; omega))
         exact ⟨(by dsimp only; omega), (imp_step hid hx38 (by rw [hev]; exact hx46) hi28), S52⟩
        ·refine wU_val (v := .bool true) (wn rfl) rfl rfl (fun _ _ => (y_binop rfl rfl rfl (r_eqg (by kernel_rfl) (evneq_t hev _)))) ?_
         refine wU_nil fun w54 S55 => ?_; clear S26
         refine wQ_sub (l' := [(2, _), (3, _), (4, _), (5, _), (10, _), (11, _), (13, _), (14, _), (63, _)]) ⟨rfl, rfl, rfl, rfl, rfl, rfl, rfl, rfl, rfl, trivial⟩ (wQ_then (wC_cond_t rfl (wC_seq (wC_region (wL_val (v := .agg #[.int .i64 0, .int .i64 0, .int .i64 0, .int .i64 0, .int .i64 0, .slice none 0 0]) (wn rfl) rfl rfl (y_build (vs := []) rfl trivial (by kernel_rfl)) ?_)))))
         refine wL_st (fs' := [_, _, _, _, _, _]) 2 S55 (wn rfl) rfl rfl rfl rfl rfl rfl inf108 rfl (oneAll rfl) (Nat.le_of_ble_eq_true rfl) (setAll_all rfl) rfl ?_; intro w56 S57; clear S55
         refine wL_val (wn rfl) rfl rfl (y_assign rfl rfl) ?_
         refine wL_nil (wQ_sub (l' := [(10, _), (11, _)]) ⟨rfl, rfl, trivial⟩ (wQ_then (wC_ret (wQ_then_ret (wQ_then_ret (wQ_blk_ret (wQ_then_ret (wQ_then_ret (wQ_blk_ret (wQ_then_ret (wQ_post (rs := [.cell 10 108, .tmp 11]) (vs := [.agg #[.int .i64 0, .int .i64 0, .int .i64 0, .int .i64 0, .int .i64 0, .slice none 0 0], .int .i64 3]) rfl ⟨⟨_, rfl, res_row 2 S57 rfl Try.underlying108 rfl inf108⟩, rfl, trivial⟩ ?_)))))))))))
         rw [imp_go (b := ⟨4, e, fr, 0, 0, l⟩) (k := k) h10 rfl rfl (by dsimp only; omega)]
         dsimp only
         rw [show l.length - k = d from by omega]
         rw [if_pos (imp_ne hd hid hx38 hx46 hev)]
         have S58 : St w.heap.size w w56 [] := (St.del 0 (St.del 1 (St.del 2 (St.del 3 (St.del 4 (St.del 5 S57)))))); clear S57
         exact ⟨none, 0, rfl, rdo_nil S58⟩
       ·have hwi : ((l.length + (i - d)) + 1) * 48 ≤ 140737488351232 := Nat.le_trans (Nat.mul_le_mul_right 48 (Nat.add_le_add_right (Nat.add_le_add_left (Nat.le_trans (Nat.sub_le i d) hi27) l.length) 1)) hb3
        refine wL_val (v := .bool false) (wn rfl) rfl rfl (y_binop rfl rfl rfl (r_lss_f (by omega))) ?_
        refine wL_nil (wQ_sub (l' := [(2, _), (3, _), (4, _), (5, _), (10, _), (11, _), (13, _), (14, _), (51, _)]) ⟨rfl, rfl, rfl, rfl, rfl, rfl, rfl, rfl, rfl, trivial⟩ (wQ_then (wC_cond_f rfl (wC_skip (wQ_then ?_)))))
        have S59 := S26.drew; clear S26
        refine wC_head (C := fun w' => St w.heap.size w w' [.blk b20 #[.int .i64 4, .int .i64 e, .int .i64 fr, .int .i64 0, .int .i64 0, .slice Ab (l.length + (i - d)) cb] 108, .blk b4 #[.int .i64 0, .int .i64 0, .int .i64 0, .int .i64 0, .int .i64 0, .slice none 0 0] 108, .blk b1 #[.int .i64 4, .int .i64 e, .int .i64 fr, .int .i64 0, .int .i64 0, .slice A l.length c] 108, .rd 6 A l.length ((l).flatMap Ev.cells), .rd 6 A2 K.length ((K).flatMap Ev.cells)]) (m := 10) (listed := #[false, false, false, false, false, false, false, false, false, false]) 8 mixed rfl rfl ?_
        refine wG_take (v := .pointer (some ⟨b20, 5, none⟩)) (i := 0) (m := 9) (listed' := #[true, false, false, false, false, false, false, false, false, false]) rfl (by kernel_rfl) (by kernel_rfl) (by kernel_rfl) rfl (by kernel_rfl) rfl (St.del 1 S59) rfl (wn rfl) rfl rfl (fun _ _ => (y_fieldAddr rfl rfl (fa108_5 _ _ _))) ?_
        refine wG_take (v := .slice Ab (l.length + (i - d)) cb) (i := 1) (m := 8) (listed' := #[true, true, false, false, false, false, false, false, false, false]) rfl (by kernel_rfl) (by kernel_rfl) (by kernel_rfl) rfl (by kernel_rfl) rfl (St.del 1 S59) rfl (wn rfl) rfl rfl (fun _ Sx61 => (y_load rfl rfl (r_load Try.underlying57 rfl (St.cl 0 Sx61 rfl rfl)))) ?_
        refine wG_take (v := .slice A2 K.length c2) (i := 2) (m := 7) (listed' := #[true, true, true, false, false, false, false, false, false, false]) rfl (by kernel_rfl) (by kernel_rfl) (by kernel_rfl) rfl (by kernel_rfl) rfl (St.del 1 S59) rfl (wn rfl) rfl rfl (fun _ _ => (y_move rfl rfl)) ?_
        refine wG_take (v := .int .i64 ((i : Nat) : Int)) (i := 3) (m := 6) (listed' := #[true, true, true, true, false, false, false, false, false, false]) rfl (by kernel_rfl) (by kernel_rfl) (by kernel_rfl) rfl (by kernel_rfl) rfl (St.del 1 S59) rfl (wn rfl) rfl rfl (fun _ _ => (y_move rfl rfl)) ?_
        obtain ⟨b64, o65, rfl⟩ := Rd.addr (St.rd 5 S59 rfl) (by omega)
        obtain ⟨x66, hx67⟩ : ∃ x, (K)[i]? = some x := ⟨_, List.getElem?_eq_getElem (by have := (St.rd 5 S59 rfl).1; rw [fm_len (sz := 6) (fun _ => rfl)] at this; omega)⟩
        refine wG_take (v := .pointer (some ⟨b64, o65 + i * 6, none⟩)) (i := 4) (m := 5) (listed' := #[true, true, true, true, true, false, false, false, false, false]) rfl (by kernel_rfl) (by kernel_rfl) (by kernel_rfl) rfl (by kernel_rfl) rfl (St.del 1 S59) rfl (wn rfl) rfl rfl (fun _ _ => (y_indexAddr rfl rfl rfl (r_indexAddr i Try.underlying57 inf37 (by omega) (by omega)))) ?_
        refine wG_take (v := .agg #[.int .i64 x66.kind, .int .i64 x66.producer, .int .i64 x66.id, .int .i64 x66.body, .int .i64 x66.hepoch, .int .i64 x66.hno]) (i := 5) (m := 4) (listed' := #[true, true, true, true, true, true, false, false, false, false]) rfl (by kernel_rfl) (by kernel_rfl) (by kernel_rfl) rfl (by kernel_rfl) rfl (St.del 1 S59) rfl (wn rfl) rfl rfl (fun _ Sx69 => (y_load rfl rfl (r_load_agg (cs := Ev.cells x66) Try.underlying37 rfl inf37 rfl (Rd.rg2 (St.rd 4 Sx69 rfl) (fun _ _ h => fm_get (enc := Ev.cells) (sz := 6) (fun _ => rfl) hx67 h))))) ?_
        refine wG_one (m := 3) (r := 6) (by kernel_rfl) ?_
        refine wH_new (i := 6) (listed' := #[true, true, true, true, true, true, true, false, false, false]) rfl rfl (V := fun b => .slice (some ⟨b, 0, none⟩) 1 1) (row := #[.int .i64 x66.kind, .int .i64 x66.producer, .int .i64 x66.id, .int .i64 x66.body, .int .i64 x66.hepoch, .int .i64 x66.hno]) (t := 37) S59 (wn rfl) rfl rfl (d_buildSlice (vs := [(0, .agg #[.int .i64 x66.kind, .int .i64 x66.producer, .int .i64 x66.id, .int .i64 x66.body, .int .i64 x66.hepoch, .int .i64 x66.hno])]) rfl ⟨rfl, rfl, trivial⟩ (by kernel_rfl)) ?_; intro b70 w71 S72; clear S59
        refine ⟨(St.del 0 (St.del 2 S72)), ?_⟩
        refine wG_one (m := 2) (r := 7) (by kernel_rfl) ?_
        refine wH_append (i := 7) (listed' := #[true, true, true, true, true, true, true, true, false, false]) rfl rfl (news := [.int .i64 x66.kind, .int .i64 x66.producer, .int .i64 x66.id, .int .i64 x66.body, .int .i64 x66.hepoch, .int .i64 x66.hno]) (xs' := (l ++ (K.take (i + 1)).drop d).flatMap Ev.cells) 2 S72 (wn rfl) rfl rfl rfl rfl rfl rfl (St.bld (xs := [.int .i64 x66.kind, .int .i64 x66.producer, .int .i64 x66.id, .int .i64 x66.body, .int .i64 x66.hepoch, .int .i64 x66.hno]) 0 S72 rfl rfl rfl) Try.underlying57 infz37 rfl (by decide) (oneAll rfl) (by simp only [maxLen]; omega) (Nat.le_trans hwi (by decide)) (fm_snoc (enc := Ev.cells) (imp_tail hid hx67) rfl) ?_; intro A73 c74 w75 hc77 hm78 S76; clear S72
        change St _ _ _ [_, _, .own 37 6 (.slice A73 ((l.length + (i - d)) + 1) c74) ((l.length + (i - d)) + 1) ((l ++ (K.take (i + 1)).drop d).flatMap Ev.cells), _, _, _, _] at S76
        refine ⟨(St.del 0 (St.del 2 S76)), ?_⟩
        refine wG_tail (by kernel_rfl) rfl rfl rfl ?_
        refine wL_val (v := .pointer (some ⟨b20, 5, none⟩)) (wn rfl) rfl rfl (y_fieldAddr rfl rfl (fa108_5 _ _ _)) ?_
        refine wL_st (cs := #[.slice A73 ((l.length + (i - d)) + 1) c74]) (row' := #[.int .i64 4, .int .i64 e, .int .i64 fr, .int .i64 0, .int .i64 0, .slice A73 ((l.length + (i - d)) + 1) c74]) (fs' := [_, .blk b20 #[.int .i64 4, .int .i64 e, .int .i64 fr, .int .i64 0, .int .i64 0, .slice A73 ((l.length + (i - d)) + 1) c74] 108, _, _, _, _, _]) 1 S76 (wn rfl) rfl rfl rfl rfl rfl rfl inf57 rfl (oneAll rfl) (Nat.le_of_ble_eq_true rfl) rfl rfl ?_; intro w79 S80; clear S76
        refine wL_nil (wQ_np ?_)
        refine wQ_sub (l' := [(2, _), (3, _), (4, _), (5, _), (10, _), (11, _), (13, _), (14, _)]) ⟨rfl, rfl, rfl, rfl, rfl, rfl, rfl, rfl, trivial⟩ (wQ_blk_n (wQ_then (wC_region (wL_val (wn rfl) rfl rfl (y_move rfl rfl) ?_))))
        refine wL_val (v := .int .i64 ((i + 1 : Nat) : Int)) (wn rfl) rfl rfl (y_binop rfl rfl rfl (r_add (by omega) (by omega))) ?_
        refine wL_val (wn rfl) rfl rfl (y_assign rfl rfl) ?_
        refine wL_nil (wQ_sub (l' := [(2, _), (3, _), (4, _), (5, _), (10, _), (11, _), (13, _), (14, _)]) ⟨rfl, rfl, rfl, rfl, rfl, rfl, rfl, rfl, trivial⟩ ?_)
        have S81 : St w.heap.size w w79 [_, _, _, _, _, _] := (St.del 0 S80); clear S80
        have S82 := S81; clear S81
        rw [show (l.length + (i - d)) + 1 = l.length + (i + 1 - d) from by omega] at S82
        refine wQ_round (i + 1, A73, c74) ?_ ⟨rfl, rfl, rfl, rfl, rfl, rfl, rfl, rfl, trivial⟩ (by first | omega | (dsimp only; omega))
        exact ⟨(by dsimp only; omega), (imp_past hid hi28), S82⟩
      ·refine wL_val (v := .bool false) (wn rfl) rfl rfl (y_binop rfl rfl rfl (r_lss_f h29)) ?_
       refine wL_nil (wQ_sub (l' := [(2, _), (3, _), (4, _), (5, _), (10, _), (11, _), (13, _), (14, _), (42, _)]) ⟨rfl, rfl, rfl, rfl, rfl, rfl, rfl, rfl, rfl, trivial⟩ (wQ_then (wC_cond_f rfl (wC_exit (wQ_then_exit (wQ_then_exit (wQ_blk_same (wQ_then (wC_seq (wC_seq ?_))))))))))
       obtain rfl : i = K.length := by omega
       have hq : (l.drop k).take p = K.take p := by rw [← hp, Nat.min_comm]; exact hi28
       have S83 := S26; clear S26
       rw [List.take_length] at S83
       change St _ _ _ [_, .own 37 6 (.slice Ab (l.length + (K.length - d)) cb) (l.length + (K.length - d)) ((l ++ (K.drop d)).flatMap Ev.cells), _, _, _, _] at S83
       refine wC_region (wL_val (wn rfl) rfl rfl (y_move rfl rfl) ?_)
       refine wL_nil (wQ_sub (l' := [(2, _), (3, _), (10, _), (11, _), (13, _), (74, _)]) ⟨rfl, rfl, rfl, rfl, rfl, rfl, trivial⟩ (wQ_then ?_))
       cases hb84 : (last)
       ·refine wC_sub (l' := [(2, .int .i64 ((k : Nat) : Int)), (3, .slice A2 K.length c2), (10, .pointer (some ⟨b4, 0, none⟩)), (11, .int .i64 0), (13, .pointer (some ⟨b20, 0, none⟩)), (74, .bool false)]) ⟨rfl, rfl, rfl, rfl, rfl, rfl, trivial⟩ (wC_cond_f rfl (wC_skip (wQ_then (wC_seq (wC_seq (wC_region (wL_val (wn rfl) rfl rfl (y_load rfl rfl (r_load_row 0 S83 rfl Try.underlying108 rfl inf108 rfl)) ?_)))))))
        have hal : (l ++ (K.drop d)).length = l.length + (K.length - d) := by simp only [List.length_append, List.length_cons, List.length_nil, List.length_drop]
        have HC85 := fun (w : World) (h : Rd w w.heap.size 6 Ab ((l ++ (K.drop d)).length) (evCells (l ++ (K.drop d)))) => BerthFault_calls 4 e fr 0 0 Ab cb (l ++ (K.drop d)) w h (by omega)
        rw [hal] at HC85
        refine wL_call (vs := [.agg #[.int .i64 4, .int .i64 e, .int .i64 fr, .int .i64 0, .int .i64 0, .slice Ab (l.length + (K.length - d)) cb]]) (wn rfl) rfl rfl (e_call (vs := [.agg #[.int .i64 4, .int .i64 e, .int .i64 fr, .int .i64 0, .int .i64 0, .slice Ab (l.length + (K.length - d)) cb]]) rfl en78 ⟨rfl, trivial⟩) (HC85 _ (St.ord 1 S83 rfl)) ?_
        rintro _ w86 ⟨rfl, hb88⟩
        refine ⟨_, rfl, ?_⟩
        have S87 := S83.on hb88; clear hb88 S83; clear HC85
        by_cases h89 : brtFault ⟨4, e, fr, 0, 0, l ++ (K.drop d)⟩ = 0
        ·refine wL_val (v := .bool false) (wn rfl) rfl rfl (y_binop rfl rfl rfl (r_neq_f h89)) ?_
         refine wL_nil (wQ_sub (l' := [(10, _), (11, _), (13, _), (94, _)]) ⟨rfl, rfl, rfl, rfl, trivial⟩ (wQ_then (wC_cond_f rfl (wC_skip (wQ_then (wC_seq (wC_region (wL_val (wn rfl) rfl rfl (y_load rfl rfl (r_load_row 0 S87 rfl Try.underlying108 rfl inf108 rfl)) ?_))))))))
         refine wL_st (fs' := [_, _, _, _, _, _]) 2 S87 (wn rfl) rfl rfl rfl rfl rfl rfl inf108 rfl (oneAll rfl) (Nat.le_of_ble_eq_true rfl) (setAll_all rfl) rfl ?_; intro w90 S91; clear S87
         refine wL_val (wn rfl) rfl rfl (y_assign rfl rfl) ?_
         refine wL_nil (wQ_sub (l' := [(10, _), (11, _)]) ⟨rfl, rfl, trivial⟩ (wQ_then (wC_ret (wQ_post (rs := [.cell 10 108, .tmp 11]) (vs := [.agg #[.int .i64 4, .int .i64 e, .int .i64 fr, .int .i64 0, .int .i64 0, .slice Ab (l.length + (K.length - d)) cb], .int .i64 0]) rfl ⟨⟨_, rfl, res_row 2 S91 rfl Try.underlying108 rfl inf108⟩, rfl, trivial⟩ ?_))))
         rw [imp_go (b := ⟨4, e, fr, 0, 0, l⟩) (k := k) h10 rfl rfl (by dsimp only; omega)]
         dsimp only
         rw [show l.length - k = d from by omega]
         rw [if_neg (fun h => h (hqm.out.2 hq))]
         rw [if_neg (by simp)]
         rw [impNew_f]
         dsimp only
         rw [if_neg (fun h => h h89)]
         have S92 : St w.heap.size w w90 [_] := (St.del 0 (St.del 2 (St.del 3 (St.del 4 (St.del 5 S91))))); clear S91
         have S93 := S92.sealAll 0 rfl; clear S92
         change St _ _ _ [.rdo 6 Ab (l.length + (K.length - d)) ((l ++ (K.drop d)).flatMap Ev.cells)] at S93
         have hal2 : (l ++ (K.drop d)).length = l.length + (K.length - d) := by simp only [List.length_append, List.length_cons, List.length_nil, List.length_drop]
         refine ⟨Ab, cb, ?_, ?_⟩
         · dsimp only; rw [hal2]; rfl
         · dsimp only; rw [hal2]; exact S93
        ·refine wL_val (v := .bool true) (wn rfl) rfl rfl (y_binop rfl rfl rfl (r_neq_t h89)) ?_
         refine wL_nil (wQ_sub (l' := [(10, _), (11, _), (13, _), (94, _)]) ⟨rfl, rfl, rfl, rfl, trivial⟩ (wQ_then (wC_cond_t rfl (wC_seq (wC_region (wL_val (v := .agg #[.int .i64 0, .int .i64 0, .int .i64 0, .int .i64 0, .int .i64 0, .slice none 0 0]) (wn rfl) rfl rfl (y_build (vs := []) rfl trivial (by kernel_rfl)) ?_))))))
         refine wL_st (fs' := [_, _, _, _, _, _]) 2 S87 (wn rfl) rfl rfl rfl rfl rfl rfl inf108 rfl (oneAll rfl) (Nat.le_of_ble_eq_true rfl) (setAll_all rfl) rfl ?_; intro w94 S95; clear S87
         refine wL_val (wn rfl) rfl rfl (y_assign rfl rfl) ?_
         refine wL_nil (wQ_sub (l' := [(10, _), (11, _)]) ⟨rfl, rfl, trivial⟩ (wQ_then (wC_ret (wQ_then_ret (wQ_post (rs := [.cell 10 108, .tmp 11]) (vs := [.agg #[.int .i64 0, .int .i64 0, .int .i64 0, .int .i64 0, .int .i64 0, .slice none 0 0], .int .i64 3]) rfl ⟨⟨_, rfl, res_row 2 S95 rfl Try.underlying108 rfl inf108⟩, rfl, trivial⟩ ?_)))))
         rw [imp_go (b := ⟨4, e, fr, 0, 0, l⟩) (k := k) h10 rfl rfl (by dsimp only; omega)]
         dsimp only
         rw [show l.length - k = d from by omega]
         rw [if_neg (fun h => h (hqm.out.2 hq))]
         rw [if_neg (by simp)]
         rw [impNew_f]
         dsimp only
         rw [if_pos h89]
         have S96 : St w.heap.size w w94 [] := (St.del 0 (St.del 1 (St.del 2 (St.del 3 (St.del 4 (St.del 5 S95)))))); clear S95
         exact ⟨none, 0, rfl, rdo_nil S96⟩
       ·refine wC_sub (l' := [(2, .int .i64 ((k : Nat) : Int)), (3, .slice A2 K.length c2), (10, .pointer (some ⟨b4, 0, none⟩)), (11, .int .i64 0), (13, .pointer (some ⟨b20, 0, none⟩)), (74, .bool true)]) ⟨rfl, rfl, rfl, rfl, rfl, rfl, trivial⟩ (wC_cond_t rfl (wC_seq (wC_seq ?_)))
        have hwk : ((l.length + (K.length - d)) + 1) * 48 ≤ 140737488351232 := Nat.le_trans (Nat.mul_le_mul_right 48 (Nat.add_le_add_right (Nat.add_le_add_left (Nat.sub_le K.length d) l.length) 1)) hb3
        refine wC_region (wL_val (wn rfl) rfl rfl (y_move rfl rfl) ?_)
        refine wL_val (wn rfl) rfl rfl (y_move rfl rfl) ?_
        refine wL_val (v := .int .i64 ((K.length : Nat) : Int)) (wn rfl) rfl rfl (y_builtin (vs := [.slice A2 K.length c2]) rfl ⟨rfl, trivial⟩ fun _ => r_len rfl Try.underlying57) ?_
        refine wL_val (v := .int .i64 ((k + K.length : Nat) : Int)) (wn rfl) rfl rfl (y_binop rfl rfl rfl (r_add (by omega) (by omega))) ?_
        refine wL_val (v := .pointer (some ⟨b20, 5, none⟩)) (wn rfl) rfl rfl (y_fieldAddr rfl rfl (fa108_5 _ _ _)) ?_
        refine wL_val (wn rfl) rfl rfl (y_load rfl rfl (r_load Try.underlying57 rfl (St.cl 0 S83 rfl rfl))) ?_
        refine wL_val (v := .int .i64 ((l.length + (K.length - d) : Nat) : Int)) (wn rfl) rfl rfl (y_builtin (vs := [.slice Ab (l.length + (K.length - d)) cb]) rfl ⟨rfl, trivial⟩ fun _ => r_len rfl Try.underlying57) ?_
        by_cases hsh2 : k + K.length < l.length
        ·refine wL_val (v := .bool true) (wn rfl) rfl rfl (y_binop rfl rfl rfl (r_neq_t (by omega))) ?_
         refine wL_nil (wQ_sub (l' := [(10, _), (11, _), (13, _), (82, _)]) ⟨rfl, rfl, rfl, rfl, trivial⟩ (wQ_then (wC_cond_t rfl (wC_seq (wC_region (wL_val (v := .agg #[.int .i64 0, .int .i64 0, .int .i64 0, .int .i64 0, .int .i64 0, .slice none 0 0]) (wn rfl) rfl rfl (y_build (vs := []) rfl trivial (by kernel_rfl)) ?_))))))
         refine wL_st (fs' := [_, _, _, _, _, _]) 2 S83 (wn rfl) rfl rfl rfl rfl rfl rfl inf108 rfl (oneAll rfl) (Nat.le_of_ble_eq_true rfl) (setAll_all rfl) rfl ?_; intro w97 S98; clear S83
         refine wL_val (wn rfl) rfl rfl (y_assign rfl rfl) ?_
         refine wL_nil (wQ_sub (l' := [(10, _), (11, _)]) ⟨rfl, rfl, trivial⟩ (wQ_then (wC_ret (wQ_then_ret (wQ_then_ret (wQ_post (rs := [.cell 10 108, .tmp 11]) (vs := [.agg #[.int .i64 0, .int .i64 0, .int .i64 0, .int .i64 0, .int .i64 0, .slice none 0 0], .int .i64 3]) rfl ⟨⟨_, rfl, res_row 2 S98 rfl Try.underlying108 rfl inf108⟩, rfl, trivial⟩ ?_))))))
         rw [imp_go (b := ⟨4, e, fr, 0, 0, l⟩) (k := k) h10 rfl rfl (by dsimp only; omega)]
         dsimp only
         rw [show l.length - k = d from by omega]
         rw [if_neg (fun h => h (hqm.out.2 hq))]
         rw [if_pos ⟨rfl, by omega⟩]
         have S99 : St w.heap.size w w97 [] := (St.del 0 (St.del 1 (St.del 2 (St.del 3 (St.del 4 (St.del 5 S98)))))); clear S98
         exact ⟨none, 0, rfl, rdo_nil S99⟩
        ·refine wL_val (v := .bool false) (wn rfl) rfl rfl (y_binop rfl rfl rfl (r_neq_f (by omega))) ?_
         refine wL_nil (wQ_sub (l' := [(10, _), (11, _), (13, _), (82, _)]) ⟨rfl, rfl, rfl, rfl, trivial⟩ (wQ_then (wC_cond_f rfl (wC_skip (wQ_then (wC_seq (wC_region (wL_val (v := .pointer (some ⟨b20, 0, none⟩)) (wn rfl) rfl rfl (y_fieldAddr rfl rfl (fa108_0 _ _ _)) ?_))))))))
         refine wL_st (cs := #[.int .i64 1]) (row' := #[.int .i64 1, .int .i64 e, .int .i64 fr, .int .i64 0, .int .i64 0, .slice Ab (l.length + (K.length - d)) cb]) (fs' := [.blk b20 #[.int .i64 1, .int .i64 e, .int .i64 fr, .int .i64 0, .int .i64 0, .slice Ab (l.length + (K.length - d)) cb] 108, _, _, _, _, _]) 0 S83 (wn rfl) rfl rfl rfl rfl rfl rfl inf3 rfl (oneAll rfl) (Nat.le_of_ble_eq_true rfl) rfl rfl ?_; intro w100 S101; clear S83
         refine wL_nil (wQ_sub (l' := [(10, _), (11, _), (13, _)]) ⟨rfl, rfl, rfl, trivial⟩ (wQ_then (wC_seq (wC_region (wL_val (v := .pointer (some ⟨b20, 2, none⟩)) (wn rfl) rfl rfl (y_fieldAddr rfl rfl (fa108_2 _ _ _)) ?_)))))
         refine wL_st (cs := #[.int .i64 0]) (row' := #[.int .i64 1, .int .i64 e, .int .i64 0, .int .i64 0, .int .i64 0, .slice Ab (l.length + (K.length - d)) cb]) (fs' := [.blk b20 #[.int .i64 1, .int .i64 e, .int .i64 0, .int .i64 0, .int .i64 0, .slice Ab (l.length + (K.length - d)) cb] 108, _, _, _, _, _]) 0 S101 (wn rfl) rfl rfl rfl rfl rfl rfl inf3 rfl (oneAll rfl) (Nat.le_of_ble_eq_true rfl) rfl rfl ?_; intro w102 S103; clear S101
         refine wL_nil (wQ_sub (l' := [(10, _), (11, _), (13, _)]) ⟨rfl, rfl, rfl, trivial⟩ (wQ_then (wC_region (wL_val (v := .pointer (some ⟨b20, 5, none⟩)) (wn rfl) rfl rfl (y_fieldAddr rfl rfl (fa108_5 _ _ _)) ?_))))
         refine wL_val (wn rfl) rfl rfl (y_load rfl rfl (r_load Try.underlying57 rfl (St.cl 0 S103 rfl rfl))) ?_
         refine wL_val (v := .agg #[.int .i64 4, .int .i64 0, .int .i64 0, .int .i64 0, .int .i64 0, .int .i64 0]) (wn rfl) rfl rfl (y_build (vs := [(0, .int .i64 4)]) rfl ⟨rfl, rfl, trivial⟩ (by kernel_rfl)) ?_
         refine wL_new (V := fun b => .slice (some ⟨b, 0, none⟩) 1 1) (row := #[.int .i64 4, .int .i64 0, .int .i64 0, .int .i64 0, .int .i64 0, .int .i64 0]) (t := 37) S103 (wn rfl) rfl rfl (d_buildSlice (vs := [(0, .agg #[.int .i64 4, .int .i64 0, .int .i64 0, .int .i64 0, .int .i64 0, .int .i64 0])]) rfl ⟨rfl, rfl, trivial⟩ (by kernel_rfl)) ?_; intro b104 w105 S106; clear S103
         refine wL_append (news := [.int .i64 4, .int .i64 0, .int .i64 0, .int .i64 0, .int .i64 0, .int .i64 0]) (xs' := (l ++ (K.drop d) ++ [brkEv]).flatMap Ev.cells) 2 S106 (wn rfl) rfl rfl rfl rfl rfl rfl (St.bld (xs := [.int .i64 4, .int .i64 0, .int .i64 0, .int .i64 0, .int .i64 0, .int .i64 0]) 0 S106 rfl rfl rfl) Try.underlying57 infz37 rfl (by decide) (oneAll rfl) (by simp only [maxLen]; omega) (Nat.le_trans hwk (by decide)) (fm_snoc (enc := Ev.cells) rfl rfl) ?_; intro A107 c108 w109 hc111 hm112 S110; clear S106
         change St _ _ _ [_, _, .own 37 6 (.slice A107 ((l.length + (K.length - d)) + 1) c108) ((l.length + (K.length - d)) + 1) ((l ++ (K.drop d) ++ [brkEv]).flatMap Ev.cells), _, _, _, _] at S110
         refine wL_val (v := .pointer (some ⟨b20, 5, none⟩)) (wn rfl) rfl rfl (y_fieldAddr rfl rfl (fa108_5 _ _ _)) ?_
         refine wL_st (cs := #[.slice A107 ((l.length + (K.length - d)) + 1) c108]) (row' := #[.int .i64 1, .int .i64 e, .int .i64 0, .int .i64 0, .int .i64 0, .slice A107 ((l.length + (K.length - d)) + 1) c108]) (fs' := [_, .blk b20 #[.int .i64 1, .int .i64 e, .int .i64 0, .int .i64 0, .int .i64 0, .slice A107 ((l.length + (K.length - d)) + 1) c108] 108, _, _, _, _, _]) 1 S110 (wn rfl) rfl rfl rfl rfl rfl rfl inf57 rfl (oneAll rfl) (Nat.le_of_ble_eq_true rfl) rfl rfl ?_; intro w113 S114; clear S110
         refine wL_nil (wQ_sub (l' := [(10, _), (11, _), (13, _)]) ⟨rfl, rfl, rfl, trivial⟩ (wQ_then (wC_seq (wC_seq (wC_region (wL_val (wn rfl) rfl rfl (y_load rfl rfl (r_load_row 1 S114 rfl Try.underlying108 rfl inf108 rfl)) ?_))))))
         have hal : (l ++ (K.drop d) ++ [brkEv]).length = (l.length + (K.length - d)) + 1 := by simp only [List.length_append, List.length_cons, List.length_nil, List.length_drop]
         have HC115 := fun (w : World) (h : Rd w w.heap.size 6 A107 ((l ++ (K.drop d) ++ [brkEv]).length) (evCells (l ++ (K.drop d) ++ [brkEv]))) => BerthFault_calls 1 e 0 0 0 A107 c108 (l ++ (K.drop d) ++ [brkEv]) w h (by omega)
         rw [hal] at HC115
         refine wL_call (vs := [.agg #[.int .i64 1, .int .i64 e, .int .i64 0, .int .i64 0, .int .i64 0, .slice A107 ((l.length + (K.length - d)) + 1) c108]]) (wn rfl) rfl rfl (e_call (vs := [.agg #[.int .i64 1, .int .i64 e, .int .i64 0, .int .i64 0, .int .i64 0, .slice A107 ((l.length + (K.length - d)) + 1) c108]]) rfl en78 ⟨rfl, trivial⟩) (HC115 _ (St.ord 2 S114 rfl)) ?_
         rintro _ w116 ⟨rfl, hb118⟩
         refine ⟨_, rfl, ?_⟩
         have S117 := S114.on hb118; clear hb118 S114; clear HC115
         by_cases h119 : brtFault ⟨1, e, 0, 0, 0, l ++ (K.drop d) ++ [brkEv]⟩ = 0
         ·refine wL_val (v := .bool false) (wn rfl) rfl rfl (y_binop rfl rfl rfl (r_neq_f h119)) ?_
          refine wL_nil (wQ_sub (l' := [(10, _), (11, _), (13, _), (94, _)]) ⟨rfl, rfl, rfl, rfl, trivial⟩ (wQ_then (wC_cond_f rfl (wC_skip (wQ_then (wC_seq (wC_region (wL_val (wn rfl) rfl rfl (y_load rfl rfl (r_load_row 1 S117 rfl Try.underlying108 rfl inf108 rfl)) ?_))))))))
          refine wL_st (fs' := [_, _, _, _, _, _, _]) 3 S117 (wn rfl) rfl rfl rfl rfl rfl rfl inf108 rfl (oneAll rfl) (Nat.le_of_ble_eq_true rfl) (setAll_all rfl) rfl ?_; intro w120 S121; clear S117
          refine wL_val (wn rfl) rfl rfl (y_assign rfl rfl) ?_
          refine wL_nil (wQ_sub (l' := [(10, _), (11, _)]) ⟨rfl, rfl, trivial⟩ (wQ_then (wC_ret (wQ_post (rs := [.cell 10 108, .tmp 11]) (vs := [.agg #[.int .i64 1, .int .i64 e, .int .i64 0, .int .i64 0, .int .i64 0, .slice A107 ((l.length + (K.length - d)) + 1) c108], .int .i64 0]) rfl ⟨⟨_, rfl, res_row 3 S121 rfl Try.underlying108 rfl inf108⟩, rfl, trivial⟩ ?_))))
          rw [imp_go (b := ⟨4, e, fr, 0, 0, l⟩) (k := k) h10 rfl rfl (by dsimp only; omega)]
          dsimp only
          rw [show l.length - k = d from by omega]
          rw [if_neg (fun h => h (hqm.out.2 hq))]
          rw [if_neg (by simp; omega)]
          rw [impNew_t]
          dsimp only
          rw [if_neg (fun h => h h119)]
          have S122 : St w.heap.size w w120 [_] := (St.del 0 (St.del 1 (St.del 3 (St.del 4 (St.del 5 (St.del 6 S121)))))); clear S121
          have S123 := S122.sealAll 0 rfl; clear S122
          change St _ _ _ [.rdo 6 A107 ((l.length + (K.length - d)) + 1) ((l ++ (K.drop d) ++ [brkEv]).flatMap Ev.cells)] at S123
          have hal2 : (l ++ (K.drop d) ++ [brkEv]).length = (l.length + (K.length - d)) + 1 := by simp only [List.length_append, List.length_cons, List.length_nil, List.length_drop]
          refine ⟨A107, c108, ?_, ?_⟩
          · dsimp only; rw [hal2]; rfl
          · dsimp only; rw [hal2]; exact S123
         ·refine wL_val (v := .bool true) (wn rfl) rfl rfl (y_binop rfl rfl rfl (r_neq_t h119)) ?_
          refine wL_nil (wQ_sub (l' := [(10, _), (11, _), (13, _), (94, _)]) ⟨rfl, rfl, rfl, rfl, trivial⟩ (wQ_then (wC_cond_t rfl (wC_seq (wC_region (wL_val (v := .agg #[.int .i64 0, .int .i64 0, .int .i64 0, .int .i64 0, .int .i64 0, .slice none 0 0]) (wn rfl) rfl rfl (y_build (vs := []) rfl trivial (by kernel_rfl)) ?_))))))
          refine wL_st (fs' := [_, _, _, _, _, _, _]) 3 S117 (wn rfl) rfl rfl rfl rfl rfl rfl inf108 rfl (oneAll rfl) (Nat.le_of_ble_eq_true rfl) (setAll_all rfl) rfl ?_; intro w124 S125; clear S117
          refine wL_val (wn rfl) rfl rfl (y_assign rfl rfl) ?_
          refine wL_nil (wQ_sub (l' := [(10, _), (11, _)]) ⟨rfl, rfl, trivial⟩ (wQ_then (wC_ret (wQ_then_ret (wQ_post (rs := [.cell 10 108, .tmp 11]) (vs := [.agg #[.int .i64 0, .int .i64 0, .int .i64 0, .int .i64 0, .int .i64 0, .slice none 0 0], .int .i64 3]) rfl ⟨⟨_, rfl, res_row 3 S125 rfl Try.underlying108 rfl inf108⟩, rfl, trivial⟩ ?_)))))
          rw [imp_go (b := ⟨4, e, fr, 0, 0, l⟩) (k := k) h10 rfl rfl (by dsimp only; omega)]
          dsimp only
          rw [show l.length - k = d from by omega]
          rw [if_neg (fun h => h (hqm.out.2 hq))]
          rw [if_neg (by simp; omega)]
          rw [impNew_t]
          dsimp only
          rw [if_pos h119]
          have S126 : St w.heap.size w w124 [] := (St.del 0 (St.del 1 (St.del 2 (St.del 3 (St.del 4 (St.del 5 (St.del 6 S125))))))); clear S125
          exact ⟨none, 0, rfl, rdo_nil S126⟩
    ·refine wL_call (vs := [.int .i64 at_, .int .i64 0, .int .i64 ((l.length : Nat) : Int)]) (wn rfl) rfl rfl (e_call (vs := [.int .i64 at_, .int .i64 0, .int .i64 ((l.length : Nat) : Int)]) rfl en107 ⟨rfl, rfl, rfl, trivial⟩) (In_f hp13 _) ?_
     rintro _ w127 ⟨rfl, rfl⟩
     refine ⟨_, rfl, ?_⟩
     refine wL_val (v := .bool true) (wn rfl) rfl rfl (y_unop rfl rfl r_not) ?_
     refine wL_nil (wQ_sub (l' := [(2, _), (3, _), (4, _), (5, _), (10, _), (11, _), (35, _)]) ⟨rfl, rfl, rfl, rfl, rfl, rfl, rfl, trivial⟩ (wQ_then (wC_cond_t rfl (wC_seq (wC_region (wL_val (v := .agg #[.int .i64 0, .int .i64 0, .int .i64 0, .int .i64 0, .int .i64 0, .slice none 0 0]) (wn rfl) rfl rfl (y_build (vs := []) rfl trivial (by kernel_rfl)) ?_))))))
     refine wL_st (fs' := [_, _, _, _]) 0 S8 (wn rfl) rfl rfl rfl rfl rfl rfl inf108 rfl (oneAll rfl) (Nat.le_of_ble_eq_true rfl) (setAll_all rfl) rfl ?_; intro w128 S129; clear S8
     refine wL_val (wn rfl) rfl rfl (y_assign rfl rfl) ?_
     refine wL_nil (wQ_sub (l' := [(10, _), (11, _)]) ⟨rfl, rfl, trivial⟩ (wQ_then (wC_ret (wQ_then_ret (wQ_post (rs := [.cell 10 108, .tmp 11]) (vs := [.agg #[.int .i64 0, .int .i64 0, .int .i64 0, .int .i64 0, .int .i64 0, .slice none 0 0], .int .i64 2]) rfl ⟨⟨_, rfl, res_row 0 S129 rfl Try.underlying108 rfl inf108⟩, rfl, trivial⟩ ?_)))))
     have S130 : St w.heap.size w w128 [] := (St.del 0 (St.del 1 (St.del 2 (St.del 3 S129)))); clear S129
     rw [show importM ⟨ro, ep, fr, tg, rd, l⟩ e at_ K last = (zeroB, 2) from by unfold importM; (try dsimp only); (repeat' (first | rfl | omega | split)) <;> (simp only [Prod.mk.injEq, Brt.mk.injEq, and_true, true_and, and_self]; omega)]
     exact ⟨none, 0, rfl, rdo_nil S130⟩
   ·refine wL_val (v := .bool true) (wn rfl) rfl rfl (y_binop rfl rfl rfl (r_neq_t h12)) ?_
    refine wL_nil (wQ_sub (l' := [(2, _), (3, _), (4, _), (5, _), (10, _), (11, _), (28, _)]) ⟨rfl, rfl, rfl, rfl, rfl, rfl, rfl, trivial⟩ (wQ_then (wC_cond_t rfl (wC_seq (wC_region (wL_val (v := .agg #[.int .i64 0, .int .i64 0, .int .i64 0, .int .i64 0, .int .i64 0, .slice none 0 0]) (wn rfl) rfl rfl (y_build (vs := []) rfl trivial (by kernel_rfl)) ?_))))))
    refine wL_st (fs' := [_, _, _, _]) 0 S8 (wn rfl) rfl rfl rfl rfl rfl rfl inf108 rfl (oneAll rfl) (Nat.le_of_ble_eq_true rfl) (setAll_all rfl) rfl ?_; intro w131 S132; clear S8
    refine wL_val (wn rfl) rfl rfl (y_assign rfl rfl) ?_
    refine wL_nil (wQ_sub (l' := [(10, _), (11, _)]) ⟨rfl, rfl, trivial⟩ (wQ_then (wC_ret (wQ_then_ret (wQ_post (rs := [.cell 10 108, .tmp 11]) (vs := [.agg #[.int .i64 0, .int .i64 0, .int .i64 0, .int .i64 0, .int .i64 0, .slice none 0 0], .int .i64 15]) rfl ⟨⟨_, rfl, res_row 0 S132 rfl Try.underlying108 rfl inf108⟩, rfl, trivial⟩ ?_)))))
    have S133 : St w.heap.size w w131 [] := (St.del 0 (St.del 1 (St.del 2 (St.del 3 S132)))); clear S132
    rw [show importM ⟨ro, ep, fr, tg, rd, l⟩ e at_ K last = (zeroB, 15) from by unfold importM; (try dsimp only); (repeat' (first | rfl | omega | split)) <;> (simp only [Prod.mk.injEq, Brt.mk.injEq, and_true, true_and, and_self]; omega)]
    exact ⟨none, 0, rfl, rdo_nil S133⟩
  ·refine wL_val (v := .bool true) (wn rfl) rfl rfl (y_binop rfl rfl rfl (r_neq_t h11)) ?_
   refine wL_nil (wQ_sub (l' := [(1, _), (2, _), (3, _), (4, _), (5, _), (10, _), (11, _), (23, _)]) ⟨rfl, rfl, rfl, rfl, rfl, rfl, rfl, rfl, trivial⟩ (wQ_then (wC_cond_t rfl (wC_seq (wC_region (wL_val (v := .agg #[.int .i64 0, .int .i64 0, .int .i64 0, .int .i64 0, .int .i64 0, .slice none 0 0]) (wn rfl) rfl rfl (y_build (vs := []) rfl trivial (by kernel_rfl)) ?_))))))
   refine wL_st (fs' := [_, _, _, _]) 0 S8 (wn rfl) rfl rfl rfl rfl rfl rfl inf108 rfl (oneAll rfl) (Nat.le_of_ble_eq_true rfl) (setAll_all rfl) rfl ?_; intro w134 S135; clear S8
   refine wL_val (wn rfl) rfl rfl (y_assign rfl rfl) ?_
   refine wL_nil (wQ_sub (l' := [(10, _), (11, _)]) ⟨rfl, rfl, trivial⟩ (wQ_then (wC_ret (wQ_then_ret (wQ_post (rs := [.cell 10 108, .tmp 11]) (vs := [.agg #[.int .i64 0, .int .i64 0, .int .i64 0, .int .i64 0, .int .i64 0, .slice none 0 0], .int .i64 7]) rfl ⟨⟨_, rfl, res_row 0 S135 rfl Try.underlying108 rfl inf108⟩, rfl, trivial⟩ ?_)))))
   have S136 : St w.heap.size w w134 [] := (St.del 0 (St.del 1 (St.del 2 (St.del 3 S135)))); clear S135
   rw [show importM ⟨ro, ep, fr, tg, rd, l⟩ e at_ K last = (zeroB, 7) from by unfold importM; (try dsimp only); (repeat' (first | rfl | omega | split)) <;> (simp only [Prod.mk.injEq, Brt.mk.injEq, and_true, true_and, and_self]; omega)]
   exact ⟨none, 0, rfl, rdo_nil S136⟩
 ·refine wL_val (v := .bool true) (wn rfl) rfl rfl (y_binop rfl rfl rfl (r_neq_t h10)) ?_
  refine wL_nil (wQ_sub (l' := [(1, _), (2, _), (3, _), (4, _), (5, _), (10, _), (11, _), (12, _), (18, _)]) ⟨rfl, rfl, rfl, rfl, rfl, rfl, rfl, rfl, rfl, trivial⟩ (wQ_then (wC_cond_t rfl (wC_seq (wC_region (wL_val (v := .agg #[.int .i64 0, .int .i64 0, .int .i64 0, .int .i64 0, .int .i64 0, .slice none 0 0]) (wn rfl) rfl rfl (y_build (vs := []) rfl trivial (by kernel_rfl)) ?_))))))
  refine wL_val (wn rfl) rfl rfl (y_move rfl rfl) ?_
  refine wL_st (fs' := [_, _, _, _]) 0 S8 (wn rfl) rfl rfl rfl rfl rfl rfl inf108 rfl (oneAll rfl) (Nat.le_of_ble_eq_true rfl) (setAll_all rfl) rfl ?_; intro w137 S138; clear S8
  refine wL_val (wn rfl) rfl rfl (y_assign rfl rfl) ?_
  refine wL_nil (wQ_sub (l' := [(10, _), (11, _)]) ⟨rfl, rfl, trivial⟩ (wQ_then (wC_ret (wQ_then_ret (wQ_post (rs := [.cell 10 108, .tmp 11]) (vs := [.agg #[.int .i64 0, .int .i64 0, .int .i64 0, .int .i64 0, .int .i64 0, .slice none 0 0], .int .i64 (brtFault ⟨ro, ep, fr, tg, rd, l⟩)]) rfl ⟨⟨_, rfl, res_row 0 S138 rfl Try.underlying108 rfl inf108⟩, rfl, trivial⟩ ?_)))))
  have S139 : St w.heap.size w w137 [] := (St.del 0 (St.del 1 (St.del 2 (St.del 3 S138)))); clear S138
  rw [show importM ⟨ro, ep, fr, tg, rd, l⟩ e at_ K last = (zeroB, brtFault ⟨ro, ep, fr, tg, rd, l⟩) from by unfold importM; (try dsimp only); (repeat' (first | rfl | omega | split)) <;> (simp only [Prod.mk.injEq, Brt.mk.injEq, and_true, true_and, and_self]; omega)]
  exact ⟨none, 0, rfl, rdo_nil S139⟩
end Go.Proofs.Ytkjlafpafmihaaa

namespace Go.Proofs.Ytkjlafpafmihaaa
open Go.ChangeShapes Go.WideShapes Go.RowKit

theorem importM_len {b : Brt} {e a : Int} {K : List Ev} {last : Bool} : (importM b e a K last).1.evs.length ≤ b.evs.length + K.length + 1 := by
  have h1 : (b.evs ++ K.drop (b.evs.length - a.toNat)).length ≤ b.evs.length + K.length := by rw [List.length_append, List.length_drop]; omega
  unfold importM
  repeat' split
  all_goals first
    | (simp only [zeroB, List.length_nil]; omega)
    | (dsimp only; omega)
    | (simp only [List.length_append, List.length_cons, List.length_nil] at h1 ⊢; omega)

set_option maxRecDepth 100000 in
set_option maxHeartbeats 2000000 in
theorem berthImports_calls (ro ep fr tg rd : Int) (A : Option Addr) (c : Nat) (l : List Ev) (e at_ : Int) (A2 : Option Addr) (c2 : Nat) (K : List Ev) (last : Bool) (hlc : l.length ≤ c) (hkc : K.length ≤ c2) (w : World) (hK : Rd w w.heap.size 6 A2 K.length (evCells K)) (h : Rd w w.heap.size 6 A l.length (evCells l)) (hb : l.length * 48 ≤ reachBytes) (hk : K.length ≤ 1048576) :
    Calls Try.prog 27 #[.agg #[.int .i64 ro, .int .i64 ep, .int .i64 fr, .int .i64 tg, .int .i64 rd, .slice A l.length c], .int .i64 e, .int .i64 at_, .slice A2 K.length c2, .bool last] w fun e w' => e = .returned (.bool true) ∧ Below w.heap.size w w' := by
 have S := ((St.start w).addRd hK).addRd h; clear h hK
 have hb2 := hb
 unfold reachBytes at hb2
 have hbk : K.length * 48 ≤ reachBytes := by unfold reachBytes; omega
 have hbK : (K.length + 2001) * 48 ≤ reachBytes := by unfold reachBytes; omega
 have HP := fun A c A2 c2 w hK h hlc hkc => Import_calls ro ep fr tg rd A c l e at_ A2 c2 K last hlc hkc w hK h hb hbK
 have HR := fun A c A2 c2 w hK h hlc hkc => Imported_calls ro ep fr tg rd A c l e at_ A2 c2 K last hlc hkc w hK h hb hbK
 have hlen := importM_len (b := ⟨ro, ep, fr, tg, rd, l⟩) (e := e) (a := at_) (K := K) (last := last)
 generalize importM ⟨ro, ep, fr, tg, rd, l⟩ e at_ K last = R at HP HR hlen
 dsimp only at hlen
 refine calls_of_wC (N := 57) (vs := [.agg #[.int .i64 ro, .int .i64 ep, .int .i64 fr, .int .i64 tg, .int .i64 rd, .slice A l.length c], .int .i64 e, .int .i64 at_, .slice A2 K.length c2, .bool last]) Try.func27 rfl rfl rfl ?_
 refine wC_sub (l' := [(0, .agg #[.int .i64 ro, .int .i64 ep, .int .i64 fr, .int .i64 tg, .int .i64 rd, .slice A l.length c]), (1, .int .i64 e), (2, .int .i64 at_), (3, .slice A2 K.length c2), (4, .bool last)]) ⟨rfl, rfl, rfl, rfl, rfl, trivial⟩ (wC_seq (wC_region (wL_new (V := fun b => .pointer (some ⟨b, 0, none⟩)) (row := #[.int .i64 ro, .int .i64 ep, .int .i64 fr, .int .i64 tg, .int .i64 rd, .slice A l.length c]) (t := 108) S (wn rfl) rfl rfl (d_box rfl rfl rfl) ?_))); intro b1 w2 S3; clear S
 refine wL_val (wn rfl) rfl rfl (y_assign rfl rfl) ?_
 refine wL_nil (wQ_sub (l' := [(1, _), (2, _), (3, _), (4, _), (5, _), (10, _)]) ⟨rfl, rfl, rfl, rfl, rfl, rfl, trivial⟩ (wQ_then (wC_seq (wC_region (wL_val (wn rfl) rfl rfl (y_load rfl rfl (r_load_row 0 S3 rfl Try.underlying108 rfl inf108 rfl)) ?_)))))
 refine wL_call (vs := [.agg #[.int .i64 ro, .int .i64 ep, .int .i64 fr, .int .i64 tg, .int .i64 rd, .slice A l.length c]]) (wn rfl) rfl rfl (e_call (vs := [.agg #[.int .i64 ro, .int .i64 ep, .int .i64 fr, .int .i64 tg, .int .i64 rd, .slice A l.length c]]) rfl en77 ⟨rfl, trivial⟩) (berths_calls ro ep fr tg rd A c l _ (St.rd 1 S3 rfl) hb) ?_
 rintro _ w6 ⟨A4, c5, rfl, T8⟩
 refine ⟨_, rfl, ?_⟩
 have S7 := S3.ext T8 rfl; clear T8 S3
 change St _ _ _ [.own 37 6 (.slice A4 l.length c5) l.length ((l).flatMap Ev.cells), _, _, _] at S7
 refine wL_new (V := fun b => .pointer (some ⟨b, 0, none⟩)) (row := #[.int .i64 0, .int .i64 0, .int .i64 0, .int .i64 0, .int .i64 0, .slice none 0 0]) (t := 108) S7 (wn rfl) rfl rfl (d_alloc rfl (Try.zeroValue108 _) rfl) ?_; intro b9 w10 S11; clear S7
 refine wL_st (fs' := [_, _, _, _, _]) 0 S11 (wn rfl) rfl rfl rfl rfl rfl rfl inf108 rfl (oneAll rfl) (Nat.le_of_ble_eq_true rfl) (setAll_all rfl) rfl ?_; intro w12 S13; clear S11
 refine wL_nil (wQ_sub (l' := [(1, _), (2, _), (3, _), (4, _), (5, _), (10, _), (11, _)]) ⟨rfl, rfl, rfl, rfl, rfl, rfl, rfl, trivial⟩ (wQ_then (wC_seq (wC_region (wL_val (wn rfl) rfl rfl (y_move rfl rfl) ?_)))))
 refine wL_call (vs := [.slice A2 K.length c2]) (wn rfl) rfl rfl (e_call (vs := [.slice A2 K.length c2]) rfl en69 ⟨rfl, trivial⟩) (events_calls A2 c2 K _ (St.rd 4 S13 rfl) hbk) ?_
 rintro _ w18 ⟨A14, c15, rfl, hb16, ho17⟩
 refine ⟨_, rfl, ?_⟩
 have S19 := S13.onOwn hb16 ho17; clear hb16 ho17 S13
 change St _ _ _ [.own 37 6 (.slice A14 K.length c15) K.length ((K).flatMap Ev.cells), _, _, _, _, _] at S19
 refine wL_val (wn rfl) rfl rfl (y_assign rfl rfl) ?_
 refine wL_nil (wQ_sub (l' := [(1, _), (2, _), (3, _), (4, _), (5, _), (10, _), (11, _), (12, _)]) ⟨rfl, rfl, rfl, rfl, rfl, rfl, rfl, rfl, trivial⟩ (wQ_then (wC_seq (wC_region (wL_val (wn rfl) rfl rfl (y_load rfl rfl (r_load_row 1 S19 rfl Try.underlying108 rfl inf108 rfl)) ?_)))))
 refine wL_val (wn rfl) rfl rfl (y_move rfl rfl) ?_
 refine wL_val (wn rfl) rfl rfl (y_move rfl rfl) ?_
 refine wL_val (wn rfl) rfl rfl (y_move rfl rfl) ?_
 refine wL_val (wn rfl) rfl rfl (y_move rfl rfl) ?_
 refine wL_call (vs := [.agg #[.int .i64 ro, .int .i64 ep, .int .i64 fr, .int .i64 tg, .int .i64 rd, .slice A4 l.length c5], .int .i64 e, .int .i64 at_, .slice A14 K.length c15, .bool last]) (wn rfl) rfl rfl (e_call (vs := [.agg #[.int .i64 ro, .int .i64 ep, .int .i64 fr, .int .i64 tg, .int .i64 rd, .slice A4 l.length c5], .int .i64 e, .int .i64 at_, .slice A14 K.length c15, .bool last]) rfl en96 ⟨rfl, rfl, rfl, rfl, rfl, trivial⟩) (HP A4 c5 A14 c15 _ (St.ord 0 S19 rfl) (St.ord 2 S19 rfl) (own_caps (S19.own 2 rfl)).1 (own_caps (S19.own 0 rfl)).1) ?_
 rintro _ w22 ⟨A20, c21, rfl, T24⟩
 refine ⟨_, rfl, ?_⟩
 have S23 := S19.ext T24 rfl; clear T24 S19
 change St _ _ _ [.rdo 6 A20 R.1.evs.length ((R.1.evs).flatMap Ev.cells), _, _, _, _, _, _] at S23
 refine wL_val (wn rfl) rfl rfl (y_move rfl rfl) ?_
 refine wL_val (wn rfl) rfl rfl (y_extract rfl rfl rfl) ?_
 refine wL_val (wn rfl) rfl rfl (y_extract rfl rfl rfl) ?_
 refine wL_new (V := fun b => .pointer (some ⟨b, 0, none⟩)) (row := #[.int .i64 0, .int .i64 0, .int .i64 0, .int .i64 0, .int .i64 0, .slice none 0 0]) (t := 108) S23 (wn rfl) rfl rfl (d_alloc rfl (Try.zeroValue108 _) rfl) ?_; intro b25 w26 S27; clear S23
 refine wL_st (fs' := [_, _, _, _, _, _, _, _]) 0 S27 (wn rfl) rfl rfl rfl rfl rfl rfl inf108 rfl (oneAll rfl) (Nat.le_of_ble_eq_true rfl) (setAll_all rfl) rfl ?_; intro w28 S29; clear S27
 refine wL_val (wn rfl) rfl rfl (y_assign rfl rfl) ?_
 refine wL_nil (wQ_sub (l' := [(1, _), (2, _), (3, _), (4, _), (5, _), (10, _), (11, _), (12, _), (13, _), (14, _)]) ⟨rfl, rfl, rfl, rfl, rfl, rfl, rfl, rfl, rfl, rfl, trivial⟩ (wQ_then (wC_seq (wC_region (wL_val (wn rfl) rfl rfl (y_load rfl rfl (r_load_row 5 S29 rfl Try.underlying108 rfl inf108 rfl)) ?_)))))
 refine wL_val (wn rfl) rfl rfl (y_move rfl rfl) ?_
 refine wL_val (wn rfl) rfl rfl (y_move rfl rfl) ?_
 refine wL_val (wn rfl) rfl rfl (y_move rfl rfl) ?_
 refine wL_val (wn rfl) rfl rfl (y_move rfl rfl) ?_
 refine wL_call (vs := [.agg #[.int .i64 ro, .int .i64 ep, .int .i64 fr, .int .i64 tg, .int .i64 rd, .slice A l.length c], .int .i64 e, .int .i64 at_, .slice A2 K.length c2, .bool last]) (wn rfl) rfl rfl (e_call (vs := [.agg #[.int .i64 ro, .int .i64 ep, .int .i64 fr, .int .i64 tg, .int .i64 rd, .slice A l.length c], .int .i64 e, .int .i64 at_, .slice A2 K.length c2, .bool last]) rfl en97 ⟨rfl, rfl, rfl, rfl, rfl, trivial⟩) (HR A c A2 c2 _ (St.rd 7 S29 rfl) (St.rd 6 S29 rfl) hlc hkc) ?_
 rintro _ w32 ⟨A30, c31, rfl, T34⟩
 refine ⟨_, rfl, ?_⟩
 have S33 := S29.ext T34 rfl; clear T34 S29
 change St _ _ _ [.rdo 6 A30 R.1.evs.length ((R.1.evs).flatMap Ev.cells), _, _, _, _, _, _, _, _] at S33
 refine wL_val (wn rfl) rfl rfl (y_move rfl rfl) ?_
 refine wL_val (wn rfl) rfl rfl (y_extract rfl rfl rfl) ?_
 refine wL_val (wn rfl) rfl rfl (y_extract rfl rfl rfl) ?_
 refine wL_new (V := fun b => .pointer (some ⟨b, 0, none⟩)) (row := #[.int .i64 0, .int .i64 0, .int .i64 0, .int .i64 0, .int .i64 0, .slice none 0 0]) (t := 108) S33 (wn rfl) rfl rfl (d_alloc rfl (Try.zeroValue108 _) rfl) ?_; intro b35 w36 S37; clear S33
 refine wL_st (fs' := [_, _, _, _, _, _, _, _, _, _]) 0 S37 (wn rfl) rfl rfl rfl rfl rfl rfl inf108 rfl (oneAll rfl) (Nat.le_of_ble_eq_true rfl) (setAll_all rfl) rfl ?_; intro w38 S39; clear S37
 refine wL_val (wn rfl) rfl rfl (y_assign rfl rfl) ?_
 refine wL_nil (wQ_sub (l' := [(3, _), (5, _), (10, _), (11, _), (12, _), (13, _), (14, _), (15, _), (16, _)]) ⟨rfl, rfl, rfl, rfl, rfl, rfl, rfl, rfl, rfl, trivial⟩ (wQ_then (wC_seq (wC_region (wL_val (wn rfl) rfl rfl (y_move rfl rfl) ?_)))))
 refine wL_val (wn rfl) rfl rfl (y_move rfl rfl) ?_
 refine wL_val (v := .bool true) (wn rfl) rfl rfl (y_binop rfl rfl rfl (r_eql_t rfl)) ?_
 refine wL_val (wn rfl) rfl rfl (y_move rfl rfl) ?_
 refine wL_val (wg rfl rfl rfl rfl) rfl rfl (y_load rfl rfl (r_load_row 2 S39 rfl Try.underlying108 rfl inf108 rfl)) ?_
 refine wL_val (wg rfl rfl rfl rfl) rfl rfl (y_load rfl rfl (r_load_row 0 S39 rfl Try.underlying108 rfl inf108 rfl)) ?_
 refine wL_call (vs := [.agg #[.int .i64 R.1.role, .int .i64 R.1.ep, .int .i64 R.1.fr, .int .i64 R.1.tg, .int .i64 R.1.rd, .slice A20 R.1.evs.length c21], .agg #[.int .i64 R.1.role, .int .i64 R.1.ep, .int .i64 R.1.fr, .int .i64 R.1.tg, .int .i64 R.1.rd, .slice A30 R.1.evs.length c31]]) (wg rfl rfl rfl rfl) rfl rfl (e_call (vs := [.agg #[.int .i64 R.1.role, .int .i64 R.1.ep, .int .i64 R.1.fr, .int .i64 R.1.tg, .int .i64 R.1.rd, .slice A20 R.1.evs.length c21], .agg #[.int .i64 R.1.role, .int .i64 R.1.ep, .int .i64 R.1.fr, .int .i64 R.1.tg, .int .i64 R.1.rd, .slice A30 R.1.evs.length c31]]) rfl en81 ⟨rfl, rfl, trivial⟩) (sameBerth_calls R.1.role R.1.ep R.1.fr R.1.tg R.1.rd A20 c21 A30 c31 R.1.evs _ (St.rdo 3 S39 rfl) (St.rdo 1 S39 rfl) (by omega)) ?_
 rintro _ w40 ⟨rfl, hb42⟩
 refine ⟨_, rfl, ?_⟩
 have S41 := S39.on hb42; clear hb42 S39
 refine wL_val (wn rfl) rfl rfl (y_pick_t rfl rfl rfl) ?_
 refine wL_val (wn rfl) rfl rfl (y_move rfl rfl) ?_
 refine wL_val (wg rfl rfl rfl rfl) rfl rfl (y_load rfl rfl (r_load_row 5 S41 rfl Try.underlying108 rfl inf108 rfl)) ?_
 refine wL_val (wg rfl rfl rfl rfl) rfl rfl (y_load rfl rfl (r_load_row 7 S41 rfl Try.underlying108 rfl inf108 rfl)) ?_
 refine wL_call (vs := [.agg #[.int .i64 ro, .int .i64 ep, .int .i64 fr, .int .i64 tg, .int .i64 rd, .slice A4 l.length c5], .agg #[.int .i64 ro, .int .i64 ep, .int .i64 fr, .int .i64 tg, .int .i64 rd, .slice A l.length c]]) (wg rfl rfl rfl rfl) rfl rfl (e_call (vs := [.agg #[.int .i64 ro, .int .i64 ep, .int .i64 fr, .int .i64 tg, .int .i64 rd, .slice A4 l.length c5], .agg #[.int .i64 ro, .int .i64 ep, .int .i64 fr, .int .i64 tg, .int .i64 rd, .slice A l.length c]]) rfl en81 ⟨rfl, rfl, trivial⟩) (sameBerth_calls ro ep fr tg rd A4 c5 A c l _ (St.ord 6 S41 rfl) (St.rd 8 S41 rfl) (by omega)) ?_
 rintro _ w43 ⟨rfl, hb45⟩
 refine ⟨_, rfl, ?_⟩
 have S44 := S41.on hb45; clear hb45 S41
 refine wL_val (wn rfl) rfl rfl (y_pick_t rfl rfl rfl) ?_
 refine wL_val (wn rfl) rfl rfl (y_move rfl rfl) ?_
 refine wL_val (wg rfl rfl rfl rfl) rfl rfl (y_move rfl rfl) ?_
 refine wL_val (wg rfl rfl rfl rfl) rfl rfl (y_move rfl rfl) ?_
 refine wL_call (vs := [.slice A14 K.length c15, .slice A2 K.length c2]) (wg rfl rfl rfl rfl) rfl rfl (e_call (vs := [.slice A14 K.length c15, .slice A2 K.length c2]) rfl en72 ⟨rfl, rfl, trivial⟩) (sameEvents_t (St.ord 4 S44 rfl) (St.rd 9 S44 rfl) (by simp only [maxLen]; omega) (by simp only [maxLen]; omega)) ?_
 rintro _ w46 ⟨rfl, hb48⟩
 refine ⟨_, rfl, ?_⟩
 have S47 := S44.on hb48; clear hb48 S44
 refine wL_val (wn rfl) rfl rfl (y_pick_t rfl rfl rfl) ?_
 refine wL_val (wn rfl) rfl rfl (y_assign rfl rfl) ?_
 refine wL_nil (wQ_sub (l' := [(10, _)]) ⟨rfl, trivial⟩ (wQ_then (wC_ret (wQ_post (rs := [.tmp 10]) (vs := [.bool true]) rfl ⟨rfl, trivial⟩ ?_))))
 exact ⟨rfl, S47.low⟩

set_option maxRecDepth 100000 in
theorem berthImports_walk (W : World) (args : Array Value) (h : All2 (ArgOk Try.prog W) args.toList Try.f27.params.toList) (hs : ∀ v0 v1 v2 A n c v4, args.toList = [v0, v1, v2, .slice A n c, v4] → n ≤ 1048576) :
    Calls Try.prog 27 args W fun e W' => e = .returned (.bool true) ∧ Below W.heap.size W W' := by
  rw [Try.params27] at h
  obtain ⟨v0, l0, hv0, h0, g0⟩ := All2.cons_ h
  obtain ⟨v1, l1, hv1, h1, g1⟩ := All2.cons_ g0
  obtain ⟨v2, l2, hv2, h2, g2⟩ := All2.cons_ g1
  obtain ⟨v3, l3, hv3, h3, g3⟩ := All2.cons_ g2
  obtain ⟨v4, l4, hv4, h4, g4⟩ := All2.cons_ g3
  have h9 := All2.nil_ g4
  subst h9
  obtain rfl : args = #[v0, v1, v2, v3, v4] := by cases args; simp_all
  obtain ⟨ro, ep, fr, tg, rd, A, c, l, rfl, hr, hn, hc, hb⟩ := arg_berth h0
  obtain ⟨⟨_, hk1⟩, _, _⟩ := h1
  obtain ⟨e, rfl⟩ := okWide_int Try.underlying3 hk1
  obtain ⟨⟨_, hk2⟩, _, _⟩ := h2
  obtain ⟨at_, rfl⟩ := okWide_int Try.underlying3 hk2
  obtain ⟨A2, n2, c2, K, rfl, hr2, hn2, hc2, _, _⟩ := arg_events h3
  obtain rfl := hr2.ev_len
  obtain ⟨⟨_, hk4⟩, _, _⟩ := h4
  obtain ⟨last, rfl⟩ := okWide_bool Try.underlying4 hk4
  exact berthImports_calls ro ep fr tg rd A c l e at_ A2 c2 K last hn hn2 W hr2 hr hb (hs _ _ _ A2 K.length c2 _ rfl)
end Go.Proofs.Ytkjlafpafmihaaa

