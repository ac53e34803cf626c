/- Parts of proofs: lemmas on memory, on single functions and on the plain models; no condition of their own. -/
import Derived.Test.YtkjlafpafmihaaaRows
import Derived.WalkKit
import Derived.ProofKit
import Derived.OpenShut
import Derived.SizedLaws
import Derived.WalkSpells
import Derived.WalkLawsBesides
import Derived.Handy
import Derived.Deep.QuietTactic
import Derived.BigQuiet
import Derived.Lib.Hide
import Derived.Maps.AppendAt
import Derived.Deep.AppendLies
import Derived.RegionTactic
import Derived.OwnWalk
import Derived.Laws.Tables
import Derived.Deep.MidRow
import Derived.StillTailTactics
import Derived.OrdersHeld
import Derived.Deep.RegionHeld3
import Derived.Laws.IdiomCopy
import Derived.ChangeKeysEq
import Derived.Laws.BitsAllLaws
import Derived.Deep.DeepCutAuto
import Derived.Deep.CutRange
import Derived.Shelf.SlSortCmp.WholeK
import Derived.Shelf.SlSortCmp.NoneTotal
import Derived.Shelf.SlicesG.Cmp
import Derived.Shelf.SlGeneric
import Derived.Ground.SlsfProg
import Derived.Ground.SlgcProg
import Derived.Maps.OwnSet
import Derived.Lib.SliceRun
import Derived.Deep.RegionLaw
import Derived.Scope
import Derived.Recover
import Derived.Defers
import Derived.Deep.RegionWith
import Derived.Test.YtkjlafpafmihaaaG411632d36699
import Derived.Test.YtkjlafpafmihaaaG48f6c12ab48d
import Derived.Test.YtkjlafpafmihaaaG497b255c2441
import Derived.Test.YtkjlafpafmihaaaG4e172fb27d17
import Derived.Test.YtkjlafpafmihaaaG4eaabf97d977
import Derived.Test.YtkjlafpafmihaaaG570539d87647
import Derived.Test.YtkjlafpafmihaaaG76ddf6bdedad
import Derived.Test.YtkjlafpafmihaaaG7b655dea871d
import Derived.Test.YtkjlafpafmihaaaG809794e4b789
import Derived.Test.YtkjlafpafmihaaaG924ec51911fe
import Derived.Test.YtkjlafpafmihaaaGaccd88af86f3
import Derived.Test.YtkjlafpafmihaaaGbba0f363f640
import Derived.Test.YtkjlafpafmihaaaGc38f42c026ea
import Derived.Test.YtkjlafpafmihaaaGc8683f30ddc5
import Derived.Test.YtkjlafpafmihaaaGc89f12b5a777
import Derived.Test.YtkjlafpafmihaaaGe553eb0404e0
import Derived.Test.YtkjlafpafmihaaaGede86a29d916
import Derived.Test.YtkjlafpafmihaaaGf428e9c8a46a
import Derived.Test.YtkjlafpafmihaaaGfa570c25a005
set_option linter.unusedVariables false
set_option linter.unusedSimpArgs false

namespace Go.Proofs.Ytkjlafpafmihaaa
open Go.ChangeShapes Go.WideShapes Go.RowKit

theorem berths_make (w : World) : (Instr.makeSlice 129 (.int .i64 4) (.int .i64 4)).run Try.prog w = .ok (.slice (some ⟨w.heap.size, 0, none⟩) 4 4) (w.alloc (.cells (zero4.flatMap BX.cells).toArray 108)) := by
  obtain ⟨i0, hi0, hz0, hz1, hz2⟩ := info_parts (P := Try.prog) (e := 108) (z := .agg #[.int .i64 0, .int .i64 0, .int .i64 0, .int .i64 0, .int .i64 0, .slice none 0 0]) (size := 6) (bytes := 64) (by kernel_rfl)
  have := run_makeSlice (P := Try.prog) w 129 108 i0 _ Try.underlying129 hi0 hz0 .i64 .i64 4 4 (by omega) (by omega) (by rw [hz1]; decide) (by rw [hz2]; omega) (by omega)
  rw [this, hz1]
  rw [show madeCells (Value.agg #[.int .i64 0, .int .i64 0, .int .i64 0, .int .i64 0, .int .i64 0, .slice none 0 0]).cells ((4 : Int).toNat * 6) = (zero4.flatMap BX.cells).toArray from by kernel_rfl]
  rfl
theorem zero4_ok : ∀ y ∈ zero4, y.b.evs.length ≤ y.c ∧ y.b.evs.length ≤ 0 := by
  intro y hy
  simp [zero4] at hy
  subst hy
  exact ⟨Nat.le_refl _, Nat.le_refl _⟩
theorem ok_set {bs : List BX} {k q : Nat} {z : BX} (h : ∀ y ∈ bs, y.b.evs.length ≤ y.c ∧ y.b.evs.length ≤ k) (h1 : z.b.evs.length ≤ z.c) (h2 : z.b.evs.length ≤ k + 1) : ∀ y ∈ bs.set q z, y.b.evs.length ≤ y.c ∧ y.b.evs.length ≤ k + 1 := by
  intro y hy
  rcases List.mem_or_eq_of_mem_set hy with h3 | h3
  · exact ⟨(h y h3).1, Nat.le_succ_of_le (h y h3).2⟩
  · rw [h3]; exact ⟨h1, h2⟩
theorem len_set {bs : List BX} {k q : Nat} {z : BX} (h : ∀ y ∈ bs, y.b.evs.length ≤ k) (h2 : z.b.evs.length ≤ k + 1) : ∀ y ∈ bs.set q z, y.b.evs.length ≤ k + 1 := by
  intro y hy
  rcases List.mem_or_eq_of_mem_set hy with h3 | h3
  · exact Nat.le_succ_of_le (h y h3)
  · rw [h3]; exact h2
theorem zero_take {q : Nat} (h : (q : Int) < 4) : (zero4.take q).flatMap BX.cells ++ [.int .i64 0, .int .i64 0, .int .i64 0, .int .i64 0, .int .i64 0, .slice none 0 0] = (zero4.take (q + 1)).flatMap BX.cells := by
  rcases (by omega : q = 0 ∨ q = 1 ∨ q = 2 ∨ q = 3) with rfl | rfl | rfl | rfl <;> rfl

set_option maxRecDepth 100000 in
set_option maxHeartbeats 8000000 in
theorem All_calls (A : Option Addr) (c : Nat) (l : List Rcd) (w : World) (h : Rd w w.heap.size 10 A l.length (l.flatMap Rcd.cells)) (hb : l.length * 80 ≤ reachBytes) :
    Calls Try.prog 101 #[.slice A l.length c] w (AllPost w (allM l)) := by
 have S := (St.start w).addRd h; clear h
 have hb2 := hb
 unfold reachBytes at hb2
 refine fnw 46 Try.func101 ?_
 refine cw [0] ?_
 refine x_sr (va ?_)
 iterate 2 refine va ?_
 refine wL_nil (wQ_then (wC_seq (wC_region (wL_newOwn (V := fun b => .slice (some ⟨b, 0, none⟩) 4 4) (row := (zero4.flatMap BX.cells).toArray) (t := 108) (n := 4) (s := 6) (xs := zero4.flatMap BX.cells) S (wn rfl) rfl rfl (d_makeSlice rfl rfl rfl (berths_make _)) rfl (by decide) rfl ?_)))); intro b1 w2 S3; clear S
 refine va ?_
 refine qk [0, 2, 3, 4, 5] ?_
 refine x_tssr (vm ?_)
 refine vv (v := .int .i64 ((l.length : Nat) : Int)) (y_builtin (vs := [.slice A l.length c]) rfl ⟨rfl, trivial⟩ fun _ => r_len rfl Try.underlying86) ?_
 refine vm ?_
 refine qk [2, 3, 4, 5, 12, 13, 14] ?_
 refine wQ_then (wC_block ?_)
 have S4 := ev_zero S3; clear S3
 refine wC_loop (X := Nat × (List BX)) (fun xv => [(2, .slice none 0 0), (3, .int .i64 0), (4, .int .i64 0), (5, .slice (some ⟨b1, 0, none⟩) 4 4), (12, .slice A l.length c), (13, .int .i64 ((l.length : Nat) : Int)), (14, .int .i64 ((xv.1 : Nat) : Int))]) (fun xv wr => (xv.1 ≤ l.length) ∧ (allM l = allGo (l.drop xv.1) xv.1 (xv.2.map BX.b)) ∧ (xv.2.length = 4) ∧ (∀ y ∈ xv.2, y.b.evs.length ≤ y.c ∧ y.b.evs.length ≤ xv.1) ∧ St w.heap.size w wr ((.own 108 6 (.slice (some ⟨b1, 0, none⟩) 4 4) 4 ((xv.2).flatMap BX.cells)) :: (.rd 10 A l.length ((l).flatMap Rcd.cells)) :: evFacts xv.2)) (fun xv => l.length - xv.1) (0, zero4) ?_ ?_ ?_
 ·exact ⟨Nat.zero_le _, rfl, rfl, zero4_ok, S4⟩
 ·exact ⟨rfl, rfl, rfl, rfl, rfl, rfl, rfl, trivial⟩
 ·rintro ⟨k, bs⟩ w5 ⟨hi7, hi8, hi9, hi10, S6⟩
  try dsimp only at hi7 hi8 hi9 hi10 S6; clear S4
  refine wC_sub (l' := [(2, .slice none 0 0), (3, .int .i64 0), (4, .int .i64 0), (5, .slice (some ⟨b1, 0, none⟩) 4 4), (12, .slice A l.length c), (13, .int .i64 ((l.length : Nat) : Int)), (14, .int .i64 ((k : Nat) : Int))]) ⟨rfl, rfl, rfl, rfl, rfl, rfl, rfl, trivial⟩ (wC_seq (wC_region ?_))
  by_cases h11 : ((k : Nat) : Int) < ((l.length : Nat) : Int)
  ·refine vv (ylssT h11) ?_
   refine wL_nil (wQ_then (wC_seq (wC_cond_t rfl (wC_skip (wQ_then (wC_seq (wC_block (wC_seq (wC_region (vm ?_))))))))))
   obtain ⟨b12, o13, rfl⟩ := Rd.addr (St.rd 1 S6 rfl) (by omega)
   obtain ⟨x14, hx15⟩ := elm k (St.rd 1 S6 rfl) (by omega)
   refine vv (v := .pointer (some ⟨b12, o13 + k * 10, none⟩)) (y_indexAddr rfl rfl rfl (r_indexAddr k Try.underlying86 inf51 (by omega) (by omega))) ?_
   refine vv (y_load rfl rfl (r_load_agg (cs := Rcd.cells x14) Try.underlying51 rfl inf51 rfl (Rd.rg2 (St.rd 1 S6 rfl) (fun _ _ h => fm_get (enc := Rcd.cells) (sz := 10) (fun _ => rfl) hx15 h)))) ?_
   refine na (row := #[.int .i64 0, .int .i64 0, .int .i64 0, .int .i64 0, .int .i64 0, .int .i64 0, .int .i64 0, .int .i64 0, .int .i64 0, .int .i64 0]) S6 Try.zeroValue51 ?_; intro b16 w17 S18; clear S6
   refine va ?_
   refine wL_st (fs' := (_ :: _ :: _ :: evFacts bs)) 0 S18 (wn rfl) rfl rfl rfl rfl rfl rfl inf51 rfl (oneAll rfl) (Nat.le_of_ble_eq_true rfl) (setAll_all rfl) rfl ?_; intro w19 S20; clear S18
   refine qk [2, 3, 4, 5, 12, 13, 14, 7, 6] ?_
   refine x_tssr (vv (ylr 0 S20 Try.underlying51 inf51) ?_)
   refine cab en119 S20 (Record_calls x14 _) ?_; intro w21 S22; clear S20
   refine va ?_
   refine qk [2, 3, 4, 5, 12, 13, 14, 7, 6, 8] ?_
   refine x_tsr (vm ?_)
   by_cases h24 : recFault x14 = 0
   ·refine vv (yneqF h24) ?_
    refine qk [2, 3, 4, 5, 12, 13, 14, 7, 6, 8, 22] ?_
    refine wQ_then (wC_cond_f rfl (wC_skip (wQ_then (wC_seq ?_))))
    have hrz := rec_zero h24
    have hq4 : x14.queue.toNat < 4 := by omega
    obtain ⟨y, hy⟩ : ∃ y, bs[x14.queue.toNat]? = some y := ⟨_, List.getElem?_eq_getElem (by omega)⟩
    have hyo := hi10 y (List.mem_of_getElem? hy)
    obtain ⟨R, hR⟩ : ∃ R, applyM y.b x14 = R := ⟨_, rfl⟩
    have hap : applyM (getT (bs.map BX.b) x14.queue) x14 = R := by rw [getT_at hy]; exact hR
    have hal := apply_len (b := y.b) (r := x14)
    rw [hR] at hal
    have HP := fun w h => Apply_calls y.b.role y.b.ep y.b.fr y.b.tg y.b.rd y.A y.c y.b.evs x14.kind x14.queue x14.epoch x14.peer x14.ev hyo.1 w h (by unfold reachBytes; omega)
    rw [show applyM ⟨y.b.role, y.b.ep, y.b.fr, y.b.tg, y.b.rd, y.b.evs⟩ ⟨x14.kind, x14.queue, x14.epoch, x14.peer, x14.ev⟩ = R from hR] at HP
    have S25 := S22.drew; clear S22
    refine wC_any_ (C := fun w' => St w.heap.size w w' ((.blk b16 #[.int .i64 x14.kind, .int .i64 x14.queue, .int .i64 x14.epoch, .int .i64 x14.peer, .int .i64 x14.ev.kind, .int .i64 x14.ev.producer, .int .i64 x14.ev.id, .int .i64 x14.ev.body, .int .i64 x14.ev.hepoch, .int .i64 x14.ev.hno] 51) :: (.own 108 6 (.slice (some ⟨b1, 0, none⟩) 4 4) 4 ((bs).flatMap BX.cells)) :: (.rd 10 (some ⟨b12, o13, none⟩) l.length ((l).flatMap Rcd.cells)) :: evFacts bs)) (n := 13) (listed := #[false, false, false, false, false, false, false, false, false, false, false, false, false]) mixed rfl rfl ?_
    refine ak (v := .slice (some ⟨b1, 0, none⟩) 4 4) 0 rfl S25 (fun _ _ => ym) ?_
    refine ak (v := .pointer (some ⟨b16, 1, none⟩)) 1 rfl S25 (fun _ _ => yfa _ fa51_1) ?_
    refine ak (v := .int .i64 x14.queue) 2 rfl S25 (fun _ Sx28 => ylc 0 Sx28 Try.underlying3) ?_
    refine ak (v := .pointer (some ⟨b1, 0 + x14.queue.toNat * 6, none⟩)) 3 rfl S25 (fun _ _ => (y_indexAddr rfl rfl rfl (r_indexAddr x14.queue.toNat Try.underlying129 inf108 (by omega) (by omega)))) ?_
    refine ak (v := .agg #[.int .i64 y.b.role, .int .i64 y.b.ep, .int .i64 y.b.fr, .int .i64 y.b.tg, .int .i64 y.b.rd, .slice y.A y.b.evs.length y.c]) 4 rfl S25 (fun _ Sx30 => (y_load rfl rfl (r_load_agg (cs := BX.cells y) Try.underlying108 rfl inf108 rfl (Rd.rg2 (St.ord 1 Sx30 rfl) (fun _ _ h => fm_get (enc := BX.cells) (sz := 6) (fun _ => rfl) hy h))))) ?_
    refine ak (v := .agg #[.int .i64 x14.kind, .int .i64 x14.queue, .int .i64 x14.epoch, .int .i64 x14.peer, .int .i64 x14.ev.kind, .int .i64 x14.ev.producer, .int .i64 x14.ev.id, .int .i64 x14.ev.body, .int .i64 x14.ev.hepoch, .int .i64 x14.ev.hno]) 5 rfl S25 (fun _ Sx31 => ylr 0 Sx31 Try.underlying51 inf51) ?_
    refine wA_two (n := 6) (r := 6) (s := 10) (by kernel_rfl) ?_ ?_
    ·refine caln 6 rfl en98 (HP _ (rdo_ev (pre := [_, _, _]) S25 hy)) ?_
     rintro _ w35 ⟨A32, c33, hcap34, rfl, T37⟩
     refine ⟨_, rfl, ?_⟩
     have S36 := S25.ext T37 rfl; clear T37 S25
     change St _ _ _ ((.rdo 6 A32 R.1.evs.length ((R.1.evs).flatMap Ev.cells)) :: _ :: _ :: _ :: evFacts bs) at S36
     refine ⟨(St.del 0 S36), ?_⟩
     refine ak (v := .tuple #[.agg #[.int .i64 R.1.role, .int .i64 R.1.ep, .int .i64 R.1.fr, .int .i64 R.1.tg, .int .i64 R.1.rd, .slice A32 R.1.evs.length c33], .int .i64 R.2]) 7 rfl (St.del 0 S36) (fun _ _ => ym) ?_
     refine ak (v := .agg #[.int .i64 R.1.role, .int .i64 R.1.ep, .int .i64 R.1.fr, .int .i64 R.1.tg, .int .i64 R.1.rd, .slice A32 R.1.evs.length c33]) 8 rfl (St.del 0 S36) (fun _ _ => yx) ?_
     refine ak (v := .int .i64 R.2) 9 rfl (St.del 0 S36) (fun _ _ => yx) ?_
     refine aq1 10 ?_
     refine nnaB 10 rfl S36 Try.zeroValue108 ?_; intro b41 w42 S43; clear S36
     refine ⟨(S43.dels [1, 0]), ?_⟩
     refine aq1 11 ?_
     refine wN_st (i := 11) rfl rfl (fs' := (_ :: _ :: _ :: _ :: _ :: evFacts bs)) 0 S43 (wn rfl) rfl rfl rfl rfl rfl rfl inf108 rfl (oneAll rfl) (Nat.le_of_ble_eq_true rfl) (setAll_all rfl) rfl ?_; intro w44 S45; clear S43
     refine ⟨(S45.dels [1, 0]), ?_⟩
     refine ak (v := .int .i64 R.2) 12 rfl (S45.dels [1, 0]) (fun _ _ => ya) ?_
     refine wA_done (by kernel_rfl) ?_
     refine pk [2, 3, 4, 5, 12, 13, 14, 7, 6, 9, 10] ?_
     refine x_tssr (vm ?_)
     by_cases h47 : R.2 = 0
     ·refine vv (yneqF h47) ?_
      refine qk [2, 3, 4, 5, 12, 13, 14, 7, 6, 9, 10, 36] ?_
      refine wQ_then (wC_cond_f rfl (wC_skip (wQ_then (wC_region (vm ?_)))))
      refine vv (yfa 1 fa51_1) ?_
      refine vv (ylc 2 S45 Try.underlying3) ?_
      refine vv (ylr 0 S45 Try.underlying108 inf108) ?_
      refine vv (v := .pointer (some ⟨b1, 0 + x14.queue.toNat * 6, none⟩)) (y_indexAddr rfl rfl rfl (r_indexAddr x14.queue.toNat Try.underlying129 inf108 (by omega) (by omega))) ?_
      refine wL_stOwn (xs' := (bs.set x14.queue.toNat ⟨R.1, A32, c33⟩).flatMap BX.cells) 3 S45 (wn rfl) rfl rfl rfl rfl rfl rfl inf108 rfl (oneAll rfl) (by omega) (by rw [Nat.zero_add]; exact fm_put (enc := BX.cells) (sz := 6) (fun _ => rfl) ⟨R.1, A32, c33⟩ _ bs (by omega)) ?_; intro w48 S49; clear S45
      change St _ _ _ (_ :: _ :: _ :: (.own 108 6 (.slice (some ⟨b1, 0, none⟩) 4 4) 4 ((bs.set x14.queue.toNat ⟨R.1, A32, c33⟩).flatMap BX.cells)) :: _ :: evFacts bs) at S49
      refine qk [2, 3, 4, 5, 12, 13, 14] ?_
      refine wQ_blk_n (wQ_then (wC_region (vv (v := .int .i64 ((k + 1 : Nat) : Int)) (y_binop rfl rfl rfl (r_add (by omega) (by omega))) ?_)))
      refine vm ?_
      refine qk [2, 3, 4, 5, 12, 13, 14] ?_
      have S50 : St _ _ _ (_ :: _ :: _ :: evFacts bs) := S49.dels [2, 0]; clear S49
      have S51 : St w.heap.size w w48 (_ :: _ :: _ :: evFacts bs) := (((S50.bring 0 rfl).bring 2 rfl).bring 2 rfl); clear S50
      have S52 := ev_put (pre := [_, _]) (z := ⟨R.1, A32, c33⟩) (k := x14.queue.toNat) S51 (by omega)
      refine wQ_round (k + 1, bs.set x14.queue.toNat ⟨R.1, A32, c33⟩) ?_ ⟨rfl, rfl, rfl, rfl, rfl, rfl, rfl, trivial⟩ (by first | omega | (dsimp only; omega))
      exact ⟨(by dsimp only; omega), (by dsimp only; rw [hi8, all_next hx15 h24 hap h47, List.map_set]), (by dsimp only; rw [List.length_set]; exact hi9), (ok_set hi10 hcap34 (Nat.le_trans hal (Nat.succ_le_succ hyo.2))), S52⟩
     ·refine vv (yneqT h47) ?_
      refine qk [2, 3, 4, 5, 12, 13, 14, 7, 6, 9, 10, 36] ?_
      refine x_tysr (vm ?_)
      refine vm ?_
      iterate 3 refine va ?_
      refine qk [2, 3, 4] ?_
      refine wQ_then (wC_ret (wQ_then_ret (wQ_blk_ret (wQ_then_ret (wQ_then_ret (wQ_blk_ret (wQ_then_ret (wQ_post (rs := [.tmp 2, .tmp 3, .tmp 4]) (vs := [.slice none 0 0, .int .i64 ((k : Nat) : Int), .int .i64 R.2]) rfl ⟨rfl, rfl, rfl, trivial⟩ ?_))))))))
      rw [show allM l = _ from hi8.trans (all_app hx15 h24 hap h47)]
      exact ⟨fun _ => ⟨rfl, S45.low⟩, fun T h => (by cases h)⟩
    ·refine nnaB 10 rfl S25 Try.zeroValue108 ?_; intro b53 w54 S55; clear S25
     refine ⟨(St.del 0 S55), ?_⟩
     refine aq1 6 ?_
     refine caln 6 rfl en98 (HP _ (rdo_ev (pre := [_, _, _, _]) S55 hy)) ?_
     rintro _ w59 ⟨A56, c57, hcap58, rfl, T61⟩
     refine ⟨_, rfl, ?_⟩
     have S60 := S55.ext T61 rfl; clear T61 S55
     change St _ _ _ ((.rdo 6 A56 R.1.evs.length ((R.1.evs).flatMap Ev.cells)) :: _ :: _ :: _ :: _ :: evFacts bs) at S60
     refine ⟨(S60.dels [1, 0]), ?_⟩
     refine ak (v := .tuple #[.agg #[.int .i64 R.1.role, .int .i64 R.1.ep, .int .i64 R.1.fr, .int .i64 R.1.tg, .int .i64 R.1.rd, .slice A56 R.1.evs.length c57], .int .i64 R.2]) 7 rfl (S60.dels [1, 0]) (fun _ _ => ym) ?_
     refine ak (v := .agg #[.int .i64 R.1.role, .int .i64 R.1.ep, .int .i64 R.1.fr, .int .i64 R.1.tg, .int .i64 R.1.rd, .slice A56 R.1.evs.length c57]) 8 rfl (S60.dels [1, 0]) (fun _ _ => yx) ?_
     refine ak (v := .int .i64 R.2) 9 rfl (S60.dels [1, 0]) (fun _ _ => yx) ?_
     refine aq1 11 ?_
     refine wN_st (i := 11) rfl rfl (fs' := (_ :: _ :: _ :: _ :: _ :: evFacts bs)) 1 S60 (wn rfl) rfl rfl rfl rfl rfl rfl inf108 rfl (oneAll rfl) (Nat.le_of_ble_eq_true rfl) (setAll_all rfl) rfl ?_; intro w65 S66; clear S60
     refine ⟨(S66.dels [1, 0]), ?_⟩
     refine ak (v := .int .i64 R.2) 12 rfl (S66.dels [1, 0]) (fun _ _ => ya) ?_
     refine wA_done (by kernel_rfl) ?_
     refine pk [2, 3, 4, 5, 12, 13, 14, 7, 6, 9, 10] ?_
     refine x_tssr (vm ?_)
     by_cases h68 : R.2 = 0
     ·refine vv (yneqF h68) ?_
      refine qk [2, 3, 4, 5, 12, 13, 14, 7, 6, 9, 10, 36] ?_
      refine wQ_then (wC_cond_f rfl (wC_skip (wQ_then (wC_region (vm ?_)))))
      refine vv (yfa 1 fa51_1) ?_
      refine vv (ylc 2 S66 Try.underlying3) ?_
      refine vv (ylr 1 S66 Try.underlying108 inf108) ?_
      refine vv (v := .pointer (some ⟨b1, 0 + x14.queue.toNat * 6, none⟩)) (y_indexAddr rfl rfl rfl (r_indexAddr x14.queue.toNat Try.underlying129 inf108 (by omega) (by omega))) ?_
      refine wL_stOwn (xs' := (bs.set x14.queue.toNat ⟨R.1, A56, c57⟩).flatMap BX.cells) 3 S66 (wn rfl) rfl rfl rfl rfl rfl rfl inf108 rfl (oneAll rfl) (by omega) (by rw [Nat.zero_add]; exact fm_put (enc := BX.cells) (sz := 6) (fun _ => rfl) ⟨R.1, A56, c57⟩ _ bs (by omega)) ?_; intro w69 S70; clear S66
      change St _ _ _ (_ :: _ :: _ :: (.own 108 6 (.slice (some ⟨b1, 0, none⟩) 4 4) 4 ((bs.set x14.queue.toNat ⟨R.1, A56, c57⟩).flatMap BX.cells)) :: _ :: evFacts bs) at S70
      refine qk [2, 3, 4, 5, 12, 13, 14] ?_
      refine wQ_blk_n (wQ_then (wC_region (vv (v := .int .i64 ((k + 1 : Nat) : Int)) (y_binop rfl rfl rfl (r_add (by omega) (by omega))) ?_)))
      refine vm ?_
      refine qk [2, 3, 4, 5, 12, 13, 14] ?_
      have S71 : St _ _ _ (_ :: _ :: _ :: evFacts bs) := S70.dels [2, 1]; clear S70
      have S72 : St w.heap.size w w69 (_ :: _ :: _ :: evFacts bs) := (((S71.bring 0 rfl).bring 2 rfl).bring 2 rfl); clear S71
      have S73 := ev_put (pre := [_, _]) (z := ⟨R.1, A56, c57⟩) (k := x14.queue.toNat) S72 (by omega)
      refine wQ_round (k + 1, bs.set x14.queue.toNat ⟨R.1, A56, c57⟩) ?_ ⟨rfl, rfl, rfl, rfl, rfl, rfl, rfl, trivial⟩ (by first | omega | (dsimp only; omega))
      exact ⟨(by dsimp only; omega), (by dsimp only; rw [hi8, all_next hx15 h24 hap h68, List.map_set]), (by dsimp only; rw [List.length_set]; exact hi9), (ok_set hi10 hcap58 (Nat.le_trans hal (Nat.succ_le_succ hyo.2))), S73⟩
     ·refine vv (yneqT h68) ?_
      refine qk [2, 3, 4, 5, 12, 13, 14, 7, 6, 9, 10, 36] ?_
      refine x_tysr (vm ?_)
      refine vm ?_
      iterate 3 refine va ?_
      refine qk [2, 3, 4] ?_
      refine wQ_then (wC_ret (wQ_then_ret (wQ_blk_ret (wQ_then_ret (wQ_then_ret (wQ_blk_ret (wQ_then_ret (wQ_post (rs := [.tmp 2, .tmp 3, .tmp 4]) (vs := [.slice none 0 0, .int .i64 ((k : Nat) : Int), .int .i64 R.2]) rfl ⟨rfl, rfl, rfl, trivial⟩ ?_))))))))
      rw [show allM l = _ from hi8.trans (all_app hx15 h24 hap h68)]
      exact ⟨fun _ => ⟨rfl, S66.low⟩, fun T h => (by cases h)⟩
   ·refine vv (yneqT h24) ?_
    refine qk [2, 3, 4, 5, 12, 13, 14, 7, 6, 8, 22] ?_
    refine x_tysr (vm ?_)
    refine vm ?_
    iterate 3 refine va ?_
    refine qk [2, 3, 4] ?_
    refine wQ_then (wC_ret (wQ_then_ret (wQ_blk_ret (wQ_then_ret (wQ_then_ret (wQ_blk_ret (wQ_then_ret (wQ_post (rs := [.tmp 2, .tmp 3, .tmp 4]) (vs := [.slice none 0 0, .int .i64 ((k : Nat) : Int), .int .i64 (recFault x14)]) rfl ⟨rfl, rfl, rfl, trivial⟩ ?_))))))))
    rw [show allM l = _ from hi8.trans (all_rec hx15 h24)]
    exact ⟨fun _ => ⟨rfl, S22.low⟩, fun T h => (by cases h)⟩
  ·refine vv (ylssF h11) ?_
   refine wL_nil (wQ_then (wC_seq (wC_cond_f rfl (wC_exit (wQ_then_exit (wQ_then_exit (wQ_blk_same (wQ_then (wC_seq (wC_region (vm ?_)))))))))))
   iterate 3 refine va ?_
   refine qk [2, 3, 4] ?_
   refine x_te (wQ_post (rs := [.tmp 2, .tmp 3, .tmp 4]) (vs := [.slice (some ⟨b1, 0, none⟩) 4 4, .int .i64 0, .int .i64 0]) rfl ⟨rfl, rfl, rfl, trivial⟩ ?_)
   have S74 : St _ _ _ (_ :: evFacts bs) := S6.dels [1]; clear S6
   have S75 := S74.sealAll 0 rfl
   rw [show allM l = _ from hi8.trans (all_end (by omega))]
   exact ⟨fun h => (by cases h), fun T h => (by cases h; exact ⟨(some ⟨b1, 0, none⟩), 4, bs, rfl, hi9, rfl, S75⟩)⟩
end Go.Proofs.Ytkjlafpafmihaaa

namespace Go.Proofs.Ytkjlafpafmihaaa
open Go.ChangeShapes Go.WideShapes Go.RowKit

set_option maxRecDepth 100000 in
set_option maxHeartbeats 8000000 in
theorem Rebuilt_calls (A : Option Addr) (c : Nat) (l : List Rcd) (w : World) (h : Rd w w.heap.size 10 A l.length (l.flatMap Rcd.cells)) (hb : l.length * 80 ≤ reachBytes) :
    Calls Try.prog 102 #[.slice A l.length c] w (AllPost w (allM l)) := by
 have S := (St.start w).addRd h; clear h
 have hb2 := hb
 unfold reachBytes at hb2
 refine fnw 63 Try.func102 ?_
 refine cw [0] ?_
 refine x_sr (va ?_)
 iterate 2 refine va ?_
 refine wL_nil (wQ_then (wC_seq (wC_region (va ?_))))
 refine wL_nil (wQ_then (wC_seq (wC_seq (wC_region (va ?_)))))
 refine wL_nil (wQ_then (wC_block ?_))
 have S1 := S.nil 108 6; clear S
 change St _ _ _ [.own 108 6 (.slice none 0 0) 0 ((zero4.take 0).flatMap BX.cells), _] at S1
 refine wC_loop (X := Nat × (Option Addr) × Nat) (fun xv => [(0, .slice A l.length c), (2, .slice none 0 0), (3, .int .i64 0), (4, .int .i64 0), (5, .slice xv.2.1 xv.1 xv.2.2), (6, .int .i64 ((xv.1 : Nat) : Int))]) (fun xv wr => (xv.1 ≤ 4) ∧ St w.heap.size w wr [.own 108 6 (.slice xv.2.1 xv.1 xv.2.2) xv.1 ((zero4.take xv.1).flatMap BX.cells), .rd 10 A l.length ((l).flatMap Rcd.cells)]) (fun xv => 4 - xv.1) (0, none, 0) ?_ ?_ ?_
 ·exact ⟨Nat.zero_le _, S1⟩
 ·exact ⟨rfl, rfl, rfl, rfl, rfl, rfl, trivial⟩
 ·rintro ⟨q, A1, c1⟩ w2 ⟨hi4, S3⟩
  try dsimp only at hi4 S3; clear S1
  refine wC_sub (l' := [(0, .slice A l.length c), (2, .slice none 0 0), (3, .int .i64 0), (4, .int .i64 0), (5, .slice A1 q c1), (6, .int .i64 ((q : Nat) : Int))]) ⟨rfl, rfl, rfl, rfl, rfl, rfl, trivial⟩ (wC_seq (wC_seq (wC_region (vm ?_))))
  by_cases h5 : ((q : Nat) : Int) < 4
  ·refine vv (ylssT h5) ?_
   refine qk [0, 2, 3, 4, 5, 6, 12] ?_
   refine wQ_then (wC_cond_t rfl (wC_skip (wQ_then (wC_seq (wC_block (wC_region (vm ?_)))))))
   refine vv yzB ?_
   refine wL_new (V := fun b => .slice (some ⟨b, 0, none⟩) 1 1) (row := #[.int .i64 0, .int .i64 0, .int .i64 0, .int .i64 0, .int .i64 0, .slice none 0 0]) (t := 108) S3 (wn rfl) rfl rfl (d_buildSlice (vs := [(0, .agg #[.int .i64 0, .int .i64 0, .int .i64 0, .int .i64 0, .int .i64 0, .slice none 0 0])]) rfl ⟨rfl, rfl, trivial⟩ (by kernel_rfl)) ?_; intro b6 w7 S8; clear S3
   refine wL_append (news := [.int .i64 0, .int .i64 0, .int .i64 0, .int .i64 0, .int .i64 0, .slice none 0 0]) (xs' := (zero4.take (q + 1)).flatMap BX.cells) 1 S8 (wn rfl) rfl rfl rfl rfl rfl rfl (St.bld (xs := [.int .i64 0, .int .i64 0, .int .i64 0, .int .i64 0, .int .i64 0, .slice none 0 0]) 0 S8 rfl rfl rfl) Try.underlying129 infz108 rfl (by decide) (oneAll rfl) (by simp only [maxLen]; omega) (by omega) (zero_take (by omega)) ?_; intro A9 c10 w11 hc13 hm14 S12; clear S8
   change St _ _ _ [_, .own 108 6 (.slice A9 (q + 1) c10) (q + 1) ((zero4.take (q + 1)).flatMap BX.cells), _] at S12
   refine va ?_
   refine qk [0, 2, 3, 4, 5, 6] ?_
   refine wQ_blk_n (wQ_then (wC_region (vm ?_)))
   refine vv (v := .int .i64 ((q + 1 : Nat) : Int)) (y_binop rfl rfl rfl (r_add (by omega) (by omega))) ?_
   refine va ?_
   refine qk [0, 2, 3, 4, 5, 6] ?_
   have S15 : St _ _ _ [_, _] := S12.dels [0]; clear S12
   refine wQ_round (q + 1, A9, c10) ?_ ⟨rfl, rfl, rfl, rfl, rfl, rfl, trivial⟩ (by first | omega | (dsimp only; omega))
   exact ⟨(by dsimp only; omega), S15⟩
  ·refine vv (ylssF h5) ?_
   refine qk [0, 2, 3, 4, 5, 6, 12] ?_
   refine wQ_then (wC_cond_f rfl (wC_exit (wQ_then_exit (wQ_then_exit (wQ_blk_same (wQ_then (wC_seq (wC_seq ?_))))))))
   obtain rfl : q = 4 := by omega
   change St _ _ _ [.own 108 6 (.slice A1 4 c1) 4 ((zero4).flatMap BX.cells), _] at S3
   obtain ⟨g16, rfl⟩ := own_some (S3.own 0 rfl) (by omega)
   refine wC_region (va ?_)
   refine qk [0, 2, 3, 4, 5, 7] ?_
   refine wQ_then (wC_block ?_)
   have S17 := ev_zero S3; clear S3
   refine wC_loop (X := Nat × (List BX)) (fun xv => [(0, .slice A l.length c), (2, .slice none 0 0), (3, .int .i64 0), (4, .int .i64 0), (5, .slice (some ⟨g16, 0, none⟩) 4 c1), (7, .int .i64 ((xv.1 : Nat) : Int))]) (fun xv wr => (xv.1 ≤ l.length) ∧ (allM l = allGo (l.drop xv.1) xv.1 (xv.2.map BX.b)) ∧ (xv.2.length = 4) ∧ (∀ y ∈ xv.2, y.b.evs.length ≤ xv.1) ∧ St w.heap.size w wr ((.own 108 6 (.slice (some ⟨g16, 0, none⟩) 4 c1) 4 ((xv.2).flatMap BX.cells)) :: (.rd 10 A l.length ((l).flatMap Rcd.cells)) :: evFacts xv.2)) (fun xv => l.length - xv.1) (0, zero4) ?_ ?_ ?_
   ·exact ⟨Nat.zero_le _, rfl, rfl, fun y hy => (zero4_ok y hy).2, S17⟩
   ·exact ⟨rfl, rfl, rfl, rfl, rfl, rfl, trivial⟩
   ·rintro ⟨k, bs⟩ w18 ⟨hi20, hi21, hi22, hi23, S19⟩
    try dsimp only at hi20 hi21 hi22 hi23 S19; clear S17
    refine wC_sub (l' := [(0, .slice A l.length c), (2, .slice none 0 0), (3, .int .i64 0), (4, .int .i64 0), (5, .slice (some ⟨g16, 0, none⟩) 4 c1), (7, .int .i64 ((k : Nat) : Int))]) ⟨rfl, rfl, rfl, rfl, rfl, rfl, trivial⟩ (wC_seq (wC_seq (wC_region (vm ?_))))
    refine vm ?_
    refine vv (v := .int .i64 ((l.length : Nat) : Int)) (y_builtin (vs := [.slice A l.length c]) rfl ⟨rfl, trivial⟩ fun _ => r_len rfl Try.underlying86) ?_
    by_cases h24 : ((k : Nat) : Int) < ((l.length : Nat) : Int)
    ·refine vv (ylssT h24) ?_
     refine qk [0, 2, 3, 4, 5, 7, 22] ?_
     refine wQ_then (wC_cond_t rfl (wC_skip (wQ_then (wC_seq (wC_block (wC_seq (wC_region (vm ?_))))))))
     refine vm ?_
     obtain ⟨b25, o26, rfl⟩ := Rd.addr (St.rd 1 S19 rfl) (by omega)
     obtain ⟨x27, hx28⟩ := elm k (St.rd 1 S19 rfl) (by omega)
     refine vv (v := .pointer (some ⟨b25, o26 + k * 10, none⟩)) (y_indexAddr rfl rfl rfl (r_indexAddr k Try.underlying86 inf51 (by omega) (by omega))) ?_
     refine vv (y_load rfl rfl (r_load_agg (cs := Rcd.cells x27) Try.underlying51 rfl inf51 rfl (Rd.rg2 (St.rd 1 S19 rfl) (fun _ _ h => fm_get (enc := Rcd.cells) (sz := 10) (fun _ => rfl) hx28 h)))) ?_
     refine cab en122 S19 (RecordFault_calls x27 _) ?_; intro w29 S30; clear S19
     refine va ?_
     refine qk [0, 2, 3, 4, 5, 7, 8] ?_
     refine x_tssr (vm ?_)
     by_cases h32 : recFault x27 = 0
     ·refine vv (yneqF h32) ?_
      refine qk [0, 2, 3, 4, 5, 7, 8, 31] ?_
      refine wQ_then (wC_cond_f rfl (wC_skip (wQ_then (wC_seq ?_))))
      have hrz := rec_zero h32
      have hq4 : x27.queue.toNat < 4 := by omega
      obtain ⟨y, hy⟩ : ∃ y, bs[x27.queue.toNat]? = some y := ⟨_, List.getElem?_eq_getElem (by omega)⟩
      have hyo := hi23 y (List.mem_of_getElem? hy)
      obtain ⟨R, hR⟩ : ∃ R, applyM y.b x27 = R := ⟨_, rfl⟩
      have hap : applyM (getT (bs.map BX.b) x27.queue) x27 = R := by rw [getT_at hy]; exact hR
      have hal := apply_len (b := y.b) (r := x27)
      rw [hR] at hal
      have HP := fun w h => Applied_calls y.b.role y.b.ep y.b.fr y.b.tg y.b.rd y.A y.c y.b.evs x27.kind x27.queue x27.epoch x27.peer x27.ev w h (by unfold reachBytes; omega)
      rw [show applyM ⟨y.b.role, y.b.ep, y.b.fr, y.b.tg, y.b.rd, y.b.evs⟩ ⟨x27.kind, x27.queue, x27.epoch, x27.peer, x27.ev⟩ = R from hR] at HP
      have S33 := S30.drew; clear S30
      refine wC_any_ (C := fun w' => St w.heap.size w w' ((.own 108 6 (.slice (some ⟨g16, 0, none⟩) 4 c1) 4 ((bs).flatMap BX.cells)) :: (.rd 10 (some ⟨b25, o26, none⟩) l.length ((l).flatMap Rcd.cells)) :: evFacts bs)) (n := 19) (listed := #[false, false, false, false, false, false, false, false, false, false, false, false, false, false, false, false, false, false, false]) mixed rfl rfl ?_
      refine ak (v := .slice (some ⟨g16, 0, none⟩) 4 c1) 0 rfl S33 (fun _ _ => ym) ?_
      refine ak (v := .slice (some ⟨b25, o26, none⟩) l.length c) 1 rfl S33 (fun _ _ => ym) ?_
      refine ak (v := .int .i64 ((k : Nat) : Int)) 2 rfl S33 (fun _ _ => ym) ?_
      refine ak (v := .pointer (some ⟨b25, o26 + k * 10, none⟩)) 3 rfl S33 (fun _ _ => (y_indexAddr rfl rfl rfl (r_indexAddr k Try.underlying86 inf51 (by omega) (by omega)))) ?_
      refine ak (v := .pointer (some ⟨b25, o26 + k * 10 + 1, none⟩)) 4 rfl S33 (fun _ _ => yfa _ fa51_1) ?_
      refine ak (v := .int .i64 x27.queue) 5 rfl S33 (fun _ Sx39 => (y_load rfl rfl (r_load Try.underlying3 rfl (Rd.cl2 (i := 1) (St.rd 1 Sx39 rfl) (fm_get (enc := Rcd.cells) (sz := 10) (fun _ => rfl) hx28 rfl))))) ?_
      refine ak (v := .pointer (some ⟨g16, 0 + x27.queue.toNat * 6, none⟩)) 6 rfl S33 (fun _ _ => (y_indexAddr rfl rfl rfl (r_indexAddr x27.queue.toNat Try.underlying129 inf108 (by omega) (by omega)))) ?_
      refine ak (v := .agg #[.int .i64 y.b.role, .int .i64 y.b.ep, .int .i64 y.b.fr, .int .i64 y.b.tg, .int .i64 y.b.rd, .slice y.A y.b.evs.length y.c]) 7 rfl S33 (fun _ Sx41 => (y_load rfl rfl (r_load_agg (cs := BX.cells y) Try.underlying108 rfl inf108 rfl (Rd.rg2 (St.ord 0 Sx41 rfl) (fun _ _ h => fm_get (enc := BX.cells) (sz := 6) (fun _ => rfl) hy h))))) ?_
      refine ak (v := .slice (some ⟨b25, o26, none⟩) l.length c) 8 rfl S33 (fun _ _ => ym) ?_
      refine ak (v := .int .i64 ((k : Nat) : Int)) 9 rfl S33 (fun _ _ => ym) ?_
      refine ak (v := .pointer (some ⟨b25, o26 + k * 10, none⟩)) 10 rfl S33 (fun _ _ => (y_indexAddr rfl rfl rfl (r_indexAddr k Try.underlying86 inf51 (by omega) (by omega)))) ?_
      refine ak (v := .agg #[.int .i64 x27.kind, .int .i64 x27.queue, .int .i64 x27.epoch, .int .i64 x27.peer, .int .i64 x27.ev.kind, .int .i64 x27.ev.producer, .int .i64 x27.ev.id, .int .i64 x27.ev.body, .int .i64 x27.ev.hepoch, .int .i64 x27.ev.hno]) 11 rfl S33 (fun _ Sx45 => (y_load rfl rfl (r_load_agg (cs := Rcd.cells x27) Try.underlying51 rfl inf51 rfl (Rd.rg2 (St.rd 1 Sx45 rfl) (fun _ _ h => fm_get (enc := Rcd.cells) (sz := 10) (fun _ => rfl) hx28 h))))) ?_
      refine wA_two (n := 6) (r := 12) (s := 16) (by kernel_rfl) ?_ ?_
      ·refine caln 12 rfl en99 (HP _ (rdo_ev (pre := [_, _]) S33 hy)) ?_
       rintro _ w48 ⟨A46, c47, rfl, T50⟩
       refine ⟨_, rfl, ?_⟩
       have S49 := S33.ext T50 rfl; clear T50 S33
       change St _ _ _ ((.rdo 6 A46 R.1.evs.length ((R.1.evs).flatMap Ev.cells)) :: _ :: _ :: evFacts bs) at S49
       refine ⟨(St.del 0 S49), ?_⟩
       refine ak (v := .tuple #[.agg #[.int .i64 R.1.role, .int .i64 R.1.ep, .int .i64 R.1.fr, .int .i64 R.1.tg, .int .i64 R.1.rd, .slice A46 R.1.evs.length c47], .int .i64 R.2]) 13 rfl (St.del 0 S49) (fun _ _ => ym) ?_
       refine ak (v := .agg #[.int .i64 R.1.role, .int .i64 R.1.ep, .int .i64 R.1.fr, .int .i64 R.1.tg, .int .i64 R.1.rd, .slice A46 R.1.evs.length c47]) 14 rfl (St.del 0 S49) (fun _ _ => yx) ?_
       refine ak (v := .int .i64 R.2) 15 rfl (St.del 0 S49) (fun _ _ => yx) ?_
       refine aq1 16 ?_
       refine nnaB 16 rfl S49 Try.zeroValue108 ?_; intro b54 w55 S56; clear S49
       refine ⟨(S56.dels [1, 0]), ?_⟩
       refine aq1 17 ?_
       refine wN_st (i := 17) rfl rfl (fs' := (_ :: _ :: _ :: _ :: evFacts bs)) 0 S56 (wn rfl) rfl rfl rfl rfl rfl rfl inf108 rfl (oneAll rfl) (Nat.le_of_ble_eq_true rfl) (setAll_all rfl) rfl ?_; intro w57 S58; clear S56
       refine ⟨(S58.dels [1, 0]), ?_⟩
       refine ak (v := .int .i64 R.2) 18 rfl (S58.dels [1, 0]) (fun _ _ => ya) ?_
       refine wA_done (by kernel_rfl) ?_
       refine pk [0, 2, 3, 4, 5, 7, 9, 10] ?_
       refine x_tssr (vm ?_)
       by_cases h60 : R.2 = 0
       ·refine vv (yneqF h60) ?_
        refine qk [0, 2, 3, 4, 5, 7, 9, 10, 51] ?_
        refine wQ_then (wC_cond_f rfl (wC_skip (wQ_then ?_)))
        have S61 := S58.drew; clear S58
        refine wC_head (C := fun w' => St w.heap.size w w' ((.blk b54 #[.int .i64 R.1.role, .int .i64 R.1.ep, .int .i64 R.1.fr, .int .i64 R.1.tg, .int .i64 R.1.rd, .slice A46 R.1.evs.length c47] 108) :: (.rdo 6 A46 R.1.evs.length ((R.1.evs).flatMap Ev.cells)) :: (.own 108 6 (.slice (some ⟨g16, 0, none⟩) 4 c1) 4 ((bs).flatMap BX.cells)) :: (.rd 10 (some ⟨b25, o26, none⟩) l.length ((l).flatMap Rcd.cells)) :: evFacts bs)) (m := 9) (listed := #[false, false, false, false, false, false, false, false, false]) 7 mixed rfl rfl ?_
        refine gk (v := .slice (some ⟨g16, 0, none⟩) 4 c1) 0 rfl S61 (fun _ _ => ym) ?_
        refine gk (v := .slice (some ⟨b25, o26, none⟩) l.length c) 1 rfl S61 (fun _ _ => ym) ?_
        refine gk (v := .int .i64 ((k : Nat) : Int)) 2 rfl S61 (fun _ _ => ym) ?_
        refine gk (v := .pointer (some ⟨b25, o26 + k * 10, none⟩)) 3 rfl S61 (fun _ _ => (y_indexAddr rfl rfl rfl (r_indexAddr k Try.underlying86 inf51 (by omega) (by omega)))) ?_
        refine gk (v := .pointer (some ⟨b25, o26 + k * 10 + 1, none⟩)) 4 rfl S61 (fun _ _ => yfa _ fa51_1) ?_
        refine gk (v := .int .i64 x27.queue) 5 rfl S61 (fun _ Sx67 => (y_load rfl rfl (r_load Try.underlying3 rfl (Rd.cl2 (i := 1) (St.rd 3 Sx67 rfl) (fm_get (enc := Rcd.cells) (sz := 10) (fun _ => rfl) hx28 rfl))))) ?_
        refine gk (v := .agg #[.int .i64 R.1.role, .int .i64 R.1.ep, .int .i64 R.1.fr, .int .i64 R.1.tg, .int .i64 R.1.rd, .slice A46 R.1.evs.length c47]) 6 rfl S61 (fun _ Sx68 => ylr 0 Sx68 Try.underlying108 inf108) ?_
        refine wG_tail (by kernel_rfl) rfl rfl rfl ?_
        refine vv (v := .pointer (some ⟨g16, 0 + x27.queue.toNat * 6, none⟩)) (y_indexAddr rfl rfl rfl (r_indexAddr x27.queue.toNat Try.underlying129 inf108 (by omega) (by omega))) ?_
        refine wL_stOwn (xs' := (bs.set x27.queue.toNat ⟨R.1, A46, c47⟩).flatMap BX.cells) 2 S61 (wn rfl) rfl rfl rfl rfl rfl rfl inf108 rfl (oneAll rfl) (by omega) (by rw [Nat.zero_add]; exact fm_put (enc := BX.cells) (sz := 6) (fun _ => rfl) ⟨R.1, A46, c47⟩ _ bs (by omega)) ?_; intro w69 S70; clear S61
        change St _ _ _ (_ :: _ :: (.own 108 6 (.slice (some ⟨g16, 0, none⟩) 4 c1) 4 ((bs.set x27.queue.toNat ⟨R.1, A46, c47⟩).flatMap BX.cells)) :: _ :: evFacts bs) at S70
        refine wL_nil (wQ_np ?_)
        refine pk [0, 2, 3, 4, 5, 7] ?_
        refine wQ_blk_n (wQ_then (wC_region (vm ?_)))
        refine vv (v := .int .i64 ((k + 1 : Nat) : Int)) (y_binop rfl rfl rfl (r_add (by omega) (by omega))) ?_
        refine va ?_
        refine qk [0, 2, 3, 4, 5, 7] ?_
        have S71 : St _ _ _ (_ :: _ :: _ :: evFacts bs) := S70.dels [0]; clear S70
        have S72 : St w.heap.size w w69 (_ :: _ :: _ :: evFacts bs) := (((S71.bring 0 rfl).bring 2 rfl).bring 2 rfl); clear S71
        have S73 := ev_put (pre := [_, _]) (z := ⟨R.1, A46, c47⟩) (k := x27.queue.toNat) S72 (by omega)
        refine wQ_round (k + 1, bs.set x27.queue.toNat ⟨R.1, A46, c47⟩) ?_ ⟨rfl, rfl, rfl, rfl, rfl, rfl, trivial⟩ (by first | omega | (dsimp only; omega))
        exact ⟨(by dsimp only; omega), (by dsimp only; rw [hi21, all_next hx28 h32 hap h60, List.map_set]), (by dsimp only; rw [List.length_set]; exact hi22), (len_set hi23 (Nat.le_trans hal (Nat.succ_le_succ hyo))), S73⟩
       ·refine vv (yneqT h60) ?_
        refine qk [0, 2, 3, 4, 5, 7, 9, 10, 51] ?_
        refine x_tysr (vm ?_)
        refine vm ?_
        iterate 3 refine va ?_
        refine qk [2, 3, 4] ?_
        refine wQ_then (wC_ret (wQ_then_ret (wQ_blk_ret (wQ_then_ret (wQ_then_ret (wQ_blk_ret (wQ_then_ret (wQ_post (rs := [.tmp 2, .tmp 3, .tmp 4]) (vs := [.slice none 0 0, .int .i64 ((k : Nat) : Int), .int .i64 R.2]) rfl ⟨rfl, rfl, rfl, trivial⟩ ?_))))))))
        rw [show allM l = _ from hi21.trans (all_app hx28 h32 hap h60)]
        exact ⟨fun _ => ⟨rfl, S58.low⟩, fun T h => (by cases h)⟩
      ·refine nnaB 16 rfl S33 Try.zeroValue108 ?_; intro b74 w75 S76; clear S33
       refine ⟨(St.del 0 S76), ?_⟩
       refine aq1 12 ?_
       refine caln 12 rfl en99 (HP _ (rdo_ev (pre := [_, _, _]) S76 hy)) ?_
       rintro _ w79 ⟨A77, c78, rfl, T81⟩
       refine ⟨_, rfl, ?_⟩
       have S80 := S76.ext T81 rfl; clear T81 S76
       change St _ _ _ ((.rdo 6 A77 R.1.evs.length ((R.1.evs).flatMap Ev.cells)) :: _ :: _ :: _ :: evFacts bs) at S80
       refine ⟨(S80.dels [1, 0]), ?_⟩
       refine ak (v := .tuple #[.agg #[.int .i64 R.1.role, .int .i64 R.1.ep, .int .i64 R.1.fr, .int .i64 R.1.tg, .int .i64 R.1.rd, .slice A77 R.1.evs.length c78], .int .i64 R.2]) 13 rfl (S80.dels [1, 0]) (fun _ _ => ym) ?_
       refine ak (v := .agg #[.int .i64 R.1.role, .int .i64 R.1.ep, .int .i64 R.1.fr, .int .i64 R.1.tg, .int .i64 R.1.rd, .slice A77 R.1.evs.length c78]) 14 rfl (S80.dels [1, 0]) (fun _ _ => yx) ?_
       refine ak (v := .int .i64 R.2) 15 rfl (S80.dels [1, 0]) (fun _ _ => yx) ?_
       refine aq1 17 ?_
       refine wN_st (i := 17) rfl rfl (fs' := (_ :: _ :: _ :: _ :: evFacts bs)) 1 S80 (wn rfl) rfl rfl rfl rfl rfl rfl inf108 rfl (oneAll rfl) (Nat.le_of_ble_eq_true rfl) (setAll_all rfl) rfl ?_; intro w85 S86; clear S80
       refine ⟨(S86.dels [1, 0]), ?_⟩
       refine ak (v := .int .i64 R.2) 18 rfl (S86.dels [1, 0]) (fun _ _ => ya) ?_
       refine wA_done (by kernel_rfl) ?_
       refine pk [0, 2, 3, 4, 5, 7, 9, 10] ?_
       refine x_tssr (vm ?_)
       by_cases h88 : R.2 = 0
       ·refine vv (yneqF h88) ?_
        refine qk [0, 2, 3, 4, 5, 7, 9, 10, 51] ?_
        refine wQ_then (wC_cond_f rfl (wC_skip (wQ_then ?_)))
        have S89 := S86.drew; clear S86
        refine wC_head (C := fun w' => St w.heap.size w w' ((.rdo 6 A77 R.1.evs.length ((R.1.evs).flatMap Ev.cells)) :: (.blk b74 #[.int .i64 R.1.role, .int .i64 R.1.ep, .int .i64 R.1.fr, .int .i64 R.1.tg, .int .i64 R.1.rd, .slice A77 R.1.evs.length c78] 108) :: (.own 108 6 (.slice (some ⟨g16, 0, none⟩) 4 c1) 4 ((bs).flatMap BX.cells)) :: (.rd 10 (some ⟨b25, o26, none⟩) l.length ((l).flatMap Rcd.cells)) :: evFacts bs)) (m := 9) (listed := #[false, false, false, false, false, false, false, false, false]) 7 mixed rfl rfl ?_
        refine gk (v := .slice (some ⟨g16, 0, none⟩) 4 c1) 0 rfl S89 (fun _ _ => ym) ?_
        refine gk (v := .slice (some ⟨b25, o26, none⟩) l.length c) 1 rfl S89 (fun _ _ => ym) ?_
        refine gk (v := .int .i64 ((k : Nat) : Int)) 2 rfl S89 (fun _ _ => ym) ?_
        refine gk (v := .pointer (some ⟨b25, o26 + k * 10, none⟩)) 3 rfl S89 (fun _ _ => (y_indexAddr rfl rfl rfl (r_indexAddr k Try.underlying86 inf51 (by omega) (by omega)))) ?_
        refine gk (v := .pointer (some ⟨b25, o26 + k * 10 + 1, none⟩)) 4 rfl S89 (fun _ _ => yfa _ fa51_1) ?_
        refine gk (v := .int .i64 x27.queue) 5 rfl S89 (fun _ Sx95 => (y_load rfl rfl (r_load Try.underlying3 rfl (Rd.cl2 (i := 1) (St.rd 3 Sx95 rfl) (fm_get (enc := Rcd.cells) (sz := 10) (fun _ => rfl) hx28 rfl))))) ?_
        refine gk (v := .agg #[.int .i64 R.1.role, .int .i64 R.1.ep, .int .i64 R.1.fr, .int .i64 R.1.tg, .int .i64 R.1.rd, .slice A77 R.1.evs.length c78]) 6 rfl S89 (fun _ Sx96 => ylr 1 Sx96 Try.underlying108 inf108) ?_
        refine wG_tail (by kernel_rfl) rfl rfl rfl ?_
        refine vv (v := .pointer (some ⟨g16, 0 + x27.queue.toNat * 6, none⟩)) (y_indexAddr rfl rfl rfl (r_indexAddr x27.queue.toNat Try.underlying129 inf108 (by omega) (by omega))) ?_
        refine wL_stOwn (xs' := (bs.set x27.queue.toNat ⟨R.1, A77, c78⟩).flatMap BX.cells) 2 S89 (wn rfl) rfl rfl rfl rfl rfl rfl inf108 rfl (oneAll rfl) (by omega) (by rw [Nat.zero_add]; exact fm_put (enc := BX.cells) (sz := 6) (fun _ => rfl) ⟨R.1, A77, c78⟩ _ bs (by omega)) ?_; intro w97 S98; clear S89
        change St _ _ _ (_ :: _ :: (.own 108 6 (.slice (some ⟨g16, 0, none⟩) 4 c1) 4 ((bs.set x27.queue.toNat ⟨R.1, A77, c78⟩).flatMap BX.cells)) :: _ :: evFacts bs) at S98
        refine wL_nil (wQ_np ?_)
        refine pk [0, 2, 3, 4, 5, 7] ?_
        refine wQ_blk_n (wQ_then (wC_region (vm ?_)))
        refine vv (v := .int .i64 ((k + 1 : Nat) : Int)) (y_binop rfl rfl rfl (r_add (by omega) (by omega))) ?_
        refine va ?_
        refine qk [0, 2, 3, 4, 5, 7] ?_
        have S99 : St _ _ _ (_ :: _ :: _ :: evFacts bs) := S98.dels [1]; clear S98
        have S100 : St w.heap.size w w97 (_ :: _ :: _ :: evFacts bs) := (((S99.bring 0 rfl).bring 2 rfl).bring 2 rfl); clear S99
        have S101 := ev_put (pre := [_, _]) (z := ⟨R.1, A77, c78⟩) (k := x27.queue.toNat) S100 (by omega)
        refine wQ_round (k + 1, bs.set x27.queue.toNat ⟨R.1, A77, c78⟩) ?_ ⟨rfl, rfl, rfl, rfl, rfl, rfl, trivial⟩ (by first | omega | (dsimp only; omega))
        exact ⟨(by dsimp only; omega), (by dsimp only; rw [hi21, all_next hx28 h32 hap h88, List.map_set]), (by dsimp only; rw [List.length_set]; exact hi22), (len_set hi23 (Nat.le_trans hal (Nat.succ_le_succ hyo))), S101⟩
       ·refine vv (yneqT h88) ?_
        refine qk [0, 2, 3, 4, 5, 7, 9, 10, 51] ?_
        refine x_tysr (vm ?_)
        refine vm ?_
        iterate 3 refine va ?_
        refine qk [2, 3, 4] ?_
        refine wQ_then (wC_ret (wQ_then_ret (wQ_blk_ret (wQ_then_ret (wQ_then_ret (wQ_blk_ret (wQ_then_ret (wQ_post (rs := [.tmp 2, .tmp 3, .tmp 4]) (vs := [.slice none 0 0, .int .i64 ((k : Nat) : Int), .int .i64 R.2]) rfl ⟨rfl, rfl, rfl, trivial⟩ ?_))))))))
        rw [show allM l = _ from hi21.trans (all_app hx28 h32 hap h88)]
        exact ⟨fun _ => ⟨rfl, S86.low⟩, fun T h => (by cases h)⟩
     ·refine vv (yneqT h32) ?_
      refine qk [0, 2, 3, 4, 5, 7, 8, 31] ?_
      refine x_tysr (vm ?_)
      refine vm ?_
      iterate 3 refine va ?_
      refine qk [2, 3, 4] ?_
      refine wQ_then (wC_ret (wQ_then_ret (wQ_blk_ret (wQ_then_ret (wQ_then_ret (wQ_blk_ret (wQ_then_ret (wQ_post (rs := [.tmp 2, .tmp 3, .tmp 4]) (vs := [.slice none 0 0, .int .i64 ((k : Nat) : Int), .int .i64 (recFault x27)]) rfl ⟨rfl, rfl, rfl, trivial⟩ ?_))))))))
      rw [show allM l = _ from hi21.trans (all_rec hx28 h32)]
      exact ⟨fun _ => ⟨rfl, S30.low⟩, fun T h => (by cases h)⟩
    ·refine vv (ylssF h24) ?_
     refine qk [0, 2, 3, 4, 5, 7, 22] ?_
     refine wQ_then (wC_cond_f rfl (wC_exit (wQ_then_exit (wQ_then_exit (wQ_blk_same (wQ_then (wC_seq (wC_region (vm ?_)))))))))
     iterate 3 refine va ?_
     refine qk [2, 3, 4] ?_
     refine x_te (wQ_post (rs := [.tmp 2, .tmp 3, .tmp 4]) (vs := [.slice (some ⟨g16, 0, none⟩) 4 c1, .int .i64 0, .int .i64 0]) rfl ⟨rfl, rfl, rfl, trivial⟩ ?_)
     have S102 : St _ _ _ (_ :: evFacts bs) := S19.dels [1]; clear S19
     have S103 := S102.sealAll 0 rfl
     rw [show allM l = _ from hi21.trans (all_end (by omega))]
     exact ⟨fun h => (by cases h), fun T h => (by cases h; exact ⟨(some ⟨g16, 0, none⟩), c1, bs, rfl, hi22, rfl, S103⟩)⟩
end Go.Proofs.Ytkjlafpafmihaaa

namespace Go.Proofs.Ytkjlafpafmihaaa
open Go.ChangeShapes Go.WideShapes Go.RowKit

set_option maxRecDepth 100000 in
theorem rcd_ne2 (x : Rcd) (w : World) : (binOp .neq 51 (.agg (x.cells).toArray) (.agg (x.cells).toArray)).run Try.prog w = .ok (.bool false) w :=
  run_neq_self w (l := (.at_ (.int .i64) :: .at_ (.int .i64) :: .at_ (.int .i64) :: .at_ (.int .i64) :: .at_ (.int .i64) :: .at_ (.int .i64) :: .at_ (.int .i64) :: .at_ (.int .i64) :: .at_ (.int .i64) :: .at_ (.int .i64) :: [])) (by kernel_rfl) (by kernel_rfl) (fun xs => by unfold mkV; rw [Try.underlying51]) ⟨⟨_, rfl⟩, ⟨_, rfl⟩, ⟨_, rfl⟩, ⟨_, rfl⟩, ⟨_, rfl⟩, ⟨_, rfl⟩, ⟨_, rfl⟩, ⟨_, rfl⟩, ⟨_, rfl⟩, ⟨_, rfl⟩, trivial⟩

set_option maxRecDepth 100000 in
set_option maxHeartbeats 2000000 in
theorem sameRecs_calls (A A' : Option Addr) (c c' : Nat) (l : List Rcd) (w : World) (h : Rd w w.heap.size 10 A l.length ((l).flatMap Rcd.cells)) (h' : Rd w w.heap.size 10 A' l.length ((l).flatMap Rcd.cells)) (hl : l.length ≤ 1152921504606846976) :
    Calls Try.prog 63 #[.slice A l.length c, .slice A' l.length c'] w (BoolB w true) := by
 have S := ((St.start w).addRd h').addRd h
 refine fnw 26 Try.func63 ?_
 refine cw [0, 1] ?_
 refine x_sr (va ?_)
 refine wL_nil (wQ_then (wC_seq (wC_seq (wC_region (vm ?_)))))
 refine vv (v := .int .i64 ((l.length : Nat) : Int)) (y_builtin (vs := [.slice A l.length c]) rfl ⟨rfl, trivial⟩ fun _ => r_len rfl Try.underlying86) ?_
 refine vm ?_
 refine vv (v := .int .i64 ((l.length : Nat) : Int)) (y_builtin (vs := [.slice A' l.length c']) rfl ⟨rfl, trivial⟩ fun _ => r_len rfl Try.underlying86) ?_
 refine vv (yneqF rfl) ?_
 refine qk [0, 1, 4, 10] ?_
 refine x_tnktssr (va ?_)
 refine qk [0, 1, 4, 5] ?_
 refine wQ_then (wC_block (wC_loop (X := Nat) (fun xv => [(0, .slice A l.length c), (1, .slice A' l.length c'), (4, .bool false), (5, .int .i64 ((xv : Nat) : Int))]) (fun xv wr => (xv ≤ l.length) ∧ St w.heap.size w wr [.rd 10 A l.length ((l).flatMap Rcd.cells), .rd 10 A' l.length ((l).flatMap Rcd.cells)]) (fun xv => l.length - xv) (0) ?_ ?_ ?_))
 ·exact ⟨Nat.zero_le _, S⟩
 ·exact ⟨rfl, rfl, rfl, rfl, trivial⟩
 ·rintro k w1 ⟨hi3, S2⟩
  try dsimp only at hi3 S2; clear S
  refine wC_sub (l' := [(0, .slice A l.length c), (1, .slice A' l.length c'), (4, .bool false), (5, .int .i64 ((k : Nat) : Int))]) ⟨rfl, rfl, rfl, rfl, trivial⟩ (wC_seq (wC_seq (wC_region (vm ?_))))
  refine vm ?_
  refine vv (v := .int .i64 ((l.length : Nat) : Int)) (y_builtin (vs := [.slice A l.length c]) rfl ⟨rfl, trivial⟩ fun _ => r_len rfl Try.underlying86) ?_
  by_cases h4 : ((k : Nat) : Int) < ((l.length : Nat) : Int)
  ·refine vv (ylssT h4) ?_
   refine qk [0, 1, 4, 5, 14] ?_
   refine wQ_then (wC_cond_t rfl (wC_skip (wQ_then (wC_seq (wC_block (wC_seq (wC_quiet S2 mixed (by kernel_rfl) ?_)))))))
   refine uv (v := .slice A l.length c) (fun _ _ => ym) ?_
   refine uv (v := .int .i64 ((k : Nat) : Int)) (fun _ _ => ym) ?_
   obtain ⟨b7, o8, rfl⟩ := Rd.addr (St.rd 0 S2 rfl) (by omega)
   obtain ⟨x9, hx10⟩ := elm k (St.rd 0 S2 rfl) (by omega)
   refine uv (v := .pointer (some ⟨b7, o8 + k * 10, none⟩)) (fun _ _ => (y_indexAddr rfl rfl rfl (r_indexAddr k Try.underlying86 inf51 (by omega) (by omega)))) ?_
   refine uv (v := .agg #[.int .i64 x9.kind, .int .i64 x9.queue, .int .i64 x9.epoch, .int .i64 x9.peer, .int .i64 x9.ev.kind, .int .i64 x9.ev.producer, .int .i64 x9.ev.id, .int .i64 x9.ev.body, .int .i64 x9.ev.hepoch, .int .i64 x9.ev.hno]) (fun _ Sx12 => (y_load rfl rfl (r_load_agg (cs := Rcd.cells x9) Try.underlying51 rfl inf51 rfl (Rd.rg2 (St.rd 0 Sx12 rfl) (fun _ _ h => fm_get (enc := Rcd.cells) (sz := 10) (fun _ => rfl) hx10 h))))) ?_
   refine uv (v := .slice A' l.length c') (fun _ _ => ym) ?_
   refine uv (v := .int .i64 ((k : Nat) : Int)) (fun _ _ => ym) ?_
   obtain ⟨b15, o16, rfl⟩ := Rd.addr (St.rd 1 S2 rfl) (by omega)
   refine uv (v := .pointer (some ⟨b15, o16 + k * 10, none⟩)) (fun _ _ => (y_indexAddr rfl rfl rfl (r_indexAddr k Try.underlying86 inf51 (by omega) (by omega)))) ?_
   refine uv (v := .agg #[.int .i64 x9.kind, .int .i64 x9.queue, .int .i64 x9.epoch, .int .i64 x9.peer, .int .i64 x9.ev.kind, .int .i64 x9.ev.producer, .int .i64 x9.ev.id, .int .i64 x9.ev.body, .int .i64 x9.ev.hepoch, .int .i64 x9.ev.hno]) (fun _ Sx18 => (y_load rfl rfl (r_load_agg (cs := Rcd.cells x9) Try.underlying51 rfl inf51 rfl (Rd.rg2 (St.rd 1 Sx18 rfl) (fun _ _ h => fm_get (enc := Rcd.cells) (sz := 10) (fun _ => rfl) hx10 h))))) ?_
   refine uv (v := .bool false) (fun _ _ => (y_binop rfl rfl rfl (r_eqg (by kernel_rfl) (rcd_ne2 x9  _)))) ?_
   refine wU_nil fun w20 S21 => ?_; clear S2
   refine pk [0, 1, 4, 5, 25] ?_
   refine wQ_then (wC_cond_f rfl (wC_skip (wQ_blk_n (wQ_then (wC_region (vm ?_))))))
   refine vv (v := .int .i64 ((k + 1 : Nat) : Int)) (y_binop rfl rfl rfl (r_add (by omega) (by omega))) ?_
   refine va ?_
   refine qk [0, 1, 4, 5] ?_
   refine wQ_round (k + 1) ?_ ⟨rfl, rfl, rfl, rfl, trivial⟩ (by first | omega | (dsimp only; omega))
   exact ⟨(by omega), S21⟩
  ·refine vv (ylssF h4) ?_
   refine qk [0, 1, 4, 5, 14] ?_
   refine wQ_then (wC_cond_f rfl (wC_exit (wQ_then_exit (wQ_then_exit (wQ_blk_same (wQ_then (wC_seq (wC_region (va ?_)))))))))
   refine qk [4] ?_
   refine x_te (pt ?_)
   exact ⟨rfl, S2.low⟩

set_option maxRecDepth 100000 in
set_option maxHeartbeats 4000000 in
theorem sameBerths_calls (A A' : Option Addr) (c c' : Nat) (bs bs' : List BX) (w : World) (h : Rd w w.heap.size 6 A 4 (bs.flatMap BX.cells)) (h' : Rd w w.heap.size 6 A' 4 (bs'.flatMap BX.cells)) (hl : bs.length = 4) (hl' : bs'.length = 4) (he : ∀ (k : Nat) (y : BX), bs[k]? = some y → Rd w w.heap.size 6 y.A y.b.evs.length (evCells y.b.evs)) (he' : ∀ (k : Nat) (y : BX), bs'[k]? = some y → Rd w w.heap.size 6 y.A y.b.evs.length (evCells y.b.evs)) (hm : bs.map BX.b = bs'.map BX.b) (hs : ∀ y ∈ bs, y.b.evs.length ≤ 9000000000000000) :
    Calls Try.prog 103 #[.slice A 4 c, .slice A' 4 c'] w (BoolB w true) := by
 have S := ((St.start w).addRd h').addRd h; clear h h'
 refine fnw 27 Try.func103 ?_
 refine cw [0, 1] ?_
 refine x_sr (va ?_)
 refine wL_nil (wQ_then (wC_seq (wC_seq (wC_region (vm ?_)))))
 refine vv (v := .int .i64 4) (y_builtin (vs := [.slice A 4 c]) rfl ⟨rfl, trivial⟩ fun _ => r_len rfl Try.underlying129) ?_
 refine vm ?_
 refine vv (v := .int .i64 4) (y_builtin (vs := [.slice A' 4 c']) rfl ⟨rfl, trivial⟩ fun _ => r_len rfl Try.underlying129) ?_
 refine vv dneqF ?_
 refine qk [0, 1, 4, 10] ?_
 refine x_tnktssr (va ?_)
 refine qk [0, 1, 4, 5] ?_
 refine wQ_then (wC_block (wC_loop (X := Nat) (fun xv => [(0, .slice A 4 c), (1, .slice A' 4 c'), (4, .bool false), (5, .int .i64 ((xv : Nat) : Int))]) (fun xv wr => (xv ≤ 4) ∧ St w.heap.size w wr [.rd 6 A 4 ((bs).flatMap BX.cells), .rd 6 A' 4 ((bs').flatMap BX.cells)]) (fun xv => 4 - xv) (0) ?_ ?_ ?_))
 ·exact ⟨Nat.zero_le _, S⟩
 ·exact ⟨rfl, rfl, rfl, rfl, trivial⟩
 ·rintro k w1 ⟨hi3, S2⟩
  try dsimp only at hi3 S2; clear S
  refine wC_sub (l' := [(0, .slice A 4 c), (1, .slice A' 4 c'), (4, .bool false), (5, .int .i64 ((k : Nat) : Int))]) ⟨rfl, rfl, rfl, rfl, trivial⟩ (wC_seq (wC_seq (wC_region (vm ?_))))
  refine vm ?_
  refine vv (v := .int .i64 4) (y_builtin (vs := [.slice A 4 c]) rfl ⟨rfl, trivial⟩ fun _ => r_len rfl Try.underlying129) ?_
  by_cases h4 : ((k : Nat) : Int) < 4
  ·refine vv (ylssT h4) ?_
   refine qk [0, 1, 4, 5, 14] ?_
   refine wQ_then (wC_cond_t rfl (wC_skip (wQ_then (wC_seq (wC_block ?_)))))
   obtain ⟨⟨yb, yA, yc⟩, hy⟩ : ∃ y, bs[k]? = some y := ⟨_, List.getElem?_eq_getElem (by omega)⟩
   obtain ⟨⟨zb, zA, zc⟩, hz⟩ : ∃ y, bs'[k]? = some y := ⟨_, List.getElem?_eq_getElem (by omega)⟩
   obtain rfl : yb = zb := by have h1 := congrArg (fun l => l[k]?) hm; simp only [List.getElem?_map, hy, hz, Option.map_some, Option.some.injEq] at h1; exact h1
   have hyl := hs _ (List.mem_of_getElem? hy)
   try dsimp only at hyl
   have S5 := S2.addRd ((he k _ hy).below S2.low (Nat.le_refl _)); clear S2
   have S6 := S5.addRd ((he' k _ hz).below S5.low (Nat.le_refl _)); clear S5
   try dsimp only at S6
   refine wC_seq (wC_quiet S6 mixed (by kernel_rfl) ?_)
   refine uv (v := .slice A 4 c) (fun _ _ => ym) ?_
   refine uv (v := .int .i64 ((k : Nat) : Int)) (fun _ _ => ym) ?_
   obtain ⟨b9, o10, rfl⟩ := Rd.addr (St.rd 2 S6 rfl) (by omega)
   refine uv (v := .pointer (some ⟨b9, o10 + k * 6, none⟩)) (fun _ _ => (y_indexAddr rfl rfl rfl (r_indexAddr k Try.underlying129 inf108 (by omega) (by omega)))) ?_
   refine uv (v := .agg #[.int .i64 yb.role, .int .i64 yb.ep, .int .i64 yb.fr, .int .i64 yb.tg, .int .i64 yb.rd, .slice yA yb.evs.length yc]) (fun _ Sx12 => (y_load rfl rfl (r_load_agg (cs := BX.cells ⟨yb, yA, yc⟩) Try.underlying108 rfl inf108 rfl (Rd.rg2 (St.rd 2 Sx12 rfl) (fun _ _ h => fm_get (enc := BX.cells) (sz := 6) (fun _ => rfl) hy h))))) ?_
   refine uv (v := .slice A' 4 c') (fun _ _ => ym) ?_
   refine uv (v := .int .i64 ((k : Nat) : Int)) (fun _ _ => ym) ?_
   obtain ⟨b15, o16, rfl⟩ := Rd.addr (St.rd 3 S6 rfl) (by omega)
   refine uv (v := .pointer (some ⟨b15, o16 + k * 6, none⟩)) (fun _ _ => (y_indexAddr rfl rfl rfl (r_indexAddr k Try.underlying129 inf108 (by omega) (by omega)))) ?_
   refine uv (v := .agg #[.int .i64 yb.role, .int .i64 yb.ep, .int .i64 yb.fr, .int .i64 yb.tg, .int .i64 yb.rd, .slice zA yb.evs.length zc]) (fun _ Sx18 => (y_load rfl rfl (r_load_agg (cs := BX.cells ⟨yb, zA, zc⟩) Try.underlying108 rfl inf108 rfl (Rd.rg2 (St.rd 3 Sx18 rfl) (fun _ _ h => fm_get (enc := BX.cells) (sz := 6) (fun _ => rfl) hz h))))) ?_
   refine wU_call (v := .bool true) (wn rfl) rfl rfl (fun _ => (e_call (vs := [.agg #[.int .i64 yb.role, .int .i64 yb.ep, .int .i64 yb.fr, .int .i64 yb.tg, .int .i64 yb.rd, .slice yA yb.evs.length yc], .agg #[.int .i64 yb.role, .int .i64 yb.ep, .int .i64 yb.fr, .int .i64 yb.tg, .int .i64 yb.rd, .slice zA yb.evs.length zc]]) rfl en81 ⟨rfl, rfl, trivial⟩)) (fun _ Sx19 => (sameBerth_calls yb.role yb.ep yb.fr yb.tg yb.rd yA yc zA zc yb.evs _ (St.rd 1 Sx19 rfl) (St.rd 0 Sx19 rfl) (by omega)).mono fun _ _ h => ⟨h.1, Sx19.on h.2⟩) ?_
   refine uv (v := .bool false) (fun _ _ => yno) ?_
   refine wU_nil fun w21 S22 => ?_; clear S6
   refine pk [0, 1, 4, 5, 26] ?_
   refine wQ_then (wC_cond_f rfl (wC_skip (wQ_blk_n (wQ_then (wC_region (vm ?_))))))
   refine vv (v := .int .i64 ((k + 1 : Nat) : Int)) (y_binop rfl rfl rfl (r_add (by omega) (by omega))) ?_
   refine va ?_
   refine qk [0, 1, 4, 5] ?_
   have S23 : St _ _ _ [_, _] := S22.dels [1, 0]; clear S22
   refine wQ_round (k + 1) ?_ ⟨rfl, rfl, rfl, rfl, trivial⟩ (by first | omega | (dsimp only; omega))
   exact ⟨(by omega), S23⟩
  ·refine vv (ylssF h4) ?_
   refine qk [0, 1, 4, 5, 14] ?_
   refine wQ_then (wC_cond_f rfl (wC_exit (wQ_then_exit (wQ_then_exit (wQ_blk_same (wQ_then (wC_seq (wC_region (va ?_)))))))))
   refine qk [4] ?_
   refine x_te (pt ?_)
   exact ⟨rfl, S2.low⟩

set_option maxRecDepth 100000 in
set_option maxHeartbeats 1000000 in
theorem sameNone_calls (w : World) :
    Calls Try.prog 103 #[.slice none 0 0, .slice none 0 0] w (BoolB w true) := by
 have S := St.start w
 refine fnw 27 Try.func103 ?_
 refine cw [0, 1] ?_
 refine x_sr (va ?_)
 refine wL_nil (wQ_then (wC_seq (wC_seq (wC_region (vm ?_)))))
 refine vv (v := .int .i64 0) (y_builtin (vs := [.slice none 0 0]) rfl ⟨rfl, trivial⟩ fun _ => r_len rfl Try.underlying129) ?_
 refine vm ?_
 refine vv (v := .int .i64 0) (y_builtin (vs := [.slice none 0 0]) rfl ⟨rfl, trivial⟩ fun _ => r_len rfl Try.underlying129) ?_
 refine vv dneqF ?_
 refine qk [0, 1, 4, 10] ?_
 refine x_tnktssr (va ?_)
 refine qk [0, 1, 4, 5] ?_
 refine wQ_then (wC_block (wC_unroll (wI_round (wC_seq (wC_seq (wC_region (vm ?_)))))))
 refine vm ?_
 refine vv (v := .int .i64 0) (y_builtin (vs := [.slice none 0 0]) rfl ⟨rfl, trivial⟩ fun _ => r_len rfl Try.underlying129) ?_
 refine vv dlssF ?_
 refine qk [0, 1, 4, 5, 14] ?_
 refine wQ_then (wC_cond_f rfl (wC_exit (wQ_then_exit (wQ_then_exit (wQ_blk_same (wQ_then (wC_seq (wC_region (va ?_)))))))))
 refine qk [4] ?_
 refine x_te (pt ?_)
 exact ⟨rfl, S.low⟩

theorem rcds_one2 (l : List Rcd) : ∀ u ∈ l.flatMap Rcd.cells, u.oneCell' = true := by
  intro u hu
  rw [List.mem_flatMap] at hu
  obtain ⟨z, _, hz⟩ := hu
  simp [Rcd.cells] at hz
  rcases hz with rfl | rfl | rfl | rfl | rfl | rfl | rfl | rfl | rfl | rfl <;> rfl
def RcdsPost (w : World) (l : List Rcd) (e : Ending) (w' : World) : Prop := ∃ A c, e = .returned (.slice A l.length c) ∧ St w.heap.size w w' [.rdo 10 A l.length (l.flatMap Rcd.cells)]

set_option maxRecDepth 100000 in
set_option maxHeartbeats 2000000 in
theorem records_calls (A : Option Addr) (c : Nat) (l : List Rcd) (w : World) (h : Rd w w.heap.size 10 A l.length (l.flatMap Rcd.cells)) (hb : l.length * 80 ≤ reachBytes) :
    Calls Try.prog 100 #[.slice A l.length c] w (RcdsPost w l) := by
 have S := (St.start w).addRd h; clear h
 have hb2 := hb
 unfold reachBytes at hb2
 refine fnw 5 Try.func100 ?_
 refine cw [0] ?_
 refine x_sr (va ?_)
 refine wL_nil (wQ_then (wC_seq ?_))
 have S1 := S.nil 51 10; clear S
 change St _ _ _ [.own 51 10 (.slice none 0 0) 0 ((([] : List Rcd)).flatMap Rcd.cells), _] at S1
 refine wC_region (vm ?_)
 refine wL_append (news := (l).flatMap Rcd.cells) (xs' := (l).flatMap Rcd.cells) 0 S1 (wn rfl) rfl rfl rfl rfl rfl rfl (St.rd 1 S1 rfl) Try.underlying86 infz51 rfl (by decide) (rcds_one2 _) (by simp only [maxLen]; omega) (by omega) (by simp) ?_; intro A2 c3 w4 hc6 hm7 S5; clear S1
 change St _ _ _ [.own 51 10 (.slice A2 (0 + l.length) c3) (0 + l.length) ((l).flatMap Rcd.cells), _] at S5
 refine va ?_
 refine qk [2] ?_
 refine x_te (pt ?_)
 have S8 : St _ _ _ [_] := S5.dels [1]; clear S5
 have S9 := S8.sealAll 0 rfl; clear S8
 change St _ _ _ [.rdo 10 A2 (0 + l.length) ((l).flatMap Rcd.cells)] at S9
 rw [Nat.zero_add] at S9
 exact ⟨A2, c3, by rw [Nat.zero_add]; rfl, S9⟩

theorem St.heads {B : Nat} {w0 w : World} {fs : List Fact} (S : St B w0 w fs) (n : Nat) : St B w0 w (fs.take n) := St.pull id S (fun i f h => by rw [List.getElem?_take] at h; split at h; exact h; cases h) (fun i j hij _ _ => hij)
set_option maxRecDepth 100000 in
instance : IntRec Rcd where
  size := 10
  ints x := [x.kind, x.queue, x.epoch, x.peer, x.ev.kind, x.ev.producer, x.ev.id, x.ev.body, x.ev.hepoch, x.ev.hno]
  of l := ⟨l.getD 0 0, l.getD 1 0, l.getD 2 0, l.getD 3 0, ⟨l.getD 4 0, l.getD 5 0, l.getD 6 0, l.getD 7 0, l.getD 8 0, l.getD 9 0⟩⟩
  pos := by omega
  len _ := rfl
  inv xs h := by
    obtain ⟨a1, xs, rfl⟩ := List.exists_cons_of_length_eq_add_one h
    obtain ⟨a2, xs, rfl⟩ := List.exists_cons_of_length_eq_add_one (Nat.succ.inj h)
    have h := Nat.succ.inj (Nat.succ.inj h)
    obtain ⟨a3, xs, rfl⟩ := List.exists_cons_of_length_eq_add_one h
    obtain ⟨a4, xs, rfl⟩ := List.exists_cons_of_length_eq_add_one (Nat.succ.inj h)
    have h := Nat.succ.inj (Nat.succ.inj h)
    obtain ⟨a5, xs, rfl⟩ := List.exists_cons_of_length_eq_add_one h
    obtain ⟨a6, xs, rfl⟩ := List.exists_cons_of_length_eq_add_one (Nat.succ.inj h)
    have h := Nat.succ.inj (Nat.succ.inj h)
    obtain ⟨a7, xs, rfl⟩ := List.exists_cons_of_length_eq_add_one h
    obtain ⟨a8, xs, rfl⟩ := List.exists_cons_of_length_eq_add_one (Nat.succ.inj h)
    have h := Nat.succ.inj (Nat.succ.inj h)
    obtain ⟨a9, xs, rfl⟩ := List.exists_cons_of_length_eq_add_one h
    obtain ⟨a10, xs, rfl⟩ := List.exists_cons_of_length_eq_add_one (Nat.succ.inj h)
    have h := Nat.succ.inj (Nat.succ.inj h)
    obtain rfl := List.eq_nil_of_length_eq_zero h
    rfl
set_option maxRecDepth 100000 in
theorem flat_rcds : flat Try.prog 30 86 = some [.sl 80 (List.replicate 10 (.int .i64))] := by kernel_rfl
set_option maxRecDepth 100000 in
theorem arg_records {W : World} {v : Value} (h : ArgOk Try.prog W v 86) : ∃ A c, ∃ l : List Rcd, v = .slice A l.length c ∧ Rd W W.heap.size 10 A l.length (l.flatMap Rcd.cells) ∧ l.length ≤ c ∧ c * 80 ≤ reachBytes := by
  obtain ⟨⟨base, hk⟩, l, hl, ha⟩ := h
  rw [flat_rcds] at hl
  cases hl
  obtain ⟨A, n, c, rfl⟩ := okWide_slice Try.underlying86 hk
  obtain ⟨a, l1, e, h1, _⟩ := All2.cons_ ha
  simp [Value.cells] at e
  obtain ⟨rfl, _⟩ := e
  obtain ⟨A', n', c', l, e, hr, hn, hc, hb, h0⟩ := open_recs (α := Rcd) h1
  simp only [Value.slice.injEq] at e
  obtain ⟨rfl, rfl, rfl⟩ := e
  have hlen : l.length = n := Rd.rec_len (α := Rcd) hr
  subst hlen
  exact ⟨A, c, l, rfl, hr, hn, hb⟩

set_option maxRecDepth 100000 in
set_option maxHeartbeats 4000000 in
theorem rebuildAlls_calls (A : Option Addr) (c : Nat) (l : List Rcd) (w : World) (h : Rd w w.heap.size 10 A l.length (l.flatMap Rcd.cells)) (hb : l.length * 80 ≤ reachBytes) :
    Calls Try.prog 29 #[.slice A l.length c] w (fun e w' => e = .returned (.bool true) ∧ Below w.heap.size w w') := by
 have S := (St.start w).addRd h; clear h
 have hb2 := hb
 unfold reachBytes at hb2
 have HA := fun A c w h => All_calls A c l w h hb
 have HB := fun A c w h => Rebuilt_calls A c l w h hb
 have hTl : ∀ T, (allM l).1 = some T → ∀ b ∈ T, b.evs.length ≤ l.length := fun T e b hb => by have := all_len l 0 [zeroB, zeroB, zeroB, zeroB] 0 (by intro b hb; simp at hb; subst hb; exact Nat.le_refl _) T e b hb; omega
 generalize allM l = R at HA HB hTl
 refine fnw 42 Try.func29 ?_
 refine cw [0] ?_
 refine x_sr (va ?_)
 refine wL_nil (wQ_then (wC_seq (wC_region (vm ?_))))
 refine cal en100 (records_calls A c l _ (St.rd 0 S rfl) hb) ?_
 rintro _ w3 ⟨A1, c2, rfl, T5⟩
 refine ⟨_, rfl, ?_⟩
 have S4 := S.ext T5 rfl; clear T5 S
 change St _ _ _ [.rdo 10 A1 l.length ((l).flatMap Rcd.cells), _] at S4
 refine va ?_
 refine qk [0, 2, 3] ?_
 refine x_tsr (vm ?_)
 rcases hM : R.1 with _ | T
 ·refine cab en101 S4 ((HA A1 c2 _ (St.rdo 0 S4 rfl)).mono fun _ _ h => h.1 hM) ?_; intro w6 S7; clear S4
  refine vm ?_
  refine vv yx ?_
  refine vv yx ?_
  refine vv yx ?_
  iterate 3 refine va ?_
  refine qk [0, 2, 3, 4, 5, 6] ?_
  refine x_tsr (vm ?_)
  refine cab en102 S7 ((HB A c _ (St.rd 1 S7 rfl)).mono fun _ _ h => h.1 hM) ?_; intro w9 S10; clear S7
  refine vm ?_
  refine vv yx ?_
  refine vv yx ?_
  refine vv yx ?_
  iterate 3 refine va ?_
  refine qk [0, 2, 3, 4, 5, 6, 7, 8, 9] ?_
  refine x_tsr (vm ?_)
  refine vm ?_
  refine vv (yeqlT rfl) ?_
  refine vm ?_
  refine vg ym ?_
  refine vg ym ?_
  refine vg (yeqlT rfl) ?_
  refine vv ypT ?_
  refine vm ?_
  refine vg ym ?_
  refine vg ym ?_
  refine calg en103 (sameNone_calls _) ?_
  rintro _ w12 ⟨rfl, hb14⟩
  refine ⟨_, rfl, ?_⟩
  have S13 := S10.on hb14; clear hb14 S10
  refine vv ypT ?_
  refine vm ?_
  refine vg ym ?_
  refine vg ym ?_
  refine calg en63 (sameRecs_calls A1 A c2 c l _ (St.rdo 0 S13 rfl) (St.rd 1 S13 rfl) (by omega)) ?_
  rintro _ w15 ⟨rfl, hb17⟩
  refine ⟨_, rfl, ?_⟩
  have S16 := S13.on hb17; clear hb17 S13
  refine vv ypT ?_
  refine va ?_
  refine qk [2] ?_
  refine x_te (pt ?_)
  exact ⟨rfl, S16.low⟩
 ·refine cal en101 ((HA A1 c2 _ (St.rdo 0 S4 rfl)).mono fun _ _ h => h.2 T hM) ?_
  rintro _ w18 ⟨A21, c22, bs, hma, hla, rfl, T20⟩
  refine ⟨_, rfl, ?_⟩
  have hebs := fun (k : Nat) (y : BX) (h : bs[k]? = some y) => rdo_ev (pre := [_]) T20 h
  have S19 := S4.ext (T20.heads 1) rfl; clear S4; clear T20
  change St _ _ _ [.rdo 6 A21 4 ((bs).flatMap BX.cells), _, _] at S19
  refine vm ?_
  refine vv yx ?_
  refine vv yx ?_
  refine vv yx ?_
  iterate 3 refine va ?_
  refine qk [0, 2, 3, 4, 5, 6] ?_
  refine x_tsr (vm ?_)
  refine cal en102 ((HB A c _ (St.rd 2 S19 rfl)).mono fun _ _ h => h.2 T hM) ?_
  rintro _ w23 ⟨A26, c27, bs', hmb, hlb, rfl, T25⟩
  refine ⟨_, rfl, ?_⟩
  have hebs2 := fun (k : Nat) (y : BX) (h : bs'[k]? = some y) => rdo_ev (pre := [_]) T25 h
  have hbel := T25.low
  have S24 := S19.ext (T25.heads 1) rfl; clear S19; clear T25
  change St _ _ _ [.rdo 6 A26 4 ((bs').flatMap BX.cells), _, _, _] at S24
  refine vm ?_
  refine vv yx ?_
  refine vv yx ?_
  refine vv yx ?_
  iterate 3 refine va ?_
  refine qk [0, 2, 3, 4, 5, 6, 7, 8, 9] ?_
  refine wQ_then (wC_seq ?_)
  have HE := fun (k : Nat) (y : BX) (h : bs[k]? = some y) => (hebs k y h).on hbel
  have HE2 := hebs2
  refine wC_region (vm ?_)
  refine vm ?_
  refine vv (yeqlT rfl) ?_
  refine vm ?_
  refine vg ym ?_
  refine vg ym ?_
  refine vg (yeqlT rfl) ?_
  refine vv ypT ?_
  refine vm ?_
  refine vg ym ?_
  refine vg ym ?_
  refine calg en103 (sameBerths_calls A21 A26 c22 c27 bs bs' _ (St.rdo 1 S24 rfl) (St.rdo 0 S24 rfl) hla hlb HE HE2 (hma.trans hmb.symm) (fun y hy => Nat.le_trans (hTl T hM y.b (by rw [← hma]; exact List.mem_map_of_mem hy)) (by omega))) ?_
  rintro _ w28 ⟨rfl, hb30⟩
  refine ⟨_, rfl, ?_⟩
  have S29 := S24.on hb30; clear hb30 S24
  refine vv ypT ?_
  refine vm ?_
  refine vg ym ?_
  refine vg ym ?_
  refine calg en63 (sameRecs_calls A1 A c2 c l _ (St.rdo 2 S29 rfl) (St.rd 3 S29 rfl) (by omega)) ?_
  rintro _ w31 ⟨rfl, hb33⟩
  refine ⟨_, rfl, ?_⟩
  have S32 := S29.on hb33; clear hb33 S29
  refine vv ypT ?_
  refine va ?_
  refine qk [2] ?_
  refine x_te (pt ?_)
  exact ⟨rfl, S32.low⟩

set_option maxRecDepth 100000 in
theorem rebuildAlls_walk (W : World) (args : Array Value) (h : All2 (ArgOk Try.prog W) args.toList Try.f29.params.toList) :
    Calls Try.prog 29 args W fun e W' => e = .returned (.bool true) ∧ Below W.heap.size W W' := by
  rw [Try.params29] at h
  obtain ⟨v, l1, hv, h1, h0⟩ := All2.cons_ h
  have h4 := All2.nil_ h0
  subst h4
  obtain rfl : args = #[v] := by cases args; simp_all
  obtain ⟨A, c, l, rfl, hr, hn, hb⟩ := arg_records h1
  exact rebuildAlls_calls A c l W hr (by omega)
end Go.Proofs.Ytkjlafpafmihaaa

