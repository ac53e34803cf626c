/- Contract: tape.Repair. (The steps are printed by a program of mine: wip/px.) -/
import Derived.Test.YtkjlafpafmihaaaTRead
namespace Go.Proofs.Ytkjlafpafmihaaa
open Go.ChangeShapes Go.WideShapes Go.RowKit

theorem openM_t {l : List UInt8} {s : Int} (h : tapeMay l s = true) : openM l s = (l, s, true) := by
  rcases openM_eq l s with ⟨h1, _⟩ | ⟨_, h1⟩
  · exact h1
  · rw [h] at h1; cases h1
theorem rdo_nil {B : Nat} {w0 w : World} {fs : List Fact} {s : Nat} (S : St B w0 w fs) : St B w0 w (.rdo s none 0 [] :: fs) := S.cons ⟨Rd.none_, fun a h => by cases h⟩ fun k hk => by cases hk
def repM (l : List UInt8) (s : Int) : List UInt8 × Int × Int := if tapeMay l s = true then (l.take (readsM l).2, min s (readsM l).2, 0) else ([], 0, 6)
def RepPost (w : World) (r : List UInt8 × Int × Int) (e : Ending) (w' : World) : Prop :=
  ∃ A c, e = .returned (.tuple #[.agg #[.slice A r.1.length c, .int .i64 r.2.1], .int .i64 r.2.2]) ∧ St w.heap.size w w' [.rdo 1 A r.1.length (byteCells r.1)]

set_option maxRecDepth 100000 in
set_option maxHeartbeats 2000000 in
theorem Repair_calls (A : Option Addr) (c : Nat) (l : List UInt8) (s : Int) (w : World) (h : Rd w w.heap.size 1 A l.length (byteCells l)) :
    Calls Try.prog 64 #[.agg #[.slice A l.length c, .int .i64 s]] w (RepPost w (repM l s)) := by
  have S := (St.start w).addRd h
  clear h
  refine calls_of_wC (N := 34) (vs := [.agg #[.slice A l.length c, .int .i64 s]]) Try.func64 rfl rfl rfl ?_
  refine wC_sub (l' := [(0, .agg #[.slice A l.length c, .int .i64 s])]) ⟨rfl, trivial⟩ ?_
  refine wC_seq ?_
  refine wC_region ?_
  refine wL_new (V := fun b => .pointer (some ⟨b, 0, none⟩)) (row := #[.slice A l.length c, .int .i64 s]) (t := 80) S (wn rfl) rfl rfl (d_box rfl rfl rfl) ?_
  intro b1 w2 S3
  clear S
  refine wL_new (V := fun b => .pointer (some ⟨b, 0, none⟩)) (row := #[.slice none 0 0, .int .i64 0]) (t := 80) S3 (wn rfl) rfl rfl (d_alloc rfl (Try.zeroValue80 _) rfl) ?_
  intro b4 w5 S6
  clear S3
  refine wL_val (v := .int .i64 0) (wn rfl) rfl rfl (y_assign rfl rfl) ?_
  refine wL_nil ?_
  refine wQ_then ?_
  refine wC_seq ?_
  refine wC_region ?_
  refine wL_val (v := .agg #[.slice A l.length c, .int .i64 s]) (wn rfl) rfl rfl (y_load rfl rfl (r_load_row 1 S6 rfl Try.underlying80 rfl inf80 rfl)) ?_
  have hle := readsM_le (l.length + 1) l
  rw [← show readsM l = readsN (l.length + 1) l from rfl] at hle
  cases hm : tapeMay l s
  · have HR := fun w h => Read_calls A c l s w h
    rw [show readM l s = ([], 0, 6) from if_neg (by rw [hm]; simp)] at HR
    refine wL_call (vs := [.agg #[.slice A l.length c, .int .i64 s]]) (wn rfl) rfl rfl (e_call (vs := [.agg #[.slice A l.length c, .int .i64 s]]) rfl en61 ⟨rfl, trivial⟩) (HR _ (St.rd 2 S6 rfl)) ?_
    rintro _ w9 ⟨A7, c8, rfl, T11⟩
    refine ⟨_, rfl, ?_⟩
    have S10 := S6.ext T11 rfl
    clear T11 S6
    change St _ _ _ [.own 51 10 (.slice A7 (([] : List Rcd).length) c8) (([] : List Rcd).length) ((([] : List Rcd)).flatMap Rcd.cells), .blk b4 #[.slice none 0 0, .int .i64 0] 80, .blk b1 #[.slice A l.length c, .int .i64 s] 80, .rd 1 A l.length (byteCells l)] at S10
    refine wL_val (v := .tuple #[.slice A7 (([] : List Rcd).length) c8, .int .i64 ((0 : Nat) : Int), .int .i64 6]) (wn rfl) rfl rfl (y_move rfl rfl) ?_
    refine wL_val (v := .slice A7 (([] : List Rcd).length) c8) (wn rfl) rfl rfl (y_extract rfl rfl rfl) ?_
    refine wL_val (v := .int .i64 ((0 : Nat) : Int)) (wn rfl) rfl rfl (y_extract rfl rfl rfl) ?_
    refine wL_val (v := .int .i64 6) (wn rfl) rfl rfl (y_extract rfl rfl rfl) ?_
    refine wL_val (v := .slice A7 (([] : List Rcd).length) c8) (wn rfl) rfl rfl (y_assign rfl rfl) ?_
    refine wL_val (v := .int .i64 ((0 : Nat) : Int)) (wn rfl) rfl rfl (y_assign rfl rfl) ?_
    refine wL_val (v := .int .i64 6) (wn rfl) rfl rfl (y_assign rfl rfl) ?_
    refine wL_nil ?_
    refine wQ_sub (l' := [(0, .agg #[.slice A l.length c, .int .i64 s]), (1, .pointer (some ⟨b1, 0, none⟩)), (2, .pointer (some ⟨b4, 0, none⟩)), (3, .int .i64 0), (5, .int .i64 ((0 : Nat) : Int)), (6, .int .i64 6)]) ⟨rfl, rfl, rfl, rfl, rfl, rfl, trivial⟩ ?_
    refine wQ_then ?_
    refine wC_seq ?_
    refine wC_seq ?_
    refine wC_region ?_
    refine wL_val (v := .int .i64 6) (wn rfl) rfl rfl (y_move rfl rfl) ?_
    refine wL_val (v := .bool true) (wn rfl) rfl rfl (y_binop rfl rfl rfl (r_neq_t (by decide))) ?_
    refine wL_nil ?_
    refine wQ_sub (l' := [(0, .agg #[.slice A l.length c, .int .i64 s]), (1, .pointer (some ⟨b1, 0, none⟩)), (2, .pointer (some ⟨b4, 0, none⟩)), (3, .int .i64 0), (5, .int .i64 ((0 : Nat) : Int)), (6, .int .i64 6), (16, .bool true)]) ⟨rfl, rfl, rfl, rfl, rfl, rfl, rfl, trivial⟩ ?_
    refine wQ_then ?_
    refine wC_cond_t rfl ?_
    refine wC_seq ?_
    refine wC_region ?_
    refine wL_val (v := .agg #[.slice none 0 0, .int .i64 0]) (wn rfl) rfl rfl (y_build (vs := []) rfl trivial (by kernel_rfl)) ?_
    refine wL_val (v := .int .i64 6) (wn rfl) rfl rfl (y_move rfl rfl) ?_
    refine wL_st (cs := #[.slice none 0 0, .int .i64 0]) (row' := #[.slice none 0 0, .int .i64 0]) (fs' := [.own 51 10 (.slice A7 (([] : List Rcd).length) c8) (([] : List Rcd).length) ((([] : List Rcd)).flatMap Rcd.cells), .blk b4 #[.slice none 0 0, .int .i64 0] 80, .blk b1 #[.slice A l.length c, .int .i64 s] 80, .rd 1 A l.length (byteCells l) ]) 1 S10 (wn rfl) rfl rfl rfl rfl rfl rfl inf80 rfl (oneAll rfl) (Nat.le_of_ble_eq_true rfl) (setAll_all rfl) rfl ?_
    intro w12 S13
    clear S10
    refine wL_val (v := .int .i64 6) (wn rfl) rfl rfl (y_assign rfl rfl) ?_
    refine wL_nil ?_
    refine wQ_sub (l' := [(0, .agg #[.slice A l.length c, .int .i64 s]), (1, .pointer (some ⟨b1, 0, none⟩)), (2, .pointer (some ⟨b4, 0, none⟩)), (3, .int .i64 6), (5, .int .i64 ((0 : Nat) : Int)), (6, .int .i64 6), (16, .bool true)]) ⟨rfl, rfl, rfl, rfl, rfl, rfl, rfl, trivial⟩ ?_
    refine wQ_then ?_
    refine wC_ret ?_
    refine wQ_then_ret ?_
    refine wQ_post (rs := [.cell 2 80, .tmp 3]) (vs := [.agg #[.slice none 0 0, .int .i64 0], .int .i64 6]) rfl ⟨⟨_, rfl, res_row 1 S13 rfl Try.underlying80 rfl inf80⟩, rfl, trivial⟩ ?_
    have S14 : St w.heap.size w w12 [] := (St.del 0 (St.del 1 (St.del 2 (St.del 3 S13))))
    clear S13
    rw [show repM l s = ([], 0, 6) from if_neg (by rw [hm]; simp)]
    exact ⟨none, 0, rfl, rdo_nil S14⟩
  · have HR := fun w h => Read_calls A c l s w h
    rw [show readM l s = ((readsM l).1, (readsM l).2, 0) from if_pos hm] at HR
    have hlen : l.length ≤ 100000 := (tapeMay_of hm).1
    refine wL_call (vs := [.agg #[.slice A l.length c, .int .i64 s]]) (wn rfl) rfl rfl (e_call (vs := [.agg #[.slice A l.length c, .int .i64 s]]) rfl en61 ⟨rfl, trivial⟩) (HR _ (St.rd 2 S6 rfl)) ?_
    rintro _ w17 ⟨A15, c16, rfl, T19⟩
    refine ⟨_, rfl, ?_⟩
    have S18 := S6.ext T19 rfl
    clear T19 S6
    change St _ _ _ [.own 51 10 (.slice A15 ((readsM l).1.length) c16) ((readsM l).1.length) (((readsM l).1).flatMap Rcd.cells), .blk b4 #[.slice none 0 0, .int .i64 0] 80, .blk b1 #[.slice A l.length c, .int .i64 s] 80, .rd 1 A l.length (byteCells l)] at S18
    refine wL_val (v := .tuple #[.slice A15 ((readsM l).1.length) c16, .int .i64 (((readsM l).2 : Nat) : Int), .int .i64 0]) (wn rfl) rfl rfl (y_move rfl rfl) ?_
    refine wL_val (v := .slice A15 ((readsM l).1.length) c16) (wn rfl) rfl rfl (y_extract rfl rfl rfl) ?_
    refine wL_val (v := .int .i64 (((readsM l).2 : Nat) : Int)) (wn rfl) rfl rfl (y_extract rfl rfl rfl) ?_
    refine wL_val (v := .int .i64 0) (wn rfl) rfl rfl (y_extract rfl rfl rfl) ?_
    refine wL_val (v := .slice A15 ((readsM l).1.length) c16) (wn rfl) rfl rfl (y_assign rfl rfl) ?_
    refine wL_val (v := .int .i64 (((readsM l).2 : Nat) : Int)) (wn rfl) rfl rfl (y_assign rfl rfl) ?_
    refine wL_val (v := .int .i64 0) (wn rfl) rfl rfl (y_assign rfl rfl) ?_
    refine wL_nil ?_
    refine wQ_sub (l' := [(0, .agg #[.slice A l.length c, .int .i64 s]), (1, .pointer (some ⟨b1, 0, none⟩)), (2, .pointer (some ⟨b4, 0, none⟩)), (3, .int .i64 0), (5, .int .i64 (((readsM l).2 : Nat) : Int)), (6, .int .i64 0)]) ⟨rfl, rfl, rfl, rfl, rfl, rfl, trivial⟩ ?_
    refine wQ_then ?_
    refine wC_seq ?_
    refine wC_seq ?_
    refine wC_region ?_
    refine wL_val (v := .int .i64 0) (wn rfl) rfl rfl (y_move rfl rfl) ?_
    refine wL_val (v := .bool false) (wn rfl) rfl rfl (y_binop rfl rfl rfl (r_neq_f (by decide))) ?_
    refine wL_nil ?_
    refine wQ_sub (l' := [(0, .agg #[.slice A l.length c, .int .i64 s]), (1, .pointer (some ⟨b1, 0, none⟩)), (2, .pointer (some ⟨b4, 0, none⟩)), (3, .int .i64 0), (5, .int .i64 (((readsM l).2 : Nat) : Int)), (6, .int .i64 0), (16, .bool false)]) ⟨rfl, rfl, rfl, rfl, rfl, rfl, rfl, trivial⟩ ?_
    refine wQ_then ?_
    refine wC_cond_f rfl ?_
    refine wC_skip ?_
    refine wQ_then ?_
    refine wC_seq ?_
    refine wC_region ?_
    refine wL_val (v := .agg #[.slice A l.length c, .int .i64 s]) (wn rfl) rfl rfl (y_load rfl rfl (r_load_row 2 S18 rfl Try.underlying80 rfl inf80 rfl)) ?_
    have HO := fun w h => open_calls A l.length c l s w h
    rw [openM_t hm] at HO
    refine wL_call (vs := [.agg #[.slice A l.length c, .int .i64 s]]) (wn rfl) rfl rfl (e_call (vs := [.agg #[.slice A l.length c, .int .i64 s]]) rfl en136 ⟨rfl, trivial⟩) (HO _ (St.rd 3 S18 rfl)) ?_
    rintro _ w24 ⟨A20, c21, rfl, hb22, hO23⟩
    refine ⟨_, rfl, ?_⟩
    have S25 := S18.onOwn hb22 hO23
    clear HO hb22 hO23 S18
    change St _ _ _ [.own 5 1 (.slice A20 l.length c21) l.length (byteCells l), .own 51 10 (.slice A15 ((readsM l).1.length) c16) ((readsM l).1.length) (((readsM l).1).flatMap Rcd.cells), .blk b4 #[.slice none 0 0, .int .i64 0] 80, .blk b1 #[.slice A l.length c, .int .i64 s] 80, .rd 1 A l.length (byteCells l)] at S25
    have hcap := own_caps (S25.own 0 rfl)
    unfold maxLen at hcap
    refine wL_val (v := .tuple #[.agg #[.slice A20 l.length c21, .int .i64 s], .bool true]) (wn rfl) rfl rfl (y_move rfl rfl) ?_
    refine wL_val (v := .agg #[.slice A20 l.length c21, .int .i64 s]) (wn rfl) rfl rfl (y_extract rfl rfl rfl) ?_
    refine wL_val (v := .bool true) (wn rfl) rfl rfl (y_extract rfl rfl rfl) ?_
    refine wL_new (V := fun b => .pointer (some ⟨b, 0, none⟩)) (row := #[.slice none 0 0, .int .i64 0]) (t := 80) S25 (wn rfl) rfl rfl (d_alloc rfl (Try.zeroValue80 _) rfl) ?_
    intro b26 w27 S28
    clear S25
    refine wL_st (cs := #[.slice A20 l.length c21, .int .i64 s]) (row' := #[.slice A20 l.length c21, .int .i64 s]) (fs' := [.blk b26 #[.slice A20 l.length c21, .int .i64 s] 80, .own 5 1 (.slice A20 l.length c21) l.length (byteCells l), .own 51 10 (.slice A15 ((readsM l).1.length) c16) ((readsM l).1.length) (((readsM l).1).flatMap Rcd.cells), .blk b4 #[.slice none 0 0, .int .i64 0] 80, .blk b1 #[.slice A l.length c, .int .i64 s] 80, .rd 1 A l.length (byteCells l) ]) 0 S28 (wn rfl) rfl rfl rfl rfl rfl rfl inf80 rfl (oneAll rfl) (Nat.le_of_ble_eq_true rfl) (setAll_all rfl) rfl ?_
    intro w29 S30
    clear S28
    refine wL_val (v := .bool true) (wn rfl) rfl rfl (y_assign rfl rfl) ?_
    refine wL_nil ?_
    refine wQ_sub (l' := [(0, .agg #[.slice A l.length c, .int .i64 s]), (1, .pointer (some ⟨b1, 0, none⟩)), (2, .pointer (some ⟨b4, 0, none⟩)), (3, .int .i64 0), (5, .int .i64 (((readsM l).2 : Nat) : Int)), (6, .int .i64 0), (16, .bool false), (7, .pointer (some ⟨b26, 0, none⟩))]) ⟨rfl, rfl, rfl, rfl, rfl, rfl, rfl, rfl, trivial⟩ ?_
    refine wQ_then ?_
    refine wC_seq ?_
    have S31 := S30.drew
    clear S30
    refine wC_head (C := fun w' => St w.heap.size w w' [.blk b26 #[.slice A20 l.length c21, .int .i64 s] 80, .own 5 1 (.slice A20 l.length c21) l.length (byteCells l), .own 51 10 (.slice A15 ((readsM l).1.length) c16) ((readsM l).1.length) (((readsM l).1).flatMap Rcd.cells), .blk b4 #[.slice none 0 0, .int .i64 0] 80, .blk b1 #[.slice A l.length c, .int .i64 s] 80, .rd 1 A l.length (byteCells l)]) (m := 12) (listed := #[false, false, false, false, false, false, false, false, false, false, false, false]) 10 mixed rfl rfl ?_
    refine wG_take (v := .pointer (some ⟨b26, 0, none⟩)) (i := 0) (m := 11) (listed' := #[true, false, false, false, false, false, false, false, false, false, false, false]) rfl (by kernel_rfl) (by kernel_rfl) (by kernel_rfl) rfl (by kernel_rfl) rfl S31 rfl (wn rfl) rfl rfl (fun _ _ => (y_fieldAddr rfl rfl (fa80_0 _ _ _))) ?_
    refine wG_take (v := .slice A20 l.length c21) (i := 1) (m := 10) (listed' := #[true, true, false, false, false, false, false, false, false, false, false, false]) rfl (by kernel_rfl) (by kernel_rfl) (by kernel_rfl) rfl (by kernel_rfl) rfl S31 rfl (wn rfl) rfl rfl (fun _ Sx33 => (y_load rfl rfl (r_load Try.underlying52 rfl (St.cl 0 Sx33 rfl rfl)))) ?_
    refine wG_take (v := .int .i64 (((readsM l).2 : Nat) : Int)) (i := 2) (m := 9) (listed' := #[true, true, true, false, false, false, false, false, false, false, false, false]) rfl (by kernel_rfl) (by kernel_rfl) (by kernel_rfl) rfl (by kernel_rfl) rfl S31 rfl (wn rfl) rfl rfl (fun _ _ => (y_move rfl rfl)) ?_
    refine wG_take (v := .int .i64 (((readsM l).2 : Nat) : Int)) (i := 3) (m := 8) (listed' := #[true, true, true, true, false, false, false, false, false, false, false, false]) rfl (by kernel_rfl) (by kernel_rfl) (by kernel_rfl) rfl (by kernel_rfl) rfl S31 rfl (wn rfl) rfl rfl (fun _ _ => (y_move rfl rfl)) ?_
    obtain ⟨A36, hr37, hR38, hA39⟩ := bslicew (b := l) (A := A20) (c := c21) (lo := none) (hi := some (.int .i64 (((readsM l).2 : Nat) : Int))) (mx := some (.int .i64 (((readsM l).2 : Nat) : Int))) (l := 0) (k := (readsM l).2) (q := (readsM l).2) (m := (readsM l).2) (c' := (readsM l).2) Try.underlying52 inf5 (sb_hm ((readsM l).2) ((readsM l).2) rfl rfl (Nat.le_refl _) (by omega)) (by omega) (by omega) (by omega) rfl rfl
    refine wG_take (v := .slice A36 ((readsM l).2) ((readsM l).2)) (i := 4) (m := 7) (listed' := #[true, true, true, true, true, false, false, false, false, false, false, false]) rfl (by kernel_rfl) (by kernel_rfl) (by kernel_rfl) rfl (by kernel_rfl) rfl S31 rfl (wn rfl) rfl rfl (fun _ _ => (y_slice rfl rfl evo_n (evo_s rfl) (evo_s rfl) (hr37 _))) ?_
    refine wG_take (v := .pointer (some ⟨b26, 1, none⟩)) (i := 5) (m := 6) (listed' := #[true, true, true, true, true, true, false, false, false, false, false, false]) rfl (by kernel_rfl) (by kernel_rfl) (by kernel_rfl) rfl (by kernel_rfl) rfl S31 rfl (wn rfl) rfl rfl (fun _ _ => (y_fieldAddr rfl rfl (fa80_1 _ _ _))) ?_
    refine wG_take (v := .int .i64 s) (i := 6) (m := 5) (listed' := #[true, true, true, true, true, true, true, false, false, false, false, false]) rfl (by kernel_rfl) (by kernel_rfl) (by kernel_rfl) rfl (by kernel_rfl) rfl S31 rfl (wn rfl) rfl rfl (fun _ Sx42 => (y_load rfl rfl (r_load Try.underlying3 rfl (St.cl 0 Sx42 rfl rfl)))) ?_
    refine wG_take (v := .int .i64 (((readsM l).2 : Nat) : Int)) (i := 7) (m := 4) (listed' := #[true, true, true, true, true, true, true, true, false, false, false, false]) rfl (by kernel_rfl) (by kernel_rfl) (by kernel_rfl) rfl (by kernel_rfl) rfl S31 rfl (wn rfl) rfl rfl (fun _ _ => (y_move rfl rfl)) ?_
    refine wG_take (v := .int .i64 (min s ((((readsM l).2 : Nat) : Int)))) (i := 8) (m := 3) (listed' := #[true, true, true, true, true, true, true, true, true, false, false, false]) rfl (by kernel_rfl) (by kernel_rfl) (by kernel_rfl) rfl (by kernel_rfl) rfl S31 rfl (wn rfl) rfl rfl (fun _ _ => (y_builtin (vs := [.int .i64 s, .int .i64 (((readsM l).2 : Nat) : Int)]) rfl ⟨rfl, rfl, trivial⟩ fun _ => r_min)) ?_
    refine wG_take (v := .agg #[.slice A36 ((readsM l).2) ((readsM l).2), .int .i64 (min s ((((readsM l).2 : Nat) : Int)))]) (i := 9) (m := 2) (listed' := #[true, true, true, true, true, true, true, true, true, true, false, false]) rfl (by kernel_rfl) (by kernel_rfl) (by kernel_rfl) rfl (by kernel_rfl) rfl S31 rfl (wn rfl) rfl rfl (fun _ _ => (y_build (vs := [(0, .slice A36 ((readsM l).2) ((readsM l).2)), (1, .int .i64 (min s ((((readsM l).2 : Nat) : Int))))]) rfl ⟨rfl, rfl, rfl, rfl, trivial⟩ (by kernel_rfl))) ?_
    refine wG_tail (by kernel_rfl) rfl rfl rfl ?_
    refine wL_st (cs := #[.slice A36 ((readsM l).2) ((readsM l).2), .int .i64 (min s ((((readsM l).2 : Nat) : Int)))]) (row' := #[.slice A36 ((readsM l).2) ((readsM l).2), .int .i64 (min s ((((readsM l).2 : Nat) : Int)))]) (fs' := [.blk b26 #[.slice A20 l.length c21, .int .i64 s] 80, .own 5 1 (.slice A20 l.length c21) l.length (byteCells l), .own 51 10 (.slice A15 ((readsM l).1.length) c16) ((readsM l).1.length) (((readsM l).1).flatMap Rcd.cells), .blk b4 #[.slice A36 ((readsM l).2) ((readsM l).2), .int .i64 (min s ((((readsM l).2 : Nat) : Int)))] 80, .blk b1 #[.slice A l.length c, .int .i64 s] 80, .rd 1 A l.length (byteCells l) ]) 3 S31 (wn rfl) rfl rfl rfl rfl rfl rfl inf80 rfl (oneAll rfl) (Nat.le_of_ble_eq_true rfl) (setAll_all rfl) rfl ?_
    intro w46 S47
    clear S31
    refine wL_val (v := .int .i64 0) (wn rfl) rfl rfl (y_assign rfl rfl) ?_
    refine wL_nil (wQ_np ?_)
    refine wQ_sub (l' := [(0, .agg #[.slice A l.length c, .int .i64 s]), (1, .pointer (some ⟨b1, 0, none⟩)), (2, .pointer (some ⟨b4, 0, none⟩)), (3, .int .i64 0), (5, .int .i64 (((readsM l).2 : Nat) : Int)), (6, .int .i64 0), (16, .bool false), (7, .pointer (some ⟨b26, 0, none⟩))]) ⟨rfl, rfl, rfl, rfl, rfl, rfl, rfl, rfl, trivial⟩ ?_
    refine wQ_then ?_
    refine wC_ret ?_
    refine wQ_post (rs := [.cell 2 80, .tmp 3]) (vs := [.agg #[.slice A36 ((readsM l).2) ((readsM l).2), .int .i64 (min s ((((readsM l).2 : Nat) : Int)))], .int .i64 0]) rfl ⟨⟨_, rfl, res_row 3 S47 rfl Try.underlying80 rfl inf80⟩, rfl, trivial⟩ ?_
    have S48 := S47.seal 1 rfl (hR38 _ _ (St.ord 1 S47 rfl)) (fun a h => hA39 a h)
    clear S47
    change St _ _ _ [.blk b26 #[.slice A20 l.length c21, .int .i64 s] 80, .rdo 1 A36 ((readsM l).2) (byteCells (l.take ((readsM l).2))), .own 51 10 (.slice A15 ((readsM l).1.length) c16) ((readsM l).1.length) (((readsM l).1).flatMap Rcd.cells), .blk b4 #[.slice A36 ((readsM l).2) ((readsM l).2), .int .i64 (min s ((((readsM l).2 : Nat) : Int)))] 80, .blk b1 #[.slice A l.length c, .int .i64 s] 80, .rd 1 A l.length (byteCells l)] at S48
    have S49 : St w.heap.size w w46 [.rdo 1 A36 ((readsM l).2) (byteCells (l.take ((readsM l).2)))] := (St.del 0 (St.del 2 (St.del 3 (St.del 4 (St.del 5 S48)))))
    clear S48
    have hlt : (l.take (readsM l).2).length = (readsM l).2 := by rw [List.length_take]; omega
    rw [show repM l s = (l.take (readsM l).2, min s (readsM l).2, 0) from if_pos hm]
    exact ⟨A36, (readsM l).2, by rw [hlt]; rfl, by rw [hlt]; exact S49⟩
end Go.Proofs.Ytkjlafpafmihaaa
