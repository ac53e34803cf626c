/- Contracts: sameRecords at like lists, ref.Repaired. (The steps are printed by a program of mine: wip/px.) -/
import Derived.Test.YtkjlafpafmihaaaTRefs
import Derived.Test.YtkjlafpafmihaaaTRepair
namespace Go.Proofs.Ytkjlafpafmihaaa
open Go.ChangeShapes Go.WideShapes Go.RowKit

theorem rcd_kd (a : Rcd) : All2 Kd [.int .i64 a.kind, .int .i64 a.queue, .int .i64 a.epoch, .int .i64 a.peer, .int .i64 a.ev.kind, .int .i64 a.ev.producer, .int .i64 a.ev.id, .int .i64 a.ev.body, .int .i64 a.ev.hepoch, .int .i64 a.ev.hno] rcdSh := ⟨⟨_, rfl⟩, ⟨_, rfl⟩, ⟨_, rfl⟩, ⟨_, rfl⟩, ⟨_, rfl⟩, ⟨_, rfl⟩, ⟨_, rfl⟩, ⟨_, rfl⟩, ⟨_, rfl⟩, ⟨_, rfl⟩, trivial⟩
theorem rcd_eqOk : eqOk Try.prog 30 51 = true := by kernel_rfl
theorem rcd_mkV (xs : List Value) : mkV Try.prog 51 xs = .agg xs.toArray := by
  unfold mkV
  rw [Try.underlying51]
theorem rcd_neq (r : Rcd) (w : World) : (binOp .neq 51 r.val r.val).run Try.prog w = .ok (.bool false) w := by
  have h := run_neq_cells (P := Try.prog) w flat_rcd rcd_eqOk rcd_mkV (rcd_kd r) (rcd_kd r)
  rw [show cellsEq [.int .i64 r.kind, .int .i64 r.queue, .int .i64 r.epoch, .int .i64 r.peer, .int .i64 r.ev.kind, .int .i64 r.ev.producer, .int .i64 r.ev.id, .int .i64 r.ev.body, .int .i64 r.ev.hepoch, .int .i64 r.ev.hno] [.int .i64 r.kind, .int .i64 r.queue, .int .i64 r.epoch, .int .i64 r.peer, .int .i64 r.ev.kind, .int .i64 r.ev.producer, .int .i64 r.ev.id, .int .i64 r.ev.body, .int .i64 r.ev.hepoch, .int .i64 r.ev.hno] = true by simp [cellsEq, cellEq]] at h
  exact h

set_option maxRecDepth 100000 in
set_option maxHeartbeats 2000000 in
theorem sameRecords_calls (A A' : Option Addr) (c c' : Nat) (rs : List Rcd) (w : World) (h : Rd w w.heap.size 10 A rs.length (rs.flatMap Rcd.cells)) (h' : Rd w w.heap.size 10 A' rs.length (rs.flatMap Rcd.cells)) (hl : rs.length ≤ 100000) :
    Calls Try.prog 63 #[.slice A rs.length c, .slice A' rs.length c'] w fun e w' => e = .returned (.bool true) ∧ Below w.heap.size w w' := by
  have S := ((St.start w).addRd h').addRd h
  refine calls_of_wC (N := 26) (vs := [.slice A rs.length c, .slice A' rs.length c']) Try.func63 rfl rfl rfl ?_
  refine wC_sub (l' := [(0, .slice A rs.length c), (1, .slice A' rs.length c')]) ⟨rfl, rfl, trivial⟩ ?_
  refine wC_seq ?_
  refine wC_region ?_
  refine wL_val (v := .bool false) (wn rfl) rfl rfl (y_assign rfl rfl) ?_
  refine wL_nil ?_
  refine wQ_then ?_
  refine wC_seq ?_
  refine wC_seq ?_
  refine wC_region ?_
  refine wL_val (v := .slice A rs.length c) (wn rfl) rfl rfl (y_move rfl rfl) ?_
  refine wL_val (v := .int .i64 ((rs.length : Nat) : Int)) (wn rfl) rfl rfl (y_builtin (vs := [.slice A rs.length c]) rfl ⟨rfl, trivial⟩ fun _ => r_len rfl Try.underlying86) ?_
  refine wL_val (v := .slice A' rs.length c') (wn rfl) rfl rfl (y_move rfl rfl) ?_
  refine wL_val (v := .int .i64 ((rs.length : Nat) : Int)) (wn rfl) rfl rfl (y_builtin (vs := [.slice A' rs.length c']) rfl ⟨rfl, trivial⟩ fun _ => r_len rfl Try.underlying86) ?_
  refine wL_val (v := .bool false) (wn rfl) rfl rfl (y_binop rfl rfl rfl (r_neq_f rfl)) ?_
  refine wL_nil ?_
  refine wQ_sub (l' := [(0, .slice A rs.length c), (1, .slice A' rs.length c'), (4, .bool false), (10, .bool false)]) ⟨rfl, rfl, rfl, rfl, trivial⟩ ?_
  refine wQ_then ?_
  refine wC_cond_f rfl ?_
  refine wC_skip ?_
  refine wQ_then ?_
  refine wC_seq ?_
  refine wC_seq ?_
  refine wC_region ?_
  refine wL_val (v := .int .i64 0) (wn rfl) rfl rfl (y_assign rfl rfl) ?_
  refine wL_nil ?_
  refine wQ_then ?_
  refine wC_block ?_
  refine wC_loop (X := Nat) (fun xv => [(0, .slice A rs.length c), (1, .slice A' rs.length c'), (4, .bool false), (10, .bool false), (5, .int .i64 ((xv : Nat) : Int))]) (fun xv wr => (xv ≤ rs.length) ∧ St w.heap.size w wr [.rd 10 A rs.length ((rs).flatMap Rcd.cells), .rd 10 A' rs.length ((rs).flatMap Rcd.cells)]) (fun xv => rs.length - xv) (0) ?_ ?_ ?_
  · exact ⟨Nat.zero_le _, S⟩
  · exact ⟨rfl, rfl, rfl, rfl, rfl, trivial⟩
  · rintro k w1 ⟨hi3, S2⟩
    try dsimp only at hi3 S2
    clear S
    refine wC_sub (l' := [(0, .slice A rs.length c), (1, .slice A' rs.length c'), (4, .bool false), (10, .bool false), (5, .int .i64 ((k : Nat) : Int))]) ⟨rfl, rfl, rfl, rfl, rfl, trivial⟩ ?_
    refine wC_seq ?_
    refine wC_seq ?_
    refine wC_region ?_
    refine wL_val (v := .int .i64 ((k : Nat) : Int)) (wn rfl) rfl rfl (y_move rfl rfl) ?_
    refine wL_val (v := .slice A rs.length c) (wn rfl) rfl rfl (y_move rfl rfl) ?_
    refine wL_val (v := .int .i64 ((rs.length : Nat) : Int)) (wn rfl) rfl rfl (y_builtin (vs := [.slice A rs.length c]) rfl ⟨rfl, trivial⟩ fun _ => r_len rfl Try.underlying86) ?_
    by_cases h4 : ((k : Nat) : Int) < ((rs.length : Nat) : Int)
    · refine wL_val (v := .bool true) (wn rfl) rfl rfl (y_binop rfl rfl rfl (r_lss_t h4)) ?_
      refine wL_nil ?_
      refine wQ_sub (l' := [(0, .slice A rs.length c), (1, .slice A' rs.length c'), (4, .bool false), (10, .bool false), (5, .int .i64 ((k : Nat) : Int)), (14, .bool true)]) ⟨rfl, rfl, rfl, rfl, rfl, rfl, trivial⟩ ?_
      refine wQ_then ?_
      refine wC_cond_t rfl ?_
      refine wC_skip ?_
      refine wQ_then ?_
      refine wC_seq ?_
      refine wC_block ?_
      refine wC_seq ?_
      refine wC_quiet S2 mixed (by kernel_rfl) ?_
      refine wU_val (v := .slice A rs.length c) (wn rfl) rfl rfl (fun _ _ => (y_move rfl rfl)) ?_
      refine wU_val (v := .int .i64 ((k : Nat) : Int)) (wn rfl) rfl rfl (fun _ _ => (y_move rfl rfl)) ?_
      obtain ⟨b7, o8, rfl⟩ := Rd.addr (St.rd 0 S2 rfl) (by omega)
      obtain ⟨x9, hx10⟩ : ∃ x, (rs)[k]? = some x := ⟨_, List.getElem?_eq_getElem (by have := (St.rd 0 S2 rfl).1; rw [fm_len (sz := 10) (fun _ => rfl)] at this; omega)⟩
      refine wU_val (v := .pointer (some ⟨b7, o8 + k * 10, none⟩)) (wn rfl) rfl rfl (fun _ _ => (y_indexAddr rfl rfl rfl (r_indexAddr k Try.underlying86 inf51 (by omega) (by omega)))) ?_
      refine wU_val (v := .agg #[.int .i64 x9.kind, .int .i64 x9.queue, .int .i64 x9.epoch, .int .i64 x9.peer, .int .i64 x9.ev.kind, .int .i64 x9.ev.producer, .int .i64 x9.ev.id, .int .i64 x9.ev.body, .int .i64 x9.ev.hepoch, .int .i64 x9.ev.hno]) (wn rfl) rfl rfl (fun _ Sx12 => (y_load rfl rfl (r_load_agg (cs := Rcd.cells x9) Try.underlying51 rfl inf51 rfl (Rd.rg2 (St.rd 0 Sx12 rfl) (fun _ _ h => fm_get (enc := Rcd.cells) (sz := 10) (fun _ => rfl) hx10 h))))) ?_
      refine wU_val (v := .slice A' rs.length c') (wn rfl) rfl rfl (fun _ _ => (y_move rfl rfl)) ?_
      refine wU_val (v := .int .i64 ((k : Nat) : Int)) (wn rfl) rfl rfl (fun _ _ => (y_move rfl rfl)) ?_
      obtain ⟨b15, o16, rfl⟩ := Rd.addr (St.rd 1 S2 rfl) (by omega)
      refine wU_val (v := .pointer (some ⟨b15, o16 + k * 10, none⟩)) (wn rfl) rfl rfl (fun _ _ => (y_indexAddr rfl rfl rfl (r_indexAddr k Try.underlying86 inf51 (by omega) (by omega)))) ?_
      refine wU_val (v := .agg #[.int .i64 x9.kind, .int .i64 x9.queue, .int .i64 x9.epoch, .int .i64 x9.peer, .int .i64 x9.ev.kind, .int .i64 x9.ev.producer, .int .i64 x9.ev.id, .int .i64 x9.ev.body, .int .i64 x9.ev.hepoch, .int .i64 x9.ev.hno]) (wn rfl) rfl rfl (fun _ Sx18 => (y_load rfl rfl (r_load_agg (cs := Rcd.cells x9) Try.underlying51 rfl inf51 rfl (Rd.rg2 (St.rd 1 Sx18 rfl) (fun _ _ h => fm_get (enc := Rcd.cells) (sz := 10) (fun _ => rfl) hx10 h))))) ?_
      refine wU_val (v := .bool false) (wn rfl) rfl rfl (fun _ _ => (y_binop rfl rfl rfl (r_eqg (by kernel_rfl) (rcd_neq x9 _)))) ?_
      refine wU_nil fun w20 S21 => ?_
      clear S2
      refine wQ_sub (l' := [(0, .slice (some ⟨b7, o8, none⟩) rs.length c), (1, .slice (some ⟨b15, o16, none⟩) rs.length c'), (4, .bool false), (10, .bool false), (5, .int .i64 ((k : Nat) : Int)), (14, .bool true), (25, .bool false)]) ⟨rfl, rfl, rfl, rfl, rfl, rfl, rfl, trivial⟩ ?_
      refine wQ_then ?_
      refine wC_cond_f rfl ?_
      refine wC_skip ?_
      refine wQ_blk_n ?_
      refine wQ_then ?_
      refine wC_region ?_
      refine wL_val (v := .int .i64 ((k : Nat) : Int)) (wn rfl) rfl rfl (y_move rfl rfl) ?_
      refine wL_val (v := .int .i64 ((k + 1 : Nat) : Int)) (wn rfl) rfl rfl (y_binop rfl rfl rfl (r_add (by omega) (by omega))) ?_
      refine wL_val (v := .int .i64 ((k + 1 : Nat) : Int)) (wn rfl) rfl rfl (y_assign rfl rfl) ?_
      refine wL_nil ?_
      refine wQ_sub (l' := [(0, .slice (some ⟨b7, o8, none⟩) rs.length c), (1, .slice (some ⟨b15, o16, none⟩) rs.length c'), (4, .bool false), (10, .bool false), (5, .int .i64 ((k + 1 : Nat) : Int)), (14, .bool true), (25, .bool false)]) ⟨rfl, rfl, rfl, rfl, rfl, rfl, rfl, trivial⟩ ?_
      refine wQ_round (k + 1) ?_ ⟨rfl, rfl, rfl, rfl, rfl, trivial⟩ (by first | omega | (dsimp only; omega))
      exact ⟨(by omega), S21⟩
    · refine wL_val (v := .bool false) (wn rfl) rfl rfl (y_binop rfl rfl rfl (r_lss_f h4)) ?_
      refine wL_nil ?_
      refine wQ_sub (l' := [(0, .slice A rs.length c), (1, .slice A' rs.length c'), (4, .bool false), (10, .bool false), (5, .int .i64 ((k : Nat) : Int)), (14, .bool false)]) ⟨rfl, rfl, rfl, rfl, rfl, rfl, trivial⟩ ?_
      refine wQ_then ?_
      refine wC_cond_f rfl ?_
      refine wC_exit ?_
      refine wQ_then_exit ?_
      refine wQ_then_exit ?_
      refine wQ_blk_same ?_
      refine wQ_then ?_
      refine wC_seq ?_
      refine wC_region ?_
      refine wL_val (v := .bool true) (wn rfl) rfl rfl (y_assign rfl rfl) ?_
      refine wL_nil ?_
      refine wQ_then ?_
      refine wC_ret ?_
      refine wQ_post (rs := [.tmp 4]) (vs := [.bool true]) rfl ⟨rfl, trivial⟩ ?_
      exact ⟨rfl, S2.low⟩

set_option maxRecDepth 100000 in
set_option maxHeartbeats 2000000 in
theorem Repaired_calls (A : Option Addr) (c : Nat) (l : List UInt8) (s : Int) (w : World) (h : Rd w w.heap.size 1 A l.length (byteCells l)) (hlc : l.length ≤ c) (hcm : c ≤ 9223372036854775807) :
    Calls Try.prog 65 #[.agg #[.slice A l.length c, .int .i64 s]] w (RepPost w (repM l s)) := by
  have S := (St.start w).addRd h
  clear h
  refine calls_of_wC (N := 30) (vs := [.agg #[.slice A l.length c, .int .i64 s]]) Try.func65 rfl rfl rfl ?_
  refine wC_sub (l' := [(0, .agg #[.slice A l.length c, .int .i64 s])]) ⟨rfl, trivial⟩ ?_
  refine wC_seq ?_
  refine wC_region ?_
  refine wL_new (V := fun b => .pointer (some ⟨b, 0, none⟩)) (row := #[.slice A l.length c, .int .i64 s]) (t := 80) S (wn rfl) rfl rfl (d_box rfl rfl rfl) ?_
  intro b1 w2 S3
  clear S
  refine wL_new (V := fun b => .pointer (some ⟨b, 0, none⟩)) (row := #[.slice none 0 0, .int .i64 0]) (t := 80) S3 (wn rfl) rfl rfl (d_alloc rfl (Try.zeroValue80 _) rfl) ?_
  intro b4 w5 S6
  clear S3
  refine wL_val (v := .int .i64 0) (wn rfl) rfl rfl (y_assign rfl rfl) ?_
  refine wL_nil ?_
  refine wQ_then ?_
  refine wC_seq ?_
  refine wC_region ?_
  refine wL_val (v := .agg #[.slice A l.length c, .int .i64 s]) (wn rfl) rfl rfl (y_load rfl rfl (r_load_row 1 S6 rfl Try.underlying80 rfl inf80 rfl)) ?_
  have hle := readsM_le (l.length + 1) l
  rw [← show readsM l = readsN (l.length + 1) l from rfl] at hle
  cases hm : tapeMay l s
  · have HR := fun w h => RecordsOf_calls A c l s w h hlc hcm
    rw [show readM l s = ([], 0, 6) from if_neg (by rw [hm]; simp)] at HR
    refine wL_call (vs := [.agg #[.slice A l.length c, .int .i64 s]]) (wn rfl) rfl rfl (e_call (vs := [.agg #[.slice A l.length c, .int .i64 s]]) rfl en62 ⟨rfl, trivial⟩) (HR _ (St.rd 2 S6 rfl)) ?_
    rintro _ w9 ⟨A7, c8, rfl, T11⟩
    refine ⟨_, rfl, ?_⟩
    have S10 := S6.ext T11 rfl
    clear T11 S6
    change St _ _ _ [.own 51 10 (.slice A7 (([] : List Rcd).length) c8) (([] : List Rcd).length) ((([] : List Rcd)).flatMap Rcd.cells), .blk b4 #[.slice none 0 0, .int .i64 0] 80, .blk b1 #[.slice A l.length c, .int .i64 s] 80, .rd 1 A l.length (byteCells l)] at S10
    refine wL_val (v := .tuple #[.slice A7 (([] : List Rcd).length) c8, .int .i64 ((0 : Nat) : Int), .int .i64 6]) (wn rfl) rfl rfl (y_move rfl rfl) ?_
    refine wL_val (v := .slice A7 (([] : List Rcd).length) c8) (wn rfl) rfl rfl (y_extract rfl rfl rfl) ?_
    refine wL_val (v := .int .i64 ((0 : Nat) : Int)) (wn rfl) rfl rfl (y_extract rfl rfl rfl) ?_
    refine wL_val (v := .int .i64 6) (wn rfl) rfl rfl (y_extract rfl rfl rfl) ?_
    refine wL_val (v := .slice A7 (([] : List Rcd).length) c8) (wn rfl) rfl rfl (y_assign rfl rfl) ?_
    refine wL_val (v := .int .i64 ((0 : Nat) : Int)) (wn rfl) rfl rfl (y_assign rfl rfl) ?_
    refine wL_val (v := .int .i64 6) (wn rfl) rfl rfl (y_assign rfl rfl) ?_
    refine wL_nil ?_
    refine wQ_sub (l' := [(0, .agg #[.slice A l.length c, .int .i64 s]), (1, .pointer (some ⟨b1, 0, none⟩)), (2, .pointer (some ⟨b4, 0, none⟩)), (3, .int .i64 0), (5, .int .i64 ((0 : Nat) : Int)), (6, .int .i64 6)]) ⟨rfl, rfl, rfl, rfl, rfl, rfl, trivial⟩ ?_
    refine wQ_then ?_
    refine wC_seq ?_
    refine wC_seq ?_
    refine wC_region ?_
    refine wL_val (v := .int .i64 6) (wn rfl) rfl rfl (y_move rfl rfl) ?_
    refine wL_val (v := .bool true) (wn rfl) rfl rfl (y_binop rfl rfl rfl (r_neq_t (by decide))) ?_
    refine wL_nil ?_
    refine wQ_sub (l' := [(0, .agg #[.slice A l.length c, .int .i64 s]), (1, .pointer (some ⟨b1, 0, none⟩)), (2, .pointer (some ⟨b4, 0, none⟩)), (3, .int .i64 0), (5, .int .i64 ((0 : Nat) : Int)), (6, .int .i64 6), (15, .bool true)]) ⟨rfl, rfl, rfl, rfl, rfl, rfl, rfl, trivial⟩ ?_
    refine wQ_then ?_
    refine wC_cond_t rfl ?_
    refine wC_seq ?_
    refine wC_region ?_
    refine wL_val (v := .agg #[.slice none 0 0, .int .i64 0]) (wn rfl) rfl rfl (y_build (vs := []) rfl trivial (by kernel_rfl)) ?_
    refine wL_val (v := .int .i64 6) (wn rfl) rfl rfl (y_move rfl rfl) ?_
    refine wL_st (cs := #[.slice none 0 0, .int .i64 0]) (row' := #[.slice none 0 0, .int .i64 0]) (fs' := [.own 51 10 (.slice A7 (([] : List Rcd).length) c8) (([] : List Rcd).length) ((([] : List Rcd)).flatMap Rcd.cells), .blk b4 #[.slice none 0 0, .int .i64 0] 80, .blk b1 #[.slice A l.length c, .int .i64 s] 80, .rd 1 A l.length (byteCells l) ]) 1 S10 (wn rfl) rfl rfl rfl rfl rfl rfl inf80 rfl (oneAll rfl) (Nat.le_of_ble_eq_true rfl) (setAll_all rfl) rfl ?_
    intro w12 S13
    clear S10
    refine wL_val (v := .int .i64 6) (wn rfl) rfl rfl (y_assign rfl rfl) ?_
    refine wL_nil ?_
    refine wQ_sub (l' := [(0, .agg #[.slice A l.length c, .int .i64 s]), (1, .pointer (some ⟨b1, 0, none⟩)), (2, .pointer (some ⟨b4, 0, none⟩)), (3, .int .i64 6), (5, .int .i64 ((0 : Nat) : Int)), (6, .int .i64 6), (15, .bool true)]) ⟨rfl, rfl, rfl, rfl, rfl, rfl, rfl, trivial⟩ ?_
    refine wQ_then ?_
    refine wC_ret ?_
    refine wQ_then_ret ?_
    refine wQ_post (rs := [.cell 2 80, .tmp 3]) (vs := [.agg #[.slice none 0 0, .int .i64 0], .int .i64 6]) rfl ⟨⟨_, rfl, res_row 1 S13 rfl Try.underlying80 rfl inf80⟩, rfl, trivial⟩ ?_
    have S14 : St w.heap.size w w12 [] := (St.del 0 (St.del 1 (St.del 2 (St.del 3 S13))))
    clear S13
    rw [show repM l s = ([], 0, 6) from if_neg (by rw [hm]; simp)]
    exact ⟨none, 0, rfl, rdo_nil S14⟩
  · have HR := fun w h => RecordsOf_calls A c l s w h hlc hcm
    rw [show readM l s = ((readsM l).1, (readsM l).2, 0) from if_pos hm] at HR
    have hlen : l.length ≤ 100000 := (tapeMay_of hm).1
    refine wL_call (vs := [.agg #[.slice A l.length c, .int .i64 s]]) (wn rfl) rfl rfl (e_call (vs := [.agg #[.slice A l.length c, .int .i64 s]]) rfl en62 ⟨rfl, trivial⟩) (HR _ (St.rd 2 S6 rfl)) ?_
    rintro _ w17 ⟨A15, c16, rfl, T19⟩
    refine ⟨_, rfl, ?_⟩
    have S18 := S6.ext T19 rfl
    clear T19 S6
    change St _ _ _ [.own 51 10 (.slice A15 ((readsM l).1.length) c16) ((readsM l).1.length) (((readsM l).1).flatMap Rcd.cells), .blk b4 #[.slice none 0 0, .int .i64 0] 80, .blk b1 #[.slice A l.length c, .int .i64 s] 80, .rd 1 A l.length (byteCells l)] at S18
    refine wL_val (v := .tuple #[.slice A15 ((readsM l).1.length) c16, .int .i64 (((readsM l).2 : Nat) : Int), .int .i64 0]) (wn rfl) rfl rfl (y_move rfl rfl) ?_
    refine wL_val (v := .slice A15 ((readsM l).1.length) c16) (wn rfl) rfl rfl (y_extract rfl rfl rfl) ?_
    refine wL_val (v := .int .i64 (((readsM l).2 : Nat) : Int)) (wn rfl) rfl rfl (y_extract rfl rfl rfl) ?_
    refine wL_val (v := .int .i64 0) (wn rfl) rfl rfl (y_extract rfl rfl rfl) ?_
    refine wL_val (v := .slice A15 ((readsM l).1.length) c16) (wn rfl) rfl rfl (y_assign rfl rfl) ?_
    refine wL_val (v := .int .i64 (((readsM l).2 : Nat) : Int)) (wn rfl) rfl rfl (y_assign rfl rfl) ?_
    refine wL_val (v := .int .i64 0) (wn rfl) rfl rfl (y_assign rfl rfl) ?_
    refine wL_nil ?_
    refine wQ_sub (l' := [(0, .agg #[.slice A l.length c, .int .i64 s]), (1, .pointer (some ⟨b1, 0, none⟩)), (2, .pointer (some ⟨b4, 0, none⟩)), (3, .int .i64 0), (5, .int .i64 (((readsM l).2 : Nat) : Int)), (6, .int .i64 0)]) ⟨rfl, rfl, rfl, rfl, rfl, rfl, trivial⟩ ?_
    refine wQ_then ?_
    refine wC_seq ?_
    refine wC_seq ?_
    refine wC_region ?_
    refine wL_val (v := .int .i64 0) (wn rfl) rfl rfl (y_move rfl rfl) ?_
    refine wL_val (v := .bool false) (wn rfl) rfl rfl (y_binop rfl rfl rfl (r_neq_f (by decide))) ?_
    refine wL_nil ?_
    refine wQ_sub (l' := [(0, .agg #[.slice A l.length c, .int .i64 s]), (1, .pointer (some ⟨b1, 0, none⟩)), (2, .pointer (some ⟨b4, 0, none⟩)), (3, .int .i64 0), (5, .int .i64 (((readsM l).2 : Nat) : Int)), (6, .int .i64 0), (15, .bool false)]) ⟨rfl, rfl, rfl, rfl, rfl, rfl, rfl, trivial⟩ ?_
    refine wQ_then ?_
    refine wC_cond_f rfl ?_
    refine wC_skip ?_
    refine wQ_then ?_
    refine wC_seq ?_
    refine wC_region ?_
    refine wL_val (v := .pointer (some ⟨b1, 1, none⟩)) (wn rfl) rfl rfl (y_fieldAddr rfl rfl (fa80_1 _ _ _)) ?_
    refine wL_val (v := .int .i64 s) (wn rfl) rfl rfl (y_load rfl rfl (r_load Try.underlying3 rfl (St.cl 2 S18 rfl rfl))) ?_
    refine wL_val (v := .int .i64 s) (wn rfl) rfl rfl (y_assign rfl rfl) ?_
    refine wL_nil ?_
    refine wQ_sub (l' := [(0, .agg #[.slice A l.length c, .int .i64 s]), (1, .pointer (some ⟨b1, 0, none⟩)), (2, .pointer (some ⟨b4, 0, none⟩)), (3, .int .i64 0), (5, .int .i64 (((readsM l).2 : Nat) : Int)), (6, .int .i64 0), (15, .bool false), (7, .int .i64 s)]) ⟨rfl, rfl, rfl, rfl, rfl, rfl, rfl, rfl, trivial⟩ ?_
    refine wQ_then ?_
    refine wC_seq ?_
    refine wC_seq ?_
    refine wC_region ?_
    refine wL_val (v := .int .i64 s) (wn rfl) rfl rfl (y_move rfl rfl) ?_
    refine wL_val (v := .int .i64 (((readsM l).2 : Nat) : Int)) (wn rfl) rfl rfl (y_move rfl rfl) ?_
    by_cases hs : (((readsM l).2 : Nat) : Int) < s
    · have hmin : min s (((readsM l).2 : Nat) : Int) = (((readsM l).2 : Nat) : Int) := by omega
      refine wL_val (v := .bool true) (wn rfl) rfl rfl (y_binop rfl rfl rfl (r_gtr_t hs)) ?_
      refine wL_nil ?_
      refine wQ_sub (l' := [(0, .agg #[.slice A l.length c, .int .i64 s]), (1, .pointer (some ⟨b1, 0, none⟩)), (2, .pointer (some ⟨b4, 0, none⟩)), (3, .int .i64 0), (5, .int .i64 (((readsM l).2 : Nat) : Int)), (6, .int .i64 0), (15, .bool false), (7, .int .i64 s), (22, .bool true)]) ⟨rfl, rfl, rfl, rfl, rfl, rfl, rfl, rfl, rfl, trivial⟩ ?_
      refine wQ_then ?_
      refine wC_cond_t rfl ?_
      refine wC_region ?_
      refine wL_val (v := .int .i64 (((readsM l).2 : Nat) : Int)) (wn rfl) rfl rfl (y_move rfl rfl) ?_
      refine wL_val (v := .int .i64 (((readsM l).2 : Nat) : Int)) (wn rfl) rfl rfl (y_assign rfl rfl) ?_
      refine wL_nil ?_
      refine wQ_sub (l' := [(0, .agg #[.slice A l.length c, .int .i64 s]), (1, .pointer (some ⟨b1, 0, none⟩)), (2, .pointer (some ⟨b4, 0, none⟩)), (3, .int .i64 0), (5, .int .i64 (((readsM l).2 : Nat) : Int)), (6, .int .i64 0), (15, .bool false), (7, .int .i64 (((readsM l).2 : Nat) : Int)), (22, .bool true)]) ⟨rfl, rfl, rfl, rfl, rfl, rfl, rfl, rfl, rfl, trivial⟩ ?_
      refine wQ_then ?_
      refine wC_seq ?_
      refine wC_region ?_
      refine wL_val (v := .pointer (some ⟨b1, 0, none⟩)) (wn rfl) rfl rfl (y_fieldAddr rfl rfl (fa80_0 _ _ _)) ?_
      refine wL_val (v := .slice A l.length c) (wn rfl) rfl rfl (y_load rfl rfl (r_load Try.underlying52 rfl (St.cl 2 S18 rfl rfl))) ?_
      refine wL_val (v := .int .i64 (((readsM l).2 : Nat) : Int)) (wn rfl) rfl rfl (y_move rfl rfl) ?_
      refine wL_call (vs := [.slice A l.length c, .int .i64 (((readsM l).2 : Nat) : Int)]) (wn rfl) rfl rfl (e_call (vs := [.slice A l.length c, .int .i64 (((readsM l).2 : Nat) : Int)]) rfl en140 ⟨rfl, rfl, trivial⟩) (Octets_calls A l.length c (readsM l).2 l _ (St.rd 3 S18 rfl) (by omega) hlen) ?_
      rintro _ w24 ⟨A20, c21, rfl, hb22, ho23⟩
      refine ⟨_, rfl, ?_⟩
      have S25 := S18.onOwn hb22 ho23
      clear hb22 ho23 S18
      change St _ _ _ [.own 5 1 (.slice A20 ((readsM l).2) c21) ((readsM l).2) (byteCells (l.take (readsM l).2)), .own 51 10 (.slice A15 ((readsM l).1.length) c16) ((readsM l).1.length) (((readsM l).1).flatMap Rcd.cells), .blk b4 #[.slice none 0 0, .int .i64 0] 80, .blk b1 #[.slice A l.length c, .int .i64 s] 80, .rd 1 A l.length (byteCells l)] at S25
      refine wL_val (v := .int .i64 (((readsM l).2 : Nat) : Int)) (wn rfl) rfl rfl (y_move rfl rfl) ?_
      refine wL_val (v := .agg #[.slice A20 ((readsM l).2) c21, .int .i64 (((readsM l).2 : Nat) : Int)]) (wn rfl) rfl rfl (y_build (vs := [(0, .slice A20 ((readsM l).2) c21), (1, .int .i64 (((readsM l).2 : Nat) : Int))]) rfl ⟨rfl, rfl, rfl, rfl, trivial⟩ (by kernel_rfl)) ?_
      refine wL_st (cs := #[.slice A20 ((readsM l).2) c21, .int .i64 (((readsM l).2 : Nat) : Int)]) (row' := #[.slice A20 ((readsM l).2) c21, .int .i64 (((readsM l).2 : Nat) : Int)]) (fs' := [.own 5 1 (.slice A20 ((readsM l).2) c21) ((readsM l).2) (byteCells (l.take (readsM l).2)), .own 51 10 (.slice A15 ((readsM l).1.length) c16) ((readsM l).1.length) (((readsM l).1).flatMap Rcd.cells), .blk b4 #[.slice A20 ((readsM l).2) c21, .int .i64 (((readsM l).2 : Nat) : Int)] 80, .blk b1 #[.slice A l.length c, .int .i64 s] 80, .rd 1 A l.length (byteCells l) ]) 2 S25 (wn rfl) rfl rfl rfl rfl rfl rfl inf80 rfl (oneAll rfl) (Nat.le_of_ble_eq_true rfl) (setAll_all rfl) rfl ?_
      intro w26 S27
      clear S25
      refine wL_val (v := .int .i64 0) (wn rfl) rfl rfl (y_assign rfl rfl) ?_
      refine wL_nil ?_
      refine wQ_sub (l' := [(0, .agg #[.slice A l.length c, .int .i64 s]), (1, .pointer (some ⟨b1, 0, none⟩)), (2, .pointer (some ⟨b4, 0, none⟩)), (3, .int .i64 0), (5, .int .i64 (((readsM l).2 : Nat) : Int)), (6, .int .i64 0), (15, .bool false), (7, .int .i64 (((readsM l).2 : Nat) : Int)), (22, .bool true)]) ⟨rfl, rfl, rfl, rfl, rfl, rfl, rfl, rfl, rfl, trivial⟩ ?_
      refine wQ_then ?_
      refine wC_ret ?_
      refine wQ_post (rs := [.cell 2 80, .tmp 3]) (vs := [.agg #[.slice A20 ((readsM l).2) c21, .int .i64 (((readsM l).2 : Nat) : Int)], .int .i64 0]) rfl ⟨⟨_, rfl, res_row 2 S27 rfl Try.underlying80 rfl inf80⟩, rfl, trivial⟩ ?_
      have S28 : St w.heap.size w w26 [.own 5 1 (.slice A20 ((readsM l).2) c21) ((readsM l).2) (byteCells (l.take (readsM l).2))] := (St.del 1 (St.del 2 (St.del 3 (St.del 4 S27))))
      clear S27
      have S29 := S28.sealAll 0 rfl
      clear S28
      change St _ _ _ [.rdo 1 A20 ((readsM l).2) (byteCells (l.take (readsM l).2))] at S29
      have hlt : (l.take (readsM l).2).length = (readsM l).2 := by rw [List.length_take]; omega
      rw [show repM l s = (l.take (readsM l).2, min s (readsM l).2, 0) from if_pos hm, hmin]
      exact ⟨A20, _, by rw [hlt]; rfl, by rw [hlt]; exact S29⟩
    · have hmin : min s (((readsM l).2 : Nat) : Int) = s := by omega
      refine wL_val (v := .bool false) (wn rfl) rfl rfl (y_binop rfl rfl rfl (r_gtr_f hs)) ?_
      refine wL_nil ?_
      refine wQ_sub (l' := [(0, .agg #[.slice A l.length c, .int .i64 s]), (1, .pointer (some ⟨b1, 0, none⟩)), (2, .pointer (some ⟨b4, 0, none⟩)), (3, .int .i64 0), (5, .int .i64 (((readsM l).2 : Nat) : Int)), (6, .int .i64 0), (15, .bool false), (7, .int .i64 s), (22, .bool false)]) ⟨rfl, rfl, rfl, rfl, rfl, rfl, rfl, rfl, rfl, trivial⟩ ?_
      refine wQ_then ?_
      refine wC_cond_f rfl ?_
      refine wC_skip ?_
      refine wQ_then ?_
      refine wC_seq ?_
      refine wC_region ?_
      refine wL_val (v := .pointer (some ⟨b1, 0, none⟩)) (wn rfl) rfl rfl (y_fieldAddr rfl rfl (fa80_0 _ _ _)) ?_
      refine wL_val (v := .slice A l.length c) (wn rfl) rfl rfl (y_load rfl rfl (r_load Try.underlying52 rfl (St.cl 2 S18 rfl rfl))) ?_
      refine wL_val (v := .int .i64 (((readsM l).2 : Nat) : Int)) (wn rfl) rfl rfl (y_move rfl rfl) ?_
      refine wL_call (vs := [.slice A l.length c, .int .i64 (((readsM l).2 : Nat) : Int)]) (wn rfl) rfl rfl (e_call (vs := [.slice A l.length c, .int .i64 (((readsM l).2 : Nat) : Int)]) rfl en140 ⟨rfl, rfl, trivial⟩) (Octets_calls A l.length c (readsM l).2 l _ (St.rd 3 S18 rfl) (by omega) hlen) ?_
      rintro _ w34 ⟨A30, c31, rfl, hb32, ho33⟩
      refine ⟨_, rfl, ?_⟩
      have S35 := S18.onOwn hb32 ho33
      clear hb32 ho33 S18
      change St _ _ _ [.own 5 1 (.slice A30 ((readsM l).2) c31) ((readsM l).2) (byteCells (l.take (readsM l).2)), .own 51 10 (.slice A15 ((readsM l).1.length) c16) ((readsM l).1.length) (((readsM l).1).flatMap Rcd.cells), .blk b4 #[.slice none 0 0, .int .i64 0] 80, .blk b1 #[.slice A l.length c, .int .i64 s] 80, .rd 1 A l.length (byteCells l)] at S35
      refine wL_val (v := .int .i64 s) (wn rfl) rfl rfl (y_move rfl rfl) ?_
      refine wL_val (v := .agg #[.slice A30 ((readsM l).2) c31, .int .i64 s]) (wn rfl) rfl rfl (y_build (vs := [(0, .slice A30 ((readsM l).2) c31), (1, .int .i64 s)]) rfl ⟨rfl, rfl, rfl, rfl, trivial⟩ (by kernel_rfl)) ?_
      refine wL_st (cs := #[.slice A30 ((readsM l).2) c31, .int .i64 s]) (row' := #[.slice A30 ((readsM l).2) c31, .int .i64 s]) (fs' := [.own 5 1 (.slice A30 ((readsM l).2) c31) ((readsM l).2) (byteCells (l.take (readsM l).2)), .own 51 10 (.slice A15 ((readsM l).1.length) c16) ((readsM l).1.length) (((readsM l).1).flatMap Rcd.cells), .blk b4 #[.slice A30 ((readsM l).2) c31, .int .i64 s] 80, .blk b1 #[.slice A l.length c, .int .i64 s] 80, .rd 1 A l.length (byteCells l) ]) 2 S35 (wn rfl) rfl rfl rfl rfl rfl rfl inf80 rfl (oneAll rfl) (Nat.le_of_ble_eq_true rfl) (setAll_all rfl) rfl ?_
      intro w36 S37
      clear S35
      refine wL_val (v := .int .i64 0) (wn rfl) rfl rfl (y_assign rfl rfl) ?_
      refine wL_nil ?_
      refine wQ_sub (l' := [(0, .agg #[.slice A l.length c, .int .i64 s]), (1, .pointer (some ⟨b1, 0, none⟩)), (2, .pointer (some ⟨b4, 0, none⟩)), (3, .int .i64 0), (5, .int .i64 (((readsM l).2 : Nat) : Int)), (6, .int .i64 0), (15, .bool false), (7, .int .i64 s), (22, .bool false)]) ⟨rfl, rfl, rfl, rfl, rfl, rfl, rfl, rfl, rfl, trivial⟩ ?_
      refine wQ_then ?_
      refine wC_ret ?_
      refine wQ_post (rs := [.cell 2 80, .tmp 3]) (vs := [.agg #[.slice A30 ((readsM l).2) c31, .int .i64 s], .int .i64 0]) rfl ⟨⟨_, rfl, res_row 2 S37 rfl Try.underlying80 rfl inf80⟩, rfl, trivial⟩ ?_
      have S38 : St w.heap.size w w36 [.own 5 1 (.slice A30 ((readsM l).2) c31) ((readsM l).2) (byteCells (l.take (readsM l).2))] := (St.del 1 (St.del 2 (St.del 3 (St.del 4 S37))))
      clear S37
      have S39 := S38.sealAll 0 rfl
      clear S38
      change St _ _ _ [.rdo 1 A30 ((readsM l).2) (byteCells (l.take (readsM l).2))] at S39
      have hlt : (l.take (readsM l).2).length = (readsM l).2 := by rw [List.length_take]; omega
      rw [show repM l s = (l.take (readsM l).2, min s (readsM l).2, 0) from if_pos hm, hmin]
      exact ⟨A30, _, by rw [hlt]; rfl, by rw [hlt]; exact S39⟩
end Go.Proofs.Ytkjlafpafmihaaa
