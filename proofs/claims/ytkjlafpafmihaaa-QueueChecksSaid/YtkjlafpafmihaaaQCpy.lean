/- Contract: ref.QueueCopy. (The steps are printed by a program of mine: wip/px.) -/
import Derived.Test.YtkjlafpafmihaaaQ
import Derived.Test.YtkjlafpafmihaaaEvCopy
namespace Go.Proofs.Ytkjlafpafmihaaa
open Go.ChangeShapes Go.WideShapes Go.RowKit

/-- A queue in memory of its own. -/
def QNew (w : World) (ep nx gv : Int) (rs : List Msg) (ls : List Ls) (W : Wins) (e : Ending) (w' : World) : Prop := ∃ A1 c1 A2 c2, e = .returned (.agg (qRow ep nx gv (.slice A1 rs.length c1) (.slice A2 ls.length c2) W)) ∧
  St w.heap.size w w' [.own 141 4 (.slice A2 ls.length c2) ls.length (ls.flatMap Ls.cells), .own 137 2 (.slice A1 rs.length c1) rs.length (rs.flatMap Msg.cells)]

set_option maxRecDepth 100000 in
set_option maxHeartbeats 4000000 in
theorem QueueCopy_calls (ep nx gv : Int) (A1 A2 : Option Addr) (c1 c2 : Nat) (rs : List Msg) (ls : List Ls) (W : Wins) (w : World) (h1 : Rd w w.heap.size 2 A1 rs.length (rs.flatMap Msg.cells)) (h2 : Rd w w.heap.size 4 A2 ls.length (ls.flatMap Ls.cells)) (hb1 : rs.length * 16 ≤ reachBytes) (hb2 : ls.length * 32 ≤ reachBytes) :
    Calls Try.prog 106 #[.agg (qRow ep nx gv (.slice A1 rs.length c1) (.slice A2 ls.length c2) W)] w (QNew w ep nx gv rs ls W) := by
  unfold reachBytes at hb1 hb2
  have S := ((St.start w).addRd h2).addRd h1
  refine calls_of_wC (N := 44) (vs := [.agg (qRow ep nx gv (.slice A1 rs.length c1) (.slice A2 ls.length c2) W)]) Try.func106 rfl rfl rfl ?_
  refine wC_sub (l' := [(0, .agg (qRow ep nx gv (.slice A1 rs.length c1) (.slice A2 ls.length c2) W))]) ⟨rfl, trivial⟩ ?_
  refine wC_seq ?_
  refine wC_region ?_
  refine wL_new (V := fun b => .pointer (some ⟨b, 0, none⟩)) (row := qRow ep nx gv (.slice A1 rs.length c1) (.slice A2 ls.length c2) W) (t := 29) S (wn rfl) rfl rfl (d_box rfl rfl rfl) ?_
  intro b1 w2 S3
  clear S
  refine wL_new (V := fun b => .pointer (some ⟨b, 0, none⟩)) (row := qRow 0 0 0 (.slice none 0 0) (.slice none 0 0) zeroWs) (t := 29) S3 (wn rfl) rfl rfl (d_alloc rfl (Try.zeroValue29 _) rfl) ?_
  intro b4 w5 S6
  clear S3
  refine wL_nil ?_
  refine wQ_then ?_
  refine wC_seq ?_
  refine wC_region ?_
  refine wL_val (v := .agg (qRow ep nx gv (.slice A1 rs.length c1) (.slice A2 ls.length c2) W)) (wn rfl) rfl rfl (y_load rfl rfl (r_load_row 1 S6 rfl Try.underlying29 rfl inf29 rfl)) ?_
  refine wL_new (V := fun b => .pointer (some ⟨b, 0, none⟩)) (row := qRow 0 0 0 (.slice none 0 0) (.slice none 0 0) zeroWs) (t := 29) S6 (wn rfl) rfl rfl (d_alloc rfl (Try.zeroValue29 _) rfl) ?_
  intro b7 w8 S9
  clear S6
  refine wL_st (cs := qRow ep nx gv (.slice A1 rs.length c1) (.slice A2 ls.length c2) W) (row' := qRow ep nx gv (.slice A1 rs.length c1) (.slice A2 ls.length c2) W) (fs' := [.blk b7 (qRow ep nx gv (.slice A1 rs.length c1) (.slice A2 ls.length c2) W) 29, .blk b4 (qRow 0 0 0 (.slice none 0 0) (.slice none 0 0) zeroWs) 29, .blk b1 (qRow ep nx gv (.slice A1 rs.length c1) (.slice A2 ls.length c2) W) 29, .rd 2 A1 rs.length ((rs).flatMap Msg.cells), .rd 4 A2 ls.length ((ls).flatMap Ls.cells) ]) 0 S9 (wn rfl) rfl rfl rfl rfl rfl rfl inf29 rfl (qRow_one rfl rfl) (Nat.le_of_ble_eq_true rfl) (setAll_all rfl) rfl ?_
  intro w10 S11
  clear S9
  refine wL_nil ?_
  refine wQ_sub (l' := [(0, .agg (qRow ep nx gv (.slice A1 rs.length c1) (.slice A2 ls.length c2) W)), (1, .pointer (some ⟨b1, 0, none⟩)), (2, .pointer (some ⟨b4, 0, none⟩)), (3, .pointer (some ⟨b7, 0, none⟩))]) ⟨rfl, rfl, rfl, rfl, trivial⟩ ?_
  refine wQ_then ?_
  refine wC_seq ?_
  refine wC_region ?_
  refine wL_val (v := .pointer (some ⟨b7, 3, none⟩)) (wn rfl) rfl rfl (y_fieldAddr rfl rfl (fa29_3 _ _ _)) ?_
  refine wL_st (cs := #[.slice none 0 0]) (row' := qRow ep nx gv (.slice none 0 0) (.slice A2 ls.length c2) W) (fs' := [.blk b7 (qRow ep nx gv (.slice none 0 0) (.slice A2 ls.length c2) W) 29, .blk b4 (qRow 0 0 0 (.slice none 0 0) (.slice none 0 0) zeroWs) 29, .blk b1 (qRow ep nx gv (.slice A1 rs.length c1) (.slice A2 ls.length c2) W) 29, .rd 2 A1 rs.length ((rs).flatMap Msg.cells), .rd 4 A2 ls.length ((ls).flatMap Ls.cells) ]) 0 S11 (wn rfl) rfl rfl rfl rfl rfl rfl inf22 rfl (oneAll rfl) (Nat.le_of_ble_eq_true rfl) qRow_s3 rfl ?_
  intro w12 S13
  clear S11
  refine wL_nil ?_
  refine wQ_sub (l' := [(0, .agg (qRow ep nx gv (.slice A1 rs.length c1) (.slice A2 ls.length c2) W)), (1, .pointer (some ⟨b1, 0, none⟩)), (2, .pointer (some ⟨b4, 0, none⟩)), (3, .pointer (some ⟨b7, 0, none⟩))]) ⟨rfl, rfl, rfl, rfl, trivial⟩ ?_
  refine wQ_then ?_
  refine wC_seq ?_
  refine wC_region ?_
  refine wL_val (v := .pointer (some ⟨b7, 4, none⟩)) (wn rfl) rfl rfl (y_fieldAddr rfl rfl (fa29_4 _ _ _)) ?_
  refine wL_st (cs := #[.slice none 0 0]) (row' := qRow ep nx gv (.slice none 0 0) (.slice none 0 0) W) (fs' := [.blk b7 (qRow ep nx gv (.slice none 0 0) (.slice none 0 0) W) 29, .blk b4 (qRow 0 0 0 (.slice none 0 0) (.slice none 0 0) zeroWs) 29, .blk b1 (qRow ep nx gv (.slice A1 rs.length c1) (.slice A2 ls.length c2) W) 29, .rd 2 A1 rs.length ((rs).flatMap Msg.cells), .rd 4 A2 ls.length ((ls).flatMap Ls.cells) ]) 0 S13 (wn rfl) rfl rfl rfl rfl rfl rfl inf23 rfl (oneAll rfl) (Nat.le_of_ble_eq_true rfl) qRow_s4 rfl ?_
  intro w14 S15
  clear S13
  refine wL_nil ?_
  refine wQ_sub (l' := [(0, .agg (qRow ep nx gv (.slice A1 rs.length c1) (.slice A2 ls.length c2) W)), (1, .pointer (some ⟨b1, 0, none⟩)), (2, .pointer (some ⟨b4, 0, none⟩)), (3, .pointer (some ⟨b7, 0, none⟩))]) ⟨rfl, rfl, rfl, rfl, trivial⟩ ?_
  refine wQ_then ?_
  refine wC_seq ?_
  refine wC_seq ?_
  refine wC_region ?_
  refine wL_val (v := .int .i64 0) (wn rfl) rfl rfl (y_assign rfl rfl) ?_
  refine wL_nil ?_
  refine wQ_then ?_
  refine wC_block ?_
  have S17 := S15.nil 137 2
  clear S15
  change St _ _ _ [.own 137 2 (.slice none 0 0) 0 ((rs.take 0).flatMap Msg.cells), .blk b7 (qRow ep nx gv (.slice none 0 0) (.slice none 0 0) W) 29, .blk b4 (qRow 0 0 0 (.slice none 0 0) (.slice none 0 0) zeroWs) 29, .blk b1 (qRow ep nx gv (.slice A1 rs.length c1) (.slice A2 ls.length c2) W) 29, .rd 2 A1 rs.length ((rs).flatMap Msg.cells), .rd 4 A2 ls.length ((ls).flatMap Ls.cells)] at S17
  refine wC_loop (X := Nat × (Option Addr) × Nat) (fun xv => [(1, .pointer (some ⟨b1, 0, none⟩)), (2, .pointer (some ⟨b4, 0, none⟩)), (3, .pointer (some ⟨b7, 0, none⟩)), (4, .int .i64 ((xv.1 : Nat) : Int))]) (fun xv wr => (xv.1 ≤ rs.length) ∧ St w.heap.size w wr [.own 137 2 (.slice xv.2.1 xv.1 xv.2.2) xv.1 ((rs.take xv.1).flatMap Msg.cells), .blk b7 (qRow ep nx gv (.slice xv.2.1 xv.1 xv.2.2) (.slice none 0 0) W) 29, .blk b4 (qRow 0 0 0 (.slice none 0 0) (.slice none 0 0) zeroWs) 29, .blk b1 (qRow ep nx gv (.slice A1 rs.length c1) (.slice A2 ls.length c2) W) 29, .rd 2 A1 rs.length ((rs).flatMap Msg.cells), .rd 4 A2 ls.length ((ls).flatMap Ls.cells)]) (fun xv => rs.length - xv.1) (0, none, 0) ?_ ?_ ?_
  · exact ⟨Nat.zero_le _, S17⟩
  · exact ⟨rfl, rfl, rfl, rfl, trivial⟩
  · rintro ⟨k, A9, c9⟩ w19 ⟨hi21, S20⟩
    try dsimp only at hi21 S20
    clear S17
    refine wC_sub (l' := [(1, .pointer (some ⟨b1, 0, none⟩)), (2, .pointer (some ⟨b4, 0, none⟩)), (3, .pointer (some ⟨b7, 0, none⟩)), (4, .int .i64 ((k : Nat) : Int))]) ⟨rfl, rfl, rfl, rfl, trivial⟩ ?_
    refine wC_seq ?_
    refine wC_seq ?_
    refine wC_region ?_
    refine wL_val (v := .int .i64 ((k : Nat) : Int)) (wn rfl) rfl rfl (y_move rfl rfl) ?_
    refine wL_val (v := .pointer (some ⟨b1, 3, none⟩)) (wn rfl) rfl rfl (y_fieldAddr rfl rfl (fa29_3 _ _ _)) ?_
    refine wL_val (v := .slice A1 rs.length c1) (wn rfl) rfl rfl (y_load rfl rfl (r_load Try.underlying22 rfl (St.cl 3 S20 rfl qRow_g3))) ?_
    refine wL_val (v := .int .i64 ((rs.length : Nat) : Int)) (wn rfl) rfl rfl (y_builtin (vs := [.slice A1 rs.length c1]) rfl ⟨rfl, trivial⟩ fun _ => r_len rfl Try.underlying22) ?_
    by_cases h22 : ((k : Nat) : Int) < ((rs.length : Nat) : Int)
    · refine wL_val (v := .bool true) (wn rfl) rfl rfl (y_binop rfl rfl rfl (r_lss_t h22)) ?_
      refine wL_nil ?_
      refine wQ_sub (l' := [(1, .pointer (some ⟨b1, 0, none⟩)), (2, .pointer (some ⟨b4, 0, none⟩)), (3, .pointer (some ⟨b7, 0, none⟩)), (4, .int .i64 ((k : Nat) : Int)), (13, .bool true)]) ⟨rfl, rfl, rfl, rfl, rfl, trivial⟩ ?_
      refine wQ_then ?_
      refine wC_cond_t rfl ?_
      refine wC_skip ?_
      refine wQ_then ?_
      refine wC_seq ?_
      refine wC_block ?_
      have S23 := S20.drew
      clear S20
      refine wC_any_ (C := fun w' => St w.heap.size w w' [.blk b4 (qRow 0 0 0 (.slice none 0 0) (.slice none 0 0) zeroWs) 29, .blk b1 (qRow ep nx gv (.slice A1 rs.length c1) (.slice A2 ls.length c2) W) 29, .rd 2 A1 rs.length ((rs).flatMap Msg.cells), .rd 4 A2 ls.length ((ls).flatMap Ls.cells)]) (n := 11) (listed := #[false, false, false, false, false, false, false, false, false, false, false]) mixed rfl rfl ?_
      refine wA_take (v := .pointer (some ⟨b7, 3, none⟩)) (i := 0) (n := 10) (listed' := #[true, false, false, false, false, false, false, false, false, false, false]) rfl (by kernel_rfl) (by kernel_rfl) (by kernel_rfl) (St.del 0 (St.del 1 S23)) rfl (wn rfl) rfl rfl (fun _ _ => (y_fieldAddr rfl rfl (fa29_3 _ _ _))) ?_
      refine wA_take (v := .pointer (some ⟨b1, 3, none⟩)) (i := 2) (n := 9) (listed' := #[true, false, true, false, false, false, false, false, false, false, false]) rfl (by kernel_rfl) (by kernel_rfl) (by kernel_rfl) (St.del 0 (St.del 1 S23)) rfl (wn rfl) rfl rfl (fun _ _ => (y_fieldAddr rfl rfl (fa29_3 _ _ _))) ?_
      refine wA_take (v := .slice A1 rs.length c1) (i := 3) (n := 8) (listed' := #[true, false, true, true, false, false, false, false, false, false, false]) rfl (by kernel_rfl) (by kernel_rfl) (by kernel_rfl) (St.del 0 (St.del 1 S23)) rfl (wn rfl) rfl rfl (fun _ Sx26 => (y_load rfl rfl (r_load Try.underlying22 rfl (St.cl 1 Sx26 rfl qRow_g3)))) ?_
      refine wA_take (v := .int .i64 ((k : Nat) : Int)) (i := 4) (n := 7) (listed' := #[true, false, true, true, true, false, false, false, false, false, false]) rfl (by kernel_rfl) (by kernel_rfl) (by kernel_rfl) (St.del 0 (St.del 1 S23)) rfl (wn rfl) rfl rfl (fun _ _ => (y_move rfl rfl)) ?_
      obtain ⟨b28, o29, rfl⟩ := Rd.addr (St.rd 4 S23 rfl) (by omega)
      obtain ⟨x30, hx31⟩ : ∃ x, (rs)[k]? = some x := ⟨_, List.getElem?_eq_getElem (by have := (St.rd 4 S23 rfl).1; rw [fm_len (sz := 2) (fun _ => rfl)] at this; omega)⟩
      refine wA_take (v := .pointer (some ⟨b28, o29 + k * 2, none⟩)) (i := 5) (n := 6) (listed' := #[true, false, true, true, true, true, false, false, false, false, false]) rfl (by kernel_rfl) (by kernel_rfl) (by kernel_rfl) (St.del 0 (St.del 1 S23)) rfl (wn rfl) rfl rfl (fun _ _ => (y_indexAddr rfl rfl rfl (r_indexAddr k Try.underlying22 inf137 (by omega) (by omega)))) ?_
      refine wA_take (v := .agg #[.int .i64 x30.no, .int .i64 x30.body]) (i := 6) (n := 5) (listed' := #[true, false, true, true, true, true, true, false, false, false, false]) rfl (by kernel_rfl) (by kernel_rfl) (by kernel_rfl) (St.del 0 (St.del 1 S23)) rfl (wn rfl) rfl rfl (fun _ Sx33 => (y_load rfl rfl (r_load_agg (cs := Msg.cells x30) Try.underlying137 rfl inf137 rfl (Rd.rg2 (St.rd 2 Sx33 rfl) (fun _ _ h => fm_get (enc := Msg.cells) (sz := 2) (fun _ => rfl) hx31 h))))) ?_
      refine wA_two (n := 4) (r := 1) (s := 7) (by kernel_rfl) ?_ ?_
      · refine wN_val (i := 1) (listed' := #[true, true, true, true, true, true, true, false, false, false, false]) rfl rfl (v := .slice A9 k c9) (wn rfl) rfl rfl (y_load rfl rfl (r_load Try.underlying22 rfl (St.cl 1 S23 rfl qRow_g3))) ?_
        refine ⟨(St.del 0 (St.del 1 S23)), ?_⟩
        refine wA_one (n := 3) (r := 7) (by kernel_rfl) ?_
        refine wN_new (i := 7) (listed' := #[true, true, true, true, true, true, true, true, false, false, false]) rfl rfl (V := fun b => .slice (some ⟨b, 0, none⟩) 1 1) (row := #[.int .i64 x30.no, .int .i64 x30.body]) (t := 137) S23 (wn rfl) rfl rfl (d_buildSlice (vs := [(0, .agg #[.int .i64 x30.no, .int .i64 x30.body])]) rfl ⟨rfl, rfl, trivial⟩ (by kernel_rfl)) ?_
        intro b34 w35 S36
        clear S23
        refine ⟨(St.del 0 (St.del 1 (St.del 2 S36))), ?_⟩
        refine wA_one (n := 2) (r := 8) (by kernel_rfl) ?_
        refine wN_append (i := 8) (listed' := #[true, true, true, true, true, true, true, true, true, false, false]) rfl rfl (news := [.int .i64 x30.no, .int .i64 x30.body]) (xs' := (rs.take (k + 1)).flatMap Msg.cells) 1 S36 (wn rfl) rfl rfl rfl rfl rfl rfl (St.bld (xs := [.int .i64 x30.no, .int .i64 x30.body]) 0 S36 rfl rfl rfl) Try.underlying22 infz137 rfl (by decide) (oneAll rfl) (by simp only [maxLen]; omega) (by omega) (fm_snoc (enc := Msg.cells) (take_snoc_ hx31) rfl) ?_
        intro A37 c38 w39 hc41 hm42 S40
        clear S36
        change St _ _ _ [.blk b34 #[.int .i64 x30.no, .int .i64 x30.body] 137, .own 137 2 (.slice A37 (k + 1) c38) (k + 1) ((rs.take (k + 1)).flatMap Msg.cells), .blk b7 (qRow ep nx gv (.slice A9 k c9) (.slice none 0 0) W) 29, .blk b4 (qRow 0 0 0 (.slice none 0 0) (.slice none 0 0) zeroWs) 29, .blk b1 (qRow ep nx gv (.slice (some ⟨b28, o29, none⟩) rs.length c1) (.slice A2 ls.length c2) W) 29, .rd 2 (some ⟨b28, o29, none⟩) rs.length ((rs).flatMap Msg.cells), .rd 4 A2 ls.length ((ls).flatMap Ls.cells)] at S40
        refine ⟨(St.del 0 (St.del 1 (St.del 2 S40))), ?_⟩
        refine wA_take (v := .pointer (some ⟨b7, 3, none⟩)) (i := 9) (n := 1) (listed' := #[true, true, true, true, true, true, true, true, true, true, false]) rfl (by kernel_rfl) (by kernel_rfl) (by kernel_rfl) (St.del 0 (St.del 1 (St.del 2 S40))) rfl (wn rfl) rfl rfl (fun _ _ => (y_fieldAddr rfl rfl (fa29_3 _ _ _))) ?_
        refine wA_one (n := 0) (r := 10) (by kernel_rfl) ?_
        refine wN_st (i := 10) (listed' := #[true, true, true, true, true, true, true, true, true, true, true]) rfl rfl (cs := #[.slice A37 (k + 1) c38]) (row' := qRow ep nx gv (.slice A37 (k + 1) c38) (.slice none 0 0) W) (fs' := [.blk b34 #[.int .i64 x30.no, .int .i64 x30.body] 137, .own 137 2 (.slice A37 (k + 1) c38) (k + 1) ((rs.take (k + 1)).flatMap Msg.cells), .blk b7 (qRow ep nx gv (.slice A37 (k + 1) c38) (.slice none 0 0) W) 29, .blk b4 (qRow 0 0 0 (.slice none 0 0) (.slice none 0 0) zeroWs) 29, .blk b1 (qRow ep nx gv (.slice (some ⟨b28, o29, none⟩) rs.length c1) (.slice A2 ls.length c2) W) 29, .rd 2 (some ⟨b28, o29, none⟩) rs.length ((rs).flatMap Msg.cells), .rd 4 A2 ls.length ((ls).flatMap Ls.cells) ]) 2 S40 (wn rfl) rfl rfl rfl rfl rfl rfl inf22 rfl (oneAll rfl) (Nat.le_of_ble_eq_true rfl) qRow_s3 rfl ?_
        intro w44 S45
        clear S40
        refine ⟨(St.del 0 (St.del 1 (St.del 2 S45))), ?_⟩
        refine wA_done (by kernel_rfl) ?_
        refine wQ_sub (l' := [(1, .pointer (some ⟨b1, 0, none⟩)), (2, .pointer (some ⟨b4, 0, none⟩)), (3, .pointer (some ⟨b7, 0, none⟩)), (4, .int .i64 ((k : Nat) : Int)), (13, .bool true)]) ⟨rfl, rfl, rfl, rfl, rfl, trivial⟩ ?_
        refine wQ_blk_n ?_
        refine wQ_then ?_
        refine wC_region ?_
        refine wL_val (v := .int .i64 ((k : Nat) : Int)) (wn rfl) rfl rfl (y_move rfl rfl) ?_
        refine wL_val (v := .int .i64 ((k + 1 : Nat) : Int)) (wn rfl) rfl rfl (y_binop rfl rfl rfl (r_add (by omega) (by omega))) ?_
        refine wL_val (v := .int .i64 ((k + 1 : Nat) : Int)) (wn rfl) rfl rfl (y_assign rfl rfl) ?_
        refine wL_nil ?_
        refine wQ_sub (l' := [(1, .pointer (some ⟨b1, 0, none⟩)), (2, .pointer (some ⟨b4, 0, none⟩)), (3, .pointer (some ⟨b7, 0, none⟩)), (4, .int .i64 ((k + 1 : Nat) : Int)), (13, .bool true)]) ⟨rfl, rfl, rfl, rfl, rfl, trivial⟩ ?_
        have S46 : St w.heap.size w w44 [.own 137 2 (.slice A37 (k + 1) c38) (k + 1) ((rs.take (k + 1)).flatMap Msg.cells), .blk b7 (qRow ep nx gv (.slice A37 (k + 1) c38) (.slice none 0 0) W) 29, .blk b4 (qRow 0 0 0 (.slice none 0 0) (.slice none 0 0) zeroWs) 29, .blk b1 (qRow ep nx gv (.slice (some ⟨b28, o29, none⟩) rs.length c1) (.slice A2 ls.length c2) W) 29, .rd 2 (some ⟨b28, o29, none⟩) rs.length ((rs).flatMap Msg.cells), .rd 4 A2 ls.length ((ls).flatMap Ls.cells)] := (St.del 0 S45)
        clear S45
        refine wQ_round (k + 1, A37, c38) ?_ ⟨rfl, rfl, rfl, rfl, trivial⟩ (by first | omega | (dsimp only; omega))
        exact ⟨(by dsimp only; omega), S46⟩
      · refine wN_new (i := 7) (listed' := #[true, false, true, true, true, true, true, true, false, false, false]) rfl rfl (V := fun b => .slice (some ⟨b, 0, none⟩) 1 1) (row := #[.int .i64 x30.no, .int .i64 x30.body]) (t := 137) S23 (wn rfl) rfl rfl (d_buildSlice (vs := [(0, .agg #[.int .i64 x30.no, .int .i64 x30.body])]) rfl ⟨rfl, rfl, trivial⟩ (by kernel_rfl)) ?_
        intro b47 w48 S49
        clear S23
        refine ⟨(St.del 0 (St.del 1 (St.del 2 S49))), ?_⟩
        refine wA_one (n := 3) (r := 1) (by kernel_rfl) ?_
        refine wN_val (i := 1) (listed' := #[true, true, true, true, true, true, true, true, false, false, false]) rfl rfl (v := .slice A9 k c9) (wn rfl) rfl rfl (y_load rfl rfl (r_load Try.underlying22 rfl (St.cl 2 S49 rfl qRow_g3))) ?_
        refine ⟨(St.del 0 (St.del 1 (St.del 2 S49))), ?_⟩
        refine wA_one (n := 2) (r := 8) (by kernel_rfl) ?_
        refine wN_append (i := 8) (listed' := #[true, true, true, true, true, true, true, true, true, false, false]) rfl rfl (news := [.int .i64 x30.no, .int .i64 x30.body]) (xs' := (rs.take (k + 1)).flatMap Msg.cells) 1 S49 (wn rfl) rfl rfl rfl rfl rfl rfl (St.bld (xs := [.int .i64 x30.no, .int .i64 x30.body]) 0 S49 rfl rfl rfl) Try.underlying22 infz137 rfl (by decide) (oneAll rfl) (by simp only [maxLen]; omega) (by omega) (fm_snoc (enc := Msg.cells) (take_snoc_ hx31) rfl) ?_
        intro A50 c51 w52 hc54 hm55 S53
        clear S49
        change St _ _ _ [.blk b47 #[.int .i64 x30.no, .int .i64 x30.body] 137, .own 137 2 (.slice A50 (k + 1) c51) (k + 1) ((rs.take (k + 1)).flatMap Msg.cells), .blk b7 (qRow ep nx gv (.slice A9 k c9) (.slice none 0 0) W) 29, .blk b4 (qRow 0 0 0 (.slice none 0 0) (.slice none 0 0) zeroWs) 29, .blk b1 (qRow ep nx gv (.slice (some ⟨b28, o29, none⟩) rs.length c1) (.slice A2 ls.length c2) W) 29, .rd 2 (some ⟨b28, o29, none⟩) rs.length ((rs).flatMap Msg.cells), .rd 4 A2 ls.length ((ls).flatMap Ls.cells)] at S53
        refine ⟨(St.del 0 (St.del 1 (St.del 2 S53))), ?_⟩
        refine wA_take (v := .pointer (some ⟨b7, 3, none⟩)) (i := 9) (n := 1) (listed' := #[true, true, true, true, true, true, true, true, true, true, false]) rfl (by kernel_rfl) (by kernel_rfl) (by kernel_rfl) (St.del 0 (St.del 1 (St.del 2 S53))) rfl (wn rfl) rfl rfl (fun _ _ => (y_fieldAddr rfl rfl (fa29_3 _ _ _))) ?_
        refine wA_one (n := 0) (r := 10) (by kernel_rfl) ?_
        refine wN_st (i := 10) (listed' := #[true, true, true, true, true, true, true, true, true, true, true]) rfl rfl (cs := #[.slice A50 (k + 1) c51]) (row' := qRow ep nx gv (.slice A50 (k + 1) c51) (.slice none 0 0) W) (fs' := [.blk b47 #[.int .i64 x30.no, .int .i64 x30.body] 137, .own 137 2 (.slice A50 (k + 1) c51) (k + 1) ((rs.take (k + 1)).flatMap Msg.cells), .blk b7 (qRow ep nx gv (.slice A50 (k + 1) c51) (.slice none 0 0) W) 29, .blk b4 (qRow 0 0 0 (.slice none 0 0) (.slice none 0 0) zeroWs) 29, .blk b1 (qRow ep nx gv (.slice (some ⟨b28, o29, none⟩) rs.length c1) (.slice A2 ls.length c2) W) 29, .rd 2 (some ⟨b28, o29, none⟩) rs.length ((rs).flatMap Msg.cells), .rd 4 A2 ls.length ((ls).flatMap Ls.cells) ]) 2 S53 (wn rfl) rfl rfl rfl rfl rfl rfl inf22 rfl (oneAll rfl) (Nat.le_of_ble_eq_true rfl) qRow_s3 rfl ?_
        intro w57 S58
        clear S53
        refine ⟨(St.del 0 (St.del 1 (St.del 2 S58))), ?_⟩
        refine wA_done (by kernel_rfl) ?_
        refine wQ_sub (l' := [(1, .pointer (some ⟨b1, 0, none⟩)), (2, .pointer (some ⟨b4, 0, none⟩)), (3, .pointer (some ⟨b7, 0, none⟩)), (4, .int .i64 ((k : Nat) : Int)), (13, .bool true)]) ⟨rfl, rfl, rfl, rfl, rfl, trivial⟩ ?_
        refine wQ_blk_n ?_
        refine wQ_then ?_
        refine wC_region ?_
        refine wL_val (v := .int .i64 ((k : Nat) : Int)) (wn rfl) rfl rfl (y_move rfl rfl) ?_
        refine wL_val (v := .int .i64 ((k + 1 : Nat) : Int)) (wn rfl) rfl rfl (y_binop rfl rfl rfl (r_add (by omega) (by omega))) ?_
        refine wL_val (v := .int .i64 ((k + 1 : Nat) : Int)) (wn rfl) rfl rfl (y_assign rfl rfl) ?_
        refine wL_nil ?_
        refine wQ_sub (l' := [(1, .pointer (some ⟨b1, 0, none⟩)), (2, .pointer (some ⟨b4, 0, none⟩)), (3, .pointer (some ⟨b7, 0, none⟩)), (4, .int .i64 ((k + 1 : Nat) : Int)), (13, .bool true)]) ⟨rfl, rfl, rfl, rfl, rfl, trivial⟩ ?_
        have S59 : St w.heap.size w w57 [.own 137 2 (.slice A50 (k + 1) c51) (k + 1) ((rs.take (k + 1)).flatMap Msg.cells), .blk b7 (qRow ep nx gv (.slice A50 (k + 1) c51) (.slice none 0 0) W) 29, .blk b4 (qRow 0 0 0 (.slice none 0 0) (.slice none 0 0) zeroWs) 29, .blk b1 (qRow ep nx gv (.slice (some ⟨b28, o29, none⟩) rs.length c1) (.slice A2 ls.length c2) W) 29, .rd 2 (some ⟨b28, o29, none⟩) rs.length ((rs).flatMap Msg.cells), .rd 4 A2 ls.length ((ls).flatMap Ls.cells)] := (St.del 0 S58)
        clear S58
        refine wQ_round (k + 1, A50, c51) ?_ ⟨rfl, rfl, rfl, rfl, trivial⟩ (by first | omega | (dsimp only; omega))
        exact ⟨(by dsimp only; omega), S59⟩
    · refine wL_val (v := .bool false) (wn rfl) rfl rfl (y_binop rfl rfl rfl (r_lss_f h22)) ?_
      refine wL_nil ?_
      refine wQ_sub (l' := [(1, .pointer (some ⟨b1, 0, none⟩)), (2, .pointer (some ⟨b4, 0, none⟩)), (3, .pointer (some ⟨b7, 0, none⟩)), (4, .int .i64 ((k : Nat) : Int)), (13, .bool false)]) ⟨rfl, rfl, rfl, rfl, rfl, trivial⟩ ?_
      refine wQ_then ?_
      refine wC_cond_f rfl ?_
      refine wC_exit ?_
      refine wQ_then_exit ?_
      refine wQ_then_exit ?_
      refine wQ_blk_same ?_
      refine wQ_then ?_
      refine wC_seq ?_
      refine wC_seq ?_
      refine wC_region ?_
      refine wL_val (v := .int .i64 0) (wn rfl) rfl rfl (y_assign rfl rfl) ?_
      refine wL_nil ?_
      refine wQ_then ?_
      refine wC_block ?_
      obtain rfl : k = rs.length := by omega
      have S60 := S20
      clear S20
      rw [List.take_length] at S60
      change St _ _ _ [.own 137 2 (.slice A9 rs.length c9) rs.length ((rs).flatMap Msg.cells), .blk b7 (qRow ep nx gv (.slice A9 rs.length c9) (.slice none 0 0) W) 29, .blk b4 (qRow 0 0 0 (.slice none 0 0) (.slice none 0 0) zeroWs) 29, .blk b1 (qRow ep nx gv (.slice A1 rs.length c1) (.slice A2 ls.length c2) W) 29, .rd 2 A1 rs.length ((rs).flatMap Msg.cells), .rd 4 A2 ls.length ((ls).flatMap Ls.cells)] at S60
      have S61 := S60.nil 141 4
      clear S60
      change St _ _ _ [.own 141 4 (.slice none 0 0) 0 ((ls.take 0).flatMap Ls.cells), .own 137 2 (.slice A9 rs.length c9) rs.length ((rs).flatMap Msg.cells), .blk b7 (qRow ep nx gv (.slice A9 rs.length c9) (.slice none 0 0) W) 29, .blk b4 (qRow 0 0 0 (.slice none 0 0) (.slice none 0 0) zeroWs) 29, .blk b1 (qRow ep nx gv (.slice A1 rs.length c1) (.slice A2 ls.length c2) W) 29, .rd 2 A1 rs.length ((rs).flatMap Msg.cells), .rd 4 A2 ls.length ((ls).flatMap Ls.cells)] at S61
      refine wC_loop (X := Nat × (Option Addr) × Nat) (fun xv => [(1, .pointer (some ⟨b1, 0, none⟩)), (2, .pointer (some ⟨b4, 0, none⟩)), (3, .pointer (some ⟨b7, 0, none⟩)), (5, .int .i64 ((xv.1 : Nat) : Int))]) (fun xv wr => (xv.1 ≤ ls.length) ∧ St w.heap.size w wr [.own 141 4 (.slice xv.2.1 xv.1 xv.2.2) xv.1 ((ls.take xv.1).flatMap Ls.cells), .own 137 2 (.slice A9 rs.length c9) rs.length ((rs).flatMap Msg.cells), .blk b7 (qRow ep nx gv (.slice A9 rs.length c9) (.slice xv.2.1 xv.1 xv.2.2) W) 29, .blk b4 (qRow 0 0 0 (.slice none 0 0) (.slice none 0 0) zeroWs) 29, .blk b1 (qRow ep nx gv (.slice A1 rs.length c1) (.slice A2 ls.length c2) W) 29, .rd 2 A1 rs.length ((rs).flatMap Msg.cells), .rd 4 A2 ls.length ((ls).flatMap Ls.cells)]) (fun xv => ls.length - xv.1) (0, none, 0) ?_ ?_ ?_
      · exact ⟨Nat.zero_le _, S61⟩
      · exact ⟨rfl, rfl, rfl, rfl, trivial⟩
      · rintro ⟨k, Ab, cb⟩ w63 ⟨hi65, S64⟩
        try dsimp only at hi65 S64
        clear S61
        refine wC_sub (l' := [(1, .pointer (some ⟨b1, 0, none⟩)), (2, .pointer (some ⟨b4, 0, none⟩)), (3, .pointer (some ⟨b7, 0, none⟩)), (5, .int .i64 ((k : Nat) : Int))]) ⟨rfl, rfl, rfl, rfl, trivial⟩ ?_
        refine wC_seq ?_
        refine wC_seq ?_
        refine wC_region ?_
        refine wL_val (v := .int .i64 ((k : Nat) : Int)) (wn rfl) rfl rfl (y_move rfl rfl) ?_
        refine wL_val (v := .pointer (some ⟨b1, 4, none⟩)) (wn rfl) rfl rfl (y_fieldAddr rfl rfl (fa29_4 _ _ _)) ?_
        refine wL_val (v := .slice A2 ls.length c2) (wn rfl) rfl rfl (y_load rfl rfl (r_load Try.underlying23 rfl (St.cl 4 S64 rfl qRow_g4))) ?_
        refine wL_val (v := .int .i64 ((ls.length : Nat) : Int)) (wn rfl) rfl rfl (y_builtin (vs := [.slice A2 ls.length c2]) rfl ⟨rfl, trivial⟩ fun _ => r_len rfl Try.underlying23) ?_
        by_cases h66 : ((k : Nat) : Int) < ((ls.length : Nat) : Int)
        · refine wL_val (v := .bool true) (wn rfl) rfl rfl (y_binop rfl rfl rfl (r_lss_t h66)) ?_
          refine wL_nil ?_
          refine wQ_sub (l' := [(1, .pointer (some ⟨b1, 0, none⟩)), (2, .pointer (some ⟨b4, 0, none⟩)), (3, .pointer (some ⟨b7, 0, none⟩)), (5, .int .i64 ((k : Nat) : Int)), (30, .bool true)]) ⟨rfl, rfl, rfl, rfl, rfl, trivial⟩ ?_
          refine wQ_then ?_
          refine wC_cond_t rfl ?_
          refine wC_skip ?_
          refine wQ_then ?_
          refine wC_seq ?_
          refine wC_block ?_
          have S67 := S64.drew
          clear S64
          refine wC_any_ (C := fun w' => St w.heap.size w w' [.own 137 2 (.slice A9 rs.length c9) rs.length ((rs).flatMap Msg.cells), .blk b4 (qRow 0 0 0 (.slice none 0 0) (.slice none 0 0) zeroWs) 29, .blk b1 (qRow ep nx gv (.slice A1 rs.length c1) (.slice A2 ls.length c2) W) 29, .rd 2 A1 rs.length ((rs).flatMap Msg.cells), .rd 4 A2 ls.length ((ls).flatMap Ls.cells)]) (n := 11) (listed := #[false, false, false, false, false, false, false, false, false, false, false]) mixed rfl rfl ?_
          refine wA_take (v := .pointer (some ⟨b7, 4, none⟩)) (i := 0) (n := 10) (listed' := #[true, false, false, false, false, false, false, false, false, false, false]) rfl (by kernel_rfl) (by kernel_rfl) (by kernel_rfl) (St.del 0 (St.del 2 S67)) rfl (wn rfl) rfl rfl (fun _ _ => (y_fieldAddr rfl rfl (fa29_4 _ _ _))) ?_
          refine wA_take (v := .pointer (some ⟨b1, 4, none⟩)) (i := 2) (n := 9) (listed' := #[true, false, true, false, false, false, false, false, false, false, false]) rfl (by kernel_rfl) (by kernel_rfl) (by kernel_rfl) (St.del 0 (St.del 2 S67)) rfl (wn rfl) rfl rfl (fun _ _ => (y_fieldAddr rfl rfl (fa29_4 _ _ _))) ?_
          refine wA_take (v := .slice A2 ls.length c2) (i := 3) (n := 8) (listed' := #[true, false, true, true, false, false, false, false, false, false, false]) rfl (by kernel_rfl) (by kernel_rfl) (by kernel_rfl) (St.del 0 (St.del 2 S67)) rfl (wn rfl) rfl rfl (fun _ Sx70 => (y_load rfl rfl (r_load Try.underlying23 rfl (St.cl 2 Sx70 rfl qRow_g4)))) ?_
          refine wA_take (v := .int .i64 ((k : Nat) : Int)) (i := 4) (n := 7) (listed' := #[true, false, true, true, true, false, false, false, false, false, false]) rfl (by kernel_rfl) (by kernel_rfl) (by kernel_rfl) (St.del 0 (St.del 2 S67)) rfl (wn rfl) rfl rfl (fun _ _ => (y_move rfl rfl)) ?_
          obtain ⟨b72, o73, rfl⟩ := Rd.addr (St.rd 6 S67 rfl) (by omega)
          obtain ⟨x74, hx75⟩ : ∃ x, (ls)[k]? = some x := ⟨_, List.getElem?_eq_getElem (by have := (St.rd 6 S67 rfl).1; rw [fm_len (sz := 4) (fun _ => rfl)] at this; omega)⟩
          refine wA_take (v := .pointer (some ⟨b72, o73 + k * 4, none⟩)) (i := 5) (n := 6) (listed' := #[true, false, true, true, true, true, false, false, false, false, false]) rfl (by kernel_rfl) (by kernel_rfl) (by kernel_rfl) (St.del 0 (St.del 2 S67)) rfl (wn rfl) rfl rfl (fun _ _ => (y_indexAddr rfl rfl rfl (r_indexAddr k Try.underlying23 inf141 (by omega) (by omega)))) ?_
          refine wA_take (v := .agg #[.int .i64 x74.hep, .int .i64 x74.hno, .int .i64 x74.msg.no, .int .i64 x74.msg.body]) (i := 6) (n := 5) (listed' := #[true, false, true, true, true, true, true, false, false, false, false]) rfl (by kernel_rfl) (by kernel_rfl) (by kernel_rfl) (St.del 0 (St.del 2 S67)) rfl (wn rfl) rfl rfl (fun _ Sx77 => (y_load rfl rfl (r_load_agg (cs := Ls.cells x74) Try.underlying141 rfl inf141 rfl (Rd.rg2 (St.rd 4 Sx77 rfl) (fun _ _ h => fm_get (enc := Ls.cells) (sz := 4) (fun _ => rfl) hx75 h))))) ?_
          refine wA_two (n := 4) (r := 1) (s := 7) (by kernel_rfl) ?_ ?_
          · refine wN_val (i := 1) (listed' := #[true, true, true, true, true, true, true, false, false, false, false]) rfl rfl (v := .slice Ab k cb) (wn rfl) rfl rfl (y_load rfl rfl (r_load Try.underlying23 rfl (St.cl 2 S67 rfl qRow_g4))) ?_
            refine ⟨(St.del 0 (St.del 2 S67)), ?_⟩
            refine wA_one (n := 3) (r := 7) (by kernel_rfl) ?_
            refine wN_new (i := 7) (listed' := #[true, true, true, true, true, true, true, true, false, false, false]) rfl rfl (V := fun b => .slice (some ⟨b, 0, none⟩) 1 1) (row := #[.int .i64 x74.hep, .int .i64 x74.hno, .int .i64 x74.msg.no, .int .i64 x74.msg.body]) (t := 141) S67 (wn rfl) rfl rfl (d_buildSlice (vs := [(0, .agg #[.int .i64 x74.hep, .int .i64 x74.hno, .int .i64 x74.msg.no, .int .i64 x74.msg.body])]) rfl ⟨rfl, rfl, trivial⟩ (by kernel_rfl)) ?_
            intro b78 w79 S80
            clear S67
            refine ⟨(St.del 0 (St.del 1 (St.del 3 S80))), ?_⟩
            refine wA_one (n := 2) (r := 8) (by kernel_rfl) ?_
            refine wN_append (i := 8) (listed' := #[true, true, true, true, true, true, true, true, true, false, false]) rfl rfl (news := [.int .i64 x74.hep, .int .i64 x74.hno, .int .i64 x74.msg.no, .int .i64 x74.msg.body]) (xs' := (ls.take (k + 1)).flatMap Ls.cells) 1 S80 (wn rfl) rfl rfl rfl rfl rfl rfl (St.bld (xs := [.int .i64 x74.hep, .int .i64 x74.hno, .int .i64 x74.msg.no, .int .i64 x74.msg.body]) 0 S80 rfl rfl rfl) Try.underlying23 infz141 rfl (by decide) (oneAll rfl) (by simp only [maxLen]; omega) (by omega) (fm_snoc (enc := Ls.cells) (take_snoc_ hx75) rfl) ?_
            intro A81 c82 w83 hc85 hm86 S84
            clear S80
            change St _ _ _ [.blk b78 #[.int .i64 x74.hep, .int .i64 x74.hno, .int .i64 x74.msg.no, .int .i64 x74.msg.body] 141, .own 141 4 (.slice A81 (k + 1) c82) (k + 1) ((ls.take (k + 1)).flatMap Ls.cells), .own 137 2 (.slice A9 rs.length c9) rs.length ((rs).flatMap Msg.cells), .blk b7 (qRow ep nx gv (.slice A9 rs.length c9) (.slice Ab k cb) W) 29, .blk b4 (qRow 0 0 0 (.slice none 0 0) (.slice none 0 0) zeroWs) 29, .blk b1 (qRow ep nx gv (.slice A1 rs.length c1) (.slice (some ⟨b72, o73, none⟩) ls.length c2) W) 29, .rd 2 A1 rs.length ((rs).flatMap Msg.cells), .rd 4 (some ⟨b72, o73, none⟩) ls.length ((ls).flatMap Ls.cells)] at S84
            refine ⟨(St.del 0 (St.del 1 (St.del 3 S84))), ?_⟩
            refine wA_take (v := .pointer (some ⟨b7, 4, none⟩)) (i := 9) (n := 1) (listed' := #[true, true, true, true, true, true, true, true, true, true, false]) rfl (by kernel_rfl) (by kernel_rfl) (by kernel_rfl) (St.del 0 (St.del 1 (St.del 3 S84))) rfl (wn rfl) rfl rfl (fun _ _ => (y_fieldAddr rfl rfl (fa29_4 _ _ _))) ?_
            refine wA_one (n := 0) (r := 10) (by kernel_rfl) ?_
            refine wN_st (i := 10) (listed' := #[true, true, true, true, true, true, true, true, true, true, true]) rfl rfl (cs := #[.slice A81 (k + 1) c82]) (row' := qRow ep nx gv (.slice A9 rs.length c9) (.slice A81 (k + 1) c82) W) (fs' := [.blk b78 #[.int .i64 x74.hep, .int .i64 x74.hno, .int .i64 x74.msg.no, .int .i64 x74.msg.body] 141, .own 141 4 (.slice A81 (k + 1) c82) (k + 1) ((ls.take (k + 1)).flatMap Ls.cells), .own 137 2 (.slice A9 rs.length c9) rs.length ((rs).flatMap Msg.cells), .blk b7 (qRow ep nx gv (.slice A9 rs.length c9) (.slice A81 (k + 1) c82) W) 29, .blk b4 (qRow 0 0 0 (.slice none 0 0) (.slice none 0 0) zeroWs) 29, .blk b1 (qRow ep nx gv (.slice A1 rs.length c1) (.slice (some ⟨b72, o73, none⟩) ls.length c2) W) 29, .rd 2 A1 rs.length ((rs).flatMap Msg.cells), .rd 4 (some ⟨b72, o73, none⟩) ls.length ((ls).flatMap Ls.cells) ]) 3 S84 (wn rfl) rfl rfl rfl rfl rfl rfl inf23 rfl (oneAll rfl) (Nat.le_of_ble_eq_true rfl) qRow_s4 rfl ?_
            intro w88 S89
            clear S84
            refine ⟨(St.del 0 (St.del 1 (St.del 3 S89))), ?_⟩
            refine wA_done (by kernel_rfl) ?_
            refine wQ_sub (l' := [(1, .pointer (some ⟨b1, 0, none⟩)), (2, .pointer (some ⟨b4, 0, none⟩)), (3, .pointer (some ⟨b7, 0, none⟩)), (5, .int .i64 ((k : Nat) : Int)), (30, .bool true)]) ⟨rfl, rfl, rfl, rfl, rfl, trivial⟩ ?_
            refine wQ_blk_n ?_
            refine wQ_then ?_
            refine wC_region ?_
            refine wL_val (v := .int .i64 ((k : Nat) : Int)) (wn rfl) rfl rfl (y_move rfl rfl) ?_
            refine wL_val (v := .int .i64 ((k + 1 : Nat) : Int)) (wn rfl) rfl rfl (y_binop rfl rfl rfl (r_add (by omega) (by omega))) ?_
            refine wL_val (v := .int .i64 ((k + 1 : Nat) : Int)) (wn rfl) rfl rfl (y_assign rfl rfl) ?_
            refine wL_nil ?_
            refine wQ_sub (l' := [(1, .pointer (some ⟨b1, 0, none⟩)), (2, .pointer (some ⟨b4, 0, none⟩)), (3, .pointer (some ⟨b7, 0, none⟩)), (5, .int .i64 ((k + 1 : Nat) : Int)), (30, .bool true)]) ⟨rfl, rfl, rfl, rfl, rfl, trivial⟩ ?_
            have S90 : St w.heap.size w w88 [.own 141 4 (.slice A81 (k + 1) c82) (k + 1) ((ls.take (k + 1)).flatMap Ls.cells), .own 137 2 (.slice A9 rs.length c9) rs.length ((rs).flatMap Msg.cells), .blk b7 (qRow ep nx gv (.slice A9 rs.length c9) (.slice A81 (k + 1) c82) W) 29, .blk b4 (qRow 0 0 0 (.slice none 0 0) (.slice none 0 0) zeroWs) 29, .blk b1 (qRow ep nx gv (.slice A1 rs.length c1) (.slice (some ⟨b72, o73, none⟩) ls.length c2) W) 29, .rd 2 A1 rs.length ((rs).flatMap Msg.cells), .rd 4 (some ⟨b72, o73, none⟩) ls.length ((ls).flatMap Ls.cells)] := (St.del 0 S89)
            clear S89
            refine wQ_round (k + 1, A81, c82) ?_ ⟨rfl, rfl, rfl, rfl, trivial⟩ (by first | omega | (dsimp only; omega))
            exact ⟨(by dsimp only; omega), S90⟩
          · refine wN_new (i := 7) (listed' := #[true, false, true, true, true, true, true, true, false, false, false]) rfl rfl (V := fun b => .slice (some ⟨b, 0, none⟩) 1 1) (row := #[.int .i64 x74.hep, .int .i64 x74.hno, .int .i64 x74.msg.no, .int .i64 x74.msg.body]) (t := 141) S67 (wn rfl) rfl rfl (d_buildSlice (vs := [(0, .agg #[.int .i64 x74.hep, .int .i64 x74.hno, .int .i64 x74.msg.no, .int .i64 x74.msg.body])]) rfl ⟨rfl, rfl, trivial⟩ (by kernel_rfl)) ?_
            intro b91 w92 S93
            clear S67
            refine ⟨(St.del 0 (St.del 1 (St.del 3 S93))), ?_⟩
            refine wA_one (n := 3) (r := 1) (by kernel_rfl) ?_
            refine wN_val (i := 1) (listed' := #[true, true, true, true, true, true, true, true, false, false, false]) rfl rfl (v := .slice Ab k cb) (wn rfl) rfl rfl (y_load rfl rfl (r_load Try.underlying23 rfl (St.cl 3 S93 rfl qRow_g4))) ?_
            refine ⟨(St.del 0 (St.del 1 (St.del 3 S93))), ?_⟩
            refine wA_one (n := 2) (r := 8) (by kernel_rfl) ?_
            refine wN_append (i := 8) (listed' := #[true, true, true, true, true, true, true, true, true, false, false]) rfl rfl (news := [.int .i64 x74.hep, .int .i64 x74.hno, .int .i64 x74.msg.no, .int .i64 x74.msg.body]) (xs' := (ls.take (k + 1)).flatMap Ls.cells) 1 S93 (wn rfl) rfl rfl rfl rfl rfl rfl (St.bld (xs := [.int .i64 x74.hep, .int .i64 x74.hno, .int .i64 x74.msg.no, .int .i64 x74.msg.body]) 0 S93 rfl rfl rfl) Try.underlying23 infz141 rfl (by decide) (oneAll rfl) (by simp only [maxLen]; omega) (by omega) (fm_snoc (enc := Ls.cells) (take_snoc_ hx75) rfl) ?_
            intro A94 c95 w96 hc98 hm99 S97
            clear S93
            change St _ _ _ [.blk b91 #[.int .i64 x74.hep, .int .i64 x74.hno, .int .i64 x74.msg.no, .int .i64 x74.msg.body] 141, .own 141 4 (.slice A94 (k + 1) c95) (k + 1) ((ls.take (k + 1)).flatMap Ls.cells), .own 137 2 (.slice A9 rs.length c9) rs.length ((rs).flatMap Msg.cells), .blk b7 (qRow ep nx gv (.slice A9 rs.length c9) (.slice Ab k cb) W) 29, .blk b4 (qRow 0 0 0 (.slice none 0 0) (.slice none 0 0) zeroWs) 29, .blk b1 (qRow ep nx gv (.slice A1 rs.length c1) (.slice (some ⟨b72, o73, none⟩) ls.length c2) W) 29, .rd 2 A1 rs.length ((rs).flatMap Msg.cells), .rd 4 (some ⟨b72, o73, none⟩) ls.length ((ls).flatMap Ls.cells)] at S97
            refine ⟨(St.del 0 (St.del 1 (St.del 3 S97))), ?_⟩
            refine wA_take (v := .pointer (some ⟨b7, 4, none⟩)) (i := 9) (n := 1) (listed' := #[true, true, true, true, true, true, true, true, true, true, false]) rfl (by kernel_rfl) (by kernel_rfl) (by kernel_rfl) (St.del 0 (St.del 1 (St.del 3 S97))) rfl (wn rfl) rfl rfl (fun _ _ => (y_fieldAddr rfl rfl (fa29_4 _ _ _))) ?_
            refine wA_one (n := 0) (r := 10) (by kernel_rfl) ?_
            refine wN_st (i := 10) (listed' := #[true, true, true, true, true, true, true, true, true, true, true]) rfl rfl (cs := #[.slice A94 (k + 1) c95]) (row' := qRow ep nx gv (.slice A9 rs.length c9) (.slice A94 (k + 1) c95) W) (fs' := [.blk b91 #[.int .i64 x74.hep, .int .i64 x74.hno, .int .i64 x74.msg.no, .int .i64 x74.msg.body] 141, .own 141 4 (.slice A94 (k + 1) c95) (k + 1) ((ls.take (k + 1)).flatMap Ls.cells), .own 137 2 (.slice A9 rs.length c9) rs.length ((rs).flatMap Msg.cells), .blk b7 (qRow ep nx gv (.slice A9 rs.length c9) (.slice A94 (k + 1) c95) W) 29, .blk b4 (qRow 0 0 0 (.slice none 0 0) (.slice none 0 0) zeroWs) 29, .blk b1 (qRow ep nx gv (.slice A1 rs.length c1) (.slice (some ⟨b72, o73, none⟩) ls.length c2) W) 29, .rd 2 A1 rs.length ((rs).flatMap Msg.cells), .rd 4 (some ⟨b72, o73, none⟩) ls.length ((ls).flatMap Ls.cells) ]) 3 S97 (wn rfl) rfl rfl rfl rfl rfl rfl inf23 rfl (oneAll rfl) (Nat.le_of_ble_eq_true rfl) qRow_s4 rfl ?_
            intro w101 S102
            clear S97
            refine ⟨(St.del 0 (St.del 1 (St.del 3 S102))), ?_⟩
            refine wA_done (by kernel_rfl) ?_
            refine wQ_sub (l' := [(1, .pointer (some ⟨b1, 0, none⟩)), (2, .pointer (some ⟨b4, 0, none⟩)), (3, .pointer (some ⟨b7, 0, none⟩)), (5, .int .i64 ((k : Nat) : Int)), (30, .bool true)]) ⟨rfl, rfl, rfl, rfl, rfl, trivial⟩ ?_
            refine wQ_blk_n ?_
            refine wQ_then ?_
            refine wC_region ?_
            refine wL_val (v := .int .i64 ((k : Nat) : Int)) (wn rfl) rfl rfl (y_move rfl rfl) ?_
            refine wL_val (v := .int .i64 ((k + 1 : Nat) : Int)) (wn rfl) rfl rfl (y_binop rfl rfl rfl (r_add (by omega) (by omega))) ?_
            refine wL_val (v := .int .i64 ((k + 1 : Nat) : Int)) (wn rfl) rfl rfl (y_assign rfl rfl) ?_
            refine wL_nil ?_
            refine wQ_sub (l' := [(1, .pointer (some ⟨b1, 0, none⟩)), (2, .pointer (some ⟨b4, 0, none⟩)), (3, .pointer (some ⟨b7, 0, none⟩)), (5, .int .i64 ((k + 1 : Nat) : Int)), (30, .bool true)]) ⟨rfl, rfl, rfl, rfl, rfl, trivial⟩ ?_
            have S103 : St w.heap.size w w101 [.own 141 4 (.slice A94 (k + 1) c95) (k + 1) ((ls.take (k + 1)).flatMap Ls.cells), .own 137 2 (.slice A9 rs.length c9) rs.length ((rs).flatMap Msg.cells), .blk b7 (qRow ep nx gv (.slice A9 rs.length c9) (.slice A94 (k + 1) c95) W) 29, .blk b4 (qRow 0 0 0 (.slice none 0 0) (.slice none 0 0) zeroWs) 29, .blk b1 (qRow ep nx gv (.slice A1 rs.length c1) (.slice (some ⟨b72, o73, none⟩) ls.length c2) W) 29, .rd 2 A1 rs.length ((rs).flatMap Msg.cells), .rd 4 (some ⟨b72, o73, none⟩) ls.length ((ls).flatMap Ls.cells)] := (St.del 0 S102)
            clear S102
            refine wQ_round (k + 1, A94, c95) ?_ ⟨rfl, rfl, rfl, rfl, trivial⟩ (by first | omega | (dsimp only; omega))
            exact ⟨(by dsimp only; omega), S103⟩
        · refine wL_val (v := .bool false) (wn rfl) rfl rfl (y_binop rfl rfl rfl (r_lss_f h66)) ?_
          refine wL_nil ?_
          refine wQ_sub (l' := [(1, .pointer (some ⟨b1, 0, none⟩)), (2, .pointer (some ⟨b4, 0, none⟩)), (3, .pointer (some ⟨b7, 0, none⟩)), (5, .int .i64 ((k : Nat) : Int)), (30, .bool false)]) ⟨rfl, rfl, rfl, rfl, rfl, trivial⟩ ?_
          refine wQ_then ?_
          refine wC_cond_f rfl ?_
          refine wC_exit ?_
          refine wQ_then_exit ?_
          refine wQ_then_exit ?_
          refine wQ_blk_same ?_
          refine wQ_then ?_
          refine wC_seq ?_
          refine wC_region ?_
          obtain rfl : k = ls.length := by omega
          have S104 := S64
          clear S64
          rw [List.take_length] at S104
          change St _ _ _ [.own 141 4 (.slice Ab ls.length cb) ls.length ((ls).flatMap Ls.cells), .own 137 2 (.slice A9 rs.length c9) rs.length ((rs).flatMap Msg.cells), .blk b7 (qRow ep nx gv (.slice A9 rs.length c9) (.slice Ab ls.length cb) W) 29, .blk b4 (qRow 0 0 0 (.slice none 0 0) (.slice none 0 0) zeroWs) 29, .blk b1 (qRow ep nx gv (.slice A1 rs.length c1) (.slice A2 ls.length c2) W) 29, .rd 2 A1 rs.length ((rs).flatMap Msg.cells), .rd 4 A2 ls.length ((ls).flatMap Ls.cells)] at S104
          refine wL_val (v := .agg (qRow ep nx gv (.slice A9 rs.length c9) (.slice Ab ls.length cb) W)) (wn rfl) rfl rfl (y_load rfl rfl (r_load_row 2 S104 rfl Try.underlying29 rfl inf29 rfl)) ?_
          refine wL_st (cs := qRow ep nx gv (.slice A9 rs.length c9) (.slice Ab ls.length cb) W) (row' := qRow ep nx gv (.slice A9 rs.length c9) (.slice Ab ls.length cb) W) (fs' := [.own 141 4 (.slice Ab ls.length cb) ls.length ((ls).flatMap Ls.cells), .own 137 2 (.slice A9 rs.length c9) rs.length ((rs).flatMap Msg.cells), .blk b7 (qRow ep nx gv (.slice A9 rs.length c9) (.slice Ab ls.length cb) W) 29, .blk b4 (qRow ep nx gv (.slice A9 rs.length c9) (.slice Ab ls.length cb) W) 29, .blk b1 (qRow ep nx gv (.slice A1 rs.length c1) (.slice A2 ls.length c2) W) 29, .rd 2 A1 rs.length ((rs).flatMap Msg.cells), .rd 4 A2 ls.length ((ls).flatMap Ls.cells) ]) 3 S104 (wn rfl) rfl rfl rfl rfl rfl rfl inf29 rfl (qRow_one rfl rfl) (Nat.le_of_ble_eq_true rfl) (setAll_all rfl) rfl ?_
          intro w105 S106
          clear S104
          refine wL_nil ?_
          refine wQ_sub (l' := [(1, .pointer (some ⟨b1, 0, none⟩)), (2, .pointer (some ⟨b4, 0, none⟩)), (3, .pointer (some ⟨b7, 0, none⟩)), (5, .int .i64 ((ls.length : Nat) : Int)), (30, .bool false)]) ⟨rfl, rfl, rfl, rfl, rfl, trivial⟩ ?_
          refine wQ_then ?_
          refine wC_ret ?_
          refine wQ_post (rs := [.cell 2 29]) (vs := [.agg (qRow ep nx gv (.slice A9 rs.length c9) (.slice Ab ls.length cb) W)]) rfl ⟨⟨_, rfl, res_row 3 S106 rfl Try.underlying29 rfl inf29⟩, trivial⟩ ?_
          have S107 : St w.heap.size w w105 [.own 141 4 (.slice Ab ls.length cb) ls.length ((ls).flatMap Ls.cells), .own 137 2 (.slice A9 rs.length c9) rs.length ((rs).flatMap Msg.cells)] := (St.del 2 (St.del 3 (St.del 4 (St.del 5 (St.del 6 S106)))))
          clear S106
          exact ⟨_, _, _, _, rfl, S107⟩
end Go.Proofs.Ytkjlafpafmihaaa
