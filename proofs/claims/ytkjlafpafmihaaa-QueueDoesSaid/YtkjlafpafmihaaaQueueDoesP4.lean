/- Parts of the proof of QueueDoes: lemmas on memory, on single functions and on the plain models; no condition of their own. -/
import Derived.Test.YtkjlafpafmihaaaQueueDoesP0
import Derived.Test.YtkjlafpafmihaaaQueueDoesP1
import Derived.Test.YtkjlafpafmihaaaQueueDoesP3

namespace Go.Proofs.Ytkjlafpafmihaaa
open Go.ChangeShapes Go.WideShapes Go.RowKit

theorem IdTaken_below (x : Win) (id : Int) (w : World) : Calls Try.prog 150 #[.agg x.cells.toArray, .int .i64 id] w fun e w' => e = .returned (.tuple #[.agg (takeW x id).1.cells.toArray, .bool (takeW x id).2.1, .int .i64 (takeW x id).2.2]) ∧ Below w.heap.size w w' := (IdTaken_calls x id w).mono fun _ _ h => h

set_option maxRecDepth 100000 in
set_option maxHeartbeats 2000000 in
theorem messageIn_calls (A : Option Addr) (c : Nat) (l : List Msg) (m : Msg) (w : World) (h : Rd w w.heap.size 2 A l.length (l.flatMap Msg.cells)) (hl : l.length ≤ 100000) :
    Calls Try.prog 151 #[.slice A l.length c, .agg #[.int .i64 m.no, .int .i64 m.body]] w (OwnPost w 137 2 (l.length + 1) ((putMsg m l).flatMap Msg.cells)) := by
  have S := (St.start w).addRd h
  clear h
  refine calls_of_wC (N := 44) (vs := [.slice A l.length c, .agg #[.int .i64 m.no, .int .i64 m.body]]) Try.func151 rfl rfl rfl ?_
  refine wC_sub (l' := [(0, .slice A l.length c), (1, .agg #[.int .i64 m.no, .int .i64 m.body])]) ⟨rfl, rfl, trivial⟩ ?_
  refine wC_seq ?_
  refine wC_region ?_
  refine wL_new (V := fun b => .pointer (some ⟨b, 0, none⟩)) (row := #[.int .i64 m.no, .int .i64 m.body]) (t := 137) S (wn rfl) rfl rfl (d_box rfl rfl rfl) ?_
  intro b1 w2 S3
  clear S
  refine wL_val (v := .slice none 0 0) (wn rfl) rfl rfl (y_assign rfl rfl) ?_
  refine wL_nil ?_
  refine wQ_sub (l' := [(0, _), (3, _), (4, _)]) ⟨rfl, rfl, rfl, trivial⟩ ?_
  refine wQ_then ?_
  refine wC_seq ?_
  refine wC_region ?_
  refine wL_val (v := .slice none 0 0) (wn rfl) rfl rfl (y_assign rfl rfl) ?_
  refine wL_nil ?_
  refine wQ_then ?_
  refine wC_seq ?_
  refine wC_region ?_
  refine wL_val (v := .bool false) (wn rfl) rfl rfl (y_assign rfl rfl) ?_
  refine wL_nil ?_
  refine wQ_then ?_
  refine wC_seq ?_
  refine wC_seq ?_
  refine wC_region ?_
  refine wL_val (v := .int .i64 0) (wn rfl) rfl rfl (y_assign rfl rfl) ?_
  refine wL_nil ?_
  refine wQ_then ?_
  refine wC_block ?_
  have S4 := S3.nil 137 2
  clear S3
  change St _ _ _ [.own 137 2 (.slice none 0 0) 0 (([]).flatMap Msg.cells), .blk b1 #[.int .i64 m.no, .int .i64 m.body] 137, .rd 2 A l.length ((l).flatMap Msg.cells)] at S4
  refine wC_loop (X := Nat × (Option Addr) × Nat × (List Msg) × Nat × Bool) (fun xv => [(0, .slice A l.length c), (3, .pointer (some ⟨b1, 0, none⟩)), (4, .slice none 0 0), (5, .slice xv.2.1 xv.2.2.2.2.1 xv.2.2.1), (6, .bool xv.2.2.2.2.2), (7, .int .i64 ((xv.1 : Nat) : Int))]) (fun xv wr => (xv.1 ≤ l.length) ∧ (putMsg m l = xv.2.2.2.1 ++ putRest m (l.drop xv.1) xv.2.2.2.2.2) ∧ (xv.2.2.2.2.1 = xv.2.2.2.1.length) ∧ (xv.2.2.2.2.1 = xv.1 + xv.2.2.2.2.2.toNat) ∧ St w.heap.size w wr [.own 137 2 (.slice xv.2.1 xv.2.2.2.2.1 xv.2.2.1) xv.2.2.2.2.1 ((xv.2.2.2.1).flatMap Msg.cells), .blk b1 #[.int .i64 m.no, .int .i64 m.body] 137, .rd 2 A l.length ((l).flatMap Msg.cells)]) (fun xv => l.length - xv.1) (0, none, 0, [], 0, false) ?_ ?_ ?_
  · exact ⟨Nat.zero_le _, rfl, rfl, rfl, S4⟩
  · exact ⟨rfl, rfl, rfl, rfl, rfl, rfl, trivial⟩
  · rintro ⟨k, Ab, cb, out, n, dn⟩ w5 ⟨hi7, hi8, hi9, hi10, S6⟩
    try dsimp only at hi7 hi8 hi9 hi10 S6
    clear S4
    refine wC_sub (l' := [(0, .slice A l.length c), (3, .pointer (some ⟨b1, 0, none⟩)), (4, .slice none 0 0), (5, .slice Ab n cb), (6, .bool dn), (7, .int .i64 ((k : Nat) : Int))]) ⟨rfl, rfl, rfl, rfl, rfl, rfl, trivial⟩ ?_
    refine wC_seq ?_
    refine wC_seq ?_
    refine wC_region ?_
    refine wL_val (v := .int .i64 ((k : Nat) : Int)) (wn rfl) rfl rfl (y_move rfl rfl) ?_
    refine wL_val (v := .slice A l.length c) (wn rfl) rfl rfl (y_move rfl rfl) ?_
    refine wL_val (v := .int .i64 ((l.length : Nat) : Int)) (wn rfl) rfl rfl (y_builtin (vs := [.slice A l.length c]) rfl ⟨rfl, trivial⟩ fun _ => r_len rfl Try.underlying22) ?_
    by_cases h11 : ((k : Nat) : Int) < ((l.length : Nat) : Int)
    · refine wL_val (v := .bool true) (wn rfl) rfl rfl (y_binop rfl rfl rfl (r_lss_t h11)) ?_
      refine wL_nil ?_
      refine wQ_sub (l' := [(0, _), (3, _), (4, _), (5, _), (6, _), (7, _), (11, _)]) ⟨rfl, rfl, rfl, rfl, rfl, rfl, rfl, trivial⟩ ?_
      refine wQ_then ?_
      refine wC_cond_t rfl ?_
      refine wC_skip ?_
      refine wQ_then ?_
      refine wC_seq ?_
      refine wC_block ?_
      refine wC_seq ?_
      refine wC_seq ?_
      refine wC_quiet S6 mixed (by kernel_rfl) ?_
      refine wU_val (v := .bool dn) (wn rfl) rfl rfl (fun _ _ => (y_move rfl rfl)) ?_
      cases dn with
      | false =>
        have hn3 := hi10
        simp at hn3
        refine wU_val (v := .bool true) (wn rfl) rfl rfl (fun _ _ => (y_unop rfl rfl r_not)) ?_
        refine wU_val (v := .bool true) (wn rfl) rfl rfl (fun _ _ => (y_move rfl rfl)) ?_
        refine wU_val (v := .slice A l.length c) (wg rfl rfl rfl rfl) rfl rfl (fun _ _ => (y_move rfl rfl)) ?_
        refine wU_val (v := .int .i64 ((k : Nat) : Int)) (wg rfl rfl rfl rfl) rfl rfl (fun _ _ => (y_move rfl rfl)) ?_
        obtain ⟨b17, o18, rfl⟩ := Rd.addr (St.rd 2 S6 rfl) (by omega)
        obtain ⟨x19, hx20⟩ : ∃ x, (l)[k]? = some x := ⟨_, List.getElem?_eq_getElem (by have := (St.rd 2 S6 rfl).1; rw [fm_len (sz := 2) (fun _ => rfl)] at this; omega)⟩
        refine wU_val (v := .pointer (some ⟨b17, o18 + k * 2, none⟩)) (wg rfl rfl rfl rfl) rfl rfl (fun _ _ => (y_indexAddr rfl rfl rfl (r_indexAddr k Try.underlying22 inf137 (by omega) (by omega)))) ?_
        refine wU_val (v := .pointer (some ⟨b17, o18 + k * 2, none⟩)) (wg rfl rfl rfl rfl) rfl rfl (fun _ _ => (y_fieldAddr rfl rfl (fa137_0 _ _ _))) ?_
        refine wU_val (v := .int .i64 x19.no) (wg rfl rfl rfl rfl) rfl rfl (fun _ Sx23 => (y_load rfl rfl (r_load Try.underlying3 rfl (Rd.cl2 (i := 0) (St.rd 2 Sx23 rfl) (fm_get (enc := Msg.cells) (sz := 2) (fun _ => rfl) hx20 rfl))))) ?_
        refine wU_val (v := .pointer (some ⟨b1, 0, none⟩)) (wg rfl rfl rfl rfl) rfl rfl (fun _ _ => (y_fieldAddr rfl rfl (fa137_0 _ _ _))) ?_
        refine wU_val (v := .int .i64 m.no) (wg rfl rfl rfl rfl) rfl rfl (fun _ Sx25 => (y_load rfl rfl (r_load Try.underlying3 rfl (St.cl 1 Sx25 rfl rfl)))) ?_
        by_cases hlt : m.no < x19.no
        · refine wU_val (v := .bool true) (wg rfl rfl rfl rfl) rfl rfl (fun _ _ => (y_binop rfl rfl rfl (r_gtr_t hlt))) ?_
          refine wU_val (v := .bool true) (wn rfl) rfl rfl (fun _ _ => (y_pick_t rfl rfl rfl)) ?_
          refine wU_nil fun w28 S29 => ?_
          clear S6
          refine wQ_sub (l' := [(0, _), (3, _), (4, _), (5, _), (6, _), (7, _), (17, _), (18, _), (19, _), (20, _), (21, _), (22, _), (23, _), (24, _), (25, _)]) ⟨rfl, rfl, rfl, rfl, rfl, rfl, rfl, rfl, rfl, rfl, rfl, rfl, rfl, rfl, rfl, trivial⟩ ?_
          refine wQ_then ?_
          refine wC_cond_t rfl ?_
          refine wC_seq ?_
          refine wC_region ?_
          refine wL_val (v := .slice Ab n cb) (wn rfl) rfl rfl (y_move rfl rfl) ?_
          refine wL_val (v := .agg #[.int .i64 m.no, .int .i64 m.body]) (wn rfl) rfl rfl (y_load rfl rfl (r_load_row 1 S29 rfl Try.underlying137 rfl inf137 rfl)) ?_
          refine wL_new (V := fun b => .slice (some ⟨b, 0, none⟩) 1 1) (row := #[.int .i64 m.no, .int .i64 m.body]) (t := 137) S29 (wn rfl) rfl rfl (d_buildSlice (vs := [(0, .agg #[.int .i64 m.no, .int .i64 m.body])]) rfl ⟨rfl, rfl, trivial⟩ (by kernel_rfl)) ?_
          intro b30 w31 S32
          clear S29
          refine wL_append (news := [.int .i64 m.no, .int .i64 m.body]) (xs' := (out ++ [m]).flatMap Msg.cells) 1 S32 (wn rfl) rfl rfl rfl rfl rfl rfl (St.bld (xs := [.int .i64 m.no, .int .i64 m.body]) 0 S32 rfl rfl rfl) Try.underlying22 infz137 rfl (by decide) (oneAll rfl) (by simp only [maxLen]; omega) (by omega) (fm_snoc (enc := Msg.cells) rfl rfl) ?_
          intro A33 c34 w35 hc37 hm38 S36
          clear S32
          change St _ _ _ [_, .own 137 2 (.slice A33 (n + 1) c34) (n + 1) ((out ++ [m]).flatMap Msg.cells), _, _] at S36
          refine wL_val (v := .slice A33 (n + 1) c34) (wn rfl) rfl rfl (y_assign rfl rfl) ?_
          refine wL_nil ?_
          refine wQ_sub (l' := [(0, _), (3, _), (4, _), (5, _), (7, _), (17, _), (18, _), (19, _), (20, _), (21, _), (22, _), (23, _), (24, _)]) ⟨rfl, rfl, rfl, rfl, rfl, rfl, rfl, rfl, rfl, rfl, rfl, rfl, rfl, trivial⟩ ?_
          refine wQ_then ?_
          refine wC_region ?_
          refine wL_val (v := .bool true) (wn rfl) rfl rfl (y_assign rfl rfl) ?_
          refine wL_nil ?_
          refine wQ_then ?_
          refine wC_region ?_
          refine wL_val (v := .slice A33 (n + 1) c34) (wn rfl) rfl rfl (y_move rfl rfl) ?_
          refine wL_val (v := .slice (some ⟨b17, o18, none⟩) l.length c) (wn rfl) rfl rfl (y_move rfl rfl) ?_
          refine wL_val (v := .int .i64 ((k : Nat) : Int)) (wn rfl) rfl rfl (y_move rfl rfl) ?_
          refine wL_val (v := .pointer (some ⟨b17, o18 + k * 2, none⟩)) (wn rfl) rfl rfl (y_indexAddr rfl rfl rfl (r_indexAddr k Try.underlying22 inf137 (by omega) (by omega))) ?_
          refine wL_val (v := .agg #[.int .i64 x19.no, .int .i64 x19.body]) (wn rfl) rfl rfl (y_load rfl rfl (r_load_agg (cs := Msg.cells x19) Try.underlying137 rfl inf137 rfl (Rd.rg2 (St.rd 3 S36 rfl) (fun _ _ h => fm_get (enc := Msg.cells) (sz := 2) (fun _ => rfl) hx20 h)))) ?_
          refine wL_new (V := fun b => .slice (some ⟨b, 0, none⟩) 1 1) (row := #[.int .i64 x19.no, .int .i64 x19.body]) (t := 137) S36 (wn rfl) rfl rfl (d_buildSlice (vs := [(0, .agg #[.int .i64 x19.no, .int .i64 x19.body])]) rfl ⟨rfl, rfl, trivial⟩ (by kernel_rfl)) ?_
          intro b39 w40 S41
          clear S36
          refine wL_append (news := [.int .i64 x19.no, .int .i64 x19.body]) (xs' := (out ++ [m] ++ [x19]).flatMap Msg.cells) 2 S41 (wn rfl) rfl rfl rfl rfl rfl rfl (St.bld (xs := [.int .i64 x19.no, .int .i64 x19.body]) 0 S41 rfl rfl rfl) Try.underlying22 infz137 rfl (by decide) (oneAll rfl) (by simp only [maxLen]; omega) (by omega) (fm_snoc (enc := Msg.cells) rfl rfl) ?_
          intro A42 c43 w44 hc46 hm47 S45
          clear S41
          change St _ _ _ [_, _, .own 137 2 (.slice A42 ((n + 1) + 1) c43) ((n + 1) + 1) ((out ++ [m] ++ [x19]).flatMap Msg.cells), _, _] at S45
          refine wL_val (v := .slice A42 ((n + 1) + 1) c43) (wn rfl) rfl rfl (y_assign rfl rfl) ?_
          refine wL_nil ?_
          refine wQ_sub (l' := [(0, _), (3, _), (4, _), (5, _), (7, _), (17, _), (18, _), (19, _), (20, _), (21, _), (22, _), (23, _), (24, _), (6, _)]) ⟨rfl, rfl, rfl, rfl, rfl, rfl, rfl, rfl, rfl, rfl, rfl, rfl, rfl, rfl, trivial⟩ ?_
          refine wQ_blk_n ?_
          refine wQ_then ?_
          refine wC_region ?_
          refine wL_val (v := .int .i64 ((k : Nat) : Int)) (wn rfl) rfl rfl (y_move rfl rfl) ?_
          refine wL_val (v := .int .i64 ((k + 1 : Nat) : Int)) (wn rfl) rfl rfl (y_binop rfl rfl rfl (r_add (by omega) (by omega))) ?_
          refine wL_val (v := .int .i64 ((k + 1 : Nat) : Int)) (wn rfl) rfl rfl (y_assign rfl rfl) ?_
          refine wL_nil ?_
          refine wQ_sub (l' := [(0, _), (3, _), (4, _), (5, _), (7, _), (17, _), (18, _), (19, _), (20, _), (21, _), (22, _), (23, _), (24, _), (6, _)]) ⟨rfl, rfl, rfl, rfl, rfl, rfl, rfl, rfl, rfl, rfl, rfl, rfl, rfl, rfl, trivial⟩ ?_
          have S48 : St w.heap.size w w44 [_, _, _] := (St.del 0 (St.del 1 S45))
          clear S45
          refine wQ_round (k + 1, A42, c43, out ++ [m] ++ [x19], n + 1 + 1, true) ?_ ⟨rfl, rfl, rfl, rfl, rfl, rfl, trivial⟩ (by first | omega | (dsimp only; omega))
          exact ⟨(by dsimp only; omega), put_mid hx20 hlt hi8, (by dsimp only; simp; omega), (by dsimp only; simp at *; omega), S48⟩
        · refine wU_val (v := .bool false) (wg rfl rfl rfl rfl) rfl rfl (fun _ _ => (y_binop rfl rfl rfl (r_gtr_f hlt))) ?_
          refine wU_val (v := .bool false) (wn rfl) rfl rfl (fun _ _ => (y_pick_t rfl rfl rfl)) ?_
          refine wU_nil fun w51 S52 => ?_
          clear S6
          refine wQ_sub (l' := [(0, _), (3, _), (4, _), (5, _), (6, _), (7, _), (17, _), (18, _), (19, _), (20, _), (21, _), (22, _), (23, _), (24, _), (25, _)]) ⟨rfl, rfl, rfl, rfl, rfl, rfl, rfl, rfl, rfl, rfl, rfl, rfl, rfl, rfl, rfl, trivial⟩ ?_
          refine wQ_then ?_
          refine wC_cond_f rfl ?_
          refine wC_skip ?_
          refine wQ_then ?_
          refine wC_region ?_
          refine wL_val (v := .slice Ab n cb) (wn rfl) rfl rfl (y_move rfl rfl) ?_
          refine wL_val (v := .slice (some ⟨b17, o18, none⟩) l.length c) (wn rfl) rfl rfl (y_move rfl rfl) ?_
          refine wL_val (v := .int .i64 ((k : Nat) : Int)) (wn rfl) rfl rfl (y_move rfl rfl) ?_
          refine wL_val (v := .pointer (some ⟨b17, o18 + k * 2, none⟩)) (wn rfl) rfl rfl (y_indexAddr rfl rfl rfl (r_indexAddr k Try.underlying22 inf137 (by omega) (by omega))) ?_
          refine wL_val (v := .agg #[.int .i64 x19.no, .int .i64 x19.body]) (wn rfl) rfl rfl (y_load rfl rfl (r_load_agg (cs := Msg.cells x19) Try.underlying137 rfl inf137 rfl (Rd.rg2 (St.rd 2 S52 rfl) (fun _ _ h => fm_get (enc := Msg.cells) (sz := 2) (fun _ => rfl) hx20 h)))) ?_
          refine wL_new (V := fun b => .slice (some ⟨b, 0, none⟩) 1 1) (row := #[.int .i64 x19.no, .int .i64 x19.body]) (t := 137) S52 (wn rfl) rfl rfl (d_buildSlice (vs := [(0, .agg #[.int .i64 x19.no, .int .i64 x19.body])]) rfl ⟨rfl, rfl, trivial⟩ (by kernel_rfl)) ?_
          intro b53 w54 S55
          clear S52
          refine wL_append (news := [.int .i64 x19.no, .int .i64 x19.body]) (xs' := (out ++ [x19]).flatMap Msg.cells) 1 S55 (wn rfl) rfl rfl rfl rfl rfl rfl (St.bld (xs := [.int .i64 x19.no, .int .i64 x19.body]) 0 S55 rfl rfl rfl) Try.underlying22 infz137 rfl (by decide) (oneAll rfl) (by simp only [maxLen]; omega) (by omega) (fm_snoc (enc := Msg.cells) rfl rfl) ?_
          intro A56 c57 w58 hc60 hm61 S59
          clear S55
          change St _ _ _ [_, .own 137 2 (.slice A56 (n + 1) c57) (n + 1) ((out ++ [x19]).flatMap Msg.cells), _, _] at S59
          refine wL_val (v := .slice A56 (n + 1) c57) (wn rfl) rfl rfl (y_assign rfl rfl) ?_
          refine wL_nil ?_
          refine wQ_sub (l' := [(0, _), (3, _), (4, _), (5, _), (6, _), (7, _), (17, _), (18, _), (19, _), (20, _), (21, _), (22, _), (23, _), (24, _)]) ⟨rfl, rfl, rfl, rfl, rfl, rfl, rfl, rfl, rfl, rfl, rfl, rfl, rfl, rfl, trivial⟩ ?_
          refine wQ_blk_n ?_
          refine wQ_then ?_
          refine wC_region ?_
          refine wL_val (v := .int .i64 ((k : Nat) : Int)) (wn rfl) rfl rfl (y_move rfl rfl) ?_
          refine wL_val (v := .int .i64 ((k + 1 : Nat) : Int)) (wn rfl) rfl rfl (y_binop rfl rfl rfl (r_add (by omega) (by omega))) ?_
          refine wL_val (v := .int .i64 ((k + 1 : Nat) : Int)) (wn rfl) rfl rfl (y_assign rfl rfl) ?_
          refine wL_nil ?_
          refine wQ_sub (l' := [(0, _), (3, _), (4, _), (5, _), (6, _), (7, _), (17, _), (18, _), (19, _), (20, _), (21, _), (22, _), (23, _), (24, _)]) ⟨rfl, rfl, rfl, rfl, rfl, rfl, rfl, rfl, rfl, rfl, rfl, rfl, rfl, rfl, trivial⟩ ?_
          have S62 : St w.heap.size w w58 [_, _, _] := (St.del 0 S59)
          clear S59
          refine wQ_round (k + 1, A56, c57, out ++ [x19], n + 1, false) ?_ ⟨rfl, rfl, rfl, rfl, rfl, rfl, trivial⟩ (by first | omega | (dsimp only; omega))
          exact ⟨(by dsimp only; omega), put_past hx20 hlt hi8, (by dsimp only; simp; omega), (by dsimp only; simp at *; omega), S62⟩
      | true =>
        have hn3 := hi10
        simp at hn3
        refine wU_val (v := .bool false) (wn rfl) rfl rfl (fun _ _ => (y_unop rfl rfl r_not)) ?_
        refine wU_val (v := .bool false) (wn rfl) rfl rfl (fun _ _ => (y_move rfl rfl)) ?_
        refine wU_skip (wg rfl rfl rfl rfl) rfl rfl ?_
        refine wU_skip (wg rfl rfl rfl rfl) rfl rfl ?_
        refine wU_skip (wg rfl rfl rfl rfl) rfl rfl ?_
        refine wU_skip (wg rfl rfl rfl rfl) rfl rfl ?_
        refine wU_skip (wg rfl rfl rfl rfl) rfl rfl ?_
        refine wU_skip (wg rfl rfl rfl rfl) rfl rfl ?_
        refine wU_skip (wg rfl rfl rfl rfl) rfl rfl ?_
        refine wU_skip (wg rfl rfl rfl rfl) rfl rfl ?_
        refine wU_val (v := .bool false) (wn rfl) rfl rfl (fun _ _ => (y_pick_f rfl rfl rfl)) ?_
        refine wU_nil fun w66 S67 => ?_
        clear S6
        refine wQ_sub (l' := [(0, _), (3, _), (4, _), (5, _), (6, _), (7, _), (17, _), (18, _), (19, _), (20, _), (21, _), (22, _), (23, _), (24, _), (25, _)]) ⟨rfl, rfl, rfl, rfl, rfl, rfl, rfl, rfl, rfl, rfl, rfl, rfl, rfl, rfl, rfl, trivial⟩ ?_
        refine wQ_then ?_
        refine wC_cond_f rfl ?_
        refine wC_skip ?_
        refine wQ_then ?_
        refine wC_region ?_
        refine wL_val (v := .slice Ab n cb) (wn rfl) rfl rfl (y_move rfl rfl) ?_
        refine wL_val (v := .slice A l.length c) (wn rfl) rfl rfl (y_move rfl rfl) ?_
        refine wL_val (v := .int .i64 ((k : Nat) : Int)) (wn rfl) rfl rfl (y_move rfl rfl) ?_
        obtain ⟨b68, o69, rfl⟩ := Rd.addr (St.rd 2 S67 rfl) (by omega)
        obtain ⟨x70, hx71⟩ : ∃ x, (l)[k]? = some x := ⟨_, List.getElem?_eq_getElem (by have := (St.rd 2 S67 rfl).1; rw [fm_len (sz := 2) (fun _ => rfl)] at this; omega)⟩
        refine wL_val (v := .pointer (some ⟨b68, o69 + k * 2, none⟩)) (wn rfl) rfl rfl (y_indexAddr rfl rfl rfl (r_indexAddr k Try.underlying22 inf137 (by omega) (by omega))) ?_
        refine wL_val (v := .agg #[.int .i64 x70.no, .int .i64 x70.body]) (wn rfl) rfl rfl (y_load rfl rfl (r_load_agg (cs := Msg.cells x70) Try.underlying137 rfl inf137 rfl (Rd.rg2 (St.rd 2 S67 rfl) (fun _ _ h => fm_get (enc := Msg.cells) (sz := 2) (fun _ => rfl) hx71 h)))) ?_
        refine wL_new (V := fun b => .slice (some ⟨b, 0, none⟩) 1 1) (row := #[.int .i64 x70.no, .int .i64 x70.body]) (t := 137) S67 (wn rfl) rfl rfl (d_buildSlice (vs := [(0, .agg #[.int .i64 x70.no, .int .i64 x70.body])]) rfl ⟨rfl, rfl, trivial⟩ (by kernel_rfl)) ?_
        intro b72 w73 S74
        clear S67
        refine wL_append (news := [.int .i64 x70.no, .int .i64 x70.body]) (xs' := (out ++ [x70]).flatMap Msg.cells) 1 S74 (wn rfl) rfl rfl rfl rfl rfl rfl (St.bld (xs := [.int .i64 x70.no, .int .i64 x70.body]) 0 S74 rfl rfl rfl) Try.underlying22 infz137 rfl (by decide) (oneAll rfl) (by simp only [maxLen]; omega) (by omega) (fm_snoc (enc := Msg.cells) rfl rfl) ?_
        intro A75 c76 w77 hc79 hm80 S78
        clear S74
        change St _ _ _ [_, .own 137 2 (.slice A75 (n + 1) c76) (n + 1) ((out ++ [x70]).flatMap Msg.cells), _, _] at S78
        refine wL_val (v := .slice A75 (n + 1) c76) (wn rfl) rfl rfl (y_assign rfl rfl) ?_
        refine wL_nil ?_
        refine wQ_sub (l' := [(0, _), (3, _), (4, _), (5, _), (6, _), (7, _), (17, _), (18, _), (19, _), (20, _), (21, _), (22, _), (23, _), (24, _)]) ⟨rfl, rfl, rfl, rfl, rfl, rfl, rfl, rfl, rfl, rfl, rfl, rfl, rfl, rfl, trivial⟩ ?_
        refine wQ_blk_n ?_
        refine wQ_then ?_
        refine wC_region ?_
        refine wL_val (v := .int .i64 ((k : Nat) : Int)) (wn rfl) rfl rfl (y_move rfl rfl) ?_
        refine wL_val (v := .int .i64 ((k + 1 : Nat) : Int)) (wn rfl) rfl rfl (y_binop rfl rfl rfl (r_add (by omega) (by omega))) ?_
        refine wL_val (v := .int .i64 ((k + 1 : Nat) : Int)) (wn rfl) rfl rfl (y_assign rfl rfl) ?_
        refine wL_nil ?_
        refine wQ_sub (l' := [(0, _), (3, _), (4, _), (5, _), (6, _), (7, _), (17, _), (18, _), (19, _), (20, _), (21, _), (22, _), (23, _), (24, _)]) ⟨rfl, rfl, rfl, rfl, rfl, rfl, rfl, rfl, rfl, rfl, rfl, rfl, rfl, rfl, trivial⟩ ?_
        have S81 : St w.heap.size w w77 [_, _, _] := (St.del 0 S78)
        clear S78
        refine wQ_round (k + 1, A75, c76, out ++ [x70], n + 1, true) ?_ ⟨rfl, rfl, rfl, rfl, rfl, rfl, trivial⟩ (by first | omega | (dsimp only; omega))
        exact ⟨(by dsimp only; omega), put_rest hx71 hi8, (by dsimp only; simp; omega), (by dsimp only; simp at *; omega), S81⟩
    · refine wL_val (v := .bool false) (wn rfl) rfl rfl (y_binop rfl rfl rfl (r_lss_f h11)) ?_
      refine wL_nil ?_
      refine wQ_sub (l' := [(0, _), (3, _), (4, _), (5, _), (6, _), (7, _), (11, _)]) ⟨rfl, rfl, rfl, rfl, rfl, rfl, rfl, trivial⟩ ?_
      refine wQ_then ?_
      refine wC_cond_f rfl ?_
      refine wC_exit ?_
      refine wQ_then_exit ?_
      refine wQ_then_exit ?_
      refine wQ_blk_same ?_
      refine wQ_then ?_
      refine wC_seq ?_
      refine wC_seq ?_
      refine wC_region ?_
      obtain rfl : k = l.length := by omega
      refine wL_val (v := .bool dn) (wn rfl) rfl rfl (y_move rfl rfl) ?_
      cases dn with
      | false =>
        obtain rfl : n = l.length := by simp at hi10; omega
        refine wL_val (v := .bool true) (wn rfl) rfl rfl (y_unop rfl rfl r_not) ?_
        refine wL_nil ?_
        refine wQ_sub (l' := [(3, _), (4, _), (5, _), (38, _)]) ⟨rfl, rfl, rfl, rfl, trivial⟩ ?_
        refine wQ_then ?_
        refine wC_cond_t rfl ?_
        refine wC_region ?_
        refine wL_val (v := .slice Ab l.length cb) (wn rfl) rfl rfl (y_move rfl rfl) ?_
        refine wL_val (v := .agg #[.int .i64 m.no, .int .i64 m.body]) (wn rfl) rfl rfl (y_load rfl rfl (r_load_row 1 S6 rfl Try.underlying137 rfl inf137 rfl)) ?_
        refine wL_new (V := fun b => .slice (some ⟨b, 0, none⟩) 1 1) (row := #[.int .i64 m.no, .int .i64 m.body]) (t := 137) S6 (wn rfl) rfl rfl (d_buildSlice (vs := [(0, .agg #[.int .i64 m.no, .int .i64 m.body])]) rfl ⟨rfl, rfl, trivial⟩ (by kernel_rfl)) ?_
        intro b82 w83 S84
        clear S6
        refine wL_append (news := [.int .i64 m.no, .int .i64 m.body]) (xs' := (out ++ [m]).flatMap Msg.cells) 1 S84 (wn rfl) rfl rfl rfl rfl rfl rfl (St.bld (xs := [.int .i64 m.no, .int .i64 m.body]) 0 S84 rfl rfl rfl) Try.underlying22 infz137 rfl (by decide) (oneAll rfl) (by simp only [maxLen]; omega) (by omega) (fm_snoc (enc := Msg.cells) rfl rfl) ?_
        intro A85 c86 w87 hc89 hm90 S88
        clear S84
        change St _ _ _ [_, .own 137 2 (.slice A85 (l.length + 1) c86) (l.length + 1) ((out ++ [m]).flatMap Msg.cells), _, _] at S88
        refine wL_val (v := .slice A85 (l.length + 1) c86) (wn rfl) rfl rfl (y_assign rfl rfl) ?_
        refine wL_nil ?_
        refine wQ_sub (l' := [(4, _), (5, _)]) ⟨rfl, rfl, trivial⟩ ?_
        refine wQ_then ?_
        refine wC_seq ?_
        refine wC_region ?_
        refine wL_val (v := .slice A85 (l.length + 1) c86) (wn rfl) rfl rfl (y_move rfl rfl) ?_
        refine wL_val (v := .slice A85 (l.length + 1) c86) (wn rfl) rfl rfl (y_assign rfl rfl) ?_
        refine wL_nil ?_
        refine wQ_sub (l' := [(4, _)]) ⟨rfl, trivial⟩ ?_
        refine wQ_then ?_
        refine wC_ret ?_
        refine wQ_post (rs := [.tmp 4]) (vs := [.slice A85 (l.length + 1) c86]) rfl ⟨rfl, trivial⟩ ?_
        have S91 : St w.heap.size w w87 [_] := (St.del 0 (St.del 2 (St.del 3 S88)))
        clear S88
        rw [put_end (Nat.le_refl _) hi8]
        exact OwnPost.of S91.low (S91.own 0 rfl)
      | true =>
        obtain rfl : n = l.length + 1 := by simp at hi10; omega
        refine wL_val (v := .bool false) (wn rfl) rfl rfl (y_unop rfl rfl r_not) ?_
        refine wL_nil ?_
        refine wQ_sub (l' := [(3, _), (4, _), (5, _), (38, _)]) ⟨rfl, rfl, rfl, rfl, trivial⟩ ?_
        refine wQ_then ?_
        refine wC_cond_f rfl ?_
        refine wC_skip ?_
        refine wQ_then ?_
        refine wC_seq ?_
        refine wC_region ?_
        refine wL_val (v := .slice Ab (l.length + 1) cb) (wn rfl) rfl rfl (y_move rfl rfl) ?_
        refine wL_val (v := .slice Ab (l.length + 1) cb) (wn rfl) rfl rfl (y_assign rfl rfl) ?_
        refine wL_nil ?_
        refine wQ_sub (l' := [(4, _)]) ⟨rfl, trivial⟩ ?_
        refine wQ_then ?_
        refine wC_ret ?_
        refine wQ_post (rs := [.tmp 4]) (vs := [.slice Ab (l.length + 1) cb]) rfl ⟨rfl, trivial⟩ ?_
        have S92 : St w.heap.size w w5 [_] := (St.del 1 (St.del 2 S6))
        clear S6
        rw [put_done (Nat.le_refl _) hi8]
        exact OwnPost.of S92.low (S92.own 0 rfl)

set_option maxRecDepth 100000 in
set_option maxHeartbeats 4000000 in
theorem QueueDone_calls (ep nx gv kd pr id bd he hn : Int) (A1 A2 : Option Addr) (c1 c2 : Nat) (rs : List Msg) (ls : List Ls) (W : Wins) (w : World) (h1 : Rd w w.heap.size 2 A1 rs.length (rs.flatMap Msg.cells)) (h2 : Rd w w.heap.size 4 A2 ls.length (ls.flatMap Ls.cells)) (hb1 : rs.length * 16 ≤ reachBytes) (hb2 : ls.length * 32 ≤ reachBytes) :
    Calls Try.prog 67 #[.agg (qRow ep nx gv (.slice A1 rs.length c1) (.slice A2 ls.length c2) W), .agg #[.int .i64 kd, .int .i64 pr, .int .i64 id, .int .i64 bd, .int .i64 he, .int .i64 hn]] w (QdoPost w (doM ⟨ep, nx, gv, rs, ls, W⟩ ⟨kd, pr, id, bd, he, hn⟩)) := by
  have S := ((St.start w).addRd h2).addRd h1
  clear h1 h2
  refine calls_of_wC (N := 236) (vs := [.agg (qRow ep nx gv (.slice A1 rs.length c1) (.slice A2 ls.length c2) W), .agg #[.int .i64 kd, .int .i64 pr, .int .i64 id, .int .i64 bd, .int .i64 he, .int .i64 hn]]) Try.func67 rfl rfl rfl ?_
  refine wC_sub (l' := [(0, .agg (qRow ep nx gv (.slice A1 rs.length c1) (.slice A2 ls.length c2) W)), (1, .agg #[.int .i64 kd, .int .i64 pr, .int .i64 id, .int .i64 bd, .int .i64 he, .int .i64 hn])]) ⟨rfl, rfl, trivial⟩ ?_
  refine wC_seq ?_
  refine wC_region ?_
  refine wL_new (V := fun b => .pointer (some ⟨b, 0, none⟩)) (row := qRow ep nx gv (.slice A1 rs.length c1) (.slice A2 ls.length c2) W) (t := 29) S (wn rfl) rfl rfl (d_box rfl rfl rfl) ?_
  intro b1 w2 S3
  clear S
  refine wL_new (V := fun b => .pointer (some ⟨b, 0, none⟩)) (row := #[.int .i64 kd, .int .i64 pr, .int .i64 id, .int .i64 bd, .int .i64 he, .int .i64 hn]) (t := 37) S3 (wn rfl) rfl rfl (d_box rfl rfl rfl) ?_
  intro b4 w5 S6
  clear S3
  refine wL_new (V := fun b => .pointer (some ⟨b, 0, none⟩)) (row := qRow 0 0 0 (.slice none 0 0) (.slice none 0 0) zeroWs) (t := 29) S6 (wn rfl) rfl rfl (d_alloc rfl (Try.zeroValue29 _) rfl) ?_
  intro b7 w8 S9
  clear S6
  refine wL_new (V := fun b => .pointer (some ⟨b, 0, none⟩)) (row := #[.int .i64 0, .int .i64 0, .int .i64 0, .int .i64 0]) (t := 93) S9 (wn rfl) rfl rfl (d_alloc rfl (Try.zeroValue93 _) rfl) ?_
  intro b10 w11 S12
  clear S9
  refine wL_val (v := .bool false) (wn rfl) rfl rfl (y_assign rfl rfl) ?_
  refine wL_val (v := .int .i64 0) (wn rfl) rfl rfl (y_assign rfl rfl) ?_
  refine wL_nil ?_
  refine wQ_sub (l' := [(2, _), (3, _), (4, _), (5, _), (6, _), (7, _)]) ⟨rfl, rfl, rfl, rfl, rfl, rfl, trivial⟩ ?_
  refine wQ_then ?_
  refine wC_seq ?_
  refine wC_region ?_
  refine wL_val (v := .agg (qRow ep nx gv (.slice A1 rs.length c1) (.slice A2 ls.length c2) W)) (wn rfl) rfl rfl (y_load rfl rfl (r_load_row 3 S12 rfl Try.underlying29 rfl inf29 rfl)) ?_
  refine wL_call (vs := [.agg (qRow ep nx gv (.slice A1 rs.length c1) (.slice A2 ls.length c2) W)]) (wn rfl) rfl rfl (e_call (vs := [.agg (qRow ep nx gv (.slice A1 rs.length c1) (.slice A2 ls.length c2) W)]) rfl en32 ⟨rfl, trivial⟩) (QueueFault_calls ep nx gv A1 A2 c1 c2 rs ls W _ (St.rd 4 S12 rfl) (St.rd 5 S12 rfl) hb1 hb2) ?_
  rintro _ w13 ⟨rfl, hb15⟩
  refine ⟨_, rfl, ?_⟩
  have S14 := S12.on hb15
  clear hb15 S12
  refine wL_val (v := .int .i64 (queueFault ep nx gv rs ls W)) (wn rfl) rfl rfl (y_assign rfl rfl) ?_
  refine wL_nil ?_
  refine wQ_sub (l' := [(2, _), (3, _), (4, _), (5, _), (6, _), (7, _), (8, _)]) ⟨rfl, rfl, rfl, rfl, rfl, rfl, rfl, trivial⟩ ?_
  refine wQ_then ?_
  refine wC_seq ?_
  refine wC_seq ?_
  refine wC_region ?_
  refine wL_val (v := .int .i64 (queueFault ep nx gv rs ls W)) (wn rfl) rfl rfl (y_move rfl rfl) ?_
  by_cases h0 : queueFault ep nx gv rs ls W = 0
  · obtain ⟨hR, hW, hRd, hLs, hNd⟩ := qf_zero h0
    unfold rngQ at hR
    refine wL_val (v := .bool false) (wn rfl) rfl rfl (y_binop rfl rfl rfl (r_neq_f h0)) ?_
    refine wL_nil ?_
    refine wQ_sub (l' := [(2, _), (3, _), (4, _), (5, _), (6, _), (7, _), (8, _), (21, _)]) ⟨rfl, rfl, rfl, rfl, rfl, rfl, rfl, rfl, trivial⟩ ?_
    refine wQ_then ?_
    refine wC_cond_f rfl ?_
    refine wC_skip ?_
    refine wQ_then ?_
    refine wC_seq ?_
    refine wC_region ?_
    refine wL_val (v := .agg #[.int .i64 kd, .int .i64 pr, .int .i64 id, .int .i64 bd, .int .i64 he, .int .i64 hn]) (wn rfl) rfl rfl (y_load rfl rfl (r_load_row 2 S14 rfl Try.underlying37 rfl inf37 rfl)) ?_
    refine wL_call (vs := [.agg #[.int .i64 kd, .int .i64 pr, .int .i64 id, .int .i64 bd, .int .i64 he, .int .i64 hn]]) (wn rfl) rfl rfl (e_call (vs := [.agg #[.int .i64 kd, .int .i64 pr, .int .i64 id, .int .i64 bd, .int .i64 he, .int .i64 hn]]) rfl en149 ⟨rfl, trivial⟩) (EventFault_calls ⟨kd, pr, id, bd, he, hn⟩ _) ?_
    rintro _ w16 ⟨rfl, hb18⟩
    refine ⟨_, rfl, ?_⟩
    have S17 := S14.on hb18
    clear hb18 S14
    refine wL_val (v := .int .i64 (evFault ⟨kd, pr, id, bd, he, hn⟩)) (wn rfl) rfl rfl (y_assign rfl rfl) ?_
    refine wL_nil ?_
    refine wQ_sub (l' := [(2, _), (3, _), (4, _), (5, _), (6, _), (7, _), (8, _)]) ⟨rfl, rfl, rfl, rfl, rfl, rfl, rfl, trivial⟩ ?_
    refine wQ_then ?_
    refine wC_seq ?_
    refine wC_seq ?_
    refine wC_region ?_
    refine wL_val (v := .int .i64 (evFault ⟨kd, pr, id, bd, he, hn⟩)) (wn rfl) rfl rfl (y_move rfl rfl) ?_
    by_cases h1 : evFault ⟨kd, pr, id, bd, he, hn⟩ = 0
    · have hkd := ev_kind h1
      have hpr := ev_prod h1
      simp only at hkd hpr
      obtain ⟨k, hk0⟩ : ∃ k : Nat, pr = (k : Int) := ⟨pr.toNat, by omega⟩
      subst hk0
      have hk : k < 4 := by omega
      refine wL_val (v := .bool false) (wn rfl) rfl rfl (y_binop rfl rfl rfl (r_neq_f h1)) ?_
      refine wL_nil ?_
      refine wQ_sub (l' := [(2, _), (3, _), (4, _), (5, _), (6, _), (7, _), (8, _), (28, _)]) ⟨rfl, rfl, rfl, rfl, rfl, rfl, rfl, rfl, trivial⟩ ?_
      refine wQ_then ?_
      refine wC_cond_f rfl ?_
      refine wC_skip ?_
      refine wQ_then ?_
      refine wC_seq ?_
      refine wC_region ?_
      refine wL_val (v := .agg (qRow ep nx gv (.slice A1 rs.length c1) (.slice A2 ls.length c2) W)) (wn rfl) rfl rfl (y_load rfl rfl (r_load_row 3 S17 rfl Try.underlying29 rfl inf29 rfl)) ?_
      refine wL_call (vs := [.agg (qRow ep nx gv (.slice A1 rs.length c1) (.slice A2 ls.length c2) W)]) (wn rfl) rfl rfl (e_call (vs := [.agg (qRow ep nx gv (.slice A1 rs.length c1) (.slice A2 ls.length c2) W)]) rfl en106 ⟨rfl, trivial⟩) (QueueCopy_calls ep nx gv A1 A2 c1 c2 rs ls W _ (St.rd 4 S17 rfl) (St.rd 5 S17 rfl) hb1 hb2) ?_
      rintro _ w23 ⟨A19, c20, A21, c22, rfl, T25⟩
      refine ⟨_, rfl, ?_⟩
      have S24 := S17.ext T25 rfl
      clear T25 S17
      change St _ _ _ [.own 141 4 (.slice A21 ls.length c22) ls.length ((ls).flatMap Ls.cells), .own 137 2 (.slice A19 rs.length c20) rs.length ((rs).flatMap Msg.cells), _, _, _, _, _, _] at S24
      refine wL_new (V := fun b => .pointer (some ⟨b, 0, none⟩)) (row := qRow 0 0 0 (.slice none 0 0) (.slice none 0 0) zeroWs) (t := 29) S24 (wn rfl) rfl rfl (d_alloc rfl (Try.zeroValue29 _) rfl) ?_
      intro b26 w27 S28
      clear S24
      refine wL_st (cs := qRow ep nx gv (.slice A19 rs.length c20) (.slice A21 ls.length c22) W) (row' := qRow ep nx gv (.slice A19 rs.length c20) (.slice A21 ls.length c22) W) (fs' := [.blk b26 (qRow ep nx gv (.slice A19 rs.length c20) (.slice A21 ls.length c22) W) 29, _, _, _, _, _, _, _, _]) 0 S28 (wn rfl) rfl rfl rfl rfl rfl rfl inf29 rfl (qRow_one rfl rfl) (Nat.le_of_ble_eq_true rfl) (setAll_all rfl) rfl ?_
      intro w29 S30
      clear S28
      refine wL_nil ?_
      refine wQ_sub (l' := [(2, _), (3, _), (4, _), (5, _), (6, _), (7, _), (9, _)]) ⟨rfl, rfl, rfl, rfl, rfl, rfl, rfl, trivial⟩ ?_
      refine wQ_then ?_
      refine wC_seq ?_
      refine wC_region ?_
      refine wL_val (v := .pointer (some ⟨b1, 3, none⟩)) (wn rfl) rfl rfl (y_fieldAddr rfl rfl (fa29_3 _ _ _)) ?_
      refine wL_val (v := .slice A1 rs.length c1) (wn rfl) rfl rfl (y_load rfl rfl (r_load Try.underlying22 rfl (St.cl 6 S30 rfl qRow_g3))) ?_
      refine wL_val (v := .int .i64 ((rs.length : Nat) : Int)) (wn rfl) rfl rfl (y_builtin (vs := [.slice A1 rs.length c1]) rfl ⟨rfl, trivial⟩ fun _ => r_len rfl Try.underlying22) ?_
      refine wL_val (v := .pointer (some ⟨b1, 4, none⟩)) (wn rfl) rfl rfl (y_fieldAddr rfl rfl (fa29_4 _ _ _)) ?_
      refine wL_val (v := .slice A2 ls.length c2) (wn rfl) rfl rfl (y_load rfl rfl (r_load Try.underlying23 rfl (St.cl 6 S30 rfl qRow_g4))) ?_
      refine wL_val (v := .int .i64 ((ls.length : Nat) : Int)) (wn rfl) rfl rfl (y_builtin (vs := [.slice A2 ls.length c2]) rfl ⟨rfl, trivial⟩ fun _ => r_len rfl Try.underlying23) ?_
      refine wL_val (v := .int .i64 ((rs.length + ls.length : Nat) : Int)) (wn rfl) rfl rfl (y_binop rfl rfl rfl (r_add (by omega) (by omega))) ?_
      refine wL_val (v := .bool (decide (((rs.length + ls.length : Nat) : Int) = 500))) (wn rfl) rfl rfl (y_binop rfl rfl rfl r_eql) ?_
      refine wL_val (v := .bool (decide (((rs.length + ls.length : Nat) : Int) = 500))) (wn rfl) rfl rfl (y_assign rfl rfl) ?_
      refine wL_nil ?_
      refine wQ_sub (l' := [(2, _), (3, _), (4, _), (5, _), (6, _), (7, _), (9, _), (10, _)]) ⟨rfl, rfl, rfl, rfl, rfl, rfl, rfl, rfl, trivial⟩ ?_
      refine wQ_then ?_
      refine wC_seq ?_
      refine wC_seq ?_
      refine wC_region ?_
      refine wL_val (v := .pointer (some ⟨b4, 0, none⟩)) (wn rfl) rfl rfl (y_fieldAddr rfl rfl (fa37_0 _ _ _)) ?_
      refine wL_val (v := .int .i64 kd) (wn rfl) rfl rfl (y_load rfl rfl (r_load Try.underlying3 rfl (St.cl 5 S30 rfl rfl))) ?_
      by_cases hz1 : kd = 1
      · subst hz1
        refine wL_val (v := .bool true) (wn rfl) rfl rfl (y_binop rfl rfl rfl (r_eql_t rfl)) ?_
        refine wL_nil ?_
        refine wQ_sub (l' := [(2, _), (3, _), (4, _), (5, _), (6, _), (7, _), (9, _), (10, _), (44, _)]) ⟨rfl, rfl, rfl, rfl, rfl, rfl, rfl, rfl, rfl, trivial⟩ ?_
        refine wQ_then ?_
        refine wC_cond_t rfl ?_
        refine wC_seq ?_
        have S31 := S30.drew
        clear S30
        refine wC_any_ (C := fun w' => St w.heap.size w w' [.blk b26 (qRow ep nx gv (.slice A19 rs.length c20) (.slice A21 ls.length c22) W) 29, .own 141 4 (.slice A21 ls.length c22) ls.length ((ls).flatMap Ls.cells), .own 137 2 (.slice A19 rs.length c20) rs.length ((rs).flatMap Msg.cells), .blk b10 #[.int .i64 0, .int .i64 0, .int .i64 0, .int .i64 0] 93, .blk b7 (qRow 0 0 0 (.slice none 0 0) (.slice none 0 0) zeroWs) 29, .blk b4 #[.int .i64 1, .int .i64 ((k : Nat) : Int), .int .i64 id, .int .i64 bd, .int .i64 he, .int .i64 hn] 37, .blk b1 (qRow ep nx gv (.slice A1 rs.length c1) (.slice A2 ls.length c2) W) 29, .rd 2 A1 rs.length ((rs).flatMap Msg.cells), .rd 4 A2 ls.length ((ls).flatMap Ls.cells)]) (n := 16) (listed := #[false, false, false, false, false, false, false, false, false, false, false, false, false, false, false, false]) mixed rfl rfl ?_
        refine wA_take (v := .pointer (some ⟨b4, 1, none⟩)) (i := 0) (n := 15) (listed' := #[true, false, false, false, false, false, false, false, false, false, false, false, false, false, false, false]) rfl (by kernel_rfl) (by kernel_rfl) (by kernel_rfl) S31 rfl (wn rfl) rfl rfl (fun _ _ => (y_fieldAddr rfl rfl (fa37_1 _ _ _))) ?_
        refine wA_take (v := .int .i64 ((k : Nat) : Int)) (i := 1) (n := 14) (listed' := #[true, true, false, false, false, false, false, false, false, false, false, false, false, false, false, false]) rfl (by kernel_rfl) (by kernel_rfl) (by kernel_rfl) S31 rfl (wn rfl) rfl rfl (fun _ Sx33 => (y_load rfl rfl (r_load Try.underlying3 rfl (St.cl 5 Sx33 rfl rfl)))) ?_
        refine wA_take (v := .pointer (some ⟨b1, 5, none⟩)) (i := 2) (n := 13) (listed' := #[true, true, true, false, false, false, false, false, false, false, false, false, false, false, false, false]) rfl (by kernel_rfl) (by kernel_rfl) (by kernel_rfl) S31 rfl (wn rfl) rfl rfl (fun _ _ => (y_fieldAddr rfl rfl (fa29_5 _ _ _))) ?_
        refine wA_take (v := .pointer (some ⟨b1, 5 + k * 9, none⟩)) (i := 3) (n := 12) (listed' := #[true, true, true, true, false, false, false, false, false, false, false, false, false, false, false, false]) rfl (by kernel_rfl) (by kernel_rfl) (by kernel_rfl) S31 rfl (wn rfl) rfl rfl (fun _ _ => (y_indexAddr rfl rfl rfl (r_indexArr k Try.underlying27 inf26 rfl hk))) ?_
        refine wA_take (v := .agg (((W.at k).cells).toArray)) (i := 4) (n := 11) (listed' := #[true, true, true, true, true, false, false, false, false, false, false, false, false, false, false, false]) rfl (by kernel_rfl) (by kernel_rfl) (by kernel_rfl) S31 rfl (wn rfl) rfl rfl (fun _ Sx36 => (y_load rfl rfl (r_load_agg (cs := (W.at k).cells) Try.underlying26 rfl inf26 rfl (St.rg 6 Sx36 rfl (qRow_wk hk))))) ?_
        refine wA_take (v := .pointer (some ⟨b4, 2, none⟩)) (i := 5) (n := 10) (listed' := #[true, true, true, true, true, true, false, false, false, false, false, false, false, false, false, false]) rfl (by kernel_rfl) (by kernel_rfl) (by kernel_rfl) S31 rfl (wn rfl) rfl rfl (fun _ _ => (y_fieldAddr rfl rfl (fa37_2 _ _ _))) ?_
        refine wA_take (v := .int .i64 id) (i := 6) (n := 9) (listed' := #[true, true, true, true, true, true, true, false, false, false, false, false, false, false, false, false]) rfl (by kernel_rfl) (by kernel_rfl) (by kernel_rfl) S31 rfl (wn rfl) rfl rfl (fun _ Sx38 => (y_load rfl rfl (r_load Try.underlying3 rfl (St.cl 5 Sx38 rfl rfl)))) ?_
        refine wA_two (n := 8) (r := 7) (s := 12) (by kernel_rfl) ?_ ?_
        · refine wN_call_ (i := 7) (listed' := #[true, true, true, true, true, true, true, true, false, false, false, false, false, false, false, false]) rfl rfl (vs := [.agg (((W.at k).cells).toArray), .int .i64 id]) (wn rfl) rfl rfl (e_call (vs := [.agg (((W.at k).cells).toArray), .int .i64 id]) rfl en150 ⟨rfl, rfl, trivial⟩) (IdTaken_below (W.at k) id _) ?_
          rintro _ w39 ⟨rfl, hb41⟩
          refine ⟨_, rfl, ?_⟩
          have S40 := S31.on hb41
          clear hb41 S31
          refine ⟨S40, ?_⟩
          refine wA_take (v := .tuple #[.agg (((takeW (W.at k) id).1.cells).toArray), .bool ((takeW (W.at k) id).2.1), .int .i64 ((takeW (W.at k) id).2.2)]) (i := 8) (n := 7) (listed' := #[true, true, true, true, true, true, true, true, true, false, false, false, false, false, false, false]) rfl (by kernel_rfl) (by kernel_rfl) (by kernel_rfl) S40 rfl (wn rfl) rfl rfl (fun _ _ => (y_move rfl rfl)) ?_
          refine wA_take (v := .agg (((takeW (W.at k) id).1.cells).toArray)) (i := 9) (n := 6) (listed' := #[true, true, true, true, true, true, true, true, true, true, false, false, false, false, false, false]) rfl (by kernel_rfl) (by kernel_rfl) (by kernel_rfl) S40 rfl (wn rfl) rfl rfl (fun _ _ => (y_extract rfl rfl rfl)) ?_
          refine wA_take (v := .bool ((takeW (W.at k) id).2.1)) (i := 10) (n := 5) (listed' := #[true, true, true, true, true, true, true, true, true, true, true, false, false, false, false, false]) rfl (by kernel_rfl) (by kernel_rfl) (by kernel_rfl) S40 rfl (wn rfl) rfl rfl (fun _ _ => (y_extract rfl rfl rfl)) ?_
          refine wA_take (v := .int .i64 ((takeW (W.at k) id).2.2)) (i := 11) (n := 4) (listed' := #[true, true, true, true, true, true, true, true, true, true, true, true, false, false, false, false]) rfl (by kernel_rfl) (by kernel_rfl) (by kernel_rfl) S40 rfl (wn rfl) rfl rfl (fun _ _ => (y_extract rfl rfl rfl)) ?_
          refine wA_one (n := 3) (r := 12) (by kernel_rfl) ?_
          refine wN_new (i := 12) (listed' := #[true, true, true, true, true, true, true, true, true, true, true, true, true, false, false, false]) rfl rfl (V := fun b => .pointer (some ⟨b, 0, none⟩)) (row := #[.int .i64 0, .bool false, .bool false, .bool false, .bool false, .bool false, .bool false, .bool false, .bool false]) (t := 26) S40 (wn rfl) rfl rfl (d_alloc rfl (Try.zeroValue26 _) rfl) ?_
          intro b46 w47 S48
          clear S40
          refine ⟨(St.del 0 S48), ?_⟩
          refine wA_one (n := 2) (r := 13) (by kernel_rfl) ?_
          refine wN_st (i := 13) (listed' := #[true, true, true, true, true, true, true, true, true, true, true, true, true, true, false, false]) rfl rfl (cs := ((takeW (W.at k) id).1.cells).toArray) (row' := ((takeW (W.at k) id).1.cells).toArray) (fs' := [.blk b46 (((takeW (W.at k) id).1.cells).toArray) 26, _, _, _, _, _, _, _, _, _]) 0 S48 (wn rfl) rfl rfl rfl rfl rfl rfl inf26 rfl (win_one _) (Nat.le_of_ble_eq_true rfl) (setAll_all rfl) rfl ?_
          intro w49 S50
          clear S48
          refine ⟨(St.del 0 S50), ?_⟩
          refine wA_take (v := .bool ((takeW (W.at k) id).2.1)) (i := 14) (n := 1) (listed' := #[true, true, true, true, true, true, true, true, true, true, true, true, true, true, true, false]) rfl (by kernel_rfl) (by kernel_rfl) (by kernel_rfl) (St.del 0 S50) rfl (wn rfl) rfl rfl (fun _ _ => (y_assign rfl rfl)) ?_
          refine wA_take (v := .int .i64 ((takeW (W.at k) id).2.2)) (i := 15) (n := 0) (listed' := #[true, true, true, true, true, true, true, true, true, true, true, true, true, true, true, true]) rfl (by kernel_rfl) (by kernel_rfl) (by kernel_rfl) (St.del 0 S50) rfl (wn rfl) rfl rfl (fun _ _ => (y_assign rfl rfl)) ?_
          refine wA_done (by kernel_rfl) ?_
          refine wQ_sub (l' := [(2, _), (3, _), (4, _), (5, _), (6, _), (7, _), (9, _), (10, _), (11, _), (12, _), (13, _)]) ⟨rfl, rfl, rfl, rfl, rfl, rfl, rfl, rfl, rfl, rfl, rfl, trivial⟩ ?_
          refine wQ_then ?_
          refine wC_seq ?_
          refine wC_seq ?_
          refine wC_region ?_
          refine wL_val (v := .int .i64 ((takeW (W.at k) id).2.2)) (wn rfl) rfl rfl (y_move rfl rfl) ?_
          by_cases h2 : (takeW (W.at k) id).2.2 = 0
          · refine wL_val (v := .bool false) (wn rfl) rfl rfl (y_binop rfl rfl rfl (r_neq_f h2)) ?_
            refine wL_val (v := .bool false) (wn rfl) rfl rfl (y_move rfl rfl) ?_
            refine wL_val (v := .bool ((takeW (W.at k) id).2.1)) (wg rfl rfl rfl rfl) rfl rfl (y_move rfl rfl) ?_
            cases h3 : (takeW (W.at k) id).2.1
            · refine wL_val (v := .bool true) (wg rfl rfl rfl rfl) rfl rfl (y_unop rfl rfl r_not) ?_
              refine wL_val (v := .bool true) (wn rfl) rfl rfl (y_pick_f rfl rfl rfl) ?_
              refine wL_nil ?_
              refine wQ_sub (l' := [(2, _), (3, _), (4, _), (5, _), (6, _), (7, _), (9, _), (10, _), (11, _), (13, _), (62, _)]) ⟨rfl, rfl, rfl, rfl, rfl, rfl, rfl, rfl, rfl, rfl, rfl, trivial⟩ ?_
              refine wQ_then ?_
              refine wC_cond_t rfl ?_
              refine wC_seq ?_
              refine wC_region ?_
              refine wL_val (v := .agg (qRow ep nx gv (.slice A19 rs.length c20) (.slice A21 ls.length c22) W)) (wn rfl) rfl rfl (y_load rfl rfl (r_load_row 1 S50 rfl Try.underlying29 rfl inf29 rfl)) ?_
              refine wL_val (v := .int .i64 ((takeW (W.at k) id).2.2)) (wn rfl) rfl rfl (y_move rfl rfl) ?_
              refine wL_val (v := .agg #[.int .i64 ((takeW (W.at k) id).2.2), .int .i64 0, .int .i64 0, .int .i64 0]) (wn rfl) rfl rfl (y_build (vs := [(0, .int .i64 ((takeW (W.at k) id).2.2))]) rfl ⟨rfl, rfl, trivial⟩ (by kernel_rfl)) ?_
              refine wL_st (cs := qRow ep nx gv (.slice A19 rs.length c20) (.slice A21 ls.length c22) W) (row' := qRow ep nx gv (.slice A19 rs.length c20) (.slice A21 ls.length c22) W) (fs' := [_, _, _, _, _, .blk b7 (qRow ep nx gv (.slice A19 rs.length c20) (.slice A21 ls.length c22) W) 29, _, _, _, _]) 5 S50 (wn rfl) rfl rfl rfl rfl rfl rfl inf29 rfl (qRow_one rfl rfl) (Nat.le_of_ble_eq_true rfl) (setAll_all rfl) rfl ?_
              intro w53 S54
              clear S50
              refine wL_st (cs := #[.int .i64 ((takeW (W.at k) id).2.2), .int .i64 0, .int .i64 0, .int .i64 0]) (row' := #[.int .i64 ((takeW (W.at k) id).2.2), .int .i64 0, .int .i64 0, .int .i64 0]) (fs' := [_, _, _, _, .blk b10 #[.int .i64 ((takeW (W.at k) id).2.2), .int .i64 0, .int .i64 0, .int .i64 0] 93, _, _, _, _, _]) 4 S54 (wn rfl) rfl rfl rfl rfl rfl rfl inf93 rfl (oneAll rfl) (Nat.le_of_ble_eq_true rfl) (setAll_all rfl) rfl ?_
              intro w55 S56
              clear S54
              refine wL_val (v := .bool false) (wn rfl) rfl rfl (y_assign rfl rfl) ?_
              refine wL_val (v := .int .i64 0) (wn rfl) rfl rfl (y_assign rfl rfl) ?_
              refine wL_nil ?_
              refine wQ_sub (l' := [(4, _), (5, _), (6, _), (7, _)]) ⟨rfl, rfl, rfl, rfl, trivial⟩ ?_
              refine wQ_then ?_
              refine wC_ret ?_
              refine wQ_then_ret ?_
              refine wQ_then_ret ?_
              refine wQ_post (rs := [.cell 4 29, .cell 5 93, .tmp 6, .tmp 7]) (vs := [.agg (qRow ep nx gv (.slice A19 rs.length c20) (.slice A21 ls.length c22) W), .agg #[.int .i64 ((takeW (W.at k) id).2.2), .int .i64 0, .int .i64 0, .int .i64 0], .bool false, .int .i64 0]) rfl ⟨⟨_, rfl, res_row 5 S56 rfl Try.underlying29 rfl inf29⟩, ⟨_, rfl, res_row 4 S56 rfl Try.underlying93 rfl inf93⟩, rfl, rfl, trivial⟩ ?_
              have S57 : St w.heap.size w w55 [_, _] := (St.del 0 (St.del 1 (St.del 4 (St.del 5 (St.del 6 (St.del 7 (St.del 8 (St.del 9 S56))))))))
              clear S56
              have S58 : St w.heap.size w w55 [.own 137 2 (.slice A19 rs.length c20) rs.length ((rs).flatMap Msg.cells), .own 141 4 (.slice A21 ls.length c22) ls.length ((ls).flatMap Ls.cells)] := S57.re [1, 0] (by decide)
              clear S57
              have S59 := S58.sealAll 0 rfl
              clear S58
              change St _ _ _ [.rdo 2 A19 rs.length ((rs).flatMap Msg.cells), _] at S59
              have S60 := S59.sealAll 1 rfl
              clear S59
              change St _ _ _ [_, .rdo 4 A21 ls.length ((ls).flatMap Ls.cells)] at S60
              rw [do_ok (Q := ⟨ep, nx, gv, rs, ls, W⟩) h0 h1, show stepM ⟨ep, nx, gv, rs, ls, W⟩ ⟨1, ((k : Nat) : Int), id, bd, he, hn⟩ = pubM ⟨ep, nx, gv, rs, ls, W⟩ k id bd from by simp [stepM], pub_old h2 h3]
              refine ⟨A19, c20, A21, c22, ?_, ?_⟩
              · dsimp only; rw [h2]; rfl
              · dsimp only; exact S60
            · refine wL_val (v := .bool false) (wg rfl rfl rfl rfl) rfl rfl (y_unop rfl rfl r_not) ?_
              refine wL_val (v := .bool false) (wn rfl) rfl rfl (y_pick_f rfl rfl rfl) ?_
              refine wL_nil ?_
              refine wQ_sub (l' := [(2, _), (3, _), (4, _), (5, _), (6, _), (7, _), (9, _), (10, _), (11, _), (13, _), (62, _)]) ⟨rfl, rfl, rfl, rfl, rfl, rfl, rfl, rfl, rfl, rfl, rfl, trivial⟩ ?_
              refine wQ_then ?_
              refine wC_cond_f rfl ?_
              refine wC_skip ?_
              refine wQ_then ?_
              refine wC_seq ?_
              refine wC_seq ?_
              refine wC_region ?_
              refine wL_val (v := .bool (decide (((rs.length + ls.length : Nat) : Int) = 500))) (wn rfl) rfl rfl (y_move rfl rfl) ?_
              by_cases h4 : rs.length + ls.length = 500
              · have hdc : (decide (((rs.length + ls.length : Nat) : Int) = 500)) = true := decide_eq_true (by omega)
                rw [hdc]
                refine wL_val (v := .bool true) (wn rfl) rfl rfl (y_move rfl rfl) ?_
                refine wL_skip (wg rfl rfl rfl rfl) rfl rfl ?_
                refine wL_skip (wg rfl rfl rfl rfl) rfl rfl ?_
                refine wL_skip (wg rfl rfl rfl rfl) rfl rfl ?_
                refine wL_val (v := .bool true) (wn rfl) rfl rfl (y_pick_t rfl rfl rfl) ?_
                refine wL_nil ?_
                refine wQ_sub (l' := [(2, _), (3, _), (4, _), (5, _), (6, _), (7, _), (9, _), (11, _), (71, _)]) ⟨rfl, rfl, rfl, rfl, rfl, rfl, rfl, rfl, rfl, trivial⟩ ?_
                refine wQ_then ?_
                refine wC_cond_t rfl ?_
                refine wC_seq ?_
                refine wC_region ?_
                refine wL_val (v := .agg (qRow ep nx gv (.slice A19 rs.length c20) (.slice A21 ls.length c22) W)) (wn rfl) rfl rfl (y_load rfl rfl (r_load_row 1 S50 rfl Try.underlying29 rfl inf29 rfl)) ?_
                refine wL_val (v := .agg #[.int .i64 14, .int .i64 0, .int .i64 0, .int .i64 0]) (wn rfl) rfl rfl (y_build (vs := [(0, .int .i64 14)]) rfl ⟨rfl, rfl, trivial⟩ (by kernel_rfl)) ?_
                refine wL_st (cs := qRow ep nx gv (.slice A19 rs.length c20) (.slice A21 ls.length c22) W) (row' := qRow ep nx gv (.slice A19 rs.length c20) (.slice A21 ls.length c22) W) (fs' := [_, _, _, _, _, .blk b7 (qRow ep nx gv (.slice A19 rs.length c20) (.slice A21 ls.length c22) W) 29, _, _, _, _]) 5 S50 (wn rfl) rfl rfl rfl rfl rfl rfl inf29 rfl (qRow_one rfl rfl) (Nat.le_of_ble_eq_true rfl) (setAll_all rfl) rfl ?_
                intro w61 S62
                clear S50
                refine wL_st (cs := #[.int .i64 14, .int .i64 0, .int .i64 0, .int .i64 0]) (row' := #[.int .i64 14, .int .i64 0, .int .i64 0, .int .i64 0]) (fs' := [_, _, _, _, .blk b10 #[.int .i64 14, .int .i64 0, .int .i64 0, .int .i64 0] 93, _, _, _, _, _]) 4 S62 (wn rfl) rfl rfl rfl rfl rfl rfl inf93 rfl (oneAll rfl) (Nat.le_of_ble_eq_true rfl) (setAll_all rfl) rfl ?_
                intro w63 S64
                clear S62
                refine wL_val (v := .bool false) (wn rfl) rfl rfl (y_assign rfl rfl) ?_
                refine wL_val (v := .int .i64 0) (wn rfl) rfl rfl (y_assign rfl rfl) ?_
                refine wL_nil ?_
                refine wQ_sub (l' := [(4, _), (5, _), (6, _), (7, _)]) ⟨rfl, rfl, rfl, rfl, trivial⟩ ?_
                refine wQ_then ?_
                refine wC_ret ?_
                refine wQ_then_ret ?_
                refine wQ_then_ret ?_
                refine wQ_post (rs := [.cell 4 29, .cell 5 93, .tmp 6, .tmp 7]) (vs := [.agg (qRow ep nx gv (.slice A19 rs.length c20) (.slice A21 ls.length c22) W), .agg #[.int .i64 14, .int .i64 0, .int .i64 0, .int .i64 0], .bool false, .int .i64 0]) rfl ⟨⟨_, rfl, res_row 5 S64 rfl Try.underlying29 rfl inf29⟩, ⟨_, rfl, res_row 4 S64 rfl Try.underlying93 rfl inf93⟩, rfl, rfl, trivial⟩ ?_
                have S65 : St w.heap.size w w63 [_, _] := (St.del 0 (St.del 1 (St.del 4 (St.del 5 (St.del 6 (St.del 7 (St.del 8 (St.del 9 S64))))))))
                clear S64
                have S66 : St w.heap.size w w63 [.own 137 2 (.slice A19 rs.length c20) rs.length ((rs).flatMap Msg.cells), .own 141 4 (.slice A21 ls.length c22) ls.length ((ls).flatMap Ls.cells)] := S65.re [1, 0] (by decide)
                clear S65
                have S67 := S66.sealAll 0 rfl
                clear S66
                change St _ _ _ [.rdo 2 A19 rs.length ((rs).flatMap Msg.cells), _] at S67
                have S68 := S67.sealAll 1 rfl
                clear S67
                change St _ _ _ [_, .rdo 4 A21 ls.length ((ls).flatMap Ls.cells)] at S68
                rw [do_ok (Q := ⟨ep, nx, gv, rs, ls, W⟩) h0 h1, show stepM ⟨ep, nx, gv, rs, ls, W⟩ ⟨1, ((k : Nat) : Int), id, bd, he, hn⟩ = pubM ⟨ep, nx, gv, rs, ls, W⟩ k id bd from by simp [stepM], pub_full h2 h3 (.inl h4)]
                refine ⟨A19, c20, A21, c22, ?_, ?_⟩
                · dsimp only; rfl
                · dsimp only; exact S68
              · have hdc : (decide (((rs.length + ls.length : Nat) : Int) = 500)) = false := decide_eq_false (by omega)
                rw [hdc]
                refine wL_val (v := .bool false) (wn rfl) rfl rfl (y_move rfl rfl) ?_
                refine wL_val (v := .pointer (some ⟨b1, 1, none⟩)) (wg rfl rfl rfl rfl) rfl rfl (y_fieldAddr rfl rfl (fa29_1 _ _ _)) ?_
                refine wL_val (v := .int .i64 nx) (wg rfl rfl rfl rfl) rfl rfl (y_load rfl rfl (r_load Try.underlying3 rfl (St.cl 7 S50 rfl qRow_g1))) ?_
                by_cases h5 : nx = 1073741824
                · refine wL_val (v := .bool true) (wg rfl rfl rfl rfl) rfl rfl (y_binop rfl rfl rfl (r_eql_t h5)) ?_
                  refine wL_val (v := .bool true) (wn rfl) rfl rfl (y_pick_f rfl rfl rfl) ?_
                  refine wL_nil ?_
                  refine wQ_sub (l' := [(2, _), (3, _), (4, _), (5, _), (6, _), (7, _), (9, _), (11, _), (71, _)]) ⟨rfl, rfl, rfl, rfl, rfl, rfl, rfl, rfl, rfl, trivial⟩ ?_
                  refine wQ_then ?_
                  refine wC_cond_t rfl ?_
                  refine wC_seq ?_
                  refine wC_region ?_
                  refine wL_val (v := .agg (qRow ep nx gv (.slice A19 rs.length c20) (.slice A21 ls.length c22) W)) (wn rfl) rfl rfl (y_load rfl rfl (r_load_row 1 S50 rfl Try.underlying29 rfl inf29 rfl)) ?_
                  refine wL_val (v := .agg #[.int .i64 14, .int .i64 0, .int .i64 0, .int .i64 0]) (wn rfl) rfl rfl (y_build (vs := [(0, .int .i64 14)]) rfl ⟨rfl, rfl, trivial⟩ (by kernel_rfl)) ?_
                  refine wL_st (cs := qRow ep nx gv (.slice A19 rs.length c20) (.slice A21 ls.length c22) W) (row' := qRow ep nx gv (.slice A19 rs.length c20) (.slice A21 ls.length c22) W) (fs' := [_, _, _, _, _, .blk b7 (qRow ep nx gv (.slice A19 rs.length c20) (.slice A21 ls.length c22) W) 29, _, _, _, _]) 5 S50 (wn rfl) rfl rfl rfl rfl rfl rfl inf29 rfl (qRow_one rfl rfl) (Nat.le_of_ble_eq_true rfl) (setAll_all rfl) rfl ?_
                  intro w69 S70
                  clear S50
                  refine wL_st (cs := #[.int .i64 14, .int .i64 0, .int .i64 0, .int .i64 0]) (row' := #[.int .i64 14, .int .i64 0, .int .i64 0, .int .i64 0]) (fs' := [_, _, _, _, .blk b10 #[.int .i64 14, .int .i64 0, .int .i64 0, .int .i64 0] 93, _, _, _, _, _]) 4 S70 (wn rfl) rfl rfl rfl rfl rfl rfl inf93 rfl (oneAll rfl) (Nat.le_of_ble_eq_true rfl) (setAll_all rfl) rfl ?_
                  intro w71 S72
                  clear S70
                  refine wL_val (v := .bool false) (wn rfl) rfl rfl (y_assign rfl rfl) ?_
                  refine wL_val (v := .int .i64 0) (wn rfl) rfl rfl (y_assign rfl rfl) ?_
                  refine wL_nil ?_
                  refine wQ_sub (l' := [(4, _), (5, _), (6, _), (7, _)]) ⟨rfl, rfl, rfl, rfl, trivial⟩ ?_
                  refine wQ_then ?_
                  refine wC_ret ?_
                  refine wQ_then_ret ?_
                  refine wQ_then_ret ?_
                  refine wQ_post (rs := [.cell 4 29, .cell 5 93, .tmp 6, .tmp 7]) (vs := [.agg (qRow ep nx gv (.slice A19 rs.length c20) (.slice A21 ls.length c22) W), .agg #[.int .i64 14, .int .i64 0, .int .i64 0, .int .i64 0], .bool false, .int .i64 0]) rfl ⟨⟨_, rfl, res_row 5 S72 rfl Try.underlying29 rfl inf29⟩, ⟨_, rfl, res_row 4 S72 rfl Try.underlying93 rfl inf93⟩, rfl, rfl, trivial⟩ ?_
                  have S73 : St w.heap.size w w71 [_, _] := (St.del 0 (St.del 1 (St.del 4 (St.del 5 (St.del 6 (St.del 7 (St.del 8 (St.del 9 S72))))))))
                  clear S72
                  have S74 : St w.heap.size w w71 [.own 137 2 (.slice A19 rs.length c20) rs.length ((rs).flatMap Msg.cells), .own 141 4 (.slice A21 ls.length c22) ls.length ((ls).flatMap Ls.cells)] := S73.re [1, 0] (by decide)
                  clear S73
                  have S75 := S74.sealAll 0 rfl
                  clear S74
                  change St _ _ _ [.rdo 2 A19 rs.length ((rs).flatMap Msg.cells), _] at S75
                  have S76 := S75.sealAll 1 rfl
                  clear S75
                  change St _ _ _ [_, .rdo 4 A21 ls.length ((ls).flatMap Ls.cells)] at S76
                  rw [do_ok (Q := ⟨ep, nx, gv, rs, ls, W⟩) h0 h1, show stepM ⟨ep, nx, gv, rs, ls, W⟩ ⟨1, ((k : Nat) : Int), id, bd, he, hn⟩ = pubM ⟨ep, nx, gv, rs, ls, W⟩ k id bd from by simp [stepM], pub_full h2 h3 (.inr h5)]
                  refine ⟨A19, c20, A21, c22, ?_, ?_⟩
                  · dsimp only; rfl
                  · dsimp only; exact S76
                · refine wL_val (v := .bool false) (wg rfl rfl rfl rfl) rfl rfl (y_binop rfl rfl rfl (r_eql_f h5)) ?_
                  refine wL_val (v := .bool false) (wn rfl) rfl rfl (y_pick_f rfl rfl rfl) ?_
                  refine wL_nil ?_
                  refine wQ_sub (l' := [(2, _), (3, _), (4, _), (5, _), (6, _), (7, _), (9, _), (11, _), (71, _)]) ⟨rfl, rfl, rfl, rfl, rfl, rfl, rfl, rfl, rfl, trivial⟩ ?_
                  refine wQ_then ?_
                  refine wC_cond_f rfl ?_
                  refine wC_skip ?_
                  refine wQ_then ?_
                  refine wC_seq ?_
                  refine wC_region ?_
                  refine wL_val (v := .pointer (some ⟨b4, 1, none⟩)) (wn rfl) rfl rfl (y_fieldAddr rfl rfl (fa37_1 _ _ _)) ?_
                  refine wL_val (v := .int .i64 ((k : Nat) : Int)) (wn rfl) rfl rfl (y_load rfl rfl (r_load Try.underlying3 rfl (St.cl 6 S50 rfl rfl))) ?_
                  refine wL_val (v := .agg (((takeW (W.at k) id).1.cells).toArray)) (wn rfl) rfl rfl (y_load rfl rfl (r_load_row 0 S50 rfl Try.underlying26 rfl inf26 rfl)) ?_
                  refine wL_val (v := .pointer (some ⟨b26, 5, none⟩)) (wn rfl) rfl rfl (y_fieldAddr rfl rfl (fa29_5 _ _ _)) ?_
                  refine wL_val (v := .pointer (some ⟨b26, 5 + k * 9, none⟩)) (wn rfl) rfl rfl (y_indexAddr rfl rfl rfl (r_indexArr k Try.underlying27 inf26 rfl hk)) ?_
                  refine wL_st (cs := ((takeW (W.at k) id).1.cells).toArray) (row' := qRow ep nx gv (.slice A19 rs.length c20) (.slice A21 ls.length c22) (W.put k (takeW (W.at k) id).1)) (fs' := [.blk b46 (((takeW (W.at k) id).1.cells).toArray) 26, .blk b26 (qRow ep nx gv (.slice A19 rs.length c20) (.slice A21 ls.length c22) (W.put k (takeW (W.at k) id).1)) 29, .own 141 4 (.slice A21 ls.length c22) ls.length ((ls).flatMap Ls.cells), .own 137 2 (.slice A19 rs.length c20) rs.length ((rs).flatMap Msg.cells), .blk b10 #[.int .i64 0, .int .i64 0, .int .i64 0, .int .i64 0] 93, .blk b7 (qRow 0 0 0 (.slice none 0 0) (.slice none 0 0) zeroWs) 29, .blk b4 #[.int .i64 1, .int .i64 ((k : Nat) : Int), .int .i64 id, .int .i64 bd, .int .i64 he, .int .i64 hn] 37, .blk b1 (qRow ep nx gv (.slice A1 rs.length c1) (.slice A2 ls.length c2) W) 29, .rd 2 A1 rs.length ((rs).flatMap Msg.cells), .rd 4 A2 ls.length ((ls).flatMap Ls.cells)]) 1 S50 (wn rfl) rfl rfl rfl rfl rfl rfl inf26 rfl (win_one _) (by rw [qRow_size]; omega) (qRow_pk hk) rfl ?_
                  intro w77 S78
                  clear S50
                  refine wL_nil ?_
                  refine wQ_sub (l' := [(2, _), (3, _), (4, _), (5, _), (6, _), (7, _), (9, _)]) ⟨rfl, rfl, rfl, rfl, rfl, rfl, rfl, trivial⟩ ?_
                  refine wQ_then ?_
                  refine wC_seq ?_
                  refine wC_region ?_
                  refine wL_val (v := .pointer (some ⟨b26, 3, none⟩)) (wn rfl) rfl rfl (y_fieldAddr rfl rfl (fa29_3 _ _ _)) ?_
                  refine wL_val (v := .slice A19 rs.length c20) (wn rfl) rfl rfl (y_load rfl rfl (r_load Try.underlying22 rfl (St.cl 1 S78 rfl qRow_g3))) ?_
                  refine wL_val (v := .pointer (some ⟨b1, 1, none⟩)) (wn rfl) rfl rfl (y_fieldAddr rfl rfl (fa29_1 _ _ _)) ?_
                  refine wL_val (v := .int .i64 nx) (wn rfl) rfl rfl (y_load rfl rfl (r_load Try.underlying3 rfl (St.cl 7 S78 rfl qRow_g1))) ?_
                  refine wL_val (v := .pointer (some ⟨b4, 3, none⟩)) (wn rfl) rfl rfl (y_fieldAddr rfl rfl (fa37_3 _ _ _)) ?_
                  refine wL_val (v := .int .i64 bd) (wn rfl) rfl rfl (y_load rfl rfl (r_load Try.underlying3 rfl (St.cl 6 S78 rfl rfl))) ?_
                  refine wL_val (v := .agg #[.int .i64 nx, .int .i64 bd]) (wn rfl) rfl rfl (y_build (vs := [(0, .int .i64 nx), (1, .int .i64 bd)]) rfl ⟨rfl, rfl, rfl, rfl, trivial⟩ (by kernel_rfl)) ?_
                  refine wL_new (V := fun b => .slice (some ⟨b, 0, none⟩) 1 1) (row := #[.int .i64 nx, .int .i64 bd]) (t := 137) S78 (wn rfl) rfl rfl (d_buildSlice (vs := [(0, .agg #[.int .i64 nx, .int .i64 bd])]) rfl ⟨rfl, rfl, trivial⟩ (by kernel_rfl)) ?_
                  intro b79 w80 S81
                  clear S78
                  refine wL_append (news := [.int .i64 nx, .int .i64 bd]) (xs' := (rs ++ [(⟨nx, bd⟩ : Msg)]).flatMap Msg.cells) 4 S81 (wn rfl) rfl rfl rfl rfl rfl rfl (St.bld (xs := [.int .i64 nx, .int .i64 bd]) 0 S81 rfl rfl rfl) Try.underlying22 infz137 rfl (by decide) (oneAll rfl) (by simp only [maxLen]; omega) (by omega) (fm_snoc (enc := Msg.cells) rfl rfl) ?_
                  intro A82 c83 w84 hc86 hm87 S85
                  clear S81
                  change St _ _ _ [_, _, _, _, .own 137 2 (.slice A82 (rs.length + 1) c83) (rs.length + 1) ((rs ++ [(⟨nx, bd⟩ : Msg)]).flatMap Msg.cells), _, _, _, _, _, _] at S85
                  refine wL_val (v := .pointer (some ⟨b26, 3, none⟩)) (wn rfl) rfl rfl (y_fieldAddr rfl rfl (fa29_3 _ _ _)) ?_
                  refine wL_st (cs := #[.slice A82 (rs.length + 1) c83]) (row' := qRow ep nx gv (.slice A82 (rs.length + 1) c83) (.slice A21 ls.length c22) (W.put k (takeW (W.at k) id).1)) (fs' := [_, _, .blk b26 (qRow ep nx gv (.slice A82 (rs.length + 1) c83) (.slice A21 ls.length c22) (W.put k (takeW (W.at k) id).1)) 29, _, _, _, _, _, _, _, _]) 2 S85 (wn rfl) rfl rfl rfl rfl rfl rfl inf22 rfl (oneAll rfl) (Nat.le_of_ble_eq_true rfl) qRow_s3 rfl ?_
                  intro w88 S89
                  clear S85
                  refine wL_nil ?_
                  refine wQ_sub (l' := [(2, _), (4, _), (5, _), (6, _), (7, _), (9, _)]) ⟨rfl, rfl, rfl, rfl, rfl, rfl, trivial⟩ ?_
                  refine wQ_then ?_
                  refine wC_seq ?_
                  refine wC_region ?_
                  refine wL_val (v := .pointer (some ⟨b1, 1, none⟩)) (wn rfl) rfl rfl (y_fieldAddr rfl rfl (fa29_1 _ _ _)) ?_
                  refine wL_val (v := .int .i64 nx) (wn rfl) rfl rfl (y_load rfl rfl (r_load Try.underlying3 rfl (St.cl 8 S89 rfl qRow_g1))) ?_
                  refine wL_val (v := .int .i64 (nx + 1)) (wn rfl) rfl rfl (y_binop rfl rfl rfl (r_add (by omega) (by omega))) ?_
                  refine wL_val (v := .pointer (some ⟨b26, 1, none⟩)) (wn rfl) rfl rfl (y_fieldAddr rfl rfl (fa29_1 _ _ _)) ?_
                  refine wL_st (cs := #[.int .i64 (nx + 1)]) (row' := qRow ep (nx + 1) gv (.slice A82 (rs.length + 1) c83) (.slice A21 ls.length c22) (W.put k (takeW (W.at k) id).1)) (fs' := [_, _, .blk b26 (qRow ep (nx + 1) gv (.slice A82 (rs.length + 1) c83) (.slice A21 ls.length c22) (W.put k (takeW (W.at k) id).1)) 29, _, _, _, _, _, _, _, _]) 2 S89 (wn rfl) rfl rfl rfl rfl rfl rfl inf3 rfl (oneAll rfl) (Nat.le_of_ble_eq_true rfl) qRow_s1 rfl ?_
                  intro w90 S91
                  clear S89
                  refine wL_nil ?_
                  refine wQ_sub (l' := [(4, _), (5, _), (6, _), (7, _), (9, _)]) ⟨rfl, rfl, rfl, rfl, rfl, trivial⟩ ?_
                  refine wQ_then ?_
                  refine wC_seq ?_
                  refine wC_region ?_
                  refine wL_val (v := .agg (qRow ep (nx + 1) gv (.slice A82 (rs.length + 1) c83) (.slice A21 ls.length c22) (W.put k (takeW (W.at k) id).1))) (wn rfl) rfl rfl (y_load rfl rfl (r_load_row 2 S91 rfl Try.underlying29 rfl inf29 rfl)) ?_
                  refine wL_val (v := .agg #[.int .i64 0, .int .i64 0, .int .i64 0, .int .i64 0]) (wn rfl) rfl rfl (y_build (vs := []) rfl trivial (by kernel_rfl)) ?_
                  refine wL_st (cs := qRow ep (nx + 1) gv (.slice A82 (rs.length + 1) c83) (.slice A21 ls.length c22) (W.put k (takeW (W.at k) id).1)) (row' := qRow ep (nx + 1) gv (.slice A82 (rs.length + 1) c83) (.slice A21 ls.length c22) (W.put k (takeW (W.at k) id).1)) (fs' := [_, _, _, _, _, _, .blk b7 (qRow ep (nx + 1) gv (.slice A82 (rs.length + 1) c83) (.slice A21 ls.length c22) (W.put k (takeW (W.at k) id).1)) 29, _, _, _, _]) 6 S91 (wn rfl) rfl rfl rfl rfl rfl rfl inf29 rfl (qRow_one rfl rfl) (Nat.le_of_ble_eq_true rfl) (setAll_all rfl) rfl ?_
                  intro w92 S93
                  clear S91
                  refine wL_st (cs := #[.int .i64 0, .int .i64 0, .int .i64 0, .int .i64 0]) (row' := #[.int .i64 0, .int .i64 0, .int .i64 0, .int .i64 0]) (fs' := [_, _, _, _, _, .blk b10 #[.int .i64 0, .int .i64 0, .int .i64 0, .int .i64 0] 93, _, _, _, _, _]) 5 S93 (wn rfl) rfl rfl rfl rfl rfl rfl inf93 rfl (oneAll rfl) (Nat.le_of_ble_eq_true rfl) (setAll_all rfl) rfl ?_
                  intro w94 S95
                  clear S93
                  refine wL_val (v := .bool true) (wn rfl) rfl rfl (y_assign rfl rfl) ?_
                  refine wL_val (v := .int .i64 0) (wn rfl) rfl rfl (y_assign rfl rfl) ?_
                  refine wL_nil ?_
                  refine wQ_sub (l' := [(4, _), (5, _), (6, _), (7, _)]) ⟨rfl, rfl, rfl, rfl, trivial⟩ ?_
                  refine wQ_then ?_
                  refine wC_ret ?_
                  refine wQ_then_ret ?_
                  refine wQ_post (rs := [.cell 4 29, .cell 5 93, .tmp 6, .tmp 7]) (vs := [.agg (qRow ep (nx + 1) gv (.slice A82 (rs.length + 1) c83) (.slice A21 ls.length c22) (W.put k (takeW (W.at k) id).1)), .agg #[.int .i64 0, .int .i64 0, .int .i64 0, .int .i64 0], .bool true, .int .i64 0]) rfl ⟨⟨_, rfl, res_row 6 S95 rfl Try.underlying29 rfl inf29⟩, ⟨_, rfl, res_row 5 S95 rfl Try.underlying93 rfl inf93⟩, rfl, rfl, trivial⟩ ?_
                  have S96 : St w.heap.size w w94 [_, _] := (St.del 0 (St.del 1 (St.del 2 (St.del 5 (St.del 6 (St.del 7 (St.del 8 (St.del 9 (St.del 10 S95)))))))))
                  clear S95
                  have S97 : St w.heap.size w w94 [.own 137 2 (.slice A82 (rs.length + 1) c83) (rs.length + 1) ((rs ++ [(⟨nx, bd⟩ : Msg)]).flatMap Msg.cells), .own 141 4 (.slice A21 ls.length c22) ls.length ((ls).flatMap Ls.cells)] := S96.re [1, 0] (by decide)
                  clear S96
                  have S98 := S97.sealAll 0 rfl
                  clear S97
                  change St _ _ _ [.rdo 2 A82 (rs.length + 1) ((rs ++ [(⟨nx, bd⟩ : Msg)]).flatMap Msg.cells), _] at S98
                  have S99 := S98.sealAll 1 rfl
                  clear S98
                  change St _ _ _ [_, .rdo 4 A21 ls.length ((ls).flatMap Ls.cells)] at S99
                  rw [do_ok (Q := ⟨ep, nx, gv, rs, ls, W⟩) h0 h1, show stepM ⟨ep, nx, gv, rs, ls, W⟩ ⟨1, ((k : Nat) : Int), id, bd, he, hn⟩ = pubM ⟨ep, nx, gv, rs, ls, W⟩ k id bd from by simp [stepM], pub_ok h2 h3 (fun h => h.elim h4 h5)]
                  have hl1 : (rs ++ [(⟨nx, bd⟩ : Msg)]).length = rs.length + 1 := by simp
                  refine ⟨A82, c83, A21, c22, ?_, ?_⟩
                  · dsimp only; rw [hl1]; rfl
                  · dsimp only; rw [hl1]; exact S99
          · refine wL_val (v := .bool true) (wn rfl) rfl rfl (y_binop rfl rfl rfl (r_neq_t h2)) ?_
            refine wL_val (v := .bool true) (wn rfl) rfl rfl (y_move rfl rfl) ?_
            refine wL_skip (wg rfl rfl rfl rfl) rfl rfl ?_
            refine wL_skip (wg rfl rfl rfl rfl) rfl rfl ?_
            refine wL_val (v := .bool true) (wn rfl) rfl rfl (y_pick_t rfl rfl rfl) ?_
            refine wL_nil ?_
            refine wQ_sub (l' := [(2, _), (3, _), (4, _), (5, _), (6, _), (7, _), (9, _), (10, _), (11, _), (13, _), (62, _)]) ⟨rfl, rfl, rfl, rfl, rfl, rfl, rfl, rfl, rfl, rfl, rfl, trivial⟩ ?_
            refine wQ_then ?_
            refine wC_cond_t rfl ?_
            refine wC_seq ?_
            refine wC_region ?_
            refine wL_val (v := .agg (qRow ep nx gv (.slice A19 rs.length c20) (.slice A21 ls.length c22) W)) (wn rfl) rfl rfl (y_load rfl rfl (r_load_row 1 S50 rfl Try.underlying29 rfl inf29 rfl)) ?_
            refine wL_val (v := .int .i64 ((takeW (W.at k) id).2.2)) (wn rfl) rfl rfl (y_move rfl rfl) ?_
            refine wL_val (v := .agg #[.int .i64 ((takeW (W.at k) id).2.2), .int .i64 0, .int .i64 0, .int .i64 0]) (wn rfl) rfl rfl (y_build (vs := [(0, .int .i64 ((takeW (W.at k) id).2.2))]) rfl ⟨rfl, rfl, trivial⟩ (by kernel_rfl)) ?_
            refine wL_st (cs := qRow ep nx gv (.slice A19 rs.length c20) (.slice A21 ls.length c22) W) (row' := qRow ep nx gv (.slice A19 rs.length c20) (.slice A21 ls.length c22) W) (fs' := [_, _, _, _, _, .blk b7 (qRow ep nx gv (.slice A19 rs.length c20) (.slice A21 ls.length c22) W) 29, _, _, _, _]) 5 S50 (wn rfl) rfl rfl rfl rfl rfl rfl inf29 rfl (qRow_one rfl rfl) (Nat.le_of_ble_eq_true rfl) (setAll_all rfl) rfl ?_
            intro w100 S101
            clear S50
            refine wL_st (cs := #[.int .i64 ((takeW (W.at k) id).2.2), .int .i64 0, .int .i64 0, .int .i64 0]) (row' := #[.int .i64 ((takeW (W.at k) id).2.2), .int .i64 0, .int .i64 0, .int .i64 0]) (fs' := [_, _, _, _, .blk b10 #[.int .i64 ((takeW (W.at k) id).2.2), .int .i64 0, .int .i64 0, .int .i64 0] 93, _, _, _, _, _]) 4 S101 (wn rfl) rfl rfl rfl rfl rfl rfl inf93 rfl (oneAll rfl) (Nat.le_of_ble_eq_true rfl) (setAll_all rfl) rfl ?_
            intro w102 S103
            clear S101
            refine wL_val (v := .bool false) (wn rfl) rfl rfl (y_assign rfl rfl) ?_
            refine wL_val (v := .int .i64 0) (wn rfl) rfl rfl (y_assign rfl rfl) ?_
            refine wL_nil ?_
            refine wQ_sub (l' := [(4, _), (5, _), (6, _), (7, _)]) ⟨rfl, rfl, rfl, rfl, trivial⟩ ?_
            refine wQ_then ?_
            refine wC_ret ?_
            refine wQ_then_ret ?_
            refine wQ_then_ret ?_
            refine wQ_post (rs := [.cell 4 29, .cell 5 93, .tmp 6, .tmp 7]) (vs := [.agg (qRow ep nx gv (.slice A19 rs.length c20) (.slice A21 ls.length c22) W), .agg #[.int .i64 ((takeW (W.at k) id).2.2), .int .i64 0, .int .i64 0, .int .i64 0], .bool false, .int .i64 0]) rfl ⟨⟨_, rfl, res_row 5 S103 rfl Try.underlying29 rfl inf29⟩, ⟨_, rfl, res_row 4 S103 rfl Try.underlying93 rfl inf93⟩, rfl, rfl, trivial⟩ ?_
            have S104 : St w.heap.size w w102 [_, _] := (St.del 0 (St.del 1 (St.del 4 (St.del 5 (St.del 6 (St.del 7 (St.del 8 (St.del 9 S103))))))))
            clear S103
            have S105 : St w.heap.size w w102 [.own 137 2 (.slice A19 rs.length c20) rs.length ((rs).flatMap Msg.cells), .own 141 4 (.slice A21 ls.length c22) ls.length ((ls).flatMap Ls.cells)] := S104.re [1, 0] (by decide)
            clear S104
            have S106 := S105.sealAll 0 rfl
            clear S105
            change St _ _ _ [.rdo 2 A19 rs.length ((rs).flatMap Msg.cells), _] at S106
            have S107 := S106.sealAll 1 rfl
            clear S106
            change St _ _ _ [_, .rdo 4 A21 ls.length ((ls).flatMap Ls.cells)] at S107
            rw [do_ok (Q := ⟨ep, nx, gv, rs, ls, W⟩) h0 h1, show stepM ⟨ep, nx, gv, rs, ls, W⟩ ⟨1, ((k : Nat) : Int), id, bd, he, hn⟩ = pubM ⟨ep, nx, gv, rs, ls, W⟩ k id bd from by simp [stepM], pub_err h2]
            refine ⟨A19, c20, A21, c22, ?_, ?_⟩
            · dsimp only; rfl
            · dsimp only; exact S107
        · refine wN_new (i := 12) (listed' := #[true, true, true, true, true, true, true, false, false, false, false, false, true, false, false, false]) rfl rfl (V := fun b => .pointer (some ⟨b, 0, none⟩)) (row := #[.int .i64 0, .bool false, .bool false, .bool false, .bool false, .bool false, .bool false, .bool false, .bool false]) (t := 26) S31 (wn rfl) rfl rfl (d_alloc rfl (Try.zeroValue26 _) rfl) ?_
          intro b108 w109 S110
          clear S31
          refine ⟨(St.del 0 S110), ?_⟩
          refine wA_one (n := 7) (r := 7) (by kernel_rfl) ?_
          refine wN_call_ (i := 7) (listed' := #[true, true, true, true, true, true, true, true, false, false, false, false, true, false, false, false]) rfl rfl (vs := [.agg (((W.at k).cells).toArray), .int .i64 id]) (wn rfl) rfl rfl (e_call (vs := [.agg (((W.at k).cells).toArray), .int .i64 id]) rfl en150 ⟨rfl, rfl, trivial⟩) (IdTaken_below (W.at k) id _) ?_
          rintro _ w111 ⟨rfl, hb113⟩
          refine ⟨_, rfl, ?_⟩
          have S112 := S110.on hb113
          clear hb113 S110
          refine ⟨(St.del 0 S112), ?_⟩
          refine wA_take (v := .tuple #[.agg (((takeW (W.at k) id).1.cells).toArray), .bool ((takeW (W.at k) id).2.1), .int .i64 ((takeW (W.at k) id).2.2)]) (i := 8) (n := 6) (listed' := #[true, true, true, true, true, true, true, true, true, false, false, false, true, false, false, false]) rfl (by kernel_rfl) (by kernel_rfl) (by kernel_rfl) (St.del 0 S112) rfl (wn rfl) rfl rfl (fun _ _ => (y_move rfl rfl)) ?_
          refine wA_take (v := .agg (((takeW (W.at k) id).1.cells).toArray)) (i := 9) (n := 5) (listed' := #[true, true, true, true, true, true, true, true, true, true, false, false, true, false, false, false]) rfl (by kernel_rfl) (by kernel_rfl) (by kernel_rfl) (St.del 0 S112) rfl (wn rfl) rfl rfl (fun _ _ => (y_extract rfl rfl rfl)) ?_
          refine wA_take (v := .bool ((takeW (W.at k) id).2.1)) (i := 10) (n := 4) (listed' := #[true, true, true, true, true, true, true, true, true, true, true, false, true, false, false, false]) rfl (by kernel_rfl) (by kernel_rfl) (by kernel_rfl) (St.del 0 S112) rfl (wn rfl) rfl rfl (fun _ _ => (y_extract rfl rfl rfl)) ?_
          refine wA_take (v := .int .i64 ((takeW (W.at k) id).2.2)) (i := 11) (n := 3) (listed' := #[true, true, true, true, true, true, true, true, true, true, true, true, true, false, false, false]) rfl (by kernel_rfl) (by kernel_rfl) (by kernel_rfl) (St.del 0 S112) rfl (wn rfl) rfl rfl (fun _ _ => (y_extract rfl rfl rfl)) ?_
          refine wA_one (n := 2) (r := 13) (by kernel_rfl) ?_
          refine wN_st (i := 13) (listed' := #[true, true, true, true, true, true, true, true, true, true, true, true, true, true, false, false]) rfl rfl (cs := ((takeW (W.at k) id).1.cells).toArray) (row' := ((takeW (W.at k) id).1.cells).toArray) (fs' := [.blk b108 (((takeW (W.at k) id).1.cells).toArray) 26, _, _, _, _, _, _, _, _, _]) 0 S112 (wn rfl) rfl rfl rfl rfl rfl rfl inf26 rfl (win_one _) (Nat.le_of_ble_eq_true rfl) (setAll_all rfl) rfl ?_
          intro w118 S119
          clear S112
          refine ⟨(St.del 0 S119), ?_⟩
          refine wA_take (v := .bool ((takeW (W.at k) id).2.1)) (i := 14) (n := 1) (listed' := #[true, true, true, true, true, true, true, true, true, true, true, true, true, true, true, false]) rfl (by kernel_rfl) (by kernel_rfl) (by kernel_rfl) (St.del 0 S119) rfl (wn rfl) rfl rfl (fun _ _ => (y_assign rfl rfl)) ?_
          refine wA_take (v := .int .i64 ((takeW (W.at k) id).2.2)) (i := 15) (n := 0) (listed' := #[true, true, true, true, true, true, true, true, true, true, true, true, true, true, true, true]) rfl (by kernel_rfl) (by kernel_rfl) (by kernel_rfl) (St.del 0 S119) rfl (wn rfl) rfl rfl (fun _ _ => (y_assign rfl rfl)) ?_
          refine wA_done (by kernel_rfl) ?_
          refine wQ_sub (l' := [(2, _), (3, _), (4, _), (5, _), (6, _), (7, _), (9, _), (10, _), (11, _), (12, _), (13, _)]) ⟨rfl, rfl, rfl, rfl, rfl, rfl, rfl, rfl, rfl, rfl, rfl, trivial⟩ ?_
          refine wQ_then ?_
          refine wC_seq ?_
          refine wC_seq ?_
          refine wC_region ?_
          refine wL_val (v := .int .i64 ((takeW (W.at k) id).2.2)) (wn rfl) rfl rfl (y_move rfl rfl) ?_
          by_cases h2 : (takeW (W.at k) id).2.2 = 0
          · refine wL_val (v := .bool false) (wn rfl) rfl rfl (y_binop rfl rfl rfl (r_neq_f h2)) ?_
            refine wL_val (v := .bool false) (wn rfl) rfl rfl (y_move rfl rfl) ?_
            refine wL_val (v := .bool ((takeW (W.at k) id).2.1)) (wg rfl rfl rfl rfl) rfl rfl (y_move rfl rfl) ?_
            cases h3 : (takeW (W.at k) id).2.1
            · refine wL_val (v := .bool true) (wg rfl rfl rfl rfl) rfl rfl (y_unop rfl rfl r_not) ?_
              refine wL_val (v := .bool true) (wn rfl) rfl rfl (y_pick_f rfl rfl rfl) ?_
              refine wL_nil ?_
              refine wQ_sub (l' := [(2, _), (3, _), (4, _), (5, _), (6, _), (7, _), (9, _), (10, _), (11, _), (13, _), (62, _)]) ⟨rfl, rfl, rfl, rfl, rfl, rfl, rfl, rfl, rfl, rfl, rfl, trivial⟩ ?_
              refine wQ_then ?_
              refine wC_cond_t rfl ?_
              refine wC_seq ?_
              refine wC_region ?_
              refine wL_val (v := .agg (qRow ep nx gv (.slice A19 rs.length c20) (.slice A21 ls.length c22) W)) (wn rfl) rfl rfl (y_load rfl rfl (r_load_row 1 S119 rfl Try.underlying29 rfl inf29 rfl)) ?_
              refine wL_val (v := .int .i64 ((takeW (W.at k) id).2.2)) (wn rfl) rfl rfl (y_move rfl rfl) ?_
              refine wL_val (v := .agg #[.int .i64 ((takeW (W.at k) id).2.2), .int .i64 0, .int .i64 0, .int .i64 0]) (wn rfl) rfl rfl (y_build (vs := [(0, .int .i64 ((takeW (W.at k) id).2.2))]) rfl ⟨rfl, rfl, trivial⟩ (by kernel_rfl)) ?_
              refine wL_st (cs := qRow ep nx gv (.slice A19 rs.length c20) (.slice A21 ls.length c22) W) (row' := qRow ep nx gv (.slice A19 rs.length c20) (.slice A21 ls.length c22) W) (fs' := [_, _, _, _, _, .blk b7 (qRow ep nx gv (.slice A19 rs.length c20) (.slice A21 ls.length c22) W) 29, _, _, _, _]) 5 S119 (wn rfl) rfl rfl rfl rfl rfl rfl inf29 rfl (qRow_one rfl rfl) (Nat.le_of_ble_eq_true rfl) (setAll_all rfl) rfl ?_
              intro w122 S123
              clear S119
              refine wL_st (cs := #[.int .i64 ((takeW (W.at k) id).2.2), .int .i64 0, .int .i64 0, .int .i64 0]) (row' := #[.int .i64 ((takeW (W.at k) id).2.2), .int .i64 0, .int .i64 0, .int .i64 0]) (fs' := [_, _, _, _, .blk b10 #[.int .i64 ((takeW (W.at k) id).2.2), .int .i64 0, .int .i64 0, .int .i64 0] 93, _, _, _, _, _]) 4 S123 (wn rfl) rfl rfl rfl rfl rfl rfl inf93 rfl (oneAll rfl) (Nat.le_of_ble_eq_true rfl) (setAll_all rfl) rfl ?_
              intro w124 S125
              clear S123
              refine wL_val (v := .bool false) (wn rfl) rfl rfl (y_assign rfl rfl) ?_
              refine wL_val (v := .int .i64 0) (wn rfl) rfl rfl (y_assign rfl rfl) ?_
              refine wL_nil ?_
              refine wQ_sub (l' := [(4, _), (5, _), (6, _), (7, _)]) ⟨rfl, rfl, rfl, rfl, trivial⟩ ?_
              refine wQ_then ?_
              refine wC_ret ?_
              refine wQ_then_ret ?_
              refine wQ_then_ret ?_
              refine wQ_post (rs := [.cell 4 29, .cell 5 93, .tmp 6, .tmp 7]) (vs := [.agg (qRow ep nx gv (.slice A19 rs.length c20) (.slice A21 ls.length c22) W), .agg #[.int .i64 ((takeW (W.at k) id).2.2), .int .i64 0, .int .i64 0, .int .i64 0], .bool false, .int .i64 0]) rfl ⟨⟨_, rfl, res_row 5 S125 rfl Try.underlying29 rfl inf29⟩, ⟨_, rfl, res_row 4 S125 rfl Try.underlying93 rfl inf93⟩, rfl, rfl, trivial⟩ ?_
              have S126 : St w.heap.size w w124 [_, _] := (St.del 0 (St.del 1 (St.del 4 (St.del 5 (St.del 6 (St.del 7 (St.del 8 (St.del 9 S125))))))))
              clear S125
              have S127 : St w.heap.size w w124 [.own 137 2 (.slice A19 rs.length c20) rs.length ((rs).flatMap Msg.cells), .own 141 4 (.slice A21 ls.length c22) ls.length ((ls).flatMap Ls.cells)] := S126.re [1, 0] (by decide)
              clear S126
              have S128 := S127.sealAll 0 rfl
              clear S127
              change St _ _ _ [.rdo 2 A19 rs.length ((rs).flatMap Msg.cells), _] at S128
              have S129 := S128.sealAll 1 rfl
              clear S128
              change St _ _ _ [_, .rdo 4 A21 ls.length ((ls).flatMap Ls.cells)] at S129
              rw [do_ok (Q := ⟨ep, nx, gv, rs, ls, W⟩) h0 h1, show stepM ⟨ep, nx, gv, rs, ls, W⟩ ⟨1, ((k : Nat) : Int), id, bd, he, hn⟩ = pubM ⟨ep, nx, gv, rs, ls, W⟩ k id bd from by simp [stepM], pub_old h2 h3]
              refine ⟨A19, c20, A21, c22, ?_, ?_⟩
              · dsimp only; rw [h2]; rfl
              · dsimp only; exact S129
            · refine wL_val (v := .bool false) (wg rfl rfl rfl rfl) rfl rfl (y_unop rfl rfl r_not) ?_
              refine wL_val (v := .bool false) (wn rfl) rfl rfl (y_pick_f rfl rfl rfl) ?_
              refine wL_nil ?_
              refine wQ_sub (l' := [(2, _), (3, _), (4, _), (5, _), (6, _), (7, _), (9, _), (10, _), (11, _), (13, _), (62, _)]) ⟨rfl, rfl, rfl, rfl, rfl, rfl, rfl, rfl, rfl, rfl, rfl, trivial⟩ ?_
              refine wQ_then ?_
              refine wC_cond_f rfl ?_
              refine wC_skip ?_
              refine wQ_then ?_
              refine wC_seq ?_
              refine wC_seq ?_
              refine wC_region ?_
              refine wL_val (v := .bool (decide (((rs.length + ls.length : Nat) : Int) = 500))) (wn rfl) rfl rfl (y_move rfl rfl) ?_
              by_cases h4 : rs.length + ls.length = 500
              · have hdc : (decide (((rs.length + ls.length : Nat) : Int) = 500)) = true := decide_eq_true (by omega)
                rw [hdc]
                refine wL_val (v := .bool true) (wn rfl) rfl rfl (y_move rfl rfl) ?_
                refine wL_skip (wg rfl rfl rfl rfl) rfl rfl ?_
                refine wL_skip (wg rfl rfl rfl rfl) rfl rfl ?_
                refine wL_skip (wg rfl rfl rfl rfl) rfl rfl ?_
                refine wL_val (v := .bool true) (wn rfl) rfl rfl (y_pick_t rfl rfl rfl) ?_
                refine wL_nil ?_
                refine wQ_sub (l' := [(2, _), (3, _), (4, _), (5, _), (6, _), (7, _), (9, _), (11, _), (71, _)]) ⟨rfl, rfl, rfl, rfl, rfl, rfl, rfl, rfl, rfl, trivial⟩ ?_
                refine wQ_then ?_
                refine wC_cond_t rfl ?_
                refine wC_seq ?_
                refine wC_region ?_
                refine wL_val (v := .agg (qRow ep nx gv (.slice A19 rs.length c20) (.slice A21 ls.length c22) W)) (wn rfl) rfl rfl (y_load rfl rfl (r_load_row 1 S119 rfl Try.underlying29 rfl inf29 rfl)) ?_
                refine wL_val (v := .agg #[.int .i64 14, .int .i64 0, .int .i64 0, .int .i64 0]) (wn rfl) rfl rfl (y_build (vs := [(0, .int .i64 14)]) rfl ⟨rfl, rfl, trivial⟩ (by kernel_rfl)) ?_
                refine wL_st (cs := qRow ep nx gv (.slice A19 rs.length c20) (.slice A21 ls.length c22) W) (row' := qRow ep nx gv (.slice A19 rs.length c20) (.slice A21 ls.length c22) W) (fs' := [_, _, _, _, _, .blk b7 (qRow ep nx gv (.slice A19 rs.length c20) (.slice A21 ls.length c22) W) 29, _, _, _, _]) 5 S119 (wn rfl) rfl rfl rfl rfl rfl rfl inf29 rfl (qRow_one rfl rfl) (Nat.le_of_ble_eq_true rfl) (setAll_all rfl) rfl ?_
                intro w130 S131
                clear S119
                refine wL_st (cs := #[.int .i64 14, .int .i64 0, .int .i64 0, .int .i64 0]) (row' := #[.int .i64 14, .int .i64 0, .int .i64 0, .int .i64 0]) (fs' := [_, _, _, _, .blk b10 #[.int .i64 14, .int .i64 0, .int .i64 0, .int .i64 0] 93, _, _, _, _, _]) 4 S131 (wn rfl) rfl rfl rfl rfl rfl rfl inf93 rfl (oneAll rfl) (Nat.le_of_ble_eq_true rfl) (setAll_all rfl) rfl ?_
                intro w132 S133
                clear S131
                refine wL_val (v := .bool false) (wn rfl) rfl rfl (y_assign rfl rfl) ?_
                refine wL_val (v := .int .i64 0) (wn rfl) rfl rfl (y_assign rfl rfl) ?_
                refine wL_nil ?_
                refine wQ_sub (l' := [(4, _), (5, _), (6, _), (7, _)]) ⟨rfl, rfl, rfl, rfl, trivial⟩ ?_
                refine wQ_then ?_
                refine wC_ret ?_
                refine wQ_then_ret ?_
                refine wQ_then_ret ?_
                refine wQ_post (rs := [.cell 4 29, .cell 5 93, .tmp 6, .tmp 7]) (vs := [.agg (qRow ep nx gv (.slice A19 rs.length c20) (.slice A21 ls.length c22) W), .agg #[.int .i64 14, .int .i64 0, .int .i64 0, .int .i64 0], .bool false, .int .i64 0]) rfl ⟨⟨_, rfl, res_row 5 S133 rfl Try.underlying29 rfl inf29⟩, ⟨_, rfl, res_row 4 S133 rfl Try.underlying93 rfl inf93⟩, rfl, rfl, trivial⟩ ?_
                have S134 : St w.heap.size w w132 [_, _] := (St.del 0 (St.del 1 (St.del 4 (St.del 5 (St.del 6 (St.del 7 (St.del 8 (St.del 9 S133))))))))
                clear S133
                have S135 : St w.heap.size w w132 [.own 137 2 (.slice A19 rs.length c20) rs.length ((rs).flatMap Msg.cells), .own 141 4 (.slice A21 ls.length c22) ls.length ((ls).flatMap Ls.cells)] := S134.re [1, 0] (by decide)
                clear S134
                have S136 := S135.sealAll 0 rfl
                clear S135
                change St _ _ _ [.rdo 2 A19 rs.length ((rs).flatMap Msg.cells), _] at S136
                have S137 := S136.sealAll 1 rfl
                clear S136
                change St _ _ _ [_, .rdo 4 A21 ls.length ((ls).flatMap Ls.cells)] at S137
                rw [do_ok (Q := ⟨ep, nx, gv, rs, ls, W⟩) h0 h1, show stepM ⟨ep, nx, gv, rs, ls, W⟩ ⟨1, ((k : Nat) : Int), id, bd, he, hn⟩ = pubM ⟨ep, nx, gv, rs, ls, W⟩ k id bd from by simp [stepM], pub_full h2 h3 (.inl h4)]
                refine ⟨A19, c20, A21, c22, ?_, ?_⟩
                · dsimp only; rfl
                · dsimp only; exact S137
              · have hdc : (decide (((rs.length + ls.length : Nat) : Int) = 500)) = false := decide_eq_false (by omega)
                rw [hdc]
                refine wL_val (v := .bool false) (wn rfl) rfl rfl (y_move rfl rfl) ?_
                refine wL_val (v := .pointer (some ⟨b1, 1, none⟩)) (wg rfl rfl rfl rfl) rfl rfl (y_fieldAddr rfl rfl (fa29_1 _ _ _)) ?_
                refine wL_val (v := .int .i64 nx) (wg rfl rfl rfl rfl) rfl rfl (y_load rfl rfl (r_load Try.underlying3 rfl (St.cl 7 S119 rfl qRow_g1))) ?_
                by_cases h5 : nx = 1073741824
                · refine wL_val (v := .bool true) (wg rfl rfl rfl rfl) rfl rfl (y_binop rfl rfl rfl (r_eql_t h5)) ?_
                  refine wL_val (v := .bool true) (wn rfl) rfl rfl (y_pick_f rfl rfl rfl) ?_
                  refine wL_nil ?_
                  refine wQ_sub (l' := [(2, _), (3, _), (4, _), (5, _), (6, _), (7, _), (9, _), (11, _), (71, _)]) ⟨rfl, rfl, rfl, rfl, rfl, rfl, rfl, rfl, rfl, trivial⟩ ?_
                  refine wQ_then ?_
                  refine wC_cond_t rfl ?_
                  refine wC_seq ?_
                  refine wC_region ?_
                  refine wL_val (v := .agg (qRow ep nx gv (.slice A19 rs.length c20) (.slice A21 ls.length c22) W)) (wn rfl) rfl rfl (y_load rfl rfl (r_load_row 1 S119 rfl Try.underlying29 rfl inf29 rfl)) ?_
                  refine wL_val (v := .agg #[.int .i64 14, .int .i64 0, .int .i64 0, .int .i64 0]) (wn rfl) rfl rfl (y_build (vs := [(0, .int .i64 14)]) rfl ⟨rfl, rfl, trivial⟩ (by kernel_rfl)) ?_
                  refine wL_st (cs := qRow ep nx gv (.slice A19 rs.length c20) (.slice A21 ls.length c22) W) (row' := qRow ep nx gv (.slice A19 rs.length c20) (.slice A21 ls.length c22) W) (fs' := [_, _, _, _, _, .blk b7 (qRow ep nx gv (.slice A19 rs.length c20) (.slice A21 ls.length c22) W) 29, _, _, _, _]) 5 S119 (wn rfl) rfl rfl rfl rfl rfl rfl inf29 rfl (qRow_one rfl rfl) (Nat.le_of_ble_eq_true rfl) (setAll_all rfl) rfl ?_
                  intro w138 S139
                  clear S119
                  refine wL_st (cs := #[.int .i64 14, .int .i64 0, .int .i64 0, .int .i64 0]) (row' := #[.int .i64 14, .int .i64 0, .int .i64 0, .int .i64 0]) (fs' := [_, _, _, _, .blk b10 #[.int .i64 14, .int .i64 0, .int .i64 0, .int .i64 0] 93, _, _, _, _, _]) 4 S139 (wn rfl) rfl rfl rfl rfl rfl rfl inf93 rfl (oneAll rfl) (Nat.le_of_ble_eq_true rfl) (setAll_all rfl) rfl ?_
                  intro w140 S141
                  clear S139
                  refine wL_val (v := .bool false) (wn rfl) rfl rfl (y_assign rfl rfl) ?_
                  refine wL_val (v := .int .i64 0) (wn rfl) rfl rfl (y_assign rfl rfl) ?_
                  refine wL_nil ?_
                  refine wQ_sub (l' := [(4, _), (5, _), (6, _), (7, _)]) ⟨rfl, rfl, rfl, rfl, trivial⟩ ?_
                  refine wQ_then ?_
                  refine wC_ret ?_
                  refine wQ_then_ret ?_
                  refine wQ_then_ret ?_
                  refine wQ_post (rs := [.cell 4 29, .cell 5 93, .tmp 6, .tmp 7]) (vs := [.agg (qRow ep nx gv (.slice A19 rs.length c20) (.slice A21 ls.length c22) W), .agg #[.int .i64 14, .int .i64 0, .int .i64 0, .int .i64 0], .bool false, .int .i64 0]) rfl ⟨⟨_, rfl, res_row 5 S141 rfl Try.underlying29 rfl inf29⟩, ⟨_, rfl, res_row 4 S141 rfl Try.underlying93 rfl inf93⟩, rfl, rfl, trivial⟩ ?_
                  have S142 : St w.heap.size w w140 [_, _] := (St.del 0 (St.del 1 (St.del 4 (St.del 5 (St.del 6 (St.del 7 (St.del 8 (St.del 9 S141))))))))
                  clear S141
                  have S143 : St w.heap.size w w140 [.own 137 2 (.slice A19 rs.length c20) rs.length ((rs).flatMap Msg.cells), .own 141 4 (.slice A21 ls.length c22) ls.length ((ls).flatMap Ls.cells)] := S142.re [1, 0] (by decide)
                  clear S142
                  have S144 := S143.sealAll 0 rfl
                  clear S143
                  change St _ _ _ [.rdo 2 A19 rs.length ((rs).flatMap Msg.cells), _] at S144
                  have S145 := S144.sealAll 1 rfl
                  clear S144
                  change St _ _ _ [_, .rdo 4 A21 ls.length ((ls).flatMap Ls.cells)] at S145
                  rw [do_ok (Q := ⟨ep, nx, gv, rs, ls, W⟩) h0 h1, show stepM ⟨ep, nx, gv, rs, ls, W⟩ ⟨1, ((k : Nat) : Int), id, bd, he, hn⟩ = pubM ⟨ep, nx, gv, rs, ls, W⟩ k id bd from by simp [stepM], pub_full h2 h3 (.inr h5)]
                  refine ⟨A19, c20, A21, c22, ?_, ?_⟩
                  · dsimp only; rfl
                  · dsimp only; exact S145
                · refine wL_val (v := .bool false) (wg rfl rfl rfl rfl) rfl rfl (y_binop rfl rfl rfl (r_eql_f h5)) ?_
                  refine wL_val (v := .bool false) (wn rfl) rfl rfl (y_pick_f rfl rfl rfl) ?_
                  refine wL_nil ?_
                  refine wQ_sub (l' := [(2, _), (3, _), (4, _), (5, _), (6, _), (7, _), (9, _), (11, _), (71, _)]) ⟨rfl, rfl, rfl, rfl, rfl, rfl, rfl, rfl, rfl, trivial⟩ ?_
                  refine wQ_then ?_
                  refine wC_cond_f rfl ?_
                  refine wC_skip ?_
                  refine wQ_then ?_
                  refine wC_seq ?_
                  refine wC_region ?_
                  refine wL_val (v := .pointer (some ⟨b4, 1, none⟩)) (wn rfl) rfl rfl (y_fieldAddr rfl rfl (fa37_1 _ _ _)) ?_
                  refine wL_val (v := .int .i64 ((k : Nat) : Int)) (wn rfl) rfl rfl (y_load rfl rfl (r_load Try.underlying3 rfl (St.cl 6 S119 rfl rfl))) ?_
                  refine wL_val (v := .agg (((takeW (W.at k) id).1.cells).toArray)) (wn rfl) rfl rfl (y_load rfl rfl (r_load_row 0 S119 rfl Try.underlying26 rfl inf26 rfl)) ?_
                  refine wL_val (v := .pointer (some ⟨b26, 5, none⟩)) (wn rfl) rfl rfl (y_fieldAddr rfl rfl (fa29_5 _ _ _)) ?_
                  refine wL_val (v := .pointer (some ⟨b26, 5 + k * 9, none⟩)) (wn rfl) rfl rfl (y_indexAddr rfl rfl rfl (r_indexArr k Try.underlying27 inf26 rfl hk)) ?_
                  refine wL_st (cs := ((takeW (W.at k) id).1.cells).toArray) (row' := qRow ep nx gv (.slice A19 rs.length c20) (.slice A21 ls.length c22) (W.put k (takeW (W.at k) id).1)) (fs' := [.blk b108 (((takeW (W.at k) id).1.cells).toArray) 26, .blk b26 (qRow ep nx gv (.slice A19 rs.length c20) (.slice A21 ls.length c22) (W.put k (takeW (W.at k) id).1)) 29, .own 141 4 (.slice A21 ls.length c22) ls.length ((ls).flatMap Ls.cells), .own 137 2 (.slice A19 rs.length c20) rs.length ((rs).flatMap Msg.cells), .blk b10 #[.int .i64 0, .int .i64 0, .int .i64 0, .int .i64 0] 93, .blk b7 (qRow 0 0 0 (.slice none 0 0) (.slice none 0 0) zeroWs) 29, .blk b4 #[.int .i64 1, .int .i64 ((k : Nat) : Int), .int .i64 id, .int .i64 bd, .int .i64 he, .int .i64 hn] 37, .blk b1 (qRow ep nx gv (.slice A1 rs.length c1) (.slice A2 ls.length c2) W) 29, .rd 2 A1 rs.length ((rs).flatMap Msg.cells), .rd 4 A2 ls.length ((ls).flatMap Ls.cells)]) 1 S119 (wn rfl) rfl rfl rfl rfl rfl rfl inf26 rfl (win_one _) (by rw [qRow_size]; omega) (qRow_pk hk) rfl ?_
                  intro w146 S147
                  clear S119
                  refine wL_nil ?_
                  refine wQ_sub (l' := [(2, _), (3, _), (4, _), (5, _), (6, _), (7, _), (9, _)]) ⟨rfl, rfl, rfl, rfl, rfl, rfl, rfl, trivial⟩ ?_
                  refine wQ_then ?_
                  refine wC_seq ?_
                  refine wC_region ?_
                  refine wL_val (v := .pointer (some ⟨b26, 3, none⟩)) (wn rfl) rfl rfl (y_fieldAddr rfl rfl (fa29_3 _ _ _)) ?_
                  refine wL_val (v := .slice A19 rs.length c20) (wn rfl) rfl rfl (y_load rfl rfl (r_load Try.underlying22 rfl (St.cl 1 S147 rfl qRow_g3))) ?_
                  refine wL_val (v := .pointer (some ⟨b1, 1, none⟩)) (wn rfl) rfl rfl (y_fieldAddr rfl rfl (fa29_1 _ _ _)) ?_
                  refine wL_val (v := .int .i64 nx) (wn rfl) rfl rfl (y_load rfl rfl (r_load Try.underlying3 rfl (St.cl 7 S147 rfl qRow_g1))) ?_
                  refine wL_val (v := .pointer (some ⟨b4, 3, none⟩)) (wn rfl) rfl rfl (y_fieldAddr rfl rfl (fa37_3 _ _ _)) ?_
                  refine wL_val (v := .int .i64 bd) (wn rfl) rfl rfl (y_load rfl rfl (r_load Try.underlying3 rfl (St.cl 6 S147 rfl rfl))) ?_
                  refine wL_val (v := .agg #[.int .i64 nx, .int .i64 bd]) (wn rfl) rfl rfl (y_build (vs := [(0, .int .i64 nx), (1, .int .i64 bd)]) rfl ⟨rfl, rfl, rfl, rfl, trivial⟩ (by kernel_rfl)) ?_
                  refine wL_new (V := fun b => .slice (some ⟨b, 0, none⟩) 1 1) (row := #[.int .i64 nx, .int .i64 bd]) (t := 137) S147 (wn rfl) rfl rfl (d_buildSlice (vs := [(0, .agg #[.int .i64 nx, .int .i64 bd])]) rfl ⟨rfl, rfl, trivial⟩ (by kernel_rfl)) ?_
                  intro b148 w149 S150
                  clear S147
                  refine wL_append (news := [.int .i64 nx, .int .i64 bd]) (xs' := (rs ++ [(⟨nx, bd⟩ : Msg)]).flatMap Msg.cells) 4 S150 (wn rfl) rfl rfl rfl rfl rfl rfl (St.bld (xs := [.int .i64 nx, .int .i64 bd]) 0 S150 rfl rfl rfl) Try.underlying22 infz137 rfl (by decide) (oneAll rfl) (by simp only [maxLen]; omega) (by omega) (fm_snoc (enc := Msg.cells) rfl rfl) ?_
                  intro A151 c152 w153 hc155 hm156 S154
                  clear S150
                  change St _ _ _ [_, _, _, _, .own 137 2 (.slice A151 (rs.length + 1) c152) (rs.length + 1) ((rs ++ [(⟨nx, bd⟩ : Msg)]).flatMap Msg.cells), _, _, _, _, _, _] at S154
                  refine wL_val (v := .pointer (some ⟨b26, 3, none⟩)) (wn rfl) rfl rfl (y_fieldAddr rfl rfl (fa29_3 _ _ _)) ?_
                  refine wL_st (cs := #[.slice A151 (rs.length + 1) c152]) (row' := qRow ep nx gv (.slice A151 (rs.length + 1) c152) (.slice A21 ls.length c22) (W.put k (takeW (W.at k) id).1)) (fs' := [_, _, .blk b26 (qRow ep nx gv (.slice A151 (rs.length + 1) c152) (.slice A21 ls.length c22) (W.put k (takeW (W.at k) id).1)) 29, _, _, _, _, _, _, _, _]) 2 S154 (wn rfl) rfl rfl rfl rfl rfl rfl inf22 rfl (oneAll rfl) (Nat.le_of_ble_eq_true rfl) qRow_s3 rfl ?_
                  intro w157 S158
                  clear S154
                  refine wL_nil ?_
                  refine wQ_sub (l' := [(2, _), (4, _), (5, _), (6, _), (7, _), (9, _)]) ⟨rfl, rfl, rfl, rfl, rfl, rfl, trivial⟩ ?_
                  refine wQ_then ?_
                  refine wC_seq ?_
                  refine wC_region ?_
                  refine wL_val (v := .pointer (some ⟨b1, 1, none⟩)) (wn rfl) rfl rfl (y_fieldAddr rfl rfl (fa29_1 _ _ _)) ?_
                  refine wL_val (v := .int .i64 nx) (wn rfl) rfl rfl (y_load rfl rfl (r_load Try.underlying3 rfl (St.cl 8 S158 rfl qRow_g1))) ?_
                  refine wL_val (v := .int .i64 (nx + 1)) (wn rfl) rfl rfl (y_binop rfl rfl rfl (r_add (by omega) (by omega))) ?_
                  refine wL_val (v := .pointer (some ⟨b26, 1, none⟩)) (wn rfl) rfl rfl (y_fieldAddr rfl rfl (fa29_1 _ _ _)) ?_
                  refine wL_st (cs := #[.int .i64 (nx + 1)]) (row' := qRow ep (nx + 1) gv (.slice A151 (rs.length + 1) c152) (.slice A21 ls.length c22) (W.put k (takeW (W.at k) id).1)) (fs' := [_, _, .blk b26 (qRow ep (nx + 1) gv (.slice A151 (rs.length + 1) c152) (.slice A21 ls.length c22) (W.put k (takeW (W.at k) id).1)) 29, _, _, _, _, _, _, _, _]) 2 S158 (wn rfl) rfl rfl rfl rfl rfl rfl inf3 rfl (oneAll rfl) (Nat.le_of_ble_eq_true rfl) qRow_s1 rfl ?_
                  intro w159 S160
                  clear S158
                  refine wL_nil ?_
                  refine wQ_sub (l' := [(4, _), (5, _), (6, _), (7, _), (9, _)]) ⟨rfl, rfl, rfl, rfl, rfl, trivial⟩ ?_
                  refine wQ_then ?_
                  refine wC_seq ?_
                  refine wC_region ?_
                  refine wL_val (v := .agg (qRow ep (nx + 1) gv (.slice A151 (rs.length + 1) c152) (.slice A21 ls.length c22) (W.put k (takeW (W.at k) id).1))) (wn rfl) rfl rfl (y_load rfl rfl (r_load_row 2 S160 rfl Try.underlying29 rfl inf29 rfl)) ?_
                  refine wL_val (v := .agg #[.int .i64 0, .int .i64 0, .int .i64 0, .int .i64 0]) (wn rfl) rfl rfl (y_build (vs := []) rfl trivial (by kernel_rfl)) ?_
                  refine wL_st (cs := qRow ep (nx + 1) gv (.slice A151 (rs.length + 1) c152) (.slice A21 ls.length c22) (W.put k (takeW (W.at k) id).1)) (row' := qRow ep (nx + 1) gv (.slice A151 (rs.length + 1) c152) (.slice A21 ls.length c22) (W.put k (takeW (W.at k) id).1)) (fs' := [_, _, _, _, _, _, .blk b7 (qRow ep (nx + 1) gv (.slice A151 (rs.length + 1) c152) (.slice A21 ls.length c22) (W.put k (takeW (W.at k) id).1)) 29, _, _, _, _]) 6 S160 (wn rfl) rfl rfl rfl rfl rfl rfl inf29 rfl (qRow_one rfl rfl) (Nat.le_of_ble_eq_true rfl) (setAll_all rfl) rfl ?_
                  intro w161 S162
                  clear S160
                  refine wL_st (cs := #[.int .i64 0, .int .i64 0, .int .i64 0, .int .i64 0]) (row' := #[.int .i64 0, .int .i64 0, .int .i64 0, .int .i64 0]) (fs' := [_, _, _, _, _, .blk b10 #[.int .i64 0, .int .i64 0, .int .i64 0, .int .i64 0] 93, _, _, _, _, _]) 5 S162 (wn rfl) rfl rfl rfl rfl rfl rfl inf93 rfl (oneAll rfl) (Nat.le_of_ble_eq_true rfl) (setAll_all rfl) rfl ?_
                  intro w163 S164
                  clear S162
                  refine wL_val (v := .bool true) (wn rfl) rfl rfl (y_assign rfl rfl) ?_
                  refine wL_val (v := .int .i64 0) (wn rfl) rfl rfl (y_assign rfl rfl) ?_
                  refine wL_nil ?_
                  refine wQ_sub (l' := [(4, _), (5, _), (6, _), (7, _)]) ⟨rfl, rfl, rfl, rfl, trivial⟩ ?_
                  refine wQ_then ?_
                  refine wC_ret ?_
                  refine wQ_then_ret ?_
                  refine wQ_post (rs := [.cell 4 29, .cell 5 93, .tmp 6, .tmp 7]) (vs := [.agg (qRow ep (nx + 1) gv (.slice A151 (rs.length + 1) c152) (.slice A21 ls.length c22) (W.put k (takeW (W.at k) id).1)), .agg #[.int .i64 0, .int .i64 0, .int .i64 0, .int .i64 0], .bool true, .int .i64 0]) rfl ⟨⟨_, rfl, res_row 6 S164 rfl Try.underlying29 rfl inf29⟩, ⟨_, rfl, res_row 5 S164 rfl Try.underlying93 rfl inf93⟩, rfl, rfl, trivial⟩ ?_
                  have S165 : St w.heap.size w w163 [_, _] := (St.del 0 (St.del 1 (St.del 2 (St.del 5 (St.del 6 (St.del 7 (St.del 8 (St.del 9 (St.del 10 S164)))))))))
                  clear S164
                  have S166 : St w.heap.size w w163 [.own 137 2 (.slice A151 (rs.length + 1) c152) (rs.length + 1) ((rs ++ [(⟨nx, bd⟩ : Msg)]).flatMap Msg.cells), .own 141 4 (.slice A21 ls.length c22) ls.length ((ls).flatMap Ls.cells)] := S165.re [1, 0] (by decide)
                  clear S165
                  have S167 := S166.sealAll 0 rfl
                  clear S166
                  change St _ _ _ [.rdo 2 A151 (rs.length + 1) ((rs ++ [(⟨nx, bd⟩ : Msg)]).flatMap Msg.cells), _] at S167
                  have S168 := S167.sealAll 1 rfl
                  clear S167
                  change St _ _ _ [_, .rdo 4 A21 ls.length ((ls).flatMap Ls.cells)] at S168
                  rw [do_ok (Q := ⟨ep, nx, gv, rs, ls, W⟩) h0 h1, show stepM ⟨ep, nx, gv, rs, ls, W⟩ ⟨1, ((k : Nat) : Int), id, bd, he, hn⟩ = pubM ⟨ep, nx, gv, rs, ls, W⟩ k id bd from by simp [stepM], pub_ok h2 h3 (fun h => h.elim h4 h5)]
                  have hl1 : (rs ++ [(⟨nx, bd⟩ : Msg)]).length = rs.length + 1 := by simp
                  refine ⟨A151, c152, A21, c22, ?_, ?_⟩
                  · dsimp only; rw [hl1]; rfl
                  · dsimp only; rw [hl1]; exact S168
          · refine wL_val (v := .bool true) (wn rfl) rfl rfl (y_binop rfl rfl rfl (r_neq_t h2)) ?_
            refine wL_val (v := .bool true) (wn rfl) rfl rfl (y_move rfl rfl) ?_
            refine wL_skip (wg rfl rfl rfl rfl) rfl rfl ?_
            refine wL_skip (wg rfl rfl rfl rfl) rfl rfl ?_
            refine wL_val (v := .bool true) (wn rfl) rfl rfl (y_pick_t rfl rfl rfl) ?_
            refine wL_nil ?_
            refine wQ_sub (l' := [(2, _), (3, _), (4, _), (5, _), (6, _), (7, _), (9, _), (10, _), (11, _), (13, _), (62, _)]) ⟨rfl, rfl, rfl, rfl, rfl, rfl, rfl, rfl, rfl, rfl, rfl, trivial⟩ ?_
            refine wQ_then ?_
            refine wC_cond_t rfl ?_
            refine wC_seq ?_
            refine wC_region ?_
            refine wL_val (v := .agg (qRow ep nx gv (.slice A19 rs.length c20) (.slice A21 ls.length c22) W)) (wn rfl) rfl rfl (y_load rfl rfl (r_load_row 1 S119 rfl Try.underlying29 rfl inf29 rfl)) ?_
            refine wL_val (v := .int .i64 ((takeW (W.at k) id).2.2)) (wn rfl) rfl rfl (y_move rfl rfl) ?_
            refine wL_val (v := .agg #[.int .i64 ((takeW (W.at k) id).2.2), .int .i64 0, .int .i64 0, .int .i64 0]) (wn rfl) rfl rfl (y_build (vs := [(0, .int .i64 ((takeW (W.at k) id).2.2))]) rfl ⟨rfl, rfl, trivial⟩ (by kernel_rfl)) ?_
            refine wL_st (cs := qRow ep nx gv (.slice A19 rs.length c20) (.slice A21 ls.length c22) W) (row' := qRow ep nx gv (.slice A19 rs.length c20) (.slice A21 ls.length c22) W) (fs' := [_, _, _, _, _, .blk b7 (qRow ep nx gv (.slice A19 rs.length c20) (.slice A21 ls.length c22) W) 29, _, _, _, _]) 5 S119 (wn rfl) rfl rfl rfl rfl rfl rfl inf29 rfl (qRow_one rfl rfl) (Nat.le_of_ble_eq_true rfl) (setAll_all rfl) rfl ?_
            intro w169 S170
            clear S119
            refine wL_st (cs := #[.int .i64 ((takeW (W.at k) id).2.2), .int .i64 0, .int .i64 0, .int .i64 0]) (row' := #[.int .i64 ((takeW (W.at k) id).2.2), .int .i64 0, .int .i64 0, .int .i64 0]) (fs' := [_, _, _, _, .blk b10 #[.int .i64 ((takeW (W.at k) id).2.2), .int .i64 0, .int .i64 0, .int .i64 0] 93, _, _, _, _, _]) 4 S170 (wn rfl) rfl rfl rfl rfl rfl rfl inf93 rfl (oneAll rfl) (Nat.le_of_ble_eq_true rfl) (setAll_all rfl) rfl ?_
            intro w171 S172
            clear S170
            refine wL_val (v := .bool false) (wn rfl) rfl rfl (y_assign rfl rfl) ?_
            refine wL_val (v := .int .i64 0) (wn rfl) rfl rfl (y_assign rfl rfl) ?_
            refine wL_nil ?_
            refine wQ_sub (l' := [(4, _), (5, _), (6, _), (7, _)]) ⟨rfl, rfl, rfl, rfl, trivial⟩ ?_
            refine wQ_then ?_
            refine wC_ret ?_
            refine wQ_then_ret ?_
            refine wQ_then_ret ?_
            refine wQ_post (rs := [.cell 4 29, .cell 5 93, .tmp 6, .tmp 7]) (vs := [.agg (qRow ep nx gv (.slice A19 rs.length c20) (.slice A21 ls.length c22) W), .agg #[.int .i64 ((takeW (W.at k) id).2.2), .int .i64 0, .int .i64 0, .int .i64 0], .bool false, .int .i64 0]) rfl ⟨⟨_, rfl, res_row 5 S172 rfl Try.underlying29 rfl inf29⟩, ⟨_, rfl, res_row 4 S172 rfl Try.underlying93 rfl inf93⟩, rfl, rfl, trivial⟩ ?_
            have S173 : St w.heap.size w w171 [_, _] := (St.del 0 (St.del 1 (St.del 4 (St.del 5 (St.del 6 (St.del 7 (St.del 8 (St.del 9 S172))))))))
            clear S172
            have S174 : St w.heap.size w w171 [.own 137 2 (.slice A19 rs.length c20) rs.length ((rs).flatMap Msg.cells), .own 141 4 (.slice A21 ls.length c22) ls.length ((ls).flatMap Ls.cells)] := S173.re [1, 0] (by decide)
            clear S173
            have S175 := S174.sealAll 0 rfl
            clear S174
            change St _ _ _ [.rdo 2 A19 rs.length ((rs).flatMap Msg.cells), _] at S175
            have S176 := S175.sealAll 1 rfl
            clear S175
            change St _ _ _ [_, .rdo 4 A21 ls.length ((ls).flatMap Ls.cells)] at S176
            rw [do_ok (Q := ⟨ep, nx, gv, rs, ls, W⟩) h0 h1, show stepM ⟨ep, nx, gv, rs, ls, W⟩ ⟨1, ((k : Nat) : Int), id, bd, he, hn⟩ = pubM ⟨ep, nx, gv, rs, ls, W⟩ k id bd from by simp [stepM], pub_err h2]
            refine ⟨A19, c20, A21, c22, ?_, ?_⟩
            · dsimp only; rfl
            · dsimp only; exact S176
      · refine wL_val (v := .bool false) (wn rfl) rfl rfl (y_binop rfl rfl rfl (r_eql_f hz1)) ?_
        refine wL_nil ?_
        refine wQ_sub (l' := [(2, _), (3, _), (4, _), (5, _), (6, _), (7, _), (9, _), (10, _), (44, _)]) ⟨rfl, rfl, rfl, rfl, rfl, rfl, rfl, rfl, rfl, trivial⟩ ?_
        refine wQ_then ?_
        refine wC_cond_f rfl ?_
        refine wC_skip ?_
        refine wQ_then ?_
        refine wC_seq ?_
        refine wC_seq ?_
        refine wC_region ?_
        refine wL_val (v := .pointer (some ⟨b4, 0, none⟩)) (wn rfl) rfl rfl (y_fieldAddr rfl rfl (fa37_0 _ _ _)) ?_
        refine wL_val (v := .int .i64 kd) (wn rfl) rfl rfl (y_load rfl rfl (r_load Try.underlying3 rfl (St.cl 5 S30 rfl rfl))) ?_
        by_cases hz2 : kd = 2
        · subst hz2
          refine wL_val (v := .bool true) (wn rfl) rfl rfl (y_binop rfl rfl rfl (r_eql_t rfl)) ?_
          refine wL_nil ?_
          refine wQ_sub (l' := [(2, _), (3, _), (4, _), (5, _), (6, _), (7, _), (9, _), (97, _)]) ⟨rfl, rfl, rfl, rfl, rfl, rfl, rfl, rfl, trivial⟩ ?_
          refine wQ_then ?_
          refine wC_cond_t rfl ?_
          refine wC_seq ?_
          refine wC_seq ?_
          refine wC_region ?_
          refine wL_val (v := .pointer (some ⟨b1, 3, none⟩)) (wn rfl) rfl rfl (y_fieldAddr rfl rfl (fa29_3 _ _ _)) ?_
          refine wL_val (v := .slice A1 rs.length c1) (wn rfl) rfl rfl (y_load rfl rfl (r_load Try.underlying22 rfl (St.cl 6 S30 rfl qRow_g3))) ?_
          refine wL_val (v := .int .i64 ((rs.length : Nat) : Int)) (wn rfl) rfl rfl (y_builtin (vs := [.slice A1 rs.length c1]) rfl ⟨rfl, trivial⟩ fun _ => r_len rfl Try.underlying22) ?_
          by_cases h2 : rs.length = 0
          · refine wL_val (v := .bool true) (wn rfl) rfl rfl (y_binop rfl rfl rfl (r_eql_t (by omega))) ?_
            refine wL_nil ?_
            refine wQ_sub (l' := [(2, _), (4, _), (5, _), (6, _), (7, _), (9, _), (101, _)]) ⟨rfl, rfl, rfl, rfl, rfl, rfl, rfl, trivial⟩ ?_
            refine wQ_then ?_
            refine wC_cond_t rfl ?_
            refine wC_seq ?_
            refine wC_region ?_
            refine wL_val (v := .agg (qRow ep nx gv (.slice A19 rs.length c20) (.slice A21 ls.length c22) W)) (wn rfl) rfl rfl (y_load rfl rfl (r_load_row 0 S30 rfl Try.underlying29 rfl inf29 rfl)) ?_
            refine wL_val (v := .agg #[.int .i64 10, .int .i64 0, .int .i64 0, .int .i64 0]) (wn rfl) rfl rfl (y_build (vs := [(0, .int .i64 10)]) rfl ⟨rfl, rfl, trivial⟩ (by kernel_rfl)) ?_
            refine wL_st (cs := qRow ep nx gv (.slice A19 rs.length c20) (.slice A21 ls.length c22) W) (row' := qRow ep nx gv (.slice A19 rs.length c20) (.slice A21 ls.length c22) W) (fs' := [_, _, _, _, .blk b7 (qRow ep nx gv (.slice A19 rs.length c20) (.slice A21 ls.length c22) W) 29, _, _, _, _]) 4 S30 (wn rfl) rfl rfl rfl rfl rfl rfl inf29 rfl (qRow_one rfl rfl) (Nat.le_of_ble_eq_true rfl) (setAll_all rfl) rfl ?_
            intro w177 S178
            clear S30
            refine wL_st (cs := #[.int .i64 10, .int .i64 0, .int .i64 0, .int .i64 0]) (row' := #[.int .i64 10, .int .i64 0, .int .i64 0, .int .i64 0]) (fs' := [_, _, _, .blk b10 #[.int .i64 10, .int .i64 0, .int .i64 0, .int .i64 0] 93, _, _, _, _, _]) 3 S178 (wn rfl) rfl rfl rfl rfl rfl rfl inf93 rfl (oneAll rfl) (Nat.le_of_ble_eq_true rfl) (setAll_all rfl) rfl ?_
            intro w179 S180
            clear S178
            refine wL_val (v := .bool false) (wn rfl) rfl rfl (y_assign rfl rfl) ?_
            refine wL_val (v := .int .i64 0) (wn rfl) rfl rfl (y_assign rfl rfl) ?_
            refine wL_nil ?_
            refine wQ_sub (l' := [(4, _), (5, _), (6, _), (7, _)]) ⟨rfl, rfl, rfl, rfl, trivial⟩ ?_
            refine wQ_then ?_
            refine wC_ret ?_
            refine wQ_then_ret ?_
            refine wQ_then_ret ?_
            refine wQ_post (rs := [.cell 4 29, .cell 5 93, .tmp 6, .tmp 7]) (vs := [.agg (qRow ep nx gv (.slice A19 rs.length c20) (.slice A21 ls.length c22) W), .agg #[.int .i64 10, .int .i64 0, .int .i64 0, .int .i64 0], .bool false, .int .i64 0]) rfl ⟨⟨_, rfl, res_row 4 S180 rfl Try.underlying29 rfl inf29⟩, ⟨_, rfl, res_row 3 S180 rfl Try.underlying93 rfl inf93⟩, rfl, rfl, trivial⟩ ?_
            have S181 : St w.heap.size w w179 [_, _] := (St.del 0 (St.del 3 (St.del 4 (St.del 5 (St.del 6 (St.del 7 (St.del 8 S180)))))))
            clear S180
            have S182 : St w.heap.size w w179 [.own 137 2 (.slice A19 rs.length c20) rs.length ((rs).flatMap Msg.cells), .own 141 4 (.slice A21 ls.length c22) ls.length ((ls).flatMap Ls.cells)] := S181.re [1, 0] (by decide)
            clear S181
            have S183 := S182.sealAll 0 rfl
            clear S182
            change St _ _ _ [.rdo 2 A19 rs.length ((rs).flatMap Msg.cells), _] at S183
            have S184 := S183.sealAll 1 rfl
            clear S183
            change St _ _ _ [_, .rdo 4 A21 ls.length ((ls).flatMap Ls.cells)] at S184
            rw [do_ok (Q := ⟨ep, nx, gv, rs, ls, W⟩) h0 h1, show stepM ⟨ep, nx, gv, rs, ls, W⟩ ⟨2, ((k : Nat) : Int), id, bd, he, hn⟩ = recM ⟨ep, nx, gv, rs, ls, W⟩ from by simp [stepM], rec_none h2]
            refine ⟨A19, c20, A21, c22, ?_, ?_⟩
            · dsimp only; rfl
            · dsimp only; exact S184
          · refine wL_val (v := .bool false) (wn rfl) rfl rfl (y_binop rfl rfl rfl (r_eql_f (by omega))) ?_
            refine wL_nil ?_
            refine wQ_sub (l' := [(2, _), (4, _), (5, _), (6, _), (7, _), (9, _), (101, _)]) ⟨rfl, rfl, rfl, rfl, rfl, rfl, rfl, trivial⟩ ?_
            refine wQ_then ?_
            refine wC_cond_f rfl ?_
            refine wC_skip ?_
            refine wQ_then ?_
            refine wC_seq ?_
            refine wC_seq ?_
            refine wC_region ?_
            refine wL_val (v := .pointer (some ⟨b1, 2, none⟩)) (wn rfl) rfl rfl (y_fieldAddr rfl rfl (fa29_2 _ _ _)) ?_
            refine wL_val (v := .int .i64 gv) (wn rfl) rfl rfl (y_load rfl rfl (r_load Try.underlying3 rfl (St.cl 6 S30 rfl qRow_g2))) ?_
            by_cases h3 : gv = 1073741824
            · refine wL_val (v := .bool true) (wn rfl) rfl rfl (y_binop rfl rfl rfl (r_eql_t h3)) ?_
              refine wL_nil ?_
              refine wQ_sub (l' := [(2, _), (4, _), (5, _), (6, _), (7, _), (9, _), (106, _)]) ⟨rfl, rfl, rfl, rfl, rfl, rfl, rfl, trivial⟩ ?_
              refine wQ_then ?_
              refine wC_cond_t rfl ?_
              refine wC_seq ?_
              refine wC_region ?_
              refine wL_val (v := .agg (qRow ep nx gv (.slice A19 rs.length c20) (.slice A21 ls.length c22) W)) (wn rfl) rfl rfl (y_load rfl rfl (r_load_row 0 S30 rfl Try.underlying29 rfl inf29 rfl)) ?_
              refine wL_val (v := .agg #[.int .i64 14, .int .i64 0, .int .i64 0, .int .i64 0]) (wn rfl) rfl rfl (y_build (vs := [(0, .int .i64 14)]) rfl ⟨rfl, rfl, trivial⟩ (by kernel_rfl)) ?_
              refine wL_st (cs := qRow ep nx gv (.slice A19 rs.length c20) (.slice A21 ls.length c22) W) (row' := qRow ep nx gv (.slice A19 rs.length c20) (.slice A21 ls.length c22) W) (fs' := [_, _, _, _, .blk b7 (qRow ep nx gv (.slice A19 rs.length c20) (.slice A21 ls.length c22) W) 29, _, _, _, _]) 4 S30 (wn rfl) rfl rfl rfl rfl rfl rfl inf29 rfl (qRow_one rfl rfl) (Nat.le_of_ble_eq_true rfl) (setAll_all rfl) rfl ?_
              intro w185 S186
              clear S30
              refine wL_st (cs := #[.int .i64 14, .int .i64 0, .int .i64 0, .int .i64 0]) (row' := #[.int .i64 14, .int .i64 0, .int .i64 0, .int .i64 0]) (fs' := [_, _, _, .blk b10 #[.int .i64 14, .int .i64 0, .int .i64 0, .int .i64 0] 93, _, _, _, _, _]) 3 S186 (wn rfl) rfl rfl rfl rfl rfl rfl inf93 rfl (oneAll rfl) (Nat.le_of_ble_eq_true rfl) (setAll_all rfl) rfl ?_
              intro w187 S188
              clear S186
              refine wL_val (v := .bool false) (wn rfl) rfl rfl (y_assign rfl rfl) ?_
              refine wL_val (v := .int .i64 0) (wn rfl) rfl rfl (y_assign rfl rfl) ?_
              refine wL_nil ?_
              refine wQ_sub (l' := [(4, _), (5, _), (6, _), (7, _)]) ⟨rfl, rfl, rfl, rfl, trivial⟩ ?_
              refine wQ_then ?_
              refine wC_ret ?_
              refine wQ_then_ret ?_
              refine wQ_then_ret ?_
              refine wQ_post (rs := [.cell 4 29, .cell 5 93, .tmp 6, .tmp 7]) (vs := [.agg (qRow ep nx gv (.slice A19 rs.length c20) (.slice A21 ls.length c22) W), .agg #[.int .i64 14, .int .i64 0, .int .i64 0, .int .i64 0], .bool false, .int .i64 0]) rfl ⟨⟨_, rfl, res_row 4 S188 rfl Try.underlying29 rfl inf29⟩, ⟨_, rfl, res_row 3 S188 rfl Try.underlying93 rfl inf93⟩, rfl, rfl, trivial⟩ ?_
              have S189 : St w.heap.size w w187 [_, _] := (St.del 0 (St.del 3 (St.del 4 (St.del 5 (St.del 6 (St.del 7 (St.del 8 S188)))))))
              clear S188
              have S190 : St w.heap.size w w187 [.own 137 2 (.slice A19 rs.length c20) rs.length ((rs).flatMap Msg.cells), .own 141 4 (.slice A21 ls.length c22) ls.length ((ls).flatMap Ls.cells)] := S189.re [1, 0] (by decide)
              clear S189
              have S191 := S190.sealAll 0 rfl
              clear S190
              change St _ _ _ [.rdo 2 A19 rs.length ((rs).flatMap Msg.cells), _] at S191
              have S192 := S191.sealAll 1 rfl
              clear S191
              change St _ _ _ [_, .rdo 4 A21 ls.length ((ls).flatMap Ls.cells)] at S192
              rw [do_ok (Q := ⟨ep, nx, gv, rs, ls, W⟩) h0 h1, show stepM ⟨ep, nx, gv, rs, ls, W⟩ ⟨2, ((k : Nat) : Int), id, bd, he, hn⟩ = recM ⟨ep, nx, gv, rs, ls, W⟩ from by simp [stepM], rec_full h2 h3]
              refine ⟨A19, c20, A21, c22, ?_, ?_⟩
              · dsimp only; rfl
              · dsimp only; exact S192
            · refine wL_val (v := .bool false) (wn rfl) rfl rfl (y_binop rfl rfl rfl (r_eql_f h3)) ?_
              refine wL_nil ?_
              refine wQ_sub (l' := [(2, _), (4, _), (5, _), (6, _), (7, _), (9, _), (106, _)]) ⟨rfl, rfl, rfl, rfl, rfl, rfl, rfl, trivial⟩ ?_
              refine wQ_then ?_
              refine wC_cond_f rfl ?_
              refine wC_skip ?_
              refine wQ_then ?_
              refine wC_seq ?_
              refine wC_region ?_
              refine wL_val (v := .pointer (some ⟨b1, 0, none⟩)) (wn rfl) rfl rfl (y_fieldAddr rfl rfl (fa29_0 _ _ _)) ?_
              refine wL_val (v := .int .i64 ep) (wn rfl) rfl rfl (y_load rfl rfl (r_load Try.underlying3 rfl (St.cl 6 S30 rfl qRow_g0))) ?_
              refine wL_val (v := .pointer (some ⟨b1, 2, none⟩)) (wn rfl) rfl rfl (y_fieldAddr rfl rfl (fa29_2 _ _ _)) ?_
              refine wL_val (v := .int .i64 gv) (wn rfl) rfl rfl (y_load rfl rfl (r_load Try.underlying3 rfl (St.cl 6 S30 rfl qRow_g2))) ?_
              refine wL_val (v := .agg #[.int .i64 ep, .int .i64 gv]) (wn rfl) rfl rfl (y_build (vs := [(0, .int .i64 ep), (1, .int .i64 gv)]) rfl ⟨rfl, rfl, rfl, rfl, trivial⟩ (by kernel_rfl)) ?_
              refine wL_new (V := fun b => .pointer (some ⟨b, 0, none⟩)) (row := #[.int .i64 0, .int .i64 0]) (t := 35) S30 (wn rfl) rfl rfl (d_alloc rfl (Try.zeroValue35 _) rfl) ?_
              intro b193 w194 S195
              clear S30
              refine wL_st (cs := #[.int .i64 ep, .int .i64 gv]) (row' := #[.int .i64 ep, .int .i64 gv]) (fs' := [.blk b193 #[.int .i64 ep, .int .i64 gv] 35, _, _, _, _, _, _, _, _, _]) 0 S195 (wn rfl) rfl rfl rfl rfl rfl rfl inf35 rfl (oneAll rfl) (Nat.le_of_ble_eq_true rfl) (setAll_all rfl) rfl ?_
              intro w196 S197
              clear S195
              refine wL_nil ?_
              refine wQ_sub (l' := [(2, _), (4, _), (5, _), (6, _), (7, _), (9, _), (14, _)]) ⟨rfl, rfl, rfl, rfl, rfl, rfl, rfl, trivial⟩ ?_
              refine wQ_then ?_
              refine wC_seq ?_
              refine wC_region ?_
              refine wL_val (v := .pointer (some ⟨b26, 3, none⟩)) (wn rfl) rfl rfl (y_fieldAddr rfl rfl (fa29_3 _ _ _)) ?_
              refine wL_st (cs := #[.slice none 0 0]) (row' := qRow ep nx gv (.slice none 0 0) (.slice A21 ls.length c22) W) (fs' := [_, .blk b26 (qRow ep nx gv (.slice none 0 0) (.slice A21 ls.length c22) W) 29, _, _, _, _, _, _, _, _]) 1 S197 (wn rfl) rfl rfl rfl rfl rfl rfl inf22 rfl (oneAll rfl) (Nat.le_of_ble_eq_true rfl) qRow_s3 rfl ?_
              intro w198 S199
              clear S197
              refine wL_nil ?_
              refine wQ_sub (l' := [(2, _), (4, _), (5, _), (6, _), (7, _), (9, _), (14, _)]) ⟨rfl, rfl, rfl, rfl, rfl, rfl, rfl, trivial⟩ ?_
              refine wQ_then ?_
              refine wC_seq ?_
              refine wC_seq ?_
              refine wC_region ?_
              refine wL_val (v := .int .i64 1) (wn rfl) rfl rfl (y_assign rfl rfl) ?_
              refine wL_nil ?_
              refine wQ_then ?_
              refine wC_block ?_
              have S200 : St w.heap.size w w198 [_, _, _, _, _, _, _, _, _] := (St.del 3 S199)
              clear S199
              have S201 := S200.nil 137 2
              clear S200
              change St _ _ _ [.own 137 2 (.slice none 0 0) 0 (([]).flatMap Msg.cells), .blk b193 #[.int .i64 ep, .int .i64 gv] 35, .blk b26 (qRow ep nx gv (.slice none 0 0) (.slice A21 ls.length c22) W) 29, .own 141 4 (.slice A21 ls.length c22) ls.length ((ls).flatMap Ls.cells), .blk b10 #[.int .i64 0, .int .i64 0, .int .i64 0, .int .i64 0] 93, .blk b7 (qRow 0 0 0 (.slice none 0 0) (.slice none 0 0) zeroWs) 29, .blk b4 #[.int .i64 2, .int .i64 ((k : Nat) : Int), .int .i64 id, .int .i64 bd, .int .i64 he, .int .i64 hn] 37, .blk b1 (qRow ep nx gv (.slice A1 rs.length c1) (.slice A2 ls.length c2) W) 29, .rd 2 A1 rs.length ((rs).flatMap Msg.cells), .rd 4 A2 ls.length ((ls).flatMap Ls.cells)] at S201
              refine wC_loop (X := Nat × (Option Addr) × Nat) (fun xv => [(2, .pointer (some ⟨b1, 0, none⟩)), (4, .pointer (some ⟨b7, 0, none⟩)), (5, .pointer (some ⟨b10, 0, none⟩)), (6, .bool false), (7, .int .i64 0), (9, .pointer (some ⟨b26, 0, none⟩)), (14, .pointer (some ⟨b193, 0, none⟩)), (15, .int .i64 ((xv.1 + 1 : Nat) : Int))]) (fun xv wr => (xv.1 + 1 ≤ rs.length) ∧ St w.heap.size w wr [.own 137 2 (.slice xv.2.1 xv.1 xv.2.2) xv.1 (((rs.drop 1).take xv.1).flatMap Msg.cells), .blk b193 #[.int .i64 ep, .int .i64 gv] 35, .blk b26 (qRow ep nx gv (.slice xv.2.1 xv.1 xv.2.2) (.slice A21 ls.length c22) W) 29, .own 141 4 (.slice A21 ls.length c22) ls.length ((ls).flatMap Ls.cells), .blk b10 #[.int .i64 0, .int .i64 0, .int .i64 0, .int .i64 0] 93, .blk b7 (qRow 0 0 0 (.slice none 0 0) (.slice none 0 0) zeroWs) 29, .blk b4 #[.int .i64 2, .int .i64 ((k : Nat) : Int), .int .i64 id, .int .i64 bd, .int .i64 he, .int .i64 hn] 37, .blk b1 (qRow ep nx gv (.slice A1 rs.length c1) (.slice A2 ls.length c2) W) 29, .rd 2 A1 rs.length ((rs).flatMap Msg.cells), .rd 4 A2 ls.length ((ls).flatMap Ls.cells)]) (fun xv => rs.length - xv.1) (0, none, 0) ?_ ?_ ?_
              · exact ⟨(by dsimp only; omega), S201⟩
              · exact ⟨rfl, rfl, rfl, rfl, rfl, rfl, rfl, rfl, trivial⟩
              · rintro ⟨j, Ab, cb⟩ w202 ⟨hi204, S203⟩
                try dsimp only at hi204 S203
                clear S201
                refine wC_sub (l' := [(2, .pointer (some ⟨b1, 0, none⟩)), (4, .pointer (some ⟨b7, 0, none⟩)), (5, .pointer (some ⟨b10, 0, none⟩)), (6, .bool false), (7, .int .i64 0), (9, .pointer (some ⟨b26, 0, none⟩)), (14, .pointer (some ⟨b193, 0, none⟩)), (15, .int .i64 ((j + 1 : Nat) : Int))]) ⟨rfl, rfl, rfl, rfl, rfl, rfl, rfl, rfl, trivial⟩ ?_
                refine wC_seq ?_
                refine wC_seq ?_
                refine wC_region ?_
                refine wL_val (v := .int .i64 ((j + 1 : Nat) : Int)) (wn rfl) rfl rfl (y_move rfl rfl) ?_
                refine wL_val (v := .pointer (some ⟨b1, 3, none⟩)) (wn rfl) rfl rfl (y_fieldAddr rfl rfl (fa29_3 _ _ _)) ?_
                refine wL_val (v := .slice A1 rs.length c1) (wn rfl) rfl rfl (y_load rfl rfl (r_load Try.underlying22 rfl (St.cl 7 S203 rfl qRow_g3))) ?_
                refine wL_val (v := .int .i64 ((rs.length : Nat) : Int)) (wn rfl) rfl rfl (y_builtin (vs := [.slice A1 rs.length c1]) rfl ⟨rfl, trivial⟩ fun _ => r_len rfl Try.underlying22) ?_
                by_cases h205 : ((j + 1 : Nat) : Int) < ((rs.length : Nat) : Int)
                · refine wL_val (v := .bool true) (wn rfl) rfl rfl (y_binop rfl rfl rfl (r_lss_t h205)) ?_
                  refine wL_nil ?_
                  refine wQ_sub (l' := [(2, _), (4, _), (5, _), (6, _), (7, _), (9, _), (14, _), (15, _), (119, _)]) ⟨rfl, rfl, rfl, rfl, rfl, rfl, rfl, rfl, rfl, trivial⟩ ?_
                  refine wQ_then ?_
                  refine wC_cond_t rfl ?_
                  refine wC_skip ?_
                  refine wQ_then ?_
                  refine wC_seq ?_
                  refine wC_block ?_
                  have S206 := S203.drew
                  clear S203
                  refine wC_head (C := fun w' => St w.heap.size w w' [.blk b193 #[.int .i64 ep, .int .i64 gv] 35, .blk b26 (qRow ep nx gv (.slice Ab j cb) (.slice A21 ls.length c22) W) 29, .own 141 4 (.slice A21 ls.length c22) ls.length ((ls).flatMap Ls.cells), .blk b10 #[.int .i64 0, .int .i64 0, .int .i64 0, .int .i64 0] 93, .blk b7 (qRow 0 0 0 (.slice none 0 0) (.slice none 0 0) zeroWs) 29, .blk b4 #[.int .i64 2, .int .i64 ((k : Nat) : Int), .int .i64 id, .int .i64 bd, .int .i64 he, .int .i64 hn] 37, .blk b1 (qRow ep nx gv (.slice A1 rs.length c1) (.slice A2 ls.length c2) W) 29, .rd 2 A1 rs.length ((rs).flatMap Msg.cells), .rd 4 A2 ls.length ((ls).flatMap Ls.cells)]) (m := 11) (listed := #[false, false, false, false, false, false, false, false, false, false, false]) 9 mixed rfl rfl ?_
                  refine wG_take (v := .pointer (some ⟨b26, 3, none⟩)) (i := 0) (m := 10) (listed' := #[true, false, false, false, false, false, false, false, false, false, false]) rfl (by kernel_rfl) (by kernel_rfl) (by kernel_rfl) rfl (by kernel_rfl) rfl (St.del 0 S206) rfl (wn rfl) rfl rfl (fun _ _ => (y_fieldAddr rfl rfl (fa29_3 _ _ _))) ?_
                  refine wG_take (v := .slice Ab j cb) (i := 1) (m := 9) (listed' := #[true, true, false, false, false, false, false, false, false, false, false]) rfl (by kernel_rfl) (by kernel_rfl) (by kernel_rfl) rfl (by kernel_rfl) rfl (St.del 0 S206) rfl (wn rfl) rfl rfl (fun _ Sx208 => (y_load rfl rfl (r_load Try.underlying22 rfl (St.cl 1 Sx208 rfl qRow_g3)))) ?_
                  refine wG_take (v := .pointer (some ⟨b1, 3, none⟩)) (i := 2) (m := 8) (listed' := #[true, true, true, false, false, false, false, false, false, false, false]) rfl (by kernel_rfl) (by kernel_rfl) (by kernel_rfl) rfl (by kernel_rfl) rfl (St.del 0 S206) rfl (wn rfl) rfl rfl (fun _ _ => (y_fieldAddr rfl rfl (fa29_3 _ _ _))) ?_
                  refine wG_take (v := .slice A1 rs.length c1) (i := 3) (m := 7) (listed' := #[true, true, true, true, false, false, false, false, false, false, false]) rfl (by kernel_rfl) (by kernel_rfl) (by kernel_rfl) rfl (by kernel_rfl) rfl (St.del 0 S206) rfl (wn rfl) rfl rfl (fun _ Sx210 => (y_load rfl rfl (r_load Try.underlying22 rfl (St.cl 6 Sx210 rfl qRow_g3)))) ?_
                  refine wG_take (v := .int .i64 ((j + 1 : Nat) : Int)) (i := 4) (m := 6) (listed' := #[true, true, true, true, true, false, false, false, false, false, false]) rfl (by kernel_rfl) (by kernel_rfl) (by kernel_rfl) rfl (by kernel_rfl) rfl (St.del 0 S206) rfl (wn rfl) rfl rfl (fun _ _ => (y_move rfl rfl)) ?_
                  obtain ⟨b212, o213, rfl⟩ := Rd.addr (St.rd 8 S206 rfl) (by omega)
                  obtain ⟨x214, hx215⟩ : ∃ x, (rs)[j + 1]? = some x := ⟨_, List.getElem?_eq_getElem (by have := (St.rd 8 S206 rfl).1; rw [fm_len (sz := 2) (fun _ => rfl)] at this; omega)⟩
                  refine wG_take (v := .pointer (some ⟨b212, o213 + (j + 1) * 2, none⟩)) (i := 5) (m := 5) (listed' := #[true, true, true, true, true, true, false, false, false, false, false]) rfl (by kernel_rfl) (by kernel_rfl) (by kernel_rfl) rfl (by kernel_rfl) rfl (St.del 0 S206) rfl (wn rfl) rfl rfl (fun _ _ => (y_indexAddr rfl rfl rfl (r_indexAddr (j + 1) Try.underlying22 inf137 (by omega) (by omega)))) ?_
                  refine wG_take (v := .agg #[.int .i64 x214.no, .int .i64 x214.body]) (i := 6) (m := 4) (listed' := #[true, true, true, true, true, true, true, false, false, false, false]) rfl (by kernel_rfl) (by kernel_rfl) (by kernel_rfl) rfl (by kernel_rfl) rfl (St.del 0 S206) rfl (wn rfl) rfl rfl (fun _ Sx217 => (y_load rfl rfl (r_load_agg (cs := Msg.cells x214) Try.underlying137 rfl inf137 rfl (Rd.rg2 (St.rd 7 Sx217 rfl) (fun _ _ h => fm_get (enc := Msg.cells) (sz := 2) (fun _ => rfl) hx215 h))))) ?_
                  refine wG_one (m := 3) (r := 7) (by kernel_rfl) ?_
                  refine wH_new (i := 7) (listed' := #[true, true, true, true, true, true, true, true, false, false, false]) rfl rfl (V := fun b => .slice (some ⟨b, 0, none⟩) 1 1) (row := #[.int .i64 x214.no, .int .i64 x214.body]) (t := 137) S206 (wn rfl) rfl rfl (d_buildSlice (vs := [(0, .agg #[.int .i64 x214.no, .int .i64 x214.body])]) rfl ⟨rfl, rfl, trivial⟩ (by kernel_rfl)) ?_
                  intro b218 w219 S220
                  clear S206
                  refine ⟨(St.del 0 (St.del 1 S220)), ?_⟩
                  refine wG_one (m := 2) (r := 8) (by kernel_rfl) ?_
                  refine wH_append (i := 8) (listed' := #[true, true, true, true, true, true, true, true, true, false, false]) rfl rfl (news := [.int .i64 x214.no, .int .i64 x214.body]) (xs' := ((rs.drop 1).take (j + 1)).flatMap Msg.cells) 1 S220 (wn rfl) rfl rfl rfl rfl rfl rfl (St.bld (xs := [.int .i64 x214.no, .int .i64 x214.body]) 0 S220 rfl rfl rfl) Try.underlying22 infz137 rfl (by decide) (oneAll rfl) (by simp only [maxLen]; omega) (by omega) (fm_snoc (enc := Msg.cells) (take_snoc_ (by rw [List.getElem?_drop, Nat.add_comm]; exact hx215)) rfl) ?_
                  intro A221 c222 w223 hc225 hm226 S224
                  clear S220
                  change St _ _ _ [_, .own 137 2 (.slice A221 (j + 1) c222) (j + 1) (((rs.drop 1).take (j + 1)).flatMap Msg.cells), _, _, _, _, _, _, _, _, _] at S224
                  refine ⟨(St.del 0 (St.del 1 S224)), ?_⟩
                  refine wG_tail (by kernel_rfl) rfl rfl rfl ?_
                  refine wL_val (v := .pointer (some ⟨b26, 3, none⟩)) (wn rfl) rfl rfl (y_fieldAddr rfl rfl (fa29_3 _ _ _)) ?_
                  refine wL_st (cs := #[.slice A221 (j + 1) c222]) (row' := qRow ep nx gv (.slice A221 (j + 1) c222) (.slice A21 ls.length c22) W) (fs' := [_, _, _, .blk b26 (qRow ep nx gv (.slice A221 (j + 1) c222) (.slice A21 ls.length c22) W) 29, _, _, _, _, _, _, _]) 3 S224 (wn rfl) rfl rfl rfl rfl rfl rfl inf22 rfl (oneAll rfl) (Nat.le_of_ble_eq_true rfl) qRow_s3 rfl ?_
                  intro w227 S228
                  clear S224
                  refine wL_nil (wQ_np ?_)
                  refine wQ_sub (l' := [(2, _), (4, _), (5, _), (6, _), (7, _), (9, _), (14, _), (15, _)]) ⟨rfl, rfl, rfl, rfl, rfl, rfl, rfl, rfl, trivial⟩ ?_
                  refine wQ_blk_n ?_
                  refine wQ_then ?_
                  refine wC_region ?_
                  refine wL_val (v := .int .i64 ((j + 1 : Nat) : Int)) (wn rfl) rfl rfl (y_move rfl rfl) ?_
                  refine wL_val (v := .int .i64 (((j + 1) + 1 : Nat) : Int)) (wn rfl) rfl rfl (y_binop rfl rfl rfl (r_add (by omega) (by omega))) ?_
                  refine wL_val (v := .int .i64 (((j + 1) + 1 : Nat) : Int)) (wn rfl) rfl rfl (y_assign rfl rfl) ?_
                  refine wL_nil ?_
                  refine wQ_sub (l' := [(2, _), (4, _), (5, _), (6, _), (7, _), (9, _), (14, _), (15, _)]) ⟨rfl, rfl, rfl, rfl, rfl, rfl, rfl, rfl, trivial⟩ ?_
                  have S229 : St w.heap.size w w227 [_, _, _, _, _, _, _, _, _, _] := (St.del 0 S228)
                  clear S228
                  refine wQ_round (j + 1, A221, c222) ?_ ⟨rfl, rfl, rfl, rfl, rfl, rfl, rfl, rfl, trivial⟩ (by first | omega | (dsimp only; omega))
                  exact ⟨(by dsimp only; omega), S229⟩
                · refine wL_val (v := .bool false) (wn rfl) rfl rfl (y_binop rfl rfl rfl (r_lss_f h205)) ?_
                  refine wL_nil ?_
                  refine wQ_sub (l' := [(2, _), (4, _), (5, _), (6, _), (7, _), (9, _), (14, _), (15, _), (119, _)]) ⟨rfl, rfl, rfl, rfl, rfl, rfl, rfl, rfl, rfl, trivial⟩ ?_
                  refine wQ_then ?_
                  refine wC_cond_f rfl ?_
                  refine wC_exit ?_
                  refine wQ_then_exit ?_
                  refine wQ_then_exit ?_
                  refine wQ_blk_same ?_
                  refine wQ_then ?_
                  refine wC_seq ?_
                  have S230 := S203.drew
                  clear S203
                  refine wC_head (C := fun w' => St w.heap.size w w' [.own 137 2 (.slice Ab j cb) j (((rs.drop 1).take j).flatMap Msg.cells), .blk b193 #[.int .i64 ep, .int .i64 gv] 35, .blk b26 (qRow ep nx gv (.slice Ab j cb) (.slice A21 ls.length c22) W) 29, .blk b10 #[.int .i64 0, .int .i64 0, .int .i64 0, .int .i64 0] 93, .blk b7 (qRow 0 0 0 (.slice none 0 0) (.slice none 0 0) zeroWs) 29, .blk b4 #[.int .i64 2, .int .i64 ((k : Nat) : Int), .int .i64 id, .int .i64 bd, .int .i64 he, .int .i64 hn] 37, .blk b1 (qRow ep nx gv (.slice A1 rs.length c1) (.slice A2 ls.length c2) W) 29, .rd 2 A1 rs.length ((rs).flatMap Msg.cells), .rd 4 A2 ls.length ((ls).flatMap Ls.cells)]) (m := 12) (listed := #[false, false, false, false, false, false, false, false, false, false, false, false]) 10 mixed rfl rfl ?_
                  refine wG_take (v := .pointer (some ⟨b26, 4, none⟩)) (i := 0) (m := 11) (listed' := #[true, false, false, false, false, false, false, false, false, false, false, false]) rfl (by kernel_rfl) (by kernel_rfl) (by kernel_rfl) rfl (by kernel_rfl) rfl (St.del 3 S230) rfl (wn rfl) rfl rfl (fun _ _ => (y_fieldAddr rfl rfl (fa29_4 _ _ _))) ?_
                  refine wG_take (v := .slice A21 ls.length c22) (i := 1) (m := 10) (listed' := #[true, true, false, false, false, false, false, false, false, false, false, false]) rfl (by kernel_rfl) (by kernel_rfl) (by kernel_rfl) rfl (by kernel_rfl) rfl (St.del 3 S230) rfl (wn rfl) rfl rfl (fun _ Sx232 => (y_load rfl rfl (r_load Try.underlying23 rfl (St.cl 2 Sx232 rfl qRow_g4)))) ?_
                  refine wG_take (v := .agg #[.int .i64 ep, .int .i64 gv]) (i := 2) (m := 9) (listed' := #[true, true, true, false, false, false, false, false, false, false, false, false]) rfl (by kernel_rfl) (by kernel_rfl) (by kernel_rfl) rfl (by kernel_rfl) rfl (St.del 3 S230) rfl (wn rfl) rfl rfl (fun _ Sx233 => (y_load rfl rfl (r_load_row 1 Sx233 rfl Try.underlying35 rfl inf35 rfl))) ?_
                  refine wG_take (v := .pointer (some ⟨b1, 3, none⟩)) (i := 3) (m := 8) (listed' := #[true, true, true, true, false, false, false, false, false, false, false, false]) rfl (by kernel_rfl) (by kernel_rfl) (by kernel_rfl) rfl (by kernel_rfl) rfl (St.del 3 S230) rfl (wn rfl) rfl rfl (fun _ _ => (y_fieldAddr rfl rfl (fa29_3 _ _ _))) ?_
                  refine wG_take (v := .slice A1 rs.length c1) (i := 4) (m := 7) (listed' := #[true, true, true, true, true, false, false, false, false, false, false, false]) rfl (by kernel_rfl) (by kernel_rfl) (by kernel_rfl) rfl (by kernel_rfl) rfl (St.del 3 S230) rfl (wn rfl) rfl rfl (fun _ Sx235 => (y_load rfl rfl (r_load Try.underlying22 rfl (St.cl 6 Sx235 rfl qRow_g3)))) ?_
                  obtain ⟨b236, o237, rfl⟩ := Rd.addr (St.rd 8 S230 rfl) (by omega)
                  obtain ⟨x238, hx239⟩ : ∃ x, (rs)[0]? = some x := ⟨_, List.getElem?_eq_getElem (by have := (St.rd 8 S230 rfl).1; rw [fm_len (sz := 2) (fun _ => rfl)] at this; omega)⟩
                  refine wG_take (v := .pointer (some ⟨b236, o237 + 0 * 2, none⟩)) (i := 5) (m := 6) (listed' := #[true, true, true, true, true, true, false, false, false, false, false, false]) rfl (by kernel_rfl) (by kernel_rfl) (by kernel_rfl) rfl (by kernel_rfl) rfl (St.del 3 S230) rfl (wn rfl) rfl rfl (fun _ _ => (y_indexAddr rfl rfl rfl (r_indexAddr 0 Try.underlying22 inf137 (by omega) (by omega)))) ?_
                  refine wG_take (v := .agg #[.int .i64 x238.no, .int .i64 x238.body]) (i := 6) (m := 5) (listed' := #[true, true, true, true, true, true, true, false, false, false, false, false]) rfl (by kernel_rfl) (by kernel_rfl) (by kernel_rfl) rfl (by kernel_rfl) rfl (St.del 3 S230) rfl (wn rfl) rfl rfl (fun _ Sx241 => (y_load rfl rfl (r_load_agg (cs := Msg.cells x238) Try.underlying137 rfl inf137 rfl (Rd.rg2 (St.rd 7 Sx241 rfl) (fun _ _ h => fm_get (enc := Msg.cells) (sz := 2) (fun _ => rfl) hx239 h))))) ?_
                  refine wG_take (v := .agg #[.int .i64 ep, .int .i64 gv, .int .i64 x238.no, .int .i64 x238.body]) (i := 7) (m := 4) (listed' := #[true, true, true, true, true, true, true, true, false, false, false, false]) rfl (by kernel_rfl) (by kernel_rfl) (by kernel_rfl) rfl (by kernel_rfl) rfl (St.del 3 S230) rfl (wn rfl) rfl rfl (fun _ _ => (y_build (vs := [(0, .agg #[.int .i64 ep, .int .i64 gv]), (1, .agg #[.int .i64 x238.no, .int .i64 x238.body])]) rfl ⟨rfl, rfl, rfl, rfl, trivial⟩ (by kernel_rfl))) ?_
                  refine wG_one (m := 3) (r := 8) (by kernel_rfl) ?_
                  refine wH_new (i := 8) (listed' := #[true, true, true, true, true, true, true, true, true, false, false, false]) rfl rfl (V := fun b => .slice (some ⟨b, 0, none⟩) 1 1) (row := #[.int .i64 ep, .int .i64 gv, .int .i64 x238.no, .int .i64 x238.body]) (t := 141) S230 (wn rfl) rfl rfl (d_buildSlice (vs := [(0, .agg #[.int .i64 ep, .int .i64 gv, .int .i64 x238.no, .int .i64 x238.body])]) rfl ⟨rfl, rfl, trivial⟩ (by kernel_rfl)) ?_
                  intro b243 w244 S245
                  clear S230
                  refine ⟨(St.del 0 (St.del 4 S245)), ?_⟩
                  refine wG_one (m := 2) (r := 9) (by kernel_rfl) ?_
                  refine wH_append (i := 9) (listed' := #[true, true, true, true, true, true, true, true, true, true, false, false]) rfl rfl (news := [.int .i64 ep, .int .i64 gv, .int .i64 x238.no, .int .i64 x238.body]) (xs' := (ls ++ [(⟨ep, gv, x238⟩ : Ls)]).flatMap Ls.cells) 4 S245 (wn rfl) rfl rfl rfl rfl rfl rfl (St.bld (xs := [.int .i64 ep, .int .i64 gv, .int .i64 x238.no, .int .i64 x238.body]) 0 S245 rfl rfl rfl) Try.underlying23 infz141 rfl (by decide) (oneAll rfl) (by simp only [maxLen]; omega) (by omega) (fm_snoc (enc := Ls.cells) rfl rfl) ?_
                  intro A246 c247 w248 hc250 hm251 S249
                  clear S245
                  change St _ _ _ [_, _, _, _, .own 141 4 (.slice A246 (ls.length + 1) c247) (ls.length + 1) ((ls ++ [(⟨ep, gv, x238⟩ : Ls)]).flatMap Ls.cells), _, _, _, _, _, _] at S249
                  refine ⟨(St.del 0 (St.del 4 S249)), ?_⟩
                  refine wG_tail (by kernel_rfl) rfl rfl rfl ?_
                  refine wL_val (v := .pointer (some ⟨b26, 4, none⟩)) (wn rfl) rfl rfl (y_fieldAddr rfl rfl (fa29_4 _ _ _)) ?_
                  refine wL_st (cs := #[.slice A246 (ls.length + 1) c247]) (row' := qRow ep nx gv (.slice Ab j cb) (.slice A246 (ls.length + 1) c247) W) (fs' := [_, _, _, .blk b26 (qRow ep nx gv (.slice Ab j cb) (.slice A246 (ls.length + 1) c247) W) 29, _, _, _, _, _, _, _]) 3 S249 (wn rfl) rfl rfl rfl rfl rfl rfl inf23 rfl (oneAll rfl) (Nat.le_of_ble_eq_true rfl) qRow_s4 rfl ?_
                  intro w252 S253
                  clear S249
                  refine wL_nil (wQ_np ?_)
                  refine wQ_sub (l' := [(2, _), (4, _), (5, _), (6, _), (7, _), (9, _), (14, _)]) ⟨rfl, rfl, rfl, rfl, rfl, rfl, rfl, trivial⟩ ?_
                  refine wQ_then ?_
                  refine wC_seq ?_
                  refine wC_region ?_
                  refine wL_val (v := .pointer (some ⟨b1, 2, none⟩)) (wn rfl) rfl rfl (y_fieldAddr rfl rfl (fa29_2 _ _ _)) ?_
                  refine wL_val (v := .int .i64 gv) (wn rfl) rfl rfl (y_load rfl rfl (r_load Try.underlying3 rfl (St.cl 8 S253 rfl qRow_g2))) ?_
                  refine wL_val (v := .int .i64 (gv + 1)) (wn rfl) rfl rfl (y_binop rfl rfl rfl (r_add (by omega) (by omega))) ?_
                  refine wL_val (v := .pointer (some ⟨b26, 2, none⟩)) (wn rfl) rfl rfl (y_fieldAddr rfl rfl (fa29_2 _ _ _)) ?_
                  refine wL_st (cs := #[.int .i64 (gv + 1)]) (row' := qRow ep nx (gv + 1) (.slice Ab j cb) (.slice A246 (ls.length + 1) c247) W) (fs' := [_, _, _, .blk b26 (qRow ep nx (gv + 1) (.slice Ab j cb) (.slice A246 (ls.length + 1) c247) W) 29, _, _, _, _, _, _, _]) 3 S253 (wn rfl) rfl rfl rfl rfl rfl rfl inf3 rfl (oneAll rfl) (Nat.le_of_ble_eq_true rfl) qRow_s2 rfl ?_
                  intro w254 S255
                  clear S253
                  refine wL_nil ?_
                  refine wQ_sub (l' := [(2, _), (4, _), (5, _), (6, _), (7, _), (9, _), (14, _)]) ⟨rfl, rfl, rfl, rfl, rfl, rfl, rfl, trivial⟩ ?_
                  refine wQ_then ?_
                  refine wC_seq ?_
                  have S256 := S255.drew
                  clear S255
                  refine wC_any_ (C := fun w' => St w.heap.size w w' [.blk b243 #[.int .i64 ep, .int .i64 gv, .int .i64 x238.no, .int .i64 x238.body] 141, .own 137 2 (.slice Ab j cb) j (((rs.drop 1).take j).flatMap Msg.cells), .blk b193 #[.int .i64 ep, .int .i64 gv] 35, .blk b26 (qRow ep nx (gv + 1) (.slice Ab j cb) (.slice A246 (ls.length + 1) c247) W) 29, .own 141 4 (.slice A246 (ls.length + 1) c247) (ls.length + 1) ((ls ++ [(⟨ep, gv, x238⟩ : Ls)]).flatMap Ls.cells), .blk b4 #[.int .i64 2, .int .i64 ((k : Nat) : Int), .int .i64 id, .int .i64 bd, .int .i64 he, .int .i64 hn] 37, .blk b1 (qRow ep nx gv (.slice (some ⟨b236, o237, none⟩) rs.length c1) (.slice A2 ls.length c2) W) 29, .rd 2 (some ⟨b236, o237, none⟩) rs.length ((rs).flatMap Msg.cells), .rd 4 A2 ls.length ((ls).flatMap Ls.cells)]) (n := 12) (listed := #[false, false, false, false, false, false, false, false, false, false, false, false]) mixed rfl rfl ?_
                  refine wA_take (v := .agg (qRow ep nx (gv + 1) (.slice Ab j cb) (.slice A246 (ls.length + 1) c247) W)) (i := 0) (n := 11) (listed' := #[true, false, false, false, false, false, false, false, false, false, false, false]) rfl (by kernel_rfl) (by kernel_rfl) (by kernel_rfl) (St.del 5 (St.del 6 S256)) rfl (wn rfl) rfl rfl (fun _ Sx257 => (y_load rfl rfl (r_load_row 3 Sx257 rfl Try.underlying29 rfl inf29 rfl))) ?_
                  refine wA_take (v := .agg #[.int .i64 ep, .int .i64 gv]) (i := 1) (n := 10) (listed' := #[true, true, false, false, false, false, false, false, false, false, false, false]) rfl (by kernel_rfl) (by kernel_rfl) (by kernel_rfl) (St.del 5 (St.del 6 S256)) rfl (wn rfl) rfl rfl (fun _ Sx258 => (y_load rfl rfl (r_load_row 2 Sx258 rfl Try.underlying35 rfl inf35 rfl))) ?_
                  refine wA_take (v := .pointer (some ⟨b1, 3, none⟩)) (i := 2) (n := 9) (listed' := #[true, true, true, false, false, false, false, false, false, false, false, false]) rfl (by kernel_rfl) (by kernel_rfl) (by kernel_rfl) (St.del 5 (St.del 6 S256)) rfl (wn rfl) rfl rfl (fun _ _ => (y_fieldAddr rfl rfl (fa29_3 _ _ _))) ?_
                  refine wA_take (v := .slice (some ⟨b236, o237, none⟩) rs.length c1) (i := 3) (n := 8) (listed' := #[true, true, true, true, false, false, false, false, false, false, false, false]) rfl (by kernel_rfl) (by kernel_rfl) (by kernel_rfl) (St.del 5 (St.del 6 S256)) rfl (wn rfl) rfl rfl (fun _ Sx260 => (y_load rfl rfl (r_load Try.underlying22 rfl (St.cl 6 Sx260 rfl qRow_g3)))) ?_
                  refine wA_take (v := .pointer (some ⟨b236, o237 + 0 * 2, none⟩)) (i := 4) (n := 7) (listed' := #[true, true, true, true, true, false, false, false, false, false, false, false]) rfl (by kernel_rfl) (by kernel_rfl) (by kernel_rfl) (St.del 5 (St.del 6 S256)) rfl (wn rfl) rfl rfl (fun _ _ => (y_indexAddr rfl rfl rfl (r_indexAddr 0 Try.underlying22 inf137 (by omega) (by omega)))) ?_
                  refine wA_take (v := .pointer (some ⟨b236, o237 + 0 * 2 + 1, none⟩)) (i := 5) (n := 6) (listed' := #[true, true, true, true, true, true, false, false, false, false, false, false]) rfl (by kernel_rfl) (by kernel_rfl) (by kernel_rfl) (St.del 5 (St.del 6 S256)) rfl (wn rfl) rfl rfl (fun _ _ => (y_fieldAddr rfl rfl (fa137_1 _ _ _))) ?_
                  refine wA_take (v := .int .i64 x238.body) (i := 6) (n := 5) (listed' := #[true, true, true, true, true, true, true, false, false, false, false, false]) rfl (by kernel_rfl) (by kernel_rfl) (by kernel_rfl) (St.del 5 (St.del 6 S256)) rfl (wn rfl) rfl rfl (fun _ Sx263 => (y_load rfl rfl (r_load Try.underlying3 rfl (Rd.cl2 (i := 1) (St.rd 7 Sx263 rfl) (fm_get (enc := Msg.cells) (sz := 2) (fun _ => rfl) hx239 rfl))))) ?_
                  refine wA_take (v := .agg #[.int .i64 0, .int .i64 ep, .int .i64 gv, .int .i64 x238.body]) (i := 7) (n := 4) (listed' := #[true, true, true, true, true, true, true, true, false, false, false, false]) rfl (by kernel_rfl) (by kernel_rfl) (by kernel_rfl) (St.del 5 (St.del 6 S256)) rfl (wn rfl) rfl rfl (fun _ _ => (y_build (vs := [(1, .agg #[.int .i64 ep, .int .i64 gv]), (2, .int .i64 x238.body)]) rfl ⟨rfl, rfl, rfl, rfl, trivial⟩ (by kernel_rfl))) ?_
                  refine wA_one (n := 3) (r := 8) (by kernel_rfl) ?_
                  refine wN_st (i := 8) (listed' := #[true, true, true, true, true, true, true, true, true, false, false, false]) rfl rfl (cs := qRow ep nx (gv + 1) (.slice Ab j cb) (.slice A246 (ls.length + 1) c247) W) (row' := qRow ep nx (gv + 1) (.slice Ab j cb) (.slice A246 (ls.length + 1) c247) W) (fs' := [_, _, _, _, _, _, .blk b7 (qRow ep nx (gv + 1) (.slice Ab j cb) (.slice A246 (ls.length + 1) c247) W) 29, _, _, _, _]) 6 S256 (wn rfl) rfl rfl rfl rfl rfl rfl inf29 rfl (qRow_one rfl rfl) (Nat.le_of_ble_eq_true rfl) (setAll_all rfl) rfl ?_
                  intro w265 S266
                  clear S256
                  refine ⟨(St.del 5 (St.del 6 S266)), ?_⟩
                  refine wA_one (n := 2) (r := 9) (by kernel_rfl) ?_
                  refine wN_st (i := 9) (listed' := #[true, true, true, true, true, true, true, true, true, true, false, false]) rfl rfl (cs := #[.int .i64 0, .int .i64 ep, .int .i64 gv, .int .i64 x238.body]) (row' := #[.int .i64 0, .int .i64 ep, .int .i64 gv, .int .i64 x238.body]) (fs' := [_, _, _, _, _, .blk b10 #[.int .i64 0, .int .i64 ep, .int .i64 gv, .int .i64 x238.body] 93, _, _, _, _, _]) 5 S266 (wn rfl) rfl rfl rfl rfl rfl rfl inf93 rfl (oneAll rfl) (Nat.le_of_ble_eq_true rfl) (setAll_all rfl) rfl ?_
                  intro w267 S268
                  clear S266
                  refine ⟨(St.del 5 (St.del 6 S268)), ?_⟩
                  refine wA_take (v := .bool true) (i := 10) (n := 1) (listed' := #[true, true, true, true, true, true, true, true, true, true, true, false]) rfl (by kernel_rfl) (by kernel_rfl) (by kernel_rfl) (St.del 5 (St.del 6 S268)) rfl (wn rfl) rfl rfl (fun _ _ => (y_assign rfl rfl)) ?_
                  refine wA_take (v := .int .i64 0) (i := 11) (n := 0) (listed' := #[true, true, true, true, true, true, true, true, true, true, true, true]) rfl (by kernel_rfl) (by kernel_rfl) (by kernel_rfl) (St.del 5 (St.del 6 S268)) rfl (wn rfl) rfl rfl (fun _ _ => (y_assign rfl rfl)) ?_
                  refine wA_done (by kernel_rfl) ?_
                  refine wQ_sub (l' := [(4, _), (5, _), (6, _), (7, _)]) ⟨rfl, rfl, rfl, rfl, trivial⟩ ?_
                  refine wQ_then ?_
                  refine wC_ret ?_
                  refine wQ_then_ret ?_
                  refine wQ_post (rs := [.cell 4 29, .cell 5 93, .tmp 6, .tmp 7]) (vs := [.agg (qRow ep nx (gv + 1) (.slice Ab j cb) (.slice A246 (ls.length + 1) c247) W), .agg #[.int .i64 0, .int .i64 ep, .int .i64 gv, .int .i64 x238.body], .bool true, .int .i64 0]) rfl ⟨⟨_, rfl, res_row 6 S268 rfl Try.underlying29 rfl inf29⟩, ⟨_, rfl, res_row 5 S268 rfl Try.underlying93 rfl inf93⟩, rfl, rfl, trivial⟩ ?_
                  obtain rfl : j = rs.length - 1 := by omega
                  have S271 := S268
                  clear S268
                  rw [List.take_of_length_le (by simp)] at S271
                  change St _ _ _ [.blk b243 #[.int .i64 ep, .int .i64 gv, .int .i64 x238.no, .int .i64 x238.body] 141, .own 137 2 (.slice Ab (rs.length - 1) cb) (rs.length - 1) ((rs.drop 1).flatMap Msg.cells), .blk b193 #[.int .i64 ep, .int .i64 gv] 35, .blk b26 (qRow ep nx (gv + 1) (.slice Ab (rs.length - 1) cb) (.slice A246 (ls.length + 1) c247) W) 29, .own 141 4 (.slice A246 (ls.length + 1) c247) (ls.length + 1) ((ls ++ [(⟨ep, gv, x238⟩ : Ls)]).flatMap Ls.cells), .blk b10 #[.int .i64 0, .int .i64 ep, .int .i64 gv, .int .i64 x238.body] 93, .blk b7 (qRow ep nx (gv + 1) (.slice Ab (rs.length - 1) cb) (.slice A246 (ls.length + 1) c247) W) 29, .blk b4 #[.int .i64 2, .int .i64 ((k : Nat) : Int), .int .i64 id, .int .i64 bd, .int .i64 he, .int .i64 hn] 37, .blk b1 (qRow ep nx gv (.slice (some ⟨b236, o237, none⟩) rs.length c1) (.slice A2 ls.length c2) W) 29, .rd 2 (some ⟨b236, o237, none⟩) rs.length ((rs).flatMap Msg.cells), .rd 4 A2 ls.length ((ls).flatMap Ls.cells)] at S271
                  have S272 : St w.heap.size w w267 [_, _] := (St.del 0 (St.del 2 (St.del 3 (St.del 5 (St.del 6 (St.del 7 (St.del 8 (St.del 9 (St.del 10 S271)))))))))
                  clear S271
                  have S273 := S272.sealAll 0 rfl
                  clear S272
                  change St _ _ _ [.rdo 2 Ab (rs.length - 1) ((rs.drop 1).flatMap Msg.cells), _] at S273
                  have S274 := S273.sealAll 1 rfl
                  clear S273
                  change St _ _ _ [_, .rdo 4 A246 (ls.length + 1) ((ls ++ [(⟨ep, gv, x238⟩ : Ls)]).flatMap Ls.cells)] at S274
                  rw [do_ok (Q := ⟨ep, nx, gv, rs, ls, W⟩) h0 h1, show stepM ⟨ep, nx, gv, rs, ls, W⟩ ⟨2, ((k : Nat) : Int), id, bd, he, hn⟩ = recM ⟨ep, nx, gv, rs, ls, W⟩ from by simp [stepM], rec_ok hx239 h3]
                  have hl1 : (rs.drop 1).length = rs.length - 1 := by simp
                  have hl2 : (ls ++ [(⟨ep, gv, x238⟩ : Ls)]).length = ls.length + 1 := by simp
                  refine ⟨Ab, cb, A246, c247, ?_, ?_⟩
                  · dsimp only; rw [hl1, hl2]; rfl
                  · dsimp only; rw [hl1, hl2]; exact S274
        · refine wL_val (v := .bool false) (wn rfl) rfl rfl (y_binop rfl rfl rfl (r_eql_f hz2)) ?_
          refine wL_nil ?_
          refine wQ_sub (l' := [(2, _), (3, _), (4, _), (5, _), (6, _), (7, _), (9, _), (97, _)]) ⟨rfl, rfl, rfl, rfl, rfl, rfl, rfl, rfl, trivial⟩ ?_
          refine wQ_then ?_
          refine wC_cond_f rfl ?_
          refine wC_skip ?_
          refine wQ_then ?_
          refine wC_seq ?_
          refine wC_seq ?_
          refine wC_region ?_
          refine wL_val (v := .pointer (some ⟨b4, 0, none⟩)) (wn rfl) rfl rfl (y_fieldAddr rfl rfl (fa37_0 _ _ _)) ?_
          refine wL_val (v := .int .i64 kd) (wn rfl) rfl rfl (y_load rfl rfl (r_load Try.underlying3 rfl (St.cl 5 S30 rfl rfl))) ?_
          by_cases hz3 : kd = 3
          · subst hz3
            refine wL_val (v := .bool true) (wn rfl) rfl rfl (y_binop rfl rfl rfl (r_eql_t rfl)) ?_
            refine wL_nil ?_
            refine wQ_sub (l' := [(2, _), (3, _), (4, _), (5, _), (6, _), (7, _), (9, _), (157, _)]) ⟨rfl, rfl, rfl, rfl, rfl, rfl, rfl, rfl, trivial⟩ ?_
            refine wQ_then ?_
            refine wC_cond_t rfl ?_
            refine wC_seq ?_
            refine wC_seq ?_
            refine wC_region ?_
            refine wL_val (v := .pointer (some ⟨b4, 4, none⟩)) (wn rfl) rfl rfl (y_fieldAddr rfl rfl (fa37_4 _ _ _)) ?_
            refine wL_val (v := .pointer (some ⟨b4, 4, none⟩)) (wn rfl) rfl rfl (y_fieldAddr rfl rfl (fa35_0 _ _ _)) ?_
            refine wL_val (v := .int .i64 he) (wn rfl) rfl rfl (y_load rfl rfl (r_load Try.underlying3 rfl (St.cl 5 S30 rfl rfl))) ?_
            refine wL_val (v := .pointer (some ⟨b1, 0, none⟩)) (wn rfl) rfl rfl (y_fieldAddr rfl rfl (fa29_0 _ _ _)) ?_
            refine wL_val (v := .int .i64 ep) (wn rfl) rfl rfl (y_load rfl rfl (r_load Try.underlying3 rfl (St.cl 6 S30 rfl qRow_g0))) ?_
            by_cases h2 : he = ep
            · refine wL_val (v := .bool false) (wn rfl) rfl rfl (y_binop rfl rfl rfl (r_neq_f h2)) ?_
              refine wL_nil ?_
              refine wQ_sub (l' := [(2, _), (3, _), (4, _), (5, _), (6, _), (7, _), (9, _), (163, _)]) ⟨rfl, rfl, rfl, rfl, rfl, rfl, rfl, rfl, trivial⟩ ?_
              refine wQ_then ?_
              refine wC_cond_f rfl ?_
              refine wC_skip ?_
              refine wQ_then ?_
              refine wC_seq ?_
              refine wC_region ?_
              refine wL_val (v := .pointer (some ⟨b26, 4, none⟩)) (wn rfl) rfl rfl (y_fieldAddr rfl rfl (fa29_4 _ _ _)) ?_
              refine wL_st (cs := #[.slice none 0 0]) (row' := qRow ep nx gv (.slice A19 rs.length c20) (.slice none 0 0) W) (fs' := [.blk b26 (qRow ep nx gv (.slice A19 rs.length c20) (.slice none 0 0) W) 29, _, _, _, _, _, _, _, _]) 0 S30 (wn rfl) rfl rfl rfl rfl rfl rfl inf23 rfl (oneAll rfl) (Nat.le_of_ble_eq_true rfl) qRow_s4 rfl ?_
              intro w275 S276
              clear S30
              refine wL_nil ?_
              refine wQ_sub (l' := [(2, _), (3, _), (4, _), (5, _), (6, _), (7, _), (9, _)]) ⟨rfl, rfl, rfl, rfl, rfl, rfl, rfl, trivial⟩ ?_
              refine wQ_then ?_
              refine wC_seq ?_
              refine wC_seq ?_
              refine wC_region ?_
              refine wL_val (v := .int .i64 0) (wn rfl) rfl rfl (y_assign rfl rfl) ?_
              refine wL_nil ?_
              refine wQ_then ?_
              refine wC_block ?_
              have S277 : St w.heap.size w w275 [_, _, _, _, _, _, _, _] := (St.del 1 S276)
              clear S276
              have S278 := S277.nil 141 4
              clear S277
              change St _ _ _ [.own 141 4 (.slice none 0 0) 0 (([]).flatMap Ls.cells), .blk b26 (qRow ep nx gv (.slice A19 rs.length c20) (.slice none 0 0) W) 29, .own 137 2 (.slice A19 rs.length c20) rs.length ((rs).flatMap Msg.cells), .blk b10 #[.int .i64 0, .int .i64 0, .int .i64 0, .int .i64 0] 93, .blk b7 (qRow 0 0 0 (.slice none 0 0) (.slice none 0 0) zeroWs) 29, .blk b4 #[.int .i64 3, .int .i64 ((k : Nat) : Int), .int .i64 id, .int .i64 bd, .int .i64 he, .int .i64 hn] 37, .blk b1 (qRow ep nx gv (.slice A1 rs.length c1) (.slice A2 ls.length c2) W) 29, .rd 2 A1 rs.length ((rs).flatMap Msg.cells), .rd 4 A2 ls.length ((ls).flatMap Ls.cells)] at S278
              refine wC_loop (X := Nat × (Option Addr) × Nat × Nat) (fun xv => [(2, .pointer (some ⟨b1, 0, none⟩)), (3, .pointer (some ⟨b4, 0, none⟩)), (4, .pointer (some ⟨b7, 0, none⟩)), (5, .pointer (some ⟨b10, 0, none⟩)), (6, .bool false), (7, .int .i64 0), (9, .pointer (some ⟨b26, 0, none⟩)), (16, .int .i64 ((xv.1 : Nat) : Int))]) (fun xv wr => (xv.1 ≤ ls.length) ∧ (xv.2.2.2 = ((ls.take xv.1).filter fun x => decide (x.hno ≠ hn)).length) ∧ St w.heap.size w wr [.own 141 4 (.slice xv.2.1 xv.2.2.2 xv.2.2.1) xv.2.2.2 (((ls.take xv.1).filter fun x => decide (x.hno ≠ hn)).flatMap Ls.cells), .blk b26 (qRow ep nx gv (.slice A19 rs.length c20) (.slice xv.2.1 xv.2.2.2 xv.2.2.1) W) 29, .own 137 2 (.slice A19 rs.length c20) rs.length ((rs).flatMap Msg.cells), .blk b10 #[.int .i64 0, .int .i64 0, .int .i64 0, .int .i64 0] 93, .blk b7 (qRow 0 0 0 (.slice none 0 0) (.slice none 0 0) zeroWs) 29, .blk b4 #[.int .i64 3, .int .i64 ((k : Nat) : Int), .int .i64 id, .int .i64 bd, .int .i64 he, .int .i64 hn] 37, .blk b1 (qRow ep nx gv (.slice A1 rs.length c1) (.slice A2 ls.length c2) W) 29, .rd 2 A1 rs.length ((rs).flatMap Msg.cells), .rd 4 A2 ls.length ((ls).flatMap Ls.cells)]) (fun xv => ls.length - xv.1) (0, none, 0, 0) ?_ ?_ ?_
              · exact ⟨Nat.zero_le _, rfl, S278⟩
              · exact ⟨rfl, rfl, rfl, rfl, rfl, rfl, rfl, rfl, trivial⟩
              · rintro ⟨j, Ab, cb, n⟩ w279 ⟨hi281, hi282, S280⟩
                try dsimp only at hi281 hi282 S280
                clear S278
                refine wC_sub (l' := [(2, .pointer (some ⟨b1, 0, none⟩)), (3, .pointer (some ⟨b4, 0, none⟩)), (4, .pointer (some ⟨b7, 0, none⟩)), (5, .pointer (some ⟨b10, 0, none⟩)), (6, .bool false), (7, .int .i64 0), (9, .pointer (some ⟨b26, 0, none⟩)), (16, .int .i64 ((j : Nat) : Int))]) ⟨rfl, rfl, rfl, rfl, rfl, rfl, rfl, rfl, trivial⟩ ?_
                refine wC_seq ?_
                refine wC_seq ?_
                refine wC_region ?_
                refine wL_val (v := .int .i64 ((j : Nat) : Int)) (wn rfl) rfl rfl (y_move rfl rfl) ?_
                refine wL_val (v := .pointer (some ⟨b1, 4, none⟩)) (wn rfl) rfl rfl (y_fieldAddr rfl rfl (fa29_4 _ _ _)) ?_
                refine wL_val (v := .slice A2 ls.length c2) (wn rfl) rfl rfl (y_load rfl rfl (r_load Try.underlying23 rfl (St.cl 6 S280 rfl qRow_g4))) ?_
                refine wL_val (v := .int .i64 ((ls.length : Nat) : Int)) (wn rfl) rfl rfl (y_builtin (vs := [.slice A2 ls.length c2]) rfl ⟨rfl, trivial⟩ fun _ => r_len rfl Try.underlying23) ?_
                by_cases h283 : ((j : Nat) : Int) < ((ls.length : Nat) : Int)
                · refine wL_val (v := .bool true) (wn rfl) rfl rfl (y_binop rfl rfl rfl (r_lss_t h283)) ?_
                  refine wL_nil ?_
                  refine wQ_sub (l' := [(2, _), (3, _), (4, _), (5, _), (6, _), (7, _), (9, _), (16, _), (171, _)]) ⟨rfl, rfl, rfl, rfl, rfl, rfl, rfl, rfl, rfl, trivial⟩ ?_
                  refine wQ_then ?_
                  refine wC_cond_t rfl ?_
                  refine wC_skip ?_
                  refine wQ_then ?_
                  refine wC_seq ?_
                  refine wC_block ?_
                  refine wC_seq ?_
                  refine wC_quiet S280 mixed (by kernel_rfl) ?_
                  refine wU_val (v := .pointer (some ⟨b1, 4, none⟩)) (wn rfl) rfl rfl (fun _ _ => (y_fieldAddr rfl rfl (fa29_4 _ _ _))) ?_
                  refine wU_val (v := .slice A2 ls.length c2) (wn rfl) rfl rfl (fun _ Sx285 => (y_load rfl rfl (r_load Try.underlying23 rfl (St.cl 6 Sx285 rfl qRow_g4)))) ?_
                  refine wU_val (v := .int .i64 ((j : Nat) : Int)) (wn rfl) rfl rfl (fun _ _ => (y_move rfl rfl)) ?_
                  obtain ⟨b287, o288, rfl⟩ := Rd.addr (St.rd 8 S280 rfl) (by omega)
                  obtain ⟨x289, hx290⟩ : ∃ x, (ls)[j]? = some x := ⟨_, List.getElem?_eq_getElem (by have := (St.rd 8 S280 rfl).1; rw [fm_len (sz := 4) (fun _ => rfl)] at this; omega)⟩
                  refine wU_val (v := .pointer (some ⟨b287, o288 + j * 4, none⟩)) (wn rfl) rfl rfl (fun _ _ => (y_indexAddr rfl rfl rfl (r_indexAddr j Try.underlying23 inf141 (by omega) (by omega)))) ?_
                  refine wU_val (v := .pointer (some ⟨b287, o288 + j * 4, none⟩)) (wn rfl) rfl rfl (fun _ _ => (y_fieldAddr rfl rfl (fa141_0 _ _ _))) ?_
                  refine wU_val (v := .pointer (some ⟨b287, o288 + j * 4 + 1, none⟩)) (wn rfl) rfl rfl (fun _ _ => (y_fieldAddr rfl rfl (fa35_1 _ _ _))) ?_
                  refine wU_val (v := .int .i64 x289.hno) (wn rfl) rfl rfl (fun _ Sx294 => (y_load rfl rfl (r_load Try.underlying3 rfl (Rd.cl2 (i := 1) (St.rd 8 Sx294 rfl) (fm_get (enc := Ls.cells) (sz := 4) (fun _ => rfl) hx290 rfl))))) ?_
                  refine wU_val (v := .pointer (some ⟨b4, 4, none⟩)) (wn rfl) rfl rfl (fun _ _ => (y_fieldAddr rfl rfl (fa37_4 _ _ _))) ?_
                  refine wU_val (v := .pointer (some ⟨b4, 5, none⟩)) (wn rfl) rfl rfl (fun _ _ => (y_fieldAddr rfl rfl (fa35_1 _ _ _))) ?_
                  refine wU_val (v := .int .i64 hn) (wn rfl) rfl rfl (fun _ Sx297 => (y_load rfl rfl (r_load Try.underlying3 rfl (St.cl 5 Sx297 rfl rfl)))) ?_
                  have hfb := List.length_filter_le (fun x : Ls => decide (x.hno ≠ hn)) (ls.take j)
                  rw [List.length_take] at hfb
                  by_cases hne : x289.hno ≠ hn
                  · refine wU_val (v := .bool true) (wn rfl) rfl rfl (fun _ _ => (y_binop rfl rfl rfl (r_neq_t hne))) ?_
                    refine wU_nil fun w299 S300 => ?_
                    clear S280
                    refine wQ_sub (l' := [(2, _), (3, _), (4, _), (5, _), (6, _), (7, _), (9, _), (16, _), (184, _)]) ⟨rfl, rfl, rfl, rfl, rfl, rfl, rfl, rfl, rfl, trivial⟩ ?_
                    refine wQ_then ?_
                    refine wC_cond_t rfl ?_
                    have S301 := S300.drew
                    clear S300
                    refine wC_head (C := fun w' => St w.heap.size w w' [.blk b26 (qRow ep nx gv (.slice A19 rs.length c20) (.slice Ab n cb) W) 29, .own 137 2 (.slice A19 rs.length c20) rs.length ((rs).flatMap Msg.cells), .blk b10 #[.int .i64 0, .int .i64 0, .int .i64 0, .int .i64 0] 93, .blk b7 (qRow 0 0 0 (.slice none 0 0) (.slice none 0 0) zeroWs) 29, .blk b4 #[.int .i64 3, .int .i64 ((k : Nat) : Int), .int .i64 id, .int .i64 bd, .int .i64 he, .int .i64 hn] 37, .blk b1 (qRow ep nx gv (.slice A1 rs.length c1) (.slice (some ⟨b287, o288, none⟩) ls.length c2) W) 29, .rd 2 A1 rs.length ((rs).flatMap Msg.cells), .rd 4 (some ⟨b287, o288, none⟩) ls.length ((ls).flatMap Ls.cells)]) (m := 11) (listed := #[false, false, false, false, false, false, false, false, false, false, false]) 9 mixed rfl rfl ?_
                    refine wG_take (v := .pointer (some ⟨b26, 4, none⟩)) (i := 0) (m := 10) (listed' := #[true, false, false, false, false, false, false, false, false, false, false]) rfl (by kernel_rfl) (by kernel_rfl) (by kernel_rfl) rfl (by kernel_rfl) rfl (St.del 0 S301) rfl (wn rfl) rfl rfl (fun _ _ => (y_fieldAddr rfl rfl (fa29_4 _ _ _))) ?_
                    refine wG_take (v := .slice Ab n cb) (i := 1) (m := 9) (listed' := #[true, true, false, false, false, false, false, false, false, false, false]) rfl (by kernel_rfl) (by kernel_rfl) (by kernel_rfl) rfl (by kernel_rfl) rfl (St.del 0 S301) rfl (wn rfl) rfl rfl (fun _ Sx303 => (y_load rfl rfl (r_load Try.underlying23 rfl (St.cl 0 Sx303 rfl qRow_g4)))) ?_
                    refine wG_take (v := .pointer (some ⟨b1, 4, none⟩)) (i := 2) (m := 8) (listed' := #[true, true, true, false, false, false, false, false, false, false, false]) rfl (by kernel_rfl) (by kernel_rfl) (by kernel_rfl) rfl (by kernel_rfl) rfl (St.del 0 S301) rfl (wn rfl) rfl rfl (fun _ _ => (y_fieldAddr rfl rfl (fa29_4 _ _ _))) ?_
                    refine wG_take (v := .slice (some ⟨b287, o288, none⟩) ls.length c2) (i := 3) (m := 7) (listed' := #[true, true, true, true, false, false, false, false, false, false, false]) rfl (by kernel_rfl) (by kernel_rfl) (by kernel_rfl) rfl (by kernel_rfl) rfl (St.del 0 S301) rfl (wn rfl) rfl rfl (fun _ Sx305 => (y_load rfl rfl (r_load Try.underlying23 rfl (St.cl 5 Sx305 rfl qRow_g4)))) ?_
                    refine wG_take (v := .int .i64 ((j : Nat) : Int)) (i := 4) (m := 6) (listed' := #[true, true, true, true, true, false, false, false, false, false, false]) rfl (by kernel_rfl) (by kernel_rfl) (by kernel_rfl) rfl (by kernel_rfl) rfl (St.del 0 S301) rfl (wn rfl) rfl rfl (fun _ _ => (y_move rfl rfl)) ?_
                    refine wG_take (v := .pointer (some ⟨b287, o288 + j * 4, none⟩)) (i := 5) (m := 5) (listed' := #[true, true, true, true, true, true, false, false, false, false, false]) rfl (by kernel_rfl) (by kernel_rfl) (by kernel_rfl) rfl (by kernel_rfl) rfl (St.del 0 S301) rfl (wn rfl) rfl rfl (fun _ _ => (y_indexAddr rfl rfl rfl (r_indexAddr j Try.underlying23 inf141 (by omega) (by omega)))) ?_
                    refine wG_take (v := .agg #[.int .i64 x289.hep, .int .i64 x289.hno, .int .i64 x289.msg.no, .int .i64 x289.msg.body]) (i := 6) (m := 4) (listed' := #[true, true, true, true, true, true, true, false, false, false, false]) rfl (by kernel_rfl) (by kernel_rfl) (by kernel_rfl) rfl (by kernel_rfl) rfl (St.del 0 S301) rfl (wn rfl) rfl rfl (fun _ Sx308 => (y_load rfl rfl (r_load_agg (cs := Ls.cells x289) Try.underlying141 rfl inf141 rfl (Rd.rg2 (St.rd 7 Sx308 rfl) (fun _ _ h => fm_get (enc := Ls.cells) (sz := 4) (fun _ => rfl) hx290 h))))) ?_
                    refine wG_one (m := 3) (r := 7) (by kernel_rfl) ?_
                    refine wH_new (i := 7) (listed' := #[true, true, true, true, true, true, true, true, false, false, false]) rfl rfl (V := fun b => .slice (some ⟨b, 0, none⟩) 1 1) (row := #[.int .i64 x289.hep, .int .i64 x289.hno, .int .i64 x289.msg.no, .int .i64 x289.msg.body]) (t := 141) S301 (wn rfl) rfl rfl (d_buildSlice (vs := [(0, .agg #[.int .i64 x289.hep, .int .i64 x289.hno, .int .i64 x289.msg.no, .int .i64 x289.msg.body])]) rfl ⟨rfl, rfl, trivial⟩ (by kernel_rfl)) ?_
                    intro b309 w310 S311
                    clear S301
                    refine ⟨(St.del 0 (St.del 1 S311)), ?_⟩
                    refine wG_one (m := 2) (r := 8) (by kernel_rfl) ?_
                    refine wH_append (i := 8) (listed' := #[true, true, true, true, true, true, true, true, true, false, false]) rfl rfl (news := [.int .i64 x289.hep, .int .i64 x289.hno, .int .i64 x289.msg.no, .int .i64 x289.msg.body]) (xs' := ((ls.take (j + 1)).filter fun x => decide (x.hno ≠ hn)).flatMap Ls.cells) 1 S311 (wn rfl) rfl rfl rfl rfl rfl rfl (St.bld (xs := [.int .i64 x289.hep, .int .i64 x289.hno, .int .i64 x289.msg.no, .int .i64 x289.msg.body]) 0 S311 rfl rfl rfl) Try.underlying23 infz141 rfl (by decide) (oneAll rfl) (by simp only [maxLen]; omega) (by omega) (fm_snoc (enc := Ls.cells) (filt_step hx290 (decide_eq_true hne)) rfl) ?_
                    intro A312 c313 w314 hc316 hm317 S315
                    clear S311
                    change St _ _ _ [_, .own 141 4 (.slice A312 (n + 1) c313) (n + 1) (((ls.take (j + 1)).filter fun x => decide (x.hno ≠ hn)).flatMap Ls.cells), _, _, _, _, _, _, _, _] at S315
                    refine ⟨(St.del 0 (St.del 1 S315)), ?_⟩
                    refine wG_tail (by kernel_rfl) rfl rfl rfl ?_
                    refine wL_val (v := .pointer (some ⟨b26, 4, none⟩)) (wn rfl) rfl rfl (y_fieldAddr rfl rfl (fa29_4 _ _ _)) ?_
                    refine wL_st (cs := #[.slice A312 (n + 1) c313]) (row' := qRow ep nx gv (.slice A19 rs.length c20) (.slice A312 (n + 1) c313) W) (fs' := [_, _, .blk b26 (qRow ep nx gv (.slice A19 rs.length c20) (.slice A312 (n + 1) c313) W) 29, _, _, _, _, _, _, _]) 2 S315 (wn rfl) rfl rfl rfl rfl rfl rfl inf23 rfl (oneAll rfl) (Nat.le_of_ble_eq_true rfl) qRow_s4 rfl ?_
                    intro w318 S319
                    clear S315
                    refine wL_nil (wQ_np ?_)
                    refine wQ_sub (l' := [(2, _), (3, _), (4, _), (5, _), (6, _), (7, _), (9, _), (16, _)]) ⟨rfl, rfl, rfl, rfl, rfl, rfl, rfl, rfl, trivial⟩ ?_
                    refine wQ_blk_n ?_
                    refine wQ_then ?_
                    refine wC_region ?_
                    refine wL_val (v := .int .i64 ((j : Nat) : Int)) (wn rfl) rfl rfl (y_move rfl rfl) ?_
                    refine wL_val (v := .int .i64 ((j + 1 : Nat) : Int)) (wn rfl) rfl rfl (y_binop rfl rfl rfl (r_add (by omega) (by omega))) ?_
                    refine wL_val (v := .int .i64 ((j + 1 : Nat) : Int)) (wn rfl) rfl rfl (y_assign rfl rfl) ?_
                    refine wL_nil ?_
                    refine wQ_sub (l' := [(2, _), (3, _), (4, _), (5, _), (6, _), (7, _), (9, _), (16, _)]) ⟨rfl, rfl, rfl, rfl, rfl, rfl, rfl, rfl, trivial⟩ ?_
                    have S320 : St w.heap.size w w318 [_, _, _, _, _, _, _, _, _] := (St.del 0 S319)
                    clear S319
                    refine wQ_round (j + 1, A312, c313, n + 1) ?_ ⟨rfl, rfl, rfl, rfl, rfl, rfl, rfl, rfl, trivial⟩ (by first | omega | (dsimp only; omega))
                    exact ⟨(by dsimp only; omega), (by dsimp only; rw [hi282, ← filt_step (f := fun x : Ls => decide (x.hno ≠ hn)) hx290 (decide_eq_true hne)]; simp), S320⟩
                  · refine wU_val (v := .bool false) (wn rfl) rfl rfl (fun _ _ => (y_binop rfl rfl rfl (r_neq_f (by omega)))) ?_
                    refine wU_nil fun w322 S323 => ?_
                    clear S280
                    refine wQ_sub (l' := [(2, _), (3, _), (4, _), (5, _), (6, _), (7, _), (9, _), (16, _), (184, _)]) ⟨rfl, rfl, rfl, rfl, rfl, rfl, rfl, rfl, rfl, trivial⟩ ?_
                    refine wQ_then ?_
                    refine wC_cond_f rfl ?_
                    refine wC_skip ?_
                    refine wQ_blk_n ?_
                    refine wQ_then ?_
                    refine wC_region ?_
                    refine wL_val (v := .int .i64 ((j : Nat) : Int)) (wn rfl) rfl rfl (y_move rfl rfl) ?_
                    refine wL_val (v := .int .i64 ((j + 1 : Nat) : Int)) (wn rfl) rfl rfl (y_binop rfl rfl rfl (r_add (by omega) (by omega))) ?_
                    refine wL_val (v := .int .i64 ((j + 1 : Nat) : Int)) (wn rfl) rfl rfl (y_assign rfl rfl) ?_
                    refine wL_nil ?_
                    refine wQ_sub (l' := [(2, _), (3, _), (4, _), (5, _), (6, _), (7, _), (9, _), (16, _)]) ⟨rfl, rfl, rfl, rfl, rfl, rfl, rfl, rfl, trivial⟩ ?_
                    have S324 := S323
                    clear S323
                    rw [filt_skip (f := fun x : Ls => decide (x.hno ≠ hn)) hx290 (decide_eq_false hne)] at S324
                    refine wQ_round (j + 1, Ab, cb, n) ?_ ⟨rfl, rfl, rfl, rfl, rfl, rfl, rfl, rfl, trivial⟩ (by first | omega | (dsimp only; omega))
                    exact ⟨(by dsimp only; omega), (by dsimp only; rw [hi282, filt_skip (f := fun x : Ls => decide (x.hno ≠ hn)) hx290 (decide_eq_false hne)]), S324⟩
                · refine wL_val (v := .bool false) (wn rfl) rfl rfl (y_binop rfl rfl rfl (r_lss_f h283)) ?_
                  refine wL_nil ?_
                  refine wQ_sub (l' := [(2, _), (3, _), (4, _), (5, _), (6, _), (7, _), (9, _), (16, _), (171, _)]) ⟨rfl, rfl, rfl, rfl, rfl, rfl, rfl, rfl, rfl, trivial⟩ ?_
                  refine wQ_then ?_
                  refine wC_cond_f rfl ?_
                  refine wC_exit ?_
                  refine wQ_then_exit ?_
                  refine wQ_then_exit ?_
                  refine wQ_blk_same ?_
                  refine wQ_then ?_
                  refine wC_seq ?_
                  refine wC_seq ?_
                  refine wC_region ?_
                  obtain rfl : j = ls.length := by omega
                  have S325 := S280
                  clear S280
                  have hnn : n = (ls.filter fun x => decide (x.hno ≠ hn)).length := by have := hi282; rw [List.take_length] at this; exact this
                  rw [List.take_length] at S325
                  have hnl := List.length_filter_le (fun x : Ls => decide (x.hno ≠ hn)) ls
                  change St _ _ _ [.own 141 4 (.slice Ab n cb) n ((ls.filter fun x => decide (x.hno ≠ hn)).flatMap Ls.cells), .blk b26 (qRow ep nx gv (.slice A19 rs.length c20) (.slice Ab n cb) W) 29, .own 137 2 (.slice A19 rs.length c20) rs.length ((rs).flatMap Msg.cells), .blk b10 #[.int .i64 0, .int .i64 0, .int .i64 0, .int .i64 0] 93, .blk b7 (qRow 0 0 0 (.slice none 0 0) (.slice none 0 0) zeroWs) 29, .blk b4 #[.int .i64 3, .int .i64 ((k : Nat) : Int), .int .i64 id, .int .i64 bd, .int .i64 he, .int .i64 hn] 37, .blk b1 (qRow ep nx gv (.slice A1 rs.length c1) (.slice A2 ls.length c2) W) 29, .rd 2 A1 rs.length ((rs).flatMap Msg.cells), .rd 4 A2 ls.length ((ls).flatMap Ls.cells)] at S325
                  refine wL_val (v := .pointer (some ⟨b26, 4, none⟩)) (wn rfl) rfl rfl (y_fieldAddr rfl rfl (fa29_4 _ _ _)) ?_
                  refine wL_val (v := .slice Ab n cb) (wn rfl) rfl rfl (y_load rfl rfl (r_load Try.underlying23 rfl (St.cl 1 S325 rfl qRow_g4))) ?_
                  refine wL_val (v := .int .i64 ((n : Nat) : Int)) (wn rfl) rfl rfl (y_builtin (vs := [.slice Ab n cb]) rfl ⟨rfl, trivial⟩ fun _ => r_len rfl Try.underlying23) ?_
                  refine wL_val (v := .pointer (some ⟨b1, 4, none⟩)) (wn rfl) rfl rfl (y_fieldAddr rfl rfl (fa29_4 _ _ _)) ?_
                  refine wL_val (v := .slice A2 ls.length c2) (wn rfl) rfl rfl (y_load rfl rfl (r_load Try.underlying23 rfl (St.cl 6 S325 rfl qRow_g4))) ?_
                  refine wL_val (v := .int .i64 ((ls.length : Nat) : Int)) (wn rfl) rfl rfl (y_builtin (vs := [.slice A2 ls.length c2]) rfl ⟨rfl, trivial⟩ fun _ => r_len rfl Try.underlying23) ?_
                  by_cases h3 : (ls.filter fun x => decide (x.hno ≠ hn)).length = ls.length
                  · refine wL_val (v := .bool true) (wn rfl) rfl rfl (y_binop rfl rfl rfl (r_eql_t (by omega))) ?_
                    refine wL_nil ?_
                    refine wQ_sub (l' := [(4, _), (5, _), (6, _), (7, _), (9, _), (201, _)]) ⟨rfl, rfl, rfl, rfl, rfl, rfl, trivial⟩ ?_
                    refine wQ_then ?_
                    refine wC_cond_t rfl ?_
                    refine wC_seq ?_
                    refine wC_region ?_
                    refine wL_val (v := .agg (qRow ep nx gv (.slice A19 rs.length c20) (.slice Ab n cb) W)) (wn rfl) rfl rfl (y_load rfl rfl (r_load_row 1 S325 rfl Try.underlying29 rfl inf29 rfl)) ?_
                    refine wL_val (v := .agg #[.int .i64 7, .int .i64 0, .int .i64 0, .int .i64 0]) (wn rfl) rfl rfl (y_build (vs := [(0, .int .i64 7)]) rfl ⟨rfl, rfl, trivial⟩ (by kernel_rfl)) ?_
                    refine wL_st (cs := qRow ep nx gv (.slice A19 rs.length c20) (.slice Ab n cb) W) (row' := qRow ep nx gv (.slice A19 rs.length c20) (.slice Ab n cb) W) (fs' := [_, _, _, _, .blk b7 (qRow ep nx gv (.slice A19 rs.length c20) (.slice Ab n cb) W) 29, _, _, _, _]) 4 S325 (wn rfl) rfl rfl rfl rfl rfl rfl inf29 rfl (qRow_one rfl rfl) (Nat.le_of_ble_eq_true rfl) (setAll_all rfl) rfl ?_
                    intro w326 S327
                    clear S325
                    refine wL_st (cs := #[.int .i64 7, .int .i64 0, .int .i64 0, .int .i64 0]) (row' := #[.int .i64 7, .int .i64 0, .int .i64 0, .int .i64 0]) (fs' := [_, _, _, .blk b10 #[.int .i64 7, .int .i64 0, .int .i64 0, .int .i64 0] 93, _, _, _, _, _]) 3 S327 (wn rfl) rfl rfl rfl rfl rfl rfl inf93 rfl (oneAll rfl) (Nat.le_of_ble_eq_true rfl) (setAll_all rfl) rfl ?_
                    intro w328 S329
                    clear S327
                    refine wL_val (v := .bool false) (wn rfl) rfl rfl (y_assign rfl rfl) ?_
                    refine wL_val (v := .int .i64 0) (wn rfl) rfl rfl (y_assign rfl rfl) ?_
                    refine wL_nil ?_
                    refine wQ_sub (l' := [(4, _), (5, _), (6, _), (7, _)]) ⟨rfl, rfl, rfl, rfl, trivial⟩ ?_
                    refine wQ_then ?_
                    refine wC_ret ?_
                    refine wQ_then_ret ?_
                    refine wQ_then_ret ?_
                    refine wQ_post (rs := [.cell 4 29, .cell 5 93, .tmp 6, .tmp 7]) (vs := [.agg (qRow ep nx gv (.slice A19 rs.length c20) (.slice Ab n cb) W), .agg #[.int .i64 7, .int .i64 0, .int .i64 0, .int .i64 0], .bool false, .int .i64 0]) rfl ⟨⟨_, rfl, res_row 4 S329 rfl Try.underlying29 rfl inf29⟩, ⟨_, rfl, res_row 3 S329 rfl Try.underlying93 rfl inf93⟩, rfl, rfl, trivial⟩ ?_
                    have hself : (ls.filter fun x => decide (x.hno ≠ hn)) = ls := List.length_filter_eq_length_iff.1 h3 |> fun h => List.filter_eq_self.2 h
                    obtain rfl : n = ls.length := by omega
                    rw [hself] at S329
                    change St _ _ _ [.own 141 4 (.slice Ab ls.length cb) ls.length ((ls).flatMap Ls.cells), .blk b26 (qRow ep nx gv (.slice A19 rs.length c20) (.slice Ab ls.length cb) W) 29, .own 137 2 (.slice A19 rs.length c20) rs.length ((rs).flatMap Msg.cells), .blk b10 #[.int .i64 7, .int .i64 0, .int .i64 0, .int .i64 0] 93, .blk b7 (qRow ep nx gv (.slice A19 rs.length c20) (.slice Ab ls.length cb) W) 29, .blk b4 #[.int .i64 3, .int .i64 ((k : Nat) : Int), .int .i64 id, .int .i64 bd, .int .i64 he, .int .i64 hn] 37, .blk b1 (qRow ep nx gv (.slice A1 rs.length c1) (.slice A2 ls.length c2) W) 29, .rd 2 A1 rs.length ((rs).flatMap Msg.cells), .rd 4 A2 ls.length ((ls).flatMap Ls.cells)] at S329
                    have S331 : St w.heap.size w w328 [_, _] := (St.del 1 (St.del 3 (St.del 4 (St.del 5 (St.del 6 (St.del 7 (St.del 8 S329)))))))
                    clear S329
                    have S332 : St w.heap.size w w328 [.own 137 2 (.slice A19 rs.length c20) rs.length ((rs).flatMap Msg.cells), .own 141 4 (.slice Ab ls.length cb) ls.length ((ls).flatMap Ls.cells)] := S331.re [1, 0] (by decide)
                    clear S331
                    have S333 := S332.sealAll 0 rfl
                    clear S332
                    change St _ _ _ [.rdo 2 A19 rs.length ((rs).flatMap Msg.cells), _] at S333
                    have S334 := S333.sealAll 1 rfl
                    clear S333
                    change St _ _ _ [_, .rdo 4 Ab ls.length ((ls).flatMap Ls.cells)] at S334
                    rw [do_ok (Q := ⟨ep, nx, gv, rs, ls, W⟩) h0 h1, show stepM ⟨ep, nx, gv, rs, ls, W⟩ ⟨3, ((k : Nat) : Int), id, bd, he, hn⟩ = ackM ⟨ep, nx, gv, rs, ls, W⟩ he hn from by simp [stepM], ack_none h2 h3]
                    refine ⟨A19, c20, Ab, cb, ?_, ?_⟩
                    · dsimp only; rfl
                    · dsimp only; exact S334
                  · refine wL_val (v := .bool false) (wn rfl) rfl rfl (y_binop rfl rfl rfl (r_eql_f (by omega))) ?_
                    refine wL_nil ?_
                    refine wQ_sub (l' := [(4, _), (5, _), (6, _), (7, _), (9, _), (201, _)]) ⟨rfl, rfl, rfl, rfl, rfl, rfl, trivial⟩ ?_
                    refine wQ_then ?_
                    refine wC_cond_f rfl ?_
                    refine wC_skip ?_
                    refine wQ_then ?_
                    refine wC_seq ?_
                    refine wC_region ?_
                    refine wL_val (v := .agg (qRow ep nx gv (.slice A19 rs.length c20) (.slice Ab n cb) W)) (wn rfl) rfl rfl (y_load rfl rfl (r_load_row 1 S325 rfl Try.underlying29 rfl inf29 rfl)) ?_
                    refine wL_val (v := .agg #[.int .i64 0, .int .i64 0, .int .i64 0, .int .i64 0]) (wn rfl) rfl rfl (y_build (vs := []) rfl trivial (by kernel_rfl)) ?_
                    refine wL_st (cs := qRow ep nx gv (.slice A19 rs.length c20) (.slice Ab n cb) W) (row' := qRow ep nx gv (.slice A19 rs.length c20) (.slice Ab n cb) W) (fs' := [_, _, _, _, .blk b7 (qRow ep nx gv (.slice A19 rs.length c20) (.slice Ab n cb) W) 29, _, _, _, _]) 4 S325 (wn rfl) rfl rfl rfl rfl rfl rfl inf29 rfl (qRow_one rfl rfl) (Nat.le_of_ble_eq_true rfl) (setAll_all rfl) rfl ?_
                    intro w335 S336
                    clear S325
                    refine wL_st (cs := #[.int .i64 0, .int .i64 0, .int .i64 0, .int .i64 0]) (row' := #[.int .i64 0, .int .i64 0, .int .i64 0, .int .i64 0]) (fs' := [_, _, _, .blk b10 #[.int .i64 0, .int .i64 0, .int .i64 0, .int .i64 0] 93, _, _, _, _, _]) 3 S336 (wn rfl) rfl rfl rfl rfl rfl rfl inf93 rfl (oneAll rfl) (Nat.le_of_ble_eq_true rfl) (setAll_all rfl) rfl ?_
                    intro w337 S338
                    clear S336
                    refine wL_val (v := .bool true) (wn rfl) rfl rfl (y_assign rfl rfl) ?_
                    refine wL_val (v := .int .i64 0) (wn rfl) rfl rfl (y_assign rfl rfl) ?_
                    refine wL_nil ?_
                    refine wQ_sub (l' := [(4, _), (5, _), (6, _), (7, _)]) ⟨rfl, rfl, rfl, rfl, trivial⟩ ?_
                    refine wQ_then ?_
                    refine wC_ret ?_
                    refine wQ_then_ret ?_
                    refine wQ_post (rs := [.cell 4 29, .cell 5 93, .tmp 6, .tmp 7]) (vs := [.agg (qRow ep nx gv (.slice A19 rs.length c20) (.slice Ab n cb) W), .agg #[.int .i64 0, .int .i64 0, .int .i64 0, .int .i64 0], .bool true, .int .i64 0]) rfl ⟨⟨_, rfl, res_row 4 S338 rfl Try.underlying29 rfl inf29⟩, ⟨_, rfl, res_row 3 S338 rfl Try.underlying93 rfl inf93⟩, rfl, rfl, trivial⟩ ?_
                    subst hnn
                    have S340 : St w.heap.size w w337 [_, _] := (St.del 1 (St.del 3 (St.del 4 (St.del 5 (St.del 6 (St.del 7 (St.del 8 S338)))))))
                    clear S338
                    have S341 : St w.heap.size w w337 [.own 137 2 (.slice A19 rs.length c20) rs.length ((rs).flatMap Msg.cells), .own 141 4 (.slice Ab ((ls.filter fun x => decide (x.hno ≠ hn)).length) cb) ((ls.filter fun x => decide (x.hno ≠ hn)).length) ((ls.filter fun x => decide (x.hno ≠ hn)).flatMap Ls.cells)] := S340.re [1, 0] (by decide)
                    clear S340
                    have S342 := S341.sealAll 0 rfl
                    clear S341
                    change St _ _ _ [.rdo 2 A19 rs.length ((rs).flatMap Msg.cells), _] at S342
                    have S343 := S342.sealAll 1 rfl
                    clear S342
                    change St _ _ _ [_, .rdo 4 Ab ((ls.filter fun x => decide (x.hno ≠ hn)).length) ((ls.filter fun x => decide (x.hno ≠ hn)).flatMap Ls.cells)] at S343
                    rw [do_ok (Q := ⟨ep, nx, gv, rs, ls, W⟩) h0 h1, show stepM ⟨ep, nx, gv, rs, ls, W⟩ ⟨3, ((k : Nat) : Int), id, bd, he, hn⟩ = ackM ⟨ep, nx, gv, rs, ls, W⟩ he hn from by simp [stepM], ack_ok h2 h3]
                    refine ⟨A19, c20, Ab, cb, ?_, ?_⟩
                    · dsimp only; rfl
                    · dsimp only; exact S343
            · refine wL_val (v := .bool true) (wn rfl) rfl rfl (y_binop rfl rfl rfl (r_neq_t h2)) ?_
              refine wL_nil ?_
              refine wQ_sub (l' := [(2, _), (3, _), (4, _), (5, _), (6, _), (7, _), (9, _), (163, _)]) ⟨rfl, rfl, rfl, rfl, rfl, rfl, rfl, rfl, trivial⟩ ?_
              refine wQ_then ?_
              refine wC_cond_t rfl ?_
              refine wC_seq ?_
              refine wC_region ?_
              refine wL_val (v := .agg (qRow ep nx gv (.slice A19 rs.length c20) (.slice A21 ls.length c22) W)) (wn rfl) rfl rfl (y_load rfl rfl (r_load_row 0 S30 rfl Try.underlying29 rfl inf29 rfl)) ?_
              refine wL_val (v := .agg #[.int .i64 11, .int .i64 0, .int .i64 0, .int .i64 0]) (wn rfl) rfl rfl (y_build (vs := [(0, .int .i64 11)]) rfl ⟨rfl, rfl, trivial⟩ (by kernel_rfl)) ?_
              refine wL_st (cs := qRow ep nx gv (.slice A19 rs.length c20) (.slice A21 ls.length c22) W) (row' := qRow ep nx gv (.slice A19 rs.length c20) (.slice A21 ls.length c22) W) (fs' := [_, _, _, _, .blk b7 (qRow ep nx gv (.slice A19 rs.length c20) (.slice A21 ls.length c22) W) 29, _, _, _, _]) 4 S30 (wn rfl) rfl rfl rfl rfl rfl rfl inf29 rfl (qRow_one rfl rfl) (Nat.le_of_ble_eq_true rfl) (setAll_all rfl) rfl ?_
              intro w344 S345
              clear S30
              refine wL_st (cs := #[.int .i64 11, .int .i64 0, .int .i64 0, .int .i64 0]) (row' := #[.int .i64 11, .int .i64 0, .int .i64 0, .int .i64 0]) (fs' := [_, _, _, .blk b10 #[.int .i64 11, .int .i64 0, .int .i64 0, .int .i64 0] 93, _, _, _, _, _]) 3 S345 (wn rfl) rfl rfl rfl rfl rfl rfl inf93 rfl (oneAll rfl) (Nat.le_of_ble_eq_true rfl) (setAll_all rfl) rfl ?_
              intro w346 S347
              clear S345
              refine wL_val (v := .bool false) (wn rfl) rfl rfl (y_assign rfl rfl) ?_
              refine wL_val (v := .int .i64 0) (wn rfl) rfl rfl (y_assign rfl rfl) ?_
              refine wL_nil ?_
              refine wQ_sub (l' := [(4, _), (5, _), (6, _), (7, _)]) ⟨rfl, rfl, rfl, rfl, trivial⟩ ?_
              refine wQ_then ?_
              refine wC_ret ?_
              refine wQ_then_ret ?_
              refine wQ_then_ret ?_
              refine wQ_post (rs := [.cell 4 29, .cell 5 93, .tmp 6, .tmp 7]) (vs := [.agg (qRow ep nx gv (.slice A19 rs.length c20) (.slice A21 ls.length c22) W), .agg #[.int .i64 11, .int .i64 0, .int .i64 0, .int .i64 0], .bool false, .int .i64 0]) rfl ⟨⟨_, rfl, res_row 4 S347 rfl Try.underlying29 rfl inf29⟩, ⟨_, rfl, res_row 3 S347 rfl Try.underlying93 rfl inf93⟩, rfl, rfl, trivial⟩ ?_
              have S348 : St w.heap.size w w346 [_, _] := (St.del 0 (St.del 3 (St.del 4 (St.del 5 (St.del 6 (St.del 7 (St.del 8 S347)))))))
              clear S347
              have S349 : St w.heap.size w w346 [.own 137 2 (.slice A19 rs.length c20) rs.length ((rs).flatMap Msg.cells), .own 141 4 (.slice A21 ls.length c22) ls.length ((ls).flatMap Ls.cells)] := S348.re [1, 0] (by decide)
              clear S348
              have S350 := S349.sealAll 0 rfl
              clear S349
              change St _ _ _ [.rdo 2 A19 rs.length ((rs).flatMap Msg.cells), _] at S350
              have S351 := S350.sealAll 1 rfl
              clear S350
              change St _ _ _ [_, .rdo 4 A21 ls.length ((ls).flatMap Ls.cells)] at S351
              rw [do_ok (Q := ⟨ep, nx, gv, rs, ls, W⟩) h0 h1, show stepM ⟨ep, nx, gv, rs, ls, W⟩ ⟨3, ((k : Nat) : Int), id, bd, he, hn⟩ = ackM ⟨ep, nx, gv, rs, ls, W⟩ he hn from by simp [stepM], ack_stale h2]
              refine ⟨A19, c20, A21, c22, ?_, ?_⟩
              · dsimp only; rfl
              · dsimp only; exact S351
          · obtain rfl : kd = 4 := by omega
            refine wL_val (v := .bool false) (wn rfl) rfl rfl (y_binop rfl rfl rfl (r_eql_f (by decide))) ?_
            refine wL_nil ?_
            refine wQ_sub (l' := [(2, _), (3, _), (4, _), (5, _), (6, _), (7, _), (9, _), (157, _)]) ⟨rfl, rfl, rfl, rfl, rfl, rfl, rfl, rfl, trivial⟩ ?_
            refine wQ_then ?_
            refine wC_cond_f rfl ?_
            refine wC_skip ?_
            refine wQ_then ?_
            refine wC_seq ?_
            refine wC_seq ?_
            refine wC_region ?_
            refine wL_val (v := .pointer (some ⟨b1, 0, none⟩)) (wn rfl) rfl rfl (y_fieldAddr rfl rfl (fa29_0 _ _ _)) ?_
            refine wL_val (v := .int .i64 ep) (wn rfl) rfl rfl (y_load rfl rfl (r_load Try.underlying3 rfl (St.cl 6 S30 rfl qRow_g0))) ?_
            by_cases h2 : ep = 1048576
            · refine wL_val (v := .bool true) (wn rfl) rfl rfl (y_binop rfl rfl rfl (r_eql_t h2)) ?_
              refine wL_nil ?_
              refine wQ_sub (l' := [(2, _), (4, _), (5, _), (6, _), (7, _), (9, _), (208, _)]) ⟨rfl, rfl, rfl, rfl, rfl, rfl, rfl, trivial⟩ ?_
              refine wQ_then ?_
              refine wC_cond_t rfl ?_
              refine wC_seq ?_
              refine wC_region ?_
              refine wL_val (v := .agg (qRow ep nx gv (.slice A19 rs.length c20) (.slice A21 ls.length c22) W)) (wn rfl) rfl rfl (y_load rfl rfl (r_load_row 0 S30 rfl Try.underlying29 rfl inf29 rfl)) ?_
              refine wL_val (v := .agg #[.int .i64 14, .int .i64 0, .int .i64 0, .int .i64 0]) (wn rfl) rfl rfl (y_build (vs := [(0, .int .i64 14)]) rfl ⟨rfl, rfl, trivial⟩ (by kernel_rfl)) ?_
              refine wL_st (cs := qRow ep nx gv (.slice A19 rs.length c20) (.slice A21 ls.length c22) W) (row' := qRow ep nx gv (.slice A19 rs.length c20) (.slice A21 ls.length c22) W) (fs' := [_, _, _, _, .blk b7 (qRow ep nx gv (.slice A19 rs.length c20) (.slice A21 ls.length c22) W) 29, _, _, _, _]) 4 S30 (wn rfl) rfl rfl rfl rfl rfl rfl inf29 rfl (qRow_one rfl rfl) (Nat.le_of_ble_eq_true rfl) (setAll_all rfl) rfl ?_
              intro w352 S353
              clear S30
              refine wL_st (cs := #[.int .i64 14, .int .i64 0, .int .i64 0, .int .i64 0]) (row' := #[.int .i64 14, .int .i64 0, .int .i64 0, .int .i64 0]) (fs' := [_, _, _, .blk b10 #[.int .i64 14, .int .i64 0, .int .i64 0, .int .i64 0] 93, _, _, _, _, _]) 3 S353 (wn rfl) rfl rfl rfl rfl rfl rfl inf93 rfl (oneAll rfl) (Nat.le_of_ble_eq_true rfl) (setAll_all rfl) rfl ?_
              intro w354 S355
              clear S353
              refine wL_val (v := .bool false) (wn rfl) rfl rfl (y_assign rfl rfl) ?_
              refine wL_val (v := .int .i64 0) (wn rfl) rfl rfl (y_assign rfl rfl) ?_
              refine wL_nil ?_
              refine wQ_sub (l' := [(4, _), (5, _), (6, _), (7, _)]) ⟨rfl, rfl, rfl, rfl, trivial⟩ ?_
              refine wQ_then ?_
              refine wC_ret ?_
              refine wQ_then_ret ?_
              refine wQ_post (rs := [.cell 4 29, .cell 5 93, .tmp 6, .tmp 7]) (vs := [.agg (qRow ep nx gv (.slice A19 rs.length c20) (.slice A21 ls.length c22) W), .agg #[.int .i64 14, .int .i64 0, .int .i64 0, .int .i64 0], .bool false, .int .i64 0]) rfl ⟨⟨_, rfl, res_row 4 S355 rfl Try.underlying29 rfl inf29⟩, ⟨_, rfl, res_row 3 S355 rfl Try.underlying93 rfl inf93⟩, rfl, rfl, trivial⟩ ?_
              have S356 : St w.heap.size w w354 [_, _] := (St.del 0 (St.del 3 (St.del 4 (St.del 5 (St.del 6 (St.del 7 (St.del 8 S355)))))))
              clear S355
              have S357 : St w.heap.size w w354 [.own 137 2 (.slice A19 rs.length c20) rs.length ((rs).flatMap Msg.cells), .own 141 4 (.slice A21 ls.length c22) ls.length ((ls).flatMap Ls.cells)] := S356.re [1, 0] (by decide)
              clear S356
              have S358 := S357.sealAll 0 rfl
              clear S357
              change St _ _ _ [.rdo 2 A19 rs.length ((rs).flatMap Msg.cells), _] at S358
              have S359 := S358.sealAll 1 rfl
              clear S358
              change St _ _ _ [_, .rdo 4 A21 ls.length ((ls).flatMap Ls.cells)] at S359
              rw [do_ok (Q := ⟨ep, nx, gv, rs, ls, W⟩) h0 h1, show stepM ⟨ep, nx, gv, rs, ls, W⟩ ⟨4, ((k : Nat) : Int), id, bd, he, hn⟩ = endM ⟨ep, nx, gv, rs, ls, W⟩ from by simp [stepM], end_full h2]
              refine ⟨A19, c20, A21, c22, ?_, ?_⟩
              · dsimp only; rfl
              · dsimp only; exact S359
            · refine wL_val (v := .bool false) (wn rfl) rfl rfl (y_binop rfl rfl rfl (r_eql_f h2)) ?_
              refine wL_nil ?_
              refine wQ_sub (l' := [(2, _), (4, _), (5, _), (6, _), (7, _), (9, _), (208, _)]) ⟨rfl, rfl, rfl, rfl, rfl, rfl, rfl, trivial⟩ ?_
              refine wQ_then ?_
              refine wC_cond_f rfl ?_
              refine wC_skip ?_
              refine wQ_then ?_
              refine wC_seq ?_
              refine wC_seq ?_
              refine wC_region ?_
              refine wL_val (v := .int .i64 0) (wn rfl) rfl rfl (y_assign rfl rfl) ?_
              refine wL_nil ?_
              refine wQ_sub (l' := [(2, _), (4, _), (5, _), (6, _), (7, _), (9, _), (17, _)]) ⟨rfl, rfl, rfl, rfl, rfl, rfl, rfl, trivial⟩ ?_
              refine wQ_then ?_
              refine wC_block ?_
              refine wC_loop (X := Nat × (Option Addr) × Nat) (fun xv => [(2, .pointer (some ⟨b1, 0, none⟩)), (4, .pointer (some ⟨b7, 0, none⟩)), (5, .pointer (some ⟨b10, 0, none⟩)), (6, .bool false), (7, .int .i64 0), (9, .pointer (some ⟨b26, 0, none⟩)), (17, .int .i64 ((xv.1 : Nat) : Int))]) (fun xv wr => (xv.1 ≤ ls.length) ∧ St w.heap.size w wr [.blk b26 (qRow ep nx gv (.slice xv.2.1 (rs.length + xv.1) xv.2.2) (.slice A21 ls.length c22) W) 29, .own 141 4 (.slice A21 ls.length c22) ls.length ((ls).flatMap Ls.cells), .own 137 2 (.slice xv.2.1 (rs.length + xv.1) xv.2.2) (rs.length + xv.1) (((ls.take xv.1).foldl (fun l x => putMsg x.msg l) rs).flatMap Msg.cells), .blk b10 #[.int .i64 0, .int .i64 0, .int .i64 0, .int .i64 0] 93, .blk b7 (qRow 0 0 0 (.slice none 0 0) (.slice none 0 0) zeroWs) 29, .blk b4 #[.int .i64 4, .int .i64 ((k : Nat) : Int), .int .i64 id, .int .i64 bd, .int .i64 he, .int .i64 hn] 37, .blk b1 (qRow ep nx gv (.slice A1 rs.length c1) (.slice A2 ls.length c2) W) 29, .rd 2 A1 rs.length ((rs).flatMap Msg.cells), .rd 4 A2 ls.length ((ls).flatMap Ls.cells)]) (fun xv => ls.length - xv.1) (0, A19, c20) ?_ ?_ ?_
              · exact ⟨Nat.zero_le _, by dsimp only; exact S30⟩
              · exact ⟨rfl, rfl, rfl, rfl, rfl, rfl, rfl, trivial⟩
              · rintro ⟨j, Ab, cb⟩ w360 ⟨hi362, S361⟩
                try dsimp only at hi362 S361
                clear S30
                refine wC_sub (l' := [(2, .pointer (some ⟨b1, 0, none⟩)), (4, .pointer (some ⟨b7, 0, none⟩)), (5, .pointer (some ⟨b10, 0, none⟩)), (6, .bool false), (7, .int .i64 0), (9, .pointer (some ⟨b26, 0, none⟩)), (17, .int .i64 ((j : Nat) : Int))]) ⟨rfl, rfl, rfl, rfl, rfl, rfl, rfl, trivial⟩ ?_
                refine wC_seq ?_
                refine wC_seq ?_
                refine wC_region ?_
                refine wL_val (v := .int .i64 ((j : Nat) : Int)) (wn rfl) rfl rfl (y_move rfl rfl) ?_
                refine wL_val (v := .pointer (some ⟨b1, 4, none⟩)) (wn rfl) rfl rfl (y_fieldAddr rfl rfl (fa29_4 _ _ _)) ?_
                refine wL_val (v := .slice A2 ls.length c2) (wn rfl) rfl rfl (y_load rfl rfl (r_load Try.underlying23 rfl (St.cl 6 S361 rfl qRow_g4))) ?_
                refine wL_val (v := .int .i64 ((ls.length : Nat) : Int)) (wn rfl) rfl rfl (y_builtin (vs := [.slice A2 ls.length c2]) rfl ⟨rfl, trivial⟩ fun _ => r_len rfl Try.underlying23) ?_
                by_cases h363 : ((j : Nat) : Int) < ((ls.length : Nat) : Int)
                · refine wL_val (v := .bool true) (wn rfl) rfl rfl (y_binop rfl rfl rfl (r_lss_t h363)) ?_
                  refine wL_nil ?_
                  refine wQ_sub (l' := [(2, _), (4, _), (5, _), (6, _), (7, _), (9, _), (17, _), (215, _)]) ⟨rfl, rfl, rfl, rfl, rfl, rfl, rfl, rfl, trivial⟩ ?_
                  refine wQ_then ?_
                  refine wC_cond_t rfl ?_
                  refine wC_skip ?_
                  refine wQ_then ?_
                  refine wC_seq ?_
                  refine wC_block ?_
                  have S364 := S361.drew
                  clear S361
                  refine wC_head (C := fun w' => St w.heap.size w w' [.blk b10 #[.int .i64 0, .int .i64 0, .int .i64 0, .int .i64 0] 93, .blk b7 (qRow 0 0 0 (.slice none 0 0) (.slice none 0 0) zeroWs) 29, .blk b4 #[.int .i64 4, .int .i64 ((k : Nat) : Int), .int .i64 id, .int .i64 bd, .int .i64 he, .int .i64 hn] 37, .blk b1 (qRow ep nx gv (.slice A1 rs.length c1) (.slice A2 ls.length c2) W) 29, .rd 2 A1 rs.length ((rs).flatMap Msg.cells), .rd 4 A2 ls.length ((ls).flatMap Ls.cells)]) (m := 11) (listed := #[false, false, false, false, false, false, false, false, false, false, false]) 9 mixed rfl rfl ?_
                  refine wG_take (v := .pointer (some ⟨b26, 3, none⟩)) (i := 0) (m := 10) (listed' := #[true, false, false, false, false, false, false, false, false, false, false]) rfl (by kernel_rfl) (by kernel_rfl) (by kernel_rfl) rfl (by kernel_rfl) rfl (St.del 0 (St.del 1 (St.del 2 S364))) rfl (wn rfl) rfl rfl (fun _ _ => (y_fieldAddr rfl rfl (fa29_3 _ _ _))) ?_
                  refine wG_take (v := .pointer (some ⟨b1, 4, none⟩)) (i := 2) (m := 9) (listed' := #[true, false, true, false, false, false, false, false, false, false, false]) rfl (by kernel_rfl) (by kernel_rfl) (by kernel_rfl) rfl (by kernel_rfl) rfl (St.del 0 (St.del 1 (St.del 2 S364))) rfl (wn rfl) rfl rfl (fun _ _ => (y_fieldAddr rfl rfl (fa29_4 _ _ _))) ?_
                  refine wG_take (v := .slice A2 ls.length c2) (i := 3) (m := 8) (listed' := #[true, false, true, true, false, false, false, false, false, false, false]) rfl (by kernel_rfl) (by kernel_rfl) (by kernel_rfl) rfl (by kernel_rfl) rfl (St.del 0 (St.del 1 (St.del 2 S364))) rfl (wn rfl) rfl rfl (fun _ Sx367 => (y_load rfl rfl (r_load Try.underlying23 rfl (St.cl 3 Sx367 rfl qRow_g4)))) ?_
                  refine wG_take (v := .int .i64 ((j : Nat) : Int)) (i := 4) (m := 7) (listed' := #[true, false, true, true, true, false, false, false, false, false, false]) rfl (by kernel_rfl) (by kernel_rfl) (by kernel_rfl) rfl (by kernel_rfl) rfl (St.del 0 (St.del 1 (St.del 2 S364))) rfl (wn rfl) rfl rfl (fun _ _ => (y_move rfl rfl)) ?_
                  obtain ⟨b369, o370, rfl⟩ := Rd.addr (St.rd 8 S364 rfl) (by omega)
                  obtain ⟨x371, hx372⟩ : ∃ x, (ls)[j]? = some x := ⟨_, List.getElem?_eq_getElem (by have := (St.rd 8 S364 rfl).1; rw [fm_len (sz := 4) (fun _ => rfl)] at this; omega)⟩
                  refine wG_take (v := .pointer (some ⟨b369, o370 + j * 4, none⟩)) (i := 5) (m := 6) (listed' := #[true, false, true, true, true, true, false, false, false, false, false]) rfl (by kernel_rfl) (by kernel_rfl) (by kernel_rfl) rfl (by kernel_rfl) rfl (St.del 0 (St.del 1 (St.del 2 S364))) rfl (wn rfl) rfl rfl (fun _ _ => (y_indexAddr rfl rfl rfl (r_indexAddr j Try.underlying23 inf141 (by omega) (by omega)))) ?_
                  refine wG_take (v := .pointer (some ⟨b369, o370 + j * 4 + 2, none⟩)) (i := 6) (m := 5) (listed' := #[true, false, true, true, true, true, true, false, false, false, false]) rfl (by kernel_rfl) (by kernel_rfl) (by kernel_rfl) rfl (by kernel_rfl) rfl (St.del 0 (St.del 1 (St.del 2 S364))) rfl (wn rfl) rfl rfl (fun _ _ => (y_fieldAddr rfl rfl (fa141_1 _ _ _))) ?_
                  refine wG_take (v := .agg #[.int .i64 x371.msg.no, .int .i64 x371.msg.body]) (i := 7) (m := 4) (listed' := #[true, false, true, true, true, true, true, true, false, false, false]) rfl (by kernel_rfl) (by kernel_rfl) (by kernel_rfl) rfl (by kernel_rfl) rfl (St.del 0 (St.del 1 (St.del 2 S364))) rfl (wn rfl) rfl rfl (fun _ Sx375 => (y_load rfl rfl (r_load_agg (cs := [.int .i64 x371.msg.no, .int .i64 x371.msg.body]) Try.underlying137 rfl inf137 rfl (Rd.rg3 (x := 2) (m := 2) (L := Ls.cells x371) (St.rd 5 Sx375 rfl) (fun _ _ h => fm_get (enc := Ls.cells) (sz := 4) (fun _ => rfl) hx372 h) rfl)))) ?_
                  refine wG_one (m := 3) (r := 1) (by kernel_rfl) ?_
                  refine wH_val (i := 1) (listed' := #[true, true, true, true, true, true, true, true, false, false, false]) rfl rfl (v := .slice Ab (rs.length + j) cb) (wn rfl) rfl rfl (y_load rfl rfl (r_load Try.underlying22 rfl (St.cl 0 S364 rfl qRow_g3))) ?_
                  refine ⟨(St.del 0 (St.del 1 (St.del 2 S364))), ?_⟩
                  refine wG_one (m := 2) (r := 8) (by kernel_rfl) ?_
                  have hfl : ((ls.take j).foldl (fun l x => putMsg x.msg l) rs).length = rs.length + j := by rw [fold_len, List.length_take]; omega
                  have HM := fun A c w (h : Rd w w.heap.size 2 A ((ls.take j).foldl (fun l x => putMsg x.msg l) rs).length (((ls.take j).foldl (fun l x => putMsg x.msg l) rs).flatMap Msg.cells)) => messageIn_calls A c ((ls.take j).foldl (fun l x => putMsg x.msg l) rs) x371.msg w h (by omega)
                  rw [hfl, fold_step hx372] at HM
                  refine wH_call (i := 8) (listed' := #[true, true, true, true, true, true, true, true, true, false, false]) rfl rfl (vs := [.slice Ab (rs.length + j) cb, .agg #[.int .i64 x371.msg.no, .int .i64 x371.msg.body]]) (wn rfl) rfl rfl (e_call (vs := [.slice Ab (rs.length + j) cb, .agg #[.int .i64 x371.msg.no, .int .i64 x371.msg.body]]) rfl en151 ⟨rfl, rfl, trivial⟩) (HM Ab cb _ (St.ord 2 S364 rfl)) ?_
                  rintro _ w380 ⟨A376, c377, rfl, hb378, ho379⟩
                  refine ⟨_, rfl, ?_⟩
                  have S381 := S364.onOwn hb378 ho379
                  clear HM hfl hb378 ho379 S364
                  change St _ _ _ [.own 137 2 (.slice A376 (rs.length + j + 1) c377) (rs.length + j + 1) (((ls.take (j + 1)).foldl (fun l x => putMsg x.msg l) rs).flatMap Msg.cells), .blk b26 (qRow ep nx gv (.slice Ab (rs.length + j) cb) (.slice A21 ls.length c22) W) 29, .own 141 4 (.slice A21 ls.length c22) ls.length ((ls).flatMap Ls.cells), .own 137 2 (.slice Ab (rs.length + j) cb) (rs.length + j) (((ls.take j).foldl (fun l x => putMsg x.msg l) rs).flatMap Msg.cells), .blk b10 #[.int .i64 0, .int .i64 0, .int .i64 0, .int .i64 0] 93, .blk b7 (qRow 0 0 0 (.slice none 0 0) (.slice none 0 0) zeroWs) 29, .blk b4 #[.int .i64 4, .int .i64 ((k : Nat) : Int), .int .i64 id, .int .i64 bd, .int .i64 he, .int .i64 hn] 37, .blk b1 (qRow ep nx gv (.slice A1 rs.length c1) (.slice (some ⟨b369, o370, none⟩) ls.length c2) W) 29, .rd 2 A1 rs.length ((rs).flatMap Msg.cells), .rd 4 (some ⟨b369, o370, none⟩) ls.length ((ls).flatMap Ls.cells)] at S381
                  refine ⟨(St.del 0 (St.del 1 (St.del 2 (St.del 3 S381)))), ?_⟩
                  refine wG_tail (by kernel_rfl) rfl rfl rfl ?_
                  refine wL_val (v := .pointer (some ⟨b26, 3, none⟩)) (wn rfl) rfl rfl (y_fieldAddr rfl rfl (fa29_3 _ _ _)) ?_
                  refine wL_st (cs := #[.slice A376 (rs.length + j + 1) c377]) (row' := qRow ep nx gv (.slice A376 (rs.length + j + 1) c377) (.slice A21 ls.length c22) W) (fs' := [_, .blk b26 (qRow ep nx gv (.slice A376 (rs.length + j + 1) c377) (.slice A21 ls.length c22) W) 29, _, _, _, _, _, _, _, _]) 1 S381 (wn rfl) rfl rfl rfl rfl rfl rfl inf22 rfl (oneAll rfl) (Nat.le_of_ble_eq_true rfl) qRow_s3 rfl ?_
                  intro w382 S383
                  clear S381
                  refine wL_nil (wQ_np ?_)
                  refine wQ_sub (l' := [(2, _), (4, _), (5, _), (6, _), (7, _), (9, _), (17, _)]) ⟨rfl, rfl, rfl, rfl, rfl, rfl, rfl, trivial⟩ ?_
                  refine wQ_blk_n ?_
                  refine wQ_then ?_
                  refine wC_region ?_
                  refine wL_val (v := .int .i64 ((j : Nat) : Int)) (wn rfl) rfl rfl (y_move rfl rfl) ?_
                  refine wL_val (v := .int .i64 ((j + 1 : Nat) : Int)) (wn rfl) rfl rfl (y_binop rfl rfl rfl (r_add (by omega) (by omega))) ?_
                  refine wL_val (v := .int .i64 ((j + 1 : Nat) : Int)) (wn rfl) rfl rfl (y_assign rfl rfl) ?_
                  refine wL_nil ?_
                  refine wQ_sub (l' := [(2, _), (4, _), (5, _), (6, _), (7, _), (9, _), (17, _)]) ⟨rfl, rfl, rfl, rfl, rfl, rfl, rfl, trivial⟩ ?_
                  have S384 : St w.heap.size w w382 [_, _, _, _, _, _, _, _, _] := (St.del 3 S383)
                  clear S383
                  have S385 : St w.heap.size w w382 [_, _, _, _, _, _, _, _, _] := S384.re [1, 2, 0, 3, 4, 5, 6, 7, 8] (by decide)
                  clear S384
                  refine wQ_round (j + 1, A376, c377) ?_ ⟨rfl, rfl, rfl, rfl, rfl, rfl, rfl, trivial⟩ (by first | omega | (dsimp only; omega))
                  exact ⟨(by dsimp only; omega), S385⟩
                · refine wL_val (v := .bool false) (wn rfl) rfl rfl (y_binop rfl rfl rfl (r_lss_f h363)) ?_
                  refine wL_nil ?_
                  refine wQ_sub (l' := [(2, _), (4, _), (5, _), (6, _), (7, _), (9, _), (17, _), (215, _)]) ⟨rfl, rfl, rfl, rfl, rfl, rfl, rfl, rfl, trivial⟩ ?_
                  refine wQ_then ?_
                  refine wC_cond_f rfl ?_
                  refine wC_exit ?_
                  refine wQ_then_exit ?_
                  refine wQ_then_exit ?_
                  refine wQ_blk_same ?_
                  refine wQ_then ?_
                  refine wC_seq ?_
                  refine wC_region ?_
                  obtain rfl : j = ls.length := by omega
                  have S386 := S361
                  clear S361
                  rw [List.take_length] at S386
                  change St _ _ _ [.blk b26 (qRow ep nx gv (.slice Ab (rs.length + ls.length) cb) (.slice A21 ls.length c22) W) 29, .own 141 4 (.slice A21 ls.length c22) ls.length ((ls).flatMap Ls.cells), .own 137 2 (.slice Ab (rs.length + ls.length) cb) (rs.length + ls.length) ((ls.foldl (fun l x => putMsg x.msg l) rs).flatMap Msg.cells), .blk b10 #[.int .i64 0, .int .i64 0, .int .i64 0, .int .i64 0] 93, .blk b7 (qRow 0 0 0 (.slice none 0 0) (.slice none 0 0) zeroWs) 29, .blk b4 #[.int .i64 4, .int .i64 ((k : Nat) : Int), .int .i64 id, .int .i64 bd, .int .i64 he, .int .i64 hn] 37, .blk b1 (qRow ep nx gv (.slice A1 rs.length c1) (.slice A2 ls.length c2) W) 29, .rd 2 A1 rs.length ((rs).flatMap Msg.cells), .rd 4 A2 ls.length ((ls).flatMap Ls.cells)] at S386
                  refine wL_val (v := .pointer (some ⟨b26, 4, none⟩)) (wn rfl) rfl rfl (y_fieldAddr rfl rfl (fa29_4 _ _ _)) ?_
                  refine wL_st (cs := #[.slice none 0 0]) (row' := qRow ep nx gv (.slice Ab (rs.length + ls.length) cb) (.slice none 0 0) W) (fs' := [.blk b26 (qRow ep nx gv (.slice Ab (rs.length + ls.length) cb) (.slice none 0 0) W) 29, _, _, _, _, _, _, _, _]) 0 S386 (wn rfl) rfl rfl rfl rfl rfl rfl inf23 rfl (oneAll rfl) (Nat.le_of_ble_eq_true rfl) qRow_s4 rfl ?_
                  intro w387 S388
                  clear S386
                  refine wL_nil ?_
                  refine wQ_sub (l' := [(2, _), (4, _), (5, _), (6, _), (7, _), (9, _)]) ⟨rfl, rfl, rfl, rfl, rfl, rfl, trivial⟩ ?_
                  refine wQ_then ?_
                  refine wC_seq ?_
                  refine wC_region ?_
                  refine wL_val (v := .pointer (some ⟨b1, 0, none⟩)) (wn rfl) rfl rfl (y_fieldAddr rfl rfl (fa29_0 _ _ _)) ?_
                  refine wL_val (v := .int .i64 ep) (wn rfl) rfl rfl (y_load rfl rfl (r_load Try.underlying3 rfl (St.cl 6 S388 rfl qRow_g0))) ?_
                  refine wL_val (v := .int .i64 (ep + 1)) (wn rfl) rfl rfl (y_binop rfl rfl rfl (r_add (by omega) (by omega))) ?_
                  refine wL_val (v := .pointer (some ⟨b26, 0, none⟩)) (wn rfl) rfl rfl (y_fieldAddr rfl rfl (fa29_0 _ _ _)) ?_
                  refine wL_st (cs := #[.int .i64 (ep + 1)]) (row' := qRow (ep + 1) nx gv (.slice Ab (rs.length + ls.length) cb) (.slice none 0 0) W) (fs' := [.blk b26 (qRow (ep + 1) nx gv (.slice Ab (rs.length + ls.length) cb) (.slice none 0 0) W) 29, _, _, _, _, _, _, _, _]) 0 S388 (wn rfl) rfl rfl rfl rfl rfl rfl inf3 rfl (oneAll rfl) (Nat.le_of_ble_eq_true rfl) qRow_s0 rfl ?_
                  intro w389 S390
                  clear S388
                  refine wL_nil ?_
                  refine wQ_sub (l' := [(4, _), (5, _), (6, _), (7, _), (9, _)]) ⟨rfl, rfl, rfl, rfl, rfl, trivial⟩ ?_
                  refine wQ_then ?_
                  refine wC_seq ?_
                  refine wC_region ?_
                  refine wL_val (v := .pointer (some ⟨b26, 2, none⟩)) (wn rfl) rfl rfl (y_fieldAddr rfl rfl (fa29_2 _ _ _)) ?_
                  refine wL_st (cs := #[.int .i64 0]) (row' := qRow (ep + 1) nx 0 (.slice Ab (rs.length + ls.length) cb) (.slice none 0 0) W) (fs' := [.blk b26 (qRow (ep + 1) nx 0 (.slice Ab (rs.length + ls.length) cb) (.slice none 0 0) W) 29, _, _, _, _, _, _, _, _]) 0 S390 (wn rfl) rfl rfl rfl rfl rfl rfl inf3 rfl (oneAll rfl) (Nat.le_of_ble_eq_true rfl) qRow_s2 rfl ?_
                  intro w391 S392
                  clear S390
                  refine wL_nil ?_
                  refine wQ_sub (l' := [(4, _), (5, _), (6, _), (7, _), (9, _)]) ⟨rfl, rfl, rfl, rfl, rfl, trivial⟩ ?_
                  refine wQ_then ?_
                  refine wC_seq ?_
                  refine wC_region ?_
                  refine wL_val (v := .agg (qRow (ep + 1) nx 0 (.slice Ab (rs.length + ls.length) cb) (.slice none 0 0) W)) (wn rfl) rfl rfl (y_load rfl rfl (r_load_row 0 S392 rfl Try.underlying29 rfl inf29 rfl)) ?_
                  refine wL_val (v := .agg #[.int .i64 0, .int .i64 0, .int .i64 0, .int .i64 0]) (wn rfl) rfl rfl (y_build (vs := []) rfl trivial (by kernel_rfl)) ?_
                  refine wL_st (cs := qRow (ep + 1) nx 0 (.slice Ab (rs.length + ls.length) cb) (.slice none 0 0) W) (row' := qRow (ep + 1) nx 0 (.slice Ab (rs.length + ls.length) cb) (.slice none 0 0) W) (fs' := [_, _, _, _, .blk b7 (qRow (ep + 1) nx 0 (.slice Ab (rs.length + ls.length) cb) (.slice none 0 0) W) 29, _, _, _, _]) 4 S392 (wn rfl) rfl rfl rfl rfl rfl rfl inf29 rfl (qRow_one rfl rfl) (Nat.le_of_ble_eq_true rfl) (setAll_all rfl) rfl ?_
                  intro w393 S394
                  clear S392
                  refine wL_st (cs := #[.int .i64 0, .int .i64 0, .int .i64 0, .int .i64 0]) (row' := #[.int .i64 0, .int .i64 0, .int .i64 0, .int .i64 0]) (fs' := [_, _, _, .blk b10 #[.int .i64 0, .int .i64 0, .int .i64 0, .int .i64 0] 93, _, _, _, _, _]) 3 S394 (wn rfl) rfl rfl rfl rfl rfl rfl inf93 rfl (oneAll rfl) (Nat.le_of_ble_eq_true rfl) (setAll_all rfl) rfl ?_
                  intro w395 S396
                  clear S394
                  refine wL_val (v := .bool true) (wn rfl) rfl rfl (y_assign rfl rfl) ?_
                  refine wL_val (v := .int .i64 0) (wn rfl) rfl rfl (y_assign rfl rfl) ?_
                  refine wL_nil ?_
                  refine wQ_sub (l' := [(4, _), (5, _), (6, _), (7, _)]) ⟨rfl, rfl, rfl, rfl, trivial⟩ ?_
                  refine wQ_then ?_
                  refine wC_ret ?_
                  refine wQ_post (rs := [.cell 4 29, .cell 5 93, .tmp 6, .tmp 7]) (vs := [.agg (qRow (ep + 1) nx 0 (.slice Ab (rs.length + ls.length) cb) (.slice none 0 0) W), .agg #[.int .i64 0, .int .i64 0, .int .i64 0, .int .i64 0], .bool true, .int .i64 0]) rfl ⟨⟨_, rfl, res_row 4 S396 rfl Try.underlying29 rfl inf29⟩, ⟨_, rfl, res_row 3 S396 rfl Try.underlying93 rfl inf93⟩, rfl, rfl, trivial⟩ ?_
                  have S397 : St w.heap.size w w395 [_] := (St.del 0 (St.del 1 (St.del 3 (St.del 4 (St.del 5 (St.del 6 (St.del 7 (St.del 8 S396))))))))
                  clear S396
                  have S398 : St w.heap.size w w395 (.rdo 4 none 0 ((([] : List Ls)).flatMap Ls.cells) :: [.own 137 2 (.slice Ab (rs.length + ls.length) cb) (rs.length + ls.length) ((ls.foldl (fun l x => putMsg x.msg l) rs).flatMap Msg.cells)]) := rdo_nil S397
                  clear S397
                  have S399 : St w.heap.size w w395 [.own 137 2 (.slice Ab (rs.length + ls.length) cb) (rs.length + ls.length) ((ls.foldl (fun l x => putMsg x.msg l) rs).flatMap Msg.cells), .rdo 4 none 0 ((([] : List Ls)).flatMap Ls.cells)] := S398.re [1, 0] (by decide)
                  clear S398
                  have S400 := S399.sealAll 0 rfl
                  clear S399
                  change St _ _ _ [.rdo 2 Ab (rs.length + ls.length) ((ls.foldl (fun l x => putMsg x.msg l) rs).flatMap Msg.cells), _] at S400
                  rw [do_ok (Q := ⟨ep, nx, gv, rs, ls, W⟩) h0 h1, show stepM ⟨ep, nx, gv, rs, ls, W⟩ ⟨4, ((k : Nat) : Int), id, bd, he, hn⟩ = endM ⟨ep, nx, gv, rs, ls, W⟩ from by simp [stepM], end_ok h2]
                  have hl1 := fold_len ls rs
                  refine ⟨Ab, cb, none, 0, ?_, ?_⟩
                  · dsimp only; rw [hl1]; rfl
                  · dsimp only; rw [hl1]; exact S400
    · refine wL_val (v := .bool true) (wn rfl) rfl rfl (y_binop rfl rfl rfl (r_neq_t h1)) ?_
      refine wL_nil ?_
      refine wQ_sub (l' := [(2, _), (3, _), (4, _), (5, _), (6, _), (7, _), (8, _), (28, _)]) ⟨rfl, rfl, rfl, rfl, rfl, rfl, rfl, rfl, trivial⟩ ?_
      refine wQ_then ?_
      refine wC_cond_t rfl ?_
      refine wC_seq ?_
      refine wC_region ?_
      refine wL_val (v := .agg (qRow 0 0 0 (.slice none 0 0) (.slice none 0 0) zeroWs)) (wn rfl) rfl rfl (y_build (vs := []) rfl trivial (by kernel_rfl)) ?_
      refine wL_val (v := .agg #[.int .i64 0, .int .i64 0, .int .i64 0, .int .i64 0]) (wn rfl) rfl rfl (y_build (vs := []) rfl trivial (by kernel_rfl)) ?_
      refine wL_val (v := .int .i64 (evFault ⟨kd, pr, id, bd, he, hn⟩)) (wn rfl) rfl rfl (y_move rfl rfl) ?_
      refine wL_st (cs := qRow 0 0 0 (.slice none 0 0) (.slice none 0 0) zeroWs) (row' := qRow 0 0 0 (.slice none 0 0) (.slice none 0 0) zeroWs) (fs' := [_, .blk b7 (qRow 0 0 0 (.slice none 0 0) (.slice none 0 0) zeroWs) 29, _, _, _, _]) 1 S17 (wn rfl) rfl rfl rfl rfl rfl rfl inf29 rfl (qRow_one rfl rfl) (Nat.le_of_ble_eq_true rfl) (setAll_all rfl) rfl ?_
      intro w401 S402
      clear S17
      refine wL_st (cs := #[.int .i64 0, .int .i64 0, .int .i64 0, .int .i64 0]) (row' := #[.int .i64 0, .int .i64 0, .int .i64 0, .int .i64 0]) (fs' := [.blk b10 #[.int .i64 0, .int .i64 0, .int .i64 0, .int .i64 0] 93, _, _, _, _, _]) 0 S402 (wn rfl) rfl rfl rfl rfl rfl rfl inf93 rfl (oneAll rfl) (Nat.le_of_ble_eq_true rfl) (setAll_all rfl) rfl ?_
      intro w403 S404
      clear S402
      refine wL_val (v := .bool false) (wn rfl) rfl rfl (y_assign rfl rfl) ?_
      refine wL_val (v := .int .i64 (evFault ⟨kd, pr, id, bd, he, hn⟩)) (wn rfl) rfl rfl (y_assign rfl rfl) ?_
      refine wL_nil ?_
      refine wQ_sub (l' := [(4, _), (5, _), (6, _), (7, _)]) ⟨rfl, rfl, rfl, rfl, trivial⟩ ?_
      refine wQ_then ?_
      refine wC_ret ?_
      refine wQ_then_ret ?_
      refine wQ_post (rs := [.cell 4 29, .cell 5 93, .tmp 6, .tmp 7]) (vs := [.agg (qRow 0 0 0 (.slice none 0 0) (.slice none 0 0) zeroWs), .agg #[.int .i64 0, .int .i64 0, .int .i64 0, .int .i64 0], .bool false, .int .i64 (evFault ⟨kd, pr, id, bd, he, hn⟩)]) rfl ⟨⟨_, rfl, res_row 1 S404 rfl Try.underlying29 rfl inf29⟩, ⟨_, rfl, res_row 0 S404 rfl Try.underlying93 rfl inf93⟩, rfl, rfl, trivial⟩ ?_
      have S405 : St w.heap.size w w403 [] := (St.del 0 (St.del 1 (St.del 2 (St.del 3 (St.del 4 (St.del 5 S404))))))
      clear S404
      rw [do_ef (Q := ⟨ep, nx, gv, rs, ls, W⟩) h0 h1]
      exact ⟨none, 0, none, 0, rfl, rdo_nil2 S405⟩
  · refine wL_val (v := .bool true) (wn rfl) rfl rfl (y_binop rfl rfl rfl (r_neq_t h0)) ?_
    refine wL_nil ?_
    refine wQ_sub (l' := [(2, _), (3, _), (4, _), (5, _), (6, _), (7, _), (8, _), (21, _)]) ⟨rfl, rfl, rfl, rfl, rfl, rfl, rfl, rfl, trivial⟩ ?_
    refine wQ_then ?_
    refine wC_cond_t rfl ?_
    refine wC_seq ?_
    refine wC_region ?_
    refine wL_val (v := .agg (qRow 0 0 0 (.slice none 0 0) (.slice none 0 0) zeroWs)) (wn rfl) rfl rfl (y_build (vs := []) rfl trivial (by kernel_rfl)) ?_
    refine wL_val (v := .agg #[.int .i64 0, .int .i64 0, .int .i64 0, .int .i64 0]) (wn rfl) rfl rfl (y_build (vs := []) rfl trivial (by kernel_rfl)) ?_
    refine wL_val (v := .int .i64 (queueFault ep nx gv rs ls W)) (wn rfl) rfl rfl (y_move rfl rfl) ?_
    refine wL_st (cs := qRow 0 0 0 (.slice none 0 0) (.slice none 0 0) zeroWs) (row' := qRow 0 0 0 (.slice none 0 0) (.slice none 0 0) zeroWs) (fs' := [_, .blk b7 (qRow 0 0 0 (.slice none 0 0) (.slice none 0 0) zeroWs) 29, _, _, _, _]) 1 S14 (wn rfl) rfl rfl rfl rfl rfl rfl inf29 rfl (qRow_one rfl rfl) (Nat.le_of_ble_eq_true rfl) (setAll_all rfl) rfl ?_
    intro w406 S407
    clear S14
    refine wL_st (cs := #[.int .i64 0, .int .i64 0, .int .i64 0, .int .i64 0]) (row' := #[.int .i64 0, .int .i64 0, .int .i64 0, .int .i64 0]) (fs' := [.blk b10 #[.int .i64 0, .int .i64 0, .int .i64 0, .int .i64 0] 93, _, _, _, _, _]) 0 S407 (wn rfl) rfl rfl rfl rfl rfl rfl inf93 rfl (oneAll rfl) (Nat.le_of_ble_eq_true rfl) (setAll_all rfl) rfl ?_
    intro w408 S409
    clear S407
    refine wL_val (v := .bool false) (wn rfl) rfl rfl (y_assign rfl rfl) ?_
    refine wL_val (v := .int .i64 (queueFault ep nx gv rs ls W)) (wn rfl) rfl rfl (y_assign rfl rfl) ?_
    refine wL_nil ?_
    refine wQ_sub (l' := [(4, _), (5, _), (6, _), (7, _)]) ⟨rfl, rfl, rfl, rfl, trivial⟩ ?_
    refine wQ_then ?_
    refine wC_ret ?_
    refine wQ_then_ret ?_
    refine wQ_post (rs := [.cell 4 29, .cell 5 93, .tmp 6, .tmp 7]) (vs := [.agg (qRow 0 0 0 (.slice none 0 0) (.slice none 0 0) zeroWs), .agg #[.int .i64 0, .int .i64 0, .int .i64 0, .int .i64 0], .bool false, .int .i64 (queueFault ep nx gv rs ls W)]) rfl ⟨⟨_, rfl, res_row 1 S409 rfl Try.underlying29 rfl inf29⟩, ⟨_, rfl, res_row 0 S409 rfl Try.underlying93 rfl inf93⟩, rfl, rfl, trivial⟩ ?_
    have S410 : St w.heap.size w w408 [] := (St.del 0 (St.del 1 (St.del 2 (St.del 3 (St.del 4 (St.del 5 S409))))))
    clear S409
    rw [do_qf (Q := ⟨ep, nx, gv, rs, ls, W⟩) h0]
    exact ⟨none, 0, none, 0, rfl, rdo_nil2 S410⟩
end Go.Proofs.Ytkjlafpafmihaaa

namespace Go.Proofs.Ytkjlafpafmihaaa
open Go.ChangeShapes Go.WideShapes Go.RowKit
theorem cellEq_self : ∀ {v : Value} {s : Sh}, Kd v s → cellEq v v = true
  | _, .at_ (.int k), ⟨n, rfl⟩ => by simp [cellEq]
  | _, .at_ .bool, ⟨n, rfl⟩ => by simp [cellEq]
  | _, .at_ .str, ⟨n, rfl⟩ => by simp [cellEq]
  | _, .sl _ _, h => h.elim
theorem cellsEq_self : ∀ {xs : List Value} {l : List Sh}, All2 Kd xs l → cellsEq xs xs = true
  | [], [], _ => rfl
  | x :: xs, s :: l, h => by
    rw [cellsEq, cellEq_self h.1, cellsEq_self h.2]
    rfl
  | [], _ :: _, h => h.elim
  | _ :: _, [], h => h.elim
section
variable {P : Program} {w : World} {t : TypeId} {xo yo : Operand} {l : List Sh} {xs : List Value}
theorem run_neq_self (w : World) (hf : flat P 30 t = some l) (ho : eqOk P 30 t = true) (ha : ∀ xs, mkV P t xs = .agg xs.toArray) (hx : All2 Kd xs l) : (binOp .neq t (.agg xs.toArray) (.agg xs.toArray)).run P w = .ok (.bool false) w := by
  have h := run_neq_cells (P := P) w hf ho ha hx hx
  rw [cellsEq_self hx] at h
  exact h
theorem run_eql_self (w : World) (hf : flat P 30 t = some l) (ho : eqOk P 30 t = true) (ha : ∀ xs, mkV P t xs = .agg xs.toArray) (hx : All2 Kd xs l) : (binOp .eql t (.agg xs.toArray) (.agg xs.toArray)).run P w = .ok (.bool true) w := by
  have h := run_eql_cells (P := P) w hf ho ha hx hx
  rw [cellsEq_self hx] at h
  exact h
theorem r_beq_self {b : Bool} (hu : P.underlying t = some .bool) : (do eqGuard .eql t xo yo (.bool b) (.bool b); binOp .eql t (.bool b) (.bool b) : Sem Value).run P w = .ok (.bool true) w := by
  rw [Sem.run_bind, show (eqGuard .eql t xo yo (.bool b) (.bool b)).run P w = .ok () w from by cases b <;> rfl]
  have h : ∀ d : Nat, (Op.equalIn (d + 1) t (.bool b) (.bool b)).run P w = .ok true w := fun d => by
    simp [Op.equalIn, run_underlying hu]
  show (binOp .eql t (.bool b) (.bool b)).run P w = _
  simp only [binOp]
  simp [Op.equal, Op.maxDepth, h 9999]
end
end Go.Proofs.Ytkjlafpafmihaaa

