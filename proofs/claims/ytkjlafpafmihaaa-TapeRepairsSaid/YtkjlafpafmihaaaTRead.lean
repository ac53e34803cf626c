/- Contract: tape.Read. (The steps are printed by a program of mine: wip/px.) -/
import Derived.Test.YtkjlafpafmihaaaTFirst
import Derived.Test.YtkjlafpafmihaaaQ
namespace Go.Proofs.Ytkjlafpafmihaaa
open Go.ChangeShapes Go.WideShapes Go.RowKit

theorem own_caps {w : World} {base : Nat} {e : TypeId} {size : Nat} {A : Option Addr} {n c : Nat} {xs : List Value} (h : w.ownsRow base e size (.slice A n c) n xs) : n ≤ c ∧ c ≤ maxLen := by
  obtain ⟨A', c', e1, h1, h2⟩ := own_form h
  cases e1
  exact ⟨h1, h2⟩
theorem readsM_begin {l : List UInt8} : readsM l = ([] ++ (readsM (l.drop 0)).1, 0 + (readsM (l.drop 0)).2) := by simp
theorem readsM_next {l : List UInt8} {acc : List Rcd} {p : Nat} (h : readsM l = (acc ++ (readsM (l.drop p)).1, p + (readsM (l.drop p)).2)) (h1 : ¬ (firstM (l.drop p)).2 = 0) :
    readsM l = (acc ++ [(firstM (l.drop p)).1] ++ (readsM (l.drop (p + (firstM (l.drop p)).2))).1, p + (firstM (l.drop p)).2 + (readsM (l.drop (p + (firstM (l.drop p)).2))).2) := by
  rw [h, readsM_go h1, List.drop_drop, List.append_assoc, Nat.add_assoc]
  rfl
theorem readM_end {l : List UInt8} {s : Int} {acc : List Rcd} {p : Nat} (hm : tapeMay l s = true) (h : readsM l = (acc ++ (readsM (l.drop p)).1, p + (readsM (l.drop p)).2)) (h1 : (firstM (l.drop p)).2 = 0) : readM l s = (acc, p, 0) := by
  unfold readM
  rw [if_pos hm, h, readsM_stop h1]
  simp

set_option maxRecDepth 100000 in
set_option maxHeartbeats 2000000 in
theorem Read_calls (A : Option Addr) (c : Nat) (l : List UInt8) (s : Int) (w : World) (h : Rd w w.heap.size 1 A l.length (byteCells l)) :
    Calls Try.prog 61 #[.agg #[.slice A l.length c, .int .i64 s]] w (ReadPost w (readM l s)) := by
  have S := (St.start w).addRd h
  clear h
  refine calls_of_wC (N := 37) (vs := [.agg #[.slice A l.length c, .int .i64 s]]) Try.func61 rfl rfl rfl ?_
  refine wC_sub (l' := [(0, .agg #[.slice A l.length c, .int .i64 s])]) ⟨rfl, trivial⟩ ?_
  refine wC_seq ?_
  refine wC_region ?_
  refine wL_new (V := fun b => .pointer (some ⟨b, 0, none⟩)) (row := #[.slice A l.length c, .int .i64 s]) (t := 80) S (wn rfl) rfl rfl (d_box rfl rfl rfl) ?_
  intro b1 w2 S3
  clear S
  refine wL_val (v := .slice none 0 0) (wn rfl) rfl rfl (y_assign rfl rfl) ?_
  refine wL_val (v := .int .i64 0) (wn rfl) rfl rfl (y_assign rfl rfl) ?_
  refine wL_val (v := .int .i64 0) (wn rfl) rfl rfl (y_assign rfl rfl) ?_
  refine wL_nil ?_
  refine wQ_then ?_
  refine wC_seq ?_
  refine wC_region ?_
  refine wL_val (v := .agg #[.slice A l.length c, .int .i64 s]) (wn rfl) rfl rfl (y_load rfl rfl (r_load_row 0 S3 rfl Try.underlying80 rfl inf80 rfl)) ?_
  rcases openM_eq l s with ⟨ho, hm⟩ | ⟨ho, hm⟩
  · have HO := fun w h => open_calls A l.length c l s w h
    rw [ho] at HO
    refine wL_call (vs := [.agg #[.slice A l.length c, .int .i64 s]]) (wn rfl) rfl rfl (e_call (vs := [.agg #[.slice A l.length c, .int .i64 s]]) rfl en136 ⟨rfl, trivial⟩) (HO _ (St.rd 1 S3 rfl)) ?_
    rintro _ w8 ⟨A4, c5, rfl, hb6, hO7⟩
    refine ⟨_, rfl, ?_⟩
    have S9 := S3.onOwn hb6 hO7
    clear HO hb6 hO7 S3
    change St _ _ _ [.own 5 1 (.slice A4 l.length c5) l.length (byteCells l), .blk b1 #[.slice A l.length c, .int .i64 s] 80, .rd 1 A l.length (byteCells l)] at S9
    have hcap := own_caps (S9.own 0 rfl)
    unfold maxLen at hcap
    have hlen : l.length ≤ 100000 := (tapeMay_of hm).1
    refine wL_val (v := .tuple #[.agg #[.slice A4 l.length c5, .int .i64 s], .bool true]) (wn rfl) rfl rfl (y_move rfl rfl) ?_
    refine wL_val (v := .agg #[.slice A4 l.length c5, .int .i64 s]) (wn rfl) rfl rfl (y_extract rfl rfl rfl) ?_
    refine wL_val (v := .bool true) (wn rfl) rfl rfl (y_extract rfl rfl rfl) ?_
    refine wL_new (V := fun b => .pointer (some ⟨b, 0, none⟩)) (row := #[.slice none 0 0, .int .i64 0]) (t := 80) S9 (wn rfl) rfl rfl (d_alloc rfl (Try.zeroValue80 _) rfl) ?_
    intro b10 w11 S12
    clear S9
    refine wL_st (cs := #[.slice A4 l.length c5, .int .i64 s]) (row' := #[.slice A4 l.length c5, .int .i64 s]) (fs' := [.blk b10 #[.slice A4 l.length c5, .int .i64 s] 80, .own 5 1 (.slice A4 l.length c5) l.length (byteCells l), .blk b1 #[.slice A l.length c, .int .i64 s] 80, .rd 1 A l.length (byteCells l) ]) 0 S12 (wn rfl) rfl rfl rfl rfl rfl rfl inf80 rfl (oneAll rfl) (Nat.le_of_ble_eq_true rfl) (setAll_all rfl) rfl ?_
    intro w13 S14
    clear S12
    refine wL_val (v := .bool true) (wn rfl) rfl rfl (y_assign rfl rfl) ?_
    refine wL_nil ?_
    refine wQ_sub (l' := [(0, .agg #[.slice A l.length c, .int .i64 s]), (1, .pointer (some ⟨b1, 0, none⟩)), (2, .slice none 0 0), (3, .int .i64 0), (4, .int .i64 0), (5, .pointer (some ⟨b10, 0, none⟩)), (6, .bool true)]) ⟨rfl, rfl, rfl, rfl, rfl, rfl, rfl, trivial⟩ ?_
    refine wQ_then ?_
    refine wC_seq ?_
    refine wC_seq ?_
    refine wC_region ?_
    refine wL_val (v := .bool true) (wn rfl) rfl rfl (y_move rfl rfl) ?_
    refine wL_val (v := .bool false) (wn rfl) rfl rfl (y_unop rfl rfl r_not) ?_
    refine wL_nil ?_
    refine wQ_sub (l' := [(0, .agg #[.slice A l.length c, .int .i64 s]), (1, .pointer (some ⟨b1, 0, none⟩)), (2, .slice none 0 0), (3, .int .i64 0), (4, .int .i64 0), (5, .pointer (some ⟨b10, 0, none⟩)), (6, .bool true), (17, .bool false)]) ⟨rfl, rfl, rfl, rfl, rfl, rfl, rfl, rfl, trivial⟩ ?_
    refine wQ_then ?_
    refine wC_cond_f rfl ?_
    refine wC_skip ?_
    refine wQ_then ?_
    refine wC_seq ?_
    refine wC_region ?_
    have S15 := S14.nil 51 10
    clear S14
    refine wL_val (v := .slice none 0 0) (wn rfl) rfl rfl (y_assign rfl rfl) ?_
    refine wL_nil ?_
    refine wQ_then ?_
    refine wC_seq ?_
    refine wC_region ?_
    refine wL_val (v := .int .i64 0) (wn rfl) rfl rfl (y_assign rfl rfl) ?_
    refine wL_nil ?_
    refine wQ_then ?_
    refine wC_block ?_
    have S16 : St w.heap.size w w13 [.own 51 10 (.slice none 0 0) 0 ((([] : List Rcd)).flatMap Rcd.cells), .blk b10 #[.slice A4 l.length c5, .int .i64 s] 80, .own 5 1 (.slice A4 l.length c5) l.length (byteCells l), .blk b1 #[.slice A l.length c, .int .i64 s] 80] := (St.del 4 S15)
    clear S15
    refine wC_loop (X := (List Rcd) × Nat × Nat × (Option Addr) × Nat) (fun xv => [(0, .agg #[.slice A l.length c, .int .i64 s]), (1, .pointer (some ⟨b1, 0, none⟩)), (2, .slice none 0 0), (3, .int .i64 0), (4, .int .i64 0), (5, .pointer (some ⟨b10, 0, none⟩)), (6, .bool true), (17, .bool false), (7, .slice xv.2.2.2.1 xv.2.2.1 xv.2.2.2.2), (8, .int .i64 ((xv.2.1 : Nat) : Int))]) (fun xv wr => (readsM l = (xv.1 ++ (readsM (l.drop xv.2.1)).1, xv.2.1 + (readsM (l.drop xv.2.1)).2)) ∧ (xv.2.1 ≤ l.length) ∧ (xv.2.2.1 ≤ xv.2.1) ∧ (xv.2.2.1 = xv.1.length) ∧ St w.heap.size w wr [.own 51 10 (.slice xv.2.2.2.1 xv.2.2.1 xv.2.2.2.2) xv.2.2.1 ((xv.1).flatMap Rcd.cells), .blk b10 #[.slice A4 l.length c5, .int .i64 s] 80, .own 5 1 (.slice A4 l.length c5) l.length (byteCells l), .blk b1 #[.slice A l.length c, .int .i64 s] 80]) (fun xv => l.length - xv.2.1) ([], 0, 0, none, 0) ?_ ?_ ?_
    · exact ⟨readsM_begin, Nat.zero_le _, Nat.le_refl _, rfl, S16⟩
    · exact ⟨rfl, rfl, rfl, rfl, rfl, rfl, rfl, rfl, rfl, rfl, trivial⟩
    · rintro ⟨acc, p, m, A9, c9⟩ w17 ⟨hi19, hi20, hi21, hi22, S18⟩
      try dsimp only at hi19 hi20 hi21 hi22 S18
      clear S16
      refine wC_sub (l' := [(0, .agg #[.slice A l.length c, .int .i64 s]), (1, .pointer (some ⟨b1, 0, none⟩)), (2, .slice none 0 0), (3, .int .i64 0), (4, .int .i64 0), (5, .pointer (some ⟨b10, 0, none⟩)), (6, .bool true), (17, .bool false), (7, .slice A9 m c9), (8, .int .i64 ((p : Nat) : Int))]) ⟨rfl, rfl, rfl, rfl, rfl, rfl, rfl, rfl, rfl, rfl, trivial⟩ ?_
      refine wC_block ?_
      refine wC_seq ?_
      refine wC_region ?_
      refine wL_val (v := .pointer (some ⟨b10, 0, none⟩)) (wn rfl) rfl rfl (y_fieldAddr rfl rfl (fa80_0 _ _ _)) ?_
      refine wL_val (v := .slice A4 l.length c5) (wn rfl) rfl rfl (y_load rfl rfl (r_load Try.underlying52 rfl (St.cl 1 S18 rfl rfl))) ?_
      refine wL_val (v := .int .i64 ((p : Nat) : Int)) (wn rfl) rfl rfl (y_move rfl rfl) ?_
      obtain ⟨A23, hr24, hR25⟩ := bslice (b := l) (c := c5) (lo := (some (.int .i64 ((p : Nat) : Int)))) (hi := none) (mx := none) (l := p) (k := l.length) (q := c5) (m := (l.drop p).length) (c' := c5 - p) Try.underlying52 inf5 (sb_l p rfl (by omega)) (St.ord 2 S18 rfl) (by omega) (by omega) (by omega) List.length_drop.symm rfl
      rw [List.take_length] at hR25
      refine wL_val (v := .slice A23 ((l.drop p).length) (c5 - p)) (wn rfl) rfl rfl (y_slice rfl rfl (evo_s rfl) evo_n evo_n (hr24 _)) ?_
      refine wL_call (vs := [.slice A23 ((l.drop p).length) (c5 - p)]) (wn rfl) rfl rfl (e_call (vs := [.slice A23 ((l.drop p).length) (c5 - p)]) rfl en141 ⟨rfl, trivial⟩) (first_calls A23 (c5 - p) (l.drop p) _ hR25 (by rw [List.length_drop]; omega) (by omega) (by rw [List.length_drop]; omega)) ?_
      rintro _ w26 ⟨rfl, hb28⟩
      refine ⟨_, rfl, ?_⟩
      have S27 := S18.on hb28
      clear hb28 S18
      clear hR25
      have hfl := @firstM_le (l.drop p)
      rw [List.length_drop] at hfl
      refine wL_val (v := .tuple #[.agg #[.int .i64 ((firstM (l.drop p)).1.kind), .int .i64 ((firstM (l.drop p)).1.queue), .int .i64 ((firstM (l.drop p)).1.epoch), .int .i64 ((firstM (l.drop p)).1.peer), .int .i64 ((firstM (l.drop p)).1.ev.kind), .int .i64 ((firstM (l.drop p)).1.ev.producer), .int .i64 ((firstM (l.drop p)).1.ev.id), .int .i64 ((firstM (l.drop p)).1.ev.body), .int .i64 ((firstM (l.drop p)).1.ev.hepoch), .int .i64 ((firstM (l.drop p)).1.ev.hno)], .int .i64 (((firstM (l.drop p)).2 : Nat) : Int)]) (wn rfl) rfl rfl (y_move rfl rfl) ?_
      refine wL_val (v := .agg #[.int .i64 ((firstM (l.drop p)).1.kind), .int .i64 ((firstM (l.drop p)).1.queue), .int .i64 ((firstM (l.drop p)).1.epoch), .int .i64 ((firstM (l.drop p)).1.peer), .int .i64 ((firstM (l.drop p)).1.ev.kind), .int .i64 ((firstM (l.drop p)).1.ev.producer), .int .i64 ((firstM (l.drop p)).1.ev.id), .int .i64 ((firstM (l.drop p)).1.ev.body), .int .i64 ((firstM (l.drop p)).1.ev.hepoch), .int .i64 ((firstM (l.drop p)).1.ev.hno)]) (wn rfl) rfl rfl (y_extract rfl rfl rfl) ?_
      refine wL_val (v := .int .i64 (((firstM (l.drop p)).2 : Nat) : Int)) (wn rfl) rfl rfl (y_extract rfl rfl rfl) ?_
      refine wL_new (V := fun b => .pointer (some ⟨b, 0, none⟩)) (row := #[.int .i64 0, .int .i64 0, .int .i64 0, .int .i64 0, .int .i64 0, .int .i64 0, .int .i64 0, .int .i64 0, .int .i64 0, .int .i64 0]) (t := 51) S27 (wn rfl) rfl rfl (d_alloc rfl (Try.zeroValue51 _) rfl) ?_
      intro b29 w30 S31
      clear S27
      refine wL_st (cs := #[.int .i64 ((firstM (l.drop p)).1.kind), .int .i64 ((firstM (l.drop p)).1.queue), .int .i64 ((firstM (l.drop p)).1.epoch), .int .i64 ((firstM (l.drop p)).1.peer), .int .i64 ((firstM (l.drop p)).1.ev.kind), .int .i64 ((firstM (l.drop p)).1.ev.producer), .int .i64 ((firstM (l.drop p)).1.ev.id), .int .i64 ((firstM (l.drop p)).1.ev.body), .int .i64 ((firstM (l.drop p)).1.ev.hepoch), .int .i64 ((firstM (l.drop p)).1.ev.hno)]) (row' := #[.int .i64 ((firstM (l.drop p)).1.kind), .int .i64 ((firstM (l.drop p)).1.queue), .int .i64 ((firstM (l.drop p)).1.epoch), .int .i64 ((firstM (l.drop p)).1.peer), .int .i64 ((firstM (l.drop p)).1.ev.kind), .int .i64 ((firstM (l.drop p)).1.ev.producer), .int .i64 ((firstM (l.drop p)).1.ev.id), .int .i64 ((firstM (l.drop p)).1.ev.body), .int .i64 ((firstM (l.drop p)).1.ev.hepoch), .int .i64 ((firstM (l.drop p)).1.ev.hno)]) (fs' := [.blk b29 #[.int .i64 ((firstM (l.drop p)).1.kind), .int .i64 ((firstM (l.drop p)).1.queue), .int .i64 ((firstM (l.drop p)).1.epoch), .int .i64 ((firstM (l.drop p)).1.peer), .int .i64 ((firstM (l.drop p)).1.ev.kind), .int .i64 ((firstM (l.drop p)).1.ev.producer), .int .i64 ((firstM (l.drop p)).1.ev.id), .int .i64 ((firstM (l.drop p)).1.ev.body), .int .i64 ((firstM (l.drop p)).1.ev.hepoch), .int .i64 ((firstM (l.drop p)).1.ev.hno)] 51, .own 51 10 (.slice A9 m c9) m ((acc).flatMap Rcd.cells), .blk b10 #[.slice A4 l.length c5, .int .i64 s] 80, .own 5 1 (.slice A4 l.length c5) l.length (byteCells l), .blk b1 #[.slice A l.length c, .int .i64 s] 80 ]) 0 S31 (wn rfl) rfl rfl rfl rfl rfl rfl inf51 rfl (oneAll rfl) (Nat.le_of_ble_eq_true rfl) (setAll_all rfl) rfl ?_
      intro w32 S33
      clear S31
      refine wL_val (v := .int .i64 (((firstM (l.drop p)).2 : Nat) : Int)) (wn rfl) rfl rfl (y_assign rfl rfl) ?_
      refine wL_nil ?_
      refine wQ_sub (l' := [(0, .agg #[.slice A l.length c, .int .i64 s]), (1, .pointer (some ⟨b1, 0, none⟩)), (2, .slice none 0 0), (3, .int .i64 0), (4, .int .i64 0), (5, .pointer (some ⟨b10, 0, none⟩)), (6, .bool true), (17, .bool false), (7, .slice A9 m c9), (8, .int .i64 ((p : Nat) : Int)), (9, .pointer (some ⟨b29, 0, none⟩)), (10, .int .i64 (((firstM (l.drop p)).2 : Nat) : Int))]) ⟨rfl, rfl, rfl, rfl, rfl, rfl, rfl, rfl, rfl, rfl, rfl, rfl, trivial⟩ ?_
      refine wQ_then ?_
      refine wC_seq ?_
      refine wC_seq ?_
      refine wC_region ?_
      refine wL_val (v := .int .i64 (((firstM (l.drop p)).2 : Nat) : Int)) (wn rfl) rfl rfl (y_move rfl rfl) ?_
      by_cases h34 : (((firstM (l.drop p)).2 : Nat) : Int) = 0
      · refine wL_val (v := .bool true) (wn rfl) rfl rfl (y_binop rfl rfl rfl (r_eql_t h34)) ?_
        refine wL_nil ?_
        refine wQ_sub (l' := [(0, .agg #[.slice A l.length c, .int .i64 s]), (1, .pointer (some ⟨b1, 0, none⟩)), (2, .slice none 0 0), (3, .int .i64 0), (4, .int .i64 0), (5, .pointer (some ⟨b10, 0, none⟩)), (6, .bool true), (17, .bool false), (7, .slice A9 m c9), (8, .int .i64 ((p : Nat) : Int)), (9, .pointer (some ⟨b29, 0, none⟩)), (10, .int .i64 (((firstM (l.drop p)).2 : Nat) : Int)), (27, .bool true)]) ⟨rfl, rfl, rfl, rfl, rfl, rfl, rfl, rfl, rfl, rfl, rfl, rfl, rfl, trivial⟩ ?_
        refine wQ_then ?_
        refine wC_cond_t rfl ?_
        refine wC_seq ?_
        refine wC_region ?_
        refine wL_val (v := .slice A9 m c9) (wn rfl) rfl rfl (y_move rfl rfl) ?_
        refine wL_val (v := .int .i64 ((p : Nat) : Int)) (wn rfl) rfl rfl (y_move rfl rfl) ?_
        refine wL_val (v := .slice A9 m c9) (wn rfl) rfl rfl (y_assign rfl rfl) ?_
        refine wL_val (v := .int .i64 ((p : Nat) : Int)) (wn rfl) rfl rfl (y_assign rfl rfl) ?_
        refine wL_val (v := .int .i64 0) (wn rfl) rfl rfl (y_assign rfl rfl) ?_
        refine wL_nil ?_
        refine wQ_sub (l' := [(0, .agg #[.slice A l.length c, .int .i64 s]), (1, .pointer (some ⟨b1, 0, none⟩)), (2, .slice A9 m c9), (3, .int .i64 ((p : Nat) : Int)), (4, .int .i64 0), (5, .pointer (some ⟨b10, 0, none⟩)), (6, .bool true), (17, .bool false), (7, .slice A9 m c9), (8, .int .i64 ((p : Nat) : Int)), (9, .pointer (some ⟨b29, 0, none⟩)), (10, .int .i64 (((firstM (l.drop p)).2 : Nat) : Int)), (27, .bool true)]) ⟨rfl, rfl, rfl, rfl, rfl, rfl, rfl, rfl, rfl, rfl, rfl, rfl, rfl, trivial⟩ ?_
        refine wQ_then ?_
        refine wC_ret ?_
        refine wQ_then_ret ?_
        refine wQ_blk_ret ?_
        refine wQ_then_ret ?_
        refine wQ_blk_ret ?_
        refine wQ_post (rs := [.tmp 2, .tmp 3, .tmp 4]) (vs := [.slice A9 m c9, .int .i64 ((p : Nat) : Int), .int .i64 0]) rfl ⟨rfl, rfl, rfl, trivial⟩ ?_
        have S35 : St w.heap.size w w32 [.own 51 10 (.slice A9 m c9) m ((acc).flatMap Rcd.cells)] := (St.del 0 (St.del 2 (St.del 3 (St.del 4 S33))))
        clear S33
        have hz : readM l s = (acc, p, 0) := readM_end hm hi19 (by omega)
        rw [hz]
        subst hi22
        exact ⟨_, _, rfl, S35⟩
      · refine wL_val (v := .bool false) (wn rfl) rfl rfl (y_binop rfl rfl rfl (r_eql_f h34)) ?_
        refine wL_nil ?_
        refine wQ_sub (l' := [(0, .agg #[.slice A l.length c, .int .i64 s]), (1, .pointer (some ⟨b1, 0, none⟩)), (2, .slice none 0 0), (3, .int .i64 0), (4, .int .i64 0), (5, .pointer (some ⟨b10, 0, none⟩)), (6, .bool true), (17, .bool false), (7, .slice A9 m c9), (8, .int .i64 ((p : Nat) : Int)), (9, .pointer (some ⟨b29, 0, none⟩)), (10, .int .i64 (((firstM (l.drop p)).2 : Nat) : Int)), (27, .bool false)]) ⟨rfl, rfl, rfl, rfl, rfl, rfl, rfl, rfl, rfl, rfl, rfl, rfl, rfl, trivial⟩ ?_
        refine wQ_then ?_
        refine wC_cond_f rfl ?_
        refine wC_skip ?_
        refine wQ_then ?_
        refine wC_seq ?_
        refine wC_region ?_
        refine wL_val (v := .slice A9 m c9) (wn rfl) rfl rfl (y_move rfl rfl) ?_
        refine wL_val (v := .agg #[.int .i64 ((firstM (l.drop p)).1.kind), .int .i64 ((firstM (l.drop p)).1.queue), .int .i64 ((firstM (l.drop p)).1.epoch), .int .i64 ((firstM (l.drop p)).1.peer), .int .i64 ((firstM (l.drop p)).1.ev.kind), .int .i64 ((firstM (l.drop p)).1.ev.producer), .int .i64 ((firstM (l.drop p)).1.ev.id), .int .i64 ((firstM (l.drop p)).1.ev.body), .int .i64 ((firstM (l.drop p)).1.ev.hepoch), .int .i64 ((firstM (l.drop p)).1.ev.hno)]) (wn rfl) rfl rfl (y_load rfl rfl (r_load_row 0 S33 rfl Try.underlying51 rfl inf51 rfl)) ?_
        refine wL_new (V := fun b => .slice (some ⟨b, 0, none⟩) 1 1) (row := #[.int .i64 ((firstM (l.drop p)).1.kind), .int .i64 ((firstM (l.drop p)).1.queue), .int .i64 ((firstM (l.drop p)).1.epoch), .int .i64 ((firstM (l.drop p)).1.peer), .int .i64 ((firstM (l.drop p)).1.ev.kind), .int .i64 ((firstM (l.drop p)).1.ev.producer), .int .i64 ((firstM (l.drop p)).1.ev.id), .int .i64 ((firstM (l.drop p)).1.ev.body), .int .i64 ((firstM (l.drop p)).1.ev.hepoch), .int .i64 ((firstM (l.drop p)).1.ev.hno)]) (t := 51) S33 (wn rfl) rfl rfl (d_buildSlice (vs := [(0, .agg #[.int .i64 ((firstM (l.drop p)).1.kind), .int .i64 ((firstM (l.drop p)).1.queue), .int .i64 ((firstM (l.drop p)).1.epoch), .int .i64 ((firstM (l.drop p)).1.peer), .int .i64 ((firstM (l.drop p)).1.ev.kind), .int .i64 ((firstM (l.drop p)).1.ev.producer), .int .i64 ((firstM (l.drop p)).1.ev.id), .int .i64 ((firstM (l.drop p)).1.ev.body), .int .i64 ((firstM (l.drop p)).1.ev.hepoch), .int .i64 ((firstM (l.drop p)).1.ev.hno)])]) rfl ⟨rfl, rfl, trivial⟩ (by kernel_rfl)) ?_
        intro b36 w37 S38
        clear S33
        refine wL_append (news := [.int .i64 ((firstM (l.drop p)).1.kind), .int .i64 ((firstM (l.drop p)).1.queue), .int .i64 ((firstM (l.drop p)).1.epoch), .int .i64 ((firstM (l.drop p)).1.peer), .int .i64 ((firstM (l.drop p)).1.ev.kind), .int .i64 ((firstM (l.drop p)).1.ev.producer), .int .i64 ((firstM (l.drop p)).1.ev.id), .int .i64 ((firstM (l.drop p)).1.ev.body), .int .i64 ((firstM (l.drop p)).1.ev.hepoch), .int .i64 ((firstM (l.drop p)).1.ev.hno)]) (xs' := (acc ++ [(firstM (l.drop p)).1]).flatMap Rcd.cells) 2 S38 (wn rfl) rfl rfl rfl rfl rfl rfl (St.bld (xs := [.int .i64 ((firstM (l.drop p)).1.kind), .int .i64 ((firstM (l.drop p)).1.queue), .int .i64 ((firstM (l.drop p)).1.epoch), .int .i64 ((firstM (l.drop p)).1.peer), .int .i64 ((firstM (l.drop p)).1.ev.kind), .int .i64 ((firstM (l.drop p)).1.ev.producer), .int .i64 ((firstM (l.drop p)).1.ev.id), .int .i64 ((firstM (l.drop p)).1.ev.body), .int .i64 ((firstM (l.drop p)).1.ev.hepoch), .int .i64 ((firstM (l.drop p)).1.ev.hno)]) 0 S38 rfl rfl rfl) Try.underlying86 infz51 rfl (by decide) (oneAll rfl) (by simp only [maxLen]; omega) (by omega) (fm_snoc (enc := Rcd.cells) rfl rfl) ?_
        intro A39 c40 w41 hc43 hm44 S42
        clear S38
        change St _ _ _ [.blk b36 #[.int .i64 ((firstM (l.drop p)).1.kind), .int .i64 ((firstM (l.drop p)).1.queue), .int .i64 ((firstM (l.drop p)).1.epoch), .int .i64 ((firstM (l.drop p)).1.peer), .int .i64 ((firstM (l.drop p)).1.ev.kind), .int .i64 ((firstM (l.drop p)).1.ev.producer), .int .i64 ((firstM (l.drop p)).1.ev.id), .int .i64 ((firstM (l.drop p)).1.ev.body), .int .i64 ((firstM (l.drop p)).1.ev.hepoch), .int .i64 ((firstM (l.drop p)).1.ev.hno)] 51, .blk b29 #[.int .i64 ((firstM (l.drop p)).1.kind), .int .i64 ((firstM (l.drop p)).1.queue), .int .i64 ((firstM (l.drop p)).1.epoch), .int .i64 ((firstM (l.drop p)).1.peer), .int .i64 ((firstM (l.drop p)).1.ev.kind), .int .i64 ((firstM (l.drop p)).1.ev.producer), .int .i64 ((firstM (l.drop p)).1.ev.id), .int .i64 ((firstM (l.drop p)).1.ev.body), .int .i64 ((firstM (l.drop p)).1.ev.hepoch), .int .i64 ((firstM (l.drop p)).1.ev.hno)] 51, .own 51 10 (.slice A39 (m + 1) c40) (m + 1) ((acc ++ [(firstM (l.drop p)).1]).flatMap Rcd.cells), .blk b10 #[.slice A4 l.length c5, .int .i64 s] 80, .own 5 1 (.slice A4 l.length c5) l.length (byteCells l), .blk b1 #[.slice A l.length c, .int .i64 s] 80] at S42
        refine wL_val (v := .slice A39 (m + 1) c40) (wn rfl) rfl rfl (y_assign rfl rfl) ?_
        refine wL_nil ?_
        refine wQ_sub (l' := [(0, .agg #[.slice A l.length c, .int .i64 s]), (1, .pointer (some ⟨b1, 0, none⟩)), (2, .slice none 0 0), (3, .int .i64 0), (4, .int .i64 0), (5, .pointer (some ⟨b10, 0, none⟩)), (6, .bool true), (17, .bool false), (7, .slice A39 (m + 1) c40), (8, .int .i64 ((p : Nat) : Int)), (9, .pointer (some ⟨b29, 0, none⟩)), (10, .int .i64 (((firstM (l.drop p)).2 : Nat) : Int)), (27, .bool false)]) ⟨rfl, rfl, rfl, rfl, rfl, rfl, rfl, rfl, rfl, rfl, rfl, rfl, rfl, trivial⟩ ?_
        refine wQ_then ?_
        refine wC_region ?_
        refine wL_val (v := .int .i64 ((p : Nat) : Int)) (wn rfl) rfl rfl (y_move rfl rfl) ?_
        refine wL_val (v := .int .i64 (((firstM (l.drop p)).2 : Nat) : Int)) (wn rfl) rfl rfl (y_move rfl rfl) ?_
        refine wL_val (v := .int .i64 ((p + ((firstM (l.drop p)).2) : Nat) : Int)) (wn rfl) rfl rfl (y_binop rfl rfl rfl (r_add (by omega) (by omega))) ?_
        refine wL_val (v := .int .i64 ((p + ((firstM (l.drop p)).2) : Nat) : Int)) (wn rfl) rfl rfl (y_assign rfl rfl) ?_
        refine wL_nil ?_
        refine wQ_sub (l' := [(0, .agg #[.slice A l.length c, .int .i64 s]), (1, .pointer (some ⟨b1, 0, none⟩)), (2, .slice none 0 0), (3, .int .i64 0), (4, .int .i64 0), (5, .pointer (some ⟨b10, 0, none⟩)), (6, .bool true), (17, .bool false), (7, .slice A39 (m + 1) c40), (8, .int .i64 ((p + ((firstM (l.drop p)).2) : Nat) : Int)), (9, .pointer (some ⟨b29, 0, none⟩)), (10, .int .i64 (((firstM (l.drop p)).2 : Nat) : Int)), (27, .bool false)]) ⟨rfl, rfl, rfl, rfl, rfl, rfl, rfl, rfl, rfl, rfl, rfl, rfl, rfl, trivial⟩ ?_
        refine wQ_blk_n ?_
        have S45 : St w.heap.size w w41 [.own 51 10 (.slice A39 (m + 1) c40) (m + 1) ((acc ++ [(firstM (l.drop p)).1]).flatMap Rcd.cells), .blk b10 #[.slice A4 l.length c5, .int .i64 s] 80, .own 5 1 (.slice A4 l.length c5) l.length (byteCells l), .blk b1 #[.slice A l.length c, .int .i64 s] 80] := (St.del 0 (St.del 1 S42))
        clear S42
        refine wQ_round (acc ++ [(firstM (l.drop p)).1], p + (firstM (l.drop p)).2, m + 1, A39, c40) ?_ ⟨rfl, rfl, rfl, rfl, rfl, rfl, rfl, rfl, rfl, rfl, trivial⟩ (by first | omega | (dsimp only; omega))
        exact ⟨(readsM_next hi19 (by omega)), (by dsimp only; omega), (by dsimp only; omega), (by dsimp only; simp [hi22]), S45⟩
  · have HO := fun w h => open_calls A l.length c l s w h
    rw [ho] at HO
    refine wL_call (vs := [.agg #[.slice A l.length c, .int .i64 s]]) (wn rfl) rfl rfl (e_call (vs := [.agg #[.slice A l.length c, .int .i64 s]]) rfl en136 ⟨rfl, trivial⟩) (HO _ (St.rd 1 S3 rfl)) ?_
    rintro _ w50 ⟨A46, c47, rfl, hb48, hO49⟩
    refine ⟨_, rfl, ?_⟩
    have S51 := S3.onOwn hb48 hO49
    clear HO hb48 hO49 S3
    change St _ _ _ [.own 5 1 (.slice A46 (([] : List UInt8).length) c47) (([] : List UInt8).length) (byteCells ([] : List UInt8)), .blk b1 #[.slice A l.length c, .int .i64 s] 80, .rd 1 A l.length (byteCells l)] at S51
    refine wL_val (v := .tuple #[.agg #[.slice A46 (([] : List UInt8).length) c47, .int .i64 0], .bool false]) (wn rfl) rfl rfl (y_move rfl rfl) ?_
    refine wL_val (v := .agg #[.slice A46 (([] : List UInt8).length) c47, .int .i64 0]) (wn rfl) rfl rfl (y_extract rfl rfl rfl) ?_
    refine wL_val (v := .bool false) (wn rfl) rfl rfl (y_extract rfl rfl rfl) ?_
    refine wL_new (V := fun b => .pointer (some ⟨b, 0, none⟩)) (row := #[.slice none 0 0, .int .i64 0]) (t := 80) S51 (wn rfl) rfl rfl (d_alloc rfl (Try.zeroValue80 _) rfl) ?_
    intro b52 w53 S54
    clear S51
    refine wL_st (cs := #[.slice A46 (([] : List UInt8).length) c47, .int .i64 0]) (row' := #[.slice A46 (([] : List UInt8).length) c47, .int .i64 0]) (fs' := [.blk b52 #[.slice A46 (([] : List UInt8).length) c47, .int .i64 0] 80, .own 5 1 (.slice A46 (([] : List UInt8).length) c47) (([] : List UInt8).length) (byteCells ([] : List UInt8)), .blk b1 #[.slice A l.length c, .int .i64 s] 80, .rd 1 A l.length (byteCells l) ]) 0 S54 (wn rfl) rfl rfl rfl rfl rfl rfl inf80 rfl (oneAll rfl) (Nat.le_of_ble_eq_true rfl) (setAll_all rfl) rfl ?_
    intro w55 S56
    clear S54
    refine wL_val (v := .bool false) (wn rfl) rfl rfl (y_assign rfl rfl) ?_
    refine wL_nil ?_
    refine wQ_sub (l' := [(0, .agg #[.slice A l.length c, .int .i64 s]), (1, .pointer (some ⟨b1, 0, none⟩)), (2, .slice none 0 0), (3, .int .i64 0), (4, .int .i64 0), (5, .pointer (some ⟨b52, 0, none⟩)), (6, .bool false)]) ⟨rfl, rfl, rfl, rfl, rfl, rfl, rfl, trivial⟩ ?_
    refine wQ_then ?_
    refine wC_seq ?_
    refine wC_seq ?_
    refine wC_region ?_
    refine wL_val (v := .bool false) (wn rfl) rfl rfl (y_move rfl rfl) ?_
    refine wL_val (v := .bool true) (wn rfl) rfl rfl (y_unop rfl rfl r_not) ?_
    refine wL_nil ?_
    refine wQ_sub (l' := [(0, .agg #[.slice A l.length c, .int .i64 s]), (1, .pointer (some ⟨b1, 0, none⟩)), (2, .slice none 0 0), (3, .int .i64 0), (4, .int .i64 0), (5, .pointer (some ⟨b52, 0, none⟩)), (6, .bool false), (17, .bool true)]) ⟨rfl, rfl, rfl, rfl, rfl, rfl, rfl, rfl, trivial⟩ ?_
    refine wQ_then ?_
    refine wC_cond_t rfl ?_
    refine wC_seq ?_
    refine wC_region ?_
    refine wL_val (v := .slice none 0 0) (wn rfl) rfl rfl (y_assign rfl rfl) ?_
    refine wL_val (v := .int .i64 0) (wn rfl) rfl rfl (y_assign rfl rfl) ?_
    refine wL_val (v := .int .i64 6) (wn rfl) rfl rfl (y_assign rfl rfl) ?_
    refine wL_nil ?_
    refine wQ_then ?_
    refine wC_ret ?_
    refine wQ_then_ret ?_
    refine wQ_post (rs := [.tmp 2, .tmp 3, .tmp 4]) (vs := [.slice none 0 0, .int .i64 0, .int .i64 6]) rfl ⟨rfl, rfl, rfl, trivial⟩ ?_
    have S57 : St w.heap.size w w55 [] := (St.del 0 (St.del 1 (St.del 2 (St.del 3 S56))))
    clear S56
    rw [show readM l s = ([], 0, 6) from if_neg (by rw [hm]; simp)]
    exact ⟨none, 0, rfl, S57.nil 51 10⟩
end Go.Proofs.Ytkjlafpafmihaaa
