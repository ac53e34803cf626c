/- 'berthshiftlaw.TapeReads' returns true at every tape. (The steps are printed by a program of mine: wip/px.) -/
import Derived.Test.YtkjlafpafmihaaaTSame
import Derived.Test.YtkjlafpafmihaaaTape
import Derived.Test.YtkjlafpafmihaaaArgs
namespace Go.Proofs.Ytkjlafpafmihaaa
open Go.ChangeShapes Go.WideShapes Go.RowKit

set_option maxRecDepth 100000 in
theorem arg_tape2 {W : World} {v : Value} (h : ArgOk Try.prog W v 80) : ∃ A n c l s, v = .agg #[.slice A n c, .int .i64 s] ∧ Rd W W.heap.size 1 A n (byteCells l) ∧ n ≤ c ∧ c ≤ maxLen ∧ n ≤ reachBytes := by
  obtain ⟨⟨base, hk⟩, l, hl, ha⟩ := h
  rw [flat_tape] at hl
  cases hl
  obtain ⟨cs, rfl, _⟩ := okWide_struct Try.underlying80 hk
  obtain ⟨a1, l1, e, h1, h3⟩ := All2.cons_ ha
  obtain ⟨a2, l2, rfl, ⟨m2, rfl, _⟩, h4⟩ := All2.cons_ h3
  have h5 := All2.nil_ h4
  subst h5
  obtain ⟨A, n, c, l, rfl, hr, hn, hc, hb, _⟩ := open_bytes h1
  refine ⟨A, n, c, l, m2, ?_, hr, hn, hc, by omega⟩
  simp only [Value.cells] at e
  congr 1
  exact Array.toList_inj.1 e
theorem sameTape_t {A A' : Option Addr} {n n' c c' : Nat} {l : List UInt8} {s : Int} {w : World} (h : Rd w w.heap.size 1 A n (byteCells l)) (h' : Rd w w.heap.size 1 A' n' (byteCells l)) : Calls Try.prog 60 #[.agg #[.slice A n c, .int .i64 s], .agg #[.slice A' n' c', .int .i64 s]] w (BoolPost w true) := by
  have := sameTape_calls A A' n c n' c' l l s s w h h'
  rw [show (s == s && l == l) = true by simp] at this
  exact this
theorem readM_len (l : List UInt8) (s : Int) : (readM l s).1.length ≤ 100000 := by
  unfold readM
  cases hm : tapeMay l s
  · simp
  · rw [if_pos rfl]
    have h := (tapeMay_of hm).1
    have h2 := (readsM_le (l.length + 1) l).2
    rw [← show readsM l = readsN (l.length + 1) l from rfl] at h2
    exact Nat.le_trans h2 h

set_option maxRecDepth 100000 in
set_option maxHeartbeats 2000000 in
theorem tapeReads_calls (A : Option Addr) (c : Nat) (l : List UInt8) (s : Int) (w : World) (h : Rd w w.heap.size 1 A l.length (byteCells l)) (hlc : l.length ≤ c) (hcm : c ≤ 9223372036854775807) (hc : l.length ≤ reachBytes) :
    Calls Try.prog 13 #[.agg #[.slice A l.length c, .int .i64 s]] w fun e w' => e = .returned (.bool true) ∧ Below w.heap.size w w' := by
  have S := (St.start w).addRd h
  clear h
  have hrl := readM_len l s
  refine calls_of_wC (N := 42) (vs := [.agg #[.slice A l.length c, .int .i64 s]]) Try.func13 rfl rfl rfl ?_
  refine wC_sub (l' := [(0, .agg #[.slice A l.length c, .int .i64 s])]) ⟨rfl, trivial⟩ ?_
  refine wC_seq ?_
  refine wC_region ?_
  refine wL_new (V := fun b => .pointer (some ⟨b, 0, none⟩)) (row := #[.slice A l.length c, .int .i64 s]) (t := 80) S (wn rfl) rfl rfl (d_box rfl rfl rfl) ?_
  intro b1 w2 S3
  clear S
  refine wL_val (v := .bool false) (wn rfl) rfl rfl (y_assign rfl rfl) ?_
  refine wL_nil ?_
  refine wQ_then ?_
  refine wC_seq ?_
  refine wC_region ?_
  refine wL_val (v := .agg #[.slice A l.length c, .int .i64 s]) (wn rfl) rfl rfl (y_load rfl rfl (r_load_row 0 S3 rfl Try.underlying80 rfl inf80 rfl)) ?_
  refine wL_call (vs := [.agg #[.slice A l.length c, .int .i64 s]]) (wn rfl) rfl rfl (e_call (vs := [.agg #[.slice A l.length c, .int .i64 s]]) rfl en57 ⟨rfl, trivial⟩) (tapes_calls A l.length c l s _ (St.rd 1 S3 rfl) hc) ?_
  rintro _ w8 ⟨A4, c5, rfl, hb6, ho7⟩
  refine ⟨_, rfl, ?_⟩
  have S9 := S3.onOwn hb6 ho7
  clear hb6 ho7 S3
  change St _ _ _ [.own 5 1 (.slice A4 l.length c5) l.length (byteCells l), .blk b1 #[.slice A l.length c, .int .i64 s] 80, .rd 1 A l.length (byteCells l)] at S9
  refine wL_new (V := fun b => .pointer (some ⟨b, 0, none⟩)) (row := #[.slice none 0 0, .int .i64 0]) (t := 80) S9 (wn rfl) rfl rfl (d_alloc rfl (Try.zeroValue80 _) rfl) ?_
  intro b10 w11 S12
  clear S9
  refine wL_st (cs := #[.slice A4 l.length c5, .int .i64 s]) (row' := #[.slice A4 l.length c5, .int .i64 s]) (fs' := [.blk b10 #[.slice A4 l.length c5, .int .i64 s] 80, .own 5 1 (.slice A4 l.length c5) l.length (byteCells l), .blk b1 #[.slice A l.length c, .int .i64 s] 80, .rd 1 A l.length (byteCells l) ]) 0 S12 (wn rfl) rfl rfl rfl rfl rfl rfl inf80 rfl (oneAll rfl) (Nat.le_of_ble_eq_true rfl) (setAll_all rfl) rfl ?_
  intro w13 S14
  clear S12
  refine wL_nil ?_
  refine wQ_sub (l' := [(0, .agg #[.slice A l.length c, .int .i64 s]), (1, .pointer (some ⟨b1, 0, none⟩)), (2, .bool false), (3, .pointer (some ⟨b10, 0, none⟩))]) ⟨rfl, rfl, rfl, rfl, trivial⟩ ?_
  refine wQ_then ?_
  refine wC_seq ?_
  refine wC_region ?_
  refine wL_val (v := .agg #[.slice A4 l.length c5, .int .i64 s]) (wn rfl) rfl rfl (y_load rfl rfl (r_load_row 0 S14 rfl Try.underlying80 rfl inf80 rfl)) ?_
  refine wL_call (vs := [.agg #[.slice A4 l.length c5, .int .i64 s]]) (wn rfl) rfl rfl (e_call (vs := [.agg #[.slice A4 l.length c5, .int .i64 s]]) rfl en61 ⟨rfl, trivial⟩) (Read_calls A4 c5 l s _ (St.ord 1 S14 rfl)) ?_
  rintro _ w17 ⟨A15, c16, rfl, T19⟩
  refine ⟨_, rfl, ?_⟩
  have S18 := S14.ext T19 rfl
  clear T19 S14
  change St _ _ _ [.own 51 10 (.slice A15 ((readM l s).1.length) c16) ((readM l s).1.length) (((readM l s).1).flatMap Rcd.cells), .blk b10 #[.slice A4 l.length c5, .int .i64 s] 80, .own 5 1 (.slice A4 l.length c5) l.length (byteCells l), .blk b1 #[.slice A l.length c, .int .i64 s] 80, .rd 1 A l.length (byteCells l)] at S18
  refine wL_val (v := .tuple #[.slice A15 ((readM l s).1.length) c16, .int .i64 (((readM l s).2.1 : Nat) : Int), .int .i64 ((readM l s).2.2)]) (wn rfl) rfl rfl (y_move rfl rfl) ?_
  refine wL_val (v := .slice A15 ((readM l s).1.length) c16) (wn rfl) rfl rfl (y_extract rfl rfl rfl) ?_
  refine wL_val (v := .int .i64 (((readM l s).2.1 : Nat) : Int)) (wn rfl) rfl rfl (y_extract rfl rfl rfl) ?_
  refine wL_val (v := .int .i64 ((readM l s).2.2)) (wn rfl) rfl rfl (y_extract rfl rfl rfl) ?_
  refine wL_val (v := .slice A15 ((readM l s).1.length) c16) (wn rfl) rfl rfl (y_assign rfl rfl) ?_
  refine wL_val (v := .int .i64 (((readM l s).2.1 : Nat) : Int)) (wn rfl) rfl rfl (y_assign rfl rfl) ?_
  refine wL_val (v := .int .i64 ((readM l s).2.2)) (wn rfl) rfl rfl (y_assign rfl rfl) ?_
  refine wL_nil ?_
  refine wQ_sub (l' := [(0, .agg #[.slice A l.length c, .int .i64 s]), (1, .pointer (some ⟨b1, 0, none⟩)), (2, .bool false), (3, .pointer (some ⟨b10, 0, none⟩)), (4, .slice A15 ((readM l s).1.length) c16), (5, .int .i64 (((readM l s).2.1 : Nat) : Int)), (6, .int .i64 ((readM l s).2.2))]) ⟨rfl, rfl, rfl, rfl, rfl, rfl, rfl, trivial⟩ ?_
  refine wQ_then ?_
  refine wC_seq ?_
  refine wC_region ?_
  refine wL_val (v := .agg #[.slice A l.length c, .int .i64 s]) (wn rfl) rfl rfl (y_load rfl rfl (r_load_row 3 S18 rfl Try.underlying80 rfl inf80 rfl)) ?_
  refine wL_call (vs := [.agg #[.slice A l.length c, .int .i64 s]]) (wn rfl) rfl rfl (e_call (vs := [.agg #[.slice A l.length c, .int .i64 s]]) rfl en62 ⟨rfl, trivial⟩) (RecordsOf_calls A c l s _ (St.rd 4 S18 rfl) hlc hcm) ?_
  rintro _ w22 ⟨A20, c21, rfl, T24⟩
  refine ⟨_, rfl, ?_⟩
  have S23 := S18.ext T24 rfl
  clear T24 S18
  change St _ _ _ [.own 51 10 (.slice A20 ((readM l s).1.length) c21) ((readM l s).1.length) (((readM l s).1).flatMap Rcd.cells), .own 51 10 (.slice A15 ((readM l s).1.length) c16) ((readM l s).1.length) (((readM l s).1).flatMap Rcd.cells), .blk b10 #[.slice A4 l.length c5, .int .i64 s] 80, .own 5 1 (.slice A4 l.length c5) l.length (byteCells l), .blk b1 #[.slice A l.length c, .int .i64 s] 80, .rd 1 A l.length (byteCells l)] at S23
  refine wL_val (v := .tuple #[.slice A20 ((readM l s).1.length) c21, .int .i64 (((readM l s).2.1 : Nat) : Int), .int .i64 ((readM l s).2.2)]) (wn rfl) rfl rfl (y_move rfl rfl) ?_
  refine wL_val (v := .slice A20 ((readM l s).1.length) c21) (wn rfl) rfl rfl (y_extract rfl rfl rfl) ?_
  refine wL_val (v := .int .i64 (((readM l s).2.1 : Nat) : Int)) (wn rfl) rfl rfl (y_extract rfl rfl rfl) ?_
  refine wL_val (v := .int .i64 ((readM l s).2.2)) (wn rfl) rfl rfl (y_extract rfl rfl rfl) ?_
  refine wL_val (v := .slice A20 ((readM l s).1.length) c21) (wn rfl) rfl rfl (y_assign rfl rfl) ?_
  refine wL_val (v := .int .i64 (((readM l s).2.1 : Nat) : Int)) (wn rfl) rfl rfl (y_assign rfl rfl) ?_
  refine wL_val (v := .int .i64 ((readM l s).2.2)) (wn rfl) rfl rfl (y_assign rfl rfl) ?_
  refine wL_nil ?_
  refine wQ_sub (l' := [(0, .agg #[.slice A l.length c, .int .i64 s]), (1, .pointer (some ⟨b1, 0, none⟩)), (2, .bool false), (3, .pointer (some ⟨b10, 0, none⟩)), (4, .slice A15 ((readM l s).1.length) c16), (5, .int .i64 (((readM l s).2.1 : Nat) : Int)), (6, .int .i64 ((readM l s).2.2)), (7, .slice A20 ((readM l s).1.length) c21), (8, .int .i64 (((readM l s).2.1 : Nat) : Int)), (9, .int .i64 ((readM l s).2.2))]) ⟨rfl, rfl, rfl, rfl, rfl, rfl, rfl, rfl, rfl, rfl, trivial⟩ ?_
  refine wQ_then ?_
  refine wC_seq ?_
  refine wC_region ?_
  refine wL_val (v := .int .i64 (((readM l s).2.1 : Nat) : Int)) (wn rfl) rfl rfl (y_move rfl rfl) ?_
  refine wL_val (v := .int .i64 (((readM l s).2.1 : Nat) : Int)) (wn rfl) rfl rfl (y_move rfl rfl) ?_
  refine wL_val (v := .bool true) (wn rfl) rfl rfl (y_binop rfl rfl rfl (r_eql_t rfl)) ?_
  refine wL_val (v := .bool true) (wn rfl) rfl rfl (y_move rfl rfl) ?_
  refine wL_val (v := .int .i64 ((readM l s).2.2)) (wg rfl rfl rfl rfl) rfl rfl (y_move rfl rfl) ?_
  refine wL_val (v := .int .i64 ((readM l s).2.2)) (wg rfl rfl rfl rfl) rfl rfl (y_move rfl rfl) ?_
  refine wL_val (v := .bool true) (wg rfl rfl rfl rfl) rfl rfl (y_binop rfl rfl rfl (r_eql_t rfl)) ?_
  refine wL_val (v := .bool true) (wn rfl) rfl rfl (y_pick_t rfl rfl rfl) ?_
  refine wL_val (v := .bool true) (wn rfl) rfl rfl (y_move rfl rfl) ?_
  refine wL_val (v := .slice A15 ((readM l s).1.length) c16) (wg rfl rfl rfl rfl) rfl rfl (y_move rfl rfl) ?_
  refine wL_val (v := .slice A20 ((readM l s).1.length) c21) (wg rfl rfl rfl rfl) rfl rfl (y_move rfl rfl) ?_
  refine wL_call (vs := [.slice A15 ((readM l s).1.length) c16, .slice A20 ((readM l s).1.length) c21]) (wg rfl rfl rfl rfl) rfl rfl (e_call (vs := [.slice A15 ((readM l s).1.length) c16, .slice A20 ((readM l s).1.length) c21]) rfl en63 ⟨rfl, rfl, trivial⟩) (sameRecords_calls A15 A20 c16 c21 (readM l s).1 _ (St.ord 1 S23 rfl) (St.ord 0 S23 rfl) hrl) ?_
  rintro _ w25 ⟨rfl, hb27⟩
  refine ⟨_, rfl, ?_⟩
  have S26 := S23.on hb27
  clear hb27 S23
  refine wL_val (v := .bool true) (wn rfl) rfl rfl (y_pick_t rfl rfl rfl) ?_
  refine wL_val (v := .bool true) (wn rfl) rfl rfl (y_move rfl rfl) ?_
  refine wL_val (v := .agg #[.slice A4 l.length c5, .int .i64 s]) (wg rfl rfl rfl rfl) rfl rfl (y_load rfl rfl (r_load_row 2 S26 rfl Try.underlying80 rfl inf80 rfl)) ?_
  refine wL_val (v := .agg #[.slice A l.length c, .int .i64 s]) (wg rfl rfl rfl rfl) rfl rfl (y_load rfl rfl (r_load_row 4 S26 rfl Try.underlying80 rfl inf80 rfl)) ?_
  refine wL_call (vs := [.agg #[.slice A4 l.length c5, .int .i64 s], .agg #[.slice A l.length c, .int .i64 s]]) (wg rfl rfl rfl rfl) rfl rfl (e_call (vs := [.agg #[.slice A4 l.length c5, .int .i64 s], .agg #[.slice A l.length c, .int .i64 s]]) rfl en60 ⟨rfl, rfl, trivial⟩) (sameTape_t (St.ord 3 S26 rfl) (St.rd 5 S26 rfl)) ?_
  rintro _ w28 ⟨rfl, hb30⟩
  refine ⟨_, rfl, ?_⟩
  have S29 := S26.on hb30
  clear hb30 S26
  refine wL_val (v := .bool true) (wn rfl) rfl rfl (y_pick_t rfl rfl rfl) ?_
  refine wL_val (v := .bool true) (wn rfl) rfl rfl (y_assign rfl rfl) ?_
  refine wL_nil ?_
  refine wQ_sub (l' := [(0, .agg #[.slice A l.length c, .int .i64 s]), (1, .pointer (some ⟨b1, 0, none⟩)), (2, .bool true), (3, .pointer (some ⟨b10, 0, none⟩)), (4, .slice A15 ((readM l s).1.length) c16), (5, .int .i64 (((readM l s).2.1 : Nat) : Int)), (6, .int .i64 ((readM l s).2.2)), (7, .slice A20 ((readM l s).1.length) c21), (8, .int .i64 (((readM l s).2.1 : Nat) : Int)), (9, .int .i64 ((readM l s).2.2))]) ⟨rfl, rfl, rfl, rfl, rfl, rfl, rfl, rfl, rfl, rfl, trivial⟩ ?_
  refine wQ_then ?_
  refine wC_ret ?_
  refine wQ_post (rs := [.tmp 2]) (vs := [.bool true]) rfl ⟨rfl, trivial⟩ ?_
  exact ⟨rfl, S29.low⟩

set_option maxRecDepth 100000 in
theorem tapeReads_walk (W : World) (args : Array Value) (h : All2 (ArgOk Try.prog W) args.toList Try.f13.params.toList) :
    Calls Try.prog 13 args W fun e W' => e = .returned (.bool true) ∧ Below W.heap.size W W' := by
  rw [Try.params13] at h
  obtain ⟨v, l1, hv, h1, h0⟩ := All2.cons_ h
  have h4 := All2.nil_ h0
  subst h4
  obtain rfl : args = #[v] := by cases args; simp_all
  obtain ⟨A, n, c, l, s, rfl, hr, hn, hc, hb⟩ := arg_tape2 h1
  obtain rfl := hr.bytes_len
  exact tapeReads_calls A c l s W hr hn hc hb
end Go.Proofs.Ytkjlafpafmihaaa
