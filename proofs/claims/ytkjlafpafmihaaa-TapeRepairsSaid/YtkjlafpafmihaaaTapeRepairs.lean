/- 'berthshiftlaw.TapeRepairs' returns true at every tape. (The steps are printed by a program of mine: wip/px.) -/
import Derived.Test.YtkjlafpafmihaaaTSame
import Derived.Test.YtkjlafpafmihaaaTape
import Derived.Test.YtkjlafpafmihaaaArgs
namespace Go.Proofs.Ytkjlafpafmihaaa
open Go.ChangeShapes Go.WideShapes Go.RowKit

set_option maxRecDepth 100000 in
theorem arg_tape2 {W : World} {v : Value} (h : ArgOk Try.prog W v 80) : ∃ A n c l s, v = .agg #[.slice A n c, .int .i64 s] ∧ Rd W W.heap.size 1 A n (byteCells l) ∧ n ≤ c ∧ c ≤ maxLen ∧ n ≤ reachBytes := by
  obtain ⟨⟨base, hk⟩, l, hl, ha⟩ := h
  rw [flat_tape] at hl
  cases hl
  obtain ⟨cs, rfl, _⟩ := okWide_struct Try.underlying80 hk
  obtain ⟨a1, l1, e, h1, h3⟩ := All2.cons_ ha
  obtain ⟨a2, l2, rfl, ⟨m2, rfl, _⟩, h4⟩ := All2.cons_ h3
  have h5 := All2.nil_ h4
  subst h5
  obtain ⟨A, n, c, l, rfl, hr, hn, hc, hb, _⟩ := open_bytes h1
  refine ⟨A, n, c, l, m2, ?_, hr, hn, hc, by omega⟩
  simp only [Value.cells] at e
  congr 1
  exact Array.toList_inj.1 e
theorem sameTape_t {A A' : Option Addr} {n n' c c' : Nat} {l : List UInt8} {s : Int} {w : World} (h : Rd w w.heap.size 1 A n (byteCells l)) (h' : Rd w w.heap.size 1 A' n' (byteCells l)) : Calls Try.prog 60 #[.agg #[.slice A n c, .int .i64 s], .agg #[.slice A' n' c', .int .i64 s]] w (BoolPost w true) := by
  have := sameTape_calls A A' n c n' c' l l s s w h h'
  rw [show (s == s && l == l) = true by simp] at this
  exact this
theorem readM_len (l : List UInt8) (s : Int) : (readM l s).1.length ≤ 100000 := by
  unfold readM
  cases hm : tapeMay l s
  · simp
  · rw [if_pos rfl]
    have h := (tapeMay_of hm).1
    have h2 := (readsM_le (l.length + 1) l).2
    rw [← show readsM l = readsN (l.length + 1) l from rfl] at h2
    exact Nat.le_trans h2 h

set_option maxRecDepth 100000 in
set_option maxHeartbeats 2000000 in
theorem tapeRepairs_calls (A : Option Addr) (c : Nat) (l : List UInt8) (s : Int) (w : World) (h : Rd w w.heap.size 1 A l.length (byteCells l)) (hlc : l.length ≤ c) (hcm : c ≤ 9223372036854775807) (hc : l.length ≤ reachBytes) :
    Calls Try.prog 14 #[.agg #[.slice A l.length c, .int .i64 s]] w fun e w' => e = .returned (.bool true) ∧ Below w.heap.size w w' := by
  have S := (St.start w).addRd h
  clear h
  have hrl := readM_len l s
  refine calls_of_wC (N := 33) (vs := [.agg #[.slice A l.length c, .int .i64 s]]) Try.func14 rfl rfl rfl ?_
  refine wC_sub (l' := [(0, .agg #[.slice A l.length c, .int .i64 s])]) ⟨rfl, trivial⟩ ?_
  refine wC_seq ?_
  refine wC_region ?_
  refine wL_new (V := fun b => .pointer (some ⟨b, 0, none⟩)) (row := #[.slice A l.length c, .int .i64 s]) (t := 80) S (wn rfl) rfl rfl (d_box rfl rfl rfl) ?_
  intro b1 w2 S3
  clear S
  refine wL_val (v := .bool false) (wn rfl) rfl rfl (y_assign rfl rfl) ?_
  refine wL_nil ?_
  refine wQ_then ?_
  refine wC_seq ?_
  refine wC_region ?_
  refine wL_val (v := .agg #[.slice A l.length c, .int .i64 s]) (wn rfl) rfl rfl (y_load rfl rfl (r_load_row 0 S3 rfl Try.underlying80 rfl inf80 rfl)) ?_
  refine wL_call (vs := [.agg #[.slice A l.length c, .int .i64 s]]) (wn rfl) rfl rfl (e_call (vs := [.agg #[.slice A l.length c, .int .i64 s]]) rfl en57 ⟨rfl, trivial⟩) (tapes_calls A l.length c l s _ (St.rd 1 S3 rfl) hc) ?_
  rintro _ w8 ⟨A4, c5, rfl, hb6, ho7⟩
  refine ⟨_, rfl, ?_⟩
  have S9 := S3.onOwn hb6 ho7
  clear hb6 ho7 S3
  change St _ _ _ [.own 5 1 (.slice A4 l.length c5) l.length (byteCells l), .blk b1 #[.slice A l.length c, .int .i64 s] 80, .rd 1 A l.length (byteCells l)] at S9
  refine wL_new (V := fun b => .pointer (some ⟨b, 0, none⟩)) (row := #[.slice none 0 0, .int .i64 0]) (t := 80) S9 (wn rfl) rfl rfl (d_alloc rfl (Try.zeroValue80 _) rfl) ?_
  intro b10 w11 S12
  clear S9
  refine wL_st (cs := #[.slice A4 l.length c5, .int .i64 s]) (row' := #[.slice A4 l.length c5, .int .i64 s]) (fs' := [.blk b10 #[.slice A4 l.length c5, .int .i64 s] 80, .own 5 1 (.slice A4 l.length c5) l.length (byteCells l), .blk b1 #[.slice A l.length c, .int .i64 s] 80, .rd 1 A l.length (byteCells l) ]) 0 S12 (wn rfl) rfl rfl rfl rfl rfl rfl inf80 rfl (oneAll rfl) (Nat.le_of_ble_eq_true rfl) (setAll_all rfl) rfl ?_
  intro w13 S14
  clear S12
  refine wL_nil ?_
  refine wQ_sub (l' := [(0, .agg #[.slice A l.length c, .int .i64 s]), (1, .pointer (some ⟨b1, 0, none⟩)), (2, .bool false), (3, .pointer (some ⟨b10, 0, none⟩))]) ⟨rfl, rfl, rfl, rfl, trivial⟩ ?_
  refine wQ_then ?_
  refine wC_seq ?_
  refine wC_region ?_
  refine wL_val (v := .agg #[.slice A4 l.length c5, .int .i64 s]) (wn rfl) rfl rfl (y_load rfl rfl (r_load_row 0 S14 rfl Try.underlying80 rfl inf80 rfl)) ?_
  refine wL_call (vs := [.agg #[.slice A4 l.length c5, .int .i64 s]]) (wn rfl) rfl rfl (e_call (vs := [.agg #[.slice A4 l.length c5, .int .i64 s]]) rfl en64 ⟨rfl, trivial⟩) (Repair_calls A4 c5 l s _ (St.ord 1 S14 rfl)) ?_
  rintro _ w17 ⟨A15, c16, rfl, T19⟩
  refine ⟨_, rfl, ?_⟩
  have S18 := S14.ext T19 rfl
  clear T19 S14
  change St _ _ _ [.rdo 1 A15 ((repM l s).1.length) (byteCells ((repM l s).1)), .blk b10 #[.slice A4 l.length c5, .int .i64 s] 80, .own 5 1 (.slice A4 l.length c5) l.length (byteCells l), .blk b1 #[.slice A l.length c, .int .i64 s] 80, .rd 1 A l.length (byteCells l)] at S18
  refine wL_val (v := .tuple #[.agg #[.slice A15 ((repM l s).1.length) c16, .int .i64 ((repM l s).2.1)], .int .i64 ((repM l s).2.2)]) (wn rfl) rfl rfl (y_move rfl rfl) ?_
  refine wL_val (v := .agg #[.slice A15 ((repM l s).1.length) c16, .int .i64 ((repM l s).2.1)]) (wn rfl) rfl rfl (y_extract rfl rfl rfl) ?_
  refine wL_val (v := .int .i64 ((repM l s).2.2)) (wn rfl) rfl rfl (y_extract rfl rfl rfl) ?_
  refine wL_new (V := fun b => .pointer (some ⟨b, 0, none⟩)) (row := #[.slice none 0 0, .int .i64 0]) (t := 80) S18 (wn rfl) rfl rfl (d_alloc rfl (Try.zeroValue80 _) rfl) ?_
  intro b20 w21 S22
  clear S18
  refine wL_st (cs := #[.slice A15 ((repM l s).1.length) c16, .int .i64 ((repM l s).2.1)]) (row' := #[.slice A15 ((repM l s).1.length) c16, .int .i64 ((repM l s).2.1)]) (fs' := [.blk b20 #[.slice A15 ((repM l s).1.length) c16, .int .i64 ((repM l s).2.1)] 80, .rdo 1 A15 ((repM l s).1.length) (byteCells ((repM l s).1)), .blk b10 #[.slice A4 l.length c5, .int .i64 s] 80, .own 5 1 (.slice A4 l.length c5) l.length (byteCells l), .blk b1 #[.slice A l.length c, .int .i64 s] 80, .rd 1 A l.length (byteCells l) ]) 0 S22 (wn rfl) rfl rfl rfl rfl rfl rfl inf80 rfl (oneAll rfl) (Nat.le_of_ble_eq_true rfl) (setAll_all rfl) rfl ?_
  intro w23 S24
  clear S22
  refine wL_val (v := .int .i64 ((repM l s).2.2)) (wn rfl) rfl rfl (y_assign rfl rfl) ?_
  refine wL_nil ?_
  refine wQ_sub (l' := [(0, .agg #[.slice A l.length c, .int .i64 s]), (1, .pointer (some ⟨b1, 0, none⟩)), (2, .bool false), (3, .pointer (some ⟨b10, 0, none⟩)), (4, .pointer (some ⟨b20, 0, none⟩)), (5, .int .i64 ((repM l s).2.2))]) ⟨rfl, rfl, rfl, rfl, rfl, rfl, trivial⟩ ?_
  refine wQ_then ?_
  refine wC_seq ?_
  refine wC_region ?_
  refine wL_val (v := .agg #[.slice A l.length c, .int .i64 s]) (wn rfl) rfl rfl (y_load rfl rfl (r_load_row 4 S24 rfl Try.underlying80 rfl inf80 rfl)) ?_
  refine wL_call (vs := [.agg #[.slice A l.length c, .int .i64 s]]) (wn rfl) rfl rfl (e_call (vs := [.agg #[.slice A l.length c, .int .i64 s]]) rfl en65 ⟨rfl, trivial⟩) (Repaired_calls A c l s _ (St.rd 5 S24 rfl) hlc hcm) ?_
  rintro _ w27 ⟨A25, c26, rfl, T29⟩
  refine ⟨_, rfl, ?_⟩
  have S28 := S24.ext T29 rfl
  clear T29 S24
  change St _ _ _ [.rdo 1 A25 ((repM l s).1.length) (byteCells ((repM l s).1)), .blk b20 #[.slice A15 ((repM l s).1.length) c16, .int .i64 ((repM l s).2.1)] 80, .rdo 1 A15 ((repM l s).1.length) (byteCells ((repM l s).1)), .blk b10 #[.slice A4 l.length c5, .int .i64 s] 80, .own 5 1 (.slice A4 l.length c5) l.length (byteCells l), .blk b1 #[.slice A l.length c, .int .i64 s] 80, .rd 1 A l.length (byteCells l)] at S28
  refine wL_val (v := .tuple #[.agg #[.slice A25 ((repM l s).1.length) c26, .int .i64 ((repM l s).2.1)], .int .i64 ((repM l s).2.2)]) (wn rfl) rfl rfl (y_move rfl rfl) ?_
  refine wL_val (v := .agg #[.slice A25 ((repM l s).1.length) c26, .int .i64 ((repM l s).2.1)]) (wn rfl) rfl rfl (y_extract rfl rfl rfl) ?_
  refine wL_val (v := .int .i64 ((repM l s).2.2)) (wn rfl) rfl rfl (y_extract rfl rfl rfl) ?_
  refine wL_new (V := fun b => .pointer (some ⟨b, 0, none⟩)) (row := #[.slice none 0 0, .int .i64 0]) (t := 80) S28 (wn rfl) rfl rfl (d_alloc rfl (Try.zeroValue80 _) rfl) ?_
  intro b30 w31 S32
  clear S28
  refine wL_st (cs := #[.slice A25 ((repM l s).1.length) c26, .int .i64 ((repM l s).2.1)]) (row' := #[.slice A25 ((repM l s).1.length) c26, .int .i64 ((repM l s).2.1)]) (fs' := [.blk b30 #[.slice A25 ((repM l s).1.length) c26, .int .i64 ((repM l s).2.1)] 80, .rdo 1 A25 ((repM l s).1.length) (byteCells ((repM l s).1)), .blk b20 #[.slice A15 ((repM l s).1.length) c16, .int .i64 ((repM l s).2.1)] 80, .rdo 1 A15 ((repM l s).1.length) (byteCells ((repM l s).1)), .blk b10 #[.slice A4 l.length c5, .int .i64 s] 80, .own 5 1 (.slice A4 l.length c5) l.length (byteCells l), .blk b1 #[.slice A l.length c, .int .i64 s] 80, .rd 1 A l.length (byteCells l) ]) 0 S32 (wn rfl) rfl rfl rfl rfl rfl rfl inf80 rfl (oneAll rfl) (Nat.le_of_ble_eq_true rfl) (setAll_all rfl) rfl ?_
  intro w33 S34
  clear S32
  refine wL_val (v := .int .i64 ((repM l s).2.2)) (wn rfl) rfl rfl (y_assign rfl rfl) ?_
  refine wL_nil ?_
  refine wQ_sub (l' := [(0, .agg #[.slice A l.length c, .int .i64 s]), (1, .pointer (some ⟨b1, 0, none⟩)), (2, .bool false), (3, .pointer (some ⟨b10, 0, none⟩)), (4, .pointer (some ⟨b20, 0, none⟩)), (5, .int .i64 ((repM l s).2.2)), (6, .pointer (some ⟨b30, 0, none⟩)), (7, .int .i64 ((repM l s).2.2))]) ⟨rfl, rfl, rfl, rfl, rfl, rfl, rfl, rfl, trivial⟩ ?_
  refine wQ_then ?_
  refine wC_seq ?_
  refine wC_region ?_
  refine wL_val (v := .int .i64 ((repM l s).2.2)) (wn rfl) rfl rfl (y_move rfl rfl) ?_
  refine wL_val (v := .int .i64 ((repM l s).2.2)) (wn rfl) rfl rfl (y_move rfl rfl) ?_
  refine wL_val (v := .bool true) (wn rfl) rfl rfl (y_binop rfl rfl rfl (r_eql_t rfl)) ?_
  refine wL_val (v := .bool true) (wn rfl) rfl rfl (y_move rfl rfl) ?_
  refine wL_val (v := .agg #[.slice A15 ((repM l s).1.length) c16, .int .i64 ((repM l s).2.1)]) (wg rfl rfl rfl rfl) rfl rfl (y_load rfl rfl (r_load_row 2 S34 rfl Try.underlying80 rfl inf80 rfl)) ?_
  refine wL_val (v := .agg #[.slice A25 ((repM l s).1.length) c26, .int .i64 ((repM l s).2.1)]) (wg rfl rfl rfl rfl) rfl rfl (y_load rfl rfl (r_load_row 0 S34 rfl Try.underlying80 rfl inf80 rfl)) ?_
  refine wL_call (vs := [.agg #[.slice A15 ((repM l s).1.length) c16, .int .i64 ((repM l s).2.1)], .agg #[.slice A25 ((repM l s).1.length) c26, .int .i64 ((repM l s).2.1)]]) (wg rfl rfl rfl rfl) rfl rfl (e_call (vs := [.agg #[.slice A15 ((repM l s).1.length) c16, .int .i64 ((repM l s).2.1)], .agg #[.slice A25 ((repM l s).1.length) c26, .int .i64 ((repM l s).2.1)]]) rfl en60 ⟨rfl, rfl, trivial⟩) (sameTape_t (St.rdo 3 S34 rfl) (St.rdo 1 S34 rfl)) ?_
  rintro _ w35 ⟨rfl, hb37⟩
  refine ⟨_, rfl, ?_⟩
  have S36 := S34.on hb37
  clear hb37 S34
  refine wL_val (v := .bool true) (wn rfl) rfl rfl (y_pick_t rfl rfl rfl) ?_
  refine wL_val (v := .bool true) (wn rfl) rfl rfl (y_move rfl rfl) ?_
  refine wL_val (v := .agg #[.slice A4 l.length c5, .int .i64 s]) (wg rfl rfl rfl rfl) rfl rfl (y_load rfl rfl (r_load_row 4 S36 rfl Try.underlying80 rfl inf80 rfl)) ?_
  refine wL_val (v := .agg #[.slice A l.length c, .int .i64 s]) (wg rfl rfl rfl rfl) rfl rfl (y_load rfl rfl (r_load_row 6 S36 rfl Try.underlying80 rfl inf80 rfl)) ?_
  refine wL_call (vs := [.agg #[.slice A4 l.length c5, .int .i64 s], .agg #[.slice A l.length c, .int .i64 s]]) (wg rfl rfl rfl rfl) rfl rfl (e_call (vs := [.agg #[.slice A4 l.length c5, .int .i64 s], .agg #[.slice A l.length c, .int .i64 s]]) rfl en60 ⟨rfl, rfl, trivial⟩) (sameTape_t (St.ord 5 S36 rfl) (St.rd 7 S36 rfl)) ?_
  rintro _ w38 ⟨rfl, hb40⟩
  refine ⟨_, rfl, ?_⟩
  have S39 := S36.on hb40
  clear hb40 S36
  refine wL_val (v := .bool true) (wn rfl) rfl rfl (y_pick_t rfl rfl rfl) ?_
  refine wL_val (v := .bool true) (wn rfl) rfl rfl (y_assign rfl rfl) ?_
  refine wL_nil ?_
  refine wQ_sub (l' := [(0, .agg #[.slice A l.length c, .int .i64 s]), (1, .pointer (some ⟨b1, 0, none⟩)), (2, .bool true), (3, .pointer (some ⟨b10, 0, none⟩)), (4, .pointer (some ⟨b20, 0, none⟩)), (5, .int .i64 ((repM l s).2.2)), (6, .pointer (some ⟨b30, 0, none⟩)), (7, .int .i64 ((repM l s).2.2))]) ⟨rfl, rfl, rfl, rfl, rfl, rfl, rfl, rfl, trivial⟩ ?_
  refine wQ_then ?_
  refine wC_ret ?_
  refine wQ_post (rs := [.tmp 2]) (vs := [.bool true]) rfl ⟨rfl, trivial⟩ ?_
  exact ⟨rfl, S39.low⟩

set_option maxRecDepth 100000 in
theorem tapeRepairs_walk (W : World) (args : Array Value) (h : All2 (ArgOk Try.prog W) args.toList Try.f14.params.toList) :
    Calls Try.prog 14 args W fun e W' => e = .returned (.bool true) ∧ Below W.heap.size W W' := by
  rw [Try.params14] at h
  obtain ⟨v, l1, hv, h1, h0⟩ := All2.cons_ h
  have h4 := All2.nil_ h0
  subst h4
  obtain rfl : args = #[v] := by cases args; simp_all
  obtain ⟨A, n, c, l, s, rfl, hr, hn, hc, hb⟩ := arg_tape2 h1
  obtain rfl := hr.bytes_len
  exact tapeRepairs_calls A c l s W hr hn hc hb
end Go.Proofs.Ytkjlafpafmihaaa
