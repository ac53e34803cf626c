/- Contract: ref.RecordOf. (The steps are printed by a program of mine: wip/px.) -/
import Derived.Test.YtkjlafpafmihaaaQ
import Derived.Test.YtkjlafpafmihaaaDecode
namespace Go.Proofs.Ytkjlafpafmihaaa
open Go.ChangeShapes Go.WideShapes Go.RowKit

def numsTo (b : List UInt8) (k : Nat) : List Int := (List.range k).map fun j => (tk b j).1
theorem numsTo_succ (b : List UInt8) (k : Nat) : numsTo b (k + 1) = numsTo b k ++ [(tk b k).1] := by simp [numsTo, List.range_succ]
theorem numsTo_get {b : List UInt8} {k j : Nat} (h : j < k) : (numsTo b k)[j]? = some (tk b j).1 := by simp [numsTo, h]
def mk10 (b : List UInt8) (k : Nat) : Nat := if k = 0 then 4 else manyOf b
theorem manyOf_or (b : List UInt8) : manyOf b = 4 ∨ manyOf b = 10 := by unfold manyOf; split <;> simp
theorem mk_or (b : List UInt8) (k : Nat) : mk10 b k = 4 ∨ mk10 b k = 10 := by
  unfold mk10
  split
  · exact .inl rfl
  · exact manyOf_or b
theorem tk_min (b : List UInt8) (k : Nat) : takeM (b.drop (min (4 * k) b.length)) = tk b k := by
  unfold tk
  by_cases h : 4 * k ≤ b.length
  · rw [Nat.min_eq_left h]
  · rw [Nat.min_eq_right (by omega), List.drop_length, List.drop_of_length_le (by omega)]
section
variable {b : List UInt8} {k : Nat}
theorem mk_same (h : ¬ k = 0) : ((mk10 b k : Nat) : Int) = ((mk10 b (k + 1) : Nat) : Int) := by unfold mk10; rw [if_neg h, if_neg (by omega)]
theorem mk_ten (h0 : k = 0) (h : (tk b k).1 = 2 ∨ (tk b k).1 = 5) : (10 : Int) = ((mk10 b (k + 1) : Nat) : Int) := by
  subst h0
  unfold mk10 manyOf hasEv
  rcases h with h | h <;> simp [h]
theorem mk_four (h0 : k = 0) (h2 : ¬ (tk b k).1 = 2) (h5 : ¬ (tk b k).1 = 5) : ((mk10 b k : Nat) : Int) = ((mk10 b (k + 1) : Nat) : Int) := by
  subst h0
  unfold mk10 manyOf hasEv
  simp [h2, h5]
theorem mk_le (h : ¬ k = 0) (hlt : k < mk10 b k) : k + 1 ≤ mk10 b (k + 1) := by
  unfold mk10 at *
  rw [if_neg h] at hlt
  rw [if_neg (by omega)]
  omega
theorem mk_le10 (h0 : k = 0) (h : (tk b k).1 = 2 ∨ (tk b k).1 = 5) : k + 1 ≤ mk10 b (k + 1) := by
  have := mk_ten h0 h
  omega
theorem many_lt (hlt : k < mk10 b k) : k < manyOf b := by
  unfold mk10 at hlt
  have := manyOf_or b
  split at hlt <;> omega
theorem mk_end (h : k ≤ mk10 b k) (h1 : ¬ k < mk10 b k) : k = manyOf b ∧ mk10 b k = manyOf b := by
  have h2 := mk_or b k
  have h3 : k ≠ 0 := by omega
  have h4 : mk10 b k = manyOf b := by unfold mk10; rw [if_neg h3]
  omega
theorem decM_err (h : ∀ j, j < k → (tk b j).2 = 0) (hk : ¬ (tk b k).2 = 0) (hlt : k < manyOf b) : decM b = (zeroRcd, (tk b k).2) := by
  unfold decM
  rw [errTo_at h hk _ hlt, if_pos hk]
theorem decM_bad (h : ∀ j, j < k → (tk b j).2 = 0) (hk : k = manyOf b) (h1 : ¬ b.length = 4 * manyOf b ∨ ¬ recFault (rcdTo b (manyOf b)) = 0) : decM b = (zeroRcd, 3) := by
  subst hk
  unfold decM
  rw [errTo_zero h, if_neg (by simp), if_pos h1]
theorem decM_good (h : ∀ j, j < k → (tk b j).2 = 0) (hk : k = manyOf b) (h1 : b.length = 4 * manyOf b) (h2 : recFault (rcdTo b (manyOf b)) = 0) : decM b = (rcdTo b (manyOf b), 0) := by
  subst hk
  unfold decM
  rw [errTo_zero h, if_neg (by simp), if_neg (fun h3 => h3.elim (fun h => h h1) (fun h => h h2))]
end

set_option maxRecDepth 100000 in
set_option maxHeartbeats 4000000 in
theorem RecordOf_calls (A : Option Addr) (c : Nat) (b : List UInt8) (w : World) (h : Rd w w.heap.size 1 A b.length (byteCells b)) (hn : b.length ≤ c) (hcm : c ≤ 9223372036854775807) :
    Calls Try.prog 51 #[.slice A b.length c] w (DecPost w (decM b)) := by
  have S := (St.start w).addRd h
  refine calls_of_wC (N := 94) (vs := [.slice A b.length c]) Try.func51 rfl rfl rfl ?_
  refine wC_sub (l' := [(0, .slice A b.length c)]) ⟨rfl, trivial⟩ ?_
  refine wC_seq ?_
  refine wC_region ?_
  refine wL_new (V := fun b => .pointer (some ⟨b, 0, none⟩)) (row := #[.int .i64 0, .int .i64 0, .int .i64 0, .int .i64 0, .int .i64 0, .int .i64 0, .int .i64 0, .int .i64 0, .int .i64 0, .int .i64 0]) (t := 51) S (wn rfl) rfl rfl (d_alloc rfl (Try.zeroValue51 _) rfl) ?_
  intro b1 w2 S3
  clear S
  refine wL_val (v := .int .i64 0) (wn rfl) rfl rfl (y_assign rfl rfl) ?_
  refine wL_nil ?_
  refine wQ_then ?_
  refine wC_seq ?_
  refine wC_region ?_
  refine wL_val (v := .int .i64 4) (wn rfl) rfl rfl (y_assign rfl rfl) ?_
  refine wL_nil ?_
  refine wQ_then ?_
  refine wC_seq ?_
  refine wC_region ?_
  have S4 := S3.nil 3 1
  clear S3
  refine wL_val (v := .slice none 0 0) (wn rfl) rfl rfl (y_assign rfl rfl) ?_
  refine wL_nil ?_
  refine wQ_then ?_
  refine wC_seq ?_
  refine wC_seq ?_
  refine wC_region ?_
  refine wL_val (v := .int .i64 0) (wn rfl) rfl rfl (y_assign rfl rfl) ?_
  refine wL_nil ?_
  refine wQ_then ?_
  refine wC_block ?_
  refine wC_loop (X := Nat × (Option Addr) × Nat) (fun xv => [(0, .slice A b.length c), (2, .pointer (some ⟨b1, 0, none⟩)), (3, .int .i64 0), (4, .int .i64 ((mk10 b xv.1 : Nat) : Int)), (5, .slice xv.2.1 xv.1 xv.2.2), (6, .int .i64 ((xv.1 : Nat) : Int))]) (fun xv wr => (xv.1 ≤ mk10 b xv.1) ∧ (∀ j, j < xv.1 → (tk b j).2 = 0) ∧ St w.heap.size w wr [.own 3 1 (.slice xv.2.1 xv.1 xv.2.2) xv.1 ((numsTo b xv.1).flatMap oneI), .blk b1 #[.int .i64 0, .int .i64 0, .int .i64 0, .int .i64 0, .int .i64 0, .int .i64 0, .int .i64 0, .int .i64 0, .int .i64 0, .int .i64 0] 51, .rd 1 A b.length (byteCells b)]) (fun xv => 10 - xv.1) (0, none, 0) ?_ ?_ ?_
  · exact ⟨Nat.zero_le _, fun j hj => absurd hj (Nat.not_lt_zero _), S4⟩
  · exact ⟨rfl, rfl, rfl, rfl, rfl, rfl, trivial⟩
  · rintro ⟨k, A9, c9⟩ w5 ⟨hi7, hi8, S6⟩
    try dsimp only at hi7 hi8 S6
    clear S4
    refine wC_sub (l' := [(0, .slice A b.length c), (2, .pointer (some ⟨b1, 0, none⟩)), (3, .int .i64 0), (4, .int .i64 ((mk10 b k : Nat) : Int)), (5, .slice A9 k c9), (6, .int .i64 ((k : Nat) : Int))]) ⟨rfl, rfl, rfl, rfl, rfl, rfl, trivial⟩ ?_
    refine wC_seq ?_
    refine wC_seq ?_
    refine wC_region ?_
    refine wL_val (v := .int .i64 ((k : Nat) : Int)) (wn rfl) rfl rfl (y_move rfl rfl) ?_
    refine wL_val (v := .int .i64 ((mk10 b k : Nat) : Int)) (wn rfl) rfl rfl (y_move rfl rfl) ?_
    by_cases h9 : k < mk10 b k
    · have hk10 : k < 10 := by have := mk_or b k; omega
      refine wL_val (v := .bool true) (wn rfl) rfl rfl (y_binop rfl rfl rfl (r_lss_t (by omega))) ?_
      refine wL_nil ?_
      refine wQ_sub (l' := [(0, .slice A b.length c), (2, .pointer (some ⟨b1, 0, none⟩)), (3, .int .i64 0), (4, .int .i64 ((mk10 b k : Nat) : Int)), (5, .slice A9 k c9), (6, .int .i64 ((k : Nat) : Int)), (13, .bool true)]) ⟨rfl, rfl, rfl, rfl, rfl, rfl, rfl, trivial⟩ ?_
      refine wQ_then ?_
      refine wC_cond_t rfl ?_
      refine wC_skip ?_
      refine wQ_then ?_
      refine wC_seq ?_
      refine wC_block ?_
      refine wC_seq ?_
      refine wC_region ?_
      refine wL_val (v := .int .i64 ((k : Nat) : Int)) (wn rfl) rfl rfl (y_move rfl rfl) ?_
      refine wL_val (v := .int .i64 ((4 * k : Nat) : Int)) (wn rfl) rfl rfl (y_binop rfl rfl rfl (r_mul (by omega) (by omega))) ?_
      refine wL_val (v := .slice A b.length c) (wn rfl) rfl rfl (y_move rfl rfl) ?_
      refine wL_val (v := .int .i64 ((b.length : Nat) : Int)) (wn rfl) rfl rfl (y_builtin (vs := [.slice A b.length c]) rfl ⟨rfl, trivial⟩ fun _ => r_len rfl Try.underlying52) ?_
      refine wL_val (v := .int .i64 ((min (4 * k) b.length : Nat) : Int)) (wn rfl) rfl rfl (y_builtin (vs := [.int .i64 ((4 * k : Nat) : Int), .int .i64 ((b.length : Nat) : Int)]) rfl ⟨rfl, rfl, trivial⟩ fun _ => r_minN) ?_
      refine wL_val (v := .int .i64 ((min (4 * k) b.length : Nat) : Int)) (wn rfl) rfl rfl (y_assign rfl rfl) ?_
      refine wL_nil ?_
      refine wQ_sub (l' := [(0, .slice A b.length c), (2, .pointer (some ⟨b1, 0, none⟩)), (3, .int .i64 0), (4, .int .i64 ((mk10 b k : Nat) : Int)), (5, .slice A9 k c9), (6, .int .i64 ((k : Nat) : Int)), (13, .bool true), (7, .int .i64 ((min (4 * k) b.length : Nat) : Int))]) ⟨rfl, rfl, rfl, rfl, rfl, rfl, rfl, rfl, trivial⟩ ?_
      refine wQ_then ?_
      refine wC_seq ?_
      refine wC_region ?_
      refine wL_val (v := .slice A b.length c) (wn rfl) rfl rfl (y_move rfl rfl) ?_
      refine wL_val (v := .int .i64 ((min (4 * k) b.length : Nat) : Int)) (wn rfl) rfl rfl (y_move rfl rfl) ?_
      obtain ⟨A10, hr11, hR12⟩ := slice_l (kd := .i64) (min (4 * k) b.length) Try.underlying52 inf5 (show Rd _ _ _ _ _ _ from S6.all 2 _ rfl) hn rfl (by omega)
      rw [Nat.mul_one, byteCells_drop] at hR12
      have S13 := S6.addRd hR12
      clear S6
      refine wL_val (v := .slice A10 (b.length - min (4 * k) b.length) (c - min (4 * k) b.length)) (wn rfl) rfl rfl (y_slice rfl rfl (evo_s rfl) evo_n evo_n (hr11 _)) ?_
      have hT17 := fun w h => Taken_calls A10 (b.length - min (4 * k) b.length) (c - min (4 * k) b.length) (b.drop (min (4 * k) b.length)) w (B := w.heap.size) h
      rw [tk_min b k] at hT17
      refine wL_call (vs := [.slice A10 (b.length - min (4 * k) b.length) (c - min (4 * k) b.length)]) (wn rfl) rfl rfl (e_call (vs := [.slice A10 (b.length - min (4 * k) b.length) (c - min (4 * k) b.length)]) rfl en131 ⟨rfl, trivial⟩) (hT17 _ (St.rd 0 S13 rfl)) ?_
      rintro _ w14 ⟨rfl, q16, rfl⟩
      refine ⟨_, rfl, ?_⟩
      have S15 := S13.drewN q16
      clear S13
      refine wL_val (v := .tuple #[.int .i64 ((tk b k).1), .int .i64 ((tk b k).2)]) (wn rfl) rfl rfl (y_move rfl rfl) ?_
      refine wL_val (v := .int .i64 ((tk b k).1)) (wn rfl) rfl rfl (y_extract rfl rfl rfl) ?_
      refine wL_val (v := .int .i64 ((tk b k).2)) (wn rfl) rfl rfl (y_extract rfl rfl rfl) ?_
      refine wL_val (v := .int .i64 ((tk b k).1)) (wn rfl) rfl rfl (y_assign rfl rfl) ?_
      refine wL_val (v := .int .i64 ((tk b k).2)) (wn rfl) rfl rfl (y_assign rfl rfl) ?_
      refine wL_nil ?_
      refine wQ_sub (l' := [(0, .slice A b.length c), (2, .pointer (some ⟨b1, 0, none⟩)), (3, .int .i64 0), (4, .int .i64 ((mk10 b k : Nat) : Int)), (5, .slice A9 k c9), (6, .int .i64 ((k : Nat) : Int)), (13, .bool true), (7, .int .i64 ((min (4 * k) b.length : Nat) : Int)), (8, .int .i64 ((tk b k).1)), (9, .int .i64 ((tk b k).2))]) ⟨rfl, rfl, rfl, rfl, rfl, rfl, rfl, rfl, rfl, rfl, trivial⟩ ?_
      refine wQ_then ?_
      refine wC_seq ?_
      refine wC_seq ?_
      refine wC_region ?_
      refine wL_val (v := .int .i64 ((tk b k).2)) (wn rfl) rfl rfl (y_move rfl rfl) ?_
      by_cases h18 : (tk b k).2 = 0
      · refine wL_val (v := .bool false) (wn rfl) rfl rfl (y_binop rfl rfl rfl (r_neq_f h18)) ?_
        refine wL_nil ?_
        refine wQ_sub (l' := [(0, .slice A b.length c), (2, .pointer (some ⟨b1, 0, none⟩)), (3, .int .i64 0), (4, .int .i64 ((mk10 b k : Nat) : Int)), (5, .slice A9 k c9), (6, .int .i64 ((k : Nat) : Int)), (13, .bool true), (7, .int .i64 ((min (4 * k) b.length : Nat) : Int)), (8, .int .i64 ((tk b k).1)), (9, .int .i64 ((tk b k).2)), (29, .bool false)]) ⟨rfl, rfl, rfl, rfl, rfl, rfl, rfl, rfl, rfl, rfl, rfl, trivial⟩ ?_
        refine wQ_then ?_
        refine wC_cond_f rfl ?_
        refine wC_skip ?_
        refine wQ_then ?_
        refine wC_seq ?_
        refine wC_seq ?_
        refine wC_region ?_
        refine wL_val (v := .int .i64 ((k : Nat) : Int)) (wn rfl) rfl rfl (y_move rfl rfl) ?_
        by_cases h19 : k = 0
        · refine wL_val (v := .bool true) (wn rfl) rfl rfl (y_binop rfl rfl rfl (r_eql_t (by omega))) ?_
          refine wL_val (v := .bool true) (wn rfl) rfl rfl (y_move rfl rfl) ?_
          refine wL_val (v := .int .i64 ((tk b k).1)) (wg rfl rfl rfl rfl) rfl rfl (y_move rfl rfl) ?_
          by_cases h20 : (tk b k).1 = 2
          · refine wL_val (v := .bool true) (wg rfl rfl rfl rfl) rfl rfl (y_binop rfl rfl rfl (r_eql_t h20)) ?_
            refine wL_val (v := .bool true) (wg rfl rfl rfl rfl) rfl rfl (y_move rfl rfl) ?_
            refine wL_skip (wg rfl rfl rfl rfl) rfl rfl ?_
            refine wL_skip (wg rfl rfl rfl rfl) rfl rfl ?_
            refine wL_val (v := .bool true) (wg rfl rfl rfl rfl) rfl rfl (y_pick_t rfl rfl rfl) ?_
            refine wL_val (v := .bool true) (wn rfl) rfl rfl (y_pick_t rfl rfl rfl) ?_
            refine wL_nil ?_
            refine wQ_sub (l' := [(0, .slice A b.length c), (2, .pointer (some ⟨b1, 0, none⟩)), (3, .int .i64 0), (4, .int .i64 ((mk10 b k : Nat) : Int)), (5, .slice A9 k c9), (6, .int .i64 ((k : Nat) : Int)), (13, .bool true), (7, .int .i64 ((min (4 * k) b.length : Nat) : Int)), (8, .int .i64 ((tk b k).1)), (9, .int .i64 ((tk b k).2)), (29, .bool false), (41, .bool true)]) ⟨rfl, rfl, rfl, rfl, rfl, rfl, rfl, rfl, rfl, rfl, rfl, rfl, trivial⟩ ?_
            refine wQ_then ?_
            refine wC_cond_t rfl ?_
            refine wC_region ?_
            refine wL_val (v := .int .i64 10) (wn rfl) rfl rfl (y_assign rfl rfl) ?_
            refine wL_nil ?_
            refine wQ_then ?_
            refine wC_region ?_
            refine wL_val (v := .slice A9 k c9) (wn rfl) rfl rfl (y_move rfl rfl) ?_
            refine wL_val (v := .int .i64 ((tk b k).1)) (wn rfl) rfl rfl (y_move rfl rfl) ?_
            refine wL_new (V := fun b => .slice (some ⟨b, 0, none⟩) 1 1) (row := #[.int .i64 ((tk b k).1)]) (t := 3) S15 (wn rfl) rfl rfl (d_buildSlice (vs := [(0, .int .i64 ((tk b k).1))]) rfl ⟨rfl, rfl, trivial⟩ (by kernel_rfl)) ?_
            intro b21 w22 S23
            clear S15
            refine wL_append (news := [.int .i64 ((tk b k).1)]) (xs' := (numsTo b (k + 1)).flatMap oneI) 2 S23 (wn rfl) rfl rfl rfl rfl rfl rfl (St.bld (xs := [.int .i64 ((tk b k).1)]) 0 S23 rfl rfl rfl) Try.underlying143 infz3 rfl (by decide) (oneAll rfl) (by simp only [maxLen]; omega) (by omega) (fm_snoc (enc := oneI) (numsTo_succ b k).symm rfl) ?_
            intro A24 c25 w26 hc28 hm29 S27
            clear S23
            change St _ _ _ [.blk b21 #[.int .i64 ((tk b k).1)] 3, .rd 1 A10 (b.length - min (4 * k) b.length) (byteCells (b.drop (min (4 * k) b.length))), .own 3 1 (.slice A24 (k + 1) c25) (k + 1) ((numsTo b (k + 1)).flatMap oneI), .blk b1 #[.int .i64 0, .int .i64 0, .int .i64 0, .int .i64 0, .int .i64 0, .int .i64 0, .int .i64 0, .int .i64 0, .int .i64 0, .int .i64 0] 51, .rd 1 A b.length (byteCells b)] at S27
            refine wL_val (v := .slice A24 (k + 1) c25) (wn rfl) rfl rfl (y_assign rfl rfl) ?_
            refine wL_nil ?_
            refine wQ_sub (l' := [(0, .slice A b.length c), (2, .pointer (some ⟨b1, 0, none⟩)), (3, .int .i64 0), (4, .int .i64 10), (5, .slice A24 (k + 1) c25), (6, .int .i64 ((k : Nat) : Int)), (13, .bool true), (7, .int .i64 ((min (4 * k) b.length : Nat) : Int)), (8, .int .i64 ((tk b k).1)), (9, .int .i64 ((tk b k).2)), (29, .bool false), (41, .bool true)]) ⟨rfl, rfl, rfl, rfl, rfl, rfl, rfl, rfl, rfl, rfl, rfl, rfl, trivial⟩ ?_
            refine wQ_blk_n ?_
            refine wQ_then ?_
            refine wC_region ?_
            refine wL_val (v := .int .i64 ((k : Nat) : Int)) (wn rfl) rfl rfl (y_move rfl rfl) ?_
            refine wL_val (v := .int .i64 ((k + 1 : Nat) : Int)) (wn rfl) rfl rfl (y_binop rfl rfl rfl (r_add (by omega) (by omega))) ?_
            refine wL_val (v := .int .i64 ((k + 1 : Nat) : Int)) (wn rfl) rfl rfl (y_assign rfl rfl) ?_
            refine wL_nil ?_
            refine wQ_sub (l' := [(0, .slice A b.length c), (2, .pointer (some ⟨b1, 0, none⟩)), (3, .int .i64 0), (4, .int .i64 10), (5, .slice A24 (k + 1) c25), (6, .int .i64 ((k + 1 : Nat) : Int)), (13, .bool true), (7, .int .i64 ((min (4 * k) b.length : Nat) : Int)), (8, .int .i64 ((tk b k).1)), (9, .int .i64 ((tk b k).2)), (29, .bool false), (41, .bool true)]) ⟨rfl, rfl, rfl, rfl, rfl, rfl, rfl, rfl, rfl, rfl, rfl, rfl, trivial⟩ ?_
            have S30 : St w.heap.size w w26 [.own 3 1 (.slice A24 (k + 1) c25) (k + 1) ((numsTo b (k + 1)).flatMap oneI), .blk b1 #[.int .i64 0, .int .i64 0, .int .i64 0, .int .i64 0, .int .i64 0, .int .i64 0, .int .i64 0, .int .i64 0, .int .i64 0, .int .i64 0] 51, .rd 1 A b.length (byteCells b)] := (St.del 0 (St.del 1 S27))
            clear S27
            refine wQ_round (k + 1, A24, c25) ?_ ⟨rfl, rfl, rfl, (px_int (mk_ten h19 (.inl h20))), rfl, rfl, trivial⟩ (by dsimp only; have := mk_or b k; omega)
            exact ⟨(by dsimp only; exact mk_le10 h19 (.inl h20)), (fun j hj => (Nat.lt_succ_iff_lt_or_eq.1 hj).elim (fun h => hi8 j h) (fun h => by rw [h]; exact h18)), S30⟩
          · refine wL_val (v := .bool false) (wg rfl rfl rfl rfl) rfl rfl (y_binop rfl rfl rfl (r_eql_f h20)) ?_
            refine wL_val (v := .bool false) (wg rfl rfl rfl rfl) rfl rfl (y_move rfl rfl) ?_
            refine wL_val (v := .int .i64 ((tk b k).1)) (wg rfl rfl rfl rfl) rfl rfl (y_move rfl rfl) ?_
            by_cases h31 : (tk b k).1 = 5
            · refine wL_val (v := .bool true) (wg rfl rfl rfl rfl) rfl rfl (y_binop rfl rfl rfl (r_eql_t h31)) ?_
              refine wL_val (v := .bool true) (wg rfl rfl rfl rfl) rfl rfl (y_pick_f rfl rfl rfl) ?_
              refine wL_val (v := .bool true) (wn rfl) rfl rfl (y_pick_t rfl rfl rfl) ?_
              refine wL_nil ?_
              refine wQ_sub (l' := [(0, .slice A b.length c), (2, .pointer (some ⟨b1, 0, none⟩)), (3, .int .i64 0), (4, .int .i64 ((mk10 b k : Nat) : Int)), (5, .slice A9 k c9), (6, .int .i64 ((k : Nat) : Int)), (13, .bool true), (7, .int .i64 ((min (4 * k) b.length : Nat) : Int)), (8, .int .i64 ((tk b k).1)), (9, .int .i64 ((tk b k).2)), (29, .bool false), (41, .bool true)]) ⟨rfl, rfl, rfl, rfl, rfl, rfl, rfl, rfl, rfl, rfl, rfl, rfl, trivial⟩ ?_
              refine wQ_then ?_
              refine wC_cond_t rfl ?_
              refine wC_region ?_
              refine wL_val (v := .int .i64 10) (wn rfl) rfl rfl (y_assign rfl rfl) ?_
              refine wL_nil ?_
              refine wQ_then ?_
              refine wC_region ?_
              refine wL_val (v := .slice A9 k c9) (wn rfl) rfl rfl (y_move rfl rfl) ?_
              refine wL_val (v := .int .i64 ((tk b k).1)) (wn rfl) rfl rfl (y_move rfl rfl) ?_
              refine wL_new (V := fun b => .slice (some ⟨b, 0, none⟩) 1 1) (row := #[.int .i64 ((tk b k).1)]) (t := 3) S15 (wn rfl) rfl rfl (d_buildSlice (vs := [(0, .int .i64 ((tk b k).1))]) rfl ⟨rfl, rfl, trivial⟩ (by kernel_rfl)) ?_
              intro b32 w33 S34
              clear S15
              refine wL_append (news := [.int .i64 ((tk b k).1)]) (xs' := (numsTo b (k + 1)).flatMap oneI) 2 S34 (wn rfl) rfl rfl rfl rfl rfl rfl (St.bld (xs := [.int .i64 ((tk b k).1)]) 0 S34 rfl rfl rfl) Try.underlying143 infz3 rfl (by decide) (oneAll rfl) (by simp only [maxLen]; omega) (by omega) (fm_snoc (enc := oneI) (numsTo_succ b k).symm rfl) ?_
              intro A35 c36 w37 hc39 hm40 S38
              clear S34
              change St _ _ _ [.blk b32 #[.int .i64 ((tk b k).1)] 3, .rd 1 A10 (b.length - min (4 * k) b.length) (byteCells (b.drop (min (4 * k) b.length))), .own 3 1 (.slice A35 (k + 1) c36) (k + 1) ((numsTo b (k + 1)).flatMap oneI), .blk b1 #[.int .i64 0, .int .i64 0, .int .i64 0, .int .i64 0, .int .i64 0, .int .i64 0, .int .i64 0, .int .i64 0, .int .i64 0, .int .i64 0] 51, .rd 1 A b.length (byteCells b)] at S38
              refine wL_val (v := .slice A35 (k + 1) c36) (wn rfl) rfl rfl (y_assign rfl rfl) ?_
              refine wL_nil ?_
              refine wQ_sub (l' := [(0, .slice A b.length c), (2, .pointer (some ⟨b1, 0, none⟩)), (3, .int .i64 0), (4, .int .i64 10), (5, .slice A35 (k + 1) c36), (6, .int .i64 ((k : Nat) : Int)), (13, .bool true), (7, .int .i64 ((min (4 * k) b.length : Nat) : Int)), (8, .int .i64 ((tk b k).1)), (9, .int .i64 ((tk b k).2)), (29, .bool false), (41, .bool true)]) ⟨rfl, rfl, rfl, rfl, rfl, rfl, rfl, rfl, rfl, rfl, rfl, rfl, trivial⟩ ?_
              refine wQ_blk_n ?_
              refine wQ_then ?_
              refine wC_region ?_
              refine wL_val (v := .int .i64 ((k : Nat) : Int)) (wn rfl) rfl rfl (y_move rfl rfl) ?_
              refine wL_val (v := .int .i64 ((k + 1 : Nat) : Int)) (wn rfl) rfl rfl (y_binop rfl rfl rfl (r_add (by omega) (by omega))) ?_
              refine wL_val (v := .int .i64 ((k + 1 : Nat) : Int)) (wn rfl) rfl rfl (y_assign rfl rfl) ?_
              refine wL_nil ?_
              refine wQ_sub (l' := [(0, .slice A b.length c), (2, .pointer (some ⟨b1, 0, none⟩)), (3, .int .i64 0), (4, .int .i64 10), (5, .slice A35 (k + 1) c36), (6, .int .i64 ((k + 1 : Nat) : Int)), (13, .bool true), (7, .int .i64 ((min (4 * k) b.length : Nat) : Int)), (8, .int .i64 ((tk b k).1)), (9, .int .i64 ((tk b k).2)), (29, .bool false), (41, .bool true)]) ⟨rfl, rfl, rfl, rfl, rfl, rfl, rfl, rfl, rfl, rfl, rfl, rfl, trivial⟩ ?_
              have S41 : St w.heap.size w w37 [.own 3 1 (.slice A35 (k + 1) c36) (k + 1) ((numsTo b (k + 1)).flatMap oneI), .blk b1 #[.int .i64 0, .int .i64 0, .int .i64 0, .int .i64 0, .int .i64 0, .int .i64 0, .int .i64 0, .int .i64 0, .int .i64 0, .int .i64 0] 51, .rd 1 A b.length (byteCells b)] := (St.del 0 (St.del 1 S38))
              clear S38
              refine wQ_round (k + 1, A35, c36) ?_ ⟨rfl, rfl, rfl, (px_int (mk_ten h19 (.inr h31))), rfl, rfl, trivial⟩ (by dsimp only; have := mk_or b k; omega)
              exact ⟨(by dsimp only; exact mk_le10 h19 (.inr h31)), (fun j hj => (Nat.lt_succ_iff_lt_or_eq.1 hj).elim (fun h => hi8 j h) (fun h => by rw [h]; exact h18)), S41⟩
            · refine wL_val (v := .bool false) (wg rfl rfl rfl rfl) rfl rfl (y_binop rfl rfl rfl (r_eql_f h31)) ?_
              refine wL_val (v := .bool false) (wg rfl rfl rfl rfl) rfl rfl (y_pick_f rfl rfl rfl) ?_
              refine wL_val (v := .bool false) (wn rfl) rfl rfl (y_pick_t rfl rfl rfl) ?_
              refine wL_nil ?_
              refine wQ_sub (l' := [(0, .slice A b.length c), (2, .pointer (some ⟨b1, 0, none⟩)), (3, .int .i64 0), (4, .int .i64 ((mk10 b k : Nat) : Int)), (5, .slice A9 k c9), (6, .int .i64 ((k : Nat) : Int)), (13, .bool true), (7, .int .i64 ((min (4 * k) b.length : Nat) : Int)), (8, .int .i64 ((tk b k).1)), (9, .int .i64 ((tk b k).2)), (29, .bool false), (41, .bool false)]) ⟨rfl, rfl, rfl, rfl, rfl, rfl, rfl, rfl, rfl, rfl, rfl, rfl, trivial⟩ ?_
              refine wQ_then ?_
              refine wC_cond_f rfl ?_
              refine wC_skip ?_
              refine wQ_then ?_
              refine wC_region ?_
              refine wL_val (v := .slice A9 k c9) (wn rfl) rfl rfl (y_move rfl rfl) ?_
              refine wL_val (v := .int .i64 ((tk b k).1)) (wn rfl) rfl rfl (y_move rfl rfl) ?_
              refine wL_new (V := fun b => .slice (some ⟨b, 0, none⟩) 1 1) (row := #[.int .i64 ((tk b k).1)]) (t := 3) S15 (wn rfl) rfl rfl (d_buildSlice (vs := [(0, .int .i64 ((tk b k).1))]) rfl ⟨rfl, rfl, trivial⟩ (by kernel_rfl)) ?_
              intro b42 w43 S44
              clear S15
              refine wL_append (news := [.int .i64 ((tk b k).1)]) (xs' := (numsTo b (k + 1)).flatMap oneI) 2 S44 (wn rfl) rfl rfl rfl rfl rfl rfl (St.bld (xs := [.int .i64 ((tk b k).1)]) 0 S44 rfl rfl rfl) Try.underlying143 infz3 rfl (by decide) (oneAll rfl) (by simp only [maxLen]; omega) (by omega) (fm_snoc (enc := oneI) (numsTo_succ b k).symm rfl) ?_
              intro A45 c46 w47 hc49 hm50 S48
              clear S44
              change St _ _ _ [.blk b42 #[.int .i64 ((tk b k).1)] 3, .rd 1 A10 (b.length - min (4 * k) b.length) (byteCells (b.drop (min (4 * k) b.length))), .own 3 1 (.slice A45 (k + 1) c46) (k + 1) ((numsTo b (k + 1)).flatMap oneI), .blk b1 #[.int .i64 0, .int .i64 0, .int .i64 0, .int .i64 0, .int .i64 0, .int .i64 0, .int .i64 0, .int .i64 0, .int .i64 0, .int .i64 0] 51, .rd 1 A b.length (byteCells b)] at S48
              refine wL_val (v := .slice A45 (k + 1) c46) (wn rfl) rfl rfl (y_assign rfl rfl) ?_
              refine wL_nil ?_
              refine wQ_sub (l' := [(0, .slice A b.length c), (2, .pointer (some ⟨b1, 0, none⟩)), (3, .int .i64 0), (4, .int .i64 ((mk10 b k : Nat) : Int)), (5, .slice A45 (k + 1) c46), (6, .int .i64 ((k : Nat) : Int)), (13, .bool true), (7, .int .i64 ((min (4 * k) b.length : Nat) : Int)), (8, .int .i64 ((tk b k).1)), (9, .int .i64 ((tk b k).2)), (29, .bool false), (41, .bool false)]) ⟨rfl, rfl, rfl, rfl, rfl, rfl, rfl, rfl, rfl, rfl, rfl, rfl, trivial⟩ ?_
              refine wQ_blk_n ?_
              refine wQ_then ?_
              refine wC_region ?_
              refine wL_val (v := .int .i64 ((k : Nat) : Int)) (wn rfl) rfl rfl (y_move rfl rfl) ?_
              refine wL_val (v := .int .i64 ((k + 1 : Nat) : Int)) (wn rfl) rfl rfl (y_binop rfl rfl rfl (r_add (by omega) (by omega))) ?_
              refine wL_val (v := .int .i64 ((k + 1 : Nat) : Int)) (wn rfl) rfl rfl (y_assign rfl rfl) ?_
              refine wL_nil ?_
              refine wQ_sub (l' := [(0, .slice A b.length c), (2, .pointer (some ⟨b1, 0, none⟩)), (3, .int .i64 0), (4, .int .i64 ((mk10 b k : Nat) : Int)), (5, .slice A45 (k + 1) c46), (6, .int .i64 ((k + 1 : Nat) : Int)), (13, .bool true), (7, .int .i64 ((min (4 * k) b.length : Nat) : Int)), (8, .int .i64 ((tk b k).1)), (9, .int .i64 ((tk b k).2)), (29, .bool false), (41, .bool false)]) ⟨rfl, rfl, rfl, rfl, rfl, rfl, rfl, rfl, rfl, rfl, rfl, rfl, trivial⟩ ?_
              have S51 : St w.heap.size w w47 [.own 3 1 (.slice A45 (k + 1) c46) (k + 1) ((numsTo b (k + 1)).flatMap oneI), .blk b1 #[.int .i64 0, .int .i64 0, .int .i64 0, .int .i64 0, .int .i64 0, .int .i64 0, .int .i64 0, .int .i64 0, .int .i64 0, .int .i64 0] 51, .rd 1 A b.length (byteCells b)] := (St.del 0 (St.del 1 S48))
              clear S48
              refine wQ_round (k + 1, A45, c46) ?_ ⟨rfl, rfl, rfl, (px_int (mk_four h19 h20 h31)), rfl, rfl, trivial⟩ (by dsimp only; have := mk_or b k; omega)
              exact ⟨(by dsimp only; rw [h19]; have := mk_or b (0 + 1); omega), (fun j hj => (Nat.lt_succ_iff_lt_or_eq.1 hj).elim (fun h => hi8 j h) (fun h => by rw [h]; exact h18)), S51⟩
        · refine wL_val (v := .bool false) (wn rfl) rfl rfl (y_binop rfl rfl rfl (r_eql_f (by omega))) ?_
          refine wL_val (v := .bool false) (wn rfl) rfl rfl (y_move rfl rfl) ?_
          refine wL_skip (wg rfl rfl rfl rfl) rfl rfl ?_
          refine wL_skip (wg rfl rfl rfl rfl) rfl rfl ?_
          refine wL_skip (wg rfl rfl rfl rfl) rfl rfl ?_
          refine wL_skip (wg rfl rfl rfl rfl) rfl rfl ?_
          refine wL_skip (wg rfl rfl rfl rfl) rfl rfl ?_
          refine wL_skip (wg rfl rfl rfl rfl) rfl rfl ?_
          refine wL_val (v := .bool false) (wn rfl) rfl rfl (y_pick_f rfl rfl rfl) ?_
          refine wL_nil ?_
          refine wQ_sub (l' := [(0, .slice A b.length c), (2, .pointer (some ⟨b1, 0, none⟩)), (3, .int .i64 0), (4, .int .i64 ((mk10 b k : Nat) : Int)), (5, .slice A9 k c9), (6, .int .i64 ((k : Nat) : Int)), (13, .bool true), (7, .int .i64 ((min (4 * k) b.length : Nat) : Int)), (8, .int .i64 ((tk b k).1)), (9, .int .i64 ((tk b k).2)), (29, .bool false), (41, .bool false)]) ⟨rfl, rfl, rfl, rfl, rfl, rfl, rfl, rfl, rfl, rfl, rfl, rfl, trivial⟩ ?_
          refine wQ_then ?_
          refine wC_cond_f rfl ?_
          refine wC_skip ?_
          refine wQ_then ?_
          refine wC_region ?_
          refine wL_val (v := .slice A9 k c9) (wn rfl) rfl rfl (y_move rfl rfl) ?_
          refine wL_val (v := .int .i64 ((tk b k).1)) (wn rfl) rfl rfl (y_move rfl rfl) ?_
          refine wL_new (V := fun b => .slice (some ⟨b, 0, none⟩) 1 1) (row := #[.int .i64 ((tk b k).1)]) (t := 3) S15 (wn rfl) rfl rfl (d_buildSlice (vs := [(0, .int .i64 ((tk b k).1))]) rfl ⟨rfl, rfl, trivial⟩ (by kernel_rfl)) ?_
          intro b52 w53 S54
          clear S15
          refine wL_append (news := [.int .i64 ((tk b k).1)]) (xs' := (numsTo b (k + 1)).flatMap oneI) 2 S54 (wn rfl) rfl rfl rfl rfl rfl rfl (St.bld (xs := [.int .i64 ((tk b k).1)]) 0 S54 rfl rfl rfl) Try.underlying143 infz3 rfl (by decide) (oneAll rfl) (by simp only [maxLen]; omega) (by omega) (fm_snoc (enc := oneI) (numsTo_succ b k).symm rfl) ?_
          intro A55 c56 w57 hc59 hm60 S58
          clear S54
          change St _ _ _ [.blk b52 #[.int .i64 ((tk b k).1)] 3, .rd 1 A10 (b.length - min (4 * k) b.length) (byteCells (b.drop (min (4 * k) b.length))), .own 3 1 (.slice A55 (k + 1) c56) (k + 1) ((numsTo b (k + 1)).flatMap oneI), .blk b1 #[.int .i64 0, .int .i64 0, .int .i64 0, .int .i64 0, .int .i64 0, .int .i64 0, .int .i64 0, .int .i64 0, .int .i64 0, .int .i64 0] 51, .rd 1 A b.length (byteCells b)] at S58
          refine wL_val (v := .slice A55 (k + 1) c56) (wn rfl) rfl rfl (y_assign rfl rfl) ?_
          refine wL_nil ?_
          refine wQ_sub (l' := [(0, .slice A b.length c), (2, .pointer (some ⟨b1, 0, none⟩)), (3, .int .i64 0), (4, .int .i64 ((mk10 b k : Nat) : Int)), (5, .slice A55 (k + 1) c56), (6, .int .i64 ((k : Nat) : Int)), (13, .bool true), (7, .int .i64 ((min (4 * k) b.length : Nat) : Int)), (8, .int .i64 ((tk b k).1)), (9, .int .i64 ((tk b k).2)), (29, .bool false), (41, .bool false)]) ⟨rfl, rfl, rfl, rfl, rfl, rfl, rfl, rfl, rfl, rfl, rfl, rfl, trivial⟩ ?_
          refine wQ_blk_n ?_
          refine wQ_then ?_
          refine wC_region ?_
          refine wL_val (v := .int .i64 ((k : Nat) : Int)) (wn rfl) rfl rfl (y_move rfl rfl) ?_
          refine wL_val (v := .int .i64 ((k + 1 : Nat) : Int)) (wn rfl) rfl rfl (y_binop rfl rfl rfl (r_add (by omega) (by omega))) ?_
          refine wL_val (v := .int .i64 ((k + 1 : Nat) : Int)) (wn rfl) rfl rfl (y_assign rfl rfl) ?_
          refine wL_nil ?_
          refine wQ_sub (l' := [(0, .slice A b.length c), (2, .pointer (some ⟨b1, 0, none⟩)), (3, .int .i64 0), (4, .int .i64 ((mk10 b k : Nat) : Int)), (5, .slice A55 (k + 1) c56), (6, .int .i64 ((k + 1 : Nat) : Int)), (13, .bool true), (7, .int .i64 ((min (4 * k) b.length : Nat) : Int)), (8, .int .i64 ((tk b k).1)), (9, .int .i64 ((tk b k).2)), (29, .bool false), (41, .bool false)]) ⟨rfl, rfl, rfl, rfl, rfl, rfl, rfl, rfl, rfl, rfl, rfl, rfl, trivial⟩ ?_
          have S61 : St w.heap.size w w57 [.own 3 1 (.slice A55 (k + 1) c56) (k + 1) ((numsTo b (k + 1)).flatMap oneI), .blk b1 #[.int .i64 0, .int .i64 0, .int .i64 0, .int .i64 0, .int .i64 0, .int .i64 0, .int .i64 0, .int .i64 0, .int .i64 0, .int .i64 0] 51, .rd 1 A b.length (byteCells b)] := (St.del 0 (St.del 1 S58))
          clear S58
          refine wQ_round (k + 1, A55, c56) ?_ ⟨rfl, rfl, rfl, (px_int (mk_same h19)), rfl, rfl, trivial⟩ (by dsimp only; have := mk_or b k; omega)
          exact ⟨(by dsimp only; exact mk_le h19 h9), (fun j hj => (Nat.lt_succ_iff_lt_or_eq.1 hj).elim (fun h => hi8 j h) (fun h => by rw [h]; exact h18)), S61⟩
      · refine wL_val (v := .bool true) (wn rfl) rfl rfl (y_binop rfl rfl rfl (r_neq_t h18)) ?_
        refine wL_nil ?_
        refine wQ_sub (l' := [(0, .slice A b.length c), (2, .pointer (some ⟨b1, 0, none⟩)), (3, .int .i64 0), (4, .int .i64 ((mk10 b k : Nat) : Int)), (5, .slice A9 k c9), (6, .int .i64 ((k : Nat) : Int)), (13, .bool true), (7, .int .i64 ((min (4 * k) b.length : Nat) : Int)), (8, .int .i64 ((tk b k).1)), (9, .int .i64 ((tk b k).2)), (29, .bool true)]) ⟨rfl, rfl, rfl, rfl, rfl, rfl, rfl, rfl, rfl, rfl, rfl, trivial⟩ ?_
        refine wQ_then ?_
        refine wC_cond_t rfl ?_
        refine wC_seq ?_
        refine wC_region ?_
        refine wL_val (v := .agg #[.int .i64 0, .int .i64 0, .int .i64 0, .int .i64 0, .int .i64 0, .int .i64 0, .int .i64 0, .int .i64 0, .int .i64 0, .int .i64 0]) (wn rfl) rfl rfl (y_build (vs := []) rfl trivial (by kernel_rfl)) ?_
        refine wL_val (v := .int .i64 ((tk b k).2)) (wn rfl) rfl rfl (y_move rfl rfl) ?_
        refine wL_st (cs := #[.int .i64 0, .int .i64 0, .int .i64 0, .int .i64 0, .int .i64 0, .int .i64 0, .int .i64 0, .int .i64 0, .int .i64 0, .int .i64 0]) (row' := #[.int .i64 0, .int .i64 0, .int .i64 0, .int .i64 0, .int .i64 0, .int .i64 0, .int .i64 0, .int .i64 0, .int .i64 0, .int .i64 0]) (fs' := [.rd 1 A10 (b.length - min (4 * k) b.length) (byteCells (b.drop (min (4 * k) b.length))), .own 3 1 (.slice A9 k c9) k ((numsTo b k).flatMap oneI), .blk b1 #[.int .i64 0, .int .i64 0, .int .i64 0, .int .i64 0, .int .i64 0, .int .i64 0, .int .i64 0, .int .i64 0, .int .i64 0, .int .i64 0] 51, .rd 1 A b.length (byteCells b) ]) 2 S15 (wn rfl) rfl rfl rfl rfl rfl rfl inf51 rfl (oneAll rfl) (Nat.le_of_ble_eq_true rfl) (setAll_all rfl) rfl ?_
        intro w62 S63
        clear S15
        refine wL_val (v := .int .i64 ((tk b k).2)) (wn rfl) rfl rfl (y_assign rfl rfl) ?_
        refine wL_nil ?_
        refine wQ_sub (l' := [(0, .slice A b.length c), (2, .pointer (some ⟨b1, 0, none⟩)), (3, .int .i64 ((tk b k).2)), (4, .int .i64 ((mk10 b k : Nat) : Int)), (5, .slice A9 k c9), (6, .int .i64 ((k : Nat) : Int)), (13, .bool true), (7, .int .i64 ((min (4 * k) b.length : Nat) : Int)), (8, .int .i64 ((tk b k).1)), (9, .int .i64 ((tk b k).2)), (29, .bool true)]) ⟨rfl, rfl, rfl, rfl, rfl, rfl, rfl, rfl, rfl, rfl, rfl, trivial⟩ ?_
        refine wQ_then ?_
        refine wC_ret ?_
        refine wQ_then_ret ?_
        refine wQ_blk_ret ?_
        refine wQ_then_ret ?_
        refine wQ_then_ret ?_
        refine wQ_blk_ret ?_
        refine wQ_then_ret ?_
        refine wQ_post (rs := [.cell 2 51, .tmp 3]) (vs := [.agg #[.int .i64 0, .int .i64 0, .int .i64 0, .int .i64 0, .int .i64 0, .int .i64 0, .int .i64 0, .int .i64 0, .int .i64 0, .int .i64 0], .int .i64 ((tk b k).2)]) rfl ⟨⟨_, rfl, res_row 2 S63 rfl Try.underlying51 rfl inf51⟩, rfl, trivial⟩ ?_
        exact ⟨by rw [decM_err hi8 h18 (many_lt h9)]; rfl, S63.low⟩
    · obtain ⟨hke, hmk⟩ := mk_end hi7 h9
      have hmo := manyOf_or b
      refine wL_val (v := .bool false) (wn rfl) rfl rfl (y_binop rfl rfl rfl (r_lss_f (by omega))) ?_
      refine wL_nil ?_
      refine wQ_sub (l' := [(0, .slice A b.length c), (2, .pointer (some ⟨b1, 0, none⟩)), (3, .int .i64 0), (4, .int .i64 ((mk10 b k : Nat) : Int)), (5, .slice A9 k c9), (6, .int .i64 ((k : Nat) : Int)), (13, .bool false)]) ⟨rfl, rfl, rfl, rfl, rfl, rfl, rfl, trivial⟩ ?_
      refine wQ_then ?_
      refine wC_cond_f rfl ?_
      refine wC_exit ?_
      refine wQ_then_exit ?_
      refine wQ_then_exit ?_
      refine wQ_blk_same ?_
      refine wQ_then ?_
      refine wC_seq ?_
      have S64 := S6.drew
      clear S6
      refine wC_head (C := fun w' => St w.heap.size w w' [.own 3 1 (.slice A9 k c9) k ((numsTo b k).flatMap oneI), .blk b1 #[.int .i64 0, .int .i64 0, .int .i64 0, .int .i64 0, .int .i64 0, .int .i64 0, .int .i64 0, .int .i64 0, .int .i64 0, .int .i64 0] 51, .rd 1 A b.length (byteCells b)]) (m := 15) (listed := #[false, false, false, false, false, false, false, false, false, false, false, false, false, false, false]) 14 mixed rfl rfl ?_
      refine wG_take (v := .slice A9 k c9) (i := 0) (m := 14) (listed' := #[true, false, false, false, false, false, false, false, false, false, false, false, false, false, false]) rfl (by kernel_rfl) (by kernel_rfl) (by kernel_rfl) rfl (by kernel_rfl) rfl S64 rfl (wn rfl) rfl rfl (fun _ _ => (y_move rfl rfl)) ?_
      obtain ⟨b66, o67, rfl⟩ := Rd.addr (St.ord 0 S64 rfl) (by omega)
      have hx68 : (numsTo b k)[0]? = some (tk b 0).1 := numsTo_get (by omega)
      refine wG_take (v := .pointer (some ⟨b66, o67 + 0 * 1, none⟩)) (i := 1) (m := 13) (listed' := #[true, true, false, false, false, false, false, false, false, false, false, false, false, false, false]) rfl (by kernel_rfl) (by kernel_rfl) (by kernel_rfl) rfl (by kernel_rfl) rfl S64 rfl (wn rfl) rfl rfl (fun _ _ => (y_indexAddr rfl rfl rfl (r_indexAddr 0 Try.underlying143 inf3 (by omega) (by omega)))) ?_
      refine wG_take (v := .int .i64 ((tk b 0).1)) (i := 2) (m := 12) (listed' := #[true, true, true, false, false, false, false, false, false, false, false, false, false, false, false]) rfl (by kernel_rfl) (by kernel_rfl) (by kernel_rfl) rfl (by kernel_rfl) rfl S64 rfl (wn rfl) rfl rfl (fun _ Sx70 => (y_load rfl rfl (r_load Try.underlying3 rfl (Rd.cl2 (i := 0) (St.ord 0 Sx70 rfl) (fm_get (enc := oneI) (sz := 1) (fun _ => rfl) hx68 rfl))))) ?_
      refine wG_take (v := .slice (some ⟨b66, o67, none⟩) k c9) (i := 3) (m := 11) (listed' := #[true, true, true, true, false, false, false, false, false, false, false, false, false, false, false]) rfl (by kernel_rfl) (by kernel_rfl) (by kernel_rfl) rfl (by kernel_rfl) rfl S64 rfl (wn rfl) rfl rfl (fun _ _ => (y_move rfl rfl)) ?_
      have hx72 : (numsTo b k)[1]? = some (tk b 1).1 := numsTo_get (by omega)
      refine wG_take (v := .pointer (some ⟨b66, o67 + 1 * 1, none⟩)) (i := 4) (m := 10) (listed' := #[true, true, true, true, true, false, false, false, false, false, false, false, false, false, false]) rfl (by kernel_rfl) (by kernel_rfl) (by kernel_rfl) rfl (by kernel_rfl) rfl S64 rfl (wn rfl) rfl rfl (fun _ _ => (y_indexAddr rfl rfl rfl (r_indexAddr 1 Try.underlying143 inf3 (by omega) (by omega)))) ?_
      refine wG_take (v := .int .i64 ((tk b 1).1)) (i := 5) (m := 9) (listed' := #[true, true, true, true, true, true, false, false, false, false, false, false, false, false, false]) rfl (by kernel_rfl) (by kernel_rfl) (by kernel_rfl) rfl (by kernel_rfl) rfl S64 rfl (wn rfl) rfl rfl (fun _ Sx74 => (y_load rfl rfl (r_load Try.underlying3 rfl (Rd.cl2 (i := 0) (St.ord 0 Sx74 rfl) (fm_get (enc := oneI) (sz := 1) (fun _ => rfl) hx72 rfl))))) ?_
      refine wG_take (v := .slice (some ⟨b66, o67, none⟩) k c9) (i := 6) (m := 8) (listed' := #[true, true, true, true, true, true, true, false, false, false, false, false, false, false, false]) rfl (by kernel_rfl) (by kernel_rfl) (by kernel_rfl) rfl (by kernel_rfl) rfl S64 rfl (wn rfl) rfl rfl (fun _ _ => (y_move rfl rfl)) ?_
      have hx76 : (numsTo b k)[2]? = some (tk b 2).1 := numsTo_get (by omega)
      refine wG_take (v := .pointer (some ⟨b66, o67 + 2 * 1, none⟩)) (i := 7) (m := 7) (listed' := #[true, true, true, true, true, true, true, true, false, false, false, false, false, false, false]) rfl (by kernel_rfl) (by kernel_rfl) (by kernel_rfl) rfl (by kernel_rfl) rfl S64 rfl (wn rfl) rfl rfl (fun _ _ => (y_indexAddr rfl rfl rfl (r_indexAddr 2 Try.underlying143 inf3 (by omega) (by omega)))) ?_
      refine wG_take (v := .int .i64 ((tk b 2).1)) (i := 8) (m := 6) (listed' := #[true, true, true, true, true, true, true, true, true, false, false, false, false, false, false]) rfl (by kernel_rfl) (by kernel_rfl) (by kernel_rfl) rfl (by kernel_rfl) rfl S64 rfl (wn rfl) rfl rfl (fun _ Sx78 => (y_load rfl rfl (r_load Try.underlying3 rfl (Rd.cl2 (i := 0) (St.ord 0 Sx78 rfl) (fm_get (enc := oneI) (sz := 1) (fun _ => rfl) hx76 rfl))))) ?_
      refine wG_take (v := .slice (some ⟨b66, o67, none⟩) k c9) (i := 9) (m := 5) (listed' := #[true, true, true, true, true, true, true, true, true, true, false, false, false, false, false]) rfl (by kernel_rfl) (by kernel_rfl) (by kernel_rfl) rfl (by kernel_rfl) rfl S64 rfl (wn rfl) rfl rfl (fun _ _ => (y_move rfl rfl)) ?_
      have hx80 : (numsTo b k)[3]? = some (tk b 3).1 := numsTo_get (by omega)
      refine wG_take (v := .pointer (some ⟨b66, o67 + 3 * 1, none⟩)) (i := 10) (m := 4) (listed' := #[true, true, true, true, true, true, true, true, true, true, true, false, false, false, false]) rfl (by kernel_rfl) (by kernel_rfl) (by kernel_rfl) rfl (by kernel_rfl) rfl S64 rfl (wn rfl) rfl rfl (fun _ _ => (y_indexAddr rfl rfl rfl (r_indexAddr 3 Try.underlying143 inf3 (by omega) (by omega)))) ?_
      refine wG_take (v := .int .i64 ((tk b 3).1)) (i := 11) (m := 3) (listed' := #[true, true, true, true, true, true, true, true, true, true, true, true, false, false, false]) rfl (by kernel_rfl) (by kernel_rfl) (by kernel_rfl) rfl (by kernel_rfl) rfl S64 rfl (wn rfl) rfl rfl (fun _ Sx82 => (y_load rfl rfl (r_load Try.underlying3 rfl (Rd.cl2 (i := 0) (St.ord 0 Sx82 rfl) (fm_get (enc := oneI) (sz := 1) (fun _ => rfl) hx80 rfl))))) ?_
      refine wG_take (v := .agg #[.int .i64 ((tk b 0).1), .int .i64 ((tk b 1).1), .int .i64 ((tk b 2).1), .int .i64 ((tk b 3).1), .int .i64 0, .int .i64 0, .int .i64 0, .int .i64 0, .int .i64 0, .int .i64 0]) (i := 12) (m := 2) (listed' := #[true, true, true, true, true, true, true, true, true, true, true, true, true, false, false]) rfl (by kernel_rfl) (by kernel_rfl) (by kernel_rfl) rfl (by kernel_rfl) rfl S64 rfl (wn rfl) rfl rfl (fun _ _ => (y_build (vs := [(0, .int .i64 ((tk b 0).1)), (1, .int .i64 ((tk b 1).1)), (2, .int .i64 ((tk b 2).1)), (3, .int .i64 ((tk b 3).1))]) rfl ⟨rfl, rfl, rfl, rfl, rfl, rfl, rfl, rfl, trivial⟩ (by kernel_rfl))) ?_
      refine wG_one (m := 1) (r := 13) (by kernel_rfl) ?_
      refine wH_new (i := 13) (listed' := #[true, true, true, true, true, true, true, true, true, true, true, true, true, true, false]) rfl rfl (V := fun b => .pointer (some ⟨b, 0, none⟩)) (row := #[.int .i64 0, .int .i64 0, .int .i64 0, .int .i64 0, .int .i64 0, .int .i64 0, .int .i64 0, .int .i64 0, .int .i64 0, .int .i64 0]) (t := 51) S64 (wn rfl) rfl rfl (d_alloc rfl (Try.zeroValue51 _) rfl) ?_
      intro b84 w85 S86
      clear S64
      refine ⟨(St.del 0 S86), ?_⟩
      refine wG_tail (by kernel_rfl) rfl rfl rfl ?_
      refine wL_st (cs := #[.int .i64 ((tk b 0).1), .int .i64 ((tk b 1).1), .int .i64 ((tk b 2).1), .int .i64 ((tk b 3).1), .int .i64 0, .int .i64 0, .int .i64 0, .int .i64 0, .int .i64 0, .int .i64 0]) (row' := #[.int .i64 ((tk b 0).1), .int .i64 ((tk b 1).1), .int .i64 ((tk b 2).1), .int .i64 ((tk b 3).1), .int .i64 0, .int .i64 0, .int .i64 0, .int .i64 0, .int .i64 0, .int .i64 0]) (fs' := [.blk b84 #[.int .i64 ((tk b 0).1), .int .i64 ((tk b 1).1), .int .i64 ((tk b 2).1), .int .i64 ((tk b 3).1), .int .i64 0, .int .i64 0, .int .i64 0, .int .i64 0, .int .i64 0, .int .i64 0] 51, .own 3 1 (.slice (some ⟨b66, o67, none⟩) k c9) k ((numsTo b k).flatMap oneI), .blk b1 #[.int .i64 0, .int .i64 0, .int .i64 0, .int .i64 0, .int .i64 0, .int .i64 0, .int .i64 0, .int .i64 0, .int .i64 0, .int .i64 0] 51, .rd 1 A b.length (byteCells b) ]) 0 S86 (wn rfl) rfl rfl rfl rfl rfl rfl inf51 rfl (oneAll rfl) (Nat.le_of_ble_eq_true rfl) (setAll_all rfl) rfl ?_
      intro w87 S88
      clear S86
      refine wL_nil (wQ_np ?_)
      refine wQ_sub (l' := [(0, .slice A b.length c), (2, .pointer (some ⟨b1, 0, none⟩)), (3, .int .i64 0), (4, .int .i64 ((mk10 b k : Nat) : Int)), (5, .slice (some ⟨b66, o67, none⟩) k c9), (6, .int .i64 ((k : Nat) : Int)), (13, .bool false), (10, .pointer (some ⟨b84, 0, none⟩))]) ⟨rfl, rfl, rfl, rfl, rfl, rfl, rfl, rfl, trivial⟩ ?_
      refine wQ_then ?_
      refine wC_seq ?_
      refine wC_seq ?_
      refine wC_region ?_
      refine wL_val (v := .int .i64 ((mk10 b k : Nat) : Int)) (wn rfl) rfl rfl (y_move rfl rfl) ?_
      by_cases h89 : manyOf b = 10
      · refine wL_val (v := .bool true) (wn rfl) rfl rfl (y_binop rfl rfl rfl (r_eql_t (by omega))) ?_
        refine wL_nil ?_
        refine wQ_sub (l' := [(0, .slice A b.length c), (2, .pointer (some ⟨b1, 0, none⟩)), (3, .int .i64 0), (4, .int .i64 ((mk10 b k : Nat) : Int)), (5, .slice (some ⟨b66, o67, none⟩) k c9), (6, .int .i64 ((k : Nat) : Int)), (13, .bool false), (10, .pointer (some ⟨b84, 0, none⟩)), (60, .bool true)]) ⟨rfl, rfl, rfl, rfl, rfl, rfl, rfl, rfl, rfl, trivial⟩ ?_
        refine wQ_then ?_
        refine wC_cond_t rfl ?_
        have S90 := S88.drew
        clear S88
        refine wC_head (C := fun w' => St w.heap.size w w' [.blk b84 #[.int .i64 ((tk b 0).1), .int .i64 ((tk b 1).1), .int .i64 ((tk b 2).1), .int .i64 ((tk b 3).1), .int .i64 0, .int .i64 0, .int .i64 0, .int .i64 0, .int .i64 0, .int .i64 0] 51, .own 3 1 (.slice (some ⟨b66, o67, none⟩) k c9) k ((numsTo b k).flatMap oneI), .blk b1 #[.int .i64 0, .int .i64 0, .int .i64 0, .int .i64 0, .int .i64 0, .int .i64 0, .int .i64 0, .int .i64 0, .int .i64 0, .int .i64 0] 51, .rd 1 A b.length (byteCells b)]) (m := 22) (listed := #[false, false, false, false, false, false, false, false, false, false, false, false, false, false, false, false, false, false, false, false, false, false]) 20 mixed rfl rfl ?_
        refine wG_take (v := .slice (some ⟨b66, o67, none⟩) k c9) (i := 0) (m := 21) (listed' := #[true, false, false, false, false, false, false, false, false, false, false, false, false, false, false, false, false, false, false, false, false, false]) rfl (by kernel_rfl) (by kernel_rfl) (by kernel_rfl) rfl (by kernel_rfl) rfl S90 rfl (wn rfl) rfl rfl (fun _ _ => (y_move rfl rfl)) ?_
        have hx92 : (numsTo b k)[4]? = some (tk b 4).1 := numsTo_get (by omega)
        refine wG_take (v := .pointer (some ⟨b66, o67 + 4 * 1, none⟩)) (i := 1) (m := 20) (listed' := #[true, true, false, false, false, false, false, false, false, false, false, false, false, false, false, false, false, false, false, false, false, false]) rfl (by kernel_rfl) (by kernel_rfl) (by kernel_rfl) rfl (by kernel_rfl) rfl S90 rfl (wn rfl) rfl rfl (fun _ _ => (y_indexAddr rfl rfl rfl (r_indexAddr 4 Try.underlying143 inf3 (by omega) (by omega)))) ?_
        refine wG_take (v := .int .i64 ((tk b 4).1)) (i := 2) (m := 19) (listed' := #[true, true, true, false, false, false, false, false, false, false, false, false, false, false, false, false, false, false, false, false, false, false]) rfl (by kernel_rfl) (by kernel_rfl) (by kernel_rfl) rfl (by kernel_rfl) rfl S90 rfl (wn rfl) rfl rfl (fun _ Sx94 => (y_load rfl rfl (r_load Try.underlying3 rfl (Rd.cl2 (i := 0) (St.ord 1 Sx94 rfl) (fm_get (enc := oneI) (sz := 1) (fun _ => rfl) hx92 rfl))))) ?_
        refine wG_take (v := .slice (some ⟨b66, o67, none⟩) k c9) (i := 3) (m := 18) (listed' := #[true, true, true, true, false, false, false, false, false, false, false, false, false, false, false, false, false, false, false, false, false, false]) rfl (by kernel_rfl) (by kernel_rfl) (by kernel_rfl) rfl (by kernel_rfl) rfl S90 rfl (wn rfl) rfl rfl (fun _ _ => (y_move rfl rfl)) ?_
        have hx96 : (numsTo b k)[5]? = some (tk b 5).1 := numsTo_get (by omega)
        refine wG_take (v := .pointer (some ⟨b66, o67 + 5 * 1, none⟩)) (i := 4) (m := 17) (listed' := #[true, true, true, true, true, false, false, false, false, false, false, false, false, false, false, false, false, false, false, false, false, false]) rfl (by kernel_rfl) (by kernel_rfl) (by kernel_rfl) rfl (by kernel_rfl) rfl S90 rfl (wn rfl) rfl rfl (fun _ _ => (y_indexAddr rfl rfl rfl (r_indexAddr 5 Try.underlying143 inf3 (by omega) (by omega)))) ?_
        refine wG_take (v := .int .i64 ((tk b 5).1)) (i := 5) (m := 16) (listed' := #[true, true, true, true, true, true, false, false, false, false, false, false, false, false, false, false, false, false, false, false, false, false]) rfl (by kernel_rfl) (by kernel_rfl) (by kernel_rfl) rfl (by kernel_rfl) rfl S90 rfl (wn rfl) rfl rfl (fun _ Sx98 => (y_load rfl rfl (r_load Try.underlying3 rfl (Rd.cl2 (i := 0) (St.ord 1 Sx98 rfl) (fm_get (enc := oneI) (sz := 1) (fun _ => rfl) hx96 rfl))))) ?_
        refine wG_take (v := .slice (some ⟨b66, o67, none⟩) k c9) (i := 6) (m := 15) (listed' := #[true, true, true, true, true, true, true, false, false, false, false, false, false, false, false, false, false, false, false, false, false, false]) rfl (by kernel_rfl) (by kernel_rfl) (by kernel_rfl) rfl (by kernel_rfl) rfl S90 rfl (wn rfl) rfl rfl (fun _ _ => (y_move rfl rfl)) ?_
        have hx100 : (numsTo b k)[6]? = some (tk b 6).1 := numsTo_get (by omega)
        refine wG_take (v := .pointer (some ⟨b66, o67 + 6 * 1, none⟩)) (i := 7) (m := 14) (listed' := #[true, true, true, true, true, true, true, true, false, false, false, false, false, false, false, false, false, false, false, false, false, false]) rfl (by kernel_rfl) (by kernel_rfl) (by kernel_rfl) rfl (by kernel_rfl) rfl S90 rfl (wn rfl) rfl rfl (fun _ _ => (y_indexAddr rfl rfl rfl (r_indexAddr 6 Try.underlying143 inf3 (by omega) (by omega)))) ?_
        refine wG_take (v := .int .i64 ((tk b 6).1)) (i := 8) (m := 13) (listed' := #[true, true, true, true, true, true, true, true, true, false, false, false, false, false, false, false, false, false, false, false, false, false]) rfl (by kernel_rfl) (by kernel_rfl) (by kernel_rfl) rfl (by kernel_rfl) rfl S90 rfl (wn rfl) rfl rfl (fun _ Sx102 => (y_load rfl rfl (r_load Try.underlying3 rfl (Rd.cl2 (i := 0) (St.ord 1 Sx102 rfl) (fm_get (enc := oneI) (sz := 1) (fun _ => rfl) hx100 rfl))))) ?_
        refine wG_take (v := .slice (some ⟨b66, o67, none⟩) k c9) (i := 9) (m := 12) (listed' := #[true, true, true, true, true, true, true, true, true, true, false, false, false, false, false, false, false, false, false, false, false, false]) rfl (by kernel_rfl) (by kernel_rfl) (by kernel_rfl) rfl (by kernel_rfl) rfl S90 rfl (wn rfl) rfl rfl (fun _ _ => (y_move rfl rfl)) ?_
        have hx104 : (numsTo b k)[7]? = some (tk b 7).1 := numsTo_get (by omega)
        refine wG_take (v := .pointer (some ⟨b66, o67 + 7 * 1, none⟩)) (i := 10) (m := 11) (listed' := #[true, true, true, true, true, true, true, true, true, true, true, false, false, false, false, false, false, false, false, false, false, false]) rfl (by kernel_rfl) (by kernel_rfl) (by kernel_rfl) rfl (by kernel_rfl) rfl S90 rfl (wn rfl) rfl rfl (fun _ _ => (y_indexAddr rfl rfl rfl (r_indexAddr 7 Try.underlying143 inf3 (by omega) (by omega)))) ?_
        refine wG_take (v := .int .i64 ((tk b 7).1)) (i := 11) (m := 10) (listed' := #[true, true, true, true, true, true, true, true, true, true, true, true, false, false, false, false, false, false, false, false, false, false]) rfl (by kernel_rfl) (by kernel_rfl) (by kernel_rfl) rfl (by kernel_rfl) rfl S90 rfl (wn rfl) rfl rfl (fun _ Sx106 => (y_load rfl rfl (r_load Try.underlying3 rfl (Rd.cl2 (i := 0) (St.ord 1 Sx106 rfl) (fm_get (enc := oneI) (sz := 1) (fun _ => rfl) hx104 rfl))))) ?_
        refine wG_take (v := .slice (some ⟨b66, o67, none⟩) k c9) (i := 12) (m := 9) (listed' := #[true, true, true, true, true, true, true, true, true, true, true, true, true, false, false, false, false, false, false, false, false, false]) rfl (by kernel_rfl) (by kernel_rfl) (by kernel_rfl) rfl (by kernel_rfl) rfl S90 rfl (wn rfl) rfl rfl (fun _ _ => (y_move rfl rfl)) ?_
        have hx108 : (numsTo b k)[8]? = some (tk b 8).1 := numsTo_get (by omega)
        refine wG_take (v := .pointer (some ⟨b66, o67 + 8 * 1, none⟩)) (i := 13) (m := 8) (listed' := #[true, true, true, true, true, true, true, true, true, true, true, true, true, true, false, false, false, false, false, false, false, false]) rfl (by kernel_rfl) (by kernel_rfl) (by kernel_rfl) rfl (by kernel_rfl) rfl S90 rfl (wn rfl) rfl rfl (fun _ _ => (y_indexAddr rfl rfl rfl (r_indexAddr 8 Try.underlying143 inf3 (by omega) (by omega)))) ?_
        refine wG_take (v := .int .i64 ((tk b 8).1)) (i := 14) (m := 7) (listed' := #[true, true, true, true, true, true, true, true, true, true, true, true, true, true, true, false, false, false, false, false, false, false]) rfl (by kernel_rfl) (by kernel_rfl) (by kernel_rfl) rfl (by kernel_rfl) rfl S90 rfl (wn rfl) rfl rfl (fun _ Sx110 => (y_load rfl rfl (r_load Try.underlying3 rfl (Rd.cl2 (i := 0) (St.ord 1 Sx110 rfl) (fm_get (enc := oneI) (sz := 1) (fun _ => rfl) hx108 rfl))))) ?_
        refine wG_take (v := .slice (some ⟨b66, o67, none⟩) k c9) (i := 15) (m := 6) (listed' := #[true, true, true, true, true, true, true, true, true, true, true, true, true, true, true, true, false, false, false, false, false, false]) rfl (by kernel_rfl) (by kernel_rfl) (by kernel_rfl) rfl (by kernel_rfl) rfl S90 rfl (wn rfl) rfl rfl (fun _ _ => (y_move rfl rfl)) ?_
        have hx112 : (numsTo b k)[9]? = some (tk b 9).1 := numsTo_get (by omega)
        refine wG_take (v := .pointer (some ⟨b66, o67 + 9 * 1, none⟩)) (i := 16) (m := 5) (listed' := #[true, true, true, true, true, true, true, true, true, true, true, true, true, true, true, true, true, false, false, false, false, false]) rfl (by kernel_rfl) (by kernel_rfl) (by kernel_rfl) rfl (by kernel_rfl) rfl S90 rfl (wn rfl) rfl rfl (fun _ _ => (y_indexAddr rfl rfl rfl (r_indexAddr 9 Try.underlying143 inf3 (by omega) (by omega)))) ?_
        refine wG_take (v := .int .i64 ((tk b 9).1)) (i := 17) (m := 4) (listed' := #[true, true, true, true, true, true, true, true, true, true, true, true, true, true, true, true, true, true, false, false, false, false]) rfl (by kernel_rfl) (by kernel_rfl) (by kernel_rfl) rfl (by kernel_rfl) rfl S90 rfl (wn rfl) rfl rfl (fun _ Sx114 => (y_load rfl rfl (r_load Try.underlying3 rfl (Rd.cl2 (i := 0) (St.ord 1 Sx114 rfl) (fm_get (enc := oneI) (sz := 1) (fun _ => rfl) hx112 rfl))))) ?_
        refine wG_take (v := .agg #[.int .i64 ((tk b 8).1), .int .i64 ((tk b 9).1)]) (i := 18) (m := 3) (listed' := #[true, true, true, true, true, true, true, true, true, true, true, true, true, true, true, true, true, true, true, false, false, false]) rfl (by kernel_rfl) (by kernel_rfl) (by kernel_rfl) rfl (by kernel_rfl) rfl S90 rfl (wn rfl) rfl rfl (fun _ _ => (y_build (vs := [(0, .int .i64 ((tk b 8).1)), (1, .int .i64 ((tk b 9).1))]) rfl ⟨rfl, rfl, rfl, rfl, trivial⟩ (by kernel_rfl))) ?_
        refine wG_take (v := .agg #[.int .i64 ((tk b 4).1), .int .i64 ((tk b 5).1), .int .i64 ((tk b 6).1), .int .i64 ((tk b 7).1), .int .i64 ((tk b 8).1), .int .i64 ((tk b 9).1)]) (i := 19) (m := 2) (listed' := #[true, true, true, true, true, true, true, true, true, true, true, true, true, true, true, true, true, true, true, true, false, false]) rfl (by kernel_rfl) (by kernel_rfl) (by kernel_rfl) rfl (by kernel_rfl) rfl S90 rfl (wn rfl) rfl rfl (fun _ _ => (y_build (vs := [(0, .int .i64 ((tk b 4).1)), (1, .int .i64 ((tk b 5).1)), (2, .int .i64 ((tk b 6).1)), (3, .int .i64 ((tk b 7).1)), (4, .agg #[.int .i64 ((tk b 8).1), .int .i64 ((tk b 9).1)])]) rfl ⟨rfl, rfl, rfl, rfl, rfl, rfl, rfl, rfl, rfl, rfl, trivial⟩ (by kernel_rfl))) ?_
        refine wG_tail (by kernel_rfl) rfl rfl rfl ?_
        refine wL_val (v := .pointer (some ⟨b84, 4, none⟩)) (wn rfl) rfl rfl (y_fieldAddr rfl rfl (fa51_4 _ _ _)) ?_
        refine wL_st (cs := #[.int .i64 ((tk b 4).1), .int .i64 ((tk b 5).1), .int .i64 ((tk b 6).1), .int .i64 ((tk b 7).1), .int .i64 ((tk b 8).1), .int .i64 ((tk b 9).1)]) (row' := #[.int .i64 ((tk b 0).1), .int .i64 ((tk b 1).1), .int .i64 ((tk b 2).1), .int .i64 ((tk b 3).1), .int .i64 ((tk b 4).1), .int .i64 ((tk b 5).1), .int .i64 ((tk b 6).1), .int .i64 ((tk b 7).1), .int .i64 ((tk b 8).1), .int .i64 ((tk b 9).1)]) (fs' := [.blk b84 #[.int .i64 ((tk b 0).1), .int .i64 ((tk b 1).1), .int .i64 ((tk b 2).1), .int .i64 ((tk b 3).1), .int .i64 ((tk b 4).1), .int .i64 ((tk b 5).1), .int .i64 ((tk b 6).1), .int .i64 ((tk b 7).1), .int .i64 ((tk b 8).1), .int .i64 ((tk b 9).1)] 51, .own 3 1 (.slice (some ⟨b66, o67, none⟩) k c9) k ((numsTo b k).flatMap oneI), .blk b1 #[.int .i64 0, .int .i64 0, .int .i64 0, .int .i64 0, .int .i64 0, .int .i64 0, .int .i64 0, .int .i64 0, .int .i64 0, .int .i64 0] 51, .rd 1 A b.length (byteCells b) ]) 0 S90 (wn rfl) rfl rfl rfl rfl rfl rfl inf37 rfl (oneAll rfl) (Nat.le_of_ble_eq_true rfl) rfl rfl ?_
        intro w117 S118
        clear S90
        refine wL_nil (wQ_np ?_)
        refine wQ_sub (l' := [(0, .slice A b.length c), (2, .pointer (some ⟨b1, 0, none⟩)), (3, .int .i64 0), (4, .int .i64 ((mk10 b k : Nat) : Int)), (5, .slice (some ⟨b66, o67, none⟩) k c9), (6, .int .i64 ((k : Nat) : Int)), (13, .bool false), (10, .pointer (some ⟨b84, 0, none⟩)), (60, .bool true)]) ⟨rfl, rfl, rfl, rfl, rfl, rfl, rfl, rfl, rfl, trivial⟩ ?_
        refine wQ_then ?_
        refine wC_seq ?_
        refine wC_seq ?_
        refine wC_region ?_
        refine wL_val (v := .slice A b.length c) (wn rfl) rfl rfl (y_move rfl rfl) ?_
        refine wL_val (v := .int .i64 ((b.length : Nat) : Int)) (wn rfl) rfl rfl (y_builtin (vs := [.slice A b.length c]) rfl ⟨rfl, trivial⟩ fun _ => r_len rfl Try.underlying52) ?_
        refine wL_val (v := .int .i64 ((mk10 b k : Nat) : Int)) (wn rfl) rfl rfl (y_move rfl rfl) ?_
        refine wL_val (v := .int .i64 ((4 * (mk10 b k) : Nat) : Int)) (wn rfl) rfl rfl (y_binop rfl rfl rfl (r_mul (by omega) (by omega))) ?_
        by_cases h119 : b.length = 4 * manyOf b
        · refine wL_val (v := .bool false) (wn rfl) rfl rfl (y_binop rfl rfl rfl (r_neq_f (by omega))) ?_
          refine wL_val (v := .bool false) (wn rfl) rfl rfl (y_move rfl rfl) ?_
          refine wL_val (v := .agg #[.int .i64 ((tk b 0).1), .int .i64 ((tk b 1).1), .int .i64 ((tk b 2).1), .int .i64 ((tk b 3).1), .int .i64 ((tk b 4).1), .int .i64 ((tk b 5).1), .int .i64 ((tk b 6).1), .int .i64 ((tk b 7).1), .int .i64 ((tk b 8).1), .int .i64 ((tk b 9).1)]) (wg rfl rfl rfl rfl) rfl rfl (y_load rfl rfl (r_load_row 0 S118 rfl Try.underlying51 rfl inf51 rfl)) ?_
          have hv : Rcd.val (rcdTo b (manyOf b)) = .agg #[.int .i64 ((tk b 0).1), .int .i64 ((tk b 1).1), .int .i64 ((tk b 2).1), .int .i64 ((tk b 3).1), .int .i64 ((tk b 4).1), .int .i64 ((tk b 5).1), .int .i64 ((tk b 6).1), .int .i64 ((tk b 7).1), .int .i64 ((tk b 8).1), .int .i64 ((tk b 9).1)] := by rw [show manyOf b = 10 by omega]; simp [rcdTo, Rcd.val, rowVal]
          have hF := fun w => RecordFault_calls (rcdTo b (manyOf b)) w
          rw [hv] at hF
          refine wL_call (vs := [.agg #[.int .i64 ((tk b 0).1), .int .i64 ((tk b 1).1), .int .i64 ((tk b 2).1), .int .i64 ((tk b 3).1), .int .i64 ((tk b 4).1), .int .i64 ((tk b 5).1), .int .i64 ((tk b 6).1), .int .i64 ((tk b 7).1), .int .i64 ((tk b 8).1), .int .i64 ((tk b 9).1)]]) (wg rfl rfl rfl rfl) rfl rfl (e_call (vs := [.agg #[.int .i64 ((tk b 0).1), .int .i64 ((tk b 1).1), .int .i64 ((tk b 2).1), .int .i64 ((tk b 3).1), .int .i64 ((tk b 4).1), .int .i64 ((tk b 5).1), .int .i64 ((tk b 6).1), .int .i64 ((tk b 7).1), .int .i64 ((tk b 8).1), .int .i64 ((tk b 9).1)]]) rfl en122 ⟨rfl, trivial⟩) (hF _) ?_
          rintro _ w120 ⟨rfl, hb122⟩
          refine ⟨_, rfl, ?_⟩
          have S121 := S118.on hb122
          clear hb122 S118
          by_cases h123 : recFault (rcdTo b (manyOf b)) = 0
          · refine wL_val (v := .bool false) (wg rfl rfl rfl rfl) rfl rfl (y_binop rfl rfl rfl (r_neq_f h123)) ?_
            refine wL_val (v := .bool false) (wn rfl) rfl rfl (y_pick_f rfl rfl rfl) ?_
            refine wL_nil ?_
            refine wQ_sub (l' := [(0, .slice A b.length c), (2, .pointer (some ⟨b1, 0, none⟩)), (3, .int .i64 0), (4, .int .i64 ((mk10 b k : Nat) : Int)), (5, .slice (some ⟨b66, o67, none⟩) k c9), (6, .int .i64 ((k : Nat) : Int)), (13, .bool false), (10, .pointer (some ⟨b84, 0, none⟩)), (60, .bool true), (91, .bool false)]) ⟨rfl, rfl, rfl, rfl, rfl, rfl, rfl, rfl, rfl, rfl, trivial⟩ ?_
            refine wQ_then ?_
            refine wC_cond_f rfl ?_
            refine wC_skip ?_
            refine wQ_then ?_
            refine wC_seq ?_
            refine wC_region ?_
            refine wL_val (v := .agg #[.int .i64 ((tk b 0).1), .int .i64 ((tk b 1).1), .int .i64 ((tk b 2).1), .int .i64 ((tk b 3).1), .int .i64 ((tk b 4).1), .int .i64 ((tk b 5).1), .int .i64 ((tk b 6).1), .int .i64 ((tk b 7).1), .int .i64 ((tk b 8).1), .int .i64 ((tk b 9).1)]) (wn rfl) rfl rfl (y_load rfl rfl (r_load_row 0 S121 rfl Try.underlying51 rfl inf51 rfl)) ?_
            refine wL_st (cs := #[.int .i64 ((tk b 0).1), .int .i64 ((tk b 1).1), .int .i64 ((tk b 2).1), .int .i64 ((tk b 3).1), .int .i64 ((tk b 4).1), .int .i64 ((tk b 5).1), .int .i64 ((tk b 6).1), .int .i64 ((tk b 7).1), .int .i64 ((tk b 8).1), .int .i64 ((tk b 9).1)]) (row' := #[.int .i64 ((tk b 0).1), .int .i64 ((tk b 1).1), .int .i64 ((tk b 2).1), .int .i64 ((tk b 3).1), .int .i64 ((tk b 4).1), .int .i64 ((tk b 5).1), .int .i64 ((tk b 6).1), .int .i64 ((tk b 7).1), .int .i64 ((tk b 8).1), .int .i64 ((tk b 9).1)]) (fs' := [.blk b84 #[.int .i64 ((tk b 0).1), .int .i64 ((tk b 1).1), .int .i64 ((tk b 2).1), .int .i64 ((tk b 3).1), .int .i64 ((tk b 4).1), .int .i64 ((tk b 5).1), .int .i64 ((tk b 6).1), .int .i64 ((tk b 7).1), .int .i64 ((tk b 8).1), .int .i64 ((tk b 9).1)] 51, .own 3 1 (.slice (some ⟨b66, o67, none⟩) k c9) k ((numsTo b k).flatMap oneI), .blk b1 #[.int .i64 ((tk b 0).1), .int .i64 ((tk b 1).1), .int .i64 ((tk b 2).1), .int .i64 ((tk b 3).1), .int .i64 ((tk b 4).1), .int .i64 ((tk b 5).1), .int .i64 ((tk b 6).1), .int .i64 ((tk b 7).1), .int .i64 ((tk b 8).1), .int .i64 ((tk b 9).1)] 51, .rd 1 A b.length (byteCells b) ]) 2 S121 (wn rfl) rfl rfl rfl rfl rfl rfl inf51 rfl (oneAll rfl) (Nat.le_of_ble_eq_true rfl) (setAll_all rfl) rfl ?_
            intro w124 S125
            clear S121
            refine wL_val (v := .int .i64 0) (wn rfl) rfl rfl (y_assign rfl rfl) ?_
            refine wL_nil ?_
            refine wQ_sub (l' := [(0, .slice A b.length c), (2, .pointer (some ⟨b1, 0, none⟩)), (3, .int .i64 0), (4, .int .i64 ((mk10 b k : Nat) : Int)), (5, .slice (some ⟨b66, o67, none⟩) k c9), (6, .int .i64 ((k : Nat) : Int)), (13, .bool false), (10, .pointer (some ⟨b84, 0, none⟩)), (60, .bool true), (91, .bool false)]) ⟨rfl, rfl, rfl, rfl, rfl, rfl, rfl, rfl, rfl, rfl, trivial⟩ ?_
            refine wQ_then ?_
            refine wC_ret ?_
            refine wQ_post (rs := [.cell 2 51, .tmp 3]) (vs := [.agg #[.int .i64 ((tk b 0).1), .int .i64 ((tk b 1).1), .int .i64 ((tk b 2).1), .int .i64 ((tk b 3).1), .int .i64 ((tk b 4).1), .int .i64 ((tk b 5).1), .int .i64 ((tk b 6).1), .int .i64 ((tk b 7).1), .int .i64 ((tk b 8).1), .int .i64 ((tk b 9).1)], .int .i64 0]) rfl ⟨⟨_, rfl, res_row 2 S125 rfl Try.underlying51 rfl inf51⟩, rfl, trivial⟩ ?_
            exact ⟨by rw [decM_good hi8 hke h119 h123]; show _ = Ending.returned (.tuple #[Rcd.val (rcdTo b (manyOf b)), _]); rw [hv]; rfl, S125.low⟩
          · refine wL_val (v := .bool true) (wg rfl rfl rfl rfl) rfl rfl (y_binop rfl rfl rfl (r_neq_t h123)) ?_
            refine wL_val (v := .bool true) (wn rfl) rfl rfl (y_pick_f rfl rfl rfl) ?_
            refine wL_nil ?_
            refine wQ_sub (l' := [(0, .slice A b.length c), (2, .pointer (some ⟨b1, 0, none⟩)), (3, .int .i64 0), (4, .int .i64 ((mk10 b k : Nat) : Int)), (5, .slice (some ⟨b66, o67, none⟩) k c9), (6, .int .i64 ((k : Nat) : Int)), (13, .bool false), (10, .pointer (some ⟨b84, 0, none⟩)), (60, .bool true), (91, .bool true)]) ⟨rfl, rfl, rfl, rfl, rfl, rfl, rfl, rfl, rfl, rfl, trivial⟩ ?_
            refine wQ_then ?_
            refine wC_cond_t rfl ?_
            refine wC_seq ?_
            refine wC_region ?_
            refine wL_val (v := .agg #[.int .i64 0, .int .i64 0, .int .i64 0, .int .i64 0, .int .i64 0, .int .i64 0, .int .i64 0, .int .i64 0, .int .i64 0, .int .i64 0]) (wn rfl) rfl rfl (y_build (vs := []) rfl trivial (by kernel_rfl)) ?_
            refine wL_st (cs := #[.int .i64 0, .int .i64 0, .int .i64 0, .int .i64 0, .int .i64 0, .int .i64 0, .int .i64 0, .int .i64 0, .int .i64 0, .int .i64 0]) (row' := #[.int .i64 0, .int .i64 0, .int .i64 0, .int .i64 0, .int .i64 0, .int .i64 0, .int .i64 0, .int .i64 0, .int .i64 0, .int .i64 0]) (fs' := [.blk b84 #[.int .i64 ((tk b 0).1), .int .i64 ((tk b 1).1), .int .i64 ((tk b 2).1), .int .i64 ((tk b 3).1), .int .i64 ((tk b 4).1), .int .i64 ((tk b 5).1), .int .i64 ((tk b 6).1), .int .i64 ((tk b 7).1), .int .i64 ((tk b 8).1), .int .i64 ((tk b 9).1)] 51, .own 3 1 (.slice (some ⟨b66, o67, none⟩) k c9) k ((numsTo b k).flatMap oneI), .blk b1 #[.int .i64 0, .int .i64 0, .int .i64 0, .int .i64 0, .int .i64 0, .int .i64 0, .int .i64 0, .int .i64 0, .int .i64 0, .int .i64 0] 51, .rd 1 A b.length (byteCells b) ]) 2 S121 (wn rfl) rfl rfl rfl rfl rfl rfl inf51 rfl (oneAll rfl) (Nat.le_of_ble_eq_true rfl) (setAll_all rfl) rfl ?_
            intro w126 S127
            clear S121
            refine wL_val (v := .int .i64 3) (wn rfl) rfl rfl (y_assign rfl rfl) ?_
            refine wL_nil ?_
            refine wQ_sub (l' := [(0, .slice A b.length c), (2, .pointer (some ⟨b1, 0, none⟩)), (3, .int .i64 3), (4, .int .i64 ((mk10 b k : Nat) : Int)), (5, .slice (some ⟨b66, o67, none⟩) k c9), (6, .int .i64 ((k : Nat) : Int)), (13, .bool false), (10, .pointer (some ⟨b84, 0, none⟩)), (60, .bool true), (91, .bool true)]) ⟨rfl, rfl, rfl, rfl, rfl, rfl, rfl, rfl, rfl, rfl, trivial⟩ ?_
            refine wQ_then ?_
            refine wC_ret ?_
            refine wQ_then_ret ?_
            refine wQ_post (rs := [.cell 2 51, .tmp 3]) (vs := [.agg #[.int .i64 0, .int .i64 0, .int .i64 0, .int .i64 0, .int .i64 0, .int .i64 0, .int .i64 0, .int .i64 0, .int .i64 0, .int .i64 0], .int .i64 3]) rfl ⟨⟨_, rfl, res_row 2 S127 rfl Try.underlying51 rfl inf51⟩, rfl, trivial⟩ ?_
            exact ⟨by rw [decM_bad hi8 hke (.inr h123)]; rfl, S127.low⟩
        · refine wL_val (v := .bool true) (wn rfl) rfl rfl (y_binop rfl rfl rfl (r_neq_t (by omega))) ?_
          refine wL_val (v := .bool true) (wn rfl) rfl rfl (y_move rfl rfl) ?_
          refine wL_skip (wg rfl rfl rfl rfl) rfl rfl ?_
          refine wL_skip (wg rfl rfl rfl rfl) rfl rfl ?_
          refine wL_skip (wg rfl rfl rfl rfl) rfl rfl ?_
          refine wL_val (v := .bool true) (wn rfl) rfl rfl (y_pick_t rfl rfl rfl) ?_
          refine wL_nil ?_
          refine wQ_sub (l' := [(0, .slice A b.length c), (2, .pointer (some ⟨b1, 0, none⟩)), (3, .int .i64 0), (4, .int .i64 ((mk10 b k : Nat) : Int)), (5, .slice (some ⟨b66, o67, none⟩) k c9), (6, .int .i64 ((k : Nat) : Int)), (13, .bool false), (10, .pointer (some ⟨b84, 0, none⟩)), (60, .bool true), (91, .bool true)]) ⟨rfl, rfl, rfl, rfl, rfl, rfl, rfl, rfl, rfl, rfl, trivial⟩ ?_
          refine wQ_then ?_
          refine wC_cond_t rfl ?_
          refine wC_seq ?_
          refine wC_region ?_
          refine wL_val (v := .agg #[.int .i64 0, .int .i64 0, .int .i64 0, .int .i64 0, .int .i64 0, .int .i64 0, .int .i64 0, .int .i64 0, .int .i64 0, .int .i64 0]) (wn rfl) rfl rfl (y_build (vs := []) rfl trivial (by kernel_rfl)) ?_
          refine wL_st (cs := #[.int .i64 0, .int .i64 0, .int .i64 0, .int .i64 0, .int .i64 0, .int .i64 0, .int .i64 0, .int .i64 0, .int .i64 0, .int .i64 0]) (row' := #[.int .i64 0, .int .i64 0, .int .i64 0, .int .i64 0, .int .i64 0, .int .i64 0, .int .i64 0, .int .i64 0, .int .i64 0, .int .i64 0]) (fs' := [.blk b84 #[.int .i64 ((tk b 0).1), .int .i64 ((tk b 1).1), .int .i64 ((tk b 2).1), .int .i64 ((tk b 3).1), .int .i64 ((tk b 4).1), .int .i64 ((tk b 5).1), .int .i64 ((tk b 6).1), .int .i64 ((tk b 7).1), .int .i64 ((tk b 8).1), .int .i64 ((tk b 9).1)] 51, .own 3 1 (.slice (some ⟨b66, o67, none⟩) k c9) k ((numsTo b k).flatMap oneI), .blk b1 #[.int .i64 0, .int .i64 0, .int .i64 0, .int .i64 0, .int .i64 0, .int .i64 0, .int .i64 0, .int .i64 0, .int .i64 0, .int .i64 0] 51, .rd 1 A b.length (byteCells b) ]) 2 S118 (wn rfl) rfl rfl rfl rfl rfl rfl inf51 rfl (oneAll rfl) (Nat.le_of_ble_eq_true rfl) (setAll_all rfl) rfl ?_
          intro w128 S129
          clear S118
          refine wL_val (v := .int .i64 3) (wn rfl) rfl rfl (y_assign rfl rfl) ?_
          refine wL_nil ?_
          refine wQ_sub (l' := [(0, .slice A b.length c), (2, .pointer (some ⟨b1, 0, none⟩)), (3, .int .i64 3), (4, .int .i64 ((mk10 b k : Nat) : Int)), (5, .slice (some ⟨b66, o67, none⟩) k c9), (6, .int .i64 ((k : Nat) : Int)), (13, .bool false), (10, .pointer (some ⟨b84, 0, none⟩)), (60, .bool true), (91, .bool true)]) ⟨rfl, rfl, rfl, rfl, rfl, rfl, rfl, rfl, rfl, rfl, trivial⟩ ?_
          refine wQ_then ?_
          refine wC_ret ?_
          refine wQ_then_ret ?_
          refine wQ_post (rs := [.cell 2 51, .tmp 3]) (vs := [.agg #[.int .i64 0, .int .i64 0, .int .i64 0, .int .i64 0, .int .i64 0, .int .i64 0, .int .i64 0, .int .i64 0, .int .i64 0, .int .i64 0], .int .i64 3]) rfl ⟨⟨_, rfl, res_row 2 S129 rfl Try.underlying51 rfl inf51⟩, rfl, trivial⟩ ?_
          exact ⟨by rw [decM_bad hi8 hke (.inl h119)]; rfl, S129.low⟩
      · have hm4 : manyOf b = 4 := by omega
        refine wL_val (v := .bool false) (wn rfl) rfl rfl (y_binop rfl rfl rfl (r_eql_f (by omega))) ?_
        refine wL_nil ?_
        refine wQ_sub (l' := [(0, .slice A b.length c), (2, .pointer (some ⟨b1, 0, none⟩)), (3, .int .i64 0), (4, .int .i64 ((mk10 b k : Nat) : Int)), (5, .slice (some ⟨b66, o67, none⟩) k c9), (6, .int .i64 ((k : Nat) : Int)), (13, .bool false), (10, .pointer (some ⟨b84, 0, none⟩)), (60, .bool false)]) ⟨rfl, rfl, rfl, rfl, rfl, rfl, rfl, rfl, rfl, trivial⟩ ?_
        refine wQ_then ?_
        refine wC_cond_f rfl ?_
        refine wC_skip ?_
        refine wQ_then ?_
        refine wC_seq ?_
        refine wC_seq ?_
        refine wC_region ?_
        refine wL_val (v := .slice A b.length c) (wn rfl) rfl rfl (y_move rfl rfl) ?_
        refine wL_val (v := .int .i64 ((b.length : Nat) : Int)) (wn rfl) rfl rfl (y_builtin (vs := [.slice A b.length c]) rfl ⟨rfl, trivial⟩ fun _ => r_len rfl Try.underlying52) ?_
        refine wL_val (v := .int .i64 ((mk10 b k : Nat) : Int)) (wn rfl) rfl rfl (y_move rfl rfl) ?_
        refine wL_val (v := .int .i64 ((4 * (mk10 b k) : Nat) : Int)) (wn rfl) rfl rfl (y_binop rfl rfl rfl (r_mul (by omega) (by omega))) ?_
        by_cases h130 : b.length = 4 * manyOf b
        · refine wL_val (v := .bool false) (wn rfl) rfl rfl (y_binop rfl rfl rfl (r_neq_f (by omega))) ?_
          refine wL_val (v := .bool false) (wn rfl) rfl rfl (y_move rfl rfl) ?_
          refine wL_val (v := .agg #[.int .i64 ((tk b 0).1), .int .i64 ((tk b 1).1), .int .i64 ((tk b 2).1), .int .i64 ((tk b 3).1), .int .i64 0, .int .i64 0, .int .i64 0, .int .i64 0, .int .i64 0, .int .i64 0]) (wg rfl rfl rfl rfl) rfl rfl (y_load rfl rfl (r_load_row 0 S88 rfl Try.underlying51 rfl inf51 rfl)) ?_
          have hv : Rcd.val (rcdTo b (manyOf b)) = .agg #[.int .i64 ((tk b 0).1), .int .i64 ((tk b 1).1), .int .i64 ((tk b 2).1), .int .i64 ((tk b 3).1), .int .i64 0, .int .i64 0, .int .i64 0, .int .i64 0, .int .i64 0, .int .i64 0] := by rw [hm4]; simp [rcdTo, Rcd.val, rowVal]
          have hF := fun w => RecordFault_calls (rcdTo b (manyOf b)) w
          rw [hv] at hF
          refine wL_call (vs := [.agg #[.int .i64 ((tk b 0).1), .int .i64 ((tk b 1).1), .int .i64 ((tk b 2).1), .int .i64 ((tk b 3).1), .int .i64 0, .int .i64 0, .int .i64 0, .int .i64 0, .int .i64 0, .int .i64 0]]) (wg rfl rfl rfl rfl) rfl rfl (e_call (vs := [.agg #[.int .i64 ((tk b 0).1), .int .i64 ((tk b 1).1), .int .i64 ((tk b 2).1), .int .i64 ((tk b 3).1), .int .i64 0, .int .i64 0, .int .i64 0, .int .i64 0, .int .i64 0, .int .i64 0]]) rfl en122 ⟨rfl, trivial⟩) (hF _) ?_
          rintro _ w131 ⟨rfl, hb133⟩
          refine ⟨_, rfl, ?_⟩
          have S132 := S88.on hb133
          clear hb133 S88
          by_cases h134 : recFault (rcdTo b (manyOf b)) = 0
          · refine wL_val (v := .bool false) (wg rfl rfl rfl rfl) rfl rfl (y_binop rfl rfl rfl (r_neq_f h134)) ?_
            refine wL_val (v := .bool false) (wn rfl) rfl rfl (y_pick_f rfl rfl rfl) ?_
            refine wL_nil ?_
            refine wQ_sub (l' := [(0, .slice A b.length c), (2, .pointer (some ⟨b1, 0, none⟩)), (3, .int .i64 0), (4, .int .i64 ((mk10 b k : Nat) : Int)), (5, .slice (some ⟨b66, o67, none⟩) k c9), (6, .int .i64 ((k : Nat) : Int)), (13, .bool false), (10, .pointer (some ⟨b84, 0, none⟩)), (60, .bool false), (91, .bool false)]) ⟨rfl, rfl, rfl, rfl, rfl, rfl, rfl, rfl, rfl, rfl, trivial⟩ ?_
            refine wQ_then ?_
            refine wC_cond_f rfl ?_
            refine wC_skip ?_
            refine wQ_then ?_
            refine wC_seq ?_
            refine wC_region ?_
            refine wL_val (v := .agg #[.int .i64 ((tk b 0).1), .int .i64 ((tk b 1).1), .int .i64 ((tk b 2).1), .int .i64 ((tk b 3).1), .int .i64 0, .int .i64 0, .int .i64 0, .int .i64 0, .int .i64 0, .int .i64 0]) (wn rfl) rfl rfl (y_load rfl rfl (r_load_row 0 S132 rfl Try.underlying51 rfl inf51 rfl)) ?_
            refine wL_st (cs := #[.int .i64 ((tk b 0).1), .int .i64 ((tk b 1).1), .int .i64 ((tk b 2).1), .int .i64 ((tk b 3).1), .int .i64 0, .int .i64 0, .int .i64 0, .int .i64 0, .int .i64 0, .int .i64 0]) (row' := #[.int .i64 ((tk b 0).1), .int .i64 ((tk b 1).1), .int .i64 ((tk b 2).1), .int .i64 ((tk b 3).1), .int .i64 0, .int .i64 0, .int .i64 0, .int .i64 0, .int .i64 0, .int .i64 0]) (fs' := [.blk b84 #[.int .i64 ((tk b 0).1), .int .i64 ((tk b 1).1), .int .i64 ((tk b 2).1), .int .i64 ((tk b 3).1), .int .i64 0, .int .i64 0, .int .i64 0, .int .i64 0, .int .i64 0, .int .i64 0] 51, .own 3 1 (.slice (some ⟨b66, o67, none⟩) k c9) k ((numsTo b k).flatMap oneI), .blk b1 #[.int .i64 ((tk b 0).1), .int .i64 ((tk b 1).1), .int .i64 ((tk b 2).1), .int .i64 ((tk b 3).1), .int .i64 0, .int .i64 0, .int .i64 0, .int .i64 0, .int .i64 0, .int .i64 0] 51, .rd 1 A b.length (byteCells b) ]) 2 S132 (wn rfl) rfl rfl rfl rfl rfl rfl inf51 rfl (oneAll rfl) (Nat.le_of_ble_eq_true rfl) (setAll_all rfl) rfl ?_
            intro w135 S136
            clear S132
            refine wL_val (v := .int .i64 0) (wn rfl) rfl rfl (y_assign rfl rfl) ?_
            refine wL_nil ?_
            refine wQ_sub (l' := [(0, .slice A b.length c), (2, .pointer (some ⟨b1, 0, none⟩)), (3, .int .i64 0), (4, .int .i64 ((mk10 b k : Nat) : Int)), (5, .slice (some ⟨b66, o67, none⟩) k c9), (6, .int .i64 ((k : Nat) : Int)), (13, .bool false), (10, .pointer (some ⟨b84, 0, none⟩)), (60, .bool false), (91, .bool false)]) ⟨rfl, rfl, rfl, rfl, rfl, rfl, rfl, rfl, rfl, rfl, trivial⟩ ?_
            refine wQ_then ?_
            refine wC_ret ?_
            refine wQ_post (rs := [.cell 2 51, .tmp 3]) (vs := [.agg #[.int .i64 ((tk b 0).1), .int .i64 ((tk b 1).1), .int .i64 ((tk b 2).1), .int .i64 ((tk b 3).1), .int .i64 0, .int .i64 0, .int .i64 0, .int .i64 0, .int .i64 0, .int .i64 0], .int .i64 0]) rfl ⟨⟨_, rfl, res_row 2 S136 rfl Try.underlying51 rfl inf51⟩, rfl, trivial⟩ ?_
            exact ⟨by rw [decM_good hi8 hke h130 h134]; show _ = Ending.returned (.tuple #[Rcd.val (rcdTo b (manyOf b)), _]); rw [hv]; rfl, S136.low⟩
          · refine wL_val (v := .bool true) (wg rfl rfl rfl rfl) rfl rfl (y_binop rfl rfl rfl (r_neq_t h134)) ?_
            refine wL_val (v := .bool true) (wn rfl) rfl rfl (y_pick_f rfl rfl rfl) ?_
            refine wL_nil ?_
            refine wQ_sub (l' := [(0, .slice A b.length c), (2, .pointer (some ⟨b1, 0, none⟩)), (3, .int .i64 0), (4, .int .i64 ((mk10 b k : Nat) : Int)), (5, .slice (some ⟨b66, o67, none⟩) k c9), (6, .int .i64 ((k : Nat) : Int)), (13, .bool false), (10, .pointer (some ⟨b84, 0, none⟩)), (60, .bool false), (91, .bool true)]) ⟨rfl, rfl, rfl, rfl, rfl, rfl, rfl, rfl, rfl, rfl, trivial⟩ ?_
            refine wQ_then ?_
            refine wC_cond_t rfl ?_
            refine wC_seq ?_
            refine wC_region ?_
            refine wL_val (v := .agg #[.int .i64 0, .int .i64 0, .int .i64 0, .int .i64 0, .int .i64 0, .int .i64 0, .int .i64 0, .int .i64 0, .int .i64 0, .int .i64 0]) (wn rfl) rfl rfl (y_build (vs := []) rfl trivial (by kernel_rfl)) ?_
            refine wL_st (cs := #[.int .i64 0, .int .i64 0, .int .i64 0, .int .i64 0, .int .i64 0, .int .i64 0, .int .i64 0, .int .i64 0, .int .i64 0, .int .i64 0]) (row' := #[.int .i64 0, .int .i64 0, .int .i64 0, .int .i64 0, .int .i64 0, .int .i64 0, .int .i64 0, .int .i64 0, .int .i64 0, .int .i64 0]) (fs' := [.blk b84 #[.int .i64 ((tk b 0).1), .int .i64 ((tk b 1).1), .int .i64 ((tk b 2).1), .int .i64 ((tk b 3).1), .int .i64 0, .int .i64 0, .int .i64 0, .int .i64 0, .int .i64 0, .int .i64 0] 51, .own 3 1 (.slice (some ⟨b66, o67, none⟩) k c9) k ((numsTo b k).flatMap oneI), .blk b1 #[.int .i64 0, .int .i64 0, .int .i64 0, .int .i64 0, .int .i64 0, .int .i64 0, .int .i64 0, .int .i64 0, .int .i64 0, .int .i64 0] 51, .rd 1 A b.length (byteCells b) ]) 2 S132 (wn rfl) rfl rfl rfl rfl rfl rfl inf51 rfl (oneAll rfl) (Nat.le_of_ble_eq_true rfl) (setAll_all rfl) rfl ?_
            intro w137 S138
            clear S132
            refine wL_val (v := .int .i64 3) (wn rfl) rfl rfl (y_assign rfl rfl) ?_
            refine wL_nil ?_
            refine wQ_sub (l' := [(0, .slice A b.length c), (2, .pointer (some ⟨b1, 0, none⟩)), (3, .int .i64 3), (4, .int .i64 ((mk10 b k : Nat) : Int)), (5, .slice (some ⟨b66, o67, none⟩) k c9), (6, .int .i64 ((k : Nat) : Int)), (13, .bool false), (10, .pointer (some ⟨b84, 0, none⟩)), (60, .bool false), (91, .bool true)]) ⟨rfl, rfl, rfl, rfl, rfl, rfl, rfl, rfl, rfl, rfl, trivial⟩ ?_
            refine wQ_then ?_
            refine wC_ret ?_
            refine wQ_then_ret ?_
            refine wQ_post (rs := [.cell 2 51, .tmp 3]) (vs := [.agg #[.int .i64 0, .int .i64 0, .int .i64 0, .int .i64 0, .int .i64 0, .int .i64 0, .int .i64 0, .int .i64 0, .int .i64 0, .int .i64 0], .int .i64 3]) rfl ⟨⟨_, rfl, res_row 2 S138 rfl Try.underlying51 rfl inf51⟩, rfl, trivial⟩ ?_
            exact ⟨by rw [decM_bad hi8 hke (.inr h134)]; rfl, S138.low⟩
        · refine wL_val (v := .bool true) (wn rfl) rfl rfl (y_binop rfl rfl rfl (r_neq_t (by omega))) ?_
          refine wL_val (v := .bool true) (wn rfl) rfl rfl (y_move rfl rfl) ?_
          refine wL_skip (wg rfl rfl rfl rfl) rfl rfl ?_
          refine wL_skip (wg rfl rfl rfl rfl) rfl rfl ?_
          refine wL_skip (wg rfl rfl rfl rfl) rfl rfl ?_
          refine wL_val (v := .bool true) (wn rfl) rfl rfl (y_pick_t rfl rfl rfl) ?_
          refine wL_nil ?_
          refine wQ_sub (l' := [(0, .slice A b.length c), (2, .pointer (some ⟨b1, 0, none⟩)), (3, .int .i64 0), (4, .int .i64 ((mk10 b k : Nat) : Int)), (5, .slice (some ⟨b66, o67, none⟩) k c9), (6, .int .i64 ((k : Nat) : Int)), (13, .bool false), (10, .pointer (some ⟨b84, 0, none⟩)), (60, .bool false), (91, .bool true)]) ⟨rfl, rfl, rfl, rfl, rfl, rfl, rfl, rfl, rfl, rfl, trivial⟩ ?_
          refine wQ_then ?_
          refine wC_cond_t rfl ?_
          refine wC_seq ?_
          refine wC_region ?_
          refine wL_val (v := .agg #[.int .i64 0, .int .i64 0, .int .i64 0, .int .i64 0, .int .i64 0, .int .i64 0, .int .i64 0, .int .i64 0, .int .i64 0, .int .i64 0]) (wn rfl) rfl rfl (y_build (vs := []) rfl trivial (by kernel_rfl)) ?_
          refine wL_st (cs := #[.int .i64 0, .int .i64 0, .int .i64 0, .int .i64 0, .int .i64 0, .int .i64 0, .int .i64 0, .int .i64 0, .int .i64 0, .int .i64 0]) (row' := #[.int .i64 0, .int .i64 0, .int .i64 0, .int .i64 0, .int .i64 0, .int .i64 0, .int .i64 0, .int .i64 0, .int .i64 0, .int .i64 0]) (fs' := [.blk b84 #[.int .i64 ((tk b 0).1), .int .i64 ((tk b 1).1), .int .i64 ((tk b 2).1), .int .i64 ((tk b 3).1), .int .i64 0, .int .i64 0, .int .i64 0, .int .i64 0, .int .i64 0, .int .i64 0] 51, .own 3 1 (.slice (some ⟨b66, o67, none⟩) k c9) k ((numsTo b k).flatMap oneI), .blk b1 #[.int .i64 0, .int .i64 0, .int .i64 0, .int .i64 0, .int .i64 0, .int .i64 0, .int .i64 0, .int .i64 0, .int .i64 0, .int .i64 0] 51, .rd 1 A b.length (byteCells b) ]) 2 S88 (wn rfl) rfl rfl rfl rfl rfl rfl inf51 rfl (oneAll rfl) (Nat.le_of_ble_eq_true rfl) (setAll_all rfl) rfl ?_
          intro w139 S140
          clear S88
          refine wL_val (v := .int .i64 3) (wn rfl) rfl rfl (y_assign rfl rfl) ?_
          refine wL_nil ?_
          refine wQ_sub (l' := [(0, .slice A b.length c), (2, .pointer (some ⟨b1, 0, none⟩)), (3, .int .i64 3), (4, .int .i64 ((mk10 b k : Nat) : Int)), (5, .slice (some ⟨b66, o67, none⟩) k c9), (6, .int .i64 ((k : Nat) : Int)), (13, .bool false), (10, .pointer (some ⟨b84, 0, none⟩)), (60, .bool false), (91, .bool true)]) ⟨rfl, rfl, rfl, rfl, rfl, rfl, rfl, rfl, rfl, rfl, trivial⟩ ?_
          refine wQ_then ?_
          refine wC_ret ?_
          refine wQ_then_ret ?_
          refine wQ_post (rs := [.cell 2 51, .tmp 3]) (vs := [.agg #[.int .i64 0, .int .i64 0, .int .i64 0, .int .i64 0, .int .i64 0, .int .i64 0, .int .i64 0, .int .i64 0, .int .i64 0, .int .i64 0], .int .i64 3]) rfl ⟨⟨_, rfl, res_row 2 S140 rfl Try.underlying51 rfl inf51⟩, rfl, trivial⟩ ?_
          exact ⟨by rw [decM_bad hi8 hke (.inl h130)]; rfl, S140.low⟩
end Go.Proofs.Ytkjlafpafmihaaa
