/- Contracts: window.lowest, window.Check. -/
import Derived.Test.YtkjlafpafmihaaaApp
import Derived.Test.YtkjlafpafmihaaaIn
import Derived.Test.YtkjlafpafmihaaaEq
namespace Go.Proofs.Ytkjlafpafmihaaa
open Go.ChangeShapes Go.WideShapes Go.RowKit

/-- A window: Top, and which of the eight ids below it were taken. -/
structure Win where
  top : Int
  b0 : Bool
  b1 : Bool
  b2 : Bool
  b3 : Bool
  b4 : Bool
  b5 : Bool
  b6 : Bool
  b7 : Bool
  deriving DecidableEq

def Win.seen (x : Win) : List Bool := [x.b0, x.b1, x.b2, x.b3, x.b4, x.b5, x.b6, x.b7]
def Win.cells (x : Win) : List Value := [.int .i64 x.top, .bool x.b0, .bool x.b1, .bool x.b2, .bool x.b3, .bool x.b4, .bool x.b5, .bool x.b6, .bool x.b7]
def Win.val (x : Win) : Value := .agg #[.int .i64 x.top, .bool x.b0, .bool x.b1, .bool x.b2, .bool x.b3, .bool x.b4, .bool x.b5, .bool x.b6, .bool x.b7]
def Win.at (x : Win) (k : Nat) : Bool := x.seen.getD k false

def winAll (t : Int) (f : Nat → Bool) : Bool := (List.range 8).all fun k => !f k || decide (8 ≤ t + k)
theorem winAll_iff {t : Int} {f : Nat → Bool} : winAll t f = true ↔ ∀ k, k < 8 → f k = true → 8 ≤ t + k := by
  simp only [winAll, List.all_eq_true, List.mem_range, Bool.or_eq_true, Bool.not_eq_true', decide_eq_true_eq]
  constructor
  · intro h k hk hf
    rcases h k hk with h | h
    · rw [hf] at h; cases h
    · exact h
  · intro h k hk
    cases hf : f k
    · exact .inl rfl
    · exact .inr (h k hk hf)

/-- P3.1: 0, or 6. -/
def winFault (x : Win) : Int :=
  if (decide (0 ≤ x.top) && decide (x.top ≤ 1073741825) && winAll x.top x.at && (!decide (0 < x.top) || x.b7)) = true then 0 else 6

theorem win_index0 (b0 b1 b2 b3 b4 b5 b6 b7 : Bool) (w : World) : (Instr.index 24 (.agg #[.bool b0, .bool b1, .bool b2, .bool b3, .bool b4, .bool b5, .bool b6, .bool b7]) (.int .i64 0)).run Try.prog w = .ok (.bool b0) w := by kernel_rfl
theorem win_index1 (b0 b1 b2 b3 b4 b5 b6 b7 : Bool) (w : World) : (Instr.index 24 (.agg #[.bool b0, .bool b1, .bool b2, .bool b3, .bool b4, .bool b5, .bool b6, .bool b7]) (.int .i64 1)).run Try.prog w = .ok (.bool b1) w := by kernel_rfl
theorem win_index2 (b0 b1 b2 b3 b4 b5 b6 b7 : Bool) (w : World) : (Instr.index 24 (.agg #[.bool b0, .bool b1, .bool b2, .bool b3, .bool b4, .bool b5, .bool b6, .bool b7]) (.int .i64 2)).run Try.prog w = .ok (.bool b2) w := by kernel_rfl
theorem win_index3 (b0 b1 b2 b3 b4 b5 b6 b7 : Bool) (w : World) : (Instr.index 24 (.agg #[.bool b0, .bool b1, .bool b2, .bool b3, .bool b4, .bool b5, .bool b6, .bool b7]) (.int .i64 3)).run Try.prog w = .ok (.bool b3) w := by kernel_rfl
theorem win_index4 (b0 b1 b2 b3 b4 b5 b6 b7 : Bool) (w : World) : (Instr.index 24 (.agg #[.bool b0, .bool b1, .bool b2, .bool b3, .bool b4, .bool b5, .bool b6, .bool b7]) (.int .i64 4)).run Try.prog w = .ok (.bool b4) w := by kernel_rfl
theorem win_index5 (b0 b1 b2 b3 b4 b5 b6 b7 : Bool) (w : World) : (Instr.index 24 (.agg #[.bool b0, .bool b1, .bool b2, .bool b3, .bool b4, .bool b5, .bool b6, .bool b7]) (.int .i64 5)).run Try.prog w = .ok (.bool b5) w := by kernel_rfl
theorem win_index6 (b0 b1 b2 b3 b4 b5 b6 b7 : Bool) (w : World) : (Instr.index 24 (.agg #[.bool b0, .bool b1, .bool b2, .bool b3, .bool b4, .bool b5, .bool b6, .bool b7]) (.int .i64 6)).run Try.prog w = .ok (.bool b6) w := by kernel_rfl
theorem win_index7 (b0 b1 b2 b3 b4 b5 b6 b7 : Bool) (w : World) : (Instr.index 24 (.agg #[.bool b0, .bool b1, .bool b2, .bool b3, .bool b4, .bool b5, .bool b6, .bool b7]) (.int .i64 7)).run Try.prog w = .ok (.bool b7) w := by kernel_rfl
theorem win_index (x : Win) (k : Nat) (hk : k < 8) (w : World) :
    (Instr.index 24 (.agg #[.bool x.b0, .bool x.b1, .bool x.b2, .bool x.b3, .bool x.b4, .bool x.b5, .bool x.b6, .bool x.b7]) (.int .i64 k)).run Try.prog w = .ok (.bool (x.at k)) w := by
  have h : k = 0 ∨ k = 1 ∨ k = 2 ∨ k = 3 ∨ k = 4 ∨ k = 5 ∨ k = 6 ∨ k = 7 := by omega
  rcases h with rfl | rfl | rfl | rfl | rfl | rfl | rfl | rfl
  · exact win_index0 _ _ _ _ _ _ _ _ w
  · exact win_index1 _ _ _ _ _ _ _ _ w
  · exact win_index2 _ _ _ _ _ _ _ _ w
  · exact win_index3 _ _ _ _ _ _ _ _ w
  · exact win_index4 _ _ _ _ _ _ _ _ w
  · exact win_index5 _ _ _ _ _ _ _ _ w
  · exact win_index6 _ _ _ _ _ _ _ _ w
  · exact win_index7 _ _ _ _ _ _ _ _ w

set_option maxHeartbeats 400000 in
theorem lowest_calls (x : Win) (w : World) (h0 : 0 ≤ x.top) (h1 : x.top ≤ 1073741825) :
    Calls Try.prog 165 #[x.val] w fun e w' => e = .returned (.int .i64 (x.top - 8)) ∧ Below w.heap.size w w' := by
  obtain ⟨t, b0, b1, b2, b3, b4, b5, b6, b7⟩ := x
  unfold Win.val
  simp only at h0 h1 ⊢
  go_enter Try.func165, Try.ntmps165
  go_wp2
  go_ret
  exact ⟨rfl, by go_grown⟩

/-- An int's answer, and nothing below the old heap's end turned. -/
def IntPostW (w : World) (k : Int) (e : Ending) (w' : World) : Prop := e = .returned (.int .i64 k) ∧ Below w.heap.size w w'

set_option maxRecDepth 100000 in
set_option maxHeartbeats 4000000 in
theorem WCheck_range (x : Win) (w : World) (h : x.top < 0 ∨ 1073741825 < x.top) : Calls Try.prog 104 #[x.val] w (IntPostW w 6) := by
  obtain ⟨t, b0, b1, b2, b3, b4, b5, b6, b7⟩ := x
  unfold Win.val
  simp only at h ⊢
  by_cases h0 : t < 0
  · clear h
    go_enter Try.func104, Try.ntmps104
    go_wp2_with fail
    go_ret
    exact ⟨rfl, by go_grown⟩
  · have h1 : 1073741825 < t := by omega
    clear h
    go_enter Try.func104, Try.ntmps104
    go_wp2_with fail
    go_ret
    exact ⟨rfl, by go_grown⟩

theorem winFault_bad {x : Win} {k : Nat} (hk : k < 8) (h : x.at k = true) (h2 : x.top + k < 8) : winFault x = 6 := by
  refine if_neg (fun hh => ?_)
  simp only [Bool.and_eq_true] at hh
  have := winAll_iff.1 hh.1.2 k hk h
  omega

set_option maxRecDepth 100000 in
set_option maxHeartbeats 4000000 in
theorem WCheck_in (x : Win) (w : World) (h0 : 0 ≤ x.top) (h1 : x.top ≤ 1073741825) : Calls Try.prog 104 #[x.val] w (IntPostW w (winFault x)) := by
  have HF : Hid (∀ k, k < 8 → x.at k = true → x.top + k < 8 → winFault x = 6) := Lib.hid (fun k => winFault_bad)
  have HI := Lib.hid (win_index x)
  have HL := Lib.hid (lowest_calls x)
  have HE : Hid (winFault x = if (winAll x.top x.at && (!decide (0 < x.top) || x.b7)) = true then 0 else 6) := by
    unfold Hid winFault
    simp [h0, h1]
  generalize winFault x = z at HF HE
  have hat := Lib.hid (rfl : x.at = x.at)
  generalize x.at = f at HF HI HE hat
  clear hat
  obtain ⟨t, b0, b1, b2, b3, b4, b5, b6, b7⟩ := x
  unfold Win.val at *
  simp only at h0 h1
  go_enter Try.func104, Try.ntmps104
  go_wp2_with fail
  go_loopw [15] (fun i wr => ∃ k : Nat, k ≤ 8 ∧ i = .int .i64 k ∧ (∀ j, j < k → f j = true → 8 ≤ t + j) ∧ Below (w.heap.size + 1) (w.alloc (.cells #[.int .i64 t, .bool b0, .bool b1, .bool b2, .bool b3, .bool b4, .bool b5, .bool b6, .bool b7] 26)) wr) (fun i _ => 8 - (intOf i).toNat)
  case atStart => exact ⟨0, by omega, rfl, by simp, by go_grown⟩
  case round =>
    obtain ⟨k, hk, rfl, hall, hb⟩ := hrel
    have HA := Lib.hid hall
    have HB := Lib.hid hb
    have c0 := hb.cell (p := ⟨w.heap.size, 0, none⟩) (by simp)
    have c1 := hb.cell (p := ⟨w.heap.size, 1, none⟩) (by simp)
    have c2 := hb.cell (p := ⟨w.heap.size, 2, none⟩) (by simp)
    have c3 := hb.cell (p := ⟨w.heap.size, 3, none⟩) (by simp)
    have c4 := hb.cell (p := ⟨w.heap.size, 4, none⟩) (by simp)
    have c5 := hb.cell (p := ⟨w.heap.size, 5, none⟩) (by simp)
    have c6 := hb.cell (p := ⟨w.heap.size, 6, none⟩) (by simp)
    have c7 := hb.cell (p := ⟨w.heap.size, 7, none⟩) (by simp)
    have c8 := hb.cell (p := ⟨w.heap.size, 8, none⟩) (by simp)
    simp only [World.cell?_alloc_mark] at c0 c1 c2 c3 c4 c5 c6 c7 c8
    have hsz : w.heap.size + 1 ≤ wr.heap.size := by have := hb.size; simpa using this
    clear hall hb
    by_cases hlt : k < 8
    · have hi := HI.out k hlt
      cases hfk : f k
      · rw [hfk] at hi
        go_wp2_with fail
        go_roundw
        case rel => exact ⟨k + 1, by omega, by go_num, (fun j hj hfj => by
          rcases Nat.lt_or_ge j k with h | h
          · exact HA.out j h hfj
          · rw [show j = k by omega, hfk] at hfj; cases hfj), HB.out⟩
        case measure => simp [intOf]; omega
      · rw [hfk] at hi
        by_cases hneg : t - 8 + k < 0
        · have hz := HF.out k hlt hfk (by omega)
          subst hz
          clear hfk
          go_wp2_with fail
          refine (HL.out _ h0 h1).mono ?_
          rintro e w1 ⟨rfl, hb1⟩
          have HB1 := Lib.hid hb1
          clear hb1
          go_wp2_with fail
          go_ret
          exact ⟨rfl, ((Below.refl _ w).alloc (Nat.le_refl _) _).trans ((HB.out.mono (by omega)).trans (HB1.out.mono (by omega)))⟩
        · have hf2 := Lib.hid hfk
          clear hfk
          go_wp2_with fail
          refine (HL.out _ h0 h1).mono ?_
          rintro e w1 ⟨rfl, hb1⟩
          have HB1 := Lib.hid hb1
          clear hb1
          go_wp2_with fail
          go_roundw
          case rel => exact ⟨k + 1, by omega, by go_num, (fun j hj hfj => by
            rcases Nat.lt_or_ge j k with h | h
            · exact HA.out j h hfj
            · rw [show j = k by omega]; omega), HB.out.trans (HB1.out.mono (by omega))⟩
          case measure => simp [intOf]; omega
    · obtain rfl : k = 8 := by omega
      by_cases ht : 0 < t
      · cases b7
        · have hz : z = 6 := by rw [HE.out]; simp [ht]
          subst hz
          go_wp2_with fail
          go_ret
          exact ⟨rfl, ((Below.refl _ w).alloc (Nat.le_refl _) _).trans (HB.out.mono (by omega))⟩
        · have hz : z = 0 := by rw [HE.out, winAll_iff.2 HA.out]; simp
          subst hz
          go_wp2_with fail
          go_ret
          exact ⟨rfl, ((Below.refl _ w).alloc (Nat.le_refl _) _).trans (HB.out.mono (by omega))⟩
      · have hz : z = 0 := by rw [HE.out, winAll_iff.2 HA.out]; simp [ht]
        subst hz
        go_wp2_with fail
        go_ret
        exact ⟨rfl, ((Below.refl _ w).alloc (Nat.le_refl _) _).trans (HB.out.mono (by omega))⟩

theorem WCheck_calls (x : Win) (w : World) : Calls Try.prog 104 #[x.val] w (IntPostW w (winFault x)) := by
  by_cases h : 0 ≤ x.top ∧ x.top ≤ 1073741825
  · exact WCheck_in x w h.1 h.2
  · rw [show winFault x = 6 from if_neg (fun hh => by simp only [Bool.and_eq_true, decide_eq_true_eq] at hh; exact h ⟨hh.1.1.1, hh.1.1.2⟩)]
    exact WCheck_range x w (by omega)
end Go.Proofs.Ytkjlafpafmihaaa
