/- Contracts: slices.Clone of bytes, tape.open, berthshiftlaw.tapes. -/
import Derived.Test.YtkjlafpafmihaaaTake
import Derived.Deep.RegionWith
import Derived.StillTailTactics
namespace Go.Proofs.Ytkjlafpafmihaaa
open Go.ChangeShapes Go.WideShapes Go.RowKit

theorem own_cap {w : World} {base : Nat} {e : TypeId} {size n c : Nat} {A : Option Addr} {xs : List Value} (h : w.ownsRow base e size (.slice A n c) n xs) : n ≤ c := by
  obtain ⟨A2, c2, hv, h2, _⟩ := own_form h
  simp only [Value.slice.injEq] at hv
  obtain ⟨_, _, rfl⟩ := hv
  exact h2

theorem ownsRow_empty_new (w : World) (e : TypeId) (size : Nat) : (w.alloc (.cells #[] e)).ownsRow w.heap.size e size (.slice (some ⟨w.heap.size, 0, none⟩) 0 0) 0 [] := by
  refine ⟨by simp, .inr ⟨w.heap.size, 0, #[], rfl, Nat.le_refl _, heap_alloc_new w _, Nat.le_refl _, Nat.zero_le _, by simp, by simp⟩⟩

set_option maxHeartbeats 400000 in
theorem CloneB_calls (A : Option Addr) (n c : Nat) (l : List UInt8) (w : World) (h : Rd w w.heap.size 1 A n (byteCells l)) (hc : n ≤ reachBytes) :
    Calls Try.prog 171 #[.slice A n c] w (OwnPost w 5 1 n (byteCells l)) := by
  have hc' : n ≤ 140737488351232 := hc
  obtain ⟨i0, hi0, hz0, hz1, hz2⟩ := info_parts u8_info
  cases A with
  | none =>
    have hn : n = 0 := by
      rcases Nat.eq_zero_or_pos n with h0 | h0
      · exact h0
      · obtain ⟨b, off, e, _⟩ := h.2 h0
        cases e
    subst hn
    have hl : byteCells l = [] := List.eq_nil_of_length_eq_zero (by have := h.1; omega)
    rw [hl]
    clear hl h
    go_enter Try.func171, Try.ntmps171
    have he := @Lib.run_eql_slice_nil Try.prog
    go_wp2
    go_ret
    exact OwnPost.of (Below.refl _ _) (ownsRow_nil_ _ _ _ _)
  | some a =>
    go_enter Try.func171, Try.ntmps171
    have he := @Lib.run_eql_slice_nil Try.prog
    go_wp2_with (at_builtin; refine wpList_append_any _ rfl (.tmp 5) (.tmp 6) _ rfl w.heap.size 5 i0 _ 1 1 Try.underlying52 hi0 hz0 hz1 hz2 rfl (by omega) (.slice (some ⟨w.heap.size, 0, none⟩) 0 0) 0 [] rfl (ownsRow_empty_new w 5 1) w.heap.size (some a) n c (byteCells l) rfl (h.alloc (Nat.le_refl _) _) (byteCells_one l) (by simp only [maxLen]; omega) (by omega) (by simp) ?_; intro v1 w1 hown1 hg1 hat1)
    go_ret
    simp only [Nat.zero_add, List.nil_append] at hown1
    exact OwnPost.of (((Below.refl _ w).alloc (Nat.le_refl _) _).grown hg1 (by simp) (by simp [Value.ownBlock])) hown1

def tapeMay (l : List UInt8) (s : Int) : Bool := decide (l.length ≤ 100000) && decide (0 ≤ s) && decide (s ≤ l.length)

/-- What 'open' answers: a copy, or nothing. -/
def openM (l : List UInt8) (s : Int) : List UInt8 × Int × Bool := if tapeMay l s = true then (l, s, true) else ([], 0, false)

def OpenPost (w : World) (r : List UInt8 × Int × Bool) (e : Ending) (w' : World) : Prop :=
  ∃ A c, e = .returned (.tuple #[.agg #[.slice A r.1.length c, .int .i64 r.2.1], .bool r.2.2]) ∧ Below w.heap.size w w' ∧ w'.ownsRow w.heap.size 5 1 (.slice A r.1.length c) r.1.length (byteCells r.1)


theorem OpenPost.no (w : World) {o : Obj} {o' : Obj} (W : World) (hW : W = (w.alloc o).alloc o') : Below w.heap.size w W := by
  subst hW
  go_grown

set_option maxRecDepth 100000 in
set_option maxHeartbeats 4000000 in
theorem open_yes (A : Option Addr) (n c : Nat) (l : List UInt8) (s : Int) (w : World) (h : Rd w w.heap.size 1 A n (byteCells l)) (h1 : 0 ≤ s) (h2 : s ≤ n) (h3 : n ≤ 100000) :
    Calls Try.prog 136 #[.agg #[.slice A n c, .int .i64 s]] w (OpenPost w (l, s, true)) := by
  have HL := Lib.hid h.bytes_len
  have H := Lib.hid h
  clear h
  go_enter Try.func136, Try.ntmps136
  go_wp2
  go_region_with (go_at_call 171; refine (CloneB_calls A n c l _ (by exact H.out.on (by go_grown)) (by unfold reachBytes; omega)).mono ?_; rintro e w1 ⟨A1, c1, rfl, hb1, hown1⟩; obtain ⟨hc1, hf1⟩ := bcell hb1)
  all_goals (have hz1 := hb1.size; simp at hz1)
  all_goals go_wp2
  all_goals refine bodyPost_ret (v := .tuple #[.agg #[.slice A1 n c1, .int .i64 s], .bool true]) (by simp [results, Try.results136, go_sem, hc1]) rfl ?_
  all_goals (have hB : Below w.heap.size w w1 := Below.trans (by go_grown) (hb1.mono (by simp; omega)))
  all_goals (obtain rfl := HL.out)
  all_goals exact ⟨A1, c1, rfl, by go_grown, (ownsRow_setCell_below (ownsRow_setCell_below (base := w.heap.size + 1 + 1) (hown1.lower (by simp)) (by simp) _) (by simp) _).lower (by omega)⟩

set_option maxRecDepth 100000 in
set_option maxHeartbeats 4000000 in
theorem open_no (A : Option Addr) (n c : Nat) (s : Int) (w : World) (hno : s < 0 ∨ (n : Int) < s ∨ 100000 < n) :
    Calls Try.prog 136 #[.agg #[.slice A n c, .int .i64 s]] w (OpenPost w ([], 0, false)) := by
  by_cases h1 : s < 0
  · clear hno
    go_enter Try.func136, Try.ntmps136
    go_wp2
    refine bodyPost_ret (v := .tuple #[.agg #[.slice none 0 0, .int .i64 0], .bool false]) (by simp [results, Try.results136, go_sem]) rfl ?_
    exact ⟨none, 0, rfl, by go_grown, ownsRow_nil_ _ _ _ _⟩
  · by_cases h2 : (n : Int) < s
    · have h1' : 0 ≤ s := by omega
      clear hno h1
      go_enter Try.func136, Try.ntmps136
      go_wp2
      refine bodyPost_ret (v := .tuple #[.agg #[.slice none 0 0, .int .i64 0], .bool false]) (by simp [results, Try.results136, go_sem]) rfl ?_
      exact ⟨none, 0, rfl, by go_grown, ownsRow_nil_ _ _ _ _⟩
    · have h1' : 0 ≤ s := by omega
      have h2' : s ≤ n := by omega
      have h3 : 100000 < n := by omega
      clear hno h1 h2
      go_enter Try.func136, Try.ntmps136
      go_wp2
      refine bodyPost_ret (v := .tuple #[.agg #[.slice none 0 0, .int .i64 0], .bool false]) (by simp [results, Try.results136, go_sem]) rfl ?_
      exact ⟨none, 0, rfl, by go_grown, ownsRow_nil_ _ _ _ _⟩

theorem openM_yes {l : List UInt8} {s : Int} (h1 : 0 ≤ s) (h2 : s ≤ l.length) (h3 : l.length ≤ 100000) : openM l s = (l, s, true) := if_pos (by simp [tapeMay, h1, h2, h3])
theorem openM_no {l : List UInt8} {s : Int} (h : s < 0 ∨ (l.length : Int) < s ∨ 100000 < l.length) : openM l s = ([], 0, false) := if_neg (by simp [tapeMay]; omega)

theorem open_calls (A : Option Addr) (n c : Nat) (l : List UInt8) (s : Int) (w : World) (h : Rd w w.heap.size 1 A n (byteCells l)) :
    Calls Try.prog 136 #[.agg #[.slice A n c, .int .i64 s]] w (OpenPost w (openM l s)) := by
  have hl := h.bytes_len
  by_cases hok : 0 ≤ s ∧ s ≤ n ∧ n ≤ 100000
  · rw [openM_yes hok.1 (by omega) (by omega)]
    exact open_yes A n c l s w h hok.1 hok.2.1 hok.2.2
  · rw [openM_no (by omega)]
    exact open_no A n c s w (by omega)

set_option maxRecDepth 100000 in
set_option maxHeartbeats 4000000 in
theorem tapes_calls (A : Option Addr) (n c : Nat) (l : List UInt8) (s : Int) (w : World) (h : Rd w w.heap.size 1 A n (byteCells l)) (hc : n ≤ reachBytes) :
    Calls Try.prog 57 #[.agg #[.slice A n c, .int .i64 s]] w fun e w' => ∃ A1 c1, e = .returned (.agg #[.slice A1 n c1, .int .i64 s]) ∧ Below w.heap.size w w' ∧ w'.ownsRow w.heap.size 5 1 (.slice A1 n c1) n (byteCells l) := by
  have H := Lib.hid h
  clear h
  go_enter Try.func57, Try.ntmps57
  go_wp2
  go_region_with (go_at_call 49; refine (octets_calls A n c l _ (by exact H.out.on (by go_grown)) hc).mono ?_; rintro e w1 ⟨A1, c1, rfl, hb1, hown1⟩; obtain ⟨hc1, hf1⟩ := bcell hb1)
  all_goals (have hz1 := hb1.size; simp at hz1)
  all_goals go_wp2
  all_goals refine bodyPost_ret (v := .agg #[.slice A1 n c1, .int .i64 s]) (by simp [results, Try.results57, go_sem, hc1]) rfl ?_
  all_goals (have hB : Below w.heap.size w w1 := Below.trans (by go_grown) (hb1.mono (by simp; omega)))
  all_goals exact ⟨A1, c1, rfl, by go_grown, (ownsRow_setCell_below (ownsRow_setCell_below (base := w.heap.size + 1 + 1) (hown1.lower (by simp)) (by simp) _) (by simp) _).lower (by omega)⟩
end Go.Proofs.Ytkjlafpafmihaaa
