/- Parts of proofs: lemmas on memory, on single functions and on the plain models; no condition of their own. -/
import Derived.Test.YtkjlafpafmihaaaRows
import Derived.WalkKit
import Derived.ProofKit
import Derived.OpenShut
import Derived.SizedLaws
import Derived.WalkSpells
import Derived.WalkLawsBesides
import Derived.Handy
import Derived.Deep.QuietTactic
import Derived.BigQuiet
import Derived.Lib.Hide
import Derived.Maps.AppendAt
import Derived.Deep.AppendLies
import Derived.RegionTactic
import Derived.OwnWalk
import Derived.ChangeKeysEq
import Derived.Test.YtkjlafpafmihaaaG570539d87647
import Derived.Test.YtkjlafpafmihaaaG76ddf6bdedad
import Derived.Test.YtkjlafpafmihaaaG924ec51911fe
set_option linter.unusedVariables false
set_option linter.unusedSimpArgs false

namespace Go.Proofs.Ytkjlafpafmihaaa
open Go.ChangeShapes Go.WideShapes Go.RowKit

def evCells (l : List Ev) : List Value := l.flatMap Ev.cells
theorem evCells_length (l : List Ev) : (evCells l).length = l.length * 6 := by
  induction l with
  | nil => rfl
  | cons e l ih => simp only [evCells, List.flatMap_cons, List.length_append] at *; rw [ih]; simp [Ev.cells]; omega
theorem evCells_append (l k : List Ev) : evCells (l ++ k) = evCells l ++ evCells k := by simp [evCells]
theorem evCells_one (l : List Ev) : ∀ u ∈ evCells l, u.oneCell' = true := by
  intro u hu
  simp only [evCells, List.mem_flatMap, Ev.cells] at hu
  obtain ⟨e, _, hu⟩ := hu
  simp only [List.mem_cons, List.not_mem_nil, or_false] at hu
  rcases hu with rfl | rfl | rfl | rfl | rfl | rfl <;> rfl
theorem evCells_get (l : List Ev) (k : Nat) (e : Ev) (h : l[k]? = some e) : (evCells l)[k * 6]? = some (.int .i64 e.kind) ∧ (evCells l)[k * 6 + 1]? = some (.int .i64 e.producer) ∧ (evCells l)[k * 6 + 2]? = some (.int .i64 e.id) ∧
    (evCells l)[k * 6 + 3]? = some (.int .i64 e.body) ∧ (evCells l)[k * 6 + 4]? = some (.int .i64 e.hepoch) ∧ (evCells l)[k * 6 + 5]? = some (.int .i64 e.hno) := by
  induction l generalizing k with
  | nil => simp at h
  | cons x l ih =>
    cases k with
    | zero =>
      simp at h
      subst h
      simp [evCells, Ev.cells]
    | succ k =>
      have h2 := ih k (by simpa using h)
      have e1 : evCells (x :: l) = x.cells ++ evCells l := by simp [evCells]
      have hx : x.cells.length = 6 := rfl
      have key : ∀ j, (x.cells ++ evCells l)[(k + 1) * 6 + j]? = (evCells l)[k * 6 + j]? := by
        intro j
        rw [List.getElem?_append_right (by omega), hx]
        congr 1
        omega
      rw [e1]
      have k0 := key 0
      simp only [Nat.add_zero] at k0
      rw [k0, key 1, key 2, key 3, key 4, key 5]
      exact h2

theorem Rd.ev_len {w : World} {B n : Nat} {A : Option Addr} {l : List Ev} (h : Rd w B 6 A n (evCells l)) : l.length = n := by
  have := h.1
  rw [evCells_length] at this
  omega
/-- One event's cells, by number. -/
theorem Rd.ev_at {w : World} {B n k : Nat} {A : Option Addr} {l : List Ev} (h : Rd w B 6 A n (evCells l)) (hk : k < n) : ∃ b off e, A = some ⟨b, off, none⟩ ∧ b < B ∧ l[k]? = some e ∧
    w.cell? ⟨b, off + k * 6, none⟩ = some (.int .i64 e.kind) ∧ w.cell? ⟨b, off + k * 6 + 1, none⟩ = some (.int .i64 e.producer) ∧ w.cell? ⟨b, off + k * 6 + 2, none⟩ = some (.int .i64 e.id) ∧
    w.cell? ⟨b, off + k * 6 + 3, none⟩ = some (.int .i64 e.body) ∧ w.cell? ⟨b, off + k * 6 + 4, none⟩ = some (.int .i64 e.hepoch) ∧ w.cell? ⟨b, off + k * 6 + 5, none⟩ = some (.int .i64 e.hno) := by
  have hl := h.ev_len
  obtain ⟨b, off, e, hb, hc⟩ := h.2 (by omega)
  have he : l[k]? = some (l[k]'(by omega)) := List.getElem?_eq_getElem (by omega)
  obtain ⟨g0, g1, g2, g3, g4, g5⟩ := evCells_get l k _ he
  exact ⟨b, off, _, e, hb, he, hc _ _ g0, hc _ _ g1, hc _ _ g2, hc _ _ g3, hc _ _ g4, hc _ _ g5⟩


end Go.Proofs.Ytkjlafpafmihaaa

namespace Go.Proofs.Ytkjlafpafmihaaa
open Go.ChangeShapes Go.WideShapes Go.RowKit

set_option maxRecDepth 100000 in
set_option maxHeartbeats 2000000 in
theorem sameEvents_calls (A A' : Option Addr) (n c n' c' : Nat) (l l' : List Ev) (w : World) {B B' : Nat} (h : Rd w B 6 A n (evCells l)) (h' : Rd w B' 6 A' n' (evCells l')) (hm : n ≤ maxLen) (hm' : n' ≤ maxLen) :
    Calls Try.prog 72 #[.slice A n c, .slice A' n' c'] w fun e w' => e = .returned (.bool (decide (l = l'))) ∧ ∃ q, w' = w.drewN q := by
  unfold maxLen at hm hm'
  have hl := h.ev_len
  have hl' := h'.ev_len
  have H := Lib.hid h
  have H' := Lib.hid h'
  have HL := Lib.hid hl
  have HL' := Lib.hid hl'
  have HZ0 : Hid (∀ b, b = decide (l = l') → b = decide (l = l')) := Lib.hid (fun b h => h)
  generalize hb : decide (l = l') = r
  have HZ := Lib.hid (HZ0.out r hb.symm)
  clear hb HZ0 h h' hl hl'
  by_cases hn : n = n'
  · subst hn
    go_enter Try.func72, Try.ntmps72
    go_wp2_with fail
    go_loopw [5] (fun i wr => ∃ k : Nat, k ≤ n ∧ i = .int .i64 k ∧ l.take k = l'.take k ∧ ∃ q, wr = w.drewN q) (fun i _ => n - (intOf i).toNat)
    case atStart => exact ⟨0, Nat.zero_le _, rfl, rfl, 0, rfl⟩
    case round =>
      obtain ⟨k, hk, rfl, hall, q, rfl⟩ := hrel
      have HA := Lib.hid hall
      clear hall
      by_cases hlt : k < n
      · obtain ⟨b, off, e, rfl, hb, he, c0, c1, c2, c3, c4, c5⟩ := H.out.ev_at hlt
        obtain ⟨b', off', e', rfl, hb', he', d0, d1, d2, d3, d4, d5⟩ := H'.out.ev_at hlt
        have hq := run_neq_ev e e'
        have HE := Lib.hid he
        have HE' := Lib.hid he'
        clear he he'
        by_cases hee : e = e'
        · have hd : decide (e = e') = true := by simpa using hee
          rw [hd] at hq
          have HEE := Lib.hid hee
          clear hee hd
          go_wp2_with fail
          go_quiet (fail)
          go_wp2_with fail
          go_roundw
          case rel => exact ⟨k + 1, by omega, by go_num, (by rw [List.take_add_one, List.take_add_one, HE.out, HE'.out, HA.out, HEE.out]), q + nq, rfl⟩
          case measure => simp [intOf]; omega
        · have hd : decide (e = e') = false := by simpa using hee
          rw [hd] at hq
          have hr : r = false := by
            rw [HZ.out, decide_eq_false_iff_not]
            intro hll
            have h1 := HE.out
            rw [hll, HE'.out] at h1
            simp at h1
            exact hee h1.symm
          subst hr
          clear hee hd
          go_wp2_with fail
          go_quiet (fail)
          go_wp2_with fail
          go_ret
          exact ⟨rfl, q + nq, World.drewN_drewN ..⟩
      · obtain rfl : k = n := by omega
        have hr : r = true := by
          rw [HZ.out, decide_eq_true_eq]
          have h1 := HA.out
          rwa [List.take_of_length_le (by have := HL.out; omega), List.take_of_length_le (by have := HL'.out; omega)] at h1
        subst hr
        go_wp2_with fail
        go_ret
        exact ⟨rfl, q, rfl⟩
  · have hr : r = false := by
      rw [HZ.out, decide_eq_false_iff_not]
      intro hll
      have h1 := HL.out
      rw [hll, HL'.out] at h1
      exact hn h1.symm
    subst hr
    go_enter Try.func72, Try.ntmps72
    go_wp2_with fail
    go_ret
    exact ⟨rfl, 0, rfl⟩
end Go.Proofs.Ytkjlafpafmihaaa

namespace Go.Proofs.Ytkjlafpafmihaaa
open Go.ChangeShapes Go.WideShapes Go.RowKit

/-- A window: Top, and which of the eight ids below it were taken. -/
structure Win where
  top : Int
  b0 : Bool
  b1 : Bool
  b2 : Bool
  b3 : Bool
  b4 : Bool
  b5 : Bool
  b6 : Bool
  b7 : Bool
  deriving DecidableEq

def Win.seen (x : Win) : List Bool := [x.b0, x.b1, x.b2, x.b3, x.b4, x.b5, x.b6, x.b7]
def Win.cells (x : Win) : List Value := [.int .i64 x.top, .bool x.b0, .bool x.b1, .bool x.b2, .bool x.b3, .bool x.b4, .bool x.b5, .bool x.b6, .bool x.b7]
def Win.val (x : Win) : Value := .agg #[.int .i64 x.top, .bool x.b0, .bool x.b1, .bool x.b2, .bool x.b3, .bool x.b4, .bool x.b5, .bool x.b6, .bool x.b7]
def Win.at (x : Win) (k : Nat) : Bool := x.seen.getD k false

def winAll (t : Int) (f : Nat → Bool) : Bool := (List.range 8).all fun k => !f k || decide (8 ≤ t + k)
theorem winAll_iff {t : Int} {f : Nat → Bool} : winAll t f = true ↔ ∀ k, k < 8 → f k = true → 8 ≤ t + k := by
  simp only [winAll, List.all_eq_true, List.mem_range, Bool.or_eq_true, Bool.not_eq_true', decide_eq_true_eq]
  constructor
  · intro h k hk hf
    rcases h k hk with h | h
    · rw [hf] at h; cases h
    · exact h
  · intro h k hk
    cases hf : f k
    · exact .inl rfl
    · exact .inr (h k hk hf)

/-- P3.1: 0, or 6. -/
def winFault (x : Win) : Int :=
  if (decide (0 ≤ x.top) && decide (x.top ≤ 1073741825) && winAll x.top x.at && (!decide (0 < x.top) || x.b7)) = true then 0 else 6

theorem win_index0 (b0 b1 b2 b3 b4 b5 b6 b7 : Bool) (w : World) : (Instr.index 24 (.agg #[.bool b0, .bool b1, .bool b2, .bool b3, .bool b4, .bool b5, .bool b6, .bool b7]) (.int .i64 0)).run Try.prog w = .ok (.bool b0) w := by kernel_rfl
theorem win_index1 (b0 b1 b2 b3 b4 b5 b6 b7 : Bool) (w : World) : (Instr.index 24 (.agg #[.bool b0, .bool b1, .bool b2, .bool b3, .bool b4, .bool b5, .bool b6, .bool b7]) (.int .i64 1)).run Try.prog w = .ok (.bool b1) w := by kernel_rfl
theorem win_index2 (b0 b1 b2 b3 b4 b5 b6 b7 : Bool) (w : World) : (Instr.index 24 (.agg #[.bool b0, .bool b1, .bool b2, .bool b3, .bool b4, .bool b5, .bool b6, .bool b7]) (.int .i64 2)).run Try.prog w = .ok (.bool b2) w := by kernel_rfl
theorem win_index3 (b0 b1 b2 b3 b4 b5 b6 b7 : Bool) (w : World) : (Instr.index 24 (.agg #[.bool b0, .bool b1, .bool b2, .bool b3, .bool b4, .bool b5, .bool b6, .bool b7]) (.int .i64 3)).run Try.prog w = .ok (.bool b3) w := by kernel_rfl
theorem win_index4 (b0 b1 b2 b3 b4 b5 b6 b7 : Bool) (w : World) : (Instr.index 24 (.agg #[.bool b0, .bool b1, .bool b2, .bool b3, .bool b4, .bool b5, .bool b6, .bool b7]) (.int .i64 4)).run Try.prog w = .ok (.bool b4) w := by kernel_rfl
theorem win_index5 (b0 b1 b2 b3 b4 b5 b6 b7 : Bool) (w : World) : (Instr.index 24 (.agg #[.bool b0, .bool b1, .bool b2, .bool b3, .bool b4, .bool b5, .bool b6, .bool b7]) (.int .i64 5)).run Try.prog w = .ok (.bool b5) w := by kernel_rfl
theorem win_index6 (b0 b1 b2 b3 b4 b5 b6 b7 : Bool) (w : World) : (Instr.index 24 (.agg #[.bool b0, .bool b1, .bool b2, .bool b3, .bool b4, .bool b5, .bool b6, .bool b7]) (.int .i64 6)).run Try.prog w = .ok (.bool b6) w := by kernel_rfl
theorem win_index7 (b0 b1 b2 b3 b4 b5 b6 b7 : Bool) (w : World) : (Instr.index 24 (.agg #[.bool b0, .bool b1, .bool b2, .bool b3, .bool b4, .bool b5, .bool b6, .bool b7]) (.int .i64 7)).run Try.prog w = .ok (.bool b7) w := by kernel_rfl
theorem win_index (x : Win) (k : Nat) (hk : k < 8) (w : World) :
    (Instr.index 24 (.agg #[.bool x.b0, .bool x.b1, .bool x.b2, .bool x.b3, .bool x.b4, .bool x.b5, .bool x.b6, .bool x.b7]) (.int .i64 k)).run Try.prog w = .ok (.bool (x.at k)) w := by
  have h : k = 0 ∨ k = 1 ∨ k = 2 ∨ k = 3 ∨ k = 4 ∨ k = 5 ∨ k = 6 ∨ k = 7 := by omega
  rcases h with rfl | rfl | rfl | rfl | rfl | rfl | rfl | rfl
  · exact win_index0 _ _ _ _ _ _ _ _ w
  · exact win_index1 _ _ _ _ _ _ _ _ w
  · exact win_index2 _ _ _ _ _ _ _ _ w
  · exact win_index3 _ _ _ _ _ _ _ _ w
  · exact win_index4 _ _ _ _ _ _ _ _ w
  · exact win_index5 _ _ _ _ _ _ _ _ w
  · exact win_index6 _ _ _ _ _ _ _ _ w
  · exact win_index7 _ _ _ _ _ _ _ _ w

set_option maxHeartbeats 400000 in
theorem lowest_calls (x : Win) (w : World) (h0 : 0 ≤ x.top) (h1 : x.top ≤ 1073741825) :
    Calls Try.prog 165 #[x.val] w fun e w' => e = .returned (.int .i64 (x.top - 8)) ∧ Below w.heap.size w w' := by
  obtain ⟨t, b0, b1, b2, b3, b4, b5, b6, b7⟩ := x
  unfold Win.val
  simp only at h0 h1 ⊢
  go_enter Try.func165, Try.ntmps165
  go_wp2
  go_ret
  exact ⟨rfl, by go_grown⟩

/-- An int's answer, and nothing below the old heap's end turned. -/
def IntPostW (w : World) (k : Int) (e : Ending) (w' : World) : Prop := e = .returned (.int .i64 k) ∧ Below w.heap.size w w'

set_option maxRecDepth 100000 in
set_option maxHeartbeats 4000000 in
theorem WCheck_range (x : Win) (w : World) (h : x.top < 0 ∨ 1073741825 < x.top) : Calls Try.prog 104 #[x.val] w (IntPostW w 6) := by
  obtain ⟨t, b0, b1, b2, b3, b4, b5, b6, b7⟩ := x
  unfold Win.val
  simp only at h ⊢
  by_cases h0 : t < 0
  · clear h
    go_enter Try.func104, Try.ntmps104
    go_wp2_with fail
    go_ret
    exact ⟨rfl, by go_grown⟩
  · have h1 : 1073741825 < t := by omega
    clear h
    go_enter Try.func104, Try.ntmps104
    go_wp2_with fail
    go_ret
    exact ⟨rfl, by go_grown⟩

theorem winFault_bad {x : Win} {k : Nat} (hk : k < 8) (h : x.at k = true) (h2 : x.top + k < 8) : winFault x = 6 := by
  refine if_neg (fun hh => ?_)
  simp only [Bool.and_eq_true] at hh
  have := winAll_iff.1 hh.1.2 k hk h
  omega

set_option maxRecDepth 100000 in
set_option maxHeartbeats 4000000 in
theorem WCheck_in (x : Win) (w : World) (h0 : 0 ≤ x.top) (h1 : x.top ≤ 1073741825) : Calls Try.prog 104 #[x.val] w (IntPostW w (winFault x)) := by
  have HF : Hid (∀ k, k < 8 → x.at k = true → x.top + k < 8 → winFault x = 6) := Lib.hid (fun k => winFault_bad)
  have HI := Lib.hid (win_index x)
  have HL := Lib.hid (lowest_calls x)
  have HE : Hid (winFault x = if (winAll x.top x.at && (!decide (0 < x.top) || x.b7)) = true then 0 else 6) := by
    unfold Hid winFault
    simp [h0, h1]
  generalize winFault x = z at HF HE
  have hat := Lib.hid (rfl : x.at = x.at)
  generalize x.at = f at HF HI HE hat
  clear hat
  obtain ⟨t, b0, b1, b2, b3, b4, b5, b6, b7⟩ := x
  unfold Win.val at *
  simp only at h0 h1
  go_enter Try.func104, Try.ntmps104
  go_wp2_with fail
  go_loopw [15] (fun i wr => ∃ k : Nat, k ≤ 8 ∧ i = .int .i64 k ∧ (∀ j, j < k → f j = true → 8 ≤ t + j) ∧ Below (w.heap.size + 1) (w.alloc (.cells #[.int .i64 t, .bool b0, .bool b1, .bool b2, .bool b3, .bool b4, .bool b5, .bool b6, .bool b7] 26)) wr) (fun i _ => 8 - (intOf i).toNat)
  case atStart => exact ⟨0, by omega, rfl, by simp, by go_grown⟩
  case round =>
    obtain ⟨k, hk, rfl, hall, hb⟩ := hrel
    have HA := Lib.hid hall
    have HB := Lib.hid hb
    have c0 := hb.cell (p := ⟨w.heap.size, 0, none⟩) (by simp)
    have c1 := hb.cell (p := ⟨w.heap.size, 1, none⟩) (by simp)
    have c2 := hb.cell (p := ⟨w.heap.size, 2, none⟩) (by simp)
    have c3 := hb.cell (p := ⟨w.heap.size, 3, none⟩) (by simp)
    have c4 := hb.cell (p := ⟨w.heap.size, 4, none⟩) (by simp)
    have c5 := hb.cell (p := ⟨w.heap.size, 5, none⟩) (by simp)
    have c6 := hb.cell (p := ⟨w.heap.size, 6, none⟩) (by simp)
    have c7 := hb.cell (p := ⟨w.heap.size, 7, none⟩) (by simp)
    have c8 := hb.cell (p := ⟨w.heap.size, 8, none⟩) (by simp)
    simp only [World.cell?_alloc_mark] at c0 c1 c2 c3 c4 c5 c6 c7 c8
    have hsz : w.heap.size + 1 ≤ wr.heap.size := by have := hb.size; simpa using this
    clear hall hb
    by_cases hlt : k < 8
    · have hi := HI.out k hlt
      cases hfk : f k
      · rw [hfk] at hi
        go_wp2_with fail
        go_roundw
        case rel => exact ⟨k + 1, by omega, by go_num, (fun j hj hfj => by
          rcases Nat.lt_or_ge j k with h | h
          · exact HA.out j h hfj
          · rw [show j = k by omega, hfk] at hfj; cases hfj), HB.out⟩
        case measure => simp [intOf]; omega
      · rw [hfk] at hi
        by_cases hneg : t - 8 + k < 0
        · have hz := HF.out k hlt hfk (by omega)
          subst hz
          clear hfk
          go_wp2_with fail
          refine (HL.out _ h0 h1).mono ?_
          rintro e w1 ⟨rfl, hb1⟩
          have HB1 := Lib.hid hb1
          clear hb1
          go_wp2_with fail
          go_ret
          exact ⟨rfl, ((Below.refl _ w).alloc (Nat.le_refl _) _).trans ((HB.out.mono (by omega)).trans (HB1.out.mono (by omega)))⟩
        · have hf2 := Lib.hid hfk
          clear hfk
          go_wp2_with fail
          refine (HL.out _ h0 h1).mono ?_
          rintro e w1 ⟨rfl, hb1⟩
          have HB1 := Lib.hid hb1
          clear hb1
          go_wp2_with fail
          go_roundw
          case rel => exact ⟨k + 1, by omega, by go_num, (fun j hj hfj => by
            rcases Nat.lt_or_ge j k with h | h
            · exact HA.out j h hfj
            · rw [show j = k by omega]; omega), HB.out.trans (HB1.out.mono (by omega))⟩
          case measure => simp [intOf]; omega
    · obtain rfl : k = 8 := by omega
      by_cases ht : 0 < t
      · cases b7
        · have hz : z = 6 := by rw [HE.out]; simp [ht]
          subst hz
          go_wp2_with fail
          go_ret
          exact ⟨rfl, ((Below.refl _ w).alloc (Nat.le_refl _) _).trans (HB.out.mono (by omega))⟩
        · have hz : z = 0 := by rw [HE.out, winAll_iff.2 HA.out]; simp
          subst hz
          go_wp2_with fail
          go_ret
          exact ⟨rfl, ((Below.refl _ w).alloc (Nat.le_refl _) _).trans (HB.out.mono (by omega))⟩
      · have hz : z = 0 := by rw [HE.out, winAll_iff.2 HA.out]; simp [ht]
        subst hz
        go_wp2_with fail
        go_ret
        exact ⟨rfl, ((Below.refl _ w).alloc (Nat.le_refl _) _).trans (HB.out.mono (by omega))⟩

theorem WCheck_calls (x : Win) (w : World) : Calls Try.prog 104 #[x.val] w (IntPostW w (winFault x)) := by
  by_cases h : 0 ≤ x.top ∧ x.top ≤ 1073741825
  · exact WCheck_in x w h.1 h.2
  · rw [show winFault x = 6 from if_neg (fun hh => by simp only [Bool.and_eq_true, decide_eq_true_eq] at hh; exact h ⟨hh.1.1.1, hh.1.1.2⟩)]
    exact WCheck_range x w (by omega)
end Go.Proofs.Ytkjlafpafmihaaa

namespace Go.Proofs.Ytkjlafpafmihaaa
open Go.ChangeShapes Go.WideShapes Go.RowKit

def intCells (l : List Int) : List Value := l.map (Value.int .i64)
theorem intCells_append (l k : List Int) : intCells (l ++ k) = intCells l ++ intCells k := by simp [intCells]
theorem intCells_one (l : List Int) : ∀ u ∈ intCells l, u.oneCell' = true := by
  intro u hu
  simp only [intCells, List.mem_map] at hu
  obtain ⟨b, _, rfl⟩ := hu
  rfl
theorem Rd.int_len {w : World} {B n : Nat} {A : Option Addr} {l : List Int} (h : Rd w B 1 A n (intCells l)) : l.length = n := by
  have := h.1
  simp [intCells] at this
  omega
theorem Rd.int_at {w : World} {B n k : Nat} {A : Option Addr} {l : List Int} (h : Rd w B 1 A n (intCells l)) (hk : k < n) : ∃ b off x, A = some ⟨b, off, none⟩ ∧ b < B ∧ l[k]? = some x ∧ w.cell? ⟨b, off + k, none⟩ = some (.int .i64 x) := by
  obtain ⟨b, off, u, e, hb, hx, hc⟩ := h.at_ hk
  simp only [intCells, List.getElem?_map, Option.map_eq_some_iff] at hx
  obtain ⟨x, hx, rfl⟩ := hx
  exact ⟨b, off, x, e, hb, hx, hc⟩
theorem int_new (w : World) (x : Int) (t : TypeId) : Rd (w.alloc (.cells #[.int .i64 x] t)) (w.heap.size + 1) 1 (some ⟨w.heap.size, 0, none⟩) 1 (intCells [x]) :=
  Rd.new_ w t (intCells [x]) 1 1 (by simp [intCells])

/-- The ids that a window remembers, of the first k places. -/
def idsTo (t : Int) (f : Nat → Bool) : Nat → List Int
  | 0 => []
  | k + 1 => if f k = true then idsTo t f k ++ [t - 8 + k] else idsTo t f k
theorem idsTo_len (t : Int) (f : Nat → Bool) (k : Nat) : (idsTo t f k).length ≤ k := by
  induction k with
  | zero => simp [idsTo]
  | succ k ih => unfold idsTo; split <;> (try simp) <;> omega

theorem i64_info : (Try.prog.info? 3).map (fun i => (i.zero, i.size, i.bytes)) = some (some (.int .i64 0), 1, 8) := by kernel_rfl

/-- A slice of numbers of the call's own. -/
def IdsPost (w : World) (l : List Int) (e : Ending) (w' : World) : Prop := ∃ A n c, e = .returned (.slice A n c) ∧ n = l.length ∧ Below w.heap.size w w' ∧ Rd w' w'.heap.size 1 A n (intCells l)

set_option maxRecDepth 100000 in
set_option maxHeartbeats 4000000 in
theorem idsOf_calls (x : Win) (w : World) (h0 : 0 ≤ x.top) (h1 : x.top ≤ 1073741825) : Calls Try.prog 166 #[x.val] w (IdsPost w (idsTo x.top x.at 8)) := by
  obtain ⟨i0, hi0, hz0, hz1, hz2⟩ := info_parts i64_info
  have HX : Hid (∀ k, k < 8 → (x.cells)[k + 1]? = some (.bool (x.at k))) := by
    intro k hk
    have h : k = 0 ∨ k = 1 ∨ k = 2 ∨ k = 3 ∨ k = 4 ∨ k = 5 ∨ k = 6 ∨ k = 7 := by omega
    rcases h with rfl | rfl | rfl | rfl | rfl | rfl | rfl | rfl <;> rfl
  have hat := Lib.hid (rfl : x.at = x.at)
  generalize x.at = f at HX hat ⊢
  clear hat
  obtain ⟨t, b0, b1, b2, b3, b4, b5, b6, b7⟩ := x
  unfold Win.val
  unfold Win.cells at HX
  simp only at h0 h1 HX ⊢
  go_enter Try.func166, Try.ntmps166
  go_wp2_with fail
  go_loopw [3, 4] (fun v i wr => ∃ k : Nat, k ≤ 8 ∧ i = .int .i64 k ∧ wr.ownsRow (w.heap.size + 1) 3 1 v (idsTo t f k).length (intCells (idsTo t f k)) ∧ Below (w.heap.size + 1) (w.alloc (.cells #[.int .i64 t, .bool b0, .bool b1, .bool b2, .bool b3, .bool b4, .bool b5, .bool b6, .bool b7] 26)) wr) (fun _ i _ => 8 - (intOf i).toNat)
  case atStart => exact ⟨0, by omega, rfl, ownsRow_nil_ _ _ _ _, by go_grown⟩
  case round =>
    obtain ⟨k, hk, rfl, hown, hb⟩ := hrel
    have HO := Lib.hid hown
    have HB := Lib.hid hb
    have hsz : w.heap.size + 1 ≤ wr.heap.size := by have := hb.size; simpa using this
    have c0 := hb.cell (p := ⟨w.heap.size, 0, none⟩) (by simp)
    simp only [World.cell?_alloc_mark] at c0
    by_cases hlt : k < 8
    · have ck := hb.cell (p := ⟨w.heap.size, k + 1, none⟩) (by simp)
      rw [World.cell?_alloc_mark] at ck
      have hx := HX.out k hlt
      simp only [List.getElem?_toArray] at ck
      rw [hx] at ck
      rw [Nat.add_comm] at ck
      have ck' := ck
      rw [Nat.add_comm] at ck'
      have HE : Hid (idsTo t f (k + 1) = if f k = true then idsTo t f k ++ [t - 8 + k] else idsTo t f k) := Lib.hid rfl
      have HN := Lib.hid (int_new wr (t - 8 + k) 3)
      have hlen := idsTo_len t f k
      clear hown hb hx
      generalize idsTo t f k = l at HO HE hlen
      cases hfk : f k
      · rw [hfk] at ck ck' HE
        simp only [Bool.false_eq_true, if_false] at HE
        go_wp2_with fail
        go_roundw
        case rel => exact ⟨k + 1, by omega, by go_num, by rw [HE.out]; exact HO.out, HB.out⟩
        case measure => simp [intOf]; omega
      · rw [hfk] at ck ck' HE
        simp only [if_true] at HE
        go_wp2_with (at_builtin; refine wpList_append_any _ rfl (.tmp 13) (.tmp 19) _ rfl (w.heap.size + 1) 3 i0 _ 1 8 Try.underlying143 hi0 hz0 hz1 hz2 rfl (by omega) _ l.length (intCells l) rfl (HO.out.alloc _) (wr.heap.size + 1) (some ⟨wr.heap.size, 0, none⟩) 1 1 (intCells [t - 8 + k]) rfl HN.out (intCells_one _) (by simp only [maxLen]; omega) (by omega) (by simp; omega) ?_; intro v1 w1 hown1 hg1 hat1)
        have hB1 : Below (w.heap.size + 1) _ w1 := (HB.out.alloc hsz _).grown hg1 (by simp; omega) (HO.out.own_lt ·)
        rw [← intCells_append] at hown1
        have HB1 := Lib.hid hB1
        have HO1 := Lib.hid hown1
        clear hB1 hown1 hg1 hat1
        go_wp2_with fail
        go_roundw
        case rel => exact ⟨k + 1, by omega, by go_num, by rw [HE.out]; simpa using HO1.out, HB1.out⟩
        case measure => simp [intOf]; omega
    · obtain rfl : k = 8 := by omega
      clear hown hb
      go_wp2_with fail
      go_ret
      have hown := HO.out
      obtain ⟨A1, c1, hv, _⟩ := own_form hown
      subst hv
      exact ⟨A1, _, c1, rfl, rfl, ((Below.refl _ w).alloc (Nat.le_refl _) _).trans (HB.out.mono (by omega)), Rd.of_own hown⟩
/-- Eight bools as a window's. -/
def winOn (t : Int) (bs : List Bool) : Win := ⟨t, bs.getD 0 false, bs.getD 1 false, bs.getD 2 false, bs.getD 3 false, bs.getD 4 false, bs.getD 5 false, bs.getD 6 false, bs.getD 7 false⟩
def setBit (bs : List Bool) (k : Int) : List Bool := if 0 ≤ k then bs.set k.toNat true else bs
def bitsTo (t : Int) (l : List Int) : List Bool := l.foldl (fun bs x => setBit bs (x - t + 8)) [false, false, false, false, false, false, false, false]
theorem bitsTo_snoc (t : Int) (l : List Int) (x : Int) : bitsTo t (l ++ [x]) = setBit (bitsTo t l) (x - t + 8) := by simp [bitsTo]
theorem setBit_len (bs : List Bool) (k : Int) : (setBit bs k).length = bs.length := by unfold setBit; split <;> simp
theorem bitsTo_len (t : Int) (l : List Int) : (bitsTo t l).length = 8 := by
  unfold bitsTo
  generalize hb : [false, false, false, false, false, false, false, false] = b
  have h8 : b.length = 8 := by rw [← hb]; rfl
  clear hb
  induction l generalizing b with
  | nil => simpa using h8
  | cons x l ih => exact ih _ (by rw [setBit_len]; exact h8)

/-- The window of ids, the last one of which is the greatest. -/
def winOf (l : List Int) : Win := if l = [] then ⟨0, false, false, false, false, false, false, false, false⟩ else winOn (l.getLastD 0 + 1) (bitsTo (l.getLastD 0 + 1) l)

def winRow (t : Int) (bs : List Bool) : Array Value := (.int .i64 t :: bs.map Value.bool).toArray
theorem eight {bs : List Bool} (h : bs.length = 8) : ∃ a0 a1 a2 a3 a4 a5 a6 a7, bs = [a0, a1, a2, a3, a4, a5, a6, a7] := by
  match bs, h with
  | [a0, a1, a2, a3, a4, a5, a6, a7], _ => exact ⟨a0, a1, a2, a3, a4, a5, a6, a7, rfl⟩

/-- A window, and nothing below the old heap's end turned. -/
def WinPost (w : World) (x : Win) (e : Ending) (w' : World) : Prop := e = .returned x.val ∧ Below w.heap.size w w'

set_option maxRecDepth 100000 in
set_option maxHeartbeats 4000000 in
theorem windowOf_nil (A : Option Addr) (c : Nat) (w : World) : Calls Try.prog 167 #[.slice A 0 c] w (WinPost w (winOf [])) := by
  go_enter Try.func167, Try.ntmps167
  go_wp2_with fail
  refine bodyPost_ret (v := (winOf []).val) (by simp [results, Try.results167, go_sem, winOf, Win.val]) rfl ?_
  exact ⟨rfl, by go_grown⟩

structure WB (w : World) (t : Int) (bs : List Bool) (wr : World) : Prop where
  below : Below w.heap.size w wr
  res : wr.heap[w.heap.size]? = some (.cells #[.int .i64 0, .bool false, .bool false, .bool false, .bool false, .bool false, .bool false, .bool false, .bool false] 26 (0, 0))
  row : wr.heap[w.heap.size + 1]? = some (.cells (winRow t bs) 26 (0, 0))

theorem WB.drewN {w wr : World} {t : Int} {bs : List Bool} (h : WB w t bs wr) (q : Nat) : WB w t bs (wr.drewN q) :=
  ⟨⟨h.below.os, h.below.tape, h.below.output, h.below.size, h.below.block⟩, h.res, h.row⟩
theorem WB.set_ {w wr : World} {t : Int} {bs : List Bool} (h : WB w t bs wr) (j : Nat) : WB w t (bs.set j true) (wr.setCell ⟨w.heap.size + 1, 1 + j, none⟩ (.bool true)) := by
  refine ⟨h.below.setCell (by simp) _, ?_, ?_⟩
  · rw [Below.heap_setCell _ _ _ _ (by simp)]
    exact h.res
  · have hr := h.row
    simp only [World.setCell, Array.getElem?_modify, hr]
    simp [winRow, Nat.add_comm 1 j, List.map_set]
theorem WB.cell0 {w wr : World} {t : Int} {bs : List Bool} (h : WB w t bs wr) : wr.cell? ⟨w.heap.size + 1, 0, none⟩ = some (.int .i64 t) := by
  rw [cell_of_row wr _ 0 _ _ (0, 0) h.row]
  simp [winRow]
theorem WB.cell {w wr : World} {t : Int} {bs : List Bool} (h : WB w t bs wr) {j : Nat} (hj : j < bs.length) : wr.cell? ⟨w.heap.size + 1, 1 + j, none⟩ = some (.bool (bs.getD j false)) := by
  rw [cell_of_row wr _ (1 + j) _ _ (0, 0) h.row, Nat.add_comm]
  simp [winRow, hj]
theorem WB.free {w wr : World} {t : Int} {bs : List Bool} (h : WB w t bs wr) (j : Nat) : wr.frozen? ⟨w.heap.size + 1, j, none⟩ = false := by
  have := h.row
  simp [World.frozen?, this]
theorem WB.mk_ (w : World) (t : Int) : WB w t [false, false, false, false, false, false, false, false] ((w.alloc (.cells #[.int .i64 0, .bool false, .bool false, .bool false, .bool false, .bool false, .bool false, .bool false, .bool false] 26)).alloc
    (.cells #[.int .i64 t, .bool false, .bool false, .bool false, .bool false, .bool false, .bool false, .bool false, .bool false] 26)) := by
  refine ⟨by go_grown, ?_, ?_⟩
  · show ((w.heap.push _).push _)[_]? = _
    rw [Array.getElem?_push, if_neg (by simp), Array.getElem?_push, if_pos rfl]
  · show ((w.heap.push _).push _)[_]? = _
    rw [Array.getElem?_push, if_pos (by simp)]
    rfl

set_option maxRecDepth 100000 in
set_option maxHeartbeats 4000000 in
theorem windowOf_cons (A : Option Addr) (n c : Nat) (l : List Int) (w : World) (h : Rd w w.heap.size 1 A n (intCells l)) (hn : 0 < n) (hn9 : n ≤ 9) (hle : ∀ x ∈ l, -8 ≤ x ∧ x ≤ l.getLastD 0) (hbig : l.getLastD 0 ≤ 1073741824) :
    Calls Try.prog 167 #[.slice A n c] w (WinPost w (winOf l)) := by
  have hl := h.int_len
  obtain ⟨b0, off0, z, hA, hb0, hz, hcz⟩ := h.int_at (show n - 1 < n by omega)
  have hlast : l.getLastD 0 = z := by
    rw [List.getLastD_eq_getLast?, List.getLast?_eq_getElem?, hl, hz]
    rfl
  have hne : l ≠ [] := by
    intro e
    rw [e] at hl
    simp at hl
    omega
  have hwin : winOf l = winOn (z + 1) (bitsTo (z + 1) l) := by
    unfold winOf
    rw [if_neg hne, hlast]
  rw [hlast] at hle hbig
  have hz8 : -8 ≤ z := (hle z (List.mem_of_getElem? hz)).1
  rw [hwin]
  have H := Lib.hid h
  have HL := Lib.hid hl
  have HLE := Lib.hid hle
  have HA := Lib.hid hA
  subst hA
  have e1 : ((n : Int) - 1).toNat = n - 1 := by omega
  have hn1 : (0 : Int) ≤ (n : Int) - 1 := by omega
  clear h hl hle hne hwin hlast hz
  go_enter Try.func167, Try.ntmps167
  go_wp2_with fail
  go_loopw [4] (fun i wr => ∃ k : Nat, k ≤ n ∧ i = .int .i64 k ∧ WB w (z + 1) (bitsTo (z + 1) (l.take k)) wr) (fun i _ => n - (intOf i).toNat)
  case atStart => exact ⟨0, by omega, rfl, WB.mk_ w (z + 1)⟩
  case round =>
    obtain ⟨k, hk, rfl, hw⟩ := hrel
    have HW := Lib.hid hw
    have hlen := bitsTo_len (z + 1) (l.take k)
    have f0 := hw.cell0
    by_cases hlt : k < n
    · obtain ⟨b1, off1, x, hA1, _, hx, hc⟩ := (H.out.below hw.below (Nat.le_refl _)).int_at hlt
      obtain ⟨hx8, hxz⟩ := HLE.out x (List.mem_of_getElem? hx)
      have HE : Hid (bitsTo (z + 1) (l.take (k + 1)) = setBit (bitsTo (z + 1) (l.take k)) (x - (z + 1) + 8)) := by
        have e := bitsTo_snoc (z + 1) (l.take k) x
        rw [show l.take k ++ [x] = l.take (k + 1) by rw [List.take_add_one, hx]; rfl] at e
        exact e
      simp only [Option.some.injEq, Addr.mk.injEq, and_true] at hA1
      obtain ⟨rfl, rfl⟩ := hA1
      clear hw hx hcz
      generalize bitsTo (z + 1) (l.take k) = bs at HW hlen HE
      by_cases hneg : x - (z + 1) + 8 < 0
      · rw [setBit, if_neg (by omega)] at HE
        go_wp2_with fail
        go_quiet (fail)
        go_wp2_with fail
        go_roundw
        case rel => exact ⟨k + 1, by omega, by go_num, by rw [HE.out]; exact HW.out.drewN _⟩
        case measure => simp [intOf]; omega
      · obtain ⟨j, hj⟩ := Int.eq_ofNat_of_zero_le (show 0 ≤ x - (z + 1) + 8 by omega)
        have hj8 : j < 8 := by omega
        rw [setBit, if_pos (by omega), hj, Int.toNat_natCast] at HE
        have cj := HW.out.cell (j := j) (by omega)
        have fj := HW.out.free (1 + j)
        have HJ := Lib.hid hj
        clear hj hneg
        go_wp2_with fail
        go_quiet (fail)
        rw [HJ.out]
        go_wp2_with fail
        go_roundw
        case rel => exact ⟨k + 1, by omega, by go_num, by rw [HE.out]; exact (HW.out.drewN _).set_ j⟩
        case measure => simp [intOf]; omega
    · obtain rfl : k = n := by omega
      rw [List.take_of_length_le (by have := HL.out; omega)] at HW hlen
      generalize hbs : bitsTo (z + 1) l = bs at HW hlen
      clear hw hcz
      obtain ⟨a0, a1, a2, a3, a4, a5, a6, a7, rfl⟩ := eight hlen
      have HS := Lib.hid hbs
      clear hbs
      have g0 := HW.out.cell (j := 0) (by simp)
      have g1 := HW.out.cell (j := 1) (by simp)
      have g2 := HW.out.cell (j := 2) (by simp)
      have g3 := HW.out.cell (j := 3) (by simp)
      have g4 := HW.out.cell (j := 4) (by simp)
      have g5 := HW.out.cell (j := 5) (by simp)
      have g6 := HW.out.cell (j := 6) (by simp)
      have g7 := HW.out.cell (j := 7) (by simp)
      simp at g0 g1 g2 g3 g4 g5 g6 g7
      have r0 := cell_of_row wr w.heap.size 0 _ _ (0, 0) HW.out.res
      have r1 := cell_of_row wr w.heap.size 1 _ _ (0, 0) HW.out.res
      have r2 := cell_of_row wr w.heap.size 2 _ _ (0, 0) HW.out.res
      have r3 := cell_of_row wr w.heap.size 3 _ _ (0, 0) HW.out.res
      have r4 := cell_of_row wr w.heap.size 4 _ _ (0, 0) HW.out.res
      have r5 := cell_of_row wr w.heap.size 5 _ _ (0, 0) HW.out.res
      have r6 := cell_of_row wr w.heap.size 6 _ _ (0, 0) HW.out.res
      have r7 := cell_of_row wr w.heap.size 7 _ _ (0, 0) HW.out.res
      have r8 := cell_of_row wr w.heap.size 8 _ _ (0, 0) HW.out.res
      simp at r0 r1 r2 r3 r4 r5 r6 r7 r8
      have fz : ∀ j, wr.frozen? ⟨w.heap.size, j, none⟩ = false := fun j => by
        have := HW.out.res
        simp [World.frozen?, this]
      go_wp2_with fail
      refine bodyPost_ret (v := .agg #[.int .i64 (z + 1), .bool a0, .bool a1, .bool a2, .bool a3, .bool a4, .bool a5, .bool a6, .bool a7]) (by simp [results, Try.results167, go_sem, r0, r1, r2, r3, r4, r5, r6, r7, r8]) rfl ?_
      have hB := HW.out.below
      exact ⟨by rw [HS.out]; rfl, by go_grown⟩
end Go.Proofs.Ytkjlafpafmihaaa

namespace Go.Proofs.Ytkjlafpafmihaaa

def headNeg : List Int → Bool
  | [] => false
  | a :: _ => decide (a < 0)

/-- P3.1 as the reference asks it. -/
def winFaultRef (x : Win) : Int :=
  if ¬ (0 ≤ x.top ∧ x.top ≤ 1073741825) then 6
  else if headNeg (idsTo x.top x.at 8) = true then 6
  else if x = winOf (idsTo x.top x.at 8) then 0 else 6

theorem idsTo_lt (t : Int) (f : Nat → Bool) (k : Nat) : ∀ x ∈ idsTo t f k, t - 8 ≤ x ∧ x < t - 8 + k := by
  induction k with
  | zero => simp [idsTo]
  | succ k ih =>
    intro x hx
    unfold idsTo at hx
    split at hx
    · rcases List.mem_append.1 hx with h | h
      · have := ih x h; omega
      · simp at h; omega
    · have := ih x hx; omega

theorem headNeg_append {l : List Int} {y : Int} (h : ∀ x ∈ l, x < y) : headNeg (l ++ [y]) = (headNeg l || decide (y < 0)) := by
  cases l with
  | nil => simp [headNeg]
  | cons a l =>
    have := h a (by simp)
    simp only [List.cons_append, headNeg]
    by_cases ha : a < 0
    · simp [ha]
    · have hy : ¬ y < 0 := by omega
      simp [ha, hy]

theorem headNeg_ids (t : Int) (f : Nat → Bool) (k : Nat) : headNeg (idsTo t f k) = true ↔ ∃ i, i < k ∧ f i = true ∧ t - 8 + i < 0 := by
  induction k with
  | zero => simp [idsTo, headNeg]
  | succ k ih =>
    unfold idsTo
    split
    · rename_i hf
      rw [headNeg_append (fun x hx => (idsTo_lt t f k x hx).2), Bool.or_eq_true, ih, decide_eq_true_eq]
      constructor
      · rintro (⟨i, h1, h2, h3⟩ | h)
        · exact ⟨i, by omega, h2, h3⟩
        · exact ⟨k, by omega, hf, h⟩
      · rintro ⟨i, h1, h2, h3⟩
        by_cases hik : i = k
        · subst hik; exact .inr h3
        · exact .inl ⟨i, by omega, h2, h3⟩
    · rename_i hf
      rw [ih]
      constructor
      · rintro ⟨i, h1, h2, h3⟩; exact ⟨i, by omega, h2, h3⟩
      · rintro ⟨i, h1, h2, h3⟩
        have : i ≠ k := by rintro rfl; exact hf h2
        exact ⟨i, by omega, h2, h3⟩

theorem headNeg_winAll (t : Int) (f : Nat → Bool) : headNeg (idsTo t f 8) = !winAll t f := by
  cases h : winAll t f
  · have h' : ¬ ∀ k, k < 8 → f k = true → 8 ≤ t + k := fun hh => by rw [winAll_iff.2 hh] at h; cases h
    rw [Bool.not_false, headNeg_ids]
    apply Classical.byContradiction
    intro hn
    exact h' (fun k hk hf => by
      apply Classical.byContradiction
      intro hlt
      exact hn ⟨k, hk, hf, by omega⟩)
  · have h' := winAll_iff.1 h
    rw [Bool.not_true, ← Bool.not_eq_true, headNeg_ids]
    rintro ⟨i, h1, h2, h3⟩
    have := h' i h1 h2
    omega

theorem getD_set (bs : List Bool) (k i : Nat) : (bs.set k true).getD i false = if i = k ∧ k < bs.length then true else bs.getD i false := by
  simp only [List.getD_eq_getElem?_getD, List.getElem?_set]
  by_cases h : k = i
  · subst h
    by_cases h2 : k < bs.length <;> simp [h2]
  · have h3 : ¬ i = k := fun e => h e.symm
    simp [h, h3]

theorem bits_ids (t : Int) (f : Nat → Bool) (k : Nat) (hk : k ≤ 8) (i : Nat) : (bitsTo t (idsTo t f k)).getD i false = (decide (i < k) && f i) := by
  induction k with
  | zero =>
    simp only [idsTo, bitsTo, List.foldl_nil, Nat.not_lt_zero, decide_false, Bool.false_and]
    match i with
    | 0 | 1 | 2 | 3 | 4 | 5 | 6 | 7 => rfl
    | n + 8 => rfl
  | succ k ih =>
    have ih := ih (by omega)
    unfold idsTo
    split
    · rename_i hf
      rw [bitsTo_snoc]
      unfold setBit
      rw [if_pos (by omega), show (t - 8 + (k : Int) - t + 8).toNat = k by omega, getD_set, ih, bitsTo_len]
      by_cases h : i = k
      · subst h
        have h8 : i < 8 := by omega
        simp [hf, h8]
      · have h2 : (i < k + 1) ↔ i < k := by omega
        simp [h, h2]
    · rename_i hf
      rw [ih]
      by_cases h : i = k
      · subst h
        simp [hf]
      · have h2 : (i < k + 1) ↔ i < k := by omega
        simp [h2]

theorem winOn_ids (x : Win) : winOn x.top (bitsTo x.top (idsTo x.top x.at 8)) = x := by
  obtain ⟨t, b0, b1, b2, b3, b4, b5, b6, b7⟩ := x
  unfold winOn
  simp only [bits_ids _ _ 8 (Nat.le_refl _)]
  simp [Win.at, Win.seen]

theorem ids_nil {t : Int} {f : Nat → Bool} : ∀ {k : Nat}, idsTo t f k = [] → ∀ i, i < k → f i = false
  | 0, _, i, hi => by omega
  | k + 1, h, i, hi => by
    unfold idsTo at h
    split at h
    · simp at h
    · rename_i hf
      by_cases hik : i = k
      · subst hik; simpa using hf
      · exact ids_nil h i (by omega)

theorem winFaultRef_eq (x : Win) : winFaultRef x = winFault x := by
  have hx := winOn_ids x
  by_cases h : 0 ≤ x.top ∧ x.top ≤ 1073741825
  · unfold winFaultRef winFault
    simp only [h, and_self, not_true_eq_false, if_false, decide_true, Bool.true_and]
    rw [headNeg_winAll]
    cases hw : winAll x.top x.at
    · simp
    · simp only [Bool.not_true, Bool.false_eq_true, if_false, Bool.true_and]
      have hall := winAll_iff.1 hw
      have h7 : x.at 7 = x.b7 := rfl
      cases hb : x.b7
      · have h8 : idsTo x.top x.at 8 = idsTo x.top x.at 7 := by
          show (if x.at 7 = true then _ else _) = _
          rw [h7, hb]
          rfl
        cases hi : idsTo x.top x.at 7 with
        | nil =>
          have hf := ids_nil hi
          rw [h8, hi]
          by_cases ht : 0 < x.top
          · rw [if_neg (fun e => by rw [e] at ht; simp [winOf] at ht)]
            simp [ht]
          · have ht0 : x.top = 0 := by omega
            have e : x = winOf [] := by
              obtain ⟨t, b0, b1, b2, b3, b4, b5, b6, b7⟩ := x
              have g0 := hf 0 (by omega)
              have g1 := hf 1 (by omega)
              have g2 := hf 2 (by omega)
              have g3 := hf 3 (by omega)
              have g4 := hf 4 (by omega)
              have g5 := hf 5 (by omega)
              have g6 := hf 6 (by omega)
              simp only [Win.at, Win.seen, List.getD_cons_zero, List.getD_cons_succ] at g0 g1 g2 g3 g4 g5 g6
              simp only at ht0 hb
              subst g0; subst g1; subst g2; subst g3; subst g4; subst g5; subst g6; subst ht0; subst hb
              rfl
            rw [if_pos e]
            simp [ht]
        | cons a l =>
          have hlast : (a :: l).getLastD 0 ∈ a :: l := by
            rw [List.getLastD_eq_getLast?, List.getLast?_eq_some_getLast (by simp)]
            exact List.getLast_mem _
          have hlt := idsTo_lt x.top x.at 7 _ (by rw [hi]; exact hlast)
          rw [h8, hi]
          have ne : x ≠ winOf (a :: l) := by
            intro e
            have e2 := congrArg Win.top e
            simp only [winOf, List.cons_ne_nil, if_false, winOn] at e2
            omega
          rw [if_neg ne]
          by_cases ht : 0 < x.top
          · simp [ht]
          · exfalso
            obtain ⟨i, h1, h2⟩ : ∃ i, i < 7 ∧ x.at i = true := by
              apply Classical.byContradiction
              intro hn
              have hz : ∀ k, k ≤ 7 → idsTo x.top x.at k = [] := by
                intro k
                induction k with
                | zero => intro _; rfl
                | succ k ih =>
                  intro hk
                  unfold idsTo
                  rw [if_neg (fun hh => hn ⟨k, by omega, hh⟩)]
                  exact ih (by omega)
              rw [hz 7 (Nat.le_refl _)] at hi
              cases hi
            have := hall i (by omega) h2
            omega
      · have h8 : idsTo x.top x.at 8 = idsTo x.top x.at 7 ++ [x.top - 1] := by
          show (if x.at 7 = true then _ else _) = _
          rw [h7, hb, if_pos rfl, show x.top - 8 + ((7 : Nat) : Int) = x.top - 1 by omega]
        have e : x = winOf (idsTo x.top x.at 8) := by
          unfold winOf
          rw [if_neg (by rw [h8]; simp)]
          have hl : (idsTo x.top x.at 8).getLastD 0 + 1 = x.top := by
            rw [h8]
            simp
          rw [hl]
          exact hx.symm
        rw [if_pos e]
        simp
  · unfold winFaultRef winFault
    simp only [h, not_false_eq_true, if_true]
    have : (decide (0 ≤ x.top) && decide (x.top ≤ 1073741825)) = false := by
      rw [Bool.eq_false_iff]
      intro hh
      simp at hh
      exact h hh
    simp [this]
end Go.Proofs.Ytkjlafpafmihaaa

namespace Go.Proofs.Ytkjlafpafmihaaa
open Go.ChangeShapes Go.WideShapes Go.RowKit

/-- A struct of so many ints. -/
class IntRec (α : Type) where
  size : Nat
  ints : α → List Int
  of : List Int → α
  pos : 0 < size
  len : ∀ a, (ints a).length = size
  inv : ∀ xs : List Int, xs.length = size → ints (of xs) = xs

section
variable {α : Type} [IntRec α]
open IntRec

def recOne (a : α) : List Value := (ints a).map (Value.int .i64)
def recCells (l : List α) : List Value := l.flatMap recOne
theorem recOne_length (a : α) : (recOne a).length = size α := by simp [recOne, len]
theorem recCells_length (l : List α) : (recCells l).length = l.length * size α := by
  induction l with
  | nil => simp [recCells]
  | cons e l ih => simp only [recCells, List.flatMap_cons, List.length_append, List.length_cons] at *; rw [ih, recOne_length, Nat.succ_mul]; omega
theorem recCells_one (l : List α) : ∀ u ∈ recCells l, u.oneCell' = true := by
  intro u hu
  simp only [recCells, recOne, List.mem_flatMap, List.mem_map] at hu
  obtain ⟨e, _, x, _, rfl⟩ := hu
  rfl
theorem recCells_get {l : List α} {k j : Nat} {a : α} {v : Int} (h : l[k]? = some a) (hj : (ints a)[j]? = some v) : (recCells l)[k * size α + j]? = some (.int .i64 v) := by
  induction l generalizing k with
  | nil => simp at h
  | cons x l ih =>
    have e1 : recCells (x :: l) = recOne x ++ recCells l := by simp [recCells]
    have hx := recOne_length x
    have hjl : j < size α := by
      have := (List.getElem?_eq_some_iff.1 hj).1
      rw [len] at this
      exact this
    rw [e1]
    cases k with
    | zero =>
      simp at h
      subst h
      rw [Nat.zero_mul, Nat.zero_add, List.getElem?_append_left (by omega)]
      simp [recOne, hj]
    | succ k =>
      rw [List.getElem?_append_right (by rw [Nat.succ_mul]; omega), hx, show (k + 1) * size α + j - size α = k * size α + j by rw [Nat.succ_mul]; omega]
      exact ih (by simpa using h)

variable {w : World} {B n : Nat} {A : Option Addr} {l : List α}
theorem Rd.rec_len (h : Rd w B (size α) A n (recCells l)) : l.length = n := by
  have := h.1
  rw [recCells_length] at this
  exact Nat.eq_of_mul_eq_mul_right (pos (α := α)) this
theorem all2_ints {cs : List Value} {m : Nat} (h : All2 Fits0 cs (List.replicate m (.int .i64))) : ∃ xs : List Int, xs.length = m ∧ cs = xs.map (Value.int .i64) := by
  induction m generalizing cs with
  | zero => exact ⟨[], rfl, All2.nil_ h⟩
  | succ m ih =>
    obtain ⟨a, l1, rfl, ⟨x, rfl, _⟩, h3⟩ := All2.cons_ h
    obtain ⟨xs, h4, rfl⟩ := ih h3
    exact ⟨x :: xs, by simp [h4], rfl⟩

/-- An argument that is a slice of such structs. -/
theorem open_recs {W : World} {v : Value} {b : Nat} (h : Fits W v (.sl b (List.replicate (size α) (.int .i64)))) :
    ∃ A n c, ∃ l : List α, v = .slice A n c ∧ Rd W W.heap.size (size α) A n (recCells l) ∧ n ≤ c ∧ c ≤ maxLen ∧ c * b ≤ reachBytes ∧ (A = none → c = 0) := by
  have hp := pos (α := α)
  rcases h with rfl | ⟨ad, n, c, rfl, hn, hc, hr, hcell⟩
  · exact ⟨none, 0, 0, [], rfl, ⟨by simp [recCells], fun h => absurd h (by omega)⟩, Nat.le_refl _, Nat.zero_le _, by simp, fun _ => rfl⟩
  · have hex : ∀ i, i < n → ∃ x : α, ad.block < W.heap.size ∧ ∀ j u, (recOne x)[j]? = some u → W.cell? (ad.add (i * size α + j)) = some u := by
      intro i hi
      obtain ⟨cs, h2, hb, hcs⟩ := hcell i hi
      obtain ⟨xs, hx, rfl⟩ := all2_ints h2
      rw [List.length_replicate] at hb hcs
      refine ⟨of xs, hb hp, fun j u hj => hcs j u ?_⟩
      rw [recOne, inv xs hx] at hj
      exact hj
    have hd : ∃ x : α, True := ⟨of [], trivial⟩
    obtain ⟨f, hf⟩ : ∃ f : Nat → α, ∀ i, i < n → ad.block < W.heap.size ∧ ∀ j u, (recOne (f i))[j]? = some u → W.cell? (ad.add (i * size α + j)) = some u := by
      refine ⟨fun i => if hi : i < n then Classical.choose (hex i hi) else of [], fun i hi => ?_⟩
      simp only [hi, dif_pos]
      exact Classical.choose_spec (hex i hi)
    refine ⟨some ad, n, c, (List.range n).map f, rfl, ⟨by rw [recCells_length]; simp, fun h0 => ?_⟩, hn, hc, hr, fun h => by cases h⟩
    obtain ⟨b, off, spot⟩ := ad
    have hspot : spot = none := by
      have h1 : (recOne (f 0))[0]? = some ((recOne (f 0))[0]'(by rw [recOne_length]; exact hp)) := List.getElem?_eq_getElem _
      simpa [Addr.add] using World.cell?_spot ((hf 0 h0).2 0 _ h1)
    subst hspot
    refine ⟨b, off, rfl, (hf 0 h0).1, fun j u hu => ?_⟩
    have hj : j < n * size α := by
      have := (List.getElem?_eq_some_iff.1 hu).1
      rw [recCells_length] at this
      simpa using this
    have hk : j / size α < n := Nat.div_lt_of_lt_mul (by rw [Nat.mul_comm]; exact hj)
    have hm : j % size α < size α := Nat.mod_lt _ hp
    have hg : ((List.range n).map f)[j / size α]? = some (f (j / size α)) := by simp [hk]
    have e : j / size α * size α + j % size α = j := by rw [Nat.mul_comm]; exact Nat.div_add_mod j (size α)
    have h7 := (hf (j / size α) hk).2 (j % size α) u
    rw [Go.WideShapes.add_plain, e] at h7
    refine h7 ?_
    have hi : (ints (f (j / size α)))[j % size α]? = some ((ints (f (j / size α)))[j % size α]'(by rw [len]; exact hm)) := List.getElem?_eq_getElem _
    have h8 := recCells_get hg hi
    rw [e, hu] at h8
    rw [recOne, List.getElem?_map, hi]
    exact h8.symm
end

end Go.Proofs.Ytkjlafpafmihaaa

namespace Go.Proofs.Ytkjlafpafmihaaa
open Go.ChangeShapes Go.WideShapes Go.RowKit

theorem take_snoc_ {α : Type} {l : List α} {k : Nat} {e : α} (h : l[k]? = some e) : l.take k ++ [e] = l.take (k + 1) := by
  rw [List.take_add_one, h]
  rfl

theorem ev_new (w : World) (e : Ev) (t : TypeId) : Rd (w.alloc (.cells #[.int .i64 e.kind, .int .i64 e.producer, .int .i64 e.id, .int .i64 e.body, .int .i64 e.hepoch, .int .i64 e.hno] t)) (w.heap.size + 1) 6 (some ⟨w.heap.size, 0, none⟩) 1 (evCells [e]) :=
  Rd.new_ w t (evCells [e]) 1 6 (by simp [evCells_length])

set_option maxHeartbeats 800000 in
theorem EventsCopy_calls (A : Option Addr) (n c : Nat) (l : List Ev) (w : World) (h : Rd w w.heap.size 6 A n (evCells l)) (hc : n * 48 ≤ reachBytes) :
    Calls Try.prog 152 #[.slice A n c] w (OwnPost w 37 6 n (evCells l)) := by
  have hc' : n * 48 ≤ 140737488351232 := hc
  obtain ⟨i0, hi0, hz0, hz1, hz2⟩ := info_parts ev_info
  have hl := h.ev_len
  have H := Lib.hid h
  have HL := Lib.hid hl
  clear h hl hc
  go_enter Try.func152, Try.ntmps152
  go_wp2
  go_loopw [3, 4] (fun v i wr => ∃ k : Nat, k ≤ n ∧ i = .int .i64 k ∧ Below w.heap.size w wr ∧ wr.ownsRow w.heap.size 37 6 v k (evCells (l.take k))) (fun _ i _ => n - (intOf i).toNat)
  case atStart => exact ⟨0, Nat.zero_le _, rfl, Below.refl _ _, ownsRow_nil_ _ _ _ _⟩
  case round =>
    obtain ⟨k, hk, rfl, hB, hown⟩ := hrel
    by_cases hlt : k < n
    · obtain ⟨b, off, e, rfl, hb, he, c0, c1, c2, c3, c4, c5⟩ := (H.out.below hB (Nat.le_refl _)).ev_at hlt
      have hs := hB.size
      have HE := Lib.hid he
      have HB := Lib.hid hB
      have HO := Lib.hid hown
      clear he hB hown
      have hE := ev_new wr e 37
      have HN := Lib.hid hE
      clear hE
      go_wp2_with (at_builtin; refine wpList_append_any _ rfl (.tmp 11) (.tmp 16) _ rfl w.heap.size 37 i0 _ 6 48 Try.underlying57 hi0 hz0 hz1 hz2 rfl (by omega) _ k (evCells (l.take k)) rfl (HO.out.alloc _) (wr.heap.size + 1) (some ⟨wr.heap.size, 0, none⟩) 1 1 (evCells [e]) rfl HN.out (evCells_one _) (by simp only [maxLen]; omega) (by omega) (by simp; omega) ?_; intro v1 w1 hown1 hg1 hat1)
      have hB1 : Below w.heap.size w w1 := (HB.out.alloc hs _).grown hg1 (by simp; omega) (HO.out.own_lt ·)
      rw [← evCells_append, take_snoc_ HE.out] at hown1
      have HB1 := Lib.hid hB1
      have HO1 := Lib.hid hown1
      clear hB1 hown1 hg1 hat1
      go_wp2
      go_roundw
      case rel => exact ⟨k + 1, by omega, by go_num, HB1.out, HO1.out⟩
      case measure => simp [intOf]; omega
    · obtain rfl : k = n := by omega
      have HB := Lib.hid hB
      have HO := Lib.hid hown
      clear hB hown
      go_wp2
      go_ret
      have hown := HO.out
      rw [List.take_of_length_le (by have := HL.out; omega)] at hown
      exact OwnPost.of HB.out hown
end Go.Proofs.Ytkjlafpafmihaaa

