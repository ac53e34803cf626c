/- Contracts: window.Seen, ref.IdSeen. -/
import Derived.Test.YtkjlafpafmihaaaWinFault
namespace Go.Proofs.Ytkjlafpafmihaaa
open Go.ChangeShapes Go.WideShapes Go.RowKit

/-- P3.2. -/
def seenM (x : Win) (id : Int) : Bool × Int :=
  if winFault x ≠ 0 then (false, winFault x)
  else if id < 0 ∨ 1073741824 < id then (false, 2)
  else if x.top ≤ id then (false, 0)
  else if id < x.top - 8 then (false, 9)
  else (x.at (id - (x.top - 8)).toNat, 0)

def SeenPost (w : World) (r : Bool × Int) (e : Ending) (w' : World) : Prop := e = .returned (.tuple #[.bool r.1, .int .i64 r.2]) ∧ Below w.heap.size w w'

theorem winFault_zero {x : Win} (h : winFault x = 0) : 0 ≤ x.top ∧ x.top ≤ 1073741825 := by
  unfold winFault at h
  split at h
  · rename_i hh
    simp only [Bool.and_eq_true, decide_eq_true_eq] at hh
    exact ⟨hh.1.1.1, hh.1.1.2⟩
  · cases h

theorem win_cells (x : Win) : ∀ k, k < 8 → (x.cells)[k + 1]? = some (.bool (x.at k)) := by
  intro k hk
  have h : k = 0 ∨ k = 1 ∨ k = 2 ∨ k = 3 ∨ k = 4 ∨ k = 5 ∨ k = 6 ∨ k = 7 := by omega
  rcases h with rfl | rfl | rfl | rfl | rfl | rfl | rfl | rfl <;> rfl

set_option maxRecDepth 100000 in
set_option maxHeartbeats 4000000 in
theorem WSeen_calls (x : Win) (id : Int) (w : World) : Calls Try.prog 189 #[x.val, .int .i64 id] w (SeenPost w (seenM x id)) := by
  have HC := Lib.hid (WCheck_calls x)
  have HL := Lib.hid (lowest_calls x)
  have HX := Lib.hid (win_cells x)
  have HT := Lib.hid (winFault_zero (x := x))
  have HZ0 : Hid (∀ r, r = seenM x id → r = if winFault x ≠ 0 then (false, winFault x)
    else if id < 0 ∨ 1073741824 < id then (false, 2)
    else if x.top ≤ id then (false, 0)
    else if id < x.top - 8 then (false, 9)
    else (x.at (id - (x.top - 8)).toNat, 0)) := Lib.hid (fun r h => h)
  generalize hr : seenM x id = r
  have HZ := Lib.hid (HZ0.out r hr.symm)
  clear hr HZ0
  generalize winFault x = z at HC HT HZ
  have hat := Lib.hid (rfl : x.at = x.at)
  generalize x.at = f at HX HZ hat
  clear hat
  obtain ⟨t, b0, b1, b2, b3, b4, b5, b6, b7⟩ := x
  unfold Win.val at *
  unfold Win.cells at HX
  simp only at HT HX HZ HL
  go_enter Try.func189, Try.ntmps189
  go_wp2_with fail
  refine (HC.out _).mono ?_
  rintro e w1 ⟨rfl, hb1⟩
  have c0 := hb1.cell (p := ⟨w.heap.size, 0, none⟩) (by simp)
  have c1 := hb1.cell (p := ⟨w.heap.size, 1, none⟩) (by simp)
  have c2 := hb1.cell (p := ⟨w.heap.size, 2, none⟩) (by simp)
  have c3 := hb1.cell (p := ⟨w.heap.size, 3, none⟩) (by simp)
  have c4 := hb1.cell (p := ⟨w.heap.size, 4, none⟩) (by simp)
  have c5 := hb1.cell (p := ⟨w.heap.size, 5, none⟩) (by simp)
  have c6 := hb1.cell (p := ⟨w.heap.size, 6, none⟩) (by simp)
  have c7 := hb1.cell (p := ⟨w.heap.size, 7, none⟩) (by simp)
  have c8 := hb1.cell (p := ⟨w.heap.size, 8, none⟩) (by simp)
  simp only [World.cell?_alloc_mark] at c0 c1 c2 c3 c4 c5 c6 c7 c8
  have hsz : w.heap.size + 1 ≤ w1.heap.size := by have := hb1.size; simpa using this
  have HK : Hid (∀ k, k < 8 → w1.cell? ⟨w.heap.size, 1 + k, none⟩ = some (.bool (f k))) := by
    intro k hk
    have ck := hb1.cell (p := ⟨w.heap.size, 1 + k, none⟩) (by simp)
    rw [World.cell?_alloc_mark] at ck
    rw [ck, Nat.add_comm 1 k]
    simpa using HX.out k hk
  have HB : Hid (Below w.heap.size w w1) := Lib.hid (((Below.refl _ w).alloc (Nat.le_refl _) _).trans (hb1.mono (by simp)))
  clear hb1 HX HC
  by_cases hz : z = 0
  · obtain ⟨h0, h1⟩ := HT.out hz
    subst hz
    have HZ := Lib.hid (HZ.out.trans (if_neg (by simp)))
    clear HT
    by_cases i0 : id < 0
    · have e := HZ.out
      rw [if_pos (by omega)] at e
      subst e
      go_wp2_with fail
      go_ret2
      exact ⟨rfl, HB.out⟩
    · by_cases i1 : 1073741824 < id
      · have e := HZ.out
        rw [if_pos (by omega)] at e
        subst e
        go_wp2_with fail
        go_ret2
        exact ⟨rfl, HB.out⟩
      · have HZ := Lib.hid (HZ.out.trans (if_neg (by omega)))
        by_cases i2 : t ≤ id
        · have e := HZ.out
          rw [if_pos (by omega)] at e
          subst e
          go_wp2_with fail
          go_ret2
          exact ⟨rfl, HB.out⟩
        · have HZ := Lib.hid (HZ.out.trans (if_neg (by omega)))
          by_cases i3 : id < t - 8
          · have e := HZ.out
            rw [if_pos (by omega)] at e
            subst e
            go_wp2_with fail
            refine (HL.out _ h0 h1).mono ?_
            rintro e w2 ⟨rfl, hb2⟩
            have HB2 := Lib.hid hb2
            clear hb2
            go_wp2_with fail
            go_ret2
            exact ⟨rfl, HB.out.trans (HB2.out.mono (by omega))⟩
          · have e := HZ.out
            rw [if_neg (by omega)] at e
            subst e
            obtain ⟨k, hk⟩ := Int.eq_ofNat_of_zero_le (show 0 ≤ id - (t - 8) by omega)
            have hk8 : k < 8 := by omega
            rw [hk, Int.toNat_natCast]
            have HKK := Lib.hid hk
            have ck := HK.out k hk8
            go_wp2_with fail
            refine (HL.out _ h0 h1).mono ?_
            rintro e w2 ⟨rfl, hb2⟩
            have d0 := hb2.cell (p := ⟨w.heap.size, 0, none⟩) (by simp; omega)
            have d1 := hb2.cell (p := ⟨w.heap.size, 1, none⟩) (by simp; omega)
            have d2 := hb2.cell (p := ⟨w.heap.size, 2, none⟩) (by simp; omega)
            have d3 := hb2.cell (p := ⟨w.heap.size, 3, none⟩) (by simp; omega)
            have d4 := hb2.cell (p := ⟨w.heap.size, 4, none⟩) (by simp; omega)
            have d5 := hb2.cell (p := ⟨w.heap.size, 5, none⟩) (by simp; omega)
            have d6 := hb2.cell (p := ⟨w.heap.size, 6, none⟩) (by simp; omega)
            have d7 := hb2.cell (p := ⟨w.heap.size, 7, none⟩) (by simp; omega)
            have d8 := hb2.cell (p := ⟨w.heap.size, 8, none⟩) (by simp; omega)
            have dk := hb2.cell (p := ⟨w.heap.size, 1 + k, none⟩) (by simp; omega)
            rw [c0] at d0; rw [c1] at d1; rw [c2] at d2; rw [c3] at d3; rw [c4] at d4; rw [c5] at d5; rw [c6] at d6; rw [c7] at d7; rw [c8] at d8; rw [ck] at dk
            have HB2 := Lib.hid hb2
            clear hb2
            go_wp2_with fail
            refine (HL.out _ h0 h1).mono ?_
            rintro e w3 ⟨rfl, hb3⟩
            have HB3 := Lib.hid hb3
            have g0 := hb3.cell (p := ⟨w.heap.size, 1 + k, none⟩) (by simp; have := HB2.out.size; omega)
            rw [dk] at g0
            clear hb3
            go_wp2_with fail
            go_ret2
            exact ⟨by show Ending.returned (.tuple #[.bool (f k), .int .i64 0]) = _; rw [HKK.out, Int.toNat_natCast], (HB.out.trans (HB2.out.mono (by omega))).trans (HB3.out.mono (by have := HB2.out.size; omega))⟩
  · have e := HZ.out
    rw [if_pos hz] at e
    subst e
    go_wp2_with fail
    go_ret2
    exact ⟨rfl, HB.out⟩

theorem ids_mem {t : Int} {f : Nat → Bool} {k : Nat} {y : Int} : y ∈ idsTo t f k ↔ ∃ i, i < k ∧ f i = true ∧ y = t - 8 + i := by
  induction k with
  | zero => simp [idsTo]
  | succ k ih =>
    unfold idsTo
    split
    · rename_i hf
      rw [List.mem_append, ih, List.mem_singleton]
      constructor
      · rintro (⟨i, h1, h2, h3⟩ | h)
        · exact ⟨i, by omega, h2, h3⟩
        · exact ⟨k, by omega, hf, h⟩
      · rintro ⟨i, h1, h2, h3⟩
        by_cases hik : i = k
        · subst hik; exact .inr h3
        · exact .inl ⟨i, by omega, h2, h3⟩
    · rename_i hf
      rw [ih]
      constructor
      · rintro ⟨i, h1, h2, h3⟩; exact ⟨i, by omega, h2, h3⟩
      · rintro ⟨i, h1, h2, h3⟩
        have : i ≠ k := by rintro rfl; exact hf h2
        exact ⟨i, by omega, h2, h3⟩

/-- P3.2 as the reference asks it. -/
def seenRef (x : Win) (id : Int) : Bool × Int :=
  if winFault x ≠ 0 then (false, winFault x)
  else if inR id 0 1073741824 = false then (false, 2)
  else if id + 8 < x.top then (false, 9)
  else (decide (id ∈ idsTo x.top x.at 8), 0)

theorem seenRef_eq (x : Win) (id : Int) : seenRef x id = seenM x id := by
  unfold seenRef seenM
  split
  · rfl
  · by_cases h : id < 0 ∨ 1073741824 < id
    · rw [if_pos (inR_false.2 h), if_pos h]
    · rw [if_neg (by rw [inR_false]; exact h), if_neg h]
      by_cases h1 : x.top ≤ id
      · rw [if_neg (by omega), if_pos h1]
        have : ¬ id ∈ idsTo x.top x.at 8 := fun hm => by
          have := idsTo_lt x.top x.at 8 id hm
          omega
        simp [this]
      · rw [if_neg h1]
        by_cases h2 : id < x.top - 8
        · rw [if_pos (by omega), if_pos h2]
        · rw [if_neg (by omega), if_neg h2]
          obtain ⟨k, hk⟩ := Int.eq_ofNat_of_zero_le (show 0 ≤ id - (x.top - 8) by omega)
          rw [hk, Int.toNat_natCast]
          have : id ∈ idsTo x.top x.at 8 ↔ x.at k = true := by
            rw [ids_mem]
            constructor
            · rintro ⟨i, h1, h2, h3⟩
              rw [show k = i by omega]; exact h2
            · intro h; exact ⟨k, by omega, h, by omega⟩
          cases hx : x.at k
          · rw [hx] at this; simp [this]
          · rw [hx] at this; simp [this]

set_option maxRecDepth 100000 in
set_option maxHeartbeats 4000000 in
theorem IdSeen_calls (x : Win) (id : Int) (w : World) : Calls Try.prog 180 #[x.val, .int .i64 id] w (SeenPost w (seenM x id)) := by
  rw [← seenRef_eq]
  have HC := Lib.hid (WindowFault_calls x)
  have HI := Lib.hid (idsOf_calls x)
  have HT := Lib.hid (winFault_zero (x := x))
  have HZ0 : Hid (∀ r, r = seenRef x id → r = if winFault x ≠ 0 then (false, winFault x)
    else if inR id 0 1073741824 = false then (false, 2)
    else if id + 8 < x.top then (false, 9)
    else (decide (id ∈ idsTo x.top x.at 8), 0)) := Lib.hid (fun r h => h)
  generalize hr : seenRef x id = r
  have HZ := Lib.hid (HZ0.out r hr.symm)
  clear hr HZ0
  have hlen := idsTo_len x.top x.at 8
  generalize winFault x = z at HC HT HZ
  generalize idsTo x.top x.at 8 = l at HI HZ hlen
  obtain ⟨t, b0, b1, b2, b3, b4, b5, b6, b7⟩ := x
  unfold Win.val at *
  simp only at HT HZ HI
  go_enter Try.func180, Try.ntmps180
  go_wp2_with fail
  refine (HC.out _).mono ?_
  rintro e w1 ⟨rfl, hb1⟩
  have c0 := hb1.cell (p := ⟨w.heap.size, 0, none⟩) (by simp)
  have c1 := hb1.cell (p := ⟨w.heap.size, 1, none⟩) (by simp)
  have c2 := hb1.cell (p := ⟨w.heap.size, 2, none⟩) (by simp)
  have c3 := hb1.cell (p := ⟨w.heap.size, 3, none⟩) (by simp)
  have c4 := hb1.cell (p := ⟨w.heap.size, 4, none⟩) (by simp)
  have c5 := hb1.cell (p := ⟨w.heap.size, 5, none⟩) (by simp)
  have c6 := hb1.cell (p := ⟨w.heap.size, 6, none⟩) (by simp)
  have c7 := hb1.cell (p := ⟨w.heap.size, 7, none⟩) (by simp)
  have c8 := hb1.cell (p := ⟨w.heap.size, 8, none⟩) (by simp)
  simp only [World.cell?_alloc_mark] at c0 c1 c2 c3 c4 c5 c6 c7 c8
  have hsz : w.heap.size + 1 ≤ w1.heap.size := by have := hb1.size; simpa using this
  have HB : Hid (Below w.heap.size w w1) := Lib.hid (((Below.refl _ w).alloc (Nat.le_refl _) _).trans (hb1.mono (by simp)))
  clear hb1 HC
  by_cases hz : z = 0
  · obtain ⟨h0, h1⟩ := HT.out hz
    subst hz
    have HZ := Lib.hid (HZ.out.trans (if_neg (by simp)))
    clear HT
    go_wp2_with fail
    refine (In_calls _ _ _ _).mono ?_
    rintro e w2 ⟨rfl, rfl⟩
    cases hin : inR id 0 1073741824
    · have e := HZ.out
      rw [if_pos hin] at e
      subst e
      clear hin
      go_wp2_with fail
      go_ret2
      exact ⟨rfl, HB.out⟩
    · have HZ := Lib.hid (HZ.out.trans (if_neg (by simp [hin])))
      obtain ⟨i0, i1⟩ := inR_true.1 hin
      clear hin
      by_cases i2 : id + 8 < t
      · have e := HZ.out
        rw [if_pos i2] at e
        subst e
        go_wp2_with fail
        go_ret2
        exact ⟨rfl, HB.out⟩
      · have HZ := Lib.hid (HZ.out.trans (if_neg i2))
        go_wp2_with fail
        refine (HI.out _ h0 h1).mono ?_
        rintro e w2 ⟨A1, n1, d1, rfl, hn1, hb2, hr2⟩
        have HB2 := Lib.hid hb2
        have HR := Lib.hid hr2
        have HN := Lib.hid hn1
        have hn8 : n1 ≤ 8 := by omega
        clear hb2 hr2 hn1 c0 c1 c2 c3 c4 c5 c6 c7 c8
        go_wp2_with fail
        go_loopw [8] (fun i wr => ∃ k : Nat, k ≤ n1 ∧ i = .int .i64 k ∧ (∀ y ∈ l.take k, y ≠ id) ∧ ∃ q, wr = w2.drewN q) (fun i _ => n1 - (intOf i).toNat)
        case atStart => exact ⟨0, by omega, rfl, by simp, 0, rfl⟩
        case round =>
          obtain ⟨k, hk, rfl, hall, q, rfl⟩ := hrel
          have HA := Lib.hid hall
          clear hall
          by_cases hlt : k < n1
          · obtain ⟨b, off, y, hA, hb, hy, hc⟩ := HR.out.int_at hlt
            subst hA
            have HY := Lib.hid hy
            clear hy
            by_cases hyi : y = id
            · have e := HZ.out
              rw [show decide (id ∈ l) = true from by rw [decide_eq_true_eq, ← hyi]; exact List.mem_of_getElem? HY.out] at e
              subst e
              subst hyi
              go_wp2_with fail
              go_ret2
              exact ⟨rfl, (HB.out.trans (HB2.out.mono (by omega))).trans ⟨rfl, rfl, rfl, Nat.le_refl _, fun _ _ => rfl⟩⟩
            · go_wp2_with fail
              go_roundw
              case rel => exact ⟨k + 1, by omega, by go_num, (fun v hv => by
                rw [List.take_add_one, HY.out, List.mem_append] at hv
                rcases hv with h | h
                · exact HA.out v h
                · simp at h; subst h; exact hyi), q, rfl⟩
              case measure => simp [intOf]; omega
          · obtain rfl : k = n1 := by omega
            have e := HZ.out
            rw [show decide (id ∈ l) = false from by
              rw [decide_eq_false_iff_not]
              intro hm
              exact HA.out id (by rw [List.take_of_length_le (by have := HN.out; omega)]; exact hm) rfl] at e
            subst e
            go_wp2_with fail
            go_ret2
            exact ⟨rfl, (HB.out.trans (HB2.out.mono (by omega))).trans ⟨rfl, rfl, rfl, Nat.le_refl _, fun _ _ => rfl⟩⟩
  · have e := HZ.out
    rw [if_pos hz] at e
    subst e
    go_wp2_with fail
    go_ret2
    exact ⟨rfl, HB.out⟩
end Go.Proofs.Ytkjlafpafmihaaa
