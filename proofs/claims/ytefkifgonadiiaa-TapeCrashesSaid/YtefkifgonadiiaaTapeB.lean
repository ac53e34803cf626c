/- Contracts: tape.Sync, tape.Crash, ref.TapeMay, ref.Octets, ref.TapeSynced, ref.TapeCrashed, berthshiftlaw.sameTape. -/
import Derived.Test.YtefkifgonadiiaaTape
namespace Go.Proofs.Ytefkifgonadiiaa
open Go.ChangeShapes Go.WideShapes Go.RowKit

/-- A tape and an error number, the tape's bytes in memory. -/
def TapePost (w : World) (r : List UInt8 × Int × Int) (e : Ending) (w' : World) : Prop :=
  ∃ A c, e = .returned (.tuple #[.agg #[.slice A r.1.length c, .int .i64 r.2.1], .int .i64 r.2.2]) ∧ Below w.heap.size w w' ∧ Rd w' w'.heap.size 1 A r.1.length (byteCells r.1)

def syncM (l : List UInt8) (s : Int) : List UInt8 × Int × Int := if tapeMay l s = true then (l, l.length, 0) else ([], 0, 6)
theorem openM_eq (l : List UInt8) (s : Int) : (openM l s = (l, s, true) ∧ tapeMay l s = true) ∨ (openM l s = ([], 0, false) ∧ tapeMay l s = false) := by
  unfold openM
  cases h : tapeMay l s <;> simp
theorem tapeMay_of {l : List UInt8} {s : Int} (h : tapeMay l s = true) : l.length ≤ 100000 ∧ 0 ≤ s ∧ s ≤ l.length := by
  simp [tapeMay] at h
  omega

set_option maxRecDepth 100000 in
set_option maxHeartbeats 4000000 in
theorem Sync_calls (A : Option Addr) (n c : Nat) (l : List UInt8) (s : Int) (w : World) (h : Rd w w.heap.size 1 A n (byteCells l)) :
    Calls Try.prog 32 #[.agg #[.slice A n c, .int .i64 s]] w (TapePost w (syncM l s)) := by
  have H := Lib.hid h
  clear h
  have HO := Lib.hid (open_calls A n c l s)
  rcases openM_eq l s with ⟨ho, hm⟩ | ⟨ho, hm⟩
  · rw [show syncM l s = (l, (l.length : Int), 0) from if_pos hm]
    rw [ho] at HO
    obtain ⟨hm1, _, _⟩ := tapeMay_of hm
    clear ho hm
    go_enter Try.func32, Try.ntmps32
    go_wp2_with fail
    refine (HO.out _ (by exact H.out.on (by go_grown))).mono ?_
    rintro e w1 ⟨A1, c1, rfl, hb1, hown1⟩
    have hz0 : w.heap.size < w1.heap.size := by have := hb1.size; simp at this; omega
    have hz1 : w.heap.size + 1 < w1.heap.size := by have := hb1.size; simp at this; omega
    obtain ⟨hc1, hf1⟩ := bcell hb1
    have HB : Hid (Below w.heap.size w w1) := Lib.hid (Below.trans (by go_grown) (hb1.mono (by simp; omega)))
    have HR := Lib.hid (World.ownsRow.lower (base' := w.heap.size + 1 + 1) hown1 (by simp))
    clear hb1 hown1
    go_wp2
    refine bodyPost_ret (v := .tuple #[.agg #[.slice A1 l.length c1, .int .i64 l.length], .int .i64 0]) (by simp [results, Try.results32, go_sem, hc1, hz1]) rfl ?_
    have hB := HB.out
    have hz := hB.size
    exact ⟨A1, c1, rfl, by go_grown, Rd.of_own ((ownsRow_setCell_below (ownsRow_setCell_below HR.out (by simp) _) (by simp) _).alloc _)⟩
  · rw [show syncM l s = ([], 0, 6) from if_neg (by simp [hm])]
    rw [ho] at HO
    clear ho hm
    go_enter Try.func32, Try.ntmps32
    go_wp2_with fail
    refine (HO.out _ (by exact H.out.on (by go_grown))).mono ?_
    rintro e w1 ⟨A1, c1, rfl, hb1, hown1⟩
    have hz0 : w.heap.size < w1.heap.size := by have := hb1.size; simp at this; omega
    have hz1 : w.heap.size + 1 < w1.heap.size := by have := hb1.size; simp at this; omega
    obtain ⟨hc1, hf1⟩ := bcell hb1
    have HB : Hid (Below w.heap.size w w1) := Lib.hid (Below.trans (by go_grown) (hb1.mono (by simp; omega)))
    clear hb1 hown1
    go_wp2
    refine bodyPost_ret (v := .tuple #[.agg #[.slice none 0 0, .int .i64 0], .int .i64 6]) (by simp [results, Try.results32, go_sem, hc1, hz1]) rfl ?_
    have hB := HB.out
    have hz := hB.size
    exact ⟨none, 0, rfl, by go_grown, Rd.none_⟩
/-- P2.5. -/
def crashM (l : List UInt8) (s keep : Int) : List UInt8 × Int × Int :=
  if tapeMay l s = true then if keep < 0 then ([], 0, 2) else if (l.length : Int) - s < keep then (l, l.length, 0) else (l.take (s + keep).toNat, s + keep, 0) else ([], 0, 6)

theorem Rd.take {w : World} {B size n : Nat} {A : Option Addr} {xs : List Value} (h : Rd w B size A n xs) {m : Nat} (hm : m ≤ n) : Rd w B size A m (xs.take (m * size)) := by
  refine ⟨?_, fun h0 => ?_⟩
  · rw [List.length_take, h.1]
    exact Nat.min_eq_left (Nat.mul_le_mul_right _ hm)
  · obtain ⟨b, off, e, hb, hc⟩ := h.2 (by omega)
    refine ⟨b, off, e, hb, fun j u hu => hc j u ?_⟩
    rw [List.getElem?_take] at hu
    split at hu
    · exact hu
    · cases hu
theorem byteCells_take (l : List UInt8) (m : Nat) : (byteCells l).take m = byteCells (l.take m) := by simp [byteCells, List.map_take]

set_option maxRecDepth 100000 in
set_option maxHeartbeats 4000000 in
theorem Crash_all (A : Option Addr) (n c : Nat) (l : List UInt8) (s keep : Int) (w : World) (h : Rd w w.heap.size 1 A n (byteCells l)) (hm : tapeMay l s = true) (h0 : 0 ≤ keep) (hk : (l.length : Int) - s < keep) :
    Calls Try.prog 35 #[.agg #[.slice A n c, .int .i64 s], .int .i64 keep] w (TapePost w (l, l.length, 0)) := by
  have H := Lib.hid h
  clear h
  have HO := Lib.hid (open_calls A n c l s)
  obtain ⟨hm1, hs0, hs1⟩ := tapeMay_of hm
  rw [openM_yes hs0 hs1 hm1] at HO
  obtain ⟨s', rfl⟩ := Int.eq_ofNat_of_zero_le hs0
  clear hm
  go_enter Try.func35, Try.ntmps35
  go_wp2_with fail
  refine (HO.out _ (by exact H.out.on (by go_grown))).mono ?_
  rintro e w1 ⟨A1, c1, rfl, hb1, hown1⟩
  have hz0 : w.heap.size < w1.heap.size := by have := hb1.size; simp at this; omega
  have hz1 : w.heap.size + 1 < w1.heap.size := by have := hb1.size; simp at this; omega
  obtain ⟨hc1, hf1⟩ := bcell hb1
  have HB : Hid (Below w.heap.size w w1) := Lib.hid (Below.trans (by go_grown) (hb1.mono (by simp; omega)))
  have hcap := own_cap hown1
  have HR := Lib.hid (World.ownsRow.lower (base' := w.heap.size + 1 + 1) hown1 (by simp))
  clear hb1 hown1
  have e1 : (s' : Int) + ((l.length : Int) - s') = l.length := by omega
  go_wp2
  refine bodyPost_ret (v := .tuple #[.agg #[.slice A1 l.length l.length, .int .i64 l.length], .int .i64 0]) (by simp [results, Try.results35, go_sem, hc1, hz1]) rfl ?_
  have hB := HB.out
  have hz := hB.size
  exact ⟨A1, l.length, rfl, by go_grown, Rd.of_own_cap ((ownsRow_setCell_below (ownsRow_setCell_below HR.out (by simp) _) (by simp) _).alloc _)⟩

set_option maxRecDepth 100000 in
set_option maxHeartbeats 4000000 in
theorem Crash_some (A : Option Addr) (n c : Nat) (l : List UInt8) (s keep : Int) (w : World) (h : Rd w w.heap.size 1 A n (byteCells l)) (hm : tapeMay l s = true) (h0 : 0 ≤ keep) (hk : ¬ (l.length : Int) - s < keep) :
    Calls Try.prog 35 #[.agg #[.slice A n c, .int .i64 s], .int .i64 keep] w (TapePost w (l.take (s + keep).toNat, s + keep, 0)) := by
  have H := Lib.hid h
  clear h
  have HO := Lib.hid (open_calls A n c l s)
  obtain ⟨hm1, hs0, hs1⟩ := tapeMay_of hm
  rw [openM_yes hs0 hs1 hm1] at HO
  obtain ⟨s', rfl⟩ := Int.eq_ofNat_of_zero_le hs0
  obtain ⟨k', rfl⟩ := Int.eq_ofNat_of_zero_le h0
  have hsk : s' + k' ≤ l.length := by omega
  have hk' : (s' : Int) + k' ≤ l.length := by omega
  clear hm
  rw [show ((s' : Int) + (k' : Int)).toNat = s' + k' by omega]
  go_enter Try.func35, Try.ntmps35
  go_wp2_with fail
  refine (HO.out _ (by exact H.out.on (by go_grown))).mono ?_
  rintro e w1 ⟨A1, c1, rfl, hb1, hown1⟩
  have hz0 : w.heap.size < w1.heap.size := by have := hb1.size; simp at this; omega
  have hz1 : w.heap.size + 1 < w1.heap.size := by have := hb1.size; simp at this; omega
  obtain ⟨hc1, hf1⟩ := bcell hb1
  have HB : Hid (Below w.heap.size w w1) := Lib.hid (Below.trans (by go_grown) (hb1.mono (by simp; omega)))
  have hcap := own_cap hown1
  have HR := Lib.hid (World.ownsRow.lower (base' := w.heap.size + 1 + 1) hown1 (by simp))
  clear hb1 hown1
  go_wp2
  refine bodyPost_ret (v := .tuple #[.agg #[.slice A1 (s' + k') (s' + k'), .int .i64 (s' + k')], .int .i64 0]) (by simp [results, Try.results35, go_sem, hc1, hz1]) rfl ?_
  have hB := HB.out
  have hz := hB.size
  have hl : (l.take (s' + k')).length = s' + k' := by rw [List.length_take]; omega
  have hr := (Rd.of_own_cap ((ownsRow_setCell_below (ownsRow_setCell_below HR.out (a := ⟨w.heap.size + 1, 0, none⟩) (by simp) (.slice A1 (s' + k') (s' + k'))) (a := ⟨w.heap.size + 1, 1, none⟩) (by simp) (.int .i64 (s' + k'))).alloc (.cells #[.slice A1 l.length c1, .int .i64 s'] 58))).take hsk
  rw [Nat.mul_one, byteCells_take] at hr
  exact ⟨A1, s' + k', by simp only [hl], by go_grown, by simpa only [hl] using hr⟩

set_option maxRecDepth 100000 in
set_option maxHeartbeats 4000000 in
theorem Crash_low (A : Option Addr) (n c : Nat) (l : List UInt8) (s keep : Int) (w : World) (h : Rd w w.heap.size 1 A n (byteCells l)) (hm : tapeMay l s = true) (h0 : keep < 0) :
    Calls Try.prog 35 #[.agg #[.slice A n c, .int .i64 s], .int .i64 keep] w (TapePost w ([], 0, 2)) := by
  have H := Lib.hid h
  clear h
  have HO := Lib.hid (open_calls A n c l s)
  obtain ⟨hm1, hs0, hs1⟩ := tapeMay_of hm
  rw [openM_yes hs0 hs1 hm1] at HO
  clear hm
  go_enter Try.func35, Try.ntmps35
  go_wp2_with fail
  refine (HO.out _ (by exact H.out.on (by go_grown))).mono ?_
  rintro e w1 ⟨A1, c1, rfl, hb1, hown1⟩
  have hz0 : w.heap.size < w1.heap.size := by have := hb1.size; simp at this; omega
  have hz1 : w.heap.size + 1 < w1.heap.size := by have := hb1.size; simp at this; omega
  obtain ⟨hc1, hf1⟩ := bcell hb1
  have HB : Hid (Below w.heap.size w w1) := Lib.hid (Below.trans (by go_grown) (hb1.mono (by simp; omega)))
  have hcap := own_cap hown1
  have HR := Lib.hid (World.ownsRow.lower (base' := w.heap.size + 1 + 1) hown1 (by simp))
  clear hb1 hown1
  go_wp2
  refine bodyPost_ret (v := .tuple #[.agg #[.slice none 0 0, .int .i64 0], .int .i64 2]) (by simp [results, Try.results35, go_sem, hc1, hz1]) rfl ?_
  have hB := HB.out
  have hz := hB.size
  exact ⟨none, 0, rfl, by go_grown, Rd.none_⟩

set_option maxRecDepth 100000 in
set_option maxHeartbeats 4000000 in
theorem Crash_no (A : Option Addr) (n c : Nat) (l : List UInt8) (s keep : Int) (w : World) (h : Rd w w.heap.size 1 A n (byteCells l)) (hm : tapeMay l s = false) :
    Calls Try.prog 35 #[.agg #[.slice A n c, .int .i64 s], .int .i64 keep] w (TapePost w ([], 0, 6)) := by
  have H := Lib.hid h
  clear h
  have HO := Lib.hid (open_calls A n c l s)
  rcases openM_eq l s with ⟨_, hm'⟩ | ⟨ho, _⟩
  · rw [hm] at hm'; cases hm'
  rw [ho] at HO
  clear ho hm
  go_enter Try.func35, Try.ntmps35
  go_wp2_with fail
  refine (HO.out _ (by exact H.out.on (by go_grown))).mono ?_
  rintro e w1 ⟨A1, c1, rfl, hb1, hown1⟩
  have hz0 : w.heap.size < w1.heap.size := by have := hb1.size; simp at this; omega
  have hz1 : w.heap.size + 1 < w1.heap.size := by have := hb1.size; simp at this; omega
  obtain ⟨hc1, hf1⟩ := bcell hb1
  have HB : Hid (Below w.heap.size w w1) := Lib.hid (Below.trans (by go_grown) (hb1.mono (by simp; omega)))
  have hcap := own_cap hown1
  have HR := Lib.hid (World.ownsRow.lower (base' := w.heap.size + 1 + 1) hown1 (by simp))
  clear hb1 hown1
  go_wp2
  refine bodyPost_ret (v := .tuple #[.agg #[.slice none 0 0, .int .i64 0], .int .i64 6]) (by simp [results, Try.results35, go_sem, hc1, hz1]) rfl ?_
  have hB := HB.out
  have hz := hB.size
  exact ⟨none, 0, rfl, by go_grown, Rd.none_⟩

theorem Crash_calls (A : Option Addr) (n c : Nat) (l : List UInt8) (s keep : Int) (w : World) (h : Rd w w.heap.size 1 A n (byteCells l)) :
    Calls Try.prog 35 #[.agg #[.slice A n c, .int .i64 s], .int .i64 keep] w (TapePost w (crashM l s keep)) := by
  unfold crashM
  cases hm : tapeMay l s
  · rw [if_neg (by simp)]
    exact Crash_no A n c l s keep w h hm
  · rw [if_pos rfl]
    by_cases h0 : keep < 0
    · rw [if_pos h0]
      exact Crash_low A n c l s keep w h hm h0
    · rw [if_neg h0]
      by_cases hk : (l.length : Int) - s < keep
      · rw [if_pos hk]
        exact Crash_all A n c l s keep w h hm (by omega) hk
      · rw [if_neg hk]
        exact Crash_some A n c l s keep w h hm (by omega) hk
end Go.Proofs.Ytefkifgonadiiaa
