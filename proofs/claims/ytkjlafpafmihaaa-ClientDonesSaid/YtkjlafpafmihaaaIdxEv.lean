/- slices.IndexFunc at events, with the closure of client.Done: the first place of an id, or -1. -/
import Derived.Test.YtkjlafpafmihaaaCltSend
namespace Go.Proofs.Ytkjlafpafmihaaa
open Go.ChangeShapes Go.WideShapes Go.RowKit

/-- The first place of an id, from place k on; -1: nowhere. -/
def idxId (id : Int) : List Ev → Int → Int
  | [], _ => -1
  | e :: l, k => if e.id = id then k else idxId id l (k + 1)
theorem idxId_at (id : Int) : ∀ (l : List Ev) (k : Int) (n : Nat) (e : Ev), (∀ (j : Nat) (y : Ev), j < n → l[j]? = some y → y.id ≠ id) → l[n]? = some e → e.id = id → idxId id l k = k + n
  | [], _, n, _, _, h, _ => by simp at h
  | y :: l, k, 0, e, _, h, he => by
    simp at h
    subst h
    simp [idxId, he]
  | y :: l, k, n + 1, e, h0, h, he => by
    have h1 := h0 0 y (by omega) rfl
    rw [idxId, if_neg h1, idxId_at id l (k + 1) n e (fun j z hj hz => h0 (j + 1) z (by omega) (by simpa using hz)) (by simpa using h) he]
    omega
theorem idxId_none (id : Int) : ∀ (l : List Ev) (k : Int), (∀ (j : Nat) (y : Ev), l[j]? = some y → y.id ≠ id) → idxId id l k = -1
  | [], _, _ => rfl
  | y :: l, k, h => by
    rw [idxId, if_neg (h 0 y rfl), idxId_none id l (k + 1) (fun j z hz => h (j + 1) z (by simpa using hz))]

set_option maxHeartbeats 1000000 in
theorem DoneC_calls (e : Ev) (id : Int) (B : Nat) (w : World) (hB : B < w.heap.size) (hc : w.cell? ⟨B, 0, none⟩ = some (.int .i64 id)) :
    Calls Try.prog 133 #[.agg #[.int .i64 e.kind, .int .i64 e.producer, .int .i64 e.id, .int .i64 e.body, .int .i64 e.hepoch, .int .i64 e.hno], .pointer (some ⟨B, 0, none⟩)] w (BPost w (e.id == id)) := by
  obtain ⟨k0, k1, k2, k3, k4, k5⟩ := e
  have hne : B ≠ w.heap.size := by omega
  simp only
  go_enter Try.func133, Try.ntmps133
  go_wp2_with fail
  all_goals
    go_ret
    exact ⟨by simp_all, by go_grown⟩

set_option maxRecDepth 100000 in
set_option maxHeartbeats 2000000 in
theorem IdxEv_calls (A : Option Addr) (n c : Nat) (l : List Ev) (id : Int) (B : Nat) (w : World) (h : Rd w w.heap.size 6 A n (evCells l)) (hm : n ≤ maxLen) (hB : B < w.heap.size) (hc : w.cell? ⟨B, 0, none⟩ = some (.int .i64 id)) :
    Calls Try.prog 132 #[.slice A n c, .func (.func 133) #[] #[.pointer (some ⟨B, 0, none⟩)]] w (IntPost w (idxId id l 0)) := by
  unfold maxLen at hm
  have H := Lib.hid h
  have HL := Lib.hid h.ev_len
  have HC := Lib.hid (fun e w' hB hc => DoneC_calls e id B w' hB hc)
  have HI := Lib.hid (fun (n : Nat) (e : Ev) h1 h2 h3 => idxId_at id l 0 n e h1 h2 h3)
  have HN := Lib.hid (idxId_none id l 0)
  have hcH := Lib.hid hc
  clear h hc
  generalize idxId id l 0 = z at HI HN ⊢
  go_enter Try.func132, Try.ntmps132
  go_wp2_with fail
  go_loopw [8] (fun i wr => ∃ k : Nat, k ≤ n ∧ i = .int .i64 k ∧ (∀ (j : Nat) (y : Ev), j < k → l[j]? = some y → y.id ≠ id) ∧ Below w.heap.size w wr) (fun i _ => n - (intOf i).toNat)
  case atStart => exact ⟨0, Nat.zero_le _, rfl, fun j _ hj => absurd hj (by omega), Below.refl _ _⟩
  case round =>
    obtain ⟨k, hk, rfl, hall, hb⟩ := hrel
    have HA := Lib.hid hall
    have HB := Lib.hid hb
    by_cases hlt : k < n
    · obtain ⟨b, off, ev, rfl, hbb, he, c0, c1, c2, c3, c4, c5⟩ := (H.out.below hb (Nat.le_refl _)).ev_at hlt
      have HE := Lib.hid he
      clear hall hb he
      go_wp2_with fail
      refine (HC.out ev _ (by have := HB.out.size; omega) (by exact (HB.out.cell (p := ⟨B, 0, none⟩) hB).trans hcH.out)).mono ?_
      rintro e w2 ⟨rfl, hb2⟩
      have HB2 := Lib.hid (HB.out.trans (hb2.mono HB.out.size))
      clear hb2 c0 c1 c2 c3 c4 c5
      by_cases heq : ev.id = id
      · have e := HI.out k ev HA.out HE.out heq
        obtain rfl : z = (k : Int) := by omega
        have t1 : (ev.id == id) = true := by simpa using heq
        rw [t1]
        clear heq e t1
        go_wp2_with fail
        go_ret
        exact ⟨rfl, HB2.out⟩
      · have HG : Hid (∀ (j : Nat) (y : Ev), j < k + 1 → l[j]? = some y → y.id ≠ id) := Lib.hid (fun j y hj hy => by
          by_cases e1 : j = k
          · subst e1
            rw [HE.out] at hy
            cases hy
            exact heq
          · exact HA.out j y (by omega) hy)
        have t1 : (ev.id == id) = false := by simpa using heq
        rw [t1]
        clear heq t1
        go_wp2_with fail
        go_roundw
        case rel => exact ⟨k + 1, by omega, by go_num, HG.out, HB2.out⟩
        case measure => simp [intOf]; omega
    · obtain rfl : k = n := by omega
      have e := HN.out (fun j y hy => HA.out j y (by have := (List.getElem?_eq_some_iff.1 hy).1; have := HL.out; omega) hy)
      subst e
      clear hall hb
      go_wp2_with fail
      go_ret
      exact ⟨rfl, HB.out⟩
end Go.Proofs.Ytkjlafpafmihaaa
