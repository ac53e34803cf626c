/- Contract: ref.EventsCopy. -/
import Derived.Test.YtkjlafpafmihaaaEvs
namespace Go.Proofs.Ytkjlafpafmihaaa
open Go.ChangeShapes Go.WideShapes Go.RowKit

theorem take_snoc_ {α : Type} {l : List α} {k : Nat} {e : α} (h : l[k]? = some e) : l.take k ++ [e] = l.take (k + 1) := by
  rw [List.take_add_one, h]
  rfl

theorem ev_new (w : World) (e : Ev) (t : TypeId) : Rd (w.alloc (.cells #[.int .i64 e.kind, .int .i64 e.producer, .int .i64 e.id, .int .i64 e.body, .int .i64 e.hepoch, .int .i64 e.hno] t)) (w.heap.size + 1) 6 (some ⟨w.heap.size, 0, none⟩) 1 (evCells [e]) :=
  Rd.new_ w t (evCells [e]) 1 6 (by simp [evCells_length])

set_option maxHeartbeats 800000 in
theorem EventsCopy_calls (A : Option Addr) (n c : Nat) (l : List Ev) (w : World) (h : Rd w w.heap.size 6 A n (evCells l)) (hc : n * 48 ≤ reachBytes) :
    Calls Try.prog 152 #[.slice A n c] w (OwnPost w 37 6 n (evCells l)) := by
  have hc' : n * 48 ≤ 140737488351232 := hc
  obtain ⟨i0, hi0, hz0, hz1, hz2⟩ := info_parts ev_info
  have hl := h.ev_len
  have H := Lib.hid h
  have HL := Lib.hid hl
  clear h hl hc
  go_enter Try.func152, Try.ntmps152
  go_wp2
  go_loopw [3, 4] (fun v i wr => ∃ k : Nat, k ≤ n ∧ i = .int .i64 k ∧ Below w.heap.size w wr ∧ wr.ownsRow w.heap.size 37 6 v k (evCells (l.take k))) (fun _ i _ => n - (intOf i).toNat)
  case atStart => exact ⟨0, Nat.zero_le _, rfl, Below.refl _ _, ownsRow_nil_ _ _ _ _⟩
  case round =>
    obtain ⟨k, hk, rfl, hB, hown⟩ := hrel
    by_cases hlt : k < n
    · obtain ⟨b, off, e, rfl, hb, he, c0, c1, c2, c3, c4, c5⟩ := (H.out.below hB (Nat.le_refl _)).ev_at hlt
      have hs := hB.size
      have HE := Lib.hid he
      have HB := Lib.hid hB
      have HO := Lib.hid hown
      clear he hB hown
      have hE := ev_new wr e 37
      have HN := Lib.hid hE
      clear hE
      go_wp2_with (at_builtin; refine wpList_append_any _ rfl (.tmp 11) (.tmp 16) _ rfl w.heap.size 37 i0 _ 6 48 Try.underlying57 hi0 hz0 hz1 hz2 rfl (by omega) _ k (evCells (l.take k)) rfl (HO.out.alloc _) (wr.heap.size + 1) (some ⟨wr.heap.size, 0, none⟩) 1 1 (evCells [e]) rfl HN.out (evCells_one _) (by simp only [maxLen]; omega) (by omega) (by simp; omega) ?_; intro v1 w1 hown1 hg1 hat1)
      have hB1 : Below w.heap.size w w1 := (HB.out.alloc hs _).grown hg1 (by simp; omega) (HO.out.own_lt ·)
      rw [← evCells_append, take_snoc_ HE.out] at hown1
      have HB1 := Lib.hid hB1
      have HO1 := Lib.hid hown1
      clear hB1 hown1 hg1 hat1
      go_wp2
      go_roundw
      case rel => exact ⟨k + 1, by omega, by go_num, HB1.out, HO1.out⟩
      case measure => simp [intOf]; omega
    · obtain rfl : k = n := by omega
      have HB := Lib.hid hB
      have HO := Lib.hid hown
      clear hB hown
      go_wp2
      go_ret
      have hown := HO.out
      rw [List.take_of_length_le (by have := HL.out; omega)] at hown
      exact OwnPost.of HB.out hown
end Go.Proofs.Ytkjlafpafmihaaa
