/- Contracts: ref.TapeMay, ref.Octets, ref.TapeSynced, ref.TapeCrashed, berthshiftlaw.sameTape. -/
import Derived.Test.YtefkifgonadiiaaTapeB
import Derived.Deep.RegionHeld3
namespace Go.Proofs.Ytefkifgonadiiaa
open Go.ChangeShapes Go.WideShapes Go.RowKit

/-- A bool, and nothing below the old heap's end turned. -/
def BoolPost (w : World) (b : Bool) (e : Ending) (w' : World) : Prop := e = .returned (.bool b) ∧ Below w.heap.size w w'

set_option maxHeartbeats 800000 in
theorem TapeMay_calls (A : Option Addr) (n c : Nat) (l : List UInt8) (s : Int) (w : World) (hl : l.length = n) :
    Calls Try.prog 45 #[.agg #[.slice A n c, .int .i64 s]] w (BoolPost w (tapeMay l s)) := by
  subst hl
  have hb : tapeMay l s = (decide ((l.length : Int) ≤ 100000) && inR s 0 l.length) := by
    unfold tapeMay inR
    rw [Bool.eq_iff_iff]
    simp
    omega
  rw [hb]
  clear hb
  by_cases h1 : l.length ≤ 100000
  · have d1 : decide ((l.length : Int) ≤ 100000) = true := by simp; omega
    rw [d1, Bool.true_and]
    go_enter Try.func45, Try.ntmps45
    go_wp2_with (go_at_call 37; refine (In_calls _ _ _ _).mono ?_; rintro e w' ⟨rfl, rfl⟩)
    go_ret
    exact ⟨rfl, by go_grown⟩
  · have d1 : decide ((l.length : Int) ≤ 100000) = false := by simp; omega
    rw [d1, Bool.false_and]
    go_enter Try.func45, Try.ntmps45
    go_wp2_with (go_at_call 37; refine (In_calls _ _ _ _).mono ?_; rintro e w' ⟨rfl, rfl⟩)
    go_ret
    exact ⟨rfl, by go_grown⟩

theorem byte_new (w : World) (x : UInt8) (t : TypeId) : Rd (w.alloc (.cells #[.int .u8 x.toNat] t)) (w.heap.size + 1) 1 (some ⟨w.heap.size, 0, none⟩) 1 (byteCells [x]) :=
  Rd.new_ w t (byteCells [x]) 1 1 (by simp [byteCells])

theorem take_snoc' {α : Type} {l : List α} {k : Nat} {e : α} (h : l[k]? = some e) : l.take k ++ [e] = l.take (k + 1) := by
  rw [List.take_add_one, h]
  rfl

theorem Rd.byte_at {w : World} {B n k : Nat} {A : Option Addr} {l : List UInt8} (h : Rd w B 1 A n (byteCells l)) (hk : k < n) : ∃ b off x, A = some ⟨b, off, none⟩ ∧ b < B ∧ l[k]? = some x ∧ w.cell? ⟨b, off + k, none⟩ = some (.int .u8 x.toNat) := by
  obtain ⟨b, off, u, e, hb, hx, hc⟩ := h.at_ hk
  simp only [byteCells, List.getElem?_map, Option.map_eq_some_iff] at hx
  obtain ⟨x, hx, rfl⟩ := hx
  exact ⟨b, off, x, e, hb, hx, hc⟩

set_option maxHeartbeats 800000 in
theorem Octets_calls (A : Option Addr) (n c m : Nat) (l : List UInt8) (w : World) (h : Rd w w.heap.size 1 A n (byteCells l)) (hm : m ≤ n) (hn : n ≤ 100000) :
    Calls Try.prog 46 #[.slice A n c, .int .i64 m] w (OwnPost w 5 1 m (byteCells (l.take m))) := by
  obtain ⟨i0, hi0, hz0, hz1, hz2⟩ := info_parts u8_info
  have HL := Lib.hid h.bytes_len
  have H := Lib.hid h
  clear h
  go_enter Try.func46, Try.ntmps46
  go_wp2
  go_loopw [5, 6] (fun v i wr => ∃ k : Nat, k ≤ m ∧ i = .int .i64 k ∧ Below w.heap.size w wr ∧ wr.ownsRow w.heap.size 5 1 v k (byteCells (l.take k))) (fun _ i _ => m - (intOf i).toNat)
  case atStart => exact ⟨0, Nat.zero_le _, rfl, Below.refl _ _, ownsRow_nil_ _ _ _ _⟩
  case round =>
    obtain ⟨k, hk, rfl, hB, hown⟩ := hrel
    by_cases hlt : k < m
    · obtain ⟨b, off, x, rfl, hb, he, c0⟩ := (H.out.below hB (Nat.le_refl _)).byte_at (show k < n by omega)
      have hkn : k < n := by omega
      have hs := hB.size
      have HE := Lib.hid he
      have HB := Lib.hid hB
      have HO := Lib.hid hown
      clear he hB hown
      have HN := Lib.hid (byte_new wr x 5)
      go_wp2_with (at_builtin; refine wpList_append_any _ rfl (.tmp 12) (.tmp 17) _ rfl w.heap.size 5 i0 _ 1 1 Try.underlying26 hi0 hz0 hz1 hz2 rfl (by omega) _ k (byteCells (l.take k)) rfl (HO.out.alloc _) (wr.heap.size + 1) (some ⟨wr.heap.size, 0, none⟩) 1 1 (byteCells [x]) rfl HN.out (byteCells_one _) (by simp only [maxLen]; omega) (by omega) (by simp; omega) ?_; intro v1 w1 hown1 hg1 hat1)
      have hB1 : Below w.heap.size w w1 := (HB.out.alloc hs _).grown hg1 (by simp; omega) (HO.out.own_lt ·)
      rw [← byteCells_append, take_snoc' HE.out] at hown1
      have HB1 := Lib.hid hB1
      have HO1 := Lib.hid hown1
      clear hB1 hown1 hg1 hat1
      go_wp2
      go_roundw
      case rel => exact ⟨k + 1, by omega, by go_num, HB1.out, HO1.out⟩
      case measure => simp [intOf]; omega
    · obtain rfl : k = m := by omega
      have HB := Lib.hid hB
      have HO := Lib.hid hown
      clear hB hown
      go_wp2
      go_ret
      exact OwnPost.of HB.out HO.out

set_option maxRecDepth 100000 in
set_option maxHeartbeats 4000000 in
theorem TapeSynced_yes (A : Option Addr) (n c : Nat) (l : List UInt8) (s : Int) (w : World) (h : Rd w w.heap.size 1 A n (byteCells l)) (hm : tapeMay l s = true) :
    Calls Try.prog 33 #[.agg #[.slice A n c, .int .i64 s]] w (TapePost w (l, l.length, 0)) := by
  have hl := h.bytes_len
  have HL := Lib.hid hl
  subst hl
  have H := Lib.hid h
  clear h
  obtain ⟨hm1, hs0, hs1⟩ := tapeMay_of hm
  have HM := Lib.hid (TapeMay_calls A l.length c l s)
  rw [hm] at HM
  clear hm
  go_enter Try.func33, Try.ntmps33
  go_wp2_with fail
  refine (HM.out _ HL.out).mono ?_
  rintro e w1 ⟨rfl, hb1⟩
  have hz0 : w.heap.size < w1.heap.size := by have := hb1.size; simp at this; omega
  have hz1 : w.heap.size + 1 < w1.heap.size := by have := hb1.size; simp at this; omega
  obtain ⟨hc1, hf1⟩ := bcell hb1
  have HB : Hid (Below w.heap.size w w1) := Lib.hid (Below.trans (by go_grown) (hb1.mono (by simp; omega)))
  have H1 := Lib.hid (H.out.on HB.out)
  have q0 := hb1.cell (p := ⟨w.heap.size + 1, 0, none⟩) (by simp)
  have q1 := hb1.cell (p := ⟨w.heap.size + 1, 1, none⟩) (by simp)
  have q2 := hb1.frozen (p := ⟨w.heap.size + 1, 0, none⟩) (by simp)
  have q3 := hb1.frozen (p := ⟨w.heap.size + 1, 1, none⟩) (by simp)
  have q4 := hb1.cell (p := ⟨w.heap.size, 0, none⟩) (by simp; omega)
  simp at q0 q1 q2 q3 q4
  clear hb1
  go_wp2
  go_region_held3 (fun w' => w'.cell? ⟨w.heap.size, 0, none⟩ = some (.slice A l.length c)) (first | go_keep | exact r4)
    (first | (go_at_call 46; refine (Octets_calls A l.length c l.length l _ (by exact H1.out.on (by go_grown)) (Nat.le_refl _) hm1).mono ?_; rintro e w2 ⟨A1, c1, rfl, hb2, hown2⟩; obtain ⟨hc2, hf2⟩ := bcell hb2; have r0 := hc2 (w.heap.size + 1) 0 (by simp; omega); have r1 := hc2 (w.heap.size + 1) 1 (by simp; omega); have r2 := hf2 (w.heap.size + 1) 0 (by simp; omega); have r3 := hf2 (w.heap.size + 1) 1 (by simp; omega); have r4 := hc2 w.heap.size 0 (by simp; omega); simp [q0, q1, q2, q3, q4] at r0 r1 r2 r3 r4))
  all_goals (have hy0 : w.heap.size < w2.heap.size := by have := hb2.size; simp at this; omega)
  all_goals (have hy1 : w.heap.size + 1 < w2.heap.size := by have := hb2.size; simp at this; omega)
  all_goals (have HB2 : Hid (Below w1.heap.size w1 w2) := Lib.hid (Below.trans (by go_grown) (hb2.mono (by simp))))
  all_goals (have HR := Lib.hid (World.ownsRow.lower (base' := w.heap.size + 1 + 1) hown2 (by simp; omega)))
  all_goals clear hb2 hown2
  all_goals go_wp2
  all_goals refine bodyPost_ret (v := .tuple #[.agg #[.slice A1 l.length c1, .int .i64 l.length], .int .i64 0]) (by simp [results, Try.results33, go_sem, r0, r1]) rfl ?_
  all_goals (have hB : Below w.heap.size w w2 := HB.out.trans (HB2.out.mono (by omega)))
  all_goals (have hR := HR.out)
  all_goals rw [List.take_length] at hR
  all_goals exact ⟨A1, c1, rfl, by go_grown, Rd.of_own (ownsRow_setCell_below (ownsRow_setCell_below hR (by simp) _) (by simp) _)⟩

set_option maxRecDepth 100000 in
set_option maxHeartbeats 4000000 in
theorem TapeSynced_no (A : Option Addr) (n c : Nat) (l : List UInt8) (s : Int) (w : World) (hl : l.length = n) (hm : tapeMay l s = false) :
    Calls Try.prog 33 #[.agg #[.slice A n c, .int .i64 s]] w (TapePost w ([], 0, 6)) := by
  have HM := Lib.hid (TapeMay_calls A n c l s)
  have HL := Lib.hid hl
  rw [hm] at HM
  clear hm hl
  go_enter Try.func33, Try.ntmps33
  go_wp2_with fail
  refine (HM.out _ HL.out).mono ?_
  rintro e w1 ⟨rfl, hb1⟩
  have hz0 : w.heap.size < w1.heap.size := by have := hb1.size; simp at this; omega
  have hz1 : w.heap.size + 1 < w1.heap.size := by have := hb1.size; simp at this; omega
  obtain ⟨hc1, hf1⟩ := bcell hb1
  have HB : Hid (Below w.heap.size w w1) := Lib.hid (Below.trans (by go_grown) (hb1.mono (by simp; omega)))
  clear hb1
  go_wp2
  refine bodyPost_ret (v := .tuple #[.agg #[.slice none 0 0, .int .i64 0], .int .i64 6]) (by simp [results, Try.results33, go_sem, hc1, hz1]) rfl ?_
  have hB := HB.out
  have hz := hB.size
  exact ⟨none, 0, rfl, by go_grown, Rd.none_⟩

theorem TapeSynced_calls (A : Option Addr) (n c : Nat) (l : List UInt8) (s : Int) (w : World) (h : Rd w w.heap.size 1 A n (byteCells l)) :
    Calls Try.prog 33 #[.agg #[.slice A n c, .int .i64 s]] w (TapePost w (syncM l s)) := by
  unfold syncM
  cases hm : tapeMay l s
  · rw [if_neg (by simp)]
    exact TapeSynced_no A n c l s w h.bytes_len hm
  · rw [if_pos rfl]
    exact TapeSynced_yes A n c l s w h hm
set_option maxRecDepth 100000 in
set_option maxHeartbeats 4000000 in
theorem TapeCrashed_yes (A : Option Addr) (n c m : Nat) (l : List UInt8) (s keep : Int) (w : World) (h : Rd w w.heap.size 1 A n (byteCells l)) (hm : tapeMay l s = true) (h0 : 0 ≤ keep)
    (hk : (keep < (l.length : Int) - s ∧ s + keep = m) ∨ (¬ keep < (l.length : Int) - s ∧ m = l.length)) :
    Calls Try.prog 36 #[.agg #[.slice A n c, .int .i64 s], .int .i64 keep] w (TapePost w (l.take m, m, 0)) := by
  have hl := h.bytes_len
  have HL := Lib.hid hl
  subst hl
  have H := Lib.hid h
  clear h
  obtain ⟨hm1, hs0, hs1⟩ := tapeMay_of hm
  have hml : m ≤ l.length := by omega
  have HM := Lib.hid (TapeMay_calls A l.length c l s)
  rw [hm] at HM
  clear hm
  rcases hk with ⟨hk, e1⟩ | ⟨hk, rfl⟩
  · go_enter Try.func36, Try.ntmps36
    go_wp2_with fail
    refine (HM.out _ HL.out).mono ?_
    rintro e w1 ⟨rfl, hb1⟩
    have hz0 : w.heap.size < w1.heap.size := by have := hb1.size; simp at this; omega
    have hz1 : w.heap.size + 1 < w1.heap.size := by have := hb1.size; simp at this; omega
    have q0 := hb1.cell (p := ⟨w.heap.size + 1, 0, none⟩) (by simp)
    have q1 := hb1.cell (p := ⟨w.heap.size + 1, 1, none⟩) (by simp)
    have q2 := hb1.frozen (p := ⟨w.heap.size + 1, 0, none⟩) (by simp)
    have q3 := hb1.frozen (p := ⟨w.heap.size + 1, 1, none⟩) (by simp)
    have q4 := hb1.cell (p := ⟨w.heap.size, 0, none⟩) (by simp; omega)
    have q5 := hb1.cell (p := ⟨w.heap.size, 1, none⟩) (by simp; omega)
    simp at q0 q1 q2 q3 q4 q5
    have HB : Hid (Below w.heap.size w w1) := Lib.hid (Below.trans (by go_grown) (hb1.mono (by simp; omega)))
    have H1 := Lib.hid (H.out.on HB.out)
    clear hb1
    go_wp2_with fail
    refine (Octets_calls A l.length c m l _ (by exact H1.out) (by omega) hm1).mono ?_
    rintro e w2 ⟨A1, c1, rfl, hb2, hown2⟩
    have hy0 : w.heap.size < w2.heap.size := by have := hb2.size; omega
    have hy1 : w.heap.size + 1 < w2.heap.size := by have := hb2.size; omega
    have r0 := hb2.cell (p := ⟨w.heap.size + 1, 0, none⟩) hz1
    have r1 := hb2.cell (p := ⟨w.heap.size + 1, 1, none⟩) hz1
    have r2 := hb2.frozen (p := ⟨w.heap.size + 1, 0, none⟩) hz1
    have r3 := hb2.frozen (p := ⟨w.heap.size + 1, 1, none⟩) hz1
    rw [q0] at r0
    rw [q1] at r1
    rw [q2] at r2
    rw [q3] at r3
    have HB2 := Lib.hid hb2
    have HR := Lib.hid (World.ownsRow.lower (base' := w.heap.size + 1 + 1) hown2 (by omega))
    clear hb2 hown2
    go_wp2
    refine bodyPost_ret (v := .tuple #[.agg #[.slice A1 m c1, .int .i64 m], .int .i64 0]) (by simp [results, Try.results36, go_sem, r0, r1]) rfl ?_
    have hB : Below w.heap.size w w2 := HB.out.trans (HB2.out.mono (by omega))
    have hl : (l.take m).length = m := by rw [List.length_take]; omega
    have hr := Rd.of_own (ownsRow_setCell_below (ownsRow_setCell_below HR.out (a := ⟨w.heap.size + 1, 0, none⟩) (by simp) (.slice A1 m c1)) (a := ⟨w.heap.size + 1, 1, none⟩) (by simp) (.int .i64 m))
    exact ⟨A1, c1, by simp only [hl], by go_grown, by simpa only [hl] using hr⟩
  · go_enter Try.func36, Try.ntmps36
    go_wp2_with fail
    refine (HM.out _ HL.out).mono ?_
    rintro e w1 ⟨rfl, hb1⟩
    have hz0 : w.heap.size < w1.heap.size := by have := hb1.size; simp at this; omega
    have hz1 : w.heap.size + 1 < w1.heap.size := by have := hb1.size; simp at this; omega
    have q0 := hb1.cell (p := ⟨w.heap.size + 1, 0, none⟩) (by simp)
    have q1 := hb1.cell (p := ⟨w.heap.size + 1, 1, none⟩) (by simp)
    have q2 := hb1.frozen (p := ⟨w.heap.size + 1, 0, none⟩) (by simp)
    have q3 := hb1.frozen (p := ⟨w.heap.size + 1, 1, none⟩) (by simp)
    have q4 := hb1.cell (p := ⟨w.heap.size, 0, none⟩) (by simp; omega)
    have q5 := hb1.cell (p := ⟨w.heap.size, 1, none⟩) (by simp; omega)
    simp at q0 q1 q2 q3 q4 q5
    have HB : Hid (Below w.heap.size w w1) := Lib.hid (Below.trans (by go_grown) (hb1.mono (by simp; omega)))
    have H1 := Lib.hid (H.out.on HB.out)
    clear hb1
    go_wp2_with fail
    refine (Octets_calls A l.length c l.length l _ (by exact H1.out) (Nat.le_refl _) hm1).mono ?_
    rintro e w2 ⟨A1, c1, rfl, hb2, hown2⟩
    have hy0 : w.heap.size < w2.heap.size := by have := hb2.size; omega
    have hy1 : w.heap.size + 1 < w2.heap.size := by have := hb2.size; omega
    have r0 := hb2.cell (p := ⟨w.heap.size + 1, 0, none⟩) hz1
    have r1 := hb2.cell (p := ⟨w.heap.size + 1, 1, none⟩) hz1
    have r2 := hb2.frozen (p := ⟨w.heap.size + 1, 0, none⟩) hz1
    have r3 := hb2.frozen (p := ⟨w.heap.size + 1, 1, none⟩) hz1
    rw [q0] at r0
    rw [q1] at r1
    rw [q2] at r2
    rw [q3] at r3
    have HB2 := Lib.hid hb2
    have HR := Lib.hid (World.ownsRow.lower (base' := w.heap.size + 1 + 1) hown2 (by omega))
    clear hb2 hown2
    go_wp2
    refine bodyPost_ret (v := .tuple #[.agg #[.slice A1 l.length c1, .int .i64 l.length], .int .i64 0]) (by simp [results, Try.results36, go_sem, r0, r1]) rfl ?_
    have hB : Below w.heap.size w w2 := HB.out.trans (HB2.out.mono (by omega))
    have hl : (l.take l.length).length = l.length := by rw [List.length_take]; omega
    have hr := Rd.of_own (ownsRow_setCell_below (ownsRow_setCell_below HR.out (a := ⟨w.heap.size + 1, 0, none⟩) (by simp) (.slice A1 l.length c1)) (a := ⟨w.heap.size + 1, 1, none⟩) (by simp) (.int .i64 l.length))
    exact ⟨A1, c1, by simp only [hl], by go_grown, by simpa only [hl] using hr⟩

set_option maxRecDepth 100000 in
set_option maxHeartbeats 4000000 in
theorem TapeCrashed_bad (A : Option Addr) (n c : Nat) (l : List UInt8) (s keep : Int) (w : World) (hl : l.length = n) (b : Bool) (hm : tapeMay l s = b) (h : b = true → keep < 0) :
    Calls Try.prog 36 #[.agg #[.slice A n c, .int .i64 s], .int .i64 keep] w (TapePost w ([], 0, if b then 2 else 6)) := by
  have HM := Lib.hid (TapeMay_calls A n c l s)
  have HL := Lib.hid hl
  rw [hm] at HM
  clear hm hl
  cases b
  · simp only [Bool.false_eq_true, if_false, if_true, forall_const, reduceCtorEq, false_implies] at h ⊢
    go_enter Try.func36, Try.ntmps36
    go_wp2_with fail
    refine (HM.out _ HL.out).mono ?_
    rintro e w1 ⟨rfl, hb1⟩
    have hz1 : w.heap.size + 1 < w1.heap.size := by have := hb1.size; simp at this; omega
    have q0 := hb1.cell (p := ⟨w.heap.size + 1, 0, none⟩) (by simp)
    have q1 := hb1.cell (p := ⟨w.heap.size + 1, 1, none⟩) (by simp)
    have q2 := hb1.frozen (p := ⟨w.heap.size + 1, 0, none⟩) (by simp)
    have q3 := hb1.frozen (p := ⟨w.heap.size + 1, 1, none⟩) (by simp)
    simp at q0 q1 q2 q3
    have HB : Hid (Below w.heap.size w w1) := Lib.hid (Below.trans (by go_grown) (hb1.mono (by simp; omega)))
    clear hb1
    go_wp2
    refine bodyPost_ret (v := .tuple #[.agg #[.slice none 0 0, .int .i64 0], .int .i64 6]) (by simp [results, Try.results36, go_sem, q0, q1]) rfl ?_
    have hB := HB.out
    exact ⟨none, 0, rfl, by go_grown, Rd.none_⟩
  · simp only [Bool.false_eq_true, if_false, if_true, forall_const, reduceCtorEq, false_implies] at h ⊢
    go_enter Try.func36, Try.ntmps36
    go_wp2_with fail
    refine (HM.out _ HL.out).mono ?_
    rintro e w1 ⟨rfl, hb1⟩
    have hz1 : w.heap.size + 1 < w1.heap.size := by have := hb1.size; simp at this; omega
    have q0 := hb1.cell (p := ⟨w.heap.size + 1, 0, none⟩) (by simp)
    have q1 := hb1.cell (p := ⟨w.heap.size + 1, 1, none⟩) (by simp)
    have q2 := hb1.frozen (p := ⟨w.heap.size + 1, 0, none⟩) (by simp)
    have q3 := hb1.frozen (p := ⟨w.heap.size + 1, 1, none⟩) (by simp)
    simp at q0 q1 q2 q3
    have HB : Hid (Below w.heap.size w w1) := Lib.hid (Below.trans (by go_grown) (hb1.mono (by simp; omega)))
    clear hb1
    go_wp2
    refine bodyPost_ret (v := .tuple #[.agg #[.slice none 0 0, .int .i64 0], .int .i64 2]) (by simp [results, Try.results36, go_sem, q0, q1]) rfl ?_
    have hB := HB.out
    exact ⟨none, 0, rfl, by go_grown, Rd.none_⟩

theorem TapeCrashed_calls (A : Option Addr) (n c : Nat) (l : List UInt8) (s keep : Int) (w : World) (h : Rd w w.heap.size 1 A n (byteCells l)) :
    Calls Try.prog 36 #[.agg #[.slice A n c, .int .i64 s], .int .i64 keep] w (TapePost w (crashM l s keep)) := by
  unfold crashM
  cases hm : tapeMay l s
  · rw [if_neg (by simp)]
    exact TapeCrashed_bad A n c l s keep w h.bytes_len false hm (by simp)
  · rw [if_pos rfl]
    obtain ⟨hm1, hs0, hs1⟩ := tapeMay_of hm
    by_cases h0 : keep < 0
    · rw [if_pos h0]
      exact TapeCrashed_bad A n c l s keep w h.bytes_len true hm (fun _ => h0)
    · rw [if_neg h0]
      by_cases hk : (l.length : Int) - s < keep
      · rw [if_pos hk]
        have := TapeCrashed_yes A n c l.length l s keep w h hm (by omega) (.inr ⟨by omega, rfl⟩)
        rw [List.take_length] at this
        exact this
      · rw [if_neg hk]
        by_cases hk2 : keep < (l.length : Int) - s
        · have := TapeCrashed_yes A n c (s + keep).toNat l s keep w h hm (by omega) (.inl ⟨hk2, by omega⟩)
          rw [show (((s + keep).toNat : Nat) : Int) = s + keep by omega] at this
          exact this
        · have := TapeCrashed_yes A n c l.length l s keep w h hm (by omega) (.inr ⟨by omega, rfl⟩)
          rw [show (s + keep).toNat = l.length by omega, show s + keep = (l.length : Int) by omega]
          exact this

set_option maxRecDepth 100000 in
set_option maxHeartbeats 2000000 in
theorem sameTape_calls (A A' : Option Addr) (n c n' c' : Nat) (l l' : List UInt8) (s s' : Int) (w : World) (h : Rd w w.heap.size 1 A n (byteCells l)) (h' : Rd w w.heap.size 1 A' n' (byteCells l')) :
    Calls Try.prog 34 #[.agg #[.slice A n c, .int .i64 s], .agg #[.slice A' n' c', .int .i64 s']] w (BoolPost w (s == s' && l == l')) := by
  have H := Lib.hid h
  have H' := Lib.hid h'
  clear h h'
  cases hs : (s == s')
  · simp only [Bool.false_and]
    go_enter Try.func34, Try.ntmps34
    go_wp2_with fail
    go_ret
    exact ⟨rfl, by go_grown⟩
  · simp only [Bool.true_and]
    go_enter Try.func34, Try.ntmps34
    go_wp2_with fail
    refine (sameBytes_calls A A' n n' c c' l l' _ (by exact H.out.on (by go_grown)) (by exact H'.out.on (by go_grown))).mono ?_
    rintro e w' ⟨rfl, rfl⟩
    go_wp2_with fail
    go_ret
    exact ⟨rfl, by go_grown⟩
theorem flat_tape : flat Try.prog 30 58 = some [.sl 1 [.int .u8], .at_ (.int .i64)] := by kernel_rfl
theorem arg_tape {W : World} {v : Value} (h : ArgOk Try.prog W v 58) : ∃ A n c l s, v = .agg #[.slice A n c, .int .i64 s] ∧ Rd W W.heap.size 1 A n (byteCells l) ∧ n ≤ c ∧ n ≤ reachBytes := by
  obtain ⟨⟨base, hk⟩, l, hl, ha⟩ := h
  rw [flat_tape] at hl
  cases hl
  obtain ⟨cs, rfl, _⟩ := okWide_struct Try.underlying58 hk
  obtain ⟨a1, l1, e, h1, h3⟩ := All2.cons_ ha
  obtain ⟨a2, l2, rfl, ⟨m2, rfl, _⟩, h4⟩ := All2.cons_ h3
  have h5 := All2.nil_ h4
  subst h5
  obtain ⟨A, n, c, l, rfl, hr, hn, _, hb, _⟩ := open_bytes h1
  refine ⟨A, n, c, l, m2, ?_, hr, hn, by omega⟩
  simp only [Value.cells] at e
  congr 1
  exact Array.toList_inj.1 e
end Go.Proofs.Ytefkifgonadiiaa
