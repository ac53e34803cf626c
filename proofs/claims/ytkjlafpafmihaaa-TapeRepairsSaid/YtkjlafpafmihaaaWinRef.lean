/- Contracts: ref.idsOf, ref.windowOf. -/
import Derived.Test.YtkjlafpafmihaaaWin
import Derived.RegionTactic
namespace Go.Proofs.Ytkjlafpafmihaaa
open Go.ChangeShapes Go.WideShapes Go.RowKit

def intCells (l : List Int) : List Value := l.map (Value.int .i64)
theorem intCells_append (l k : List Int) : intCells (l ++ k) = intCells l ++ intCells k := by simp [intCells]
theorem intCells_one (l : List Int) : ∀ u ∈ intCells l, u.oneCell' = true := by
  intro u hu
  simp only [intCells, List.mem_map] at hu
  obtain ⟨b, _, rfl⟩ := hu
  rfl
theorem Rd.int_len {w : World} {B n : Nat} {A : Option Addr} {l : List Int} (h : Rd w B 1 A n (intCells l)) : l.length = n := by
  have := h.1
  simp [intCells] at this
  omega
theorem Rd.int_at {w : World} {B n k : Nat} {A : Option Addr} {l : List Int} (h : Rd w B 1 A n (intCells l)) (hk : k < n) : ∃ b off x, A = some ⟨b, off, none⟩ ∧ b < B ∧ l[k]? = some x ∧ w.cell? ⟨b, off + k, none⟩ = some (.int .i64 x) := by
  obtain ⟨b, off, u, e, hb, hx, hc⟩ := h.at_ hk
  simp only [intCells, List.getElem?_map, Option.map_eq_some_iff] at hx
  obtain ⟨x, hx, rfl⟩ := hx
  exact ⟨b, off, x, e, hb, hx, hc⟩
theorem int_new (w : World) (x : Int) (t : TypeId) : Rd (w.alloc (.cells #[.int .i64 x] t)) (w.heap.size + 1) 1 (some ⟨w.heap.size, 0, none⟩) 1 (intCells [x]) :=
  Rd.new_ w t (intCells [x]) 1 1 (by simp [intCells])

/-- The ids that a window remembers, of the first k places. -/
def idsTo (t : Int) (f : Nat → Bool) : Nat → List Int
  | 0 => []
  | k + 1 => if f k = true then idsTo t f k ++ [t - 8 + k] else idsTo t f k
theorem idsTo_len (t : Int) (f : Nat → Bool) (k : Nat) : (idsTo t f k).length ≤ k := by
  induction k with
  | zero => simp [idsTo]
  | succ k ih => unfold idsTo; split <;> (try simp) <;> omega

theorem i64_info : (Try.prog.info? 3).map (fun i => (i.zero, i.size, i.bytes)) = some (some (.int .i64 0), 1, 8) := by kernel_rfl

/-- A slice of numbers of the call's own. -/
def IdsPost (w : World) (l : List Int) (e : Ending) (w' : World) : Prop := ∃ A n c, e = .returned (.slice A n c) ∧ n = l.length ∧ Below w.heap.size w w' ∧ Rd w' w'.heap.size 1 A n (intCells l)

set_option maxRecDepth 100000 in
set_option maxHeartbeats 4000000 in
theorem idsOf_calls (x : Win) (w : World) (h0 : 0 ≤ x.top) (h1 : x.top ≤ 1073741825) : Calls Try.prog 166 #[x.val] w (IdsPost w (idsTo x.top x.at 8)) := by
  obtain ⟨i0, hi0, hz0, hz1, hz2⟩ := info_parts i64_info
  have HX : Hid (∀ k, k < 8 → (x.cells)[k + 1]? = some (.bool (x.at k))) := by
    intro k hk
    have h : k = 0 ∨ k = 1 ∨ k = 2 ∨ k = 3 ∨ k = 4 ∨ k = 5 ∨ k = 6 ∨ k = 7 := by omega
    rcases h with rfl | rfl | rfl | rfl | rfl | rfl | rfl | rfl <;> rfl
  have hat := Lib.hid (rfl : x.at = x.at)
  generalize x.at = f at HX hat ⊢
  clear hat
  obtain ⟨t, b0, b1, b2, b3, b4, b5, b6, b7⟩ := x
  unfold Win.val
  unfold Win.cells at HX
  simp only at h0 h1 HX ⊢
  go_enter Try.func166, Try.ntmps166
  go_wp2_with fail
  go_loopw [3, 4] (fun v i wr => ∃ k : Nat, k ≤ 8 ∧ i = .int .i64 k ∧ wr.ownsRow (w.heap.size + 1) 3 1 v (idsTo t f k).length (intCells (idsTo t f k)) ∧ Below (w.heap.size + 1) (w.alloc (.cells #[.int .i64 t, .bool b0, .bool b1, .bool b2, .bool b3, .bool b4, .bool b5, .bool b6, .bool b7] 26)) wr) (fun _ i _ => 8 - (intOf i).toNat)
  case atStart => exact ⟨0, by omega, rfl, ownsRow_nil_ _ _ _ _, by go_grown⟩
  case round =>
    obtain ⟨k, hk, rfl, hown, hb⟩ := hrel
    have HO := Lib.hid hown
    have HB := Lib.hid hb
    have hsz : w.heap.size + 1 ≤ wr.heap.size := by have := hb.size; simpa using this
    have c0 := hb.cell (p := ⟨w.heap.size, 0, none⟩) (by simp)
    simp only [World.cell?_alloc_mark] at c0
    by_cases hlt : k < 8
    · have ck := hb.cell (p := ⟨w.heap.size, k + 1, none⟩) (by simp)
      rw [World.cell?_alloc_mark] at ck
      have hx := HX.out k hlt
      simp only [List.getElem?_toArray] at ck
      rw [hx] at ck
      rw [Nat.add_comm] at ck
      have ck' := ck
      rw [Nat.add_comm] at ck'
      have HE : Hid (idsTo t f (k + 1) = if f k = true then idsTo t f k ++ [t - 8 + k] else idsTo t f k) := Lib.hid rfl
      have HN := Lib.hid (int_new wr (t - 8 + k) 3)
      have hlen := idsTo_len t f k
      clear hown hb hx
      generalize idsTo t f k = l at HO HE hlen
      cases hfk : f k
      · rw [hfk] at ck ck' HE
        simp only [Bool.false_eq_true, if_false] at HE
        go_wp2_with fail
        go_roundw
        case rel => exact ⟨k + 1, by omega, by go_num, by rw [HE.out]; exact HO.out, HB.out⟩
        case measure => simp [intOf]; omega
      · rw [hfk] at ck ck' HE
        simp only [if_true] at HE
        go_wp2_with (at_builtin; refine wpList_append_any _ rfl (.tmp 13) (.tmp 19) _ rfl (w.heap.size + 1) 3 i0 _ 1 8 Try.underlying143 hi0 hz0 hz1 hz2 rfl (by omega) _ l.length (intCells l) rfl (HO.out.alloc _) (wr.heap.size + 1) (some ⟨wr.heap.size, 0, none⟩) 1 1 (intCells [t - 8 + k]) rfl HN.out (intCells_one _) (by simp only [maxLen]; omega) (by omega) (by simp; omega) ?_; intro v1 w1 hown1 hg1 hat1)
        have hB1 : Below (w.heap.size + 1) _ w1 := (HB.out.alloc hsz _).grown hg1 (by simp; omega) (HO.out.own_lt ·)
        rw [← intCells_append] at hown1
        have HB1 := Lib.hid hB1
        have HO1 := Lib.hid hown1
        clear hB1 hown1 hg1 hat1
        go_wp2_with fail
        go_roundw
        case rel => exact ⟨k + 1, by omega, by go_num, by rw [HE.out]; simpa using HO1.out, HB1.out⟩
        case measure => simp [intOf]; omega
    · obtain rfl : k = 8 := by omega
      clear hown hb
      go_wp2_with fail
      go_ret
      have hown := HO.out
      obtain ⟨A1, c1, hv, _⟩ := own_form hown
      subst hv
      exact ⟨A1, _, c1, rfl, rfl, ((Below.refl _ w).alloc (Nat.le_refl _) _).trans (HB.out.mono (by omega)), Rd.of_own hown⟩
/-- Eight bools as a window's. -/
def winOn (t : Int) (bs : List Bool) : Win := ⟨t, bs.getD 0 false, bs.getD 1 false, bs.getD 2 false, bs.getD 3 false, bs.getD 4 false, bs.getD 5 false, bs.getD 6 false, bs.getD 7 false⟩
def setBit (bs : List Bool) (k : Int) : List Bool := if 0 ≤ k then bs.set k.toNat true else bs
def bitsTo (t : Int) (l : List Int) : List Bool := l.foldl (fun bs x => setBit bs (x - t + 8)) [false, false, false, false, false, false, false, false]
theorem bitsTo_snoc (t : Int) (l : List Int) (x : Int) : bitsTo t (l ++ [x]) = setBit (bitsTo t l) (x - t + 8) := by simp [bitsTo]
theorem setBit_len (bs : List Bool) (k : Int) : (setBit bs k).length = bs.length := by unfold setBit; split <;> simp
theorem bitsTo_len (t : Int) (l : List Int) : (bitsTo t l).length = 8 := by
  unfold bitsTo
  generalize hb : [false, false, false, false, false, false, false, false] = b
  have h8 : b.length = 8 := by rw [← hb]; rfl
  clear hb
  induction l generalizing b with
  | nil => simpa using h8
  | cons x l ih => exact ih _ (by rw [setBit_len]; exact h8)

/-- The window of ids, the last one of which is the greatest. -/
def winOf (l : List Int) : Win := if l = [] then ⟨0, false, false, false, false, false, false, false, false⟩ else winOn (l.getLastD 0 + 1) (bitsTo (l.getLastD 0 + 1) l)

def winRow (t : Int) (bs : List Bool) : Array Value := (.int .i64 t :: bs.map Value.bool).toArray
theorem eight {bs : List Bool} (h : bs.length = 8) : ∃ a0 a1 a2 a3 a4 a5 a6 a7, bs = [a0, a1, a2, a3, a4, a5, a6, a7] := by
  match bs, h with
  | [a0, a1, a2, a3, a4, a5, a6, a7], _ => exact ⟨a0, a1, a2, a3, a4, a5, a6, a7, rfl⟩

/-- A window, and nothing below the old heap's end turned. -/
def WinPost (w : World) (x : Win) (e : Ending) (w' : World) : Prop := e = .returned x.val ∧ Below w.heap.size w w'

set_option maxRecDepth 100000 in
set_option maxHeartbeats 4000000 in
theorem windowOf_nil (A : Option Addr) (c : Nat) (w : World) : Calls Try.prog 167 #[.slice A 0 c] w (WinPost w (winOf [])) := by
  go_enter Try.func167, Try.ntmps167
  go_wp2_with fail
  refine bodyPost_ret (v := (winOf []).val) (by simp [results, Try.results167, go_sem, winOf, Win.val]) rfl ?_
  exact ⟨rfl, by go_grown⟩

structure WB (w : World) (t : Int) (bs : List Bool) (wr : World) : Prop where
  below : Below w.heap.size w wr
  res : wr.heap[w.heap.size]? = some (.cells #[.int .i64 0, .bool false, .bool false, .bool false, .bool false, .bool false, .bool false, .bool false, .bool false] 26 (0, 0))
  row : wr.heap[w.heap.size + 1]? = some (.cells (winRow t bs) 26 (0, 0))

theorem WB.drewN {w wr : World} {t : Int} {bs : List Bool} (h : WB w t bs wr) (q : Nat) : WB w t bs (wr.drewN q) :=
  ⟨⟨h.below.os, h.below.tape, h.below.output, h.below.size, h.below.block⟩, h.res, h.row⟩
theorem WB.set_ {w wr : World} {t : Int} {bs : List Bool} (h : WB w t bs wr) (j : Nat) : WB w t (bs.set j true) (wr.setCell ⟨w.heap.size + 1, 1 + j, none⟩ (.bool true)) := by
  refine ⟨h.below.setCell (by simp) _, ?_, ?_⟩
  · rw [Below.heap_setCell _ _ _ _ (by simp)]
    exact h.res
  · have hr := h.row
    simp only [World.setCell, Array.getElem?_modify, hr]
    simp [winRow, Nat.add_comm 1 j, List.map_set]
theorem WB.cell0 {w wr : World} {t : Int} {bs : List Bool} (h : WB w t bs wr) : wr.cell? ⟨w.heap.size + 1, 0, none⟩ = some (.int .i64 t) := by
  rw [cell_of_row wr _ 0 _ _ (0, 0) h.row]
  simp [winRow]
theorem WB.cell {w wr : World} {t : Int} {bs : List Bool} (h : WB w t bs wr) {j : Nat} (hj : j < bs.length) : wr.cell? ⟨w.heap.size + 1, 1 + j, none⟩ = some (.bool (bs.getD j false)) := by
  rw [cell_of_row wr _ (1 + j) _ _ (0, 0) h.row, Nat.add_comm]
  simp [winRow, hj]
theorem WB.free {w wr : World} {t : Int} {bs : List Bool} (h : WB w t bs wr) (j : Nat) : wr.frozen? ⟨w.heap.size + 1, j, none⟩ = false := by
  have := h.row
  simp [World.frozen?, this]
theorem WB.mk_ (w : World) (t : Int) : WB w t [false, false, false, false, false, false, false, false] ((w.alloc (.cells #[.int .i64 0, .bool false, .bool false, .bool false, .bool false, .bool false, .bool false, .bool false, .bool false] 26)).alloc
    (.cells #[.int .i64 t, .bool false, .bool false, .bool false, .bool false, .bool false, .bool false, .bool false, .bool false] 26)) := by
  refine ⟨by go_grown, ?_, ?_⟩
  · show ((w.heap.push _).push _)[_]? = _
    rw [Array.getElem?_push, if_neg (by simp), Array.getElem?_push, if_pos rfl]
  · show ((w.heap.push _).push _)[_]? = _
    rw [Array.getElem?_push, if_pos (by simp)]
    rfl

set_option maxRecDepth 100000 in
set_option maxHeartbeats 4000000 in
theorem windowOf_cons (A : Option Addr) (n c : Nat) (l : List Int) (w : World) (h : Rd w w.heap.size 1 A n (intCells l)) (hn : 0 < n) (hn9 : n ≤ 9) (hle : ∀ x ∈ l, -8 ≤ x ∧ x ≤ l.getLastD 0) (hbig : l.getLastD 0 ≤ 1073741824) :
    Calls Try.prog 167 #[.slice A n c] w (WinPost w (winOf l)) := by
  have hl := h.int_len
  obtain ⟨b0, off0, z, hA, hb0, hz, hcz⟩ := h.int_at (show n - 1 < n by omega)
  have hlast : l.getLastD 0 = z := by
    rw [List.getLastD_eq_getLast?, List.getLast?_eq_getElem?, hl, hz]
    rfl
  have hne : l ≠ [] := by
    intro e
    rw [e] at hl
    simp at hl
    omega
  have hwin : winOf l = winOn (z + 1) (bitsTo (z + 1) l) := by
    unfold winOf
    rw [if_neg hne, hlast]
  rw [hlast] at hle hbig
  have hz8 : -8 ≤ z := (hle z (List.mem_of_getElem? hz)).1
  rw [hwin]
  have H := Lib.hid h
  have HL := Lib.hid hl
  have HLE := Lib.hid hle
  have HA := Lib.hid hA
  subst hA
  have e1 : ((n : Int) - 1).toNat = n - 1 := by omega
  have hn1 : (0 : Int) ≤ (n : Int) - 1 := by omega
  clear h hl hle hne hwin hlast hz
  go_enter Try.func167, Try.ntmps167
  go_wp2_with fail
  go_loopw [4] (fun i wr => ∃ k : Nat, k ≤ n ∧ i = .int .i64 k ∧ WB w (z + 1) (bitsTo (z + 1) (l.take k)) wr) (fun i _ => n - (intOf i).toNat)
  case atStart => exact ⟨0, by omega, rfl, WB.mk_ w (z + 1)⟩
  case round =>
    obtain ⟨k, hk, rfl, hw⟩ := hrel
    have HW := Lib.hid hw
    have hlen := bitsTo_len (z + 1) (l.take k)
    have f0 := hw.cell0
    by_cases hlt : k < n
    · obtain ⟨b1, off1, x, hA1, _, hx, hc⟩ := (H.out.below hw.below (Nat.le_refl _)).int_at hlt
      obtain ⟨hx8, hxz⟩ := HLE.out x (List.mem_of_getElem? hx)
      have HE : Hid (bitsTo (z + 1) (l.take (k + 1)) = setBit (bitsTo (z + 1) (l.take k)) (x - (z + 1) + 8)) := by
        have e := bitsTo_snoc (z + 1) (l.take k) x
        rw [show l.take k ++ [x] = l.take (k + 1) by rw [List.take_add_one, hx]; rfl] at e
        exact e
      simp only [Option.some.injEq, Addr.mk.injEq, and_true] at hA1
      obtain ⟨rfl, rfl⟩ := hA1
      clear hw hx hcz
      generalize bitsTo (z + 1) (l.take k) = bs at HW hlen HE
      by_cases hneg : x - (z + 1) + 8 < 0
      · rw [setBit, if_neg (by omega)] at HE
        go_wp2_with fail
        go_quiet (fail)
        go_wp2_with fail
        go_roundw
        case rel => exact ⟨k + 1, by omega, by go_num, by rw [HE.out]; exact HW.out.drewN _⟩
        case measure => simp [intOf]; omega
      · obtain ⟨j, hj⟩ := Int.eq_ofNat_of_zero_le (show 0 ≤ x - (z + 1) + 8 by omega)
        have hj8 : j < 8 := by omega
        rw [setBit, if_pos (by omega), hj, Int.toNat_natCast] at HE
        have cj := HW.out.cell (j := j) (by omega)
        have fj := HW.out.free (1 + j)
        have HJ := Lib.hid hj
        clear hj hneg
        go_wp2_with fail
        go_quiet (fail)
        rw [HJ.out]
        go_wp2_with fail
        go_roundw
        case rel => exact ⟨k + 1, by omega, by go_num, by rw [HE.out]; exact (HW.out.drewN _).set_ j⟩
        case measure => simp [intOf]; omega
    · obtain rfl : k = n := by omega
      rw [List.take_of_length_le (by have := HL.out; omega)] at HW hlen
      generalize hbs : bitsTo (z + 1) l = bs at HW hlen
      clear hw hcz
      obtain ⟨a0, a1, a2, a3, a4, a5, a6, a7, rfl⟩ := eight hlen
      have HS := Lib.hid hbs
      clear hbs
      have g0 := HW.out.cell (j := 0) (by simp)
      have g1 := HW.out.cell (j := 1) (by simp)
      have g2 := HW.out.cell (j := 2) (by simp)
      have g3 := HW.out.cell (j := 3) (by simp)
      have g4 := HW.out.cell (j := 4) (by simp)
      have g5 := HW.out.cell (j := 5) (by simp)
      have g6 := HW.out.cell (j := 6) (by simp)
      have g7 := HW.out.cell (j := 7) (by simp)
      simp at g0 g1 g2 g3 g4 g5 g6 g7
      have r0 := cell_of_row wr w.heap.size 0 _ _ (0, 0) HW.out.res
      have r1 := cell_of_row wr w.heap.size 1 _ _ (0, 0) HW.out.res
      have r2 := cell_of_row wr w.heap.size 2 _ _ (0, 0) HW.out.res
      have r3 := cell_of_row wr w.heap.size 3 _ _ (0, 0) HW.out.res
      have r4 := cell_of_row wr w.heap.size 4 _ _ (0, 0) HW.out.res
      have r5 := cell_of_row wr w.heap.size 5 _ _ (0, 0) HW.out.res
      have r6 := cell_of_row wr w.heap.size 6 _ _ (0, 0) HW.out.res
      have r7 := cell_of_row wr w.heap.size 7 _ _ (0, 0) HW.out.res
      have r8 := cell_of_row wr w.heap.size 8 _ _ (0, 0) HW.out.res
      simp at r0 r1 r2 r3 r4 r5 r6 r7 r8
      have fz : ∀ j, wr.frozen? ⟨w.heap.size, j, none⟩ = false := fun j => by
        have := HW.out.res
        simp [World.frozen?, this]
      go_wp2_with fail
      refine bodyPost_ret (v := .agg #[.int .i64 (z + 1), .bool a0, .bool a1, .bool a2, .bool a3, .bool a4, .bool a5, .bool a6, .bool a7]) (by simp [results, Try.results167, go_sem, r0, r1, r2, r3, r4, r5, r6, r7, r8]) rfl ?_
      have hB := HW.out.below
      exact ⟨by rw [HS.out]; rfl, by go_grown⟩
end Go.Proofs.Ytkjlafpafmihaaa
