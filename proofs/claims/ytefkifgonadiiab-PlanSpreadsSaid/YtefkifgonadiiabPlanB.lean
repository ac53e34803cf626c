/- Contracts: heap.ends, plan.sums, ref.busiest. -/
import Derived.Test.YtefkifgonadiiabPlanA
namespace Go.Proofs.Ytefkifgonadiiab
open Go.ChangeShapes Go.WideShapes Go.RowKit

def hsRow (f : Nat → Int) (m : Nat) : Array Value := ((List.range m).map fun j => Value.int .i64 (f j)).toArray
theorem hsRow_get (f : Nat → Int) {m j : Nat} (h : j < m) : (hsRow f m)[j]? = some (.int .i64 (f j)) := by
  simp [hsRow, h]
theorem hsRow_set (f g : Nat → Int) {m j : Nat} (h : ∀ i, i < m → g i = if i = j then g j else f i) : (hsRow f m).setIfInBounds j (.int .i64 (g j)) = hsRow g m := by
  apply Array.ext_getElem?
  intro i
  rw [Array.getElem?_setIfInBounds]
  by_cases hi : i < m
  · have hgi := h i hi
    by_cases e : j = i
    · subst e
      simp [hsRow, hi]
    · rw [if_neg e, hsRow_get f hi, hsRow_get g hi, hgi, if_neg (fun e' => e e'.symm)]
  · by_cases e : j = i
    · subst e
      simp [hsRow, hi]
    · rw [if_neg e]
      simp [hsRow, hi]
theorem hsRow_made (m : Nat) : madeCells (Value.int .i64 0).cells (m * 1) = hsRow (fun _ => 0) m := by
  apply Array.ext_getElem?
  intro i
  by_cases hi : i < m
  · simp [madeCells, hsRow, hi, Value.cells, Nat.mod_one]
  · simp [madeCells, hsRow, hi]

set_option maxRecDepth 100000 in
set_option maxHeartbeats 2000000 in
theorem ends_calls (b m c : Nat) (f : Nat → Int) (w : World) (h : ∀ j, j < m → w.cell? ⟨b, j, none⟩ = some (.int .i64 (f j))) (hm0 : 0 < m) (hm5 : m ≤ 5) :
    Calls Try.prog 24 #[.slice (some ⟨b, 0, none⟩) m c] w fun e w' => e = .returned (.tuple #[.int .i64 (mostTo f m : Nat), .int .i64 (leastTo f m : Nat)]) ∧ w = w' := by
  have H := Lib.hid h
  have HM : Hid (∀ k, mostTo f (k + 1) = if f (mostTo f k) < f k then k else mostTo f k) := Lib.hid (fun _ => rfl)
  have HL : Hid (∀ k, leastTo f (k + 1) = if f k < f (leastTo f k) then k else leastTo f k) := Lib.hid (fun _ => rfl)
  have HM0 : Hid (∀ k, k < m → mostTo f k < m) := Lib.hid (fun k hk => by
    rcases Nat.eq_zero_or_pos k with h | h
    · subst h; simpa [mostTo] using hm0
    · have := mostTo_lt f k h; omega)
  have HL0 : Hid (∀ k, k < m → leastTo f k < m) := Lib.hid (fun k hk => by
    rcases Nat.eq_zero_or_pos k with h | h
    · subst h; simpa [leastTo] using hm0
    · have := leastTo_lt f k h; omega)
  clear h
  go_enter Try.func24, Try.ntmps24
  go_wp2_with fail
  go_loop [2, 3, 8] (fun p q i => ∃ k : Nat, k ≤ m ∧ i = .int .i64 k ∧ p = .int .i64 (mostTo f k : Nat) ∧ q = .int .i64 (leastTo f k : Nat)) (fun _ _ i => m - (intOf i).toNat)
  case atStart => exact ⟨0, Nat.zero_le _, rfl, rfl, rfl⟩
  case round =>
    obtain ⟨k, hk, rfl, rfl, rfl⟩ := hrel
    by_cases hlt : k < m
    · have HMk := Lib.hid (HM.out k)
      have HLk := Lib.hid (HL.out k)
      have m1 := HM0.out k hlt
      have m2 := HL0.out k hlt
      generalize mostTo f k = p at HMk m1 ⊢
      generalize leastTo f k = q at HLk m2 ⊢
      have c0 := H.out k hlt
      have c1 := H.out p m1
      have c2 := H.out q m2
      by_cases t1 : f p < f k
      · rw [if_pos t1] at HMk
        by_cases t2 : f k < f q
        · rw [if_pos t2] at HLk
          go_wp2_with fail
          go_round
          case rel => exact ⟨k + 1, by omega, by go_num, by rw [HMk.out], by rw [HLk.out]⟩
          case measure => simp [intOf]; omega
        · rw [if_neg t2] at HLk
          go_wp2_with fail
          go_round
          case rel => exact ⟨k + 1, by omega, by go_num, by rw [HMk.out], by rw [HLk.out]⟩
          case measure => simp [intOf]; omega
      · rw [if_neg t1] at HMk
        by_cases t2 : f k < f q
        · rw [if_pos t2] at HLk
          go_wp2_with fail
          go_round
          case rel => exact ⟨k + 1, by omega, by go_num, by rw [HMk.out], by rw [HLk.out]⟩
          case measure => simp [intOf]; omega
        · rw [if_neg t2] at HLk
          go_wp2_with fail
          go_round
          case rel => exact ⟨k + 1, by omega, by go_num, by rw [HMk.out], by rw [HLk.out]⟩
          case measure => simp [intOf]; omega
    · obtain rfl : k = m := by omega
      go_wp2_with fail
      go_ret2
      exact ⟨rfl, rfl⟩

/-- The works, a row of its own. -/
def SumsPost (w : World) (f : Nat → Int) (m : Nat) (e : Ending) (w' : World) : Prop :=
  ∃ b, e = .returned (.slice (some ⟨b, 0, none⟩) m m) ∧ Below w.heap.size w w' ∧ w.heap.size ≤ b ∧ Blk w' b (hsRow f m) 3

set_option maxRecDepth 100000 in
set_option maxHeartbeats 4000000 in
theorem sums_calls (A : Option Addr) (n c m : Nat) (l : List Ld) (w : World) (h : Rd w w.heap.size 3 A n (recCells l)) (hn : n ≤ 4) (hm0 : 0 < m) (hm5 : m ≤ 5) (hw : ∀ x ∈ l, 0 ≤ x.work ∧ x.work ≤ 1073741824 ∧ 0 ≤ x.node ∧ x.node < m) :
    Calls Try.prog 23 #[.slice A n c, .int .i64 m] w (SumsPost w (fun j => workAt l j) m) := by
  obtain ⟨i0, hi0, hz0, hz1, hz2⟩ := info_parts (P := Try.prog) (e := 3) (z := .int .i64 0) (size := 1) (bytes := 8) (by kernel_rfl)
  have hmk : ∀ w : World, (Instr.makeSlice 50 (.int .i64 (m : Int)) (.int .i64 (m : Int))).run Try.prog w = .ok (.slice (some ⟨w.heap.size, 0, none⟩) m m) (w.alloc (.cells (hsRow (fun _ => 0) m) 3)) := by
    intro w
    have := run_makeSlice (P := Try.prog) w 50 3 i0 _ Try.underlying50 hi0 hz0 .i64 .i64 (m : Int) (m : Int) (by omega) (by omega) (by rw [hz1]; omega) (by rw [hz2]; omega) (by omega)
    rw [this, hz1, Int.toNat_natCast, hsRow_made]
  clear hi0 hz0 hz1 hz2
  have H := Lib.hid h
  have hl := h.ld_len
  have HL := Lib.hid hl
  have HW := Lib.hid (fun (j : Int) => workAt_bounds (l := l) (fun x hx => ⟨(hw x hx).1, (hw x hx).2.1⟩) j)
  have HT := Lib.hid (fun (k : Nat) (x : Ld) (hx : l[k]? = some x) (j : Int) => workAt_take hx j)
  have HM := Lib.hid (fun (k : Nat) (x : Ld) (hx : l[k]? = some x) => hw x (List.mem_of_getElem? hx))
  clear h hl hw
  go_enter Try.func23, Try.ntmps23
  go_wp2_with fail
  clear hmk
  go_loopw [12] (fun i wr => ∃ k : Nat, k ≤ n ∧ i = .int .i64 k ∧ Blk wr w.heap.size (hsRow (fun j => workAt (l.take k) j) m) 3 ∧ Below w.heap.size w wr) (fun i _ => n - (intOf i).toNat)
  case atStart => exact ⟨0, Nat.zero_le _, rfl, Blk.new _ _ _, by go_grown⟩
  case round =>
    obtain ⟨k, hk, rfl, hblk, hb⟩ := hrel
    have HB := Lib.hid hb
    have HK := Lib.hid hblk
    by_cases hlt : k < n
    · obtain ⟨b, off, x, rfl, hbb, hx, c0, c1, c2⟩ := (H.out.below hb (Nat.le_refl _)).ld_at hlt
      obtain ⟨x1, x2, x3, x4⟩ := HM.out k x hx
      obtain ⟨j, hj⟩ := Int.eq_ofNat_of_zero_le x3
      have HTk := Lib.hid (HT.out k x hx)
      have hwb := HW.out j k (by have := HL.out; omega)
      rw [hj] at c1 x4
      have hjm : j < m := by omega
      have d0 := hblk.cell (hsRow_get (fun j => workAt (l.take k) j) hjm)
      have df := hblk.free j
      have hz : w.heap.size < wr.heap.size := hblk.lt
      have HS : Hid ((hsRow (fun j => workAt (l.take k) j) m).setIfInBounds j (.int .i64 (workAt (l.take k) j + x.work)) = hsRow (fun j => workAt (l.take (k + 1)) j) m) := by
        have e := hsRow_set (fun j => workAt (l.take k) j) (fun j => workAt (l.take (k + 1)) j) (m := m) (j := j) (fun i hi => by
          simp only [HTk.out]
          by_cases e : i = j
          · rw [if_pos e, e]
          · rw [if_neg e, if_neg (by omega)]; simp)
        rw [show workAt (l.take (k + 1)) (j : Int) = workAt (l.take k) j + x.work by rw [HTk.out, if_pos hj]] at e
        exact e
      have HJ := Lib.hid hj
      clear hblk hb hx hj x3
      generalize workAt (l.take k) (j : Int) = s at hwb d0 HS
      go_wp2_with fail
      go_region
      go_wp2_with fail
      go_roundw
      case rel => exact ⟨k + 1, by omega, by go_num, by exact (((HK.out.set_ j _).cast HS.out).alloc _).drew, by have hB := HB.out; go_grown⟩
      case measure => simp [intOf]; omega
    · obtain rfl : k = n := by omega
      rw [List.take_of_length_le (by have := HL.out; omega)] at HK
      clear hblk hb
      go_wp2_with fail
      go_ret
      exact ⟨_, rfl, HB.out, Nat.le_refl _, HK.out⟩

set_option maxRecDepth 100000 in
set_option maxHeartbeats 4000000 in
theorem busiest_calls (A : Option Addr) (n c m : Nat) (l : List Ld) (w : World) {B : Nat} (h : Rd w B 3 A n (recCells l)) (hn : n ≤ 4) (hm0 : 0 < m) (hm5 : m ≤ 5) (hw : ∀ x ∈ l, 0 ≤ x.work ∧ x.work ≤ 1073741824) :
    Calls Try.prog 26 #[.slice A n c, .int .i64 m] w fun e w' => e = .returned (.tuple #[.int .i64 (mostTo (fun j => workAt l j) m : Nat), .int .i64 (leastTo (fun j => workAt l j) m : Nat)]) ∧ w = w' := by
  have HA := Lib.hid (fun node : Int => workAt_calls A n c l node w h hn hw)
  clear h hn hw
  generalize hf : (fun j : Nat => workAt l j) = f
  have HLN := Lib.hid (leastTo_neg f m)
  have HF : Hid (∀ j : Nat, workAt l j = f j) := Lib.hid (fun j => congrFun hf j)
  clear hf
  have HA2 : Hid (∀ j : Nat, Calls Try.prog 27 #[.slice A n c, .int .i64 (j : Int)] w fun e w' => e = .returned (.int .i64 (f j)) ∧ w = w') := Lib.hid (fun j => by rw [← HF.out j]; exact HA.out j)
  clear HA
  have e1 : IntKind.i64.wrap ((m : Int) - 1) = (m : Int) - 1 := IntWalk.i64_in _ (by omega)
  go_enter Try.func26, Try.ntmps26
  go_wp2_with fail
  go_loop [6, 7, 8] (fun p q i => ∃ k a b : Nat, k ≤ m ∧ i = .int .i64 ((k : Int) - 1) ∧ p = .int .i64 (a : Nat) ∧ q = .int .i64 (b : Nat) ∧ DownM f m k a ∧ DownM (fun j => - f j) m k b) (fun _ _ i => (intOf i + 1).toNat)
  case atStart => exact ⟨m, m - 1, m - 1, Nat.le_refl _, rfl, by go_num, by go_num, ⟨by omega, fun _ => rfl, fun j _ _ => by omega, fun _ => by omega, fun j _ _ => by omega⟩, ⟨by omega, fun _ => rfl, fun j _ _ => by omega, fun _ => by omega, fun j _ _ => by omega⟩⟩
  case round =>
    obtain ⟨k, a, b, hk, rfl, rfl, rfl, hd1, hd2⟩ := hrel
    have HD1 := Lib.hid hd1
    have HD2 := Lib.hid hd2
    clear hd1 hd2
    by_cases hk0 : k = 0
    · subst hk0
      rw [show (((0 : Nat) : Int) - 1) = -1 from rfl]
      have ha := Lib.hid HD1.out.done
      have hb := Lib.hid (HD2.out.done.trans HLN.out.symm)
      go_wp2_with fail
      go_ret2
      exact ⟨by rw [← ha.out, ← hb.out]; rfl, rfl⟩
    · obtain ⟨i, rfl⟩ : ∃ i, k = i + 1 := ⟨k - 1, by omega⟩
      have ei : ((i + 1 : Nat) : Int) - 1 = (i : Int) := by omega
      rw [ei]
      clear ei hk0
      have him : i < m := by omega
      have HE1 := Lib.hid (HD1.out.step him)
      have HE2 := Lib.hid (HD2.out.step him)
      clear HD1 HD2
      have e2 : IntKind.i64.wrap ((i : Int) - 1) = (i : Int) - 1 := IntWalk.i64_in _ (by omega)
      have CALL := Lib.hid HA2.out
      go_wp2_with fail
      refine (HA2.out i).mono ?_
      rintro e w2 ⟨rfl, rfl⟩
      go_wp2_with fail
      refine (HA2.out a).mono ?_
      rintro e w2 ⟨rfl, rfl⟩
      by_cases t1 : f a ≤ f i
      · rw [if_pos t1] at HE1
        go_wp2_with fail
        refine (HA2.out b).mono ?_
        rintro e w2 ⟨rfl, rfl⟩
        by_cases t2 : f i ≤ f b
        · rw [if_pos (by omega)] at HE2
          go_wp2_with fail
          go_round
          case rel => exact ⟨i, i, i, by omega, rfl, rfl, rfl, HE1.out, HE2.out⟩
          case measure => (simp [intOf] <;> omega)
        · rw [if_neg (by omega)] at HE2
          go_wp2_with fail
          go_round
          case rel => exact ⟨i, i, b, by omega, rfl, rfl, rfl, HE1.out, HE2.out⟩
          case measure => (simp [intOf] <;> omega)
      · rw [if_neg t1] at HE1
        go_wp2_with fail
        refine (HA2.out b).mono ?_
        rintro e w2 ⟨rfl, rfl⟩
        by_cases t2 : f i ≤ f b
        · rw [if_pos (by omega)] at HE2
          go_wp2_with fail
          go_round
          case rel => exact ⟨i, a, i, by omega, rfl, rfl, rfl, HE1.out, HE2.out⟩
          case measure => (simp [intOf] <;> omega)
        · rw [if_neg (by omega)] at HE2
          go_wp2_with fail
          go_round
          case rel => exact ⟨i, a, b, by omega, rfl, rfl, rfl, HE1.out, HE2.out⟩
          case measure => (simp [intOf] <;> omega)
end Go.Proofs.Ytefkifgonadiiab
