/- Contract: pack.Decode. -/
import Derived.Test.YtkjlafpafmihaaaDec
namespace Go.Proofs.Ytkjlafpafmihaaa
open Go.ChangeShapes Go.WideShapes Go.RowKit

def tk (b : List UInt8) (i : Nat) : Int × Int := takeM (b.drop (4 * i))
def rowVal (b : List UInt8) (k j : Nat) : Int := if j < k then (tk b j).1 else 0
def rcdTo (b : List UInt8) (k : Nat) : Rcd := ⟨rowVal b k 0, rowVal b k 1, rowVal b k 2, rowVal b k 3, ⟨rowVal b k 4, rowVal b k 5, rowVal b k 6, rowVal b k 7, rowVal b k 8, rowVal b k 9⟩⟩
def manyOf (b : List UInt8) : Nat := if hasEv (tk b 0).1 = true then 10 else 4
def errTo (b : List UInt8) : Nat → Int
  | 0 => 0
  | k + 1 => if errTo b k ≠ 0 then errTo b k else (tk b k).2
def zeroRcd : Rcd := ⟨0, 0, 0, 0, ⟨0, 0, 0, 0, 0, 0⟩⟩
/-- P1.6. -/
def decM (b : List UInt8) : Rcd × Int :=
  if errTo b (manyOf b) ≠ 0 then (zeroRcd, errTo b (manyOf b)) else if b.length ≠ 4 * manyOf b ∨ recFault (rcdTo b (manyOf b)) ≠ 0 then (zeroRcd, 3) else (rcdTo b (manyOf b), 0)
def DecPost (w : World) (r : Rcd × Int) (e : Ending) (w' : World) : Prop := e = .returned (.tuple #[r.1.val, .int .i64 r.2]) ∧ Below w.heap.size w w'

theorem errTo_zero {b : List UInt8} : ∀ {k : Nat}, (∀ j, j < k → (tk b j).2 = 0) → errTo b k = 0
  | 0, _ => rfl
  | k + 1, h => by
    rw [errTo, errTo_zero (fun j hj => h j (by omega)), if_neg (by simp)]
    exact h k (by omega)
theorem errTo_at {b : List UInt8} {k : Nat} (h : ∀ j, j < k → (tk b j).2 = 0) (hk : (tk b k).2 ≠ 0) : ∀ m, k < m → errTo b m = (tk b k).2
  | 0, hm => absurd hm (by omega)
  | m + 1, hm => by
    rw [errTo]
    by_cases e : k = m
    · subst e
      rw [errTo_zero h, if_neg (by simp)]
    · rw [errTo_at h hk m (by omega), if_pos hk]
theorem tk_bad {b : List UInt8} {k : Nat} (h : (tk b k).2 ≠ 0) : (tk b k).1 = 0 := by
  unfold tk at *
  generalize b.drop (4 * k) = l at h ⊢
  unfold takeM at *
  split at h
  · rename_i a b c d _
    by_cases ha : 127 < a.toNat
    · rw [if_pos ha]
    · rw [if_neg ha] at h
      exact absurd rfl h
  · rfl
def rowArr (b : List UInt8) (k : Nat) : Array Value := #[.int .i64 (rowVal b k 0), .int .i64 (rowVal b k 1), .int .i64 (rowVal b k 2), .int .i64 (rowVal b k 3), .int .i64 (rowVal b k 4), .int .i64 (rowVal b k 5), .int .i64 (rowVal b k 6), .int .i64 (rowVal b k 7), .int .i64 (rowVal b k 8), .int .i64 (rowVal b k 9)]
theorem rowVal_same {b : List UInt8} {k j : Nat} (h : j ≠ k) : rowVal b (k + 1) j = rowVal b k j := by
  unfold rowVal
  by_cases h1 : j < k
  · rw [if_pos h1, if_pos (by omega)]
  · rw [if_neg h1, if_neg (by omega)]
theorem rowVal_new {b : List UInt8} {k : Nat} : rowVal b (k + 1) k = (tk b k).1 := if_pos (by omega)
theorem rowArr_step (b : List UInt8) (k : Nat) (hk : k < 10) : (rowArr b k).setIfInBounds k (.int .i64 (tk b k).1) = rowArr b (k + 1) := by
  have h : k = 0 ∨ k = 1 ∨ k = 2 ∨ k = 3 ∨ k = 4 ∨ k = 5 ∨ k = 6 ∨ k = 7 ∨ k = 8 ∨ k = 9 := by omega
  rcases h with rfl | rfl | rfl | rfl | rfl | rfl | rfl | rfl | rfl | rfl
  all_goals simp [rowArr, rowVal, tk]
theorem rowArr_get (b : List UInt8) (k j : Nat) (hj : j < 10) : (rowArr b k)[j]? = some (.int .i64 (rowVal b k j)) := by
  have h : j = 0 ∨ j = 1 ∨ j = 2 ∨ j = 3 ∨ j = 4 ∨ j = 5 ∨ j = 6 ∨ j = 7 ∨ j = 8 ∨ j = 9 := by omega
  rcases h with rfl | rfl | rfl | rfl | rfl | rfl | rfl | rfl | rfl | rfl <;> rfl
theorem ptrs_index0 (R : Nat) (w : World) : (Instr.index 175 (.agg #[.pointer (some ⟨R, 0, none⟩), .pointer (some ⟨R, 1, none⟩), .pointer (some ⟨R, 2, none⟩), .pointer (some ⟨R, 3, none⟩), .pointer (some ⟨R, 4, none⟩), .pointer (some ⟨R, 5, none⟩), .pointer (some ⟨R, 6, none⟩), .pointer (some ⟨R, 7, none⟩), .pointer (some ⟨R, 8, none⟩), .pointer (some ⟨R, 9, none⟩)]) (.int .i64 0)).run Try.prog w = .ok (.pointer (some ⟨R, 0, none⟩)) w := by kernel_rfl
theorem ptrs_index1 (R : Nat) (w : World) : (Instr.index 175 (.agg #[.pointer (some ⟨R, 0, none⟩), .pointer (some ⟨R, 1, none⟩), .pointer (some ⟨R, 2, none⟩), .pointer (some ⟨R, 3, none⟩), .pointer (some ⟨R, 4, none⟩), .pointer (some ⟨R, 5, none⟩), .pointer (some ⟨R, 6, none⟩), .pointer (some ⟨R, 7, none⟩), .pointer (some ⟨R, 8, none⟩), .pointer (some ⟨R, 9, none⟩)]) (.int .i64 1)).run Try.prog w = .ok (.pointer (some ⟨R, 1, none⟩)) w := by kernel_rfl
theorem ptrs_index2 (R : Nat) (w : World) : (Instr.index 175 (.agg #[.pointer (some ⟨R, 0, none⟩), .pointer (some ⟨R, 1, none⟩), .pointer (some ⟨R, 2, none⟩), .pointer (some ⟨R, 3, none⟩), .pointer (some ⟨R, 4, none⟩), .pointer (some ⟨R, 5, none⟩), .pointer (some ⟨R, 6, none⟩), .pointer (some ⟨R, 7, none⟩), .pointer (some ⟨R, 8, none⟩), .pointer (some ⟨R, 9, none⟩)]) (.int .i64 2)).run Try.prog w = .ok (.pointer (some ⟨R, 2, none⟩)) w := by kernel_rfl
theorem ptrs_index3 (R : Nat) (w : World) : (Instr.index 175 (.agg #[.pointer (some ⟨R, 0, none⟩), .pointer (some ⟨R, 1, none⟩), .pointer (some ⟨R, 2, none⟩), .pointer (some ⟨R, 3, none⟩), .pointer (some ⟨R, 4, none⟩), .pointer (some ⟨R, 5, none⟩), .pointer (some ⟨R, 6, none⟩), .pointer (some ⟨R, 7, none⟩), .pointer (some ⟨R, 8, none⟩), .pointer (some ⟨R, 9, none⟩)]) (.int .i64 3)).run Try.prog w = .ok (.pointer (some ⟨R, 3, none⟩)) w := by kernel_rfl
theorem ptrs_index4 (R : Nat) (w : World) : (Instr.index 175 (.agg #[.pointer (some ⟨R, 0, none⟩), .pointer (some ⟨R, 1, none⟩), .pointer (some ⟨R, 2, none⟩), .pointer (some ⟨R, 3, none⟩), .pointer (some ⟨R, 4, none⟩), .pointer (some ⟨R, 5, none⟩), .pointer (some ⟨R, 6, none⟩), .pointer (some ⟨R, 7, none⟩), .pointer (some ⟨R, 8, none⟩), .pointer (some ⟨R, 9, none⟩)]) (.int .i64 4)).run Try.prog w = .ok (.pointer (some ⟨R, 4, none⟩)) w := by kernel_rfl
theorem ptrs_index5 (R : Nat) (w : World) : (Instr.index 175 (.agg #[.pointer (some ⟨R, 0, none⟩), .pointer (some ⟨R, 1, none⟩), .pointer (some ⟨R, 2, none⟩), .pointer (some ⟨R, 3, none⟩), .pointer (some ⟨R, 4, none⟩), .pointer (some ⟨R, 5, none⟩), .pointer (some ⟨R, 6, none⟩), .pointer (some ⟨R, 7, none⟩), .pointer (some ⟨R, 8, none⟩), .pointer (some ⟨R, 9, none⟩)]) (.int .i64 5)).run Try.prog w = .ok (.pointer (some ⟨R, 5, none⟩)) w := by kernel_rfl
theorem ptrs_index6 (R : Nat) (w : World) : (Instr.index 175 (.agg #[.pointer (some ⟨R, 0, none⟩), .pointer (some ⟨R, 1, none⟩), .pointer (some ⟨R, 2, none⟩), .pointer (some ⟨R, 3, none⟩), .pointer (some ⟨R, 4, none⟩), .pointer (some ⟨R, 5, none⟩), .pointer (some ⟨R, 6, none⟩), .pointer (some ⟨R, 7, none⟩), .pointer (some ⟨R, 8, none⟩), .pointer (some ⟨R, 9, none⟩)]) (.int .i64 6)).run Try.prog w = .ok (.pointer (some ⟨R, 6, none⟩)) w := by kernel_rfl
theorem ptrs_index7 (R : Nat) (w : World) : (Instr.index 175 (.agg #[.pointer (some ⟨R, 0, none⟩), .pointer (some ⟨R, 1, none⟩), .pointer (some ⟨R, 2, none⟩), .pointer (some ⟨R, 3, none⟩), .pointer (some ⟨R, 4, none⟩), .pointer (some ⟨R, 5, none⟩), .pointer (some ⟨R, 6, none⟩), .pointer (some ⟨R, 7, none⟩), .pointer (some ⟨R, 8, none⟩), .pointer (some ⟨R, 9, none⟩)]) (.int .i64 7)).run Try.prog w = .ok (.pointer (some ⟨R, 7, none⟩)) w := by kernel_rfl
theorem ptrs_index8 (R : Nat) (w : World) : (Instr.index 175 (.agg #[.pointer (some ⟨R, 0, none⟩), .pointer (some ⟨R, 1, none⟩), .pointer (some ⟨R, 2, none⟩), .pointer (some ⟨R, 3, none⟩), .pointer (some ⟨R, 4, none⟩), .pointer (some ⟨R, 5, none⟩), .pointer (some ⟨R, 6, none⟩), .pointer (some ⟨R, 7, none⟩), .pointer (some ⟨R, 8, none⟩), .pointer (some ⟨R, 9, none⟩)]) (.int .i64 8)).run Try.prog w = .ok (.pointer (some ⟨R, 8, none⟩)) w := by kernel_rfl
theorem ptrs_index9 (R : Nat) (w : World) : (Instr.index 175 (.agg #[.pointer (some ⟨R, 0, none⟩), .pointer (some ⟨R, 1, none⟩), .pointer (some ⟨R, 2, none⟩), .pointer (some ⟨R, 3, none⟩), .pointer (some ⟨R, 4, none⟩), .pointer (some ⟨R, 5, none⟩), .pointer (some ⟨R, 6, none⟩), .pointer (some ⟨R, 7, none⟩), .pointer (some ⟨R, 8, none⟩), .pointer (some ⟨R, 9, none⟩)]) (.int .i64 9)).run Try.prog w = .ok (.pointer (some ⟨R, 9, none⟩)) w := by kernel_rfl
theorem ptrs_index (R : Nat) (k : Nat) (hk : k < 10) (w : World) : (Instr.index 175 (.agg #[.pointer (some ⟨R, 0, none⟩), .pointer (some ⟨R, 1, none⟩), .pointer (some ⟨R, 2, none⟩), .pointer (some ⟨R, 3, none⟩), .pointer (some ⟨R, 4, none⟩), .pointer (some ⟨R, 5, none⟩), .pointer (some ⟨R, 6, none⟩), .pointer (some ⟨R, 7, none⟩), .pointer (some ⟨R, 8, none⟩), .pointer (some ⟨R, 9, none⟩)]) (.int .i64 k)).run Try.prog w = .ok (.pointer (some ⟨R, k, none⟩)) w := by
  have h : k = 0 ∨ k = 1 ∨ k = 2 ∨ k = 3 ∨ k = 4 ∨ k = 5 ∨ k = 6 ∨ k = 7 ∨ k = 8 ∨ k = 9 := by omega
  rcases h with rfl | rfl | rfl | rfl | rfl | rfl | rfl | rfl | rfl | rfl
  · exact ptrs_index0 R w
  · exact ptrs_index1 R w
  · exact ptrs_index2 R w
  · exact ptrs_index3 R w
  · exact ptrs_index4 R w
  · exact ptrs_index5 R w
  · exact ptrs_index6 R w
  · exact ptrs_index7 R w
  · exact ptrs_index8 R w
  · exact ptrs_index9 R w

set_option maxRecDepth 100000 in
set_option maxHeartbeats 4000000 in
theorem Decode_calls (A : Option Addr) (n c : Nat) (b : List UInt8) (w : World) (h : Rd w w.heap.size 1 A n (byteCells b)) (hn : n ≤ c) (hcm : c ≤ maxLen) :
    Calls Try.prog 50 #[.slice A n c] w (DecPost w (decM b)) := by
  have hmf : ∀ (fn : Fn) (first cap : Array Value) (w : World), (Instr.makeFunc fn first cap).run Try.prog w = .ok (.func fn first cap) w := fun _ _ _ _ => rfl
  have hl := h.bytes_len
  subst hl
  have H := Lib.hid h
  have HIX := Lib.hid (ptrs_index w.heap.size)
  clear h
  generalize hz : decM b = z
  have HZ := Lib.hid hz
  clear hz
  go_enter_defers Try.func50, Try.ntmps50
  go_wp2_with fail
  go_loopw [0, 26] (fun v i wr => ∃ k : Nat, k ≤ 10 ∧ i = .int .i64 k ∧ ∃ A2 c2, v = .slice A2 (b.length - 4 * k) c2 ∧ b.length - 4 * k ≤ c2 ∧ c2 ≤ maxLen ∧ 4 * k ≤ b.length ∧ Rd wr w.heap.size 1 A2 (b.length - 4 * k) (byteCells (b.drop (4 * k))) ∧ (∀ j, j < k → (tk b j).2 = 0) ∧ (4 < k → hasEv (tk b 0).1 = true) ∧ Blk wr w.heap.size (rowArr b k) 51 ∧ Blk wr (w.heap.size + 1) #[.int .i64 0] 30 ∧ Below w.heap.size w wr) (fun _ i _ => 10 - (intOf i).toNat)
  case atStart =>
    refine ⟨0, by omega, rfl, A, c, by simp, by simpa using hn, hcm, by omega, ?_, fun j hj => absurd hj (by omega), fun h => absurd h (by omega), ?_, Blk.new1 w _ _ _, by go_grown⟩
    · have := ((H.out.alloc (Nat.le_refl _) (.cells zeroRow 51)).alloc (by simp) (.cells #[.int .i64 0] 30))
      simpa [zeroRow] using this
    · exact (Blk.new w _ _).alloc _
  case round =>
    obtain ⟨k, hk, rfl, A2, c2, rfl, hc2, hcm2, h4k, hr, hall, hev, hR, hE, hB⟩ := hrel
    have HR := Lib.hid hr
    have HA := Lib.hid hall
    have HV := Lib.hid hev
    have HB := Lib.hid hB
    have HBR := Lib.hid hR
    have HBE := Lib.hid hE
    have hz0 : w.heap.size + 1 < wr.heap.size := hE.lt
    have r0 : wr.cell? ⟨w.heap.size, 0, none⟩ = some (.int .i64 (rowVal b k 0)) := hR.cell (rowArr_get b k 0 (by omega))
    clear hr hall hev hB hR hE
    by_cases hlt : k < 10
    · have hix := HIX.out k hlt
      by_cases h4 : k = 4
      · subst h4
        have hix4 := ptrs_index4 w.heap.size
        have e04 : rowVal b 4 0 = (tk b 0).1 := if_pos (by omega)
        cases he : hasEv (rowVal b 4 0)
        · have hmany : manyOf b = 4 := by unfold manyOf; rw [if_neg (by rw [← e04, he]; simp)]
          clear e04
          have hez : errTo b (manyOf b) = 0 := by rw [hmany]; exact errTo_zero HA.out
          have HREC := Lib.hid (fun w => Record_calls (rcdTo b 4) w)
          have HD : Hid (decM b = if b.length ≠ 4 * 4 ∨ recFault (rcdTo b 4) ≠ 0 then (zeroRcd, 3) else (rcdTo b 4, 0)) := Lib.hid (by unfold decM; rw [hez, if_neg (by simp), hmany])
          clear hez hmany
          have DR := HBR.out
          have DE := HBE.out
          by_cases hlen : b.length = 4 * 4
          · have e0 : b.length - 4 * 4 = 0 := by omega
            rw [e0]
            clear e0
            have HD2 : Hid (z = if recFault (rcdTo b 4) ≠ 0 then (zeroRcd, 3) else (rcdTo b 4, 0)) := Lib.hid (by
              rw [← HZ.out, HD.out]
              by_cases hf : recFault (rcdTo b 4) ≠ 0
              · rw [if_pos (.inr hf), if_pos hf]
              · rw [if_neg (fun h => h.elim (fun h => h hlen) hf), if_neg hf])
            generalize recFault (rcdTo b 4) = f at HREC HD2
            unfold rcdTo Rcd.val at HREC
            simp only at HREC
            unfold rowArr at DR
            obtain ⟨y0, y1, y2, y3, y4, y5, y6, y7, y8, y9, yf⟩ := DR.cells10
            clear hlen HD
            go_wp2_with (go_at_call 121; refine (hasEvent_calls _ _).mono ?_; rintro e w' ⟨rfl, rfl⟩; first | rw [he] | skip)
            refine (HREC.out _).mono ?_
            rintro e w3 ⟨rfl, hb3⟩
            have DR := DR.on hb3
            have DE := DE.on hb3
            have HB2 := Lib.hid (HB.out.trans (hb3.mono HB.out.size))
            have hz3 : w.heap.size + 1 < w3.heap.size := DE.lt
            clear hb3 y0 y1 y2 y3 y4 y5 y6 y7 y8 y9 yf
            by_cases hf : f = 0
            · have HF := Lib.hid (HD2.out.trans (if_neg (by simpa using hf)))
              subst hf
              clear HD2
              obtain ⟨y0, y1, y2, y3, y4, y5, y6, y7, y8, y9, yf⟩ := DR.cells10
              have x0 := DE.cell (k := 0) rfl
              have xf := DE.free
              go_wp2_with (refine wpList_store_row rfl _ (.tmp 2) (.tmp 56) rfl w.heap.size rfl _ rfl _ _ DR rcd_inf rfl rfl ?_; intro w9 hB9 hU9; have DE9 := hU9.blk DE (by omega); have x0 := DE9.cell (k := 0) rfl; have xf := DE9.free)
              obtain ⟨g0, g1, g2, g3, g4, g5, g6, g7, g8, g9, gf⟩ := (hB9.other ⟨w.heap.size + 1, 0, none⟩ (by simp) (.int .i64 0)).cells10
              have g10 := (DE9.set_ 0 (.int .i64 0)).cell (k := 0) rfl
              have HB9 := hU9.next HB2.out (Nat.le_refl _)
              refine leaves_cons (f := 129) (args := #[.pointer (some ⟨w.heap.size, 0, none⟩), .pointer (some ⟨w.heap.size + 1, 0, none⟩)]) (by simp) (by simp [go_sem]) ?_
              refine (idle_calls w.heap.size (w.heap.size + 1) _).mono ?_
              rintro e u' wf ⟨rfl, rfl, rfl⟩
              simp [Leaves, settle, results, Try.results50, go_sem, g0, g1, g2, g3, g4, g5, g6, g7, g8, g9, g10]
              rw [HF.out]
              exact ⟨rfl, HB9.setCell (by simp) _⟩
            · have HF := Lib.hid (HD2.out.trans (if_pos hf))
              have u1 : (f == 0) = false := by simpa using hf
              have u2 : (f != 0) = true := by simpa using hf
              clear hf HD2
              go_wp2_with fail
              refine leaves_cons (f := 129) (args := #[.pointer (some ⟨w.heap.size, 0, none⟩), .pointer (some ⟨w.heap.size + 1, 0, none⟩)]) (by simp) (by simp [go_sem]) ?_
              refine (caught_calls w.heap.size (w.heap.size + 1) 3 0 _ _ (by omega) DR (by rfl) DE).mono ?_
              rintro e u' w9 ⟨rfl, rfl, hb9, hR9, hE9⟩
              unfold zeroRow at hR9
              obtain ⟨g0, g1, g2, g3, g4, g5, g6, g7, g8, g9, gf⟩ := hR9.cells10
              have g10 : w9.cell? ⟨w.heap.size + 1, 0, none⟩ = some (.int .i64 3) := hE9.cell rfl
              simp [Leaves, settle, results, Try.results50, go_sem, g0, g1, g2, g3, g4, g5, g6, g7, g8, g9, g10]
              rw [HF.out]
              exact ⟨rfl, HB2.out.trans (hb9 w.heap.size (Nat.le_refl _) (by omega))⟩
          · have hd1 : 0 < b.length - 4 * 4 := by omega
            have hd2 : (0 : Int) < ((b.length - 4 * 4 : Nat) : Int) := by omega
            have HF : Hid (z = (zeroRcd, 3)) := Lib.hid (by rw [← HZ.out, HD.out, if_pos (.inl hlen)])
            have HB2 := HB
            clear hlen
            go_wp2_with (go_at_call 121; refine (hasEvent_calls _ _).mono ?_; rintro e w' ⟨rfl, rfl⟩; first | rw [he] | skip)
            refine leaves_cons (f := 129) (args := #[.pointer (some ⟨w.heap.size, 0, none⟩), .pointer (some ⟨w.heap.size + 1, 0, none⟩)]) (by simp) (by simp [go_sem]) ?_
            refine (caught_calls w.heap.size (w.heap.size + 1) 3 0 _ _ (by omega) DR (by rfl) DE).mono ?_
            rintro e u' w9 ⟨rfl, rfl, hb9, hR9, hE9⟩
            unfold zeroRow at hR9
            obtain ⟨g0, g1, g2, g3, g4, g5, g6, g7, g8, g9, gf⟩ := hR9.cells10
            have g10 : w9.cell? ⟨w.heap.size + 1, 0, none⟩ = some (.int .i64 3) := hE9.cell rfl
            simp [Leaves, settle, results, Try.results50, go_sem, g0, g1, g2, g3, g4, g5, g6, g7, g8, g9, g10]
            rw [HF.out]
            exact ⟨rfl, HB2.out.trans (hb9 w.heap.size (Nat.le_refl _) (by omega))⟩
        · have E04 := Lib.hid e04
          clear e04
          go_wp2_with (go_at_call 121; refine (hasEvent_calls _ _).mono ?_; rintro e w' ⟨rfl, rfl⟩; rw [he])
          have HV5 : Hid (4 < 4 + 1 → hasEv (tk b 0).1 = true) := Lib.hid (fun _ => by rw [← E04.out]; exact he)
          have HM : Hid (4 < manyOf b) := Lib.hid (by unfold manyOf; rw [if_pos (by rw [← E04.out]; exact he)]; omega)
          clear he
          refine (take_calls A2 (b.length - 4 * 4) c2 (b.drop (4 * 4)) _ HR.out hc2 hcm2).mono ?_
          rintro e w2 ⟨⟨q, rfl⟩, hk2⟩
          rcases hk2 with ⟨hk0, A3, c3, rfl, hc3, hcm3, h43, hr3⟩ | ⟨hk0, rfl⟩
          · have DR := HBR.out.drewN q
            have DE := Lib.hid (HBE.out.drewN q)
            have HB2 := Lib.hid (bdrewN HB.out q)
            have HR3 := Lib.hid (hr3.drewN q)
            have HA2 : Hid (∀ j, j < 4 + 1 → (tk b j).2 = 0) := Lib.hid (fun j hj => by
              by_cases e : j = 4
              · rw [e]; exact hk0
              · exact HA.out j (by omega))
            have HS := Lib.hid (rowArr_step b 4 hlt)
            have ck := DR.cell (rowArr_get b 4 4 hlt)
            have fk := DR.free 4
            have HDR := Lib.hid DR
            clear hk0 hr3 DR r0
            simp only
            go_wp2_with fail
            go_roundw
            case rel =>
              refine ⟨4 + 1, by omega, by go_num, A3, c3, by rw [show b.length - 4 * 4 - 4 = b.length - 4 * (4 + 1) by omega], by omega, hcm3, by omega, ?_, HA2.out, (by first | exact HV5.out | exact fun _ => trivial), ?_, ?_, ?_⟩
              · have := HR3.out.setCell (p := ⟨w.heap.size, 4, none⟩) (Nat.le_refl _) (.int .i64 (takeM (b.drop (4 * 4))).1)
                rw [List.drop_drop, show 4 * 4 + 4 = 4 * (4 + 1) by omega, show b.length - 4 * 4 - 4 = b.length - 4 * (4 + 1) by omega] at this
                exact this
              · exact (HDR.out.set_ 4 _).cast HS.out
              · exact DE.out.other _ (by simp) _
              · exact HB2.out.setCell (by simp) _
            case measure => first | (simp [intOf]; done) | (simp [intOf]; omega)
          · have e1 := errTo_at HA.out (show (tk b 4).2 ≠ 0 from hk0) (manyOf b) HM.out
            have e2 : decM b = (zeroRcd, (tk b 4).2) := by
              unfold decM
              rw [e1, if_pos (show (tk b 4).2 ≠ 0 from hk0)]
            have HF := Lib.hid (HZ.out.symm.trans e2)
            have DR := HBR.out.drewN q
            have DE := HBE.out.drewN q
            have HB2 := Lib.hid (bdrewN HB.out q)
            clear e1 e2 hk0
            simp only
            go_wp2_with fail
            refine leaves_cons (f := 129) (args := #[.pointer (some ⟨w.heap.size, 0, none⟩), .pointer (some ⟨w.heap.size + 1, 0, none⟩)]) (by simp) (by simp [go_sem]) ?_
            refine (caught_calls w.heap.size (w.heap.size + 1) (tk b 4).2 0 _ _ (by omega) DR (by rfl) DE).mono ?_
            rintro e u' w9 ⟨rfl, rfl, hb9, hR9, hE9⟩
            unfold zeroRow at hR9
            obtain ⟨g0, g1, g2, g3, g4, g5, g6, g7, g8, g9, gf⟩ := hR9.cells10
            have g10 : w9.cell? ⟨w.heap.size + 1, 0, none⟩ = some (.int .i64 (tk b 4).2) := hE9.cell rfl
            simp [Leaves, settle, results, Try.results50, go_sem, g0, g1, g2, g3, g4, g5, g6, g7, g8, g9, g10]
            rw [HF.out]
            exact ⟨rfl, HB2.out.trans (hb9 w.heap.size (Nat.le_refl _) (by omega))⟩
      · have t1 : ((k : Int) == 4) = false := by rw [beq_eq_false_iff_ne]; omega
        have t2 : (k == 4) = false := by rw [beq_eq_false_iff_ne]; omega
        have HV5 : Hid (4 < k + 1 → hasEv (tk b 0).1 = true) := Lib.hid (fun h => HV.out (by omega))
        have HM : Hid (k < manyOf b) := Lib.hid (by
          unfold manyOf
          by_cases h5 : 4 < k
          · rw [if_pos (HV.out h5)]; omega
          · split <;> omega)
        clear h4
        go_wp2_with fail
        refine (take_calls A2 (b.length - 4 * k) c2 (b.drop (4 * k)) _ HR.out hc2 hcm2).mono ?_
        rintro e w2 ⟨⟨q, rfl⟩, hk2⟩
        rcases hk2 with ⟨hk0, A3, c3, rfl, hc3, hcm3, h43, hr3⟩ | ⟨hk0, rfl⟩
        · have DR := HBR.out.drewN q
          have DE := Lib.hid (HBE.out.drewN q)
          have HB2 := Lib.hid (bdrewN HB.out q)
          have HR3 := Lib.hid (hr3.drewN q)
          have HA2 : Hid (∀ j, j < k + 1 → (tk b j).2 = 0) := Lib.hid (fun j hj => by
            by_cases e : j = k
            · rw [e]; exact hk0
            · exact HA.out j (by omega))
          have HS := Lib.hid (rowArr_step b k hlt)
          have ck := DR.cell (rowArr_get b k k hlt)
          have fk := DR.free k
          have HDR := Lib.hid DR
          clear hk0 hr3 DR r0
          simp only
          go_wp2_with fail
          go_roundw
          case rel =>
            refine ⟨k + 1, by omega, by go_num, A3, c3, by rw [show b.length - 4 * k - 4 = b.length - 4 * (k + 1) by omega], by omega, hcm3, by omega, ?_, HA2.out, (by first | exact HV5.out | exact fun _ => trivial), ?_, ?_, ?_⟩
            · have := HR3.out.setCell (p := ⟨w.heap.size, k, none⟩) (Nat.le_refl _) (.int .i64 (takeM (b.drop (4 * k))).1)
              rw [List.drop_drop, show 4 * k + 4 = 4 * (k + 1) by omega, show b.length - 4 * k - 4 = b.length - 4 * (k + 1) by omega] at this
              exact this
            · exact (HDR.out.set_ k _).cast HS.out
            · exact DE.out.other _ (by simp) _
            · exact HB2.out.setCell (by simp) _
          case measure => first | (simp [intOf]; done) | (simp [intOf]; omega)
        · have e1 := errTo_at HA.out (show (tk b k).2 ≠ 0 from hk0) (manyOf b) HM.out
          have e2 : decM b = (zeroRcd, (tk b k).2) := by
            unfold decM
            rw [e1, if_pos (show (tk b k).2 ≠ 0 from hk0)]
          have HF := Lib.hid (HZ.out.symm.trans e2)
          have DR := HBR.out.drewN q
          have DE := HBE.out.drewN q
          have HB2 := Lib.hid (bdrewN HB.out q)
          clear e1 e2 hk0
          simp only
          go_wp2_with fail
          refine leaves_cons (f := 129) (args := #[.pointer (some ⟨w.heap.size, 0, none⟩), .pointer (some ⟨w.heap.size + 1, 0, none⟩)]) (by simp) (by simp [go_sem]) ?_
          refine (caught_calls w.heap.size (w.heap.size + 1) (tk b k).2 0 _ _ (by omega) DR (by rfl) DE).mono ?_
          rintro e u' w9 ⟨rfl, rfl, hb9, hR9, hE9⟩
          unfold zeroRow at hR9
          obtain ⟨g0, g1, g2, g3, g4, g5, g6, g7, g8, g9, gf⟩ := hR9.cells10
          have g10 : w9.cell? ⟨w.heap.size + 1, 0, none⟩ = some (.int .i64 (tk b k).2) := hE9.cell rfl
          simp [Leaves, settle, results, Try.results50, go_sem, g0, g1, g2, g3, g4, g5, g6, g7, g8, g9, g10]
          rw [HF.out]
          exact ⟨rfl, HB2.out.trans (hb9 w.heap.size (Nat.le_refl _) (by omega))⟩
    · obtain rfl : k = 10 := by omega
      have hmany : manyOf b = 10 := by unfold manyOf; rw [if_pos (HV.out (by omega))]
      clear hlt hk
      have hez : errTo b (manyOf b) = 0 := by rw [hmany]; exact errTo_zero HA.out
      have HREC := Lib.hid (fun w => Record_calls (rcdTo b 10) w)
      have HD : Hid (decM b = if b.length ≠ 4 * 10 ∨ recFault (rcdTo b 10) ≠ 0 then (zeroRcd, 3) else (rcdTo b 10, 0)) := Lib.hid (by unfold decM; rw [hez, if_neg (by simp), hmany])
      clear hez hmany
      have DR := HBR.out
      have DE := HBE.out
      by_cases hlen : b.length = 4 * 10
      · have e0 : b.length - 4 * 10 = 0 := by omega
        rw [e0]
        clear e0
        have HD2 : Hid (z = if recFault (rcdTo b 10) ≠ 0 then (zeroRcd, 3) else (rcdTo b 10, 0)) := Lib.hid (by
          rw [← HZ.out, HD.out]
          by_cases hf : recFault (rcdTo b 10) ≠ 0
          · rw [if_pos (.inr hf), if_pos hf]
          · rw [if_neg (fun h => h.elim (fun h => h hlen) hf), if_neg hf])
        generalize recFault (rcdTo b 10) = f at HREC HD2
        unfold rcdTo Rcd.val at HREC
        simp only at HREC
        unfold rowArr at DR
        obtain ⟨y0, y1, y2, y3, y4, y5, y6, y7, y8, y9, yf⟩ := DR.cells10
        clear hlen HD
        go_wp2_with (go_at_call 121; refine (hasEvent_calls _ _).mono ?_; rintro e w' ⟨rfl, rfl⟩; first | rw [he] | skip)
        refine (HREC.out _).mono ?_
        rintro e w3 ⟨rfl, hb3⟩
        have DR := DR.on hb3
        have DE := DE.on hb3
        have HB2 := Lib.hid (HB.out.trans (hb3.mono HB.out.size))
        have hz3 : w.heap.size + 1 < w3.heap.size := DE.lt
        clear hb3 y0 y1 y2 y3 y4 y5 y6 y7 y8 y9 yf
        by_cases hf : f = 0
        · have HF := Lib.hid (HD2.out.trans (if_neg (by simpa using hf)))
          subst hf
          clear HD2
          obtain ⟨y0, y1, y2, y3, y4, y5, y6, y7, y8, y9, yf⟩ := DR.cells10
          have x0 := DE.cell (k := 0) rfl
          have xf := DE.free
          go_wp2_with (refine wpList_store_row rfl _ (.tmp 2) (.tmp 56) rfl w.heap.size rfl _ rfl _ _ DR rcd_inf rfl rfl ?_; intro w9 hB9 hU9; have DE9 := hU9.blk DE (by omega); have x0 := DE9.cell (k := 0) rfl; have xf := DE9.free)
          obtain ⟨g0, g1, g2, g3, g4, g5, g6, g7, g8, g9, gf⟩ := (hB9.other ⟨w.heap.size + 1, 0, none⟩ (by simp) (.int .i64 0)).cells10
          have g10 := (DE9.set_ 0 (.int .i64 0)).cell (k := 0) rfl
          have HB9 := hU9.next HB2.out (Nat.le_refl _)
          refine leaves_cons (f := 129) (args := #[.pointer (some ⟨w.heap.size, 0, none⟩), .pointer (some ⟨w.heap.size + 1, 0, none⟩)]) (by simp) (by simp [go_sem]) ?_
          refine (idle_calls w.heap.size (w.heap.size + 1) _).mono ?_
          rintro e u' wf ⟨rfl, rfl, rfl⟩
          simp [Leaves, settle, results, Try.results50, go_sem, g0, g1, g2, g3, g4, g5, g6, g7, g8, g9, g10]
          rw [HF.out]
          exact ⟨rfl, HB9.setCell (by simp) _⟩
        · have HF := Lib.hid (HD2.out.trans (if_pos hf))
          have u1 : (f == 0) = false := by simpa using hf
          have u2 : (f != 0) = true := by simpa using hf
          clear hf HD2
          go_wp2_with fail
          refine leaves_cons (f := 129) (args := #[.pointer (some ⟨w.heap.size, 0, none⟩), .pointer (some ⟨w.heap.size + 1, 0, none⟩)]) (by simp) (by simp [go_sem]) ?_
          refine (caught_calls w.heap.size (w.heap.size + 1) 3 0 _ _ (by omega) DR (by rfl) DE).mono ?_
          rintro e u' w9 ⟨rfl, rfl, hb9, hR9, hE9⟩
          unfold zeroRow at hR9
          obtain ⟨g0, g1, g2, g3, g4, g5, g6, g7, g8, g9, gf⟩ := hR9.cells10
          have g10 : w9.cell? ⟨w.heap.size + 1, 0, none⟩ = some (.int .i64 3) := hE9.cell rfl
          simp [Leaves, settle, results, Try.results50, go_sem, g0, g1, g2, g3, g4, g5, g6, g7, g8, g9, g10]
          rw [HF.out]
          exact ⟨rfl, HB2.out.trans (hb9 w.heap.size (Nat.le_refl _) (by omega))⟩
      · have hd1 : 0 < b.length - 4 * 10 := by omega
        have hd2 : (0 : Int) < ((b.length - 4 * 10 : Nat) : Int) := by omega
        have HF : Hid (z = (zeroRcd, 3)) := Lib.hid (by rw [← HZ.out, HD.out, if_pos (.inl hlen)])
        have HB2 := HB
        clear hlen
        go_wp2_with (go_at_call 121; refine (hasEvent_calls _ _).mono ?_; rintro e w' ⟨rfl, rfl⟩; first | rw [he] | skip)
        refine leaves_cons (f := 129) (args := #[.pointer (some ⟨w.heap.size, 0, none⟩), .pointer (some ⟨w.heap.size + 1, 0, none⟩)]) (by simp) (by simp [go_sem]) ?_
        refine (caught_calls w.heap.size (w.heap.size + 1) 3 0 _ _ (by omega) DR (by rfl) DE).mono ?_
        rintro e u' w9 ⟨rfl, rfl, hb9, hR9, hE9⟩
        unfold zeroRow at hR9
        obtain ⟨g0, g1, g2, g3, g4, g5, g6, g7, g8, g9, gf⟩ := hR9.cells10
        have g10 : w9.cell? ⟨w.heap.size + 1, 0, none⟩ = some (.int .i64 3) := hE9.cell rfl
        simp [Leaves, settle, results, Try.results50, go_sem, g0, g1, g2, g3, g4, g5, g6, g7, g8, g9, g10]
        rw [HF.out]
        exact ⟨rfl, HB2.out.trans (hb9 w.heap.size (Nat.le_refl _) (by omega))⟩
end Go.Proofs.Ytkjlafpafmihaaa
