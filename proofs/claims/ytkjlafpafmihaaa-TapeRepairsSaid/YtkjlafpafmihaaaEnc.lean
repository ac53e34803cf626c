/- Contracts: pack.put, pack.Encode, ref.recordNumbers, ref.RecordBytes. -/
import Derived.Test.YtkjlafpafmihaaaRcd
import Derived.Test.YtkjlafpafmihaaaTake
import Derived.Test.YtkjlafpafmihaaaNum
import Derived.Test.YtkjlafpafmihaaaStore
import Derived.Test.YtkjlafpafmihaaaWinRef
namespace Go.Proofs.Ytkjlafpafmihaaa
open Go.ChangeShapes Go.WideShapes Go.RowKit

/-- Numbers, four bytes each (none where a number is out of range). -/
def putM (l : List Int) : List UInt8 := l.flatMap fun n => (numberM n).1
theorem numberM_len (n : Int) : (numberM n).1.length ≤ 4 := by
  unfold numberM
  split <;> simp [be4]
theorem putM_len (l : List Int) : (putM l).length ≤ 4 * l.length := by
  induction l with
  | nil => simp [putM]
  | cons n l ih =>
    have := numberM_len n
    simp only [putM, List.flatMap_cons, List.length_append, List.length_cons] at *
    omega
theorem putM_append (l k : List Int) : putM (l ++ k) = putM l ++ putM k := by simp [putM]
theorem putM_take {l : List Int} {k : Nat} {x : Int} (h : l[k]? = some x) : putM (l.take (k + 1)) = putM (l.take k) ++ (numberM x).1 := by
  have e : l.take (k + 1) = l.take k ++ [x] := by rw [List.take_add_one, h]; rfl
  rw [e, putM_append]
  simp [putM]

set_option maxRecDepth 100000 in
set_option maxHeartbeats 1000000 in
theorem put_calls (A : Option Addr) (n c : Nat) (l : List Int) (w : World) (h : Rd w w.heap.size 1 A n (intCells l)) (hn : n ≤ 1000) :
    Calls Try.prog 120 #[.slice A n c] w (OwnPost w 5 1 (putM l).length (byteCells (putM l))) := by
  obtain ⟨j0, hj0, zj0, zj1, zj2⟩ := info_parts u8_info
  have H := Lib.hid h
  have HL := Lib.hid h.int_len
  clear h
  go_enter Try.func120, Try.ntmps120
  go_wp2_with fail
  go_loopw [3, 10] (fun v i wr => ∃ k : Nat, k ≤ n ∧ i = .int .i64 k ∧ Below w.heap.size w wr ∧ ∃ A2 c2, v = .slice A2 (putM (l.take k)).length c2 ∧ wr.ownsRow w.heap.size 5 1 (.slice A2 (putM (l.take k)).length c2) (putM (l.take k)).length (byteCells (putM (l.take k)))) (fun _ i _ => n - (intOf i).toNat)
  case atStart => exact ⟨0, Nat.zero_le _, rfl, Below.refl _ _, none, 0, rfl, ownsRow_nil_ _ _ _ _⟩
  case round =>
    obtain ⟨k, hk, rfl, hB, A2, c2, rfl, hown⟩ := hrel
    have HB := Lib.hid hB
    have HO := Lib.hid hown
    have hle := putM_len (l.take k)
    have hlk : (l.take k).length ≤ k := List.length_take_le _ _
    by_cases hlt : k < n
    · obtain ⟨b, off, x, rfl, hb, he, c0⟩ := (H.out.below hB (Nat.le_refl _)).int_at hlt
      have HP := Lib.hid (putM_take he)
      have hl4 := numberM_len x
      have HN := Lib.hid (Number_calls x)
      clear hB hown he
      generalize putM (l.take k) = lk at HO HP hle
      generalize numberM x = r at HP HN hl4
      go_wp2_with fail
      refine (HN.out _).mono ?_
      rintro e w2 ⟨A3, c3, rfl, hb2, hr2⟩
      have HB2 := Lib.hid (HB.out.trans (hb2.mono HB.out.size))
      have HO2 : Hid (w2.ownsRow w.heap.size 5 1 (.slice A2 lk.length c2) lk.length (byteCells lk)) := Lib.hid (own_on HO.out hb2)
      have HR2 := Lib.hid hr2
      clear hb2 hr2
      go_wp2_with (at_builtin; refine wpList_append_any _ rfl (.tmp 19) (.tmp 20) _ rfl w.heap.size 5 j0 _ 1 1 Try.underlying52 hj0 zj0 zj1 zj2 rfl (by omega) _ lk.length (byteCells lk) rfl HO2.out w2.heap.size A3 r.1.length c3 (byteCells r.1) rfl HR2.out (byteCells_one _) (by simp only [maxLen]; omega) (by omega) HB2.out.size ?_; intro v1 w3 hown1 hg1 hat1)
      have HB3 := Lib.hid (HB2.out.grown hg1 HB2.out.size (HO2.out.own_lt ·))
      obtain ⟨A4, c4, rfl, _⟩ := own_form hown1
      rw [← byteCells_append] at hown1
      have HO3 := Lib.hid hown1
      clear hown1 hg1 hat1
      go_wp2_with fail
      go_roundw
      case rel => exact ⟨k + 1, by omega, by go_num, HB3.out, A4, c4, by rw [HP.out, List.length_append], by rw [HP.out, List.length_append]; exact HO3.out⟩
      case measure => simp [intOf]; omega
    · obtain rfl : k = n := by omega
      rw [List.take_of_length_le (by have := HL.out; omega)] at HO hown hle ⊢
      clear hB hown
      go_wp2_with fail
      go_ret
      exact ⟨A2, c2, rfl, HB.out, HO.out⟩
end Go.Proofs.Ytkjlafpafmihaaa
