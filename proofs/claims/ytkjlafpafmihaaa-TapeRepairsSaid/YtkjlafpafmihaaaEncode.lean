/- Contracts: pack.Encode, ref.recordNumbers, ref.RecordBytes. -/
import Derived.Test.YtkjlafpafmihaaaEnc
namespace Go.Proofs.Ytkjlafpafmihaaa
open Go.ChangeShapes Go.WideShapes Go.RowKit

/-- P1.5: a record's numbers. -/
def recNums (r : Rcd) : List Int := [r.kind, r.queue, r.epoch, r.peer] ++ if hasEv r.kind = true then [r.ev.kind, r.ev.producer, r.ev.id, r.ev.body, r.ev.hepoch, r.ev.hno] else []
def encM (r : Rcd) : List UInt8 × Int := if recFault r ≠ 0 then ([], recFault r) else (putM (recNums r), 0)
theorem four_ints (w : World) (a b c d : Int) (t : TypeId) : Rd (w.alloc (.cells #[.int .i64 a, .int .i64 b, .int .i64 c, .int .i64 d] t)) (w.heap.size + 1) 1 (some ⟨w.heap.size, 0, none⟩) 4 (intCells [a, b, c, d]) :=
  Rd.new_ w t (intCells [a, b, c, d]) 4 1 rfl
theorem six_ints (w : World) (a b c d e f : Int) (t : TypeId) : Rd (w.alloc (.cells #[.int .i64 a, .int .i64 b, .int .i64 c, .int .i64 d, .int .i64 e, .int .i64 f] t)) (w.heap.size + 1) 1 (some ⟨w.heap.size, 0, none⟩) 6 (intCells [a, b, c, d, e, f]) :=
  Rd.new_ w t (intCells [a, b, c, d, e, f]) 6 1 rfl

set_option maxRecDepth 100000 in
set_option maxHeartbeats 2000000 in
theorem Encode_calls (r : Rcd) (w : World) : Calls Try.prog 40 #[r.val] w (BytesPost w (encM r)) := by
  obtain ⟨j0, hj0, zj0, zj1, zj2⟩ := info_parts u8_info
  have HC := Lib.hid (fun w => Record_calls r w)
  have HR : Hid (encM r = if recFault r ≠ 0 then ([], recFault r) else (putM ([r.kind, r.queue, r.epoch, r.peer] ++ if hasEv r.kind = true then [r.ev.kind, r.ev.producer, r.ev.id, r.ev.body, r.ev.hepoch, r.ev.hno] else []), 0)) := Lib.hid rfl
  generalize encM r = z at HR ⊢
  generalize recFault r = f at HC HR
  obtain ⟨k, q, ep, pe, x0, x1, x2, x3, x4, x5⟩ := r
  unfold Rcd.val at HC ⊢
  simp only at HC HR ⊢
  go_enter Try.func40, Try.ntmps40
  go_wp2_with fail
  refine (HC.out _).mono ?_
  rintro e w1 ⟨rfl, hb1⟩
  have B0 := (Blk.new w _ _).below hb1 (by simp)
  obtain ⟨c0, c1, c2, c3, c4, c5, c6, c7, c8, c9, cf⟩ := B0.cells10
  have hz1 : w.heap.size < w1.heap.size := B0.lt
  have HB : Hid (Below w.heap.size w w1) := Lib.hid (Below.trans (by go_grown) (hb1.mono (by simp)))
  clear hb1
  by_cases hf : f = 0
  · have HR2 := Lib.hid (HR.out.trans (if_neg (by simpa using hf)))
    subst hf
    clear HR HC
    go_wp2_with fail
    refine (put_calls _ 4 4 [k, q, ep, pe] _ (by have := four_ints w1 k q ep pe 3; simpa using this) (by omega)).mono ?_
    rintro e w2 ⟨A1, d1, rfl, hb2, hown⟩
    have C0 := (B0.alloc _).on hb2
    have HB2 := Lib.hid ((HB.out.alloc (by omega) _).trans (hb2.mono (by simp; omega)))
    have HO : Hid (w2.ownsRow (w1.heap.size + 1) 5 1 (.slice A1 (putM [k, q, ep, pe]).length d1) (putM [k, q, ep, pe]).length (byteCells (putM [k, q, ep, pe]))) := Lib.hid (by simpa using hown)
    have hz2 : w1.heap.size + 1 ≤ w2.heap.size := by have := hb2.size; simpa using this
    have hz20 : w.heap.size < w2.heap.size := by omega
    have hl1 := putM_len [k, q, ep, pe]
    clear hb2 hown c0 c1 c2 c3 c4 c5 c6 c7 c8 c9 cf B0 HB
    obtain ⟨c0, c1, c2, c3, c4, c5, c6, c7, c8, c9, cf⟩ := C0.cells10
    cases he : hasEv k
    · have e := HR2.out
      rw [if_neg (by rw [he]; simp), List.append_nil] at e
      subst e
      clear HR2
      go_wp2_with (go_at_call 121; refine (hasEvent_calls _ _).mono ?_; rintro e w' ⟨rfl, rfl⟩; rw [he])
      go_ret2
      exact ⟨A1, d1, rfl, HB2.out, Rd.of_own HO.out⟩
    · have e := HR2.out
      rw [if_pos he, putM_append] at e
      subst e
      clear HR2
      have hl2 := putM_len [x0, x1, x2, x3, x4, x5]
      have HP := Lib.hid (fun A c w h => put_calls A 6 c [x0, x1, x2, x3, x4, x5] w h (by omega))
      simp only [List.length_cons, List.length_nil] at hl1 hl2
      go_wp2_with (go_at_call 121; refine (hasEvent_calls _ _).mono ?_; rintro e w' ⟨rfl, rfl⟩; rw [he])
      refine (HP.out _ _ _ (by have := six_ints (w2.alloc (.cells #[.int .i64 x0, .int .i64 x1, .int .i64 x2, .int .i64 x3, .int .i64 x4, .int .i64 x5] 37)) x0 x1 x2 x3 x4 x5 3; simpa using this)).mono ?_
      rintro e w3 ⟨A2, d2, rfl, hb3, hown2⟩
      have HB3 := Lib.hid (((HB2.out.alloc (by omega) _).alloc (by simp; omega) _).trans (hb3.mono (by simp; omega)))
      have HO2 := Lib.hid (own_on ((HO.out.alloc _).alloc _) hb3)
      have HR3 := Lib.hid (Rd.of_own hown2)
      have hz3 : w2.heap.size ≤ w3.heap.size := by have := hb3.size; simp at this; omega
      clear hb3 hown2 HO HB2
      go_wp2_with (at_builtin; refine wpList_append_any _ rfl (.tmp 27) (.tmp 43) _ rfl (w1.heap.size + 1) 5 j0 _ 1 1 Try.underlying52 hj0 zj0 zj1 zj2 rfl (by omega) _ (putM [k, q, ep, pe]).length (byteCells (putM [k, q, ep, pe])) rfl HO2.out w3.heap.size A2 (putM [x0, x1, x2, x3, x4, x5]).length d2 (byteCells (putM [x0, x1, x2, x3, x4, x5])) rfl HR3.out (byteCells_one _) (by simp only [maxLen]; omega) (by omega) (by omega) ?_; intro v1 w4 hown1 hg1 hat1; obtain ⟨A4, d4, rfl, _⟩ := own_form hown1; rw [← byteCells_append] at hown1)
      have HB4 := Lib.hid (HB3.out.grown hg1 HB3.out.size (fun k hk => by have := HO2.out.own_lt k hk; omega))
      go_ret2
      exact ⟨A4, d4, by simp, HB4.out, by have := Rd.of_own hown1; simpa using this⟩
  · have e := HR.out.trans (if_pos hf)
    subst e
    have t0 : (f == 0) = false := by simpa using hf
    have t0' : (f != 0) = true := by simpa using hf
    clear hf
    go_wp2_with fail
    go_ret2
    exact ⟨none, 0, rfl, HB.out, Rd.none_⟩

/-- Numbers in memory of the call's own. -/
def NumsPost (w : World) (l : List Int) (e : Ending) (w' : World) : Prop := ∃ A c, e = .returned (.slice A l.length c) ∧ Below w.heap.size w w' ∧ Rd w' w'.heap.size 1 A l.length (intCells l)
set_option maxRecDepth 100000 in
set_option maxHeartbeats 2000000 in
theorem recordNumbers_calls (r : Rcd) (w : World) : Calls Try.prog 123 #[r.val] w (NumsPost w (recNums r)) := by
  obtain ⟨j0, hj0, zj0, zj1, zj2⟩ := info_parts i64_info
  have HR : Hid (recNums r = [r.kind, r.queue, r.epoch, r.peer] ++ if hasEv r.kind = true then [r.ev.kind, r.ev.producer, r.ev.id, r.ev.body, r.ev.hepoch, r.ev.hno] else []) := Lib.hid rfl
  generalize recNums r = z at HR ⊢
  obtain ⟨k, q, ep, pe, x0, x1, x2, x3, x4, x5⟩ := r
  unfold Rcd.val
  simp only at HR ⊢
  cases he : hasEv k
  · have e := HR.out
    rw [if_neg (by rw [he]; simp), List.append_nil] at e
    subst e
    unfold hasEv at he
    simp only [Bool.or_eq_false_iff] at he
    obtain ⟨t1, t2⟩ := he
    clear HR
    go_enter Try.func123, Try.ntmps123
    go_wp2_with fail
    go_ret
    exact ⟨some ⟨w.heap.size + 1, 0, none⟩, 4, by simp, by go_grown, by have := four_ints (w.alloc (.cells #[.int .i64 k, .int .i64 q, .int .i64 ep, .int .i64 pe, .int .i64 x0, .int .i64 x1, .int .i64 x2, .int .i64 x3, .int .i64 x4, .int .i64 x5] 51)) k q ep pe 3; simpa using this⟩
  · have e := HR.out
    rw [if_pos he] at e
    subst e
    clear HR
    have hk : ((k == 2) = true ∧ (k == 5) = false) ∨ ((k == 2) = false ∧ (k == 5) = true) := by
      unfold hasEv at he
      by_cases h2 : k = 2
      · left; subst h2; simp
      · right
        have : (k == 2) = false := by simpa using h2
        rw [this] at he
        exact ⟨this, by simpa using he⟩
    clear he
    rcases hk with ⟨t1, t2⟩ | ⟨t1, t2⟩
    all_goals
      go_enter Try.func123, Try.ntmps123
      have HO : Hid (∀ W : World, (W.alloc (.cells #[.int .i64 k, .int .i64 q, .int .i64 ep, .int .i64 pe] 3)).ownsRow W.heap.size 3 1 (.slice (some ⟨W.heap.size, 0, none⟩) 4 4) 4 (intCells [k, q, ep, pe])) := Lib.hid (fun W => own_new W _ 3 4 1 rfl (by simp [maxLen]))
      go_wp2_with (at_builtin; refine stop_ ?_)
      refine Lib.hid ?_
      refine wpList_append_any _ rfl (.tmp 24) (.tmp 39) _ rfl (w.heap.size + 1) 3 j0 _ 1 8 Try.underlying143 hj0 zj0 zj1 zj2 rfl (by omega) (.slice (some ⟨w.heap.size + 1, 0, none⟩) 4 4) 4 (intCells [k, q, ep, pe]) rfl (by have := ((HO.out (w.alloc (.cells #[.int .i64 k, .int .i64 q, .int .i64 ep, .int .i64 pe, .int .i64 x0, .int .i64 x1, .int .i64 x2, .int .i64 x3, .int .i64 x4, .int .i64 x5] 51))).alloc (.cells #[.int .i64 x0, .int .i64 x1, .int .i64 x2, .int .i64 x3, .int .i64 x4, .int .i64 x5] 37)).alloc (.cells #[.int .i64 x0, .int .i64 x1, .int .i64 x2, .int .i64 x3, .int .i64 x4, .int .i64 x5] 3); simpa using this) (w.heap.size + 4) (some ⟨w.heap.size + 1 + 1 + 1, 0, none⟩) 6 6 (intCells [x0, x1, x2, x3, x4, x5]) rfl (by have := six_ints (((w.alloc (.cells #[.int .i64 k, .int .i64 q, .int .i64 ep, .int .i64 pe, .int .i64 x0, .int .i64 x1, .int .i64 x2, .int .i64 x3, .int .i64 x4, .int .i64 x5] 51)).alloc (.cells #[.int .i64 k, .int .i64 q, .int .i64 ep, .int .i64 pe] 3)).alloc (.cells #[.int .i64 x0, .int .i64 x1, .int .i64 x2, .int .i64 x3, .int .i64 x4, .int .i64 x5] 37)) x0 x1 x2 x3 x4 x5 3; simpa using this) (intCells_one _) (by simp [maxLen]) (by omega) (by simp <;> omega) ?_
      intro v1 w4 hown1 hg1 hat1
      obtain ⟨A4, d4, rfl, _⟩ := own_form hown1
      rw [← intCells_append] at hown1
      have hB : Below w.heap.size w w4 := Below.grown (by go_grown) hg1 (by simp; omega) (fun k hk => by simp [Value.ownBlock] at hk; omega)
      have hF := Rd.of_own hown1
      clear hown1 hg1 hat1 HO
      go_wp2_with fail
      go_ret
      exact ⟨A4, d4, by simp, hB, by simpa using hF⟩

set_option maxRecDepth 100000 in
set_option maxHeartbeats 2000000 in
theorem RecordBytes_calls (r : Rcd) (w : World) : Calls Try.prog 41 #[r.val] w (BytesPost w (encM r)) := by
  obtain ⟨j0, hj0, zj0, zj1, zj2⟩ := info_parts u8_info
  have HC := Lib.hid (fun w => RecordFault_calls r w)
  have HQ := Lib.hid (fun w => recordNumbers_calls r w)
  have HR : Hid (encM r = if recFault r ≠ 0 then ([], recFault r) else (putM (recNums r), 0)) := Lib.hid rfl
  have hn10 : (recNums r).length ≤ 10 := by unfold recNums; split <;> simp
  generalize encM r = z at HR ⊢
  generalize recNums r = l at HQ HR hn10
  generalize recFault r = f at HC HR
  obtain ⟨k, q, ep, pe, x0, x1, x2, x3, x4, x5⟩ := r
  unfold Rcd.val at HC HQ ⊢
  simp only at HC HR HQ ⊢
  go_enter Try.func41, Try.ntmps41
  go_wp2_with fail
  refine (HC.out _).mono ?_
  rintro e w1 ⟨rfl, hb1⟩
  have B0 := (Blk.new w _ _).below hb1 (by simp)
  obtain ⟨c0, c1, c2, c3, c4, c5, c6, c7, c8, c9, cf⟩ := B0.cells10
  have hz1 : w.heap.size < w1.heap.size := B0.lt
  have HB : Hid (Below w.heap.size w w1) := Lib.hid (Below.trans (by go_grown) (hb1.mono (by simp)))
  clear hb1
  by_cases hf : f = 0
  · have e := HR.out.trans (if_neg (by simpa using hf))
    subst e
    subst hf
    clear HR HC
    go_wp2_with fail
    refine (HQ.out _).mono ?_
    rintro e w2 ⟨A1, d1, rfl, hb2, hr2⟩
    have HB2 := Lib.hid (HB.out.trans (hb2.mono HB.out.size))
    have H := Lib.hid hr2
    clear hb2 hr2 c0 c1 c2 c3 c4 c5 c6 c7 c8 c9 cf B0 HB
    have hz2 : w.heap.size ≤ w2.heap.size := HB2.out.size
    go_wp2_with fail
    go_loopw [6, 7] (fun v i wr => ∃ k : Nat, k ≤ l.length ∧ i = .int .i64 k ∧ Below w2.heap.size w2 wr ∧ ∃ A2 c2, v = .slice A2 (putM (l.take k)).length c2 ∧ wr.ownsRow w2.heap.size 5 1 (.slice A2 (putM (l.take k)).length c2) (putM (l.take k)).length (byteCells (putM (l.take k)))) (fun _ i _ => l.length - (intOf i).toNat)
    case atStart => exact ⟨0, Nat.zero_le _, rfl, Below.refl _ _, none, 0, rfl, ownsRow_nil_ _ _ _ _⟩
    case round =>
      obtain ⟨k, hk, rfl, hB, A2, c2, rfl, hown⟩ := hrel
      have HBr := Lib.hid hB
      have HO := Lib.hid hown
      have hle := putM_len (l.take k)
      have hlk : (l.take k).length ≤ k := List.length_take_le _ _
      by_cases hlt : k < l.length
      · obtain ⟨b, off, x, rfl, hb, he, c0⟩ := (H.out.below hB (Nat.le_refl _)).int_at hlt
        have HP := Lib.hid (putM_take he)
        have hl4 := numberM_len x
        have HN := Lib.hid (Four_calls x)
        clear hB hown he
        generalize putM (l.take k) = lk at HO HP hle
        generalize numberM x = r at HP HN hl4
        go_wp2_with fail
        refine (HN.out _).mono ?_
        rintro e w3 ⟨A3, c3, rfl, hb3, hr3⟩
        have HB3 := Lib.hid (HBr.out.trans (hb3.mono HBr.out.size))
        have HO3 : Hid (w3.ownsRow w2.heap.size 5 1 (.slice A2 lk.length c2) lk.length (byteCells lk)) := Lib.hid (own_on HO.out hb3)
        have HR3 := Lib.hid hr3
        clear hb3 hr3
        go_wp2_with (at_builtin; refine wpList_append_any _ rfl (.tmp 31) (.tmp 32) _ rfl w2.heap.size 5 j0 _ 1 1 Try.underlying52 hj0 zj0 zj1 zj2 rfl (by omega) _ lk.length (byteCells lk) rfl HO3.out w3.heap.size A3 r.1.length c3 (byteCells r.1) rfl HR3.out (byteCells_one _) (by simp only [maxLen]; omega) (by omega) HB3.out.size ?_; intro v1 w4 hown1 hg1 hat1)
        have HB4 := Lib.hid (HB3.out.grown hg1 HB3.out.size (HO3.out.own_lt ·))
        obtain ⟨A4, c4, rfl, _⟩ := own_form hown1
        rw [← byteCells_append] at hown1
        have HO4 := Lib.hid hown1
        clear hown1 hg1 hat1
        go_wp2_with fail
        go_roundw
        case rel => exact ⟨k + 1, by omega, by go_num, HB4.out, A4, c4, by rw [HP.out, List.length_append], by rw [HP.out, List.length_append]; exact HO4.out⟩
        case measure => simp [intOf]; omega
      · obtain rfl : k = l.length := by omega
        rw [List.take_length] at HO hown hle ⊢
        clear hB hown
        go_wp2_with fail
        go_ret2
        exact ⟨A2, c2, rfl, HB2.out.trans (HBr.out.mono HB2.out.size), Rd.of_own HO.out⟩
  · have e := HR.out.trans (if_pos hf)
    subst e
    have t0 : (f == 0) = false := by simpa using hf
    have t0' : (f != 0) = true := by simpa using hf
    clear hf
    go_wp2_with fail
    go_ret2
    exact ⟨none, 0, rfl, HB.out, Rd.none_⟩
end Go.Proofs.Ytkjlafpafmihaaa
