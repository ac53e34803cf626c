/- Contracts: tape.Write, ref.Written. -/
import Derived.Test.YtkjlafpafmihaaaFrm
import Derived.Test.YtkjlafpafmihaaaEncode
import Derived.Test.YtkjlafpafmihaaaTapeB
namespace Go.Proofs.Ytkjlafpafmihaaa
open Go.ChangeShapes Go.WideShapes Go.RowKit

/-- P2.3. -/
def writeM (l : List UInt8) (s : Int) (r : Rcd) : List UInt8 × Int × Int :=
  if tapeMay l s = false then ([], 0, 6) else if (encM r).2 ≠ 0 then ([], 0, (encM r).2) else if 100000 < l.length + (frameM (encM r).1).length then ([], 0, 14) else (l ++ frameM (encM r).1, s, 0)
theorem encM_len (r : Rcd) : (encM r).1.length ≤ 40 := by
  unfold encM
  split
  · simp
  · have := putM_len (recNums r)
    have h : (recNums r).length ≤ 10 := by unfold recNums; split <;> simp
    simp only
    omega
theorem tape_inf : (Try.prog.info? 80).map (·.size) = some 2 := by kernel_rfl

set_option maxRecDepth 100000 in
set_option maxHeartbeats 4000000 in
theorem Write_calls (A : Option Addr) (n c : Nat) (l : List UInt8) (s : Int) (r : Rcd) (w : World) (h : Rd w w.heap.size 1 A n (byteCells l)) :
    Calls Try.prog 58 #[.agg #[.slice A n c, .int .i64 s], r.val] w (TapePost w (writeM l s r)) := by
  obtain ⟨j0, hj0, zj0, zj1, zj2⟩ := info_parts u8_info
  have HO0 := Lib.hid (fun w h => open_calls A n c l s w h)
  have HE0 := Lib.hid (fun w => Encode_calls r w)
  have hel := encM_len r
  have HR : Hid (writeM l s r = if tapeMay l s = false then ([], 0, 6) else if (encM r).2 ≠ 0 then ([], 0, (encM r).2) else if 100000 < l.length + (frameM (encM r).1).length then ([], 0, 14) else (l ++ frameM (encM r).1, s, 0)) := Lib.hid rfl
  have HOM := Lib.hid (openM_eq l s)
  have HM := Lib.hid (tapeMay_of (l := l) (s := s))
  have H := Lib.hid h
  have hl := h.bytes_len
  subst hl
  clear h
  generalize writeM l s r = z at HR ⊢
  generalize encM r = em at HE0 hel HR
  obtain ⟨pl, pe⟩ := em
  obtain ⟨k, q, ep, pr, x0, x1, x2, x3, x4, x5⟩ := r
  unfold Rcd.val at HE0 ⊢
  simp only at HE0 HR hel ⊢
  have HFr := Lib.hid (fun A n c w h hn => frame_calls A n c pl w h hn)
  have hfl := frameM_len pl
  generalize frameM pl = fr at HFr hfl HR
  have hfl6 : fr.length ≤ 46 := by omega
  clear hfl
  go_enter Try.func58, Try.ntmps58
  go_wp2_with fail
  refine (HO0.out _ (by exact H.out.on (by go_grown))).mono ?_
  rintro e w1 ⟨A1, c1, rfl, hb1, hown⟩
  have B1 := ((Blk.new1 w _ _ _).alloc _).below hb1 (by simp <;> omega)
  have B2 := (Blk.new2 w _ _ _ _).below hb1 (by simp)
  have hz1 : w.heap.size + 2 < w1.heap.size := B2.lt
  have hz10 : w.heap.size < w1.heap.size := by omega
  have hz11 : w.heap.size + 1 < w1.heap.size := by omega
  have HB : Hid (Below w.heap.size w w1) := Lib.hid (Below.trans (by go_grown) (hb1.mono (by simp; omega)))
  clear hb1
  rcases HOM.out with ⟨e1, e2⟩ | ⟨e1, e2⟩
  · rw [e1] at hown ⊢
    simp only at hown ⊢
    have HR2 := Lib.hid (HR.out.trans (if_neg (by rw [e2]; simp)))
    obtain ⟨m1, m2, m3⟩ := HM.out e2
    have M1 := Lib.hid m1
    have mi : (l.length : Int) ≤ 100000 := by omega
    clear m1
    have HO : Hid (w1.ownsRow (w.heap.size + 1 + 1 + 1) 5 1 (.slice A1 l.length c1) l.length (byteCells l)) := Lib.hid (by simpa using hown)
    have HA1 : Hid (∀ k, (Value.slice A1 l.length c1).ownBlock = some k → w.heap.size + 1 + 1 < k ∧ k < w1.heap.size) := Lib.hid (fun k hk => ⟨by have := HO.out.own_lt k hk; omega, own_size HO.out k hk⟩)
    clear e1 e2 hown HOM HM HR
    have B1 := B1.alloc (.cells #[.slice A1 l.length c1, .int .i64 s] 80)
    have B2 := B2.alloc (.cells #[.slice A1 l.length c1, .int .i64 s] 80)
    have B3 := Blk.new w1 #[.slice A1 l.length c1, .int .i64 s] 80
    have HB := Lib.hid (HB.out.alloc (by omega) (.cells #[.slice A1 l.length c1, .int .i64 s] 80))
    have HO := Lib.hid (HO.out.alloc (.cells #[.slice A1 l.length c1, .int .i64 s] 80))
    obtain ⟨c0, d1, d2, d3, d4, d5, d6, d7, d8, d9, cf⟩ := B1.cells10
    go_wp2_with fail
    have hz2 : w.heap.size + 2 < (w1.alloc (.cells #[.slice A1 l.length c1, .int .i64 s] 80)).heap.size := by simp; omega
    have hz3 : w1.heap.size < (w1.alloc (.cells #[.slice A1 l.length c1, .int .i64 s] 80)).heap.size := by simp
    clear c0 d1 d2 d3 d4 d5 d6 d7 d8 d9 cf
    generalize w1.alloc (.cells #[.slice A1 l.length c1, .int .i64 s] 80) = w2 at B1 B2 B3 HB HO hz2 hz3 ⊢
    refine (HE0.out _).mono ?_
    rintro e w3 ⟨A2, c2, rfl, hb3, hr3⟩
    simp only at hr3
    have B2 := B2.on hb3
    have B3 := B3.on hb3
    have HO := Lib.hid (own_on HO.out hb3)
    have HB := Lib.hid (HB.out.trans (hb3.mono HB.out.size))
    have hz4 : w2.heap.size ≤ w3.heap.size := hb3.size
    have HR3 := Lib.hid hr3
    clear hb3 hr3 HE0 B1
    simp only
    by_cases he : pe = 0
    · have HR3' := Lib.hid (HR2.out.trans (if_neg (by simpa using he)))
      subst he
      clear HR2
      go_wp2_with fail
      refine (HFr.out A2 pl.length c2 _ HR3.out (by omega)).mono ?_
      rintro e w4 ⟨A3, c3, rfl, hb4, hown4⟩
      have B2 := B2.on hb4
      have B3 := B3.on hb4
      have HO := Lib.hid (own_on HO.out hb4)
      have HB := Lib.hid (HB.out.trans (hb4.mono HB.out.size))
      have hz5 : w3.heap.size ≤ w4.heap.size := hb4.size
      have HR4 := Lib.hid (Rd.of_own hown4)
      obtain ⟨b0, b1, bf⟩ := B3.cells2
      clear hb4 hown4 HR3 HFr
      by_cases hbig : 100000 < l.length + fr.length
      · have e := HR3'.out.trans (if_pos hbig)
        subst e
        have hd1 : (100000 : Int) < (l.length : Int) + (fr.length : Int) := by omega
        clear HR3' hbig
        go_wp2_with (refine wpList_store_row rfl _ (.tmp 4) (.tmp 37) rfl (w.heap.size + 1 + 1) rfl _ rfl _ _ B2 tape_inf rfl rfl ?_; intro w9 hB9 hU9)
        have HU : Hid (Below w.heap.size w w9) := Lib.hid (hU9.next HB.out (by omega))
        obtain ⟨r0, r1, rf⟩ := hB9.cells2
        go_wp2_with fail
        refine bodyPost_ret (v := .tuple #[.agg #[.slice none 0 0, .int .i64 0], .int .i64 14]) (by simp [results, Try.results58, go_sem, r0, r1]) rfl ?_
        exact ⟨none, 0, rfl, HU.out, Rd.none_⟩
      · have e := HR3'.out.trans (if_neg hbig)
        subst e
        have hd1 : (l.length : Int) + (fr.length : Int) ≤ 100000 := by omega
        clear HR3' hbig
        go_wp2_with (first
          | (at_builtin; refine wpList_append_any _ rfl (.tmp 39) (.tmp 40) _ rfl (w.heap.size + 1 + 1 + 1) 5 j0 _ 1 1 Try.underlying52 hj0 zj0 zj1 zj2 rfl (by omega) _ l.length (byteCells l) rfl HO.out w4.heap.size A3 fr.length c3 (byteCells fr) rfl HR4.out (byteCells_one _) (by simp only [maxLen]; omega) (by omega) (by omega) ?_; intro v1 w5 hown1 hg1 hat1; obtain ⟨A5, c5, rfl, _⟩ := own_form hown1; rw [← byteCells_append] at hown1; have hne := own_size HO.out; have hlw := HO.out.own_lt; have HNE := Lib.hid (own_at hat1 (fun k => k ≠ w1.heap.size ∧ w.heap.size + 1 + 1 < k) (fun k hk => by have := HA1.out k hk; omega) (by omega)); have E3 := B3.grown hg1 (fun e => by have := HA1.out _ e; omega); have E2 := B2.grown hg1 (fun e => by have := hlw _ e; omega); have HB5 := Lib.hid (HB.out.grown hg1 (by omega) (fun k hk => by have := hlw k hk; omega)); have HO5 := Lib.hid hown1; clear hown1 hg1 hat1 hne hlw b0 b1 bf; obtain ⟨b0, b1, bf⟩ := E3.cells2)
          | (refine wpList_store_row rfl _ (.tmp 4) (.tmp 43) rfl (w.heap.size + 1 + 1) rfl _ rfl _ _ ((upd_cell w5 w1.heap.size 0 (.slice A5 (l.length + fr.length) c5)).blk E2 (by omega)) tape_inf rfl rfl ?_; intro w9 hB9 hU9))
        have U6 := upd_cell w5 w1.heap.size 0 (.slice A5 (l.length + fr.length) c5)
        have HU : Hid (Below w.heap.size w w9) := Lib.hid (hU9.next (U6.next HB5.out (by omega)) (by omega))
        have HO9 := hU9.own (U6.own HO5.out (fun k hk => (HNE.out k hk).1)) (fun k hk => by have := HNE.out k hk; omega)
        obtain ⟨r0, r1, rf⟩ := hB9.cells2
        refine bodyPost_ret (v := .tuple #[.agg #[.slice A5 (l.length + fr.length) c5, .int .i64 s], .int .i64 0]) (by simp [results, Try.results58, go_sem, r0, r1]) rfl ?_
        exact ⟨A5, c5, by simp, HU.out, by have := Rd.of_own HO9; simpa using this⟩
    · have e := HR2.out.trans (if_pos he)
      subst e
      have t0 : (pe == 0) = false := by simpa using he
      have t0' : (pe != 0) = true := by simpa using he
      clear he HR2
      go_wp2_with (refine wpList_store_row rfl _ (.tmp 4) (.tmp 26) rfl (w.heap.size + 1 + 1) rfl _ rfl _ _ B2 tape_inf rfl rfl ?_; intro w9 hB9 hU9)
      have HU : Hid (Below w.heap.size w w9) := Lib.hid (hU9.next HB.out (by omega))
      obtain ⟨r0, r1, rf⟩ := hB9.cells2
      go_wp2_with fail
      refine bodyPost_ret (v := .tuple #[.agg #[.slice none 0 0, .int .i64 0], .int .i64 pe]) (by simp [results, Try.results58, go_sem, r0, r1]) rfl ?_
      exact ⟨none, 0, rfl, HU.out, Rd.none_⟩
  · rw [e1] at hown ⊢
    simp only at hown ⊢
    have e := HR.out.trans (if_pos e2)
    subst e
    clear e1 e2 HR HOM HM hown
    have B2 := B2.alloc (.cells #[.slice A1 ([] : List UInt8).length c1, .int .i64 0] 80)
    have HB := Lib.hid (HB.out.alloc (by omega) (.cells #[.slice A1 ([] : List UInt8).length c1, .int .i64 0] 80))
    go_wp2_with (refine wpList_store_row rfl _ (.tmp 4) (.tmp 18) rfl (w.heap.size + 1 + 1) rfl _ rfl _ _ B2 tape_inf rfl rfl ?_; intro w9 hB9 hU9)
    have HU : Hid (Below w.heap.size w w9) := Lib.hid (hU9.next HB.out (by omega))
    obtain ⟨r0, r1, rf⟩ := hB9.cells2
    go_wp2_with fail
    refine bodyPost_ret (v := .tuple #[.agg #[.slice none 0 0, .int .i64 0], .int .i64 6]) (by simp [results, Try.results58, go_sem, r0, r1]) rfl ?_
    exact ⟨none, 0, rfl, HU.out, Rd.none_⟩

set_option maxRecDepth 100000 in
set_option maxHeartbeats 4000000 in
theorem Written_calls (A : Option Addr) (n c : Nat) (l : List UInt8) (s : Int) (r : Rcd) (w : World) (h : Rd w w.heap.size 1 A n (byteCells l)) :
    Calls Try.prog 59 #[.agg #[.slice A n c, .int .i64 s], r.val] w (TapePost w (writeM l s r)) := by
  obtain ⟨j0, hj0, zj0, zj1, zj2⟩ := info_parts u8_info
  have HE0 := Lib.hid (fun w => RecordBytes_calls r w)
  have hel := encM_len r
  have HR : Hid (writeM l s r = if tapeMay l s = false then ([], 0, 6) else if (encM r).2 ≠ 0 then ([], 0, (encM r).2) else if 100000 < l.length + (frameM (encM r).1).length then ([], 0, 14) else (l ++ frameM (encM r).1, s, 0)) := Lib.hid rfl
  have HM := Lib.hid (tapeMay_of (l := l) (s := s))
  have hl := h.bytes_len
  subst hl
  have HT := Lib.hid (fun w => TapeMay_calls A l.length c l s w rfl)
  have H := Lib.hid h
  clear h
  generalize writeM l s r = z at HR ⊢
  generalize encM r = em at HE0 hel HR
  obtain ⟨pl, pe⟩ := em
  obtain ⟨k, q, ep, pr, x0, x1, x2, x3, x4, x5⟩ := r
  unfold Rcd.val at HE0 ⊢
  simp only at HE0 HR hel ⊢
  have HFr := Lib.hid (fun A n c w h hn => framed_calls A n c pl w h hn)
  have hfl := frameM_len pl
  generalize frameM pl = fr at HFr hfl HR
  have hfl6 : fr.length ≤ 46 := by omega
  clear hfl
  go_enter Try.func59, Try.ntmps59
  go_wp2_with fail
  refine (HT.out _).mono ?_
  rintro e w1 ⟨rfl, hb1⟩
  have B0 := (((Blk.new w _ _).alloc _).alloc _).below hb1 (by simp; omega)
  have B1 := ((Blk.new1 w _ _ _).alloc _).below hb1 (by simp <;> omega)
  have B2 := (Blk.new2 w _ _ _ _).below hb1 (by simp)
  have hz1 : w.heap.size + 2 < w1.heap.size := B2.lt
  have hz10 : w.heap.size < w1.heap.size := by omega
  have hz11 : w.heap.size + 1 < w1.heap.size := by omega
  have HB : Hid (Below w.heap.size w w1) := Lib.hid (Below.trans (by go_grown) (hb1.mono (by simp; omega)))
  clear hb1
  cases hm : tapeMay l s
  · have e := HR.out.trans (if_pos hm)
    subst e
    clear hm HR HM
    go_wp2_with (refine wpList_store_row rfl _ (.tmp 4) (.tmp 14) rfl (w.heap.size + 1 + 1) rfl _ rfl _ _ B2 tape_inf rfl rfl ?_; intro w9 hB9 hU9)
    have HU : Hid (Below w.heap.size w w9) := Lib.hid (hU9.next HB.out (by omega))
    obtain ⟨r0, r1, rf⟩ := hB9.cells2
    go_wp2_with fail
    refine bodyPost_ret (v := .tuple #[.agg #[.slice none 0 0, .int .i64 0], .int .i64 6]) (by simp [results, Try.results59, go_sem, r0, r1]) rfl ?_
    exact ⟨none, 0, rfl, HU.out, Rd.none_⟩
  · have HR2 := Lib.hid (HR.out.trans (if_neg (by rw [hm]; simp)))
    obtain ⟨m1, m2, m3⟩ := HM.out hm
    have M1 := Lib.hid m1
    have mi : (l.length : Int) ≤ 100000 := by omega
    clear m1 hm HM HR
    obtain ⟨c0, d1, d2, d3, d4, d5, d6, d7, d8, d9, cf⟩ := B1.cells10
    go_wp2_with fail
    clear c0 d1 d2 d3 d4 d5 d6 d7 d8 d9 cf
    refine (HE0.out _).mono ?_
    rintro e w3 ⟨A2, c2, rfl, hb3, hr3⟩
    simp only at hr3
    have B0 := B0.on hb3
    have B2 := B2.on hb3
    have HB := Lib.hid (HB.out.trans (hb3.mono HB.out.size))
    have hz4 : w1.heap.size ≤ w3.heap.size := hb3.size
    have HR3 := Lib.hid hr3
    clear hb3 hr3 HE0 B1
    simp only
    by_cases he : pe = 0
    · have HR3' := Lib.hid (HR2.out.trans (if_neg (by simpa using he)))
      subst he
      clear HR2
      go_wp2_with fail
      refine (HFr.out A2 pl.length c2 _ HR3.out (by omega)).mono ?_
      rintro e w4 ⟨A3, c3, rfl, hb4, hown4⟩
      have B0 := B0.on hb4
      have B2 := B2.on hb4
      have HB := Lib.hid (HB.out.trans (hb4.mono HB.out.size))
      have hz5 : w3.heap.size ≤ w4.heap.size := hb4.size
      have HR4 := Lib.hid (Rd.of_own hown4)
      obtain ⟨b0, b1, bf⟩ := B0.cells2
      clear hb4 hown4 HR3 HFr
      by_cases hbig : 100000 < l.length + fr.length
      · have e := HR3'.out.trans (if_pos hbig)
        subst e
        have hd1 : (100000 : Int) < (l.length : Int) + (fr.length : Int) := by omega
        clear HR3' hbig
        go_wp2_with (refine wpList_store_row rfl _ (.tmp 4) (.tmp 33) rfl (w.heap.size + 1 + 1) rfl _ rfl _ _ B2 tape_inf rfl rfl ?_; intro w9 hB9 hU9)
        have HU : Hid (Below w.heap.size w w9) := Lib.hid (hU9.next HB.out (by omega))
        obtain ⟨r0, r1, rf⟩ := hB9.cells2
        go_wp2_with fail
        refine bodyPost_ret (v := .tuple #[.agg #[.slice none 0 0, .int .i64 0], .int .i64 14]) (by simp [results, Try.results59, go_sem, r0, r1]) rfl ?_
        exact ⟨none, 0, rfl, HU.out, Rd.none_⟩
      · have e := HR3'.out.trans (if_neg hbig)
        subst e
        have hd1 : (l.length : Int) + (fr.length : Int) ≤ 100000 := by omega
        clear HR3' hbig
        go_wp2_with fail
        have E0 := Lib.hid B0
        have E2 := Lib.hid B2
        have HB4 := Lib.hid HB.out
        refine (Octets_calls A l.length c l.length l _ (by exact H.out.on HB.out) (Nat.le_refl _) M1.out).mono ?_
        rintro e w5 ⟨A5, c5, rfl, hb5, hown5⟩
        rw [List.take_length] at hown5
        have B0 := B0.on hb5
        have B2 := B2.on hb5
        have HB := Lib.hid (HB.out.trans (hb5.mono HB.out.size))
        have HB45 := Lib.hid hb5
        have HO : Hid (w5.ownsRow w4.heap.size 5 1 (.slice A5 (l.length + 0) c5) (l.length + 0) (byteCells l ++ byteCells (fr.take 0))) := Lib.hid (by simpa [byteCells] using hown5)
        have hz6 : w4.heap.size ≤ w5.heap.size := hb5.size
        clear hb5 hown5 b0 b1 bf
        go_wp2_with fail
        go_loopw [9, 10] (fun v i wr => ∃ k : Nat, k ≤ fr.length ∧ i = .int .i64 k ∧ Below w4.heap.size w4 wr ∧ ∃ A2 c2, v = .slice A2 (l.length + k) c2 ∧ wr.ownsRow w4.heap.size 5 1 (.slice A2 (l.length + k) c2) (l.length + k) (byteCells l ++ byteCells (fr.take k))) (fun _ i _ => fr.length - (intOf i).toNat)
        case atStart => exact ⟨0, Nat.zero_le _, rfl, HB45.out, A5, c5, rfl, HO.out⟩
        case round =>
          obtain ⟨k, hk, rfl, hB, A6, c6, rfl, hown⟩ := hrel
          have HBr := Lib.hid hB
          have HO := Lib.hid hown
          have hzr : w4.heap.size ≤ wr.heap.size := hB.size
          have M1 := M1.out
          by_cases hlt : k < fr.length
          · obtain ⟨b, off, x, rfl, hb, he, e0⟩ := (HR4.out.below hB (Nat.le_refl _)).byte_at hlt
            have HP : Hid (byteCells l ++ byteCells (fr.take k) ++ byteCells [x] = byteCells l ++ byteCells (fr.take (k + 1))) := Lib.hid (by rw [List.append_assoc, ← byteCells_append, take_snoc' he])
            have hx := u8_lt x
            have HN := Lib.hid (byte_new wr x 5)
            clear hB hown he
            go_wp2_with (at_builtin; refine wpList_append_any _ rfl (.tmp 46) (.tmp 51) _ rfl w4.heap.size 5 j0 _ 1 1 Try.underlying52 hj0 zj0 zj1 zj2 rfl (by omega) _ (l.length + k) _ rfl (HO.out.alloc _) (wr.heap.size + 1) (some ⟨wr.heap.size, 0, none⟩) 1 1 (byteCells [x]) rfl HN.out (byteCells_one _) (by simp only [maxLen]; omega) (by omega) (by simp; omega) ?_; intro v1 w6 hown1 hg1 hat1; obtain ⟨A4, c4, rfl, _⟩ := own_form hown1; rw [HP.out] at hown1)
            have HB3 := Lib.hid ((HBr.out.alloc (by omega) _).grown hg1 (by simp; omega) (fun k hk => HO.out.own_lt k hk))
            have HO3 := Lib.hid hown1
            clear hown1 hg1 hat1
            go_wp2_with fail
            go_roundw
            case rel => exact ⟨k + 1, by omega, by go_num, HB3.out, A4, c4, by rw [Nat.add_assoc], by rw [← Nat.add_assoc]; exact HO3.out⟩
            case measure => simp [intOf]; omega
          · obtain rfl : k = fr.length := by omega
            rw [List.take_length, ← byteCells_append] at HO
            have B0 := E0.out.below hB E0.out.lt
            have B2 := E2.out.below hB E2.out.lt
            have HB := Lib.hid (HB4.out.trans (HBr.out.mono HB4.out.size))
            obtain ⟨b0, b1, bf⟩ := B0.cells2
            clear hB hown
            go_wp2_with (refine wpList_store_row rfl _ (.tmp 4) (.tmp 56) rfl (w.heap.size + 1 + 1) rfl _ rfl _ _ B2 tape_inf rfl rfl ?_; intro w9 hB9 hU9)
            have HU : Hid (Below w.heap.size w w9) := Lib.hid (hU9.next HB.out (by omega))
            have HO9 := hU9.ownBelow HO.out (by omega)
            obtain ⟨r0, r1, rf⟩ := hB9.cells2
            refine bodyPost_ret (v := .tuple #[.agg #[.slice A6 (l.length + fr.length) c6, .int .i64 s], .int .i64 0]) (by simp [results, Try.results59, go_sem, r0, r1]) rfl ?_
            exact ⟨A6, c6, by simp, HU.out, by have := Rd.of_own HO9; simpa using this⟩
    · have e := HR2.out.trans (if_pos he)
      subst e
      have t0 : (pe == 0) = false := by simpa using he
      have t0' : (pe != 0) = true := by simpa using he
      clear he HR2
      go_wp2_with (refine wpList_store_row rfl _ (.tmp 4) (.tmp 22) rfl (w.heap.size + 1 + 1) rfl _ rfl _ _ B2 tape_inf rfl rfl ?_; intro w9 hB9 hU9)
      have HU : Hid (Below w.heap.size w w9) := Lib.hid (hU9.next HB.out (by omega))
      obtain ⟨r0, r1, rf⟩ := hB9.cells2
      go_wp2_with fail
      refine bodyPost_ret (v := .tuple #[.agg #[.slice none 0 0, .int .i64 0], .int .i64 pe]) (by simp [results, Try.results59, go_sem, r0, r1]) rfl ?_
      exact ⟨none, 0, rfl, HU.out, Rd.none_⟩
end Go.Proofs.Ytkjlafpafmihaaa
