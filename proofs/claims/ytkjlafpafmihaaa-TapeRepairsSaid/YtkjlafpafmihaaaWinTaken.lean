/- Contract: ref.IdTaken. -/
import Derived.Test.YtkjlafpafmihaaaWinTakeLaw
import Derived.Test.YtkjlafpafmihaaaBlk
namespace Go.Proofs.Ytkjlafpafmihaaa
open Go.ChangeShapes Go.WideShapes Go.RowKit

def zeroWin : Win := ⟨0, false, false, false, false, false, false, false, false⟩
/-- P3.3. -/
def takeW (x : Win) (id : Int) : Win × Bool × Int :=
  if (seenM x id).2 ≠ 0 then (zeroWin, false, (seenM x id).2) else if (seenM x id).1 = true then (x, false, 0) else (outM x id, true, 0)
def WTakePost (w : World) (r : Win × Bool × Int) (e : Ending) (w' : World) : Prop := e = .returned (.tuple #[r.1.val, .bool r.2.1, .int .i64 r.2.2]) ∧ Below w.heap.size w w'

theorem seen_zero {x : Win} {id : Int} (h : (seenM x id).2 = 0) : winFault x = 0 ∧ 0 ≤ id ∧ id ≤ 1073741824 := by
  unfold seenM at h
  by_cases h1 : winFault x = 0
  · by_cases h2 : id < 0 ∨ 1073741824 < id
    · simp [h1, h2] at h
    · exact ⟨h1, by omega, by omega⟩
  · simp [h1] at h
theorem seen_not {x : Win} {id : Int} (h : (seenM x id).2 = 0) (h1 : (seenM x id).1 = false) : ¬ id ∈ idsTo x.top x.at 8 := by
  obtain ⟨hz, h2, h3⟩ := seen_zero h
  rw [← seenRef_eq] at h h1
  unfold seenRef at h h1
  rw [if_neg (by simp [hz]), if_neg (by simp [inR]; omega)] at h h1
  split at h
  · cases h
  · rename_i hh
    rw [if_neg hh] at h1
    simpa using h1

theorem insM_facts (x : Win) (id : Int) (h : winFault x = 0) (h0 : 0 ≤ id) (h1 : id ≤ 1073741824) (hn : ¬ id ∈ idsTo x.top x.at 8) :
    0 < (insM id (idsTo x.top x.at 8)).length ∧ (insM id (idsTo x.top x.at 8)).length ≤ 9 ∧ (∀ y ∈ insM id (idsTo x.top x.at 8), -8 ≤ y ∧ y ≤ (insM id (idsTo x.top x.at 8)).getLastD 0) ∧ (insM id (idsTo x.top x.at 8)).getLastD 0 ≤ 1073741824 := by
  have hc := winFault_ids h
  have hz := winFault_zero h
  have hlen := idsTo_len x.top x.at 8
  have hlt : ∀ y ∈ idsTo x.top x.at 8, y < x.top ∧ x.top - 8 ≤ y := fun y hy => by have := idsTo_lt _ _ _ y hy; omega
  generalize idsTo x.top x.at 8 = l at hc hn hlt hlen
  obtain ⟨f1, f2, f3, f4, f5⟩ := insF_facts id l l.length (Nat.le_refl _)
  rw [List.take_length] at f1 f2 f3 f4 f5
  unfold insM
  generalize insF id l = s at f1 f2 f3 f4 f5
  obtain ⟨o, d⟩ := s
  simp only at f1 f2 f3 f4 f5 ⊢
  cases d
  · simp only [Bool.false_eq_true, if_false]
    have hge : ∀ y ∈ l, ¬ id < y := fun y hy hlt => by have := f2.2 ⟨y, hy, hlt⟩; cases this
    have hl := f5 rfl
    rw [show (o ++ [id]).getLastD 0 = id by simp]
    refine ⟨by simp, by simp; omega, fun y hy => ?_, h1⟩
    rcases List.mem_append.1 hy with hy | hy
    · rcases (f1 y).1 hy with hy | ⟨hy, _⟩
      · have := hge y hy
        have := hlt y hy
        omega
      · cases hy
    · simp at hy
      omega
  · simp only [if_true]
    obtain ⟨y, hy, hlt2⟩ := f2.1 rfl
    rcases hc with ⟨_, h2⟩ | ⟨h1', h2, h3⟩
    · rw [h2] at hy; cases hy
    · have hy3 := hlt y hy
      rw [f3 h2, h3]
      have hp : 0 < o.length := List.length_pos_of_mem ((f1 y).2 (.inl hy))
      refine ⟨hp, by omega, fun z hz => ?_, by omega⟩
      rcases (f1 z).1 hz with hz | ⟨_, hz⟩
      · have := hlt z hz
        omega
      · omega

set_option maxRecDepth 100000 in
set_option maxHeartbeats 4000000 in
theorem IdTaken_calls (x : Win) (id : Int) (w : World) : Calls Try.prog 150 #[x.val, .int .i64 id] w (WTakePost w (takeW x id)) := by
  obtain ⟨i0, hi0, hz0, hz1, hz2⟩ := info_parts i64_info
  have HS := Lib.hid (IdSeen_calls x id)
  have HI := Lib.hid (idsOf_calls x)
  have HV := Lib.hid (fun h h0 hn => insM_eq x id h h0 hn)
  have HM := Lib.hid (fun h h0 h1 hn => insM_facts x id h h0 h1 hn)
  have HT := Lib.hid (winFault_zero (x := x))
  have HSZ := Lib.hid (seen_zero (x := x) (id := id))
  have HSN := Lib.hid (seen_not (x := x) (id := id))
  have HF := Lib.hid (insF_snoc id)
  have HQ : Hid (∀ l : List Int, insM id l = if (insF id l).2 = true then (insF id l).1 else (insF id l).1 ++ [id]) := Lib.hid (fun l => rfl)
  have HLEN := Lib.hid (idsTo_len x.top x.at 8)
  have HFL : Hid (∀ (l : List Int) (k : Nat), k ≤ l.length → (insF id (l.take k)).1.length ≤ k + 1) := Lib.hid (fun l k hk => (insF_facts id l k hk).2.2.2.1)
  have HZ0 : Hid (∀ z, z = takeW x id → z = if (seenM x id).2 ≠ 0 then (zeroWin, false, (seenM x id).2) else if (seenM x id).1 = true then (x, false, 0) else (outM x id, true, 0)) := Lib.hid (fun z h => h)
  generalize hz : takeW x id = z
  have HZ := Lib.hid (HZ0.out z hz.symm)
  clear hz HZ0
  generalize outM x id = ow at HV HZ
  generalize winFault x = wf at HT HSZ HV HM
  generalize seenM x id = r at HS HSZ HSN HZ
  generalize idsTo x.top x.at 8 = l at HI HV HM HSN HLEN
  obtain ⟨rb, rk⟩ := r
  obtain ⟨t, b0, b1, b2, b3, b4, b5, b6, b7⟩ := x
  obtain ⟨ot, o0, o1, o2, o3, o4, o5, o6, o7⟩ := ow
  unfold Win.val at *
  simp only at HT HI HSZ HSN HS HZ ⊢
  go_enter Try.func150, Try.ntmps150
  go_wp2_with fail
  refine (HS.out _).mono ?_
  rintro e w1 ⟨rfl, hb1⟩
  have c0 := hb1.cell (p := ⟨w.heap.size, 0, none⟩) (by simp; omega)
  have c1 := hb1.cell (p := ⟨w.heap.size, 1, none⟩) (by simp; omega)
  have c2 := hb1.cell (p := ⟨w.heap.size, 2, none⟩) (by simp; omega)
  have c3 := hb1.cell (p := ⟨w.heap.size, 3, none⟩) (by simp; omega)
  have c4 := hb1.cell (p := ⟨w.heap.size, 4, none⟩) (by simp; omega)
  have c5 := hb1.cell (p := ⟨w.heap.size, 5, none⟩) (by simp; omega)
  have c6 := hb1.cell (p := ⟨w.heap.size, 6, none⟩) (by simp; omega)
  have c7 := hb1.cell (p := ⟨w.heap.size, 7, none⟩) (by simp; omega)
  have c8 := hb1.cell (p := ⟨w.heap.size, 8, none⟩) (by simp; omega)
  simp [World.cell?_alloc_lt] at c0 c1 c2 c3 c4 c5 c6 c7 c8
  have RB1 := (Blk.new1 w _ _ _).below hb1 (by simp)
  have r0 := hb1.cell (p := ⟨w.heap.size + 1, 0, none⟩) (by simp)
  have r1 := hb1.cell (p := ⟨w.heap.size + 1, 1, none⟩) (by simp)
  have r2 := hb1.cell (p := ⟨w.heap.size + 1, 2, none⟩) (by simp)
  have r3 := hb1.cell (p := ⟨w.heap.size + 1, 3, none⟩) (by simp)
  have r4 := hb1.cell (p := ⟨w.heap.size + 1, 4, none⟩) (by simp)
  have r5 := hb1.cell (p := ⟨w.heap.size + 1, 5, none⟩) (by simp)
  have r6 := hb1.cell (p := ⟨w.heap.size + 1, 6, none⟩) (by simp)
  have r7 := hb1.cell (p := ⟨w.heap.size + 1, 7, none⟩) (by simp)
  have r8 := hb1.cell (p := ⟨w.heap.size + 1, 8, none⟩) (by simp)
  simp at r0 r1 r2 r3 r4 r5 r6 r7 r8
  have fz := fun j => hb1.frozen (p := ⟨w.heap.size + 1, j, none⟩) (by simp)
  simp at fz
  have hsz : w.heap.size + 2 ≤ w1.heap.size := by have := hb1.size; simp at this; omega
  have HB : Hid (Below w.heap.size w w1) := Lib.hid ((((Below.refl _ w).alloc (Nat.le_refl _) _).alloc (by simp) _).trans (hb1.mono (by simp; omega)))
  clear hb1
  by_cases hrk : rk = 0
  · obtain ⟨hwf, i0', i1'⟩ := HSZ.out hrk
    subst hrk
    obtain ⟨t0, t1⟩ := HT.out hwf
    cases rb
    · have e := HZ.out
      rw [if_neg (by simp), if_neg (by simp)] at e
      subst e
      go_wp2_with fail
      refine (HI.out _ t0 t1).mono ?_
      rintro e w2 ⟨A1, n1, d1, rfl, hn1, hb2, hr2⟩
      have hB12 : Below w.heap.size w w2 := HB.out.trans (hb2.mono (by omega))
      have hsz2 : w.heap.size + 2 ≤ w2.heap.size := by have := hb2.size; omega
      have RB2 := RB1.below hb2 (by omega)
      have HBW := Lib.hid hB12
      have HR := Lib.hid hr2
      have HN := Lib.hid hn1
      have hn8 : n1 ≤ 8 := by have := HLEN.out; omega
      clear hb2 hr2 hn1 hB12 c0 c1 c2 c3 c4 c5 c6 c7 c8 r0 r1 r2 r3 r4 r5 r6 r7 r8 fz
      go_wp2_with fail
      go_loopw [10, 11, 12] (fun v d i wr => ∃ k : Nat, k ≤ n1 ∧ i = .int .i64 k ∧ d = .bool (insF id (l.take k)).2 ∧ wr.ownsRow w2.heap.size 3 1 v (insF id (l.take k)).1.length (intCells (insF id (l.take k)).1) ∧ Below w2.heap.size w2 wr) (fun _ _ i _ => n1 - (intOf i).toNat)
      case atStart => exact ⟨0, by omega, rfl, rfl, ownsRow_nil_ _ _ _ _, Below.refl _ _⟩
      case round =>
        obtain ⟨k, hk, rfl, rfl, hown, hb⟩ := hrel
        have HO := Lib.hid hown
        have HBr := Lib.hid hb
        have hszr : w2.heap.size ≤ wr.heap.size := hb.size
        have hol := HFL.out l k (by have := HN.out; omega)
        by_cases hlt : k < n1
        · obtain ⟨b, off, y, hA, hbb, hy, hc⟩ := (HR.out.below hb (Nat.le_refl _)).int_at hlt
          have HC2 : Hid (w2.cell? ⟨b, off + k, none⟩ = some (.int .i64 y)) := Lib.hid ((hb.cell (p := ⟨b, off + k, none⟩) hbb).symm.trans hc)
          have HE : Hid (insF id (l.take (k + 1)) = _) := Lib.hid ((by rw [List.take_add_one, hy]; rfl : insF id (l.take (k + 1)) = insF id (l.take k ++ [y])).trans (HF.out (l.take k) y))
          have HNy := Lib.hid (int_new wr y 3)
          have HY := Lib.hid hy
          subst hA
          clear hown hb hy
          generalize insF id (l.take k) = s at HE HO hol ⊢
          obtain ⟨o, d⟩ := s
          simp only at HE HO hol ⊢
          cases d
          · by_cases hid : id < y
            · simp only [hid, and_self, if_true, Bool.false_or, decide_true] at HE
              have HNi := Lib.hid (int_new wr id 3)
              go_wp2_with (first | (at_builtin; refine wpList_append_any _ rfl (.tmp 43) (.tmp 45) _ rfl w2.heap.size 3 i0 _ 1 8 Try.underlying143 hi0 hz0 hz1 hz2 rfl (by omega) _ o.length (intCells o) rfl (HO.out.alloc _) (wr.heap.size + 1) (some ⟨wr.heap.size, 0, none⟩) 1 1 (intCells [id]) rfl HNi.out (intCells_one _) (by simp only [maxLen]; omega) (by omega) (by simp; omega) ?_; intro v1 w3 hown1 hg1 hat1; have hB1 : Below w2.heap.size w2 w3 := (HBr.out.alloc (by omega) _).grown hg1 (by simp; omega) (HO.out.own_lt ·); have hc3 := (hB1.cell (p := ⟨b, off + k, none⟩) hbb).trans HC2.out; have hsz3 : w2.heap.size ≤ w3.heap.size := hB1.size; rw [← intCells_append] at hown1; have HO1 := Lib.hid hown1; have HB1 := Lib.hid hB1; clear hown1 hB1 hg1 hat1) | (at_builtin; refine wpList_append_any _ rfl (.tmp 47) (.tmp 52) _ rfl w2.heap.size 3 i0 _ 1 8 Try.underlying143 hi0 hz0 hz1 hz2 rfl (by omega) _ (o.length + 1) (intCells (o ++ [id])) rfl (HO1.out.alloc _) (_ + 1) (some ⟨_, 0, none⟩) 1 1 (intCells [y]) rfl (int_new _ y 3) (intCells_one _) (by simp only [maxLen]; omega) (by omega) (by simp; omega) ?_; intro v2 w4 hown2 hg2 hat2))
              have hB2 : Below w2.heap.size w2 w4 := (HB1.out.alloc (by omega) _).grown hg2 (by simp; omega) (HO1.out.own_lt ·)
              rw [← intCells_append] at hown2
              have HB2 := Lib.hid hB2
              have HO2 := Lib.hid hown2
              clear hB2 hown2 hg2 hat2
              go_wp2_with fail
              go_roundw
              case rel => exact ⟨k + 1, by omega, by go_num, by rw [HE.out], by rw [HE.out]; simpa using HO2.out, HB2.out⟩
              case measure => simp [intOf]; omega
            · simp only [hid, and_false, if_false, Bool.false_or, decide_false] at HE
              go_wp2_with (at_builtin; refine wpList_append_any _ rfl (.tmp 47) (.tmp 52) _ rfl w2.heap.size 3 i0 _ 1 8 Try.underlying143 hi0 hz0 hz1 hz2 rfl (by omega) _ o.length (intCells o) rfl (HO.out.alloc _) (wr.heap.size + 1) (some ⟨wr.heap.size, 0, none⟩) 1 1 (intCells [y]) rfl HNy.out (intCells_one _) (by simp only [maxLen]; omega) (by omega) (by simp; omega) ?_; intro v1 w3 hown1 hg1 hat1)
              have hB1 : Below w2.heap.size w2 w3 := (HBr.out.alloc (by omega) _).grown hg1 (by simp; omega) (HO.out.own_lt ·)
              rw [← intCells_append] at hown1
              have HB1 := Lib.hid hB1
              have HO1 := Lib.hid hown1
              clear hB1 hown1 hg1 hat1
              go_wp2_with fail
              go_roundw
              case rel => exact ⟨k + 1, by omega, by go_num, by rw [HE.out], by rw [HE.out]; simpa using HO1.out, HB1.out⟩
              case measure => simp [intOf]; omega
          · simp only [Bool.true_eq_false, false_and, if_false, Bool.true_or] at HE
            go_wp2_with (at_builtin; refine wpList_append_any _ rfl (.tmp 47) (.tmp 52) _ rfl w2.heap.size 3 i0 _ 1 8 Try.underlying143 hi0 hz0 hz1 hz2 rfl (by omega) _ o.length (intCells o) rfl (HO.out.alloc _) (wr.heap.size + 1) (some ⟨wr.heap.size, 0, none⟩) 1 1 (intCells [y]) rfl HNy.out (intCells_one _) (by simp only [maxLen]; omega) (by omega) (by simp; omega) ?_; intro v1 w3 hown1 hg1 hat1)
            have hB1 : Below w2.heap.size w2 w3 := (HBr.out.alloc (by omega) _).grown hg1 (by simp; omega) (HO.out.own_lt ·)
            rw [← intCells_append] at hown1
            have HB1 := Lib.hid hB1
            have HO1 := Lib.hid hown1
            clear hB1 hown1 hg1 hat1
            go_wp2_with fail
            go_roundw
            case rel => exact ⟨k + 1, by omega, by go_num, by rw [HE.out], by rw [HE.out]; simpa using HO1.out, HB1.out⟩
            case measure => simp [intOf]; omega
        · obtain rfl : k = n1 := by omega
          clear hown hb
          have hln : l.take k = l := List.take_of_length_le (by have := HN.out; omega)
          rw [hln] at HO hol ⊢
          clear hln
          have HI2 := Lib.hid (HQ.out l)
          have HV2 := Lib.hid (HV.out hwf i0' (HSN.out trivial trivial))
          obtain ⟨hm1, hm2, hm3, hm4⟩ := HM.out hwf i0' i1' (HSN.out trivial trivial)
          have HM2 := Lib.hid hm3
          have HM3 := Lib.hid hm4
          generalize insM id l = m at HI2 HV2 hm1 hm2 HM2 HM3
          generalize insF id l = s at HI2 HO hol ⊢
          obtain ⟨o, d⟩ := s
          simp only at HI2 HO hol ⊢
          clear hm3 hm4
          cases d
          · have hmo : m = o ++ [id] := HI2.out
            subst hmo
            have HNi := Lib.hid (int_new wr id 3)
            go_wp2_with (at_builtin; refine wpList_append_any _ rfl (.tmp 56) (.tmp 58) _ rfl w2.heap.size 3 i0 _ 1 8 Try.underlying143 hi0 hz0 hz1 hz2 rfl (by omega) _ o.length (intCells o) rfl (HO.out.alloc _) (wr.heap.size + 1) (some ⟨wr.heap.size, 0, none⟩) 1 1 (intCells [id]) rfl HNi.out (intCells_one _) (by simp only [maxLen]; omega) (by omega) (by simp; omega) ?_; intro v1 w3 hown1 hg1 hat1)
            have hB1 : Below w2.heap.size w2 w3 := (HBr.out.alloc (by omega) _).grown hg1 (by simp; omega) (HO.out.own_lt ·)
            rw [← intCells_append] at hown1
            obtain ⟨A3, c3, rfl, _⟩ := own_form hown1
            have hr3 := Rd.of_own hown1
            have HR3 := Lib.hid hr3
            have RB3 := RB2.below hB1 (by omega)
            have hB3 : Below w.heap.size w w3 := HBW.out.trans (hB1.mono (by omega))
            have hs3 : w2.heap.size ≤ w3.heap.size := hB1.size
            have HB3 := Lib.hid hB3
            clear hB1 hB3 hr3
            try clear hown1 hg1 hat1
            go_wp2_with fail
            refine (windowOf_cons A3 (o.length + 1) c3 _ _ HR3.out (by first | exact hm1 | simp) (by first | exact hm2 | (simp at hm2 ⊢; exact hm2)) HM2.out HM3.out).mono ?_
            rintro e w4 ⟨rfl, hb4⟩
            rw [HV2.out]
            have RB4 := RB3.below hb4 (by omega)
            obtain ⟨g0, g1, g2, g3, g4, g5, g6, g7, g8, fz⟩ := RB4.cells9
            have hs4 : w3.heap.size ≤ w4.heap.size := hb4.size
            have HB4 := Lib.hid (HB3.out.trans (hb4.mono (by omega)))
            clear hb4
            unfold Win.val
            go_wp2_with fail
            refine bodyPost_ret (v := .tuple #[.agg #[.int .i64 ot, .bool o0, .bool o1, .bool o2, .bool o3, .bool o4, .bool o5, .bool o6, .bool o7], .bool true, .int .i64 0]) (by simp [results, Try.results150, go_sem, g0, g1, g2, g3, g4, g5, g6, g7, g8]) rfl ?_
            have hB := HB4.out
            exact ⟨rfl, by go_grown⟩
          · have hmo : m = o := HI2.out
            subst hmo
            have hown1 := HO.out
            obtain ⟨A3, c3, rfl, _⟩ := own_form hown1
            have hr3 := Rd.of_own hown1
            have hB1 := HBr.out
            have HR3 := Lib.hid hr3
            have RB3 := RB2.below hB1 (by omega)
            have hB3 : Below w.heap.size w wr := HBW.out.trans (hB1.mono (by omega))
            have hs3 : w2.heap.size ≤ wr.heap.size := hB1.size
            have HB3 := Lib.hid hB3
            clear hB1 hB3 hr3
            try clear hown1 hg1 hat1
            go_wp2_with fail
            refine (windowOf_cons A3 (m.length) c3 _ _ HR3.out (by first | exact hm1 | simp) (by first | exact hm2 | (simp at hm2 ⊢; exact hm2)) HM2.out HM3.out).mono ?_
            rintro e w4 ⟨rfl, hb4⟩
            rw [HV2.out]
            have RB4 := RB3.below hb4 (by omega)
            obtain ⟨g0, g1, g2, g3, g4, g5, g6, g7, g8, fz⟩ := RB4.cells9
            have hs4 : wr.heap.size ≤ w4.heap.size := hb4.size
            have HB4 := Lib.hid (HB3.out.trans (hb4.mono (by omega)))
            clear hb4
            unfold Win.val
            go_wp2_with fail
            refine bodyPost_ret (v := .tuple #[.agg #[.int .i64 ot, .bool o0, .bool o1, .bool o2, .bool o3, .bool o4, .bool o5, .bool o6, .bool o7], .bool true, .int .i64 0]) (by simp [results, Try.results150, go_sem, g0, g1, g2, g3, g4, g5, g6, g7, g8]) rfl ?_
            have hB := HB4.out
            exact ⟨rfl, by go_grown⟩
    · have e := HZ.out
      rw [if_neg (by simp), if_pos rfl] at e
      subst e
      go_wp2_with fail
      refine bodyPost_ret (v := .tuple #[.agg #[.int .i64 t, .bool b0, .bool b1, .bool b2, .bool b3, .bool b4, .bool b5, .bool b6, .bool b7], .bool false, .int .i64 0]) (by simp [results, Try.results150, go_sem, r0, r1, r2, r3, r4, r5, r6, r7, r8]) rfl ?_
      have hB := HB.out
      exact ⟨rfl, by go_grown⟩
  · have e := HZ.out
    rw [if_pos hrk] at e
    subst e
    go_wp2_with fail
    refine bodyPost_ret (v := .tuple #[.agg #[.int .i64 0, .bool false, .bool false, .bool false, .bool false, .bool false, .bool false, .bool false, .bool false], .bool false, .int .i64 rk]) (by simp [results, Try.results150, go_sem, r0, r1, r2, r3, r4, r5, r6, r7, r8]) rfl ?_
    have hB := HB.out
    exact ⟨rfl, by go_grown⟩
end Go.Proofs.Ytkjlafpafmihaaa
