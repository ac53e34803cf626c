/- Parts of the proof of QueueDoes: lemmas on memory, on single functions and on the plain models; no condition of their own. -/
import Derived.Deep.RegionHeld3
import Derived.Deep.DeepCutAuto
import Derived.Deep.CutRange
import Derived.RegionTactic
import Derived.Shelf.SlSortCmp.WholeK
import Derived.Shelf.SlSortCmp.NoneTotal
import Derived.Shelf.SlicesG.Cmp
import Derived.Shelf.Lay
import Derived.Ground.SlsfProg
import Derived.Ground.SlgcProg
import Derived.Maps.OwnSet
import Derived.Test.YtkjlafpafmihaaaQueueDoesP0

namespace Go.Proofs.Ytkjlafpafmihaaa
open Go.ChangeShapes Go.WideShapes Go.RowKit

def zeroWin : Win := ⟨0, false, false, false, false, false, false, false, false⟩
/-- P3.3. -/
def takeW (x : Win) (id : Int) : Win × Bool × Int :=
  if (seenM x id).2 ≠ 0 then (zeroWin, false, (seenM x id).2) else if (seenM x id).1 = true then (x, false, 0) else (outM x id, true, 0)
def WTakePost (w : World) (r : Win × Bool × Int) (e : Ending) (w' : World) : Prop := e = .returned (.tuple #[r.1.val, .bool r.2.1, .int .i64 r.2.2]) ∧ Below w.heap.size w w'

theorem seen_zero {x : Win} {id : Int} (h : (seenM x id).2 = 0) : winFault x = 0 ∧ 0 ≤ id ∧ id ≤ 1073741824 := by
  unfold seenM at h
  by_cases h1 : winFault x = 0
  · by_cases h2 : id < 0 ∨ 1073741824 < id
    · simp [h1, h2] at h
    · exact ⟨h1, by omega, by omega⟩
  · simp [h1] at h
theorem seen_not {x : Win} {id : Int} (h : (seenM x id).2 = 0) (h1 : (seenM x id).1 = false) : ¬ id ∈ idsTo x.top x.at 8 := by
  obtain ⟨hz, h2, h3⟩ := seen_zero h
  rw [← seenRef_eq] at h h1
  unfold seenRef at h h1
  rw [if_neg (by simp [hz]), if_neg (by simp [inR]; omega)] at h h1
  split at h
  · cases h
  · rename_i hh
    rw [if_neg hh] at h1
    simpa using h1

theorem insM_facts (x : Win) (id : Int) (h : winFault x = 0) (h0 : 0 ≤ id) (h1 : id ≤ 1073741824) (hn : ¬ id ∈ idsTo x.top x.at 8) :
    0 < (insM id (idsTo x.top x.at 8)).length ∧ (insM id (idsTo x.top x.at 8)).length ≤ 9 ∧ (∀ y ∈ insM id (idsTo x.top x.at 8), -8 ≤ y ∧ y ≤ (insM id (idsTo x.top x.at 8)).getLastD 0) ∧ (insM id (idsTo x.top x.at 8)).getLastD 0 ≤ 1073741824 := by
  have hc := winFault_ids h
  have hz := winFault_zero h
  have hlen := idsTo_len x.top x.at 8
  have hlt : ∀ y ∈ idsTo x.top x.at 8, y < x.top ∧ x.top - 8 ≤ y := fun y hy => by have := idsTo_lt _ _ _ y hy; omega
  generalize idsTo x.top x.at 8 = l at hc hn hlt hlen
  obtain ⟨f1, f2, f3, f4, f5⟩ := insF_facts id l l.length (Nat.le_refl _)
  rw [List.take_length] at f1 f2 f3 f4 f5
  unfold insM
  generalize insF id l = s at f1 f2 f3 f4 f5
  obtain ⟨o, d⟩ := s
  simp only at f1 f2 f3 f4 f5 ⊢
  cases d
  · simp only [Bool.false_eq_true, if_false]
    have hge : ∀ y ∈ l, ¬ id < y := fun y hy hlt => by have := f2.2 ⟨y, hy, hlt⟩; cases this
    have hl := f5 rfl
    rw [show (o ++ [id]).getLastD 0 = id by simp]
    refine ⟨by simp, by simp; omega, fun y hy => ?_, h1⟩
    rcases List.mem_append.1 hy with hy | hy
    · rcases (f1 y).1 hy with hy | ⟨hy, _⟩
      · have := hge y hy
        have := hlt y hy
        omega
      · cases hy
    · simp at hy
      omega
  · simp only [if_true]
    obtain ⟨y, hy, hlt2⟩ := f2.1 rfl
    rcases hc with ⟨_, h2⟩ | ⟨h1', h2, h3⟩
    · rw [h2] at hy; cases hy
    · have hy3 := hlt y hy
      rw [f3 h2, h3]
      have hp : 0 < o.length := List.length_pos_of_mem ((f1 y).2 (.inl hy))
      refine ⟨hp, by omega, fun z hz => ?_, by omega⟩
      rcases (f1 z).1 hz with hz | ⟨_, hz⟩
      · have := hlt z hz
        omega
      · omega

set_option maxRecDepth 100000 in
set_option maxHeartbeats 4000000 in
theorem IdTaken_calls (x : Win) (id : Int) (w : World) : Calls Try.prog 150 #[x.val, .int .i64 id] w (WTakePost w (takeW x id)) := by
  obtain ⟨i0, hi0, hz0, hz1, hz2⟩ := info_parts i64_info
  have HS := Lib.hid (IdSeen_calls x id)
  have HI := Lib.hid (idsOf_calls x)
  have HV := Lib.hid (fun h h0 hn => insM_eq x id h h0 hn)
  have HM := Lib.hid (fun h h0 h1 hn => insM_facts x id h h0 h1 hn)
  have HT := Lib.hid (winFault_zero (x := x))
  have HSZ := Lib.hid (seen_zero (x := x) (id := id))
  have HSN := Lib.hid (seen_not (x := x) (id := id))
  have HF := Lib.hid (insF_snoc id)
  have HQ : Hid (∀ l : List Int, insM id l = if (insF id l).2 = true then (insF id l).1 else (insF id l).1 ++ [id]) := Lib.hid (fun l => rfl)
  have HLEN := Lib.hid (idsTo_len x.top x.at 8)
  have HFL : Hid (∀ (l : List Int) (k : Nat), k ≤ l.length → (insF id (l.take k)).1.length ≤ k + 1) := Lib.hid (fun l k hk => (insF_facts id l k hk).2.2.2.1)
  have HZ0 : Hid (∀ z, z = takeW x id → z = if (seenM x id).2 ≠ 0 then (zeroWin, false, (seenM x id).2) else if (seenM x id).1 = true then (x, false, 0) else (outM x id, true, 0)) := Lib.hid (fun z h => h)
  generalize hz : takeW x id = z
  have HZ := Lib.hid (HZ0.out z hz.symm)
  clear hz HZ0
  generalize outM x id = ow at HV HZ
  generalize winFault x = wf at HT HSZ HV HM
  generalize seenM x id = r at HS HSZ HSN HZ
  generalize idsTo x.top x.at 8 = l at HI HV HM HSN HLEN
  obtain ⟨rb, rk⟩ := r
  obtain ⟨t, b0, b1, b2, b3, b4, b5, b6, b7⟩ := x
  obtain ⟨ot, o0, o1, o2, o3, o4, o5, o6, o7⟩ := ow
  unfold Win.val at *
  simp only at HT HI HSZ HSN HS HZ ⊢
  go_enter Try.func150, Try.ntmps150
  go_wp2_with fail
  refine (HS.out _).mono ?_
  rintro e w1 ⟨rfl, hb1⟩
  have c0 := hb1.cell (p := ⟨w.heap.size, 0, none⟩) (by simp; omega)
  have c1 := hb1.cell (p := ⟨w.heap.size, 1, none⟩) (by simp; omega)
  have c2 := hb1.cell (p := ⟨w.heap.size, 2, none⟩) (by simp; omega)
  have c3 := hb1.cell (p := ⟨w.heap.size, 3, none⟩) (by simp; omega)
  have c4 := hb1.cell (p := ⟨w.heap.size, 4, none⟩) (by simp; omega)
  have c5 := hb1.cell (p := ⟨w.heap.size, 5, none⟩) (by simp; omega)
  have c6 := hb1.cell (p := ⟨w.heap.size, 6, none⟩) (by simp; omega)
  have c7 := hb1.cell (p := ⟨w.heap.size, 7, none⟩) (by simp; omega)
  have c8 := hb1.cell (p := ⟨w.heap.size, 8, none⟩) (by simp; omega)
  simp [World.cell?_alloc_lt] at c0 c1 c2 c3 c4 c5 c6 c7 c8
  have RB1 := (Blk.new1 w _ _ _).below hb1 (by simp)
  have r0 := hb1.cell (p := ⟨w.heap.size + 1, 0, none⟩) (by simp)
  have r1 := hb1.cell (p := ⟨w.heap.size + 1, 1, none⟩) (by simp)
  have r2 := hb1.cell (p := ⟨w.heap.size + 1, 2, none⟩) (by simp)
  have r3 := hb1.cell (p := ⟨w.heap.size + 1, 3, none⟩) (by simp)
  have r4 := hb1.cell (p := ⟨w.heap.size + 1, 4, none⟩) (by simp)
  have r5 := hb1.cell (p := ⟨w.heap.size + 1, 5, none⟩) (by simp)
  have r6 := hb1.cell (p := ⟨w.heap.size + 1, 6, none⟩) (by simp)
  have r7 := hb1.cell (p := ⟨w.heap.size + 1, 7, none⟩) (by simp)
  have r8 := hb1.cell (p := ⟨w.heap.size + 1, 8, none⟩) (by simp)
  simp at r0 r1 r2 r3 r4 r5 r6 r7 r8
  have fz := fun j => hb1.frozen (p := ⟨w.heap.size + 1, j, none⟩) (by simp)
  simp at fz
  have hsz : w.heap.size + 2 ≤ w1.heap.size := by have := hb1.size; simp at this; omega
  have HB : Hid (Below w.heap.size w w1) := Lib.hid ((((Below.refl _ w).alloc (Nat.le_refl _) _).alloc (by simp) _).trans (hb1.mono (by simp; omega)))
  clear hb1
  by_cases hrk : rk = 0
  · obtain ⟨hwf, i0', i1'⟩ := HSZ.out hrk
    subst hrk
    obtain ⟨t0, t1⟩ := HT.out hwf
    cases rb
    · have e := HZ.out
      rw [if_neg (by simp), if_neg (by simp)] at e
      subst e
      go_wp2_with fail
      refine (HI.out _ t0 t1).mono ?_
      rintro e w2 ⟨A1, n1, d1, rfl, hn1, hb2, hr2⟩
      have hB12 : Below w.heap.size w w2 := HB.out.trans (hb2.mono (by omega))
      have hsz2 : w.heap.size + 2 ≤ w2.heap.size := by have := hb2.size; omega
      have RB2 := RB1.below hb2 (by omega)
      have HBW := Lib.hid hB12
      have HR := Lib.hid hr2
      have HN := Lib.hid hn1
      have hn8 : n1 ≤ 8 := by have := HLEN.out; omega
      clear hb2 hr2 hn1 hB12 c0 c1 c2 c3 c4 c5 c6 c7 c8 r0 r1 r2 r3 r4 r5 r6 r7 r8 fz
      go_wp2_with fail
      go_loopw [10, 11, 12] (fun v d i wr => ∃ k : Nat, k ≤ n1 ∧ i = .int .i64 k ∧ d = .bool (insF id (l.take k)).2 ∧ wr.ownsRow w2.heap.size 3 1 v (insF id (l.take k)).1.length (intCells (insF id (l.take k)).1) ∧ Below w2.heap.size w2 wr) (fun _ _ i _ => n1 - (intOf i).toNat)
      case atStart => exact ⟨0, by omega, rfl, rfl, ownsRow_nil_ _ _ _ _, Below.refl _ _⟩
      case round =>
        obtain ⟨k, hk, rfl, rfl, hown, hb⟩ := hrel
        have HO := Lib.hid hown
        have HBr := Lib.hid hb
        have hszr : w2.heap.size ≤ wr.heap.size := hb.size
        have hol := HFL.out l k (by have := HN.out; omega)
        by_cases hlt : k < n1
        · obtain ⟨b, off, y, hA, hbb, hy, hc⟩ := (HR.out.below hb (Nat.le_refl _)).int_at hlt
          have HC2 : Hid (w2.cell? ⟨b, off + k, none⟩ = some (.int .i64 y)) := Lib.hid ((hb.cell (p := ⟨b, off + k, none⟩) hbb).symm.trans hc)
          have HE : Hid (insF id (l.take (k + 1)) = _) := Lib.hid ((by rw [List.take_add_one, hy]; rfl : insF id (l.take (k + 1)) = insF id (l.take k ++ [y])).trans (HF.out (l.take k) y))
          have HNy := Lib.hid (int_new wr y 3)
          have HY := Lib.hid hy
          subst hA
          clear hown hb hy
          generalize insF id (l.take k) = s at HE HO hol ⊢
          obtain ⟨o, d⟩ := s
          simp only at HE HO hol ⊢
          cases d
          · by_cases hid : id < y
            · simp only [hid, and_self, if_true, Bool.false_or, decide_true] at HE
              have HNi := Lib.hid (int_new wr id 3)
              go_wp2_with (first | (at_builtin; refine wpList_append_any _ rfl (.tmp 43) (.tmp 45) _ rfl w2.heap.size 3 i0 _ 1 8 Try.underlying143 hi0 hz0 hz1 hz2 rfl (by omega) _ o.length (intCells o) rfl (HO.out.alloc _) (wr.heap.size + 1) (some ⟨wr.heap.size, 0, none⟩) 1 1 (intCells [id]) rfl HNi.out (intCells_one _) (by simp only [maxLen]; omega) (by omega) (by simp; omega) ?_; intro v1 w3 hown1 hg1 hat1; have hB1 : Below w2.heap.size w2 w3 := (HBr.out.alloc (by omega) _).grown hg1 (by simp; omega) (HO.out.own_lt ·); have hc3 := (hB1.cell (p := ⟨b, off + k, none⟩) hbb).trans HC2.out; have hsz3 : w2.heap.size ≤ w3.heap.size := hB1.size; rw [← intCells_append] at hown1; have HO1 := Lib.hid hown1; have HB1 := Lib.hid hB1; clear hown1 hB1 hg1 hat1) | (at_builtin; refine wpList_append_any _ rfl (.tmp 47) (.tmp 52) _ rfl w2.heap.size 3 i0 _ 1 8 Try.underlying143 hi0 hz0 hz1 hz2 rfl (by omega) _ (o.length + 1) (intCells (o ++ [id])) rfl (HO1.out.alloc _) (_ + 1) (some ⟨_, 0, none⟩) 1 1 (intCells [y]) rfl (int_new _ y 3) (intCells_one _) (by simp only [maxLen]; omega) (by omega) (by simp; omega) ?_; intro v2 w4 hown2 hg2 hat2))
              have hB2 : Below w2.heap.size w2 w4 := (HB1.out.alloc (by omega) _).grown hg2 (by simp; omega) (HO1.out.own_lt ·)
              rw [← intCells_append] at hown2
              have HB2 := Lib.hid hB2
              have HO2 := Lib.hid hown2
              clear hB2 hown2 hg2 hat2
              go_wp2_with fail
              go_roundw
              case rel => exact ⟨k + 1, by omega, by go_num, by rw [HE.out], by rw [HE.out]; simpa using HO2.out, HB2.out⟩
              case measure => simp [intOf]; omega
            · simp only [hid, and_false, if_false, Bool.false_or, decide_false] at HE
              go_wp2_with (at_builtin; refine wpList_append_any _ rfl (.tmp 47) (.tmp 52) _ rfl w2.heap.size 3 i0 _ 1 8 Try.underlying143 hi0 hz0 hz1 hz2 rfl (by omega) _ o.length (intCells o) rfl (HO.out.alloc _) (wr.heap.size + 1) (some ⟨wr.heap.size, 0, none⟩) 1 1 (intCells [y]) rfl HNy.out (intCells_one _) (by simp only [maxLen]; omega) (by omega) (by simp; omega) ?_; intro v1 w3 hown1 hg1 hat1)
              have hB1 : Below w2.heap.size w2 w3 := (HBr.out.alloc (by omega) _).grown hg1 (by simp; omega) (HO.out.own_lt ·)
              rw [← intCells_append] at hown1
              have HB1 := Lib.hid hB1
              have HO1 := Lib.hid hown1
              clear hB1 hown1 hg1 hat1
              go_wp2_with fail
              go_roundw
              case rel => exact ⟨k + 1, by omega, by go_num, by rw [HE.out], by rw [HE.out]; simpa using HO1.out, HB1.out⟩
              case measure => simp [intOf]; omega
          · simp only [Bool.true_eq_false, false_and, if_false, Bool.true_or] at HE
            go_wp2_with (at_builtin; refine wpList_append_any _ rfl (.tmp 47) (.tmp 52) _ rfl w2.heap.size 3 i0 _ 1 8 Try.underlying143 hi0 hz0 hz1 hz2 rfl (by omega) _ o.length (intCells o) rfl (HO.out.alloc _) (wr.heap.size + 1) (some ⟨wr.heap.size, 0, none⟩) 1 1 (intCells [y]) rfl HNy.out (intCells_one _) (by simp only [maxLen]; omega) (by omega) (by simp; omega) ?_; intro v1 w3 hown1 hg1 hat1)
            have hB1 : Below w2.heap.size w2 w3 := (HBr.out.alloc (by omega) _).grown hg1 (by simp; omega) (HO.out.own_lt ·)
            rw [← intCells_append] at hown1
            have HB1 := Lib.hid hB1
            have HO1 := Lib.hid hown1
            clear hB1 hown1 hg1 hat1
            go_wp2_with fail
            go_roundw
            case rel => exact ⟨k + 1, by omega, by go_num, by rw [HE.out], by rw [HE.out]; simpa using HO1.out, HB1.out⟩
            case measure => simp [intOf]; omega
        · obtain rfl : k = n1 := by omega
          clear hown hb
          have hln : l.take k = l := List.take_of_length_le (by have := HN.out; omega)
          rw [hln] at HO hol ⊢
          clear hln
          have HI2 := Lib.hid (HQ.out l)
          have HV2 := Lib.hid (HV.out hwf i0' (HSN.out trivial trivial))
          obtain ⟨hm1, hm2, hm3, hm4⟩ := HM.out hwf i0' i1' (HSN.out trivial trivial)
          have HM2 := Lib.hid hm3
          have HM3 := Lib.hid hm4
          generalize insM id l = m at HI2 HV2 hm1 hm2 HM2 HM3
          generalize insF id l = s at HI2 HO hol ⊢
          obtain ⟨o, d⟩ := s
          simp only at HI2 HO hol ⊢
          clear hm3 hm4
          cases d
          · have hmo : m = o ++ [id] := HI2.out
            subst hmo
            have HNi := Lib.hid (int_new wr id 3)
            go_wp2_with (at_builtin; refine wpList_append_any _ rfl (.tmp 56) (.tmp 58) _ rfl w2.heap.size 3 i0 _ 1 8 Try.underlying143 hi0 hz0 hz1 hz2 rfl (by omega) _ o.length (intCells o) rfl (HO.out.alloc _) (wr.heap.size + 1) (some ⟨wr.heap.size, 0, none⟩) 1 1 (intCells [id]) rfl HNi.out (intCells_one _) (by simp only [maxLen]; omega) (by omega) (by simp; omega) ?_; intro v1 w3 hown1 hg1 hat1)
            have hB1 : Below w2.heap.size w2 w3 := (HBr.out.alloc (by omega) _).grown hg1 (by simp; omega) (HO.out.own_lt ·)
            rw [← intCells_append] at hown1
            obtain ⟨A3, c3, rfl, _⟩ := own_form hown1
            have hr3 := Rd.of_own hown1
            have HR3 := Lib.hid hr3
            have RB3 := RB2.below hB1 (by omega)
            have hB3 : Below w.heap.size w w3 := HBW.out.trans (hB1.mono (by omega))
            have hs3 : w2.heap.size ≤ w3.heap.size := hB1.size
            have HB3 := Lib.hid hB3
            clear hB1 hB3 hr3
            try clear hown1 hg1 hat1
            go_wp2_with fail
            refine (windowOf_cons A3 (o.length + 1) c3 _ _ HR3.out (by first | exact hm1 | simp) (by first | exact hm2 | (simp at hm2 ⊢; exact hm2)) HM2.out HM3.out).mono ?_
            rintro e w4 ⟨rfl, hb4⟩
            rw [HV2.out]
            have RB4 := RB3.below hb4 (by omega)
            obtain ⟨g0, g1, g2, g3, g4, g5, g6, g7, g8, fz⟩ := RB4.cells9
            have hs4 : w3.heap.size ≤ w4.heap.size := hb4.size
            have HB4 := Lib.hid (HB3.out.trans (hb4.mono (by omega)))
            clear hb4
            unfold Win.val
            go_wp2_with fail
            refine bodyPost_ret (v := .tuple #[.agg #[.int .i64 ot, .bool o0, .bool o1, .bool o2, .bool o3, .bool o4, .bool o5, .bool o6, .bool o7], .bool true, .int .i64 0]) (by simp [results, Try.results150, go_sem, g0, g1, g2, g3, g4, g5, g6, g7, g8]) rfl ?_
            have hB := HB4.out
            exact ⟨rfl, by go_grown⟩
          · have hmo : m = o := HI2.out
            subst hmo
            have hown1 := HO.out
            obtain ⟨A3, c3, rfl, _⟩ := own_form hown1
            have hr3 := Rd.of_own hown1
            have hB1 := HBr.out
            have HR3 := Lib.hid hr3
            have RB3 := RB2.below hB1 (by omega)
            have hB3 : Below w.heap.size w wr := HBW.out.trans (hB1.mono (by omega))
            have hs3 : w2.heap.size ≤ wr.heap.size := hB1.size
            have HB3 := Lib.hid hB3
            clear hB1 hB3 hr3
            try clear hown1 hg1 hat1
            go_wp2_with fail
            refine (windowOf_cons A3 (m.length) c3 _ _ HR3.out (by first | exact hm1 | simp) (by first | exact hm2 | (simp at hm2 ⊢; exact hm2)) HM2.out HM3.out).mono ?_
            rintro e w4 ⟨rfl, hb4⟩
            rw [HV2.out]
            have RB4 := RB3.below hb4 (by omega)
            obtain ⟨g0, g1, g2, g3, g4, g5, g6, g7, g8, fz⟩ := RB4.cells9
            have hs4 : wr.heap.size ≤ w4.heap.size := hb4.size
            have HB4 := Lib.hid (HB3.out.trans (hb4.mono (by omega)))
            clear hb4
            unfold Win.val
            go_wp2_with fail
            refine bodyPost_ret (v := .tuple #[.agg #[.int .i64 ot, .bool o0, .bool o1, .bool o2, .bool o3, .bool o4, .bool o5, .bool o6, .bool o7], .bool true, .int .i64 0]) (by simp [results, Try.results150, go_sem, g0, g1, g2, g3, g4, g5, g6, g7, g8]) rfl ?_
            have hB := HB4.out
            exact ⟨rfl, by go_grown⟩
    · have e := HZ.out
      rw [if_neg (by simp), if_pos rfl] at e
      subst e
      go_wp2_with fail
      refine bodyPost_ret (v := .tuple #[.agg #[.int .i64 t, .bool b0, .bool b1, .bool b2, .bool b3, .bool b4, .bool b5, .bool b6, .bool b7], .bool false, .int .i64 0]) (by simp [results, Try.results150, go_sem, r0, r1, r2, r3, r4, r5, r6, r7, r8]) rfl ?_
      have hB := HB.out
      exact ⟨rfl, by go_grown⟩
  · have e := HZ.out
    rw [if_pos hrk] at e
    subst e
    go_wp2_with fail
    refine bodyPost_ret (v := .tuple #[.agg #[.int .i64 0, .bool false, .bool false, .bool false, .bool false, .bool false, .bool false, .bool false, .bool false], .bool false, .int .i64 rk]) (by simp [results, Try.results150, go_sem, r0, r1, r2, r3, r4, r5, r6, r7, r8]) rfl ?_
    have hB := HB.out
    exact ⟨rfl, by go_grown⟩
end Go.Proofs.Ytkjlafpafmihaaa

namespace Go.Proofs.Ytkjlafpafmihaaa
open Go.ChangeShapes Go.WideShapes Go.RowKit

theorem seen_low {x : Win} {id : Int} (h : (seenM x id).2 = 0) : x.top - 8 ≤ id := by
  have hz := seen_zero h
  unfold seenM at h
  rw [if_neg (by simp [hz.1]), if_neg (by omega)] at h
  by_cases h1 : x.top ≤ id
  · omega
  · rw [if_neg h1] at h
    by_cases h2 : id < x.top - 8
    · rw [if_pos h2] at h
      cases h
    · omega
theorem lowest_any (t : Int) (b0 b1 b2 b3 b4 b5 b6 b7 : Bool) (w : World) (h0 : 0 ≤ t) (h1 : t ≤ 1073741825) :
    Calls Try.prog 165 #[.agg #[.int .i64 t, .bool b0, .bool b1, .bool b2, .bool b3, .bool b4, .bool b5, .bool b6, .bool b7]] w fun e w' => e = .returned (.int .i64 (t - 8)) ∧ Below w.heap.size w w' :=
  lowest_calls ⟨t, b0, b1, b2, b3, b4, b5, b6, b7⟩ w h0 h1
theorem ids_bits (T t : Int) (f : Nat → Bool) (k : Nat) : bitsTo T (idsTo t f (k + 1)) = if f k = true then setBit (bitsTo T (idsTo t f k)) (t - 8 + k - T + 8) else bitsTo T (idsTo t f k) := by
  rw [show idsTo t f (k + 1) = if f k = true then idsTo t f k ++ [t - 8 + k] else idsTo t f k from rfl]
  split
  · rw [bitsTo_snoc]
  · rfl

structure TB (w : World) (T : Int) (bs : List Bool) (row : Array Value) (b2 : Nat) (wr : World) : Prop where
  below : Below w.heap.size w wr
  arg : Blk wr w.heap.size row 26
  res : Blk wr (w.heap.size + 1) #[.int .i64 0, .bool false, .bool false, .bool false, .bool false, .bool false, .bool false, .bool false, .bool false] 26
  out : Blk wr b2 (winRow T bs) 26

theorem winRow_cell {w : World} {b : Nat} {T : Int} {bs : List Bool} {ty : TypeId} (h : Blk w b (winRow T bs) ty) {j : Nat} (hj : j < bs.length) : w.cell? ⟨b, 1 + j, none⟩ = some (.bool (bs.getD j false)) :=
  h.cell (by rw [Nat.add_comm]; simp [winRow, hj])
theorem winRow_set (T : Int) (bs : List Bool) (j : Nat) : (winRow T bs).setIfInBounds (1 + j) (.bool true) = winRow T (bs.set j true) := by
  simp [winRow, Nat.add_comm 1 j, List.map_set]
theorem TB.on {w wr wx : World} {T : Int} {bs : List Bool} {row : Array Value} {b2 : Nat} (h : TB w T bs row b2 wr) (hb : Below wr.heap.size wr wx) : TB w T bs row b2 wx :=
  ⟨h.below.trans (hb.mono h.below.size), h.arg.on hb, h.res.on hb, h.out.on hb⟩
theorem TB.set_ {w wr : World} {T : Int} {bs : List Bool} {row : Array Value} {b2 : Nat} (h : TB w T bs row b2 wr) (hb : w.heap.size + 1 < b2) (j : Nat) : TB w T (bs.set j true) row b2 (wr.setCell ⟨b2, 1 + j, none⟩ (.bool true)) :=
  ⟨h.below.setCell (by simp; omega) _, h.arg.other _ (by simp; omega) _, h.res.other _ (by simp; omega) _, (h.out.set_ _ _).cast (winRow_set _ _ _)⟩

set_option maxRecDepth 100000 in
set_option maxHeartbeats 4000000 in
theorem WTake_calls (x : Win) (id : Int) (w : World) : Calls Try.prog 174 #[x.val, .int .i64 id] w (WTakePost w (takeW x id)) := by
  have HS := Lib.hid (WSeen_calls x id)
  have HT := Lib.hid (winFault_zero (x := x))
  have HSZ := Lib.hid (seen_zero (x := x) (id := id))
  have HSL := Lib.hid (seen_low (x := x) (id := id))
  have HX := Lib.hid (win_index x)
  have HZ0 : Hid (∀ z, z = takeW x id → z = if (seenM x id).2 ≠ 0 then (zeroWin, false, (seenM x id).2) else if (seenM x id).1 = true then (x, false, 0) else (outM x id, true, 0)) := Lib.hid (fun z h => h)
  generalize hz : takeW x id = z
  have HZ := Lib.hid (HZ0.out z hz.symm)
  clear hz HZ0
  have HW : Hid (outM x id = winOn (max x.top (id + 1)) (setBit (bitsTo (max x.top (id + 1)) (idsTo x.top x.at 8)) (id - max x.top (id + 1) + 8))) := by
    unfold Hid outM
    rw [bitsTo_snoc]
  generalize outM x id = ow at HZ HW
  generalize winFault x = wf at HT HSZ
  generalize seenM x id = r at HS HSZ HSL HZ
  have hat := Lib.hid (rfl : x.at = x.at)
  generalize x.at = f at HX HW hat
  clear hat
  obtain ⟨rb, rk⟩ := r
  obtain ⟨t, b0, b1, b2, b3, b4, b5, b6, b7⟩ := x
  unfold Win.val at *
  simp only at HT HSZ HSL HS HZ HX HW ⊢
  go_enter Try.func174, Try.ntmps174
  go_wp2_with fail
  refine (HS.out _).mono ?_
  rintro e w1 ⟨rfl, hb1⟩
  have RA := ((Blk.new w _ _).alloc _).below hb1 (by simp; omega)
  have RB := (Blk.new1 w _ _ _).below hb1 (by simp)
  obtain ⟨c0, c1, c2, c3, c4, c5, c6, c7, c8, cf⟩ := RA.cells9
  obtain ⟨r0, r1, r2, r3, r4, r5, r6, r7, r8, rf⟩ := RB.cells9
  have hsz : w.heap.size + 2 ≤ w1.heap.size := by have := hb1.size; simp at this; omega
  have HB : Hid (Below w.heap.size w w1) := Lib.hid ((((Below.refl _ w).alloc (Nat.le_refl _) _).alloc (by simp) _).trans (hb1.mono (by simp; omega)))
  clear hb1
  by_cases hrk : rk = 0
  · obtain ⟨hwf, i0', i1'⟩ := HSZ.out hrk
    have hlow := HSL.out hrk
    subst hrk
    obtain ⟨t0, t1⟩ := HT.out hwf
    cases rb
    · have e := HZ.out
      rw [if_neg (by simp), if_neg (by simp)] at e
      subst e
      have hz0 : w.heap.size < w1.heap.size := by omega
      have hz1 : w.heap.size + 1 < w1.heap.size := by omega
      by_cases hT : t < id + 1
      · have hT2 : t ≤ id := by omega
        rw [show max t (id + 1) = id + 1 by omega] at HW
        have hB := HB.out
        go_wp2_with fail
        go_loopw [33] (fun i wr => ∃ k : Nat, k ≤ 8 ∧ i = .int .i64 k ∧ TB w (id + 1) (bitsTo (id + 1) (idsTo t f k)) #[.int .i64 t, .bool b0, .bool b1, .bool b2, .bool b3, .bool b4, .bool b5, .bool b6, .bool b7] w1.heap.size wr) (fun i _ => 8 - (intOf i).toNat)
        case atStart => exact ⟨0, by omega, rfl, ⟨hB.alloc (by omega) _, RA.alloc _, RB.alloc _, Blk.new w1 _ _⟩⟩
        case round =>
          obtain ⟨k, hk, rfl, hw⟩ := hrel
          have HW2 := Lib.hid hw
          have hlen := bitsTo_len (id + 1) (idsTo t f k)
          have hzr : w1.heap.size < wr.heap.size := hw.out.lt
          obtain ⟨c0, c1, c2, c3, c4, c5, c6, c7, c8, cf⟩ := hw.arg.cells9
          by_cases hlt : k < 8
          · have HE := Lib.hid (ids_bits (id + 1) t f k)
            have hx := HX.out k hlt
            generalize bitsTo (id + 1) (idsTo t f k) = bs at HW2 HE hlen hw
            obtain ⟨a0, a1, a2, a3, a4, a5, a6, a7, rfl⟩ := eight hlen
            obtain ⟨d0, d1, d2, d3, d4, d5, d6, d7, d8, df⟩ := hw.out.cells9
            clear hw
            go_upto_region 10 with fail
            go_cut [12, 33] from 33 to 52 (fun s12 s33 wx => s12 = .int .i64 (t - 8 + k - ((id + 1) - 8)) ∧ s33 = .int .i64 k ∧ Below wr.heap.size wr wx)
            case first =>
              go_region_with (go_at_call 165; refine (lowest_any _ _ _ _ _ _ _ _ _ _ (by omega) (by omega)).mono ?_; rintro e w2 ⟨rfl, hb2⟩; have hbx : Below wr.heap.size wr w2 := (by first | exact ⟨hb2.os, hb2.tape, hb2.output, hb2.size, hb2.block⟩ | exact Below.trans hbx (hb2.mono hbx.size)); obtain ⟨hc2, hf2⟩ := bcell hbx)
              all_goals (go_wp2_with fail; go_meet; exact ⟨by rw [IntWalk.i64_in (t - 8 + (k : Int)) (by omega), IntWalk.i64_in _ (by omega)], rfl, hbx⟩)
            case rest =>
              obtain ⟨hs12, rfl, hbx⟩ := hcut
              have HW3 := Lib.hid (HW2.out.on hbx)
              clear HW2 hbx c0 c1 c2 c3 c4 c5 c6 c7 c8 cf d0 d1 d2 d3 d4 d5 d6 d7 d8 df
              cases hfk : f k
              · rw [hfk] at hx HE
                simp only [Bool.false_eq_true, if_false] at HE
                subst hs12
                clear hfk
                go_wp2_with fail
                go_roundw
                case rel => exact ⟨k + 1, by omega, by go_num, by rw [HE.out]; exact HW3.out⟩
                case measure => simp [intOf]; omega
              · rw [hfk] at hx HE
                simp only [if_true] at HE
                clear hfk
                by_cases hneg : t - 8 + (k : Int) - ((id + 1) - 8) < 0
                · rw [setBit, if_neg (by omega)] at HE
                  subst hs12
                  go_wp2_with fail
                  go_roundw
                  case rel => exact ⟨k + 1, by omega, by go_num, by rw [HE.out]; exact HW3.out⟩
                  case measure => simp [intOf]; omega
                · obtain ⟨j, hj⟩ := Int.eq_ofNat_of_zero_le (show 0 ≤ t - 8 + (k : Int) - ((id + 1) - 8) by omega)
                  have hj8 : j < 8 := by omega
                  rw [setBit, if_pos (by omega), show t - 8 + (k : Int) - (id + 1) + 8 = (j : Int) by omega, Int.toNat_natCast] at HE
                  rw [hj] at hs12
                  subst hs12
                  have cj := winRow_cell HW3.out.out (j := j) (by simpa using hj8)
                  have fj := HW3.out.out.free (1 + j)
                  clear hj hneg
                  go_wp2_with fail
                  go_roundw
                  case rel => exact ⟨k + 1, by omega, by go_num, by rw [HE.out]; exact HW3.out.set_ hz1 j⟩
                  case measure => simp [intOf]; omega
          · obtain rfl : k = 8 := by omega
            have HW4 := Lib.hid HW.out
            generalize bitsTo (id + 1) (idsTo t f 8) = bs at HW2 HW4 hlen hw
            obtain ⟨a0, a1, a2, a3, a4, a5, a6, a7, rfl⟩ := eight hlen
            obtain ⟨d0, d1, d2, d3, d4, d5, d6, d7, d8, df⟩ := hw.out.cells9
            clear hw c0 c1 c2 c3 c4 c5 c6 c7 c8 cf
            go_wp2_with fail
            refine (lowest_any _ _ _ _ _ _ _ _ _ _ (by omega) (by omega)).mono ?_
            rintro e w3 ⟨rfl, hb3⟩
            have HW3 := Lib.hid (HW2.out.on hb3)
            clear hb3 d0 d1 d2 d3 d4 d5 d6 d7 d8 df
            obtain ⟨j, hj⟩ := Int.eq_ofNat_of_zero_le (show 0 ≤ id - ((id + 1) - 8) by omega)
            have hj8 : j < 8 := by omega
            rw [setBit, if_pos (by omega), show id - (id + 1) + 8 = (j : Int) by omega, Int.toNat_natCast] at HW4
            have cj := winRow_cell HW3.out.out (j := j) (by simpa using hj8)
            have fj := HW3.out.out.free (1 + j)
            have HJ := Lib.hid hj
            have HW5 := Lib.hid (HW3.out.set_ hz1 j)
            have hl2 : ([a0, a1, a2, a3, a4, a5, a6, a7].set j true).length = 8 := by simp
            generalize [a0, a1, a2, a3, a4, a5, a6, a7].set j true = bs2 at HW4 HW5 hl2
            obtain ⟨p0, p1, p2, p3, p4, p5, p6, p7, rfl⟩ := eight hl2
            obtain ⟨d0, d1, d2, d3, d4, d5, d6, d7, d8, df⟩ := HW5.out.out.cells9
            obtain ⟨g0, g1, g2, g3, g4, g5, g6, g7, g8, gf⟩ := HW5.out.res.cells9
            clear hl2
            go_wp2_with fail
            refine bodyPost_ret (v := .tuple #[.agg #[.int .i64 (id + 1), .bool p0, .bool p1, .bool p2, .bool p3, .bool p4, .bool p5, .bool p6, .bool p7], .bool true, .int .i64 0]) (by simp [results, Try.results174, go_sem, g0, g1, g2, g3, g4, g5, g6, g7, g8]) rfl ?_
            have hB := HW5.out.below
            exact ⟨by rw [HW4.out]; rfl, by go_grown⟩
      · have hT2 : ¬ t ≤ id := by omega
        rw [show max t (id + 1) = t by omega] at HW
        have hB := HB.out
        go_wp2_with fail
        go_loopw [33] (fun i wr => ∃ k : Nat, k ≤ 8 ∧ i = .int .i64 k ∧ TB w (t) (bitsTo (t) (idsTo t f k)) #[.int .i64 t, .bool b0, .bool b1, .bool b2, .bool b3, .bool b4, .bool b5, .bool b6, .bool b7] w1.heap.size wr) (fun i _ => 8 - (intOf i).toNat)
        case atStart => exact ⟨0, by omega, rfl, ⟨hB.alloc (by omega) _, RA.alloc _, RB.alloc _, Blk.new w1 _ _⟩⟩
        case round =>
          obtain ⟨k, hk, rfl, hw⟩ := hrel
          have HW2 := Lib.hid hw
          have hlen := bitsTo_len (t) (idsTo t f k)
          have hzr : w1.heap.size < wr.heap.size := hw.out.lt
          obtain ⟨c0, c1, c2, c3, c4, c5, c6, c7, c8, cf⟩ := hw.arg.cells9
          by_cases hlt : k < 8
          · have HE := Lib.hid (ids_bits (t) t f k)
            have hx := HX.out k hlt
            generalize bitsTo (t) (idsTo t f k) = bs at HW2 HE hlen hw
            obtain ⟨a0, a1, a2, a3, a4, a5, a6, a7, rfl⟩ := eight hlen
            obtain ⟨d0, d1, d2, d3, d4, d5, d6, d7, d8, df⟩ := hw.out.cells9
            clear hw
            go_upto_region 10 with fail
            go_cut [12, 33] from 33 to 52 (fun s12 s33 wx => s12 = .int .i64 (t - 8 + k - ((t) - 8)) ∧ s33 = .int .i64 k ∧ Below wr.heap.size wr wx)
            case first =>
              go_region_with (go_at_call 165; refine (lowest_any _ _ _ _ _ _ _ _ _ _ (by omega) (by omega)).mono ?_; rintro e w2 ⟨rfl, hb2⟩; have hbx : Below wr.heap.size wr w2 := (by first | exact ⟨hb2.os, hb2.tape, hb2.output, hb2.size, hb2.block⟩ | exact Below.trans hbx (hb2.mono hbx.size)); obtain ⟨hc2, hf2⟩ := bcell hbx)
              all_goals (go_wp2_with fail; go_meet; exact ⟨by rw [IntWalk.i64_in (t - 8 + (k : Int)) (by omega), IntWalk.i64_in _ (by omega)], rfl, hbx⟩)
            case rest =>
              obtain ⟨hs12, rfl, hbx⟩ := hcut
              have HW3 := Lib.hid (HW2.out.on hbx)
              clear HW2 hbx c0 c1 c2 c3 c4 c5 c6 c7 c8 cf d0 d1 d2 d3 d4 d5 d6 d7 d8 df
              cases hfk : f k
              · rw [hfk] at hx HE
                simp only [Bool.false_eq_true, if_false] at HE
                subst hs12
                clear hfk
                go_wp2_with fail
                go_roundw
                case rel => exact ⟨k + 1, by omega, by go_num, by rw [HE.out]; exact HW3.out⟩
                case measure => simp [intOf]; omega
              · rw [hfk] at hx HE
                simp only [if_true] at HE
                clear hfk
                by_cases hneg : t - 8 + (k : Int) - ((t) - 8) < 0
                · exact absurd hneg (by omega)
                · obtain ⟨j, hj⟩ := Int.eq_ofNat_of_zero_le (show 0 ≤ t - 8 + (k : Int) - ((t) - 8) by omega)
                  have hj8 : j < 8 := by omega
                  rw [setBit, if_pos (by omega), show t - 8 + (k : Int) - (t) + 8 = (j : Int) by omega, Int.toNat_natCast] at HE
                  rw [hj] at hs12
                  subst hs12
                  have cj := winRow_cell HW3.out.out (j := j) (by simpa using hj8)
                  have fj := HW3.out.out.free (1 + j)
                  clear hj hneg
                  go_wp2_with fail
                  go_roundw
                  case rel => exact ⟨k + 1, by omega, by go_num, by rw [HE.out]; exact HW3.out.set_ hz1 j⟩
                  case measure => simp [intOf]; omega
          · obtain rfl : k = 8 := by omega
            have HW4 := Lib.hid HW.out
            generalize bitsTo (t) (idsTo t f 8) = bs at HW2 HW4 hlen hw
            obtain ⟨a0, a1, a2, a3, a4, a5, a6, a7, rfl⟩ := eight hlen
            obtain ⟨d0, d1, d2, d3, d4, d5, d6, d7, d8, df⟩ := hw.out.cells9
            clear hw c0 c1 c2 c3 c4 c5 c6 c7 c8 cf
            go_wp2_with fail
            refine (lowest_any _ _ _ _ _ _ _ _ _ _ (by omega) (by omega)).mono ?_
            rintro e w3 ⟨rfl, hb3⟩
            have HW3 := Lib.hid (HW2.out.on hb3)
            clear hb3 d0 d1 d2 d3 d4 d5 d6 d7 d8 df
            obtain ⟨j, hj⟩ := Int.eq_ofNat_of_zero_le (show 0 ≤ id - ((t) - 8) by omega)
            have hj8 : j < 8 := by omega
            rw [setBit, if_pos (by omega), show id - (t) + 8 = (j : Int) by omega, Int.toNat_natCast] at HW4
            have cj := winRow_cell HW3.out.out (j := j) (by simpa using hj8)
            have fj := HW3.out.out.free (1 + j)
            have HJ := Lib.hid hj
            have HW5 := Lib.hid (HW3.out.set_ hz1 j)
            have hl2 : ([a0, a1, a2, a3, a4, a5, a6, a7].set j true).length = 8 := by simp
            generalize [a0, a1, a2, a3, a4, a5, a6, a7].set j true = bs2 at HW4 HW5 hl2
            obtain ⟨p0, p1, p2, p3, p4, p5, p6, p7, rfl⟩ := eight hl2
            obtain ⟨d0, d1, d2, d3, d4, d5, d6, d7, d8, df⟩ := HW5.out.out.cells9
            obtain ⟨g0, g1, g2, g3, g4, g5, g6, g7, g8, gf⟩ := HW5.out.res.cells9
            clear hl2
            go_wp2_with fail
            refine bodyPost_ret (v := .tuple #[.agg #[.int .i64 (t), .bool p0, .bool p1, .bool p2, .bool p3, .bool p4, .bool p5, .bool p6, .bool p7], .bool true, .int .i64 0]) (by simp [results, Try.results174, go_sem, g0, g1, g2, g3, g4, g5, g6, g7, g8]) rfl ?_
            have hB := HW5.out.below
            exact ⟨by rw [HW4.out]; rfl, by go_grown⟩
    · have e := HZ.out
      rw [if_neg (by simp), if_pos rfl] at e
      subst e
      go_wp2_with fail
      refine bodyPost_ret (v := .tuple #[.agg #[.int .i64 t, .bool b0, .bool b1, .bool b2, .bool b3, .bool b4, .bool b5, .bool b6, .bool b7], .bool false, .int .i64 0]) (by simp [results, Try.results174, go_sem, r0, r1, r2, r3, r4, r5, r6, r7, r8]) rfl ?_
      have hB := HB.out
      exact ⟨rfl, by go_grown⟩
  · have e := HZ.out
    rw [if_pos hrk] at e
    subst e
    go_wp2_with fail
    refine bodyPost_ret (v := .tuple #[.agg #[.int .i64 0, .bool false, .bool false, .bool false, .bool false, .bool false, .bool false, .bool false, .bool false], .bool false, .int .i64 rk]) (by simp [results, Try.results174, go_sem, r0, r1, r2, r3, r4, r5, r6, r7, r8]) rfl ?_
    have hB := HB.out
    exact ⟨rfl, by go_grown⟩
end Go.Proofs.Ytkjlafpafmihaaa

namespace Go.Proofs.Ytkjlafpafmihaaa
open Go.ChangeShapes Go.WideShapes Go.RowKit

structure Msg where
  no : Int
  body : Int
  deriving DecidableEq
structure Ls where
  hep : Int
  hno : Int
  msg : Msg
  deriving DecidableEq
structure Wins where
  a : Win
  b : Win
  c : Win
  d : Win
  deriving DecidableEq
structure Qd where
  ep : Int
  nx : Int
  gv : Int
  ready : List Msg
  leases : List Ls
  ws : Wins
  deriving DecidableEq
def Msg.cells (m : Msg) : List Value := [.int .i64 m.no, .int .i64 m.body]
def Ls.cells (x : Ls) : List Value := [.int .i64 x.hep, .int .i64 x.hno, .int .i64 x.msg.no, .int .i64 x.msg.body]
def Wins.cells (x : Wins) : List Value := x.a.cells ++ (x.b.cells ++ (x.c.cells ++ x.d.cells))
def Wins.at (x : Wins) (p : Nat) : Win := if p = 0 then x.a else if p = 1 then x.b else if p = 2 then x.c else x.d
def Wins.put (x : Wins) (p : Nat) (y : Win) : Wins := if p = 0 then { x with a := y } else if p = 1 then { x with b := y } else if p = 2 then { x with c := y } else { x with d := y }
theorem Wins.len (x : Wins) : x.cells.length = 36 := rfl
theorem Win.len (x : Win) : x.cells.length = 9 := rfl
/-- A queue's cells; r, l: its two slices. -/
def qRow (e n g : Int) (r l : Value) (W : Wins) : Array Value := (.int .i64 e :: .int .i64 n :: .int .i64 g :: r :: l :: W.cells).toArray

def zeroWs : Wins := ⟨zeroWin, zeroWin, zeroWin, zeroWin⟩
section
variable {e n g : Int} {r l : Value} {W : Wins}
theorem qRow_size : (qRow e n g r l W).size = 41 := rfl
theorem qRow_g0 : (qRow e n g r l W)[0]? = some (.int .i64 e) := rfl
theorem qRow_g1 : (qRow e n g r l W)[1]? = some (.int .i64 n) := rfl
theorem qRow_g2 : (qRow e n g r l W)[2]? = some (.int .i64 g) := rfl
theorem qRow_g3 : (qRow e n g r l W)[3]? = some r := rfl
theorem qRow_g4 : (qRow e n g r l W)[4]? = some l := rfl
theorem qRow_ws : ∀ (j : Nat) (u : Value), W.cells[j]? = some u → (qRow e n g r l W)[5 + j]? = some u := sub_row (m := 36) rfl
theorem qRow_w0 : ∀ (j : Nat) (u : Value), (W.at 0).cells[j]? = some u → (qRow e n g r l W)[5 + j]? = some u := sub_row (m := 9) rfl
theorem qRow_w1 : ∀ (j : Nat) (u : Value), (W.at 1).cells[j]? = some u → (qRow e n g r l W)[14 + j]? = some u := sub_row (m := 9) rfl
theorem qRow_w2 : ∀ (j : Nat) (u : Value), (W.at 2).cells[j]? = some u → (qRow e n g r l W)[23 + j]? = some u := sub_row (m := 9) rfl
theorem qRow_w3 : ∀ (j : Nat) (u : Value), (W.at 3).cells[j]? = some u → (qRow e n g r l W)[32 + j]? = some u := sub_row (m := 9) rfl
theorem qRow_s0 {z : Int} : setAll (qRow e n g r l W) 0 [.int .i64 z] = qRow z n g r l W := rfl
theorem qRow_s1 {z : Int} : setAll (qRow e n g r l W) 1 [.int .i64 z] = qRow e z g r l W := rfl
theorem qRow_s2 {z : Int} : setAll (qRow e n g r l W) 2 [.int .i64 z] = qRow e n z r l W := rfl
theorem qRow_s3 {z : Value} : setAll (qRow e n g r l W) 3 [z] = qRow e n g z l W := rfl
theorem qRow_s4 {z : Value} : setAll (qRow e n g r l W) 4 [z] = qRow e n g r z W := rfl
theorem qRow_p0 {x : Win} : setAll (qRow e n g r l W) 5 x.cells = qRow e n g r l (W.put 0 x) := by
  apply Array.toList_inj.1
  rw [setAll_list _ _ _ (by rw [qRow_size, Win.len]; omega)]
  rfl
theorem qRow_p1 {x : Win} : setAll (qRow e n g r l W) 14 x.cells = qRow e n g r l (W.put 1 x) := by
  apply Array.toList_inj.1
  rw [setAll_list _ _ _ (by rw [qRow_size, Win.len]; omega)]
  rfl
theorem qRow_p2 {x : Win} : setAll (qRow e n g r l W) 23 x.cells = qRow e n g r l (W.put 2 x) := by
  apply Array.toList_inj.1
  rw [setAll_list _ _ _ (by rw [qRow_size, Win.len]; omega)]
  rfl
theorem qRow_p3 {x : Win} : setAll (qRow e n g r l W) 32 x.cells = qRow e n g r l (W.put 3 x) := by
  apply Array.toList_inj.1
  rw [setAll_list _ _ _ (by rw [qRow_size, Win.len]; omega)]
  rfl
theorem win_one (x : Win) : ∀ u ∈ x.cells, u.oneCell' = true := oneAll rfl
theorem wins_one (x : Wins) : ∀ u ∈ x.cells, u.oneCell' = true := oneAll rfl
theorem qRow_one (hr : r.oneCell' = true) (hl : l.oneCell' = true) : ∀ u ∈ (qRow e n g r l W).toList, u.oneCell' = true := by
  intro u hu
  simp only [qRow, List.mem_cons] at hu
  rcases hu with rfl | rfl | rfl | rfl | rfl | hu
  · rfl
  · rfl
  · rfl
  · exact hr
  · exact hl
  · exact wins_one W u hu
end
def IPost (w : World) (k : Int) (e : Ending) (w' : World) : Prop := e = .returned (.int .i64 k) ∧ Below w.heap.size w w'
def BoolB (w : World) (b : Bool) (e : Ending) (w' : World) : Prop := e = .returned (.bool b) ∧ Below w.heap.size w w'

/-- P4.1. -/
def msgOk (nx : Int) (m : Msg) : Bool := decide (0 ≤ m.no ∧ m.no < nx ∧ 0 ≤ m.body ∧ m.body ≤ 1000000)
theorem msgOk_of {nx : Int} {m : Msg} (h : msgOk nx m = true) : 0 ≤ m.no ∧ m.no < nx ∧ 0 ≤ m.body ∧ m.body ≤ 1000000 := of_decide_eq_true h
def rdyFrom (nx : Int) : Int → List Msg → Bool
  | _, [] => true
  | p, m :: r => (msgOk nx m && decide (p < m.no)) && rdyFrom nx m.no r
def lsOk (ep nx gv p : Int) (x : Ls) : Bool := msgOk nx x.msg && decide (x.hep = ep ∧ p < x.hno ∧ x.hno < gv)
def lsFrom (ep nx gv : Int) : Int → List Ls → Bool
  | _, [] => true
  | p, x :: r => lsOk ep nx gv p x && lsFrom ep nx gv x.hno r
def nosOf (rs : List Msg) (ls : List Ls) : List Int := rs.map (·.no) ++ ls.map (·.msg.no)
def rngQ (ep nx gv : Int) (rs : List Msg) (ls : List Ls) : Prop := 0 ≤ ep ∧ ep ≤ 1048576 ∧ 0 ≤ nx ∧ nx ≤ 1073741824 ∧ 0 ≤ gv ∧ gv ≤ 1073741824 ∧ rs.length + ls.length ≤ 500
def winsOk (W : Wins) : Prop := ∀ j, j < 4 → winFault (W.at j) = 0
open Classical in
noncomputable def queueFault (ep nx gv : Int) (rs : List Msg) (ls : List Ls) (W : Wins) : Int :=
  if ¬ rngQ ep nx gv rs ls then 6 else if ¬ winsOk W then 6 else if rdyFrom nx (-1) rs = true ∧ lsFrom ep nx gv (-1) ls = true ∧ (nosOf rs ls).Nodup then 0 else 6
section
variable {ep nx gv p : Int} {rs : List Msg} {ls : List Ls} {W : Wins}
theorem qf_rng (h : ¬ (0 ≤ ep ∧ ep ≤ 1048576 ∧ 0 ≤ nx ∧ nx ≤ 1073741824 ∧ 0 ≤ gv ∧ gv ≤ 1073741824 ∧ rs.length + ls.length ≤ 500)) : queueFault ep nx gv rs ls W = 6 := if_pos h
theorem qf_bad (h : ¬ (winsOk W ∧ rdyFrom nx (-1) rs = true ∧ lsFrom ep nx gv (-1) ls = true ∧ (nosOf rs ls).Nodup)) : queueFault ep nx gv rs ls W = 6 := by
  unfold queueFault
  split
  · rfl
  · split
    · rfl
    · rename_i h1 h2
      rw [if_neg (fun h3 => h ⟨Classical.not_not.1 h2, h3⟩)]
theorem qf_win {j : Nat} (hj : j < 4) (h : winFault (W.at j) ≠ 0) : queueFault ep nx gv rs ls W = 6 := qf_bad fun h1 => h (h1.1 j hj)
theorem qf_ok (h0 : rngQ ep nx gv rs ls) (h1 : winsOk W) (h2 : rdyFrom nx (-1) rs = true) (h3 : lsFrom ep nx gv (-1) ls = true) (h4 : (nosOf rs ls).Nodup) : queueFault ep nx gv rs ls W = 0 := by
  unfold queueFault
  rw [if_neg (fun h => h h0), if_neg (fun h => h h1), if_pos ⟨h2, h3, h4⟩]
theorem rdy_step {k : Nat} {m : Msg} (h : rs[k]? = some m) : rdyFrom nx p (rs.drop k) = ((msgOk nx m && decide (p < m.no)) && rdyFrom nx m.no (rs.drop (k + 1))) := by
  obtain ⟨hk, hm⟩ := List.getElem?_eq_some_iff.1 h
  rw [List.drop_eq_getElem_cons hk, hm]
  rfl
theorem ls_step {k : Nat} {x : Ls} (h : ls[k]? = some x) : lsFrom ep nx gv p (ls.drop k) = (lsOk ep nx gv p x && lsFrom ep nx gv x.hno (ls.drop (k + 1))) := by
  obtain ⟨hk, hm⟩ := List.getElem?_eq_some_iff.1 h
  rw [List.drop_eq_getElem_cons hk, hm]
  rfl
theorem take_map {α β : Type} {f : α → β} {l : List α} {k : Nat} {x : α} (h : l[k]? = some x) : (l.take k).map f ++ [f x] = (l.take (k + 1)).map f := by
  rw [List.take_add_one, h]
  simp
theorem winF_or (x : Win) : winFault x = 0 ∨ winFault x = 6 := by unfold winFault; split <;> simp
end
theorem wins_index0 (W : Wins) (w : World) : (Instr.index 27 (.agg W.cells.toArray) (.int .i64 0)).run Try.prog w = .ok (.agg (W.at 0).cells.toArray) w := by kernel_rfl
theorem wins_index1 (W : Wins) (w : World) : (Instr.index 27 (.agg W.cells.toArray) (.int .i64 1)).run Try.prog w = .ok (.agg (W.at 1).cells.toArray) w := by kernel_rfl
theorem wins_index2 (W : Wins) (w : World) : (Instr.index 27 (.agg W.cells.toArray) (.int .i64 2)).run Try.prog w = .ok (.agg (W.at 2).cells.toArray) w := by kernel_rfl
theorem wins_index3 (W : Wins) (w : World) : (Instr.index 27 (.agg W.cells.toArray) (.int .i64 3)).run Try.prog w = .ok (.agg (W.at 3).cells.toArray) w := by kernel_rfl
theorem wins_index (W : Wins) (k : Nat) (hk : k < 4) (w : World) : (Instr.index 27 (.agg W.cells.toArray) (.int .i64 k)).run Try.prog w = .ok (.agg (W.at k).cells.toArray) w := by
  have h : k = 0 ∨ k = 1 ∨ k = 2 ∨ k = 3 := by omega
  rcases h with rfl | rfl | rfl | rfl
  · exact wins_index0 W w
  · exact wins_index1 W w
  · exact wins_index2 W w
  · exact wins_index3 W w
theorem qRow_wk {e n g : Int} {r l : Value} {W : Wins} {k : Nat} (hk : k < 4) : ∀ (j : Nat) (u : Value), (W.at k).cells[j]? = some u → (qRow e n g r l W)[5 + k * 9 + j]? = some u := by
  have h : k = 0 ∨ k = 1 ∨ k = 2 ∨ k = 3 := by omega
  rcases h with rfl | rfl | rfl | rfl
  · exact qRow_w0
  · exact qRow_w1
  · exact qRow_w2
  · exact qRow_w3
def oneI (z : Int) : List Value := [.int .i64 z]
theorem fm_snoc {α : Type} {enc : α → List Value} {l l' : List α} {x : α} {cs : List Value} (h : l ++ [x] = l') (he : enc x = cs) : l.flatMap enc ++ cs = l'.flatMap enc := by
  subst h
  subst he
  simp
theorem In_t {n lo hi : Int} (h : lo ≤ n ∧ n ≤ hi) (w : World) : Calls Try.prog 107 #[.int .i64 n, .int .i64 lo, .int .i64 hi] w fun e w' => e = .returned (.bool true) ∧ w = w' := by
  have := In_calls n lo hi w
  rw [show inR n lo hi = true by simp [inR, h.1, h.2]] at this
  exact this
theorem In_f {n lo hi : Int} (h : ¬ (lo ≤ n ∧ n ≤ hi)) (w : World) : Calls Try.prog 107 #[.int .i64 n, .int .i64 lo, .int .i64 hi] w fun e w' => e = .returned (.bool false) ∧ w = w' := by
  have := In_calls n lo hi w
  rw [show inR n lo hi = false by simp [inR]; omega] at this
  exact this
theorem msgOk_yes {nx : Int} {m : Msg} (h : 0 ≤ m.no ∧ m.no < nx ∧ 0 ≤ m.body ∧ m.body ≤ 1000000) : msgOk nx m = true := decide_eq_true h
def prevNo (rs : List Msg) (k : Nat) : Int := if k = 0 then -1 else match rs[k - 1]? with | some m => m.no | none => -1
def prevH (ls : List Ls) (k : Nat) : Int := if k = 0 then -1 else match ls[k - 1]? with | some m => m.hno | none => -1
section
variable {ep nx gv p : Int} {rs : List Msg} {ls : List Ls} {k : Nat}
theorem prevNo_zero (h : ¬ (0 : Int) < ((k : Nat) : Int)) : prevNo rs k = -1 := if_pos (by omega)
theorem prevNo_pos {y : Msg} (h : (0 : Int) < ((k : Nat) : Int)) (hy : rs[k - 1]? = some y) : prevNo rs k = y.no := by unfold prevNo; rw [if_neg (by omega), hy]
theorem prevNo_succ {x : Msg} (hx : rs[k]? = some x) : prevNo rs (k + 1) = x.no := by unfold prevNo; rw [if_neg (by omega), Nat.add_sub_cancel, hx]
theorem prevH_zero (h : ¬ (0 : Int) < ((k : Nat) : Int)) : prevH ls k = -1 := if_pos (by omega)
theorem prevH_pos {y : Ls} (h : (0 : Int) < ((k : Nat) : Int)) (hy : ls[k - 1]? = some y) : prevH ls k = y.hno := by unfold prevH; rw [if_neg (by omega), hy]
theorem prevH_succ {x : Ls} (hx : ls[k]? = some x) : prevH ls (k + 1) = x.hno := by unfold prevH; rw [if_neg (by omega), Nat.add_sub_cancel, hx]
theorem rdy_no {x : Msg} (hi : rdyFrom nx (-1) rs = rdyFrom nx p (rs.drop k)) (hx : rs[k]? = some x) (h : ¬ (msgOk nx x = true ∧ p < x.no)) : rdyFrom nx (-1) rs ≠ true := by
  rw [hi, rdy_step hx]
  intro h2
  simp only [Bool.and_eq_true, decide_eq_true_eq] at h2
  exact h h2.1
theorem rdy_yes {x : Msg} (hi : rdyFrom nx (-1) rs = rdyFrom nx p (rs.drop k)) (hx : rs[k]? = some x) (h1 : msgOk nx x = true) (h2 : p < x.no) : rdyFrom nx (-1) rs = rdyFrom nx x.no (rs.drop (k + 1)) := by
  rw [hi, rdy_step hx, h1, decide_eq_true h2]
  rfl
theorem ls_no {x : Ls} (hi : lsFrom ep nx gv (-1) ls = lsFrom ep nx gv p (ls.drop k)) (hx : ls[k]? = some x) (h : ¬ (msgOk nx x.msg = true ∧ x.hep = ep ∧ p < x.hno ∧ x.hno < gv)) : lsFrom ep nx gv (-1) ls ≠ true := by
  rw [hi, ls_step hx, lsOk]
  intro h2
  simp only [Bool.and_eq_true, decide_eq_true_eq] at h2
  exact h h2.1
theorem ls_yes {x : Ls} (hi : lsFrom ep nx gv (-1) ls = lsFrom ep nx gv p (ls.drop k)) (hx : ls[k]? = some x) (h1 : msgOk nx x.msg = true) (h2 : x.hep = ep ∧ p < x.hno ∧ x.hno < gv) : lsFrom ep nx gv (-1) ls = lsFrom ep nx gv x.hno (ls.drop (k + 1)) := by
  rw [hi, ls_step hx, lsOk, h1, decide_eq_true h2]
  rfl
end
theorem nodup_of {ns : List Int} (h : ∀ (i k : Nat) (x y : Int), k < i → ns[i]? = some x → ns[k]? = some y → x ≠ y) : ns.Nodup := by
  unfold List.Nodup
  rw [List.pairwise_iff_getElem]
  intro i j hi hj hij e
  exact h j i _ _ hij (List.getElem?_eq_getElem hj) (List.getElem?_eq_getElem hi) e.symm
theorem not_nodup {ns : List Int} {i k : Nat} {x y : Int} (hk : k < i) (hx : ns[i]? = some x) (hy : ns[k]? = some y) (e : x = y) : ¬ ns.Nodup := by
  intro h
  unfold List.Nodup at h
  rw [List.pairwise_iff_getElem] at h
  obtain ⟨h1, h2⟩ := List.getElem?_eq_some_iff.1 hx
  obtain ⟨h3, h4⟩ := List.getElem?_eq_some_iff.1 hy
  exact h k i h3 h1 hk (by rw [h2, h4, e])
end Go.Proofs.Ytkjlafpafmihaaa

namespace Go.Proofs.Ytkjlafpafmihaaa
open Go.ChangeShapes Go.WideShapes Go.RowKit

structure Ans where
  code : Int
  hep : Int
  hno : Int
  body : Int
  deriving DecidableEq
def ans0 : Ans := ⟨0, 0, 0, 0⟩
def ansE (k : Int) : Ans := ⟨k, 0, 0, 0⟩
def Ans.cells (a : Ans) : List Value := [.int .i64 a.code, .int .i64 a.hep, .int .i64 a.hno, .int .i64 a.body]
def Ans.val (a : Ans) : Value := .agg #[.int .i64 a.code, .int .i64 a.hep, .int .i64 a.hno, .int .i64 a.body]
def pubM (Q : Qd) (k : Nat) (id bd : Int) : Qd × Ans × Bool :=
  if (takeW (Q.ws.at k) id).2.2 ≠ 0 then (Q, ansE (takeW (Q.ws.at k) id).2.2, false)
  else if (takeW (Q.ws.at k) id).2.1 = false then (Q, ans0, false)
  else if Q.ready.length + Q.leases.length = 500 ∨ Q.nx = 1073741824 then (Q, ansE 14, false)
  else (⟨Q.ep, Q.nx + 1, Q.gv, Q.ready ++ [⟨Q.nx, bd⟩], Q.leases, Q.ws.put k (takeW (Q.ws.at k) id).1⟩, ans0, true)
def recM (Q : Qd) : Qd × Ans × Bool := match Q.ready with
  | [] => (Q, ansE 10, false)
  | m :: rest => if Q.gv = 1073741824 then (Q, ansE 14, false) else (⟨Q.ep, Q.nx, Q.gv + 1, rest, Q.leases ++ [⟨Q.ep, Q.gv, m⟩], Q.ws⟩, ⟨0, Q.ep, Q.gv, m.body⟩, true)
def ackM (Q : Qd) (he hn : Int) : Qd × Ans × Bool :=
  if he ≠ Q.ep then (Q, ansE 11, false)
  else if (Q.leases.filter fun x => decide (x.hno ≠ hn)).length = Q.leases.length then (Q, ansE 7, false)
  else (⟨Q.ep, Q.nx, Q.gv, Q.ready, Q.leases.filter fun x => decide (x.hno ≠ hn), Q.ws⟩, ans0, true)
/-- A message laid ahead of the first with a larger number. -/
def putMsg (m : Msg) : List Msg → List Msg
  | [] => [m]
  | x :: l => if m.no < x.no then m :: x :: l else x :: putMsg m l
def endM (Q : Qd) : Qd × Ans × Bool :=
  if Q.ep = 1048576 then (Q, ansE 14, false)
  else (⟨Q.ep + 1, Q.nx, 0, Q.leases.foldl (fun l x => putMsg x.msg l) Q.ready, [], Q.ws⟩, ans0, true)
section
variable {ep nx gv bd id he hn : Int} {rs : List Msg} {ls : List Ls} {W : Wins} {k : Nat}
theorem pub_err (h : ¬ (takeW (W.at k) id).2.2 = 0) : pubM ⟨ep, nx, gv, rs, ls, W⟩ k id bd = (⟨ep, nx, gv, rs, ls, W⟩, ansE (takeW (W.at k) id).2.2, false) := if_pos h
theorem pub_old (h : (takeW (W.at k) id).2.2 = 0) (h1 : (takeW (W.at k) id).2.1 = false) : pubM ⟨ep, nx, gv, rs, ls, W⟩ k id bd = (⟨ep, nx, gv, rs, ls, W⟩, ans0, false) := by
  unfold pubM; rw [if_neg (fun h2 => h2 h), if_pos h1]
theorem pub_full (h : (takeW (W.at k) id).2.2 = 0) (h1 : (takeW (W.at k) id).2.1 = true) (h2 : rs.length + ls.length = 500 ∨ nx = 1073741824) : pubM ⟨ep, nx, gv, rs, ls, W⟩ k id bd = (⟨ep, nx, gv, rs, ls, W⟩, ansE 14, false) := by
  unfold pubM; rw [if_neg (fun h2 => h2 h), if_neg (fun h3 => by rw [h1] at h3; cases h3), if_pos h2]
theorem pub_ok (h : (takeW (W.at k) id).2.2 = 0) (h1 : (takeW (W.at k) id).2.1 = true) (h2 : ¬ (rs.length + ls.length = 500 ∨ nx = 1073741824)) : pubM ⟨ep, nx, gv, rs, ls, W⟩ k id bd = (⟨ep, nx + 1, gv, rs ++ [⟨nx, bd⟩], ls, W.put k (takeW (W.at k) id).1⟩, ans0, true) := by
  unfold pubM; rw [if_neg (fun h2 => h2 h), if_neg (fun h3 => by rw [h1] at h3; cases h3), if_neg h2]
theorem rec_none (h : rs.length = 0) : recM ⟨ep, nx, gv, rs, ls, W⟩ = (⟨ep, nx, gv, rs, ls, W⟩, ansE 10, false) := by
  cases rs with
  | nil => rfl
  | cons m r => simp at h
theorem rec_full (h : ¬ rs.length = 0) (h1 : gv = 1073741824) : recM ⟨ep, nx, gv, rs, ls, W⟩ = (⟨ep, nx, gv, rs, ls, W⟩, ansE 14, false) := by
  cases rs with
  | nil => simp at h
  | cons m r => exact if_pos h1
theorem rec_ok {m : Msg} (h : rs[0]? = some m) (h1 : ¬ gv = 1073741824) : recM ⟨ep, nx, gv, rs, ls, W⟩ = (⟨ep, nx, gv + 1, rs.drop 1, ls ++ [⟨ep, gv, m⟩], W⟩, ⟨0, ep, gv, m.body⟩, true) := by
  cases rs with
  | nil => simp at h
  | cons m r =>
    simp at h
    subst h
    exact if_neg h1
theorem ack_stale (h : ¬ he = ep) : ackM ⟨ep, nx, gv, rs, ls, W⟩ he hn = (⟨ep, nx, gv, rs, ls, W⟩, ansE 11, false) := if_pos h
theorem ack_none (h : he = ep) (h1 : (ls.filter fun x => decide (x.hno ≠ hn)).length = ls.length) : ackM ⟨ep, nx, gv, rs, ls, W⟩ he hn = (⟨ep, nx, gv, rs, ls, W⟩, ansE 7, false) := by
  unfold ackM; rw [if_neg (fun h2 => h2 h), if_pos h1]
theorem ack_ok (h : he = ep) (h1 : ¬ (ls.filter fun x => decide (x.hno ≠ hn)).length = ls.length) : ackM ⟨ep, nx, gv, rs, ls, W⟩ he hn = (⟨ep, nx, gv, rs, ls.filter fun x => decide (x.hno ≠ hn), W⟩, ans0, true) := by
  unfold ackM; rw [if_neg (fun h2 => h2 h), if_neg h1]
theorem end_full (h : ep = 1048576) : endM ⟨ep, nx, gv, rs, ls, W⟩ = (⟨ep, nx, gv, rs, ls, W⟩, ansE 14, false) := if_pos h
theorem end_ok (h : ¬ ep = 1048576) : endM ⟨ep, nx, gv, rs, ls, W⟩ = (⟨ep + 1, nx, 0, ls.foldl (fun l x => putMsg x.msg l) rs, [], W⟩, ans0, true) := if_neg h
end
theorem qRow_pk {e n g : Int} {r l : Value} {W : Wins} {x : Win} {k : Nat} (hk : k < 4) : setAll (qRow e n g r l W) (5 + k * 9) x.cells = qRow e n g r l (W.put k x) := by
  match k, hk with
  | 0, _ => exact qRow_p0
  | 1, _ => exact qRow_p1
  | 2, _ => exact qRow_p2
  | 3, _ => exact qRow_p3
/-- How a method of the desk ends. -/
def DeskPost (B : Nat) (w0 : World) (g : Nat) (fs : List Fact) (r : Qd × Ans × Bool) (e : Ending) (w' : World) : Prop :=
  e = .returned (.tuple #[r.2.1.val, .bool r.2.2]) ∧ ∃ A1 c1 A2 c2, St B w0 w' (.blk g (qRow r.1.ep r.1.nx r.1.gv (.slice A1 r.1.ready.length c1) (.slice A2 r.1.leases.length c2) r.1.ws) 190 :: .rdo 2 A1 r.1.ready.length (r.1.ready.flatMap Msg.cells) :: .rdo 4 A2 r.1.leases.length (r.1.leases.flatMap Ls.cells) :: fs)
end Go.Proofs.Ytkjlafpafmihaaa

namespace Go.Proofs.Ytkjlafpafmihaaa
open Go.ChangeShapes Go.WideShapes Go.RowKit

set_option maxHeartbeats 400000 in
theorem within_calls (n lo hi : Int) (w : World) :
    Calls Try.prog 168 #[.int .i64 n, .int .i64 lo, .int .i64 hi] w fun e w' => e = .returned (.bool (inR n lo hi)) ∧ w = w' := by
  by_cases h1 : lo ≤ n <;> by_cases h2 : n ≤ hi
  all_goals
    go_enter Try.func168, Try.ntmps168
    go_wp2
    go_ret
    exact ⟨by simp [inR]; omega, rfl⟩

/-- P1.3. -/
def evFault (e : Ev) : Int :=
  if ¬ (1 ≤ e.kind ∧ e.kind ≤ 4) then 3
  else if e.kind = 1 ∧ ¬ (inR e.producer 0 3 && inR e.id 0 1073741824 && inR e.body 0 1000000) = true then 2
  else if e.kind = 3 ∧ ¬ (inR e.hepoch 0 1048576 && inR e.hno 0 1073741824) = true then 2
  else if e.kind ≠ 1 ∧ ¬ (e.producer = 0 ∧ e.id = 0 ∧ e.body = 0) then 3
  else if e.kind ≠ 3 ∧ ¬ (e.hepoch = 0 ∧ e.hno = 0) then 3
  else 0

/-- A number, and nothing below the old heap's end turned. -/
def IntPost (w : World) (k : Int) (e : Ending) (w' : World) : Prop := e = .returned (.int .i64 k) ∧ Below w.heap.size w w'


set_option maxRecDepth 100000 in
set_option maxHeartbeats 4000000 in
theorem Check_publish_bad (p i b he hn : Int) (w : World) (hb : (inR p 0 3 && inR i 0 1073741824 && inR b 0 1000000) = false) :
    Calls Try.prog 142 #[Ev.val ⟨1, p, i, b, he, hn⟩] w (IntPost w 2) := by
  unfold Ev.val
  cases r1 : inR p 0 3 <;> cases r2 : inR i 0 1073741824 <;> cases r3 : inR b 0 1000000 <;> simp [r1, r2, r3] at hb
  all_goals
    go_enter Try.func142, Try.ntmps142
    go_wp2_with (go_at_call 168; refine (within_calls _ _ _ _).mono ?_; rintro e w' ⟨rfl, rfl⟩)
    go_region
    go_wp2_with (go_at_call 168; refine (within_calls _ _ _ _).mono ?_; rintro e w' ⟨rfl, rfl⟩)
    go_ret
    exact ⟨rfl, by go_grown⟩

set_option maxRecDepth 100000 in
set_option maxHeartbeats 4000000 in
theorem Check_publish (p i b he hn : Int) (w : World) (hb : (inR p 0 3 && inR i 0 1073741824 && inR b 0 1000000) = true) :
    Calls Try.prog 142 #[Ev.val ⟨1, p, i, b, he, hn⟩] w (IntPost w (if he = 0 ∧ hn = 0 then 0 else 3)) := by
  unfold Ev.val
  simp only [Bool.and_eq_true] at hb
  obtain ⟨⟨r1, r2⟩, r3⟩ := hb
  have hq := run_neq_ev ⟨1, p, i, b, 0, 0⟩ ⟨1, p, i, b, he, hn⟩
  simp only [Ev.mk.injEq, true_and] at hq
  by_cases z : 0 = he ∧ 0 = hn
  · rw [if_pos ⟨z.1.symm, z.2.symm⟩]
    rw [show decide (0 = he ∧ 0 = hn) = true by simpa using z] at hq
    obtain ⟨rfl, rfl⟩ := z
    go_enter Try.func142, Try.ntmps142
    go_wp2_with (go_at_call 168; refine (within_calls _ _ _ _).mono ?_; rintro e w' ⟨rfl, rfl⟩)
    go_region
    go_wp2_with (go_at_call 168; refine (within_calls _ _ _ _).mono ?_; rintro e w' ⟨rfl, rfl⟩)
    go_ret
    exact ⟨rfl, by go_grown⟩
  · rw [if_neg (fun h => z ⟨h.1.symm, h.2.symm⟩)]
    rw [show decide (0 = he ∧ 0 = hn) = false by simpa using z] at hq
    have HZ := Lib.hid z
    clear z
    go_enter Try.func142, Try.ntmps142
    go_wp2_with (go_at_call 168; refine (within_calls _ _ _ _).mono ?_; rintro e w' ⟨rfl, rfl⟩)
    go_region
    go_wp2_with (go_at_call 168; refine (within_calls _ _ _ _).mono ?_; rintro e w' ⟨rfl, rfl⟩)
    go_ret
    exact ⟨rfl, by go_grown⟩

set_option maxRecDepth 100000 in
set_option maxHeartbeats 4000000 in
theorem Check_ack_bad (p i b he hn : Int) (w : World) (hb : (inR he 0 1048576 && inR hn 0 1073741824) = false) :
    Calls Try.prog 142 #[Ev.val ⟨3, p, i, b, he, hn⟩] w (IntPost w 2) := by
  unfold Ev.val
  cases r1 : inR he 0 1048576 <;> cases r2 : inR hn 0 1073741824 <;> simp [r1, r2] at hb
  all_goals
    go_enter Try.func142, Try.ntmps142
    go_wp2_with (go_at_call 168; refine (within_calls _ _ _ _).mono ?_; rintro e w' ⟨rfl, rfl⟩)
    go_ret
    exact ⟨rfl, by go_grown⟩

set_option maxRecDepth 100000 in
set_option maxHeartbeats 4000000 in
theorem Check_ack (p i b he hn : Int) (w : World) (hb : (inR he 0 1048576 && inR hn 0 1073741824) = true) :
    Calls Try.prog 142 #[Ev.val ⟨3, p, i, b, he, hn⟩] w (IntPost w (if p = 0 ∧ i = 0 ∧ b = 0 then 0 else 3)) := by
  unfold Ev.val
  simp only [Bool.and_eq_true] at hb
  obtain ⟨r1, r2⟩ := hb
  have hq := run_neq_ev ⟨3, 0, 0, 0, he, hn⟩ ⟨3, p, i, b, he, hn⟩
  simp only [Ev.mk.injEq, true_and, and_true] at hq
  by_cases z : 0 = p ∧ 0 = i ∧ 0 = b
  · rw [if_pos ⟨z.1.symm, z.2.1.symm, z.2.2.symm⟩]
    rw [show decide (0 = p ∧ 0 = i ∧ 0 = b) = true by simpa using z] at hq
    obtain ⟨rfl, rfl, rfl⟩ := z
    go_enter Try.func142, Try.ntmps142
    go_wp2_with (go_at_call 168; refine (within_calls _ _ _ _).mono ?_; rintro e w' ⟨rfl, rfl⟩)
    go_ret
    exact ⟨rfl, by go_grown⟩
  · rw [if_neg (fun h => z ⟨h.1.symm, h.2.1.symm, h.2.2.symm⟩)]
    rw [show decide (0 = p ∧ 0 = i ∧ 0 = b) = false by simpa using z] at hq
    have HZ := Lib.hid z
    clear z
    go_enter Try.func142, Try.ntmps142
    go_wp2_with (go_at_call 168; refine (within_calls _ _ _ _).mono ?_; rintro e w' ⟨rfl, rfl⟩)
    go_ret
    exact ⟨rfl, by go_grown⟩

set_option maxRecDepth 100000 in
set_option maxHeartbeats 4000000 in
theorem Check_bare (k p i b he hn : Int) (w : World) (hk : k = 2 ∨ k = 4) :
    Calls Try.prog 142 #[Ev.val ⟨k, p, i, b, he, hn⟩] w (IntPost w (if p = 0 ∧ i = 0 ∧ b = 0 ∧ he = 0 ∧ hn = 0 then 0 else 3)) := by
  unfold Ev.val
  have hq := run_neq_ev ⟨k, 0, 0, 0, 0, 0⟩ ⟨k, p, i, b, he, hn⟩
  simp only [Ev.mk.injEq, true_and] at hq
  by_cases z : 0 = p ∧ 0 = i ∧ 0 = b ∧ 0 = he ∧ 0 = hn
  · rw [if_pos ⟨z.1.symm, z.2.1.symm, z.2.2.1.symm, z.2.2.2.1.symm, z.2.2.2.2.symm⟩]
    rw [show decide (0 = p ∧ 0 = i ∧ 0 = b ∧ 0 = he ∧ 0 = hn) = true by simpa using z] at hq
    obtain ⟨rfl, rfl, rfl, rfl, rfl⟩ := z
    rcases hk with rfl | rfl
    all_goals
      go_enter Try.func142, Try.ntmps142
      go_wp2_with (go_at_call 168; refine (within_calls _ _ _ _).mono ?_; rintro e w' ⟨rfl, rfl⟩)
      go_ret
      exact ⟨rfl, by go_grown⟩
  · rw [if_neg (fun h => z ⟨h.1.symm, h.2.1.symm, h.2.2.1.symm, h.2.2.2.1.symm, h.2.2.2.2.symm⟩)]
    rw [show decide (0 = p ∧ 0 = i ∧ 0 = b ∧ 0 = he ∧ 0 = hn) = false by simpa using z] at hq
    have HZ := Lib.hid z
    clear z
    rcases hk with rfl | rfl
    all_goals
      go_enter Try.func142, Try.ntmps142
      go_wp2_with (go_at_call 168; refine (within_calls _ _ _ _).mono ?_; rintro e w' ⟨rfl, rfl⟩)
      go_ret
      exact ⟨rfl, by go_grown⟩

set_option maxRecDepth 100000 in
set_option maxHeartbeats 4000000 in
theorem Check_none (k p i b he hn : Int) (w : World) (h1 : (k == 1) = false) (h2 : (k == 2) = false) (h3 : (k == 3) = false) (h4 : (k == 4) = false) :
    Calls Try.prog 142 #[Ev.val ⟨k, p, i, b, he, hn⟩] w (IntPost w 3) := by
  unfold Ev.val
  go_enter Try.func142, Try.ntmps142
  go_wp2_with (go_at_call 168; refine (within_calls _ _ _ _).mono ?_; rintro e w' ⟨rfl, rfl⟩)
  go_ret
  exact ⟨rfl, by go_grown⟩

theorem Check_calls (e : Ev) (w : World) : Calls Try.prog 142 #[e.val] w (IntPost w (evFault e)) := by
  obtain ⟨k, p, i, b, he, hn⟩ := e
  by_cases k1 : k = 1
  · subst k1
    cases hb : (inR p 0 3 && inR i 0 1073741824 && inR b 0 1000000)
    · have hf : evFault ⟨1, p, i, b, he, hn⟩ = 2 := by simp only [evFault, hb]; simp
      rw [hf]
      exact Check_publish_bad p i b he hn w hb
    · have hf : evFault ⟨1, p, i, b, he, hn⟩ = if he = 0 ∧ hn = 0 then 0 else 3 := by
        simp only [evFault, hb]
        by_cases z : he = 0 ∧ hn = 0 <;> simp [z]
      rw [hf]
      exact Check_publish p i b he hn w hb
  · by_cases k3 : k = 3
    · subst k3
      cases hb : (inR he 0 1048576 && inR hn 0 1073741824)
      · have hf : evFault ⟨3, p, i, b, he, hn⟩ = 2 := by simp only [evFault, hb]; simp
        rw [hf]
        exact Check_ack_bad p i b he hn w hb
      · have hf : evFault ⟨3, p, i, b, he, hn⟩ = if p = 0 ∧ i = 0 ∧ b = 0 then 0 else 3 := by
          simp only [evFault, hb]
          by_cases z : p = 0 ∧ i = 0 ∧ b = 0 <;> simp [z]
        rw [hf]
        exact Check_ack p i b he hn w hb
    · by_cases k24 : k = 2 ∨ k = 4
      · have hf : evFault ⟨k, p, i, b, he, hn⟩ = if p = 0 ∧ i = 0 ∧ b = 0 ∧ he = 0 ∧ hn = 0 then 0 else 3 := by
          have hk : 1 ≤ k ∧ k ≤ 4 := by omega
          simp only [evFault, hk, and_self, not_true_eq_false, if_false, k1, k3, false_and, ne_eq, not_false_eq_true, true_and]
          by_cases z : p = 0 ∧ i = 0 ∧ b = 0 <;> by_cases y : he = 0 ∧ hn = 0 <;> simp [z, y] <;> omega
        rw [hf]
        exact Check_bare k p i b he hn w k24
      · have hf : evFault ⟨k, p, i, b, he, hn⟩ = 3 := by
          have hk : ¬ (1 ≤ k ∧ k ≤ 4) := by omega
          simp only [evFault, hk, not_false_eq_true, if_true]
        rw [hf]
        exact Check_none k p i b he hn w (beq_eq_false_iff_ne.2 (by omega)) (beq_eq_false_iff_ne.2 (by omega)) (beq_eq_false_iff_ne.2 (by omega)) (beq_eq_false_iff_ne.2 (by omega))
end Go.Proofs.Ytkjlafpafmihaaa

namespace Go.Proofs.Ytkjlafpafmihaaa
open Go.ChangeShapes Go.WideShapes Go.ChangeAt Go.RowKit
section
variable {P : Program} {N : Nat} {l : Slots} {o : Oper} {w w' w0 : World} {B : Nat} {fs : List Fact}
theorem e_callv {f : FuncId} {first cap us : List Value} {x : Operand} {xs : List Operand} {ts : Array TypeId} {vs : List Value} (ho : o.op = .call { callee := .value x, args := xs.toArray, argTypes := ts }) (hv : ev l x = some (.func (.func f) first.toArray cap.toArray))
    (heg : ∀ args w, (callFunc f args).run P w = .ok (.enter f args) w) (hx : Evs l xs vs) (hu : first ++ vs ++ cap = us) : Enter P N l o w f us := fun a F => by
  subst hu
  have h1 := F.evs hx
  unfold execOp
  simp only [ho, resolve, F.ev hv, Deferred.ofValue, invoke, Sem.run_bind, Sem.run_pure, Result.andThen_ok, List.map_toArray, h1]
  simp [heg]
theorem y_makeFunc {f : Fn} {xs ys : List Operand} {vs us : List Value} (ho : o.op = .makeFunc f xs.toArray ys.toArray) (hx : Evs l xs vs) (hy : Evs l ys us) : Yld P N l o w (.func f vs.toArray us.toArray) := fun a F => by
  have h1 := F.evs hx
  have h2 := F.evs hy
  unfold execOp
  simp only [ho, List.map_toArray, h1, h2]
  rfl
theorem blk_rd {b off s n : Nat} {row : Array Value} {t : TypeId} {xs : List Value} (i : Nat) (S : St B w0 w fs) (hi : fs[i]? = some (.blk b row t)) (hl : xs.length = n * s) (hx : ∀ (j : Nat) (u : Value), xs[j]? = some u → row[off + j]? = some u) : Rd w w.heap.size s (some ⟨b, off, none⟩) n xs :=
  ⟨hl, fun _ => ⟨b, off, rfl, S.lt i hi, fun j u hu => S.cl i hi (hx j u hu)⟩⟩
theorem own_some {base : Nat} {e : TypeId} {size n c : Nat} {A : Option Addr} {xs : List Value} (h : w.ownsRow base e size (.slice A n c) n xs) (hn : 0 < n) : ∃ g, A = some ⟨g, 0, none⟩ := by
  rcases h.2 with ⟨_, h0⟩ | ⟨g, cap, cur, hv, _⟩
  · omega
  · exact ⟨g, by injection hv⟩
theorem St.reown {e e' : TypeId} {s s' : Nat} {g n c n' c' : Nat} {xs xs' : List Value} (i : Nat) (S : St B w0 w fs) (hi : fs[i]? = some (.own e s (.slice (some ⟨g, 0, none⟩) n c) n xs)) (hu : Upd w g w') (ho : w'.ownsRow B e' s' (.slice (some ⟨g, 0, none⟩) n' c') n' xs') :
    St B w0 w' (fs.set i (.own e' s' (.slice (some ⟨g, 0, none⟩) n' c') n' xs')) :=
  S.turn i hi (hu.next S.low (Fact.foot_lt (S.all i _ hi) rfl).1) (Nat.le_of_eq hu.size.symm) (fun k _ hk => hu.block k (fun e => hk (by rw [e]; rfl))) ho (fun k hk => .inl hk)
theorem fm_erase {α : Type} {enc : α → List Value} {sz : Nat} (hsz : ∀ x, (enc x).length = sz) : ∀ (k : Nat) (l : List α), (l.flatMap enc).take (k * sz) ++ (l.flatMap enc).drop ((k + 1) * sz) = (l.eraseIdx k).flatMap enc
  | 0, [] => by simp
  | 0, x :: l => by rw [List.flatMap_cons, Nat.zero_mul, List.take_zero, List.nil_append, Nat.zero_add, Nat.one_mul, List.drop_left' (hsz x)]; rfl
  | k + 1, [] => by simp
  | k + 1, x :: l => by
    rw [List.eraseIdx_cons_succ, List.flatMap_cons, List.flatMap_cons, ← fm_erase hsz k l, Nat.succ_mul k, Nat.succ_mul (k + 1), Nat.add_comm _ sz, Nat.add_comm _ sz, List.take_append, List.drop_append, hsz x]
    rw [List.take_of_length_le (by rw [hsz x]; omega), List.drop_of_length_le (by rw [hsz x]; omega), Nat.add_sub_cancel_left, Nat.add_sub_cancel_left, List.nil_append, List.append_assoc, Nat.succ_mul k, Nat.add_comm sz]
end
theorem rdo_nil {B : Nat} {w0 w : World} {fs : List Fact} {s : Nat} (S : St B w0 w fs) : St B w0 w (.rdo s none 0 [] :: fs) := S.cons ⟨Rd.none_, fun a h => by cases h⟩ fun k hk => by cases hk
end Go.Proofs.Ytkjlafpafmihaaa

namespace Go.Proofs.Ytkjlafpafmihaaa
open Go.ChangeShapes Go.WideShapes Go.ChangeAt Go.RowKit
open Go.Sort (flatK HoldsK get_flatK size_flatK)
section
variable {α : Type} [Inhabited α] {enc : α → List Value} {k : Nat}
theorem flat_fm (hk : ∀ x, (enc x).length = k) (d : Array α) {t : Nat} (h : t < d.size * k) : (d.toList.flatMap enc)[t]? = some ((flatK enc k d)[t]!) := by
  have hk0 : 0 < k := by
    rcases Nat.eq_zero_or_pos k with h0 | h0
    · subst h0; omega
    · exact h0
  have h1 : t / k < d.size := Nat.div_lt_of_lt_mul (by rw [Nat.mul_comm]; exact h)
  have h2 : t % k < k := Nat.mod_lt _ hk0
  rw [get_flatK enc k d t h]
  have h3 : d.toList[t / k]? = some d[t / k]! := by rw [getElem!_pos d (t / k) h1]; simp [h1]
  have h4 : (enc d[t / k]!)[t % k]? = some (enc d[t / k]!)[t % k]! := by
    have : t % k < (enc d[t / k]!).length := by rw [hk]; exact h2
    rw [getElem!_pos (enc d[t / k]!) (t % k) this]
    exact List.getElem?_eq_getElem this
  have h5 := fm_get hk h3 h4
  rw [Nat.mul_comm, Nat.div_add_mod] at h5
  exact h5
theorem own_holds {w : World} {B g n c e : Nat} {l : List α} (hk : ∀ x, (enc x).length = k) (ho : w.ownsRow B e k (.slice (some ⟨g, 0, none⟩) n c) n (l.flatMap enc)) (hl : l.length = n) : HoldsK enc k w g 0 l.toArray := by
  obtain ⟨h1, h2⟩ := ho
  intro j hj
  rw [size_flatK] at hj
  rcases h2 with ⟨h2, _⟩ | ⟨g', cap, cur, hv, hb, hh, hnc, hcm, hsz, htk⟩
  · cases h2
  · injection hv with hv1
    injection hv1 with hv1
    injection hv1 with hv1
    subst hv1
    have h3 := flat_fm hk l.toArray hj
    rw [show l.toArray.toList = l by simp, ← htk, List.getElem?_take_of_lt (by simp at hj; rw [hl] at hj; exact hj)] at h3
    refine ⟨?_, by simp [World.frozen?, hh]⟩
    simp only [Nat.zero_add, World.cell?, hh]
    simpa using h3
theorem own_sorted {w : World} {B g n c e m : Nat} {l : List α} {d' : Array α} {os : Array Obj} (hk : ∀ x, (enc x).length = k) (ho : w.ownsRow B e k (.slice (some ⟨g, 0, none⟩) n c) n (l.flatMap enc)) (hd : d'.size = n) :
    (sortWorldK enc k w g 0 m d' os).ownsRow B e k (.slice (some ⟨g, 0, none⟩) n c) n (d'.toList.flatMap enc) ∧ w.grownBy (sortWorldK enc k w g 0 m d' os) (some g) := by
  obtain ⟨h1, h2⟩ := ho
  rcases h2 with ⟨h2, _⟩ | ⟨g', cap, cur, hv, hb, hh, hnc, hcm, hsz, htk⟩
  · cases h2
  · have e1 : g = g' := by injection hv with hv1; injection hv1 with hv1; injection hv1
    subst e1
    have e2 : c = cap := by injection hv
    subst e2
    have hg : g < w.heap.size := (Array.getElem?_eq_some_iff.1 hh).1
    have hW : (sortWorldK enc k w g 0 m d' os).heap = (w.heap.modify g (Sort.onCells (Sort.putCells id 0 (flatK enc k d')))) ++ os := rfl
    have hlen : (d'.toList.flatMap enc).length = n * k := by rw [fm_len hk, Array.length_toList, hd]
    refine ⟨⟨hlen, .inr ⟨g, c, Sort.putCells id 0 (flatK enc k d') cur, rfl, hb, ?_, hnc, hcm, ?_, ?_⟩⟩, ⟨rfl, rfl, rfl, ?_, fun j hj hne => ?_⟩⟩
    · rw [hW, Array.getElem?_append_left (by simpa using hg), Array.getElem?_modify, if_pos rfl, hh]
      rfl
    · simp [Sort.putCells, hsz]
    · refine List.ext_getElem? fun t => ?_
      by_cases ht : t < n * k
      · rw [List.getElem?_take_of_lt ht, flat_fm hk d' (by rw [hd]; exact ht)]
        have htc : t < cur.size := by rw [hsz]; exact Nat.lt_of_lt_of_le ht (Nat.mul_le_mul_right _ hnc)
        simp [Sort.putCells, htc, hd, ht]
      · rw [List.getElem?_eq_none (by rw [List.length_take]; omega), List.getElem?_eq_none (by rw [hlen]; omega)]
    · rw [hW]; simp
    · rw [hW, Array.getElem?_append_left (by simpa using hj), Array.getElem?_modify, if_neg (fun h => hne (by rw [h]))]
end
end Go.Proofs.Ytkjlafpafmihaaa

namespace Go.Proofs
open Go.Shelf Go.RowKit Go.Lib Go.Sort
shelf_lay_g SlLaysF0.n6 Slsf 6 at Try 178 as Try.laySort
shelf_lay_g SlLaysC2.n5 Slgc 5 at Try 192 as Try.layCmp
end Go.Proofs
namespace Go.Proofs.Ytkjlafpafmihaaa
open Go.ChangeShapes Go.WideShapes Go.ChangeAt Go.RowKit
open Go.Sort (HoldsK PermIn SortedIn SWO grow)
instance : Inhabited Msg := ⟨⟨0, 0⟩⟩
def cmpNo (x y : Msg) : Int := Lib.compareInt x.no y.no
theorem ltNo (x y : Msg) : ltOf cmpNo x y = decide (x.no < y.no) := by
  unfold ltOf cmpNo Lib.compareInt
  by_cases h1 : x.no < y.no
  · simp [h1]
  · by_cases h2 : y.no < x.no <;> simp [h1, h2]
theorem swoNo : SWO (ltOf cmpNo) where
  irrefl x := by rw [ltNo]; simp
  trans x y z h1 h2 := by rw [ltNo] at *; simp at *; omega
  ntrans x y z h1 h2 := by rw [ltNo] at *; simp at *; omega
set_option maxHeartbeats 1000000 in
theorem byNo_calls (x y : Msg) (W : World) : Calls Try.prog 179 #[.agg #[.int .i64 x.no, .int .i64 x.body], .agg #[.int .i64 y.no, .int .i64 y.body]] W fun e w' => e = .returned (.int .i64 (cmpNo x y)) ∧ ∃ q os', w' = grow (W.drewN q) os' := by
  have hcon := fun W' => AnyG.cmp_Compare_int Try.layCmp x.no y.no W'
  change ∀ W', Calls Try.prog 192 _ _ _ at hcon
  unfold cmpNo
  generalize Lib.compareInt x.no y.no = r at hcon ⊢
  go_enter Try.func179, Try.ntmps179
  go_wp2_with (go_at_call 192; refine (hcon _).mono ?_; rintro e w' ⟨rfl, rfl⟩)
  go_ret
  exact ⟨rfl, 0, _, by rw [Go.Sort.alloc_eq_grow, Go.Sort.alloc_eq_grow, Go.Sort.grow_grow]; rfl⟩
theorem isAggM : ∀ w, (isAgg 137).run Try.prog w = .ok true w := by
  intro w
  simp [isAgg, run_underlying Try.underlying137, Sem.run_bind, Result.andThen]
theorem sizeOfM : ∀ w, (Go.sizeOf 137).run Try.prog w = .ok 2 w := by
  intro w
  obtain ⟨z, hq, hs⟩ : ∃ z, Try.prog.info? 137 = some z ∧ z.size = 2 := by
    have h := inf137
    cases hi : Try.prog.info? 137 with
    | none => simp [hi] at h
    | some z => exact ⟨z, rfl, by simpa [hi] using h⟩
  simp [sizeOf, typeInfo, hq, hs, Sem.run_bind, Result.andThen]
def ascNo (l : List Msg) : Prop := l.Pairwise fun a b => a.no ≤ b.no
set_option maxRecDepth 100000 in
theorem SortM_calls (A : Option Addr) (c : Nat) (rs : List Msg) (w : World) {B : Nat} (ho : w.ownsRow B 137 2 (.slice A rs.length c) rs.length (rs.flatMap Msg.cells)) (hl : rs.length ≤ 1000000) :
    Calls Try.prog 178 #[.slice A rs.length c, .func (.func 179) #[] #[]] w fun e w' => e = .returned (.tuple #[]) ∧ ∃ d : List Msg, d.Perm rs ∧ ascNo d ∧
      w'.ownsRow B 137 2 (.slice A rs.length c) rs.length (d.flatMap Msg.cells) ∧ w.grownBy w' (Value.slice A rs.length c).ownBlock := by
  rcases Nat.eq_zero_or_pos rs.length with h0 | h0
  · have e0 : rs = [] := List.length_eq_zero_iff.1 h0
    subst e0
    refine (AnyF.slices_SortFunc_none Try.laySort A c (.func (.func 179) #[] #[]) w).mono ?_
    rintro e w' ⟨rfl, rfl⟩
    exact ⟨rfl, [], List.Perm.refl _, List.Pairwise.nil, ho, ⟨rfl, rfl, rfl, Nat.le_refl _, fun _ _ _ => rfl⟩⟩
  · obtain ⟨g, rfl⟩ := own_some ho h0
    have hg : g < w.heap.size := own_size ho g rfl
    have hH := own_holds (enc := Msg.cells) (k := 2) (fun _ => rfl) ho rfl
    have hcon := AnyQ.slices_SortFunc Try.laySort 2 isAggM sizeOfM Msg.cells (fun _ => rfl) (fun x v hv => by simp [Msg.cells] at hv; rcases hv with rfl | rfl <;> rfl) cmpNo swoNo 179 #[] g 0 c rs.toArray w en179 (fun _ _ _ _ x y => byNo_calls x y _) hH hg (by simp; omega)
    change Calls Try.prog 178 _ _ _ at hcon
    rw [List.size_toArray] at hcon
    refine hcon.mono ?_
    rintro e w' ⟨rfl, d', m, os, hp, hs, rfl⟩
    obtain ⟨p1, _, p3⟩ := hp
    replace p1 : d'.size = rs.length := p1
    obtain ⟨q1, q2⟩ := own_sorted (enc := Msg.cells) (k := 2) (d' := d') (m := m) (os := os) (fun _ => rfl) ho p1
    refine ⟨rfl, d'.toList, ?_, ?_, q1, q2⟩
    · have e1 : d'.extract 0 rs.length = d' := by rw [← p1]; exact Array.extract_size
      have e2 : rs.toArray.extract 0 rs.length = rs.toArray := by simp
      rw [e1, e2] at p3
      simpa using p3
    · unfold ascNo
      rw [List.pairwise_iff_getElem]
      intro i j hi hj hij
      rw [Array.length_toList] at hi hj
      have h := hs i j (Nat.zero_le _) hij (by omega)
      rw [ltNo, getElem!_pos d' j hj, getElem!_pos d' i hi] at h
      simp only [Array.getElem_toList]
      simpa using h
theorem putMsg_perm (m : Msg) : ∀ l : List Msg, (putMsg m l).Perm (m :: l)
  | [] => List.Perm.refl _
  | x :: l => by
    unfold putMsg
    split
    · exact List.Perm.refl _
    · exact ((putMsg_perm m l).cons x).trans (List.Perm.swap m x l)
theorem putMsg_asc {m : Msg} : ∀ {l : List Msg}, ascNo l → ascNo (putMsg m l)
  | [], _ => by simp [putMsg, ascNo]
  | x :: l, h => by
    obtain ⟨h1, h2⟩ := List.pairwise_cons.1 h
    unfold putMsg
    split
    · rename_i hlt
      refine List.pairwise_cons.2 ⟨fun y hy => ?_, h⟩
      rcases List.mem_cons.1 hy with e | e
      · rw [e]; omega
      · have := h1 y e; omega
    · rename_i hlt
      refine List.pairwise_cons.2 ⟨fun y hy => ?_, putMsg_asc h2⟩
      rcases List.mem_cons.1 ((putMsg_perm m l).mem_iff.1 hy) with e | e
      · rw [e]; omega
      · exact h1 y e
theorem fold_perm : ∀ (ls : List Ls) (rs : List Msg), (ls.foldl (fun l x => putMsg x.msg l) rs).Perm (rs ++ ls.map (·.msg))
  | [], rs => by simp
  | x :: ls, rs => by
    rw [List.foldl_cons, List.map_cons]
    refine (fold_perm ls (putMsg x.msg rs)).trans ?_
    refine ((putMsg_perm x.msg rs).append_right _).trans ?_
    rw [List.cons_append]
    exact List.perm_middle.symm
theorem fold_asc : ∀ (ls : List Ls) {rs : List Msg}, ascNo rs → ascNo (ls.foldl (fun l x => putMsg x.msg l) rs)
  | [], _, h => h
  | _ :: ls, _, h => fold_asc ls (putMsg_asc h)
theorem end_list {rs d : List Msg} {ls : List Ls} (hp : d.Perm (rs ++ ls.map (·.msg))) (ha : ascNo d) (hA : ascNo rs) (hN : (nosOf rs ls).Nodup) : d = ls.foldl (fun l x => putMsg x.msg l) rs := by
  have hF := fold_perm ls rs
  have hnd : ((rs ++ ls.map (·.msg)).map (·.no)).Nodup := by
    unfold nosOf at hN
    rw [List.map_append, List.map_map]
    exact hN
  refine List.Perm.eq_of_pairwise (le := fun a b : Msg => a.no ≤ b.no) (fun a b ha' hb' h1 h2 => ?_) ha (fold_asc ls hA) (hp.trans hF.symm)
  have m1 := hp.mem_iff.1 ha'
  have m2 := hF.mem_iff.1 hb'
  have e : a.no = b.no := by omega
  have := List.pairwise_map.1 hnd
  obtain ⟨i, hi, e1⟩ := List.getElem_of_mem m1
  obtain ⟨j, hj, e2⟩ := List.getElem_of_mem m2
  rw [List.pairwise_iff_getElem] at this
  rcases Nat.lt_trichotomy i j with h | h | h
  · exact absurd (by rw [e1, e2]; exact e) (this i j hi hj h)
  · subst h; rw [← e1, ← e2]
  · exact absurd (by rw [e1, e2]; exact e.symm) (this j i hj hi h)
end Go.Proofs.Ytkjlafpafmihaaa

namespace Go.Proofs.Ytkjlafpafmihaaa
open Go.ChangeShapes Go.WideShapes Go.RowKit

def zeroQd : Qd := ⟨0, 0, 0, [], [], zeroWs⟩
def Qd.row (Q : Qd) (A1 : Option Addr) (c1 : Nat) (A2 : Option Addr) (c2 : Nat) : Array Value := qRow Q.ep Q.nx Q.gv (.slice A1 Q.ready.length c1) (.slice A2 Q.leases.length c2) Q.ws
noncomputable def Qd.fault (Q : Qd) : Int := queueFault Q.ep Q.nx Q.gv Q.ready Q.leases Q.ws
def stepM (Q : Qd) (e : Ev) : Qd × Ans × Bool :=
  if e.kind = 1 then pubM Q e.producer.toNat e.id e.body else if e.kind = 2 then recM Q else if e.kind = 3 then ackM Q e.hepoch e.hno else endM Q
noncomputable def doM (Q : Qd) (e : Ev) : Qd × Ans × Bool × Int :=
  if Q.fault ≠ 0 then (zeroQd, ans0, false, Q.fault) else if evFault e ≠ 0 then (zeroQd, ans0, false, evFault e) else ((stepM Q e).1, (stepM Q e).2.1, (stepM Q e).2.2, 0)
/-- A queue whose two slices are only read from now on, both in memory made behind B. -/
def QdoPost (w : World) (r : Qd × Ans × Bool × Int) (e : Ending) (w' : World) : Prop := ∃ A1 c1 A2 c2, e = .returned (.tuple #[.agg (qRow r.1.ep r.1.nx r.1.gv (.slice A1 r.1.ready.length c1) (.slice A2 r.1.leases.length c2) r.1.ws), r.2.1.val, .bool r.2.2.1, .int .i64 r.2.2.2]) ∧
  St w.heap.size w w' [.rdo 2 A1 r.1.ready.length (r.1.ready.flatMap Msg.cells), .rdo 4 A2 r.1.leases.length (r.1.leases.flatMap Ls.cells)]
section
variable {ep nx gv p : Int} {rs : List Msg} {ls : List Ls} {W : Wins}
theorem qf_zero (h : queueFault ep nx gv rs ls W = 0) : rngQ ep nx gv rs ls ∧ winsOk W ∧ rdyFrom nx (-1) rs = true ∧ lsFrom ep nx gv (-1) ls = true ∧ (nosOf rs ls).Nodup := by
  unfold queueFault at h
  split at h
  · cases h
  · split at h
    · cases h
    · split at h
      · rename_i h1 h2 h3
        exact ⟨Classical.not_not.1 h1, Classical.not_not.1 h2, h3⟩
      · cases h
theorem rdy_lt : ∀ {rs : List Msg} {p : Int}, rdyFrom nx p rs = true → (∀ x ∈ rs, p < x.no) ∧ rs.Pairwise fun a b => a.no < b.no
  | [], _, _ => ⟨fun x hx => by simp at hx, List.Pairwise.nil⟩
  | m :: r, p, h => by
    simp only [rdyFrom, Bool.and_eq_true, decide_eq_true_eq] at h
    obtain ⟨⟨_, h1⟩, h2⟩ := h
    obtain ⟨h3, h4⟩ := rdy_lt h2
    refine ⟨fun x hx => ?_, List.pairwise_cons.2 ⟨h3, h4⟩⟩
    rcases List.mem_cons.1 hx with rfl | hx
    · exact h1
    · exact Int.lt_trans h1 (h3 x hx)
theorem rdy_asc (h : rdyFrom nx (-1) rs = true) : ascNo rs := (rdy_lt h).2.imp fun h => Int.le_of_lt h
theorem ls_lt : ∀ {ls : List Ls} {p : Int}, lsFrom ep nx gv p ls = true → (∀ x ∈ ls, x.hep = ep ∧ p < x.hno) ∧ ls.Pairwise fun a b => a.hno < b.hno
  | [], _, _ => ⟨fun x hx => by simp at hx, List.Pairwise.nil⟩
  | m :: r, p, h => by
    simp only [lsFrom, lsOk, Bool.and_eq_true, decide_eq_true_eq] at h
    obtain ⟨⟨_, h0, h1, _⟩, h2⟩ := h
    obtain ⟨h3, h4⟩ := ls_lt h2
    refine ⟨fun x hx => ?_, List.pairwise_cons.2 ⟨fun x hx => (h3 x hx).2, h4⟩⟩
    rcases List.mem_cons.1 hx with rfl | hx
    · exact ⟨h0, h1⟩
    · exact ⟨(h3 x hx).1, Int.lt_trans h1 (h3 x hx).2⟩
theorem ls_hep (h : lsFrom ep nx gv (-1) ls = true) : ∀ x ∈ ls, x.hep = ep := fun x hx => ((ls_lt h).1 x hx).1
theorem ls_inj (h : lsFrom ep nx gv (-1) ls = true) : ∀ (i j : Nat) (a b : Ls), ls[i]? = some a → ls[j]? = some b → a.hno = b.hno → i = j := by
  have hp := (ls_lt h).2
  rw [List.pairwise_iff_getElem] at hp
  intro i j a b ha hb e
  obtain ⟨hi, rfl⟩ := List.getElem?_eq_some_iff.1 ha
  obtain ⟨hj, rfl⟩ := List.getElem?_eq_some_iff.1 hb
  rcases Nat.lt_trichotomy i j with h1 | h1 | h1
  · have := hp i j hi hj h1; omega
  · exact h1
  · have := hp j i hj hi h1; omega
theorem ev_kind {e : Ev} (h : evFault e = 0) : 1 ≤ e.kind ∧ e.kind ≤ 4 := by
  unfold evFault at h
  split at h
  · cases h
  · rename_i h1
    exact Classical.not_not.1 h1
theorem ev_prod {e : Ev} (h : evFault e = 0) : 0 ≤ e.producer ∧ e.producer ≤ 3 := by
  unfold evFault at h
  split at h
  · cases h
  · split at h
    · cases h
    · rename_i h1 h2
      split at h
      · cases h
      · split at h
        · cases h
        · rename_i h3 h4
          by_cases hk : e.kind = 1
          · have h5 := Classical.not_not.1 (fun h6 => h2 ⟨hk, h6⟩)
            simp only [Bool.and_eq_true, inR, decide_eq_true_eq] at h5
            omega
          · have h5 := Classical.not_not.1 (fun h6 => h4 ⟨hk, h6⟩)
            omega
end
section
variable {Q : Qd} {e : Ev}
theorem do_qf (h : Q.fault ≠ 0) : doM Q e = (zeroQd, ans0, false, Q.fault) := if_pos h
theorem do_ef (h : Q.fault = 0) (h1 : evFault e ≠ 0) : doM Q e = (zeroQd, ans0, false, evFault e) := by
  unfold doM; rw [if_neg (fun h2 => h2 h), if_pos h1]
theorem do_ok (h : Q.fault = 0) (h1 : evFault e = 0) : doM Q e = ((stepM Q e).1, (stepM Q e).2.1, (stepM Q e).2.2, 0) := by
  unfold doM; rw [if_neg (fun h2 => h2 h), if_neg (fun h2 => h2 h1)]
end
end Go.Proofs.Ytkjlafpafmihaaa

namespace Go.Proofs.Ytkjlafpafmihaaa
open Go.ChangeShapes Go.WideShapes Go.RowKit

/-- A struct of so many ints. -/
class IntRec (α : Type) where
  size : Nat
  ints : α → List Int
  of : List Int → α
  pos : 0 < size
  len : ∀ a, (ints a).length = size
  inv : ∀ xs : List Int, xs.length = size → ints (of xs) = xs

section
variable {α : Type} [IntRec α]
open IntRec

def recOne (a : α) : List Value := (ints a).map (Value.int .i64)
def recCells (l : List α) : List Value := l.flatMap recOne
theorem recOne_length (a : α) : (recOne a).length = size α := by simp [recOne, len]
theorem recCells_length (l : List α) : (recCells l).length = l.length * size α := by
  induction l with
  | nil => simp [recCells]
  | cons e l ih => simp only [recCells, List.flatMap_cons, List.length_append, List.length_cons] at *; rw [ih, recOne_length, Nat.succ_mul]; omega
theorem recCells_one (l : List α) : ∀ u ∈ recCells l, u.oneCell' = true := by
  intro u hu
  simp only [recCells, recOne, List.mem_flatMap, List.mem_map] at hu
  obtain ⟨e, _, x, _, rfl⟩ := hu
  rfl
theorem recCells_get {l : List α} {k j : Nat} {a : α} {v : Int} (h : l[k]? = some a) (hj : (ints a)[j]? = some v) : (recCells l)[k * size α + j]? = some (.int .i64 v) := by
  induction l generalizing k with
  | nil => simp at h
  | cons x l ih =>
    have e1 : recCells (x :: l) = recOne x ++ recCells l := by simp [recCells]
    have hx := recOne_length x
    have hjl : j < size α := by
      have := (List.getElem?_eq_some_iff.1 hj).1
      rw [len] at this
      exact this
    rw [e1]
    cases k with
    | zero =>
      simp at h
      subst h
      rw [Nat.zero_mul, Nat.zero_add, List.getElem?_append_left (by omega)]
      simp [recOne, hj]
    | succ k =>
      rw [List.getElem?_append_right (by rw [Nat.succ_mul]; omega), hx, show (k + 1) * size α + j - size α = k * size α + j by rw [Nat.succ_mul]; omega]
      exact ih (by simpa using h)

variable {w : World} {B n : Nat} {A : Option Addr} {l : List α}
theorem Rd.rec_len (h : Rd w B (size α) A n (recCells l)) : l.length = n := by
  have := h.1
  rw [recCells_length] at this
  exact Nat.eq_of_mul_eq_mul_right (pos (α := α)) this
theorem all2_ints {cs : List Value} {m : Nat} (h : All2 Fits0 cs (List.replicate m (.int .i64))) : ∃ xs : List Int, xs.length = m ∧ cs = xs.map (Value.int .i64) := by
  induction m generalizing cs with
  | zero => exact ⟨[], rfl, All2.nil_ h⟩
  | succ m ih =>
    obtain ⟨a, l1, rfl, ⟨x, rfl, _⟩, h3⟩ := All2.cons_ h
    obtain ⟨xs, h4, rfl⟩ := ih h3
    exact ⟨x :: xs, by simp [h4], rfl⟩

/-- An argument that is a slice of such structs. -/
theorem open_recs {W : World} {v : Value} {b : Nat} (h : Fits W v (.sl b (List.replicate (size α) (.int .i64)))) :
    ∃ A n c, ∃ l : List α, v = .slice A n c ∧ Rd W W.heap.size (size α) A n (recCells l) ∧ n ≤ c ∧ c ≤ maxLen ∧ c * b ≤ reachBytes ∧ (A = none → c = 0) := by
  have hp := pos (α := α)
  rcases h with rfl | ⟨ad, n, c, rfl, hn, hc, hr, hcell⟩
  · exact ⟨none, 0, 0, [], rfl, ⟨by simp [recCells], fun h => absurd h (by omega)⟩, Nat.le_refl _, Nat.zero_le _, by simp, fun _ => rfl⟩
  · have hex : ∀ i, i < n → ∃ x : α, ad.block < W.heap.size ∧ ∀ j u, (recOne x)[j]? = some u → W.cell? (ad.add (i * size α + j)) = some u := by
      intro i hi
      obtain ⟨cs, h2, hb, hcs⟩ := hcell i hi
      obtain ⟨xs, hx, rfl⟩ := all2_ints h2
      rw [List.length_replicate] at hb hcs
      refine ⟨of xs, hb hp, fun j u hj => hcs j u ?_⟩
      rw [recOne, inv xs hx] at hj
      exact hj
    have hd : ∃ x : α, True := ⟨of [], trivial⟩
    obtain ⟨f, hf⟩ : ∃ f : Nat → α, ∀ i, i < n → ad.block < W.heap.size ∧ ∀ j u, (recOne (f i))[j]? = some u → W.cell? (ad.add (i * size α + j)) = some u := by
      refine ⟨fun i => if hi : i < n then Classical.choose (hex i hi) else of [], fun i hi => ?_⟩
      simp only [hi, dif_pos]
      exact Classical.choose_spec (hex i hi)
    refine ⟨some ad, n, c, (List.range n).map f, rfl, ⟨by rw [recCells_length]; simp, fun h0 => ?_⟩, hn, hc, hr, fun h => by cases h⟩
    obtain ⟨b, off, spot⟩ := ad
    have hspot : spot = none := by
      have h1 : (recOne (f 0))[0]? = some ((recOne (f 0))[0]'(by rw [recOne_length]; exact hp)) := List.getElem?_eq_getElem _
      simpa [Addr.add] using World.cell?_spot ((hf 0 h0).2 0 _ h1)
    subst hspot
    refine ⟨b, off, rfl, (hf 0 h0).1, fun j u hu => ?_⟩
    have hj : j < n * size α := by
      have := (List.getElem?_eq_some_iff.1 hu).1
      rw [recCells_length] at this
      simpa using this
    have hk : j / size α < n := Nat.div_lt_of_lt_mul (by rw [Nat.mul_comm]; exact hj)
    have hm : j % size α < size α := Nat.mod_lt _ hp
    have hg : ((List.range n).map f)[j / size α]? = some (f (j / size α)) := by simp [hk]
    have e : j / size α * size α + j % size α = j := by rw [Nat.mul_comm]; exact Nat.div_add_mod j (size α)
    have h7 := (hf (j / size α) hk).2 (j % size α) u
    rw [Go.WideShapes.add_plain, e] at h7
    refine h7 ?_
    have hi : (ints (f (j / size α)))[j % size α]? = some ((ints (f (j / size α)))[j % size α]'(by rw [len]; exact hm)) := List.getElem?_eq_getElem _
    have h8 := recCells_get hg hi
    rw [e, hu] at h8
    rw [recOne, List.getElem?_map, hi]
    exact h8.symm
end

end Go.Proofs.Ytkjlafpafmihaaa

namespace Go.Proofs.Ytkjlafpafmihaaa
open Go.ChangeShapes Go.WideShapes Go.RowKit

instance : IntRec Msg where
  size := 2
  ints m := [m.no, m.body]
  of xs := ⟨xs.getD 0 0, xs.getD 1 0⟩
  pos := by decide
  len _ := rfl
  inv xs h := by
    match xs, h with
    | [a, b], _ => rfl
instance : IntRec Ls where
  size := 4
  ints m := [m.hep, m.hno, m.msg.no, m.msg.body]
  of xs := ⟨xs.getD 0 0, xs.getD 1 0, ⟨xs.getD 2 0, xs.getD 3 0⟩⟩
  pos := by decide
  len _ := rfl
  inv xs h := by
    match xs, h with
    | [a, b, c, d], _ => rfl
theorem msgs_one (l : List Msg) : ∀ u ∈ l.flatMap Msg.cells, u.oneCell' = true := recCells_one l
theorem lss_one (l : List Ls) : ∀ u ∈ l.flatMap Ls.cells, u.oneCell' = true := recCells_one l
theorem flat_queue : flat Try.prog 30 29 = some ([.at_ (.int .i64), .at_ (.int .i64), .at_ (.int .i64), .sl 16 [.int .i64, .int .i64], .sl 32 [.int .i64, .int .i64, .int .i64, .int .i64]] ++ (List.replicate 4 (.at_ (.int .i64) :: List.replicate 8 (.at_ .bool))).flatten) := by kernel_rfl
theorem all2_win {W : World} {cs : List Value} {r : List Sh} (h : All2 (Fits W) cs (.at_ (.int .i64) :: (List.replicate 8 (.at_ .bool) ++ r))) : ∃ (x : Win) (cs' : List Value), cs = x.cells ++ cs' ∧ All2 (Fits W) cs' r := by
  obtain ⟨a0, l0, e0, ⟨t, rfl, _⟩, h0⟩ := All2.cons_ h
  obtain ⟨a1, l1, e1, ⟨b1, rfl⟩, h1⟩ := All2.cons_ h0
  obtain ⟨a2, l2, e2, ⟨b2, rfl⟩, h2⟩ := All2.cons_ h1
  obtain ⟨a3, l3, e3, ⟨b3, rfl⟩, h3⟩ := All2.cons_ h2
  obtain ⟨a4, l4, e4, ⟨b4, rfl⟩, h4⟩ := All2.cons_ h3
  obtain ⟨a5, l5, e5, ⟨b5, rfl⟩, h5⟩ := All2.cons_ h4
  obtain ⟨a6, l6, e6, ⟨b6, rfl⟩, h6⟩ := All2.cons_ h5
  obtain ⟨a7, l7, e7, ⟨b7, rfl⟩, h7⟩ := All2.cons_ h6
  obtain ⟨a8, l8, e8, ⟨b8, rfl⟩, h8⟩ := All2.cons_ h7
  refine ⟨⟨t, b1, b2, b3, b4, b5, b6, b7, b8⟩, l8, ?_, h8⟩
  rw [e0, e1, e2, e3, e4, e5, e6, e7, e8]
  rfl
set_option maxRecDepth 100000 in
theorem arg_queue {W : World} {v : Value} (h : ArgOk Try.prog W v 29) : ∃ ep nx gv A1 c1 A2 c2, ∃ (rs : List Msg) (ls : List Ls) (X : Wins), v = .agg (qRow ep nx gv (.slice A1 rs.length c1) (.slice A2 ls.length c2) X) ∧
    Rd W W.heap.size 2 A1 rs.length (rs.flatMap Msg.cells) ∧ Rd W W.heap.size 4 A2 ls.length (ls.flatMap Ls.cells) ∧ rs.length * 16 ≤ reachBytes ∧ ls.length * 32 ≤ reachBytes := by
  obtain ⟨⟨base, hk⟩, l, hl, ha⟩ := h
  rw [flat_queue] at hl
  cases hl
  obtain ⟨cs, rfl, _⟩ := okWide_struct Try.underlying29 hk
  obtain ⟨a1, l1, e1, ⟨m1, rfl, _⟩, g1⟩ := All2.cons_ ha
  obtain ⟨a2, l2, e2, ⟨m2, rfl, _⟩, g2⟩ := All2.cons_ g1
  obtain ⟨a3, l3, e3, ⟨m3, rfl, _⟩, g3⟩ := All2.cons_ g2
  obtain ⟨a4, l4, e4, h4, g4⟩ := All2.cons_ g3
  obtain ⟨a5, l5, e5, h5, g5⟩ := All2.cons_ g4
  obtain ⟨x0, r0, e6, g6⟩ := all2_win g5
  obtain ⟨x1, r1, e7, g7⟩ := all2_win g6
  obtain ⟨x2, r2, e8, g8⟩ := all2_win g7
  obtain ⟨x3, r3, e9, g9⟩ := all2_win (r := []) g8
  have e10 := All2.nil_ g9
  obtain ⟨A1, n1, c1, rs, rfl, q1, q2, _, q3, _⟩ := open_recs (α := Msg) h4
  obtain ⟨A2, n2, c2, ls, rfl, p1, p2, _, p3, _⟩ := open_recs (α := Ls) h5
  have f1 := q1.rec_len
  have f2 := p1.rec_len
  subst f1
  subst f2
  refine ⟨m1, m2, m3, A1, c1, A2, c2, rs, ls, ⟨x0, x1, x2, x3⟩, ?_, q1, p1, by omega, by omega⟩
  congr 1
  apply Array.toList_inj.1
  have e11 : cs.toList = _ := e1
  rw [e11, e2, e3, e4, e5, e6, e7, e8, e9, e10, List.append_nil]
  rfl
end Go.Proofs.Ytkjlafpafmihaaa

namespace Go.Proofs.Ytkjlafpafmihaaa
open Go.ChangeShapes Go.WideShapes Go.RowKit

theorem take_snoc_ {α : Type} {l : List α} {k : Nat} {e : α} (h : l[k]? = some e) : l.take k ++ [e] = l.take (k + 1) := by
  rw [List.take_add_one, h]
  rfl

end Go.Proofs.Ytkjlafpafmihaaa

namespace Go.Proofs.Ytkjlafpafmihaaa
open Go.ChangeShapes Go.WideShapes Go.RowKit

section
variable {P : Program} {w : World} {t e : TypeId} {xo yo : Operand}
theorem r_slnil {A : Option Addr} {n c : Nat} (h : P.underlying t = some (.slice e)) : (do eqGuard .eql t xo yo (.slice A n c) (.slice none 0 0); binOp .eql t (.slice A n c) (.slice none 0 0) : Sem Value).run P w = .ok (.bool A.isNone) w := by
  rw [Sem.run_bind, show (eqGuard .eql t xo yo (.slice A n c) (.slice none 0 0)).run P w = .ok () w from rfl]
  exact Lib.run_eql_slice_nil w t e A n c 0 0 h
end
theorem rd_none {w : World} {B s n : Nat} {xs : List Value} (h : Rd w B s none n xs) : n = 0 ∧ xs = [] := by
  have h1 : n = 0 := by
    rcases Nat.eq_zero_or_pos n with h0 | h0
    · exact h0
    · obtain ⟨b, off, e, _⟩ := h.2 h0
      cases e
  subst h1
  exact ⟨rfl, List.eq_nil_of_length_eq_zero (by have := h.1; omega)⟩

set_option maxRecDepth 100000 in
set_option maxHeartbeats 1000000 in
theorem CloneM_calls (A : Option Addr) (n c : Nat) (l : List Value) (w : World) (h : Rd w w.heap.size 2 A n l) (hone : ∀ u ∈ l, u.oneCell' = true) (hc : n * 16 ≤ reachBytes) :
    Calls Try.prog 143 #[.slice A n c] w (OwnPost w 137 2 n l) := by
  unfold reachBytes at hc
  have S := (St.start w).addRd h
  refine calls_of_wC (N := 8) (vs := [.slice A n c]) Try.func143 rfl rfl rfl ?_
  refine wC_sub (l' := [(0, .slice A n c)]) ⟨rfl, trivial⟩ ?_
  refine wC_seq ?_
  refine wC_region ?_
  refine wL_val (v := .slice none 0 0) (wn rfl) rfl rfl (y_assign rfl rfl) ?_
  refine wL_nil ?_
  refine wQ_then ?_
  refine wC_seq ?_
  refine wC_seq ?_
  refine wC_region ?_
  refine wL_val (v := .slice A n c) (wn rfl) rfl rfl (y_move rfl rfl) ?_
  cases A with
  | none =>
    obtain ⟨rfl, rfl⟩ := rd_none h
    refine wL_val (v := .bool true) (wn rfl) rfl rfl (y_binop rfl rfl rfl (r_slnil Try.underlying22)) ?_
    refine wL_nil ?_
    refine wQ_sub (l' := [(0, .slice none 0 c), (2, .slice none 0 0), (4, .bool true)]) ⟨rfl, rfl, rfl, trivial⟩ ?_
    refine wQ_then ?_
    refine wC_cond_t rfl ?_
    refine wC_seq ?_
    refine wC_region ?_
    refine wL_val (v := .slice none 0 0) (wn rfl) rfl rfl (y_assign rfl rfl) ?_
    refine wL_nil ?_
    refine wQ_then ?_
    refine wC_ret ?_
    refine wQ_then_ret ?_
    refine wQ_post (rs := [.tmp 2]) (vs := [.slice none 0 0]) rfl ⟨rfl, trivial⟩ ?_
    exact OwnPost.of (Below.refl _ _) (ownsRow_nil_ _ _ _ _)
  | some a =>
    refine wL_val (v := .bool false) (wn rfl) rfl rfl (y_binop rfl rfl rfl (r_slnil Try.underlying22)) ?_
    refine wL_nil ?_
    refine wQ_sub (l' := [(0, .slice (some a) n c), (2, .slice none 0 0), (4, .bool false)]) ⟨rfl, rfl, rfl, trivial⟩ ?_
    refine wQ_then ?_
    refine wC_cond_f rfl ?_
    refine wC_skip ?_
    refine wQ_then ?_
    refine wC_seq ?_
    refine wC_region ?_
    refine wL_newOwn (V := fun b => .slice (some ⟨b, 0, none⟩) 0 0) (row := #[]) (t := 137) (n := 0) (s := 2) (xs := []) S (wn rfl) rfl rfl (d_buildSlice (vs := []) rfl trivial (by kernel_rfl)) (by simp) (Nat.zero_le _) rfl ?_
    intro b1 w2 S3
    clear S
    refine wL_val (v := .slice (some a) n c) (wn rfl) rfl rfl (y_move rfl rfl) ?_
    refine wL_append (news := l) (xs' := l) 0 S3 (wn rfl) rfl rfl rfl rfl rfl rfl (St.rd 1 S3 rfl) Try.underlying22 infz137 rfl (by decide) hone (by simp only [maxLen]; omega) (by omega) rfl ?_
    intro A4 c5 w6 hc8 hm9 S7
    clear S3
    change St _ _ _ [.own 137 2 (.slice A4 (0 + n) c5) (0 + n) l, .rd 2 (some a) n l] at S7
    refine wL_val (v := .slice A4 (0 + n) c5) (wn rfl) rfl rfl (y_assign rfl rfl) ?_
    refine wL_nil ?_
    refine wQ_sub (l' := [(0, .slice (some a) n c), (2, .slice A4 (0 + n) c5), (4, .bool false)]) ⟨rfl, rfl, rfl, trivial⟩ ?_
    refine wQ_then ?_
    refine wC_ret ?_
    refine wQ_post (rs := [.tmp 2]) (vs := [.slice A4 (0 + n) c5]) rfl ⟨rfl, trivial⟩ ?_
    have S10 : St w.heap.size w w6 [.own 137 2 (.slice A4 (0 + n) c5) (0 + n) l] := (St.del 1 S7)
    clear S7
    have ho := S10.own 0 rfl
    simp only [Nat.zero_add] at ho ⊢
    exact OwnPost.of S10.low ho

set_option maxRecDepth 100000 in
set_option maxHeartbeats 1000000 in
theorem CloneL_calls (A : Option Addr) (n c : Nat) (l : List Value) (w : World) (h : Rd w w.heap.size 4 A n l) (hone : ∀ u ∈ l, u.oneCell' = true) (hc : n * 32 ≤ reachBytes) :
    Calls Try.prog 144 #[.slice A n c] w (OwnPost w 141 4 n l) := by
  unfold reachBytes at hc
  have S := (St.start w).addRd h
  refine calls_of_wC (N := 8) (vs := [.slice A n c]) Try.func144 rfl rfl rfl ?_
  refine wC_sub (l' := [(0, .slice A n c)]) ⟨rfl, trivial⟩ ?_
  refine wC_seq ?_
  refine wC_region ?_
  refine wL_val (v := .slice none 0 0) (wn rfl) rfl rfl (y_assign rfl rfl) ?_
  refine wL_nil ?_
  refine wQ_then ?_
  refine wC_seq ?_
  refine wC_seq ?_
  refine wC_region ?_
  refine wL_val (v := .slice A n c) (wn rfl) rfl rfl (y_move rfl rfl) ?_
  cases A with
  | none =>
    obtain ⟨rfl, rfl⟩ := rd_none h
    refine wL_val (v := .bool true) (wn rfl) rfl rfl (y_binop rfl rfl rfl (r_slnil Try.underlying23)) ?_
    refine wL_nil ?_
    refine wQ_sub (l' := [(0, .slice none 0 c), (2, .slice none 0 0), (4, .bool true)]) ⟨rfl, rfl, rfl, trivial⟩ ?_
    refine wQ_then ?_
    refine wC_cond_t rfl ?_
    refine wC_seq ?_
    refine wC_region ?_
    refine wL_val (v := .slice none 0 0) (wn rfl) rfl rfl (y_assign rfl rfl) ?_
    refine wL_nil ?_
    refine wQ_then ?_
    refine wC_ret ?_
    refine wQ_then_ret ?_
    refine wQ_post (rs := [.tmp 2]) (vs := [.slice none 0 0]) rfl ⟨rfl, trivial⟩ ?_
    exact OwnPost.of (Below.refl _ _) (ownsRow_nil_ _ _ _ _)
  | some a =>
    refine wL_val (v := .bool false) (wn rfl) rfl rfl (y_binop rfl rfl rfl (r_slnil Try.underlying23)) ?_
    refine wL_nil ?_
    refine wQ_sub (l' := [(0, .slice (some a) n c), (2, .slice none 0 0), (4, .bool false)]) ⟨rfl, rfl, rfl, trivial⟩ ?_
    refine wQ_then ?_
    refine wC_cond_f rfl ?_
    refine wC_skip ?_
    refine wQ_then ?_
    refine wC_seq ?_
    refine wC_region ?_
    refine wL_newOwn (V := fun b => .slice (some ⟨b, 0, none⟩) 0 0) (row := #[]) (t := 141) (n := 0) (s := 4) (xs := []) S (wn rfl) rfl rfl (d_buildSlice (vs := []) rfl trivial (by kernel_rfl)) (by simp) (Nat.zero_le _) rfl ?_
    intro b1 w2 S3
    clear S
    refine wL_val (v := .slice (some a) n c) (wn rfl) rfl rfl (y_move rfl rfl) ?_
    refine wL_append (news := l) (xs' := l) 0 S3 (wn rfl) rfl rfl rfl rfl rfl rfl (St.rd 1 S3 rfl) Try.underlying23 infz141 rfl (by decide) hone (by simp only [maxLen]; omega) (by omega) rfl ?_
    intro A4 c5 w6 hc8 hm9 S7
    clear S3
    change St _ _ _ [.own 141 4 (.slice A4 (0 + n) c5) (0 + n) l, .rd 4 (some a) n l] at S7
    refine wL_val (v := .slice A4 (0 + n) c5) (wn rfl) rfl rfl (y_assign rfl rfl) ?_
    refine wL_nil ?_
    refine wQ_sub (l' := [(0, .slice (some a) n c), (2, .slice A4 (0 + n) c5), (4, .bool false)]) ⟨rfl, rfl, rfl, trivial⟩ ?_
    refine wQ_then ?_
    refine wC_ret ?_
    refine wQ_post (rs := [.tmp 2]) (vs := [.slice A4 (0 + n) c5]) rfl ⟨rfl, trivial⟩ ?_
    have S10 : St w.heap.size w w6 [.own 141 4 (.slice A4 (0 + n) c5) (0 + n) l] := (St.del 1 S7)
    clear S7
    have ho := S10.own 0 rfl
    simp only [Nat.zero_add] at ho ⊢
    exact OwnPost.of S10.low ho
end Go.Proofs.Ytkjlafpafmihaaa

namespace Go.Proofs.Ytkjlafpafmihaaa
open Go.ChangeShapes Go.WideShapes Go.RowKit




set_option maxRecDepth 100000 in
set_option maxHeartbeats 1000000 in
theorem message_calls (e nx g : Int) (r l : Value) (W : Wins) (m : Msg) (w : World) :
    Calls Try.prog 105 #[.agg (qRow e nx g (r) (l) W), .agg #[.int .i64 m.no, .int .i64 m.body]] w (BoolB w (msgOk nx m)) := by
  have S := St.start w
  refine calls_of_wC (N := 25) (vs := [.agg (qRow e nx g (r) (l) W), .agg #[.int .i64 m.no, .int .i64 m.body]]) Try.func105 rfl rfl rfl ?_
  refine wC_sub (l' := [(0, .agg (qRow e nx g (r) (l) W)), (1, .agg #[.int .i64 m.no, .int .i64 m.body])]) ⟨rfl, rfl, trivial⟩ ?_
  refine wC_seq ?_
  refine wC_region ?_
  refine wL_new (V := fun b => .pointer (some ⟨b, 0, none⟩)) (row := qRow e nx g (r) (l) W) S (wn rfl) rfl rfl (d_box rfl rfl rfl) ?_
  intro b1 w2 S3
  refine wL_new (V := fun b => .pointer (some ⟨b, 0, none⟩)) (row := #[.int .i64 m.no, .int .i64 m.body]) S3 (wn rfl) rfl rfl (d_box rfl rfl rfl) ?_
  intro b4 w5 S6
  refine wL_val (v := .bool false) (wn rfl) rfl rfl (y_assign rfl rfl) ?_
  refine wL_nil ?_
  refine wQ_then ?_
  refine wC_seq ?_
  refine wC_region ?_
  refine wL_val (v := .pointer (some ⟨b4, 0, none⟩)) (wn rfl) rfl rfl (y_fieldAddr rfl rfl (fa137_0 _ _ _)) ?_
  refine wL_val (v := .int .i64 m.no) (wn rfl) rfl rfl (y_load rfl rfl (r_load Try.underlying3 rfl (St.cl 0 S6 rfl rfl))) ?_
  by_cases h7 : 0 ≤ m.no
  · refine wL_val (v := .bool true) (wn rfl) rfl rfl (y_binop rfl rfl rfl (r_geq_t h7)) ?_
    refine wL_val (v := .bool true) (wn rfl) rfl rfl (y_move rfl rfl) ?_
    refine wL_val (v := .pointer (some ⟨b4, 0, none⟩)) (wg rfl rfl rfl rfl) rfl rfl (y_fieldAddr rfl rfl (fa137_0 _ _ _)) ?_
    refine wL_val (v := .int .i64 m.no) (wg rfl rfl rfl rfl) rfl rfl (y_load rfl rfl (r_load Try.underlying3 rfl (St.cl 0 S6 rfl rfl))) ?_
    refine wL_val (v := .pointer (some ⟨b1, 1, none⟩)) (wg rfl rfl rfl rfl) rfl rfl (y_fieldAddr rfl rfl (fa29_1 _ _ _)) ?_
    refine wL_val (v := .int .i64 nx) (wg rfl rfl rfl rfl) rfl rfl (y_load rfl rfl (r_load Try.underlying3 rfl (St.cl 1 S6 rfl qRow_g1))) ?_
    by_cases h8 : m.no < nx
    · refine wL_val (v := .bool true) (wg rfl rfl rfl rfl) rfl rfl (y_binop rfl rfl rfl (r_lss_t h8)) ?_
      refine wL_val (v := .bool true) (wn rfl) rfl rfl (y_pick_t rfl rfl rfl) ?_
      refine wL_val (v := .bool true) (wn rfl) rfl rfl (y_move rfl rfl) ?_
      refine wL_val (v := .pointer (some ⟨b4, 1, none⟩)) (wg rfl rfl rfl rfl) rfl rfl (y_fieldAddr rfl rfl (fa137_1 _ _ _)) ?_
      refine wL_val (v := .int .i64 m.body) (wg rfl rfl rfl rfl) rfl rfl (y_load rfl rfl (r_load Try.underlying3 rfl (St.cl 0 S6 rfl rfl))) ?_
      by_cases h9 : 0 ≤ m.body
      · refine wL_val (v := .bool true) (wg rfl rfl rfl rfl) rfl rfl (y_binop rfl rfl rfl (r_geq_t h9)) ?_
        refine wL_val (v := .bool true) (wn rfl) rfl rfl (y_pick_t rfl rfl rfl) ?_
        refine wL_val (v := .bool true) (wn rfl) rfl rfl (y_move rfl rfl) ?_
        refine wL_val (v := .pointer (some ⟨b4, 1, none⟩)) (wg rfl rfl rfl rfl) rfl rfl (y_fieldAddr rfl rfl (fa137_1 _ _ _)) ?_
        refine wL_val (v := .int .i64 m.body) (wg rfl rfl rfl rfl) rfl rfl (y_load rfl rfl (r_load Try.underlying3 rfl (St.cl 0 S6 rfl rfl))) ?_
        by_cases h10 : m.body ≤ 1000000
        · refine wL_val (v := .bool true) (wg rfl rfl rfl rfl) rfl rfl (y_binop rfl rfl rfl (r_leq_t h10)) ?_
          refine wL_val (v := .bool true) (wn rfl) rfl rfl (y_pick_t rfl rfl rfl) ?_
          refine wL_val (v := .bool true) (wn rfl) rfl rfl (y_assign rfl rfl) ?_
          refine wL_nil ?_
          refine wQ_sub (l' := [(0, .agg (qRow e nx g (r) (l) W)), (1, .agg #[.int .i64 m.no, .int .i64 m.body]), (2, .pointer (some ⟨b1, 0, none⟩)), (3, .pointer (some ⟨b4, 0, none⟩)), (4, .bool true)]) ⟨rfl, rfl, rfl, rfl, rfl, trivial⟩ ?_
          refine wQ_then ?_
          refine wC_ret ?_
          refine wQ_post (rs := [.tmp 4]) (vs := [.bool true]) rfl ⟨rfl, trivial⟩ ?_
          refine ⟨?_, S6.low⟩
          rw [show msgOk nx m = true from decide_eq_true ⟨‹_›, ‹_›, ‹_›, ‹_›⟩]
          rfl
        · refine wL_val (v := .bool false) (wg rfl rfl rfl rfl) rfl rfl (y_binop rfl rfl rfl (r_leq_f h10)) ?_
          refine wL_val (v := .bool false) (wn rfl) rfl rfl (y_pick_t rfl rfl rfl) ?_
          refine wL_val (v := .bool false) (wn rfl) rfl rfl (y_assign rfl rfl) ?_
          refine wL_nil ?_
          refine wQ_sub (l' := [(0, .agg (qRow e nx g (r) (l) W)), (1, .agg #[.int .i64 m.no, .int .i64 m.body]), (2, .pointer (some ⟨b1, 0, none⟩)), (3, .pointer (some ⟨b4, 0, none⟩)), (4, .bool false)]) ⟨rfl, rfl, rfl, rfl, rfl, trivial⟩ ?_
          refine wQ_then ?_
          refine wC_ret ?_
          refine wQ_post (rs := [.tmp 4]) (vs := [.bool false]) rfl ⟨rfl, trivial⟩ ?_
          refine ⟨?_, S6.low⟩
          rw [show msgOk nx m = false from decide_eq_false (fun h => absurd h.2.2.2 ‹_›)]
          rfl
      · refine wL_val (v := .bool false) (wg rfl rfl rfl rfl) rfl rfl (y_binop rfl rfl rfl (r_geq_f h9)) ?_
        refine wL_val (v := .bool false) (wn rfl) rfl rfl (y_pick_t rfl rfl rfl) ?_
        refine wL_val (v := .bool false) (wn rfl) rfl rfl (y_move rfl rfl) ?_
        refine wL_skip (wg rfl rfl rfl rfl) rfl rfl ?_
        refine wL_skip (wg rfl rfl rfl rfl) rfl rfl ?_
        refine wL_skip (wg rfl rfl rfl rfl) rfl rfl ?_
        refine wL_val (v := .bool false) (wn rfl) rfl rfl (y_pick_f rfl rfl rfl) ?_
        refine wL_val (v := .bool false) (wn rfl) rfl rfl (y_assign rfl rfl) ?_
        refine wL_nil ?_
        refine wQ_sub (l' := [(0, .agg (qRow e nx g (r) (l) W)), (1, .agg #[.int .i64 m.no, .int .i64 m.body]), (2, .pointer (some ⟨b1, 0, none⟩)), (3, .pointer (some ⟨b4, 0, none⟩)), (4, .bool false)]) ⟨rfl, rfl, rfl, rfl, rfl, trivial⟩ ?_
        refine wQ_then ?_
        refine wC_ret ?_
        refine wQ_post (rs := [.tmp 4]) (vs := [.bool false]) rfl ⟨rfl, trivial⟩ ?_
        refine ⟨?_, S6.low⟩
        rw [show msgOk nx m = false from decide_eq_false (fun h => absurd h.2.2.1 ‹_›)]
        rfl
    · refine wL_val (v := .bool false) (wg rfl rfl rfl rfl) rfl rfl (y_binop rfl rfl rfl (r_lss_f h8)) ?_
      refine wL_val (v := .bool false) (wn rfl) rfl rfl (y_pick_t rfl rfl rfl) ?_
      refine wL_val (v := .bool false) (wn rfl) rfl rfl (y_move rfl rfl) ?_
      refine wL_skip (wg rfl rfl rfl rfl) rfl rfl ?_
      refine wL_skip (wg rfl rfl rfl rfl) rfl rfl ?_
      refine wL_skip (wg rfl rfl rfl rfl) rfl rfl ?_
      refine wL_val (v := .bool false) (wn rfl) rfl rfl (y_pick_f rfl rfl rfl) ?_
      refine wL_val (v := .bool false) (wn rfl) rfl rfl (y_move rfl rfl) ?_
      refine wL_skip (wg rfl rfl rfl rfl) rfl rfl ?_
      refine wL_skip (wg rfl rfl rfl rfl) rfl rfl ?_
      refine wL_skip (wg rfl rfl rfl rfl) rfl rfl ?_
      refine wL_val (v := .bool false) (wn rfl) rfl rfl (y_pick_f rfl rfl rfl) ?_
      refine wL_val (v := .bool false) (wn rfl) rfl rfl (y_assign rfl rfl) ?_
      refine wL_nil ?_
      refine wQ_sub (l' := [(0, .agg (qRow e nx g (r) (l) W)), (1, .agg #[.int .i64 m.no, .int .i64 m.body]), (2, .pointer (some ⟨b1, 0, none⟩)), (3, .pointer (some ⟨b4, 0, none⟩)), (4, .bool false)]) ⟨rfl, rfl, rfl, rfl, rfl, trivial⟩ ?_
      refine wQ_then ?_
      refine wC_ret ?_
      refine wQ_post (rs := [.tmp 4]) (vs := [.bool false]) rfl ⟨rfl, trivial⟩ ?_
      refine ⟨?_, S6.low⟩
      rw [show msgOk nx m = false from decide_eq_false (fun h => absurd h.2.1 ‹_›)]
      rfl
  · refine wL_val (v := .bool false) (wn rfl) rfl rfl (y_binop rfl rfl rfl (r_geq_f h7)) ?_
    refine wL_val (v := .bool false) (wn rfl) rfl rfl (y_move rfl rfl) ?_
    refine wL_skip (wg rfl rfl rfl rfl) rfl rfl ?_
    refine wL_skip (wg rfl rfl rfl rfl) rfl rfl ?_
    refine wL_skip (wg rfl rfl rfl rfl) rfl rfl ?_
    refine wL_skip (wg rfl rfl rfl rfl) rfl rfl ?_
    refine wL_skip (wg rfl rfl rfl rfl) rfl rfl ?_
    refine wL_val (v := .bool false) (wn rfl) rfl rfl (y_pick_f rfl rfl rfl) ?_
    refine wL_val (v := .bool false) (wn rfl) rfl rfl (y_move rfl rfl) ?_
    refine wL_skip (wg rfl rfl rfl rfl) rfl rfl ?_
    refine wL_skip (wg rfl rfl rfl rfl) rfl rfl ?_
    refine wL_skip (wg rfl rfl rfl rfl) rfl rfl ?_
    refine wL_val (v := .bool false) (wn rfl) rfl rfl (y_pick_f rfl rfl rfl) ?_
    refine wL_val (v := .bool false) (wn rfl) rfl rfl (y_move rfl rfl) ?_
    refine wL_skip (wg rfl rfl rfl rfl) rfl rfl ?_
    refine wL_skip (wg rfl rfl rfl rfl) rfl rfl ?_
    refine wL_skip (wg rfl rfl rfl rfl) rfl rfl ?_
    refine wL_val (v := .bool false) (wn rfl) rfl rfl (y_pick_f rfl rfl rfl) ?_
    refine wL_val (v := .bool false) (wn rfl) rfl rfl (y_assign rfl rfl) ?_
    refine wL_nil ?_
    refine wQ_sub (l' := [(0, .agg (qRow e nx g (r) (l) W)), (1, .agg #[.int .i64 m.no, .int .i64 m.body]), (2, .pointer (some ⟨b1, 0, none⟩)), (3, .pointer (some ⟨b4, 0, none⟩)), (4, .bool false)]) ⟨rfl, rfl, rfl, rfl, rfl, trivial⟩ ?_
    refine wQ_then ?_
    refine wC_ret ?_
    refine wQ_post (rs := [.tmp 4]) (vs := [.bool false]) rfl ⟨rfl, trivial⟩ ?_
    refine ⟨?_, S6.low⟩
    rw [show msgOk nx m = false from decide_eq_false (fun h => absurd h.1 ‹_›)]
    rfl
end Go.Proofs.Ytkjlafpafmihaaa

namespace Go.Proofs.Ytkjlafpafmihaaa
open Go.ChangeShapes Go.WideShapes Go.ChangeAt Go.RowKit Go.ChangeMaps Go.MapKept
open Go.Maps (Keyed IsMap Tidy)

/-- A map object that reads as these keys, put in one behind the other. -/
def ISet (P : Program) (k : TypeId) (ks : List Int) (o : Obj) : Prop := ∃ es clock, o = .map es clock ∧
  ∀ (w : World) (b : Nat), w.heap[b]? = some o → ∃ D : DataW Unit, w.ownsMap P k unitElem b ks.length D ∧ (∀ z, Maps.has D (.int .i64 z) = decide (z ∈ ks)) ∧ Maps.size D ≤ ks.length ∧ (Maps.size D < ks.length ↔ ¬ ks.Nodup)
section
variable {P : Program} {N : Nat} {l : Slots} {w w' w0 : World} {B : Nat} {fs : List Fact} {ops : Array Oper} {o : Oper} {rest : List Oper} {Q : Exit → Act → World → Prop} {d : Nat}
theorem iset_of {k : TypeId} {ks : List Int} {b : Nat} {D : DataW Unit} (ho : w.ownsMap P k unitElem b ks.length D) (hh : ∀ z, Maps.has D (.int .i64 z) = decide (z ∈ ks)) (hs : Maps.size D ≤ ks.length) (hn : Maps.size D < ks.length ↔ ¬ ks.Nodup) : ∃ o, w.heap[b]? = some o ∧ ISet P k ks o := by
  obtain ⟨es, clock, hb, F, hsz, hD⟩ := ho
  refine ⟨_, hb, es, clock, rfl, fun w2 b2 h2 => ⟨D, ⟨es, clock, h2, F, hsz, hD⟩, hh, hs, hn⟩⟩
theorem iset_new {k : TypeId} : ISet P k [] (.map #[] 0) := by
  have h := World.ownsMap_made default P k (unitElem (H := Unit))
  obtain ⟨o, h1, h2⟩ := iset_of (ks := []) h (fun z => by simp [Maps.has_eq]) (by simp [Maps.size_eq]) (by simp [Maps.size_eq])
  have : (World.alloc default (Obj.map #[] 0)).heap[(default : World).heap.size]? = some (.map #[] 0) := by
    show ((default : World).heap.push _)[_]? = _
    rw [Array.getElem?_push, if_pos rfl]
  rw [this] at h1
  cases h1
  exact h2
/-- 'make(map[int]struct{})'. -/
theorem wL_makeSet {t k : TypeId} (S : St B w0 w fs) (hw : Wanted N ops l o true) (hd : o.dst = some d) (hN : Nat.blt d N = true) (ho : o.op = .makeMap t none)
    (h : ∀ b w', St B w0 w' (.loc b (ISet P k []) :: fs) → wL P N ops Q rest ((d, .map (some b)) :: l) w') : wL P N ops Q (o :: rest) l w :=
  wL_to hw hd hN (d_makeMap ho (run_makeMap t w)) (h _ _ (S.allocLoc iset_new))
theorem nodup_snoc {ks : List Int} {z : Int} : (ks ++ [z]).Nodup ↔ ks.Nodup ∧ z ∉ ks := by
  rw [List.nodup_append]
  constructor
  · rintro ⟨h1, _, h2⟩
    exact ⟨h1, fun h => h2 z h z (by simp) rfl⟩
  · rintro ⟨h1, h2⟩
    exact ⟨h1, by simp, fun a ha b hb e => by simp at hb; subst hb; subst e; exact h2 ha⟩
/-- 'seen[z] = struct{}{}'. -/
theorem wL_putSet {t k e : TypeId} {m x y : Operand} {b : Nat} {ks : List Int} {z : Int} (i : Nat) (S : St B w0 w fs) (hw : Wanted N ops l o true) (hd : o.dst = none) (ho : o.op = .mapUpdate t m x y) (hm : ev l m = some (.map (some b))) (hx : ev l x = some (.int .i64 z)) (hy : ev l y = some (.agg #[]))
    (hi : fs[i]? = some (.loc b (ISet P k ks))) (hk : P.underlying k = some (.int .i64)) (ht : P.underlying t = some (.map k e)) (hz : -9223372036854775808 ≤ z ∧ z ≤ 9223372036854775807) (hn : ks.length < maxLen)
    (h : ∀ w', St B w0 w' (fs.set i (.loc b (ISet P k (ks ++ [z])))) → wL P N ops Q rest l w') : wL P N ops Q (o :: rest) l w := by
  obtain ⟨ob, hb, es, clock, rfl, hall⟩ := S.loc i hi
  obtain ⟨D, hown, hh, hs, hnd⟩ := hall w b hb
  have K : Keyed P k := Maps.int_keyed hk
  have hkey : keyOf P k (.int .i64 z) = some (.int .i64 z) := Maps.keyOf_int_mk hk (by simp [Lit.wf, IntKind.min, IntKind.max, IntKind.signed, IntKind.bits]; omega)
  obtain ⟨w', hrun, hown', htu⟩ := hown.store K ht hn hkey (unitElem_mk (H := Unit))
  have hlk : WideAt.IsKeyLit (.int .i64 z) := trivial
  have htidy := hown.tidy K
  have hmap := hown.isMap
  obtain ⟨o', ho', hR⟩ := iset_of (ks := ks ++ [z]) (by simpa using hown') (fun y => by
    by_cases e : y = z
    · subst e
      rw [Maps.has_put_same hmap hlk]
      simp
    · rw [Maps.has_put_other (by simpa using e), hh]
      simp [e]) (by
    rw [Maps.size_put htidy]
    simp
    split <;> omega) (by
    rw [Maps.size_put htidy, nodup_snoc, hh z]
    by_cases e : z ∈ ks
    · simp [e]; omega
    · simp [e]; omega)
  have hu : Upd w b w' := by
    obtain ⟨es1, c1, es2, c2, h1, rfl⟩ := htu
    exact ⟨rfl, rfl, rfl, by simp [setBlock], fun j hj => heap_setBlock_other h1 _ hj⟩
  exact wL_eff hw hd (f_mapUpdate ho hm hx hy hrun) (h _ (S.setLoc i hi hu ho' hR))
/-- 'len(seen)'. -/
theorem r_lenSet {t k e : TypeId} {b : Nat} {ks : List Int} (i : Nat) (S : St B w0 w fs) (hi : fs[i]? = some (.loc b (ISet P k ks))) (ht : P.underlying t = some (.map k e)) (ty : TypeId) : ∃ n : Nat, (∀ cs, (builtin .len #[t] ty cs #[.map (some b)]).run P w = .ok (.value (.int .i64 n)) w) ∧ n ≤ ks.length ∧ (n < ks.length ↔ ¬ ks.Nodup) := by
  obtain ⟨ob, hb, es, clock, rfl, hall⟩ := S.loc i hi
  obtain ⟨D, hown, hh, hs, hnd⟩ := hall w b hb
  refine ⟨Maps.size D, fun cs => ?_, hs, hnd⟩
  simp [builtin, hown.len ht ty, Sem.run_bind, Result.andThen]
end
end Go.Proofs.Ytkjlafpafmihaaa

namespace Go.Proofs.Ytkjlafpafmihaaa
open Go.ChangeShapes Go.WideShapes Go.RowKit

set_option maxRecDepth 100000 in
set_option maxHeartbeats 4000000 in
theorem QCheck_calls (ep nx gv : Int) (A1 A2 : Option Addr) (c1 c2 : Nat) (rs : List Msg) (ls : List Ls) (W : Wins) (w : World) (h1 : Rd w w.heap.size 2 A1 rs.length (rs.flatMap Msg.cells)) (h2 : Rd w w.heap.size 4 A2 ls.length (ls.flatMap Ls.cells)) (hb1 : rs.length * 16 ≤ reachBytes) (hb2 : ls.length * 32 ≤ reachBytes) :
    Calls Try.prog 30 #[.agg (qRow ep nx gv (.slice A1 rs.length c1) (.slice A2 ls.length c2) W)] w (IPost w (queueFault ep nx gv rs ls W)) := by
  unfold reachBytes at hb1 hb2
  have S := ((St.start w).addRd h2).addRd h1
  refine calls_of_wC (N := 140) (vs := [.agg (qRow ep nx gv (.slice A1 rs.length c1) (.slice A2 ls.length c2) W)]) Try.func30 rfl rfl rfl ?_
  refine wC_sub (l' := [(0, .agg (qRow ep nx gv (.slice A1 rs.length c1) (.slice A2 ls.length c2) W))]) ⟨rfl, trivial⟩ ?_
  refine wC_seq ?_
  refine wC_region ?_
  refine wL_new (V := fun b => .pointer (some ⟨b, 0, none⟩)) (row := qRow ep nx gv (.slice A1 rs.length c1) (.slice A2 ls.length c2) W) (t := 29) S (wn rfl) rfl rfl (d_box rfl rfl rfl) ?_
  intro b1 w2 S3
  clear S
  refine wL_val (v := .int .i64 0) (wn rfl) rfl rfl (y_assign rfl rfl) ?_
  refine wL_nil ?_
  refine wQ_sub (l' := [(1, _), (2, _)]) ⟨rfl, rfl, trivial⟩ ?_
  refine wQ_then ?_
  refine wC_seq ?_
  refine wC_seq ?_
  refine wC_region ?_
  refine wL_val (v := .pointer (some ⟨b1, 0, none⟩)) (wn rfl) rfl rfl (y_fieldAddr rfl rfl (fa29_0 _ _ _)) ?_
  refine wL_val (v := .int .i64 ep) (wn rfl) rfl rfl (y_load rfl rfl (r_load Try.underlying3 rfl (St.cl 0 S3 rfl qRow_g0))) ?_
  by_cases h4 : ep < 0
  · refine wL_val (v := .bool true) (wn rfl) rfl rfl (y_binop rfl rfl rfl (r_lss_t h4)) ?_
    refine wL_val (v := .bool true) (wn rfl) rfl rfl (y_move rfl rfl) ?_
    refine wL_skip (wg rfl rfl rfl rfl) rfl rfl ?_
    refine wL_skip (wg rfl rfl rfl rfl) rfl rfl ?_
    refine wL_skip (wg rfl rfl rfl rfl) rfl rfl ?_
    refine wL_val (v := .bool true) (wn rfl) rfl rfl (y_pick_t rfl rfl rfl) ?_
    refine wL_val (v := .bool true) (wn rfl) rfl rfl (y_move rfl rfl) ?_
    refine wL_skip (wg rfl rfl rfl rfl) rfl rfl ?_
    refine wL_skip (wg rfl rfl rfl rfl) rfl rfl ?_
    refine wL_skip (wg rfl rfl rfl rfl) rfl rfl ?_
    refine wL_val (v := .bool true) (wn rfl) rfl rfl (y_pick_t rfl rfl rfl) ?_
    refine wL_val (v := .bool true) (wn rfl) rfl rfl (y_move rfl rfl) ?_
    refine wL_skip (wg rfl rfl rfl rfl) rfl rfl ?_
    refine wL_skip (wg rfl rfl rfl rfl) rfl rfl ?_
    refine wL_skip (wg rfl rfl rfl rfl) rfl rfl ?_
    refine wL_val (v := .bool true) (wn rfl) rfl rfl (y_pick_t rfl rfl rfl) ?_
    refine wL_val (v := .bool true) (wn rfl) rfl rfl (y_move rfl rfl) ?_
    refine wL_skip (wg rfl rfl rfl rfl) rfl rfl ?_
    refine wL_skip (wg rfl rfl rfl rfl) rfl rfl ?_
    refine wL_skip (wg rfl rfl rfl rfl) rfl rfl ?_
    refine wL_val (v := .bool true) (wn rfl) rfl rfl (y_pick_t rfl rfl rfl) ?_
    refine wL_val (v := .bool true) (wn rfl) rfl rfl (y_move rfl rfl) ?_
    refine wL_skip (wg rfl rfl rfl rfl) rfl rfl ?_
    refine wL_skip (wg rfl rfl rfl rfl) rfl rfl ?_
    refine wL_skip (wg rfl rfl rfl rfl) rfl rfl ?_
    refine wL_val (v := .bool true) (wn rfl) rfl rfl (y_pick_t rfl rfl rfl) ?_
    refine wL_val (v := .bool true) (wn rfl) rfl rfl (y_move rfl rfl) ?_
    refine wL_skip (wg rfl rfl rfl rfl) rfl rfl ?_
    refine wL_skip (wg rfl rfl rfl rfl) rfl rfl ?_
    refine wL_skip (wg rfl rfl rfl rfl) rfl rfl ?_
    refine wL_skip (wg rfl rfl rfl rfl) rfl rfl ?_
    refine wL_skip (wg rfl rfl rfl rfl) rfl rfl ?_
    refine wL_skip (wg rfl rfl rfl rfl) rfl rfl ?_
    refine wL_skip (wg rfl rfl rfl rfl) rfl rfl ?_
    refine wL_skip (wg rfl rfl rfl rfl) rfl rfl ?_
    refine wL_val (v := .bool true) (wn rfl) rfl rfl (y_pick_t rfl rfl rfl) ?_
    refine wL_nil ?_
    refine wQ_sub (l' := [(1, _), (2, _), (49, _)]) ⟨rfl, rfl, rfl, trivial⟩ ?_
    refine wQ_then ?_
    refine wC_cond_t rfl ?_
    refine wC_seq ?_
    refine wC_region ?_
    refine wL_val (v := .int .i64 6) (wn rfl) rfl rfl (y_assign rfl rfl) ?_
    refine wL_nil ?_
    refine wQ_sub (l' := [(2, _)]) ⟨rfl, trivial⟩ ?_
    refine wQ_then ?_
    refine wC_ret ?_
    refine wQ_then_ret ?_
    refine wQ_post (rs := [.tmp 2]) (vs := [.int .i64 6]) rfl ⟨rfl, trivial⟩ ?_
    exact ⟨ret_int_ (qf_rng (by omega)).symm, S3.low⟩
  · refine wL_val (v := .bool false) (wn rfl) rfl rfl (y_binop rfl rfl rfl (r_lss_f h4)) ?_
    refine wL_val (v := .bool false) (wn rfl) rfl rfl (y_move rfl rfl) ?_
    refine wL_val (v := .pointer (some ⟨b1, 0, none⟩)) (wg rfl rfl rfl rfl) rfl rfl (y_fieldAddr rfl rfl (fa29_0 _ _ _)) ?_
    refine wL_val (v := .int .i64 ep) (wg rfl rfl rfl rfl) rfl rfl (y_load rfl rfl (r_load Try.underlying3 rfl (St.cl 0 S3 rfl qRow_g0))) ?_
    by_cases h5 : 1048576 < ep
    · refine wL_val (v := .bool true) (wg rfl rfl rfl rfl) rfl rfl (y_binop rfl rfl rfl (r_gtr_t h5)) ?_
      refine wL_val (v := .bool true) (wn rfl) rfl rfl (y_pick_f rfl rfl rfl) ?_
      refine wL_val (v := .bool true) (wn rfl) rfl rfl (y_move rfl rfl) ?_
      refine wL_skip (wg rfl rfl rfl rfl) rfl rfl ?_
      refine wL_skip (wg rfl rfl rfl rfl) rfl rfl ?_
      refine wL_skip (wg rfl rfl rfl rfl) rfl rfl ?_
      refine wL_val (v := .bool true) (wn rfl) rfl rfl (y_pick_t rfl rfl rfl) ?_
      refine wL_val (v := .bool true) (wn rfl) rfl rfl (y_move rfl rfl) ?_
      refine wL_skip (wg rfl rfl rfl rfl) rfl rfl ?_
      refine wL_skip (wg rfl rfl rfl rfl) rfl rfl ?_
      refine wL_skip (wg rfl rfl rfl rfl) rfl rfl ?_
      refine wL_val (v := .bool true) (wn rfl) rfl rfl (y_pick_t rfl rfl rfl) ?_
      refine wL_val (v := .bool true) (wn rfl) rfl rfl (y_move rfl rfl) ?_
      refine wL_skip (wg rfl rfl rfl rfl) rfl rfl ?_
      refine wL_skip (wg rfl rfl rfl rfl) rfl rfl ?_
      refine wL_skip (wg rfl rfl rfl rfl) rfl rfl ?_
      refine wL_val (v := .bool true) (wn rfl) rfl rfl (y_pick_t rfl rfl rfl) ?_
      refine wL_val (v := .bool true) (wn rfl) rfl rfl (y_move rfl rfl) ?_
      refine wL_skip (wg rfl rfl rfl rfl) rfl rfl ?_
      refine wL_skip (wg rfl rfl rfl rfl) rfl rfl ?_
      refine wL_skip (wg rfl rfl rfl rfl) rfl rfl ?_
      refine wL_val (v := .bool true) (wn rfl) rfl rfl (y_pick_t rfl rfl rfl) ?_
      refine wL_val (v := .bool true) (wn rfl) rfl rfl (y_move rfl rfl) ?_
      refine wL_skip (wg rfl rfl rfl rfl) rfl rfl ?_
      refine wL_skip (wg rfl rfl rfl rfl) rfl rfl ?_
      refine wL_skip (wg rfl rfl rfl rfl) rfl rfl ?_
      refine wL_skip (wg rfl rfl rfl rfl) rfl rfl ?_
      refine wL_skip (wg rfl rfl rfl rfl) rfl rfl ?_
      refine wL_skip (wg rfl rfl rfl rfl) rfl rfl ?_
      refine wL_skip (wg rfl rfl rfl rfl) rfl rfl ?_
      refine wL_skip (wg rfl rfl rfl rfl) rfl rfl ?_
      refine wL_val (v := .bool true) (wn rfl) rfl rfl (y_pick_t rfl rfl rfl) ?_
      refine wL_nil ?_
      refine wQ_sub (l' := [(1, _), (2, _), (49, _)]) ⟨rfl, rfl, rfl, trivial⟩ ?_
      refine wQ_then ?_
      refine wC_cond_t rfl ?_
      refine wC_seq ?_
      refine wC_region ?_
      refine wL_val (v := .int .i64 6) (wn rfl) rfl rfl (y_assign rfl rfl) ?_
      refine wL_nil ?_
      refine wQ_sub (l' := [(2, _)]) ⟨rfl, trivial⟩ ?_
      refine wQ_then ?_
      refine wC_ret ?_
      refine wQ_then_ret ?_
      refine wQ_post (rs := [.tmp 2]) (vs := [.int .i64 6]) rfl ⟨rfl, trivial⟩ ?_
      exact ⟨ret_int_ (qf_rng (by omega)).symm, S3.low⟩
    · refine wL_val (v := .bool false) (wg rfl rfl rfl rfl) rfl rfl (y_binop rfl rfl rfl (r_gtr_f h5)) ?_
      refine wL_val (v := .bool false) (wn rfl) rfl rfl (y_pick_f rfl rfl rfl) ?_
      refine wL_val (v := .bool false) (wn rfl) rfl rfl (y_move rfl rfl) ?_
      refine wL_val (v := .pointer (some ⟨b1, 1, none⟩)) (wg rfl rfl rfl rfl) rfl rfl (y_fieldAddr rfl rfl (fa29_1 _ _ _)) ?_
      refine wL_val (v := .int .i64 nx) (wg rfl rfl rfl rfl) rfl rfl (y_load rfl rfl (r_load Try.underlying3 rfl (St.cl 0 S3 rfl qRow_g1))) ?_
      by_cases h6 : nx < 0
      · refine wL_val (v := .bool true) (wg rfl rfl rfl rfl) rfl rfl (y_binop rfl rfl rfl (r_lss_t h6)) ?_
        refine wL_val (v := .bool true) (wn rfl) rfl rfl (y_pick_f rfl rfl rfl) ?_
        refine wL_val (v := .bool true) (wn rfl) rfl rfl (y_move rfl rfl) ?_
        refine wL_skip (wg rfl rfl rfl rfl) rfl rfl ?_
        refine wL_skip (wg rfl rfl rfl rfl) rfl rfl ?_
        refine wL_skip (wg rfl rfl rfl rfl) rfl rfl ?_
        refine wL_val (v := .bool true) (wn rfl) rfl rfl (y_pick_t rfl rfl rfl) ?_
        refine wL_val (v := .bool true) (wn rfl) rfl rfl (y_move rfl rfl) ?_
        refine wL_skip (wg rfl rfl rfl rfl) rfl rfl ?_
        refine wL_skip (wg rfl rfl rfl rfl) rfl rfl ?_
        refine wL_skip (wg rfl rfl rfl rfl) rfl rfl ?_
        refine wL_val (v := .bool true) (wn rfl) rfl rfl (y_pick_t rfl rfl rfl) ?_
        refine wL_val (v := .bool true) (wn rfl) rfl rfl (y_move rfl rfl) ?_
        refine wL_skip (wg rfl rfl rfl rfl) rfl rfl ?_
        refine wL_skip (wg rfl rfl rfl rfl) rfl rfl ?_
        refine wL_skip (wg rfl rfl rfl rfl) rfl rfl ?_
        refine wL_val (v := .bool true) (wn rfl) rfl rfl (y_pick_t rfl rfl rfl) ?_
        refine wL_val (v := .bool true) (wn rfl) rfl rfl (y_move rfl rfl) ?_
        refine wL_skip (wg rfl rfl rfl rfl) rfl rfl ?_
        refine wL_skip (wg rfl rfl rfl rfl) rfl rfl ?_
        refine wL_skip (wg rfl rfl rfl rfl) rfl rfl ?_
        refine wL_skip (wg rfl rfl rfl rfl) rfl rfl ?_
        refine wL_skip (wg rfl rfl rfl rfl) rfl rfl ?_
        refine wL_skip (wg rfl rfl rfl rfl) rfl rfl ?_
        refine wL_skip (wg rfl rfl rfl rfl) rfl rfl ?_
        refine wL_skip (wg rfl rfl rfl rfl) rfl rfl ?_
        refine wL_val (v := .bool true) (wn rfl) rfl rfl (y_pick_t rfl rfl rfl) ?_
        refine wL_nil ?_
        refine wQ_sub (l' := [(1, _), (2, _), (49, _)]) ⟨rfl, rfl, rfl, trivial⟩ ?_
        refine wQ_then ?_
        refine wC_cond_t rfl ?_
        refine wC_seq ?_
        refine wC_region ?_
        refine wL_val (v := .int .i64 6) (wn rfl) rfl rfl (y_assign rfl rfl) ?_
        refine wL_nil ?_
        refine wQ_sub (l' := [(2, _)]) ⟨rfl, trivial⟩ ?_
        refine wQ_then ?_
        refine wC_ret ?_
        refine wQ_then_ret ?_
        refine wQ_post (rs := [.tmp 2]) (vs := [.int .i64 6]) rfl ⟨rfl, trivial⟩ ?_
        exact ⟨ret_int_ (qf_rng (by omega)).symm, S3.low⟩
      · refine wL_val (v := .bool false) (wg rfl rfl rfl rfl) rfl rfl (y_binop rfl rfl rfl (r_lss_f h6)) ?_
        refine wL_val (v := .bool false) (wn rfl) rfl rfl (y_pick_f rfl rfl rfl) ?_
        refine wL_val (v := .bool false) (wn rfl) rfl rfl (y_move rfl rfl) ?_
        refine wL_val (v := .pointer (some ⟨b1, 1, none⟩)) (wg rfl rfl rfl rfl) rfl rfl (y_fieldAddr rfl rfl (fa29_1 _ _ _)) ?_
        refine wL_val (v := .int .i64 nx) (wg rfl rfl rfl rfl) rfl rfl (y_load rfl rfl (r_load Try.underlying3 rfl (St.cl 0 S3 rfl qRow_g1))) ?_
        by_cases h7 : 1073741824 < nx
        · refine wL_val (v := .bool true) (wg rfl rfl rfl rfl) rfl rfl (y_binop rfl rfl rfl (r_gtr_t h7)) ?_
          refine wL_val (v := .bool true) (wn rfl) rfl rfl (y_pick_f rfl rfl rfl) ?_
          refine wL_val (v := .bool true) (wn rfl) rfl rfl (y_move rfl rfl) ?_
          refine wL_skip (wg rfl rfl rfl rfl) rfl rfl ?_
          refine wL_skip (wg rfl rfl rfl rfl) rfl rfl ?_
          refine wL_skip (wg rfl rfl rfl rfl) rfl rfl ?_
          refine wL_val (v := .bool true) (wn rfl) rfl rfl (y_pick_t rfl rfl rfl) ?_
          refine wL_val (v := .bool true) (wn rfl) rfl rfl (y_move rfl rfl) ?_
          refine wL_skip (wg rfl rfl rfl rfl) rfl rfl ?_
          refine wL_skip (wg rfl rfl rfl rfl) rfl rfl ?_
          refine wL_skip (wg rfl rfl rfl rfl) rfl rfl ?_
          refine wL_val (v := .bool true) (wn rfl) rfl rfl (y_pick_t rfl rfl rfl) ?_
          refine wL_val (v := .bool true) (wn rfl) rfl rfl (y_move rfl rfl) ?_
          refine wL_skip (wg rfl rfl rfl rfl) rfl rfl ?_
          refine wL_skip (wg rfl rfl rfl rfl) rfl rfl ?_
          refine wL_skip (wg rfl rfl rfl rfl) rfl rfl ?_
          refine wL_skip (wg rfl rfl rfl rfl) rfl rfl ?_
          refine wL_skip (wg rfl rfl rfl rfl) rfl rfl ?_
          refine wL_skip (wg rfl rfl rfl rfl) rfl rfl ?_
          refine wL_skip (wg rfl rfl rfl rfl) rfl rfl ?_
          refine wL_skip (wg rfl rfl rfl rfl) rfl rfl ?_
          refine wL_val (v := .bool true) (wn rfl) rfl rfl (y_pick_t rfl rfl rfl) ?_
          refine wL_nil ?_
          refine wQ_sub (l' := [(1, _), (2, _), (49, _)]) ⟨rfl, rfl, rfl, trivial⟩ ?_
          refine wQ_then ?_
          refine wC_cond_t rfl ?_
          refine wC_seq ?_
          refine wC_region ?_
          refine wL_val (v := .int .i64 6) (wn rfl) rfl rfl (y_assign rfl rfl) ?_
          refine wL_nil ?_
          refine wQ_sub (l' := [(2, _)]) ⟨rfl, trivial⟩ ?_
          refine wQ_then ?_
          refine wC_ret ?_
          refine wQ_then_ret ?_
          refine wQ_post (rs := [.tmp 2]) (vs := [.int .i64 6]) rfl ⟨rfl, trivial⟩ ?_
          exact ⟨ret_int_ (qf_rng (by omega)).symm, S3.low⟩
        · refine wL_val (v := .bool false) (wg rfl rfl rfl rfl) rfl rfl (y_binop rfl rfl rfl (r_gtr_f h7)) ?_
          refine wL_val (v := .bool false) (wn rfl) rfl rfl (y_pick_f rfl rfl rfl) ?_
          refine wL_val (v := .bool false) (wn rfl) rfl rfl (y_move rfl rfl) ?_
          refine wL_val (v := .pointer (some ⟨b1, 2, none⟩)) (wg rfl rfl rfl rfl) rfl rfl (y_fieldAddr rfl rfl (fa29_2 _ _ _)) ?_
          refine wL_val (v := .int .i64 gv) (wg rfl rfl rfl rfl) rfl rfl (y_load rfl rfl (r_load Try.underlying3 rfl (St.cl 0 S3 rfl qRow_g2))) ?_
          by_cases h8 : gv < 0
          · refine wL_val (v := .bool true) (wg rfl rfl rfl rfl) rfl rfl (y_binop rfl rfl rfl (r_lss_t h8)) ?_
            refine wL_val (v := .bool true) (wn rfl) rfl rfl (y_pick_f rfl rfl rfl) ?_
            refine wL_val (v := .bool true) (wn rfl) rfl rfl (y_move rfl rfl) ?_
            refine wL_skip (wg rfl rfl rfl rfl) rfl rfl ?_
            refine wL_skip (wg rfl rfl rfl rfl) rfl rfl ?_
            refine wL_skip (wg rfl rfl rfl rfl) rfl rfl ?_
            refine wL_val (v := .bool true) (wn rfl) rfl rfl (y_pick_t rfl rfl rfl) ?_
            refine wL_val (v := .bool true) (wn rfl) rfl rfl (y_move rfl rfl) ?_
            refine wL_skip (wg rfl rfl rfl rfl) rfl rfl ?_
            refine wL_skip (wg rfl rfl rfl rfl) rfl rfl ?_
            refine wL_skip (wg rfl rfl rfl rfl) rfl rfl ?_
            refine wL_skip (wg rfl rfl rfl rfl) rfl rfl ?_
            refine wL_skip (wg rfl rfl rfl rfl) rfl rfl ?_
            refine wL_skip (wg rfl rfl rfl rfl) rfl rfl ?_
            refine wL_skip (wg rfl rfl rfl rfl) rfl rfl ?_
            refine wL_skip (wg rfl rfl rfl rfl) rfl rfl ?_
            refine wL_val (v := .bool true) (wn rfl) rfl rfl (y_pick_t rfl rfl rfl) ?_
            refine wL_nil ?_
            refine wQ_sub (l' := [(1, _), (2, _), (49, _)]) ⟨rfl, rfl, rfl, trivial⟩ ?_
            refine wQ_then ?_
            refine wC_cond_t rfl ?_
            refine wC_seq ?_
            refine wC_region ?_
            refine wL_val (v := .int .i64 6) (wn rfl) rfl rfl (y_assign rfl rfl) ?_
            refine wL_nil ?_
            refine wQ_sub (l' := [(2, _)]) ⟨rfl, trivial⟩ ?_
            refine wQ_then ?_
            refine wC_ret ?_
            refine wQ_then_ret ?_
            refine wQ_post (rs := [.tmp 2]) (vs := [.int .i64 6]) rfl ⟨rfl, trivial⟩ ?_
            exact ⟨ret_int_ (qf_rng (by omega)).symm, S3.low⟩
          · refine wL_val (v := .bool false) (wg rfl rfl rfl rfl) rfl rfl (y_binop rfl rfl rfl (r_lss_f h8)) ?_
            refine wL_val (v := .bool false) (wn rfl) rfl rfl (y_pick_f rfl rfl rfl) ?_
            refine wL_val (v := .bool false) (wn rfl) rfl rfl (y_move rfl rfl) ?_
            refine wL_val (v := .pointer (some ⟨b1, 2, none⟩)) (wg rfl rfl rfl rfl) rfl rfl (y_fieldAddr rfl rfl (fa29_2 _ _ _)) ?_
            refine wL_val (v := .int .i64 gv) (wg rfl rfl rfl rfl) rfl rfl (y_load rfl rfl (r_load Try.underlying3 rfl (St.cl 0 S3 rfl qRow_g2))) ?_
            by_cases h9 : 1073741824 < gv
            · refine wL_val (v := .bool true) (wg rfl rfl rfl rfl) rfl rfl (y_binop rfl rfl rfl (r_gtr_t h9)) ?_
              refine wL_val (v := .bool true) (wn rfl) rfl rfl (y_pick_f rfl rfl rfl) ?_
              refine wL_val (v := .bool true) (wn rfl) rfl rfl (y_move rfl rfl) ?_
              refine wL_skip (wg rfl rfl rfl rfl) rfl rfl ?_
              refine wL_skip (wg rfl rfl rfl rfl) rfl rfl ?_
              refine wL_skip (wg rfl rfl rfl rfl) rfl rfl ?_
              refine wL_skip (wg rfl rfl rfl rfl) rfl rfl ?_
              refine wL_skip (wg rfl rfl rfl rfl) rfl rfl ?_
              refine wL_skip (wg rfl rfl rfl rfl) rfl rfl ?_
              refine wL_skip (wg rfl rfl rfl rfl) rfl rfl ?_
              refine wL_skip (wg rfl rfl rfl rfl) rfl rfl ?_
              refine wL_val (v := .bool true) (wn rfl) rfl rfl (y_pick_t rfl rfl rfl) ?_
              refine wL_nil ?_
              refine wQ_sub (l' := [(1, _), (2, _), (49, _)]) ⟨rfl, rfl, rfl, trivial⟩ ?_
              refine wQ_then ?_
              refine wC_cond_t rfl ?_
              refine wC_seq ?_
              refine wC_region ?_
              refine wL_val (v := .int .i64 6) (wn rfl) rfl rfl (y_assign rfl rfl) ?_
              refine wL_nil ?_
              refine wQ_sub (l' := [(2, _)]) ⟨rfl, trivial⟩ ?_
              refine wQ_then ?_
              refine wC_ret ?_
              refine wQ_then_ret ?_
              refine wQ_post (rs := [.tmp 2]) (vs := [.int .i64 6]) rfl ⟨rfl, trivial⟩ ?_
              exact ⟨ret_int_ (qf_rng (by omega)).symm, S3.low⟩
            · refine wL_val (v := .bool false) (wg rfl rfl rfl rfl) rfl rfl (y_binop rfl rfl rfl (r_gtr_f h9)) ?_
              refine wL_val (v := .bool false) (wn rfl) rfl rfl (y_pick_f rfl rfl rfl) ?_
              refine wL_val (v := .bool false) (wn rfl) rfl rfl (y_move rfl rfl) ?_
              refine wL_val (v := .pointer (some ⟨b1, 3, none⟩)) (wg rfl rfl rfl rfl) rfl rfl (y_fieldAddr rfl rfl (fa29_3 _ _ _)) ?_
              refine wL_val (v := .slice A1 rs.length c1) (wg rfl rfl rfl rfl) rfl rfl (y_load rfl rfl (r_load Try.underlying22 rfl (St.cl 0 S3 rfl qRow_g3))) ?_
              refine wL_val (v := .int .i64 ((rs.length : Nat) : Int)) (wg rfl rfl rfl rfl) rfl rfl (y_builtin (vs := [.slice A1 rs.length c1]) rfl ⟨rfl, trivial⟩ fun _ => r_len rfl Try.underlying22) ?_
              refine wL_val (v := .pointer (some ⟨b1, 4, none⟩)) (wg rfl rfl rfl rfl) rfl rfl (y_fieldAddr rfl rfl (fa29_4 _ _ _)) ?_
              refine wL_val (v := .slice A2 ls.length c2) (wg rfl rfl rfl rfl) rfl rfl (y_load rfl rfl (r_load Try.underlying23 rfl (St.cl 0 S3 rfl qRow_g4))) ?_
              refine wL_val (v := .int .i64 ((ls.length : Nat) : Int)) (wg rfl rfl rfl rfl) rfl rfl (y_builtin (vs := [.slice A2 ls.length c2]) rfl ⟨rfl, trivial⟩ fun _ => r_len rfl Try.underlying23) ?_
              refine wL_val (v := .int .i64 ((rs.length + ls.length : Nat) : Int)) (wg rfl rfl rfl rfl) rfl rfl (y_binop rfl rfl rfl (r_add (by omega) (by omega))) ?_
              by_cases h10 : 500 < ((rs.length + ls.length : Nat) : Int)
              · refine wL_val (v := .bool true) (wg rfl rfl rfl rfl) rfl rfl (y_binop rfl rfl rfl (r_gtr_t h10)) ?_
                refine wL_val (v := .bool true) (wn rfl) rfl rfl (y_pick_f rfl rfl rfl) ?_
                refine wL_nil ?_
                refine wQ_sub (l' := [(1, _), (2, _), (49, _)]) ⟨rfl, rfl, rfl, trivial⟩ ?_
                refine wQ_then ?_
                refine wC_cond_t rfl ?_
                refine wC_seq ?_
                refine wC_region ?_
                refine wL_val (v := .int .i64 6) (wn rfl) rfl rfl (y_assign rfl rfl) ?_
                refine wL_nil ?_
                refine wQ_sub (l' := [(2, _)]) ⟨rfl, trivial⟩ ?_
                refine wQ_then ?_
                refine wC_ret ?_
                refine wQ_then_ret ?_
                refine wQ_post (rs := [.tmp 2]) (vs := [.int .i64 6]) rfl ⟨rfl, trivial⟩ ?_
                exact ⟨ret_int_ (qf_rng (by omega)).symm, S3.low⟩
              · refine wL_val (v := .bool false) (wg rfl rfl rfl rfl) rfl rfl (y_binop rfl rfl rfl (r_gtr_f h10)) ?_
                refine wL_val (v := .bool false) (wn rfl) rfl rfl (y_pick_f rfl rfl rfl) ?_
                refine wL_nil ?_
                refine wQ_sub (l' := [(1, _), (2, _), (49, _)]) ⟨rfl, rfl, rfl, trivial⟩ ?_
                refine wQ_then ?_
                refine wC_cond_f rfl ?_
                refine wC_skip ?_
                refine wQ_then ?_
                refine wC_seq ?_
                refine wC_seq ?_
                refine wC_region ?_
                refine wL_val (v := .pointer (some ⟨b1, 5, none⟩)) (wn rfl) rfl rfl (y_fieldAddr rfl rfl (fa29_5 _ _ _)) ?_
                refine wL_val (v := .agg ((W.cells).toArray)) (wn rfl) rfl rfl (y_load rfl rfl (r_load_agg (cs := (W.cells)) Try.underlying27 rfl inf27 rfl (St.rg 0 S3 rfl (qRow_ws)))) ?_
                refine wL_val (v := .int .i64 0) (wn rfl) rfl rfl (y_move rfl rfl) ?_
                refine wL_nil ?_
                refine wQ_sub (l' := [(1, _), (2, _), (51, _), (52, _)]) ⟨rfl, rfl, rfl, rfl, trivial⟩ ?_
                refine wQ_then ?_
                refine wC_block ?_
                refine wC_loop (X := Nat) (fun xv => [(1, .pointer (some ⟨b1, 0, none⟩)), (2, .int .i64 0), (51, .agg ((W.cells).toArray)), (52, .int .i64 ((xv : Nat) : Int))]) (fun xv wr => (xv ≤ 4) ∧ (∀ j, j < xv → winFault (W.at j) = 0) ∧ St w.heap.size w wr [.blk b1 (qRow ep nx gv (.slice A1 rs.length c1) (.slice A2 ls.length c2) W) 29, .rd 2 A1 rs.length ((rs).flatMap Msg.cells), .rd 4 A2 ls.length ((ls).flatMap Ls.cells)]) (fun xv => 4 - xv) (0) ?_ ?_ ?_
                · exact ⟨Nat.zero_le _, fun j hj => absurd hj (Nat.not_lt_zero _), S3⟩
                · exact ⟨rfl, rfl, rfl, rfl, trivial⟩
                · rintro k w11 ⟨hi13, hi14, S12⟩
                  try dsimp only at hi13 hi14 S12
                  clear S3
                  refine wC_sub (l' := [(1, .pointer (some ⟨b1, 0, none⟩)), (2, .int .i64 0), (51, .agg ((W.cells).toArray)), (52, .int .i64 ((k : Nat) : Int))]) ⟨rfl, rfl, rfl, rfl, trivial⟩ ?_
                  refine wC_seq ?_
                  refine wC_region ?_
                  by_cases h15 : ((k : Nat) : Int) < 4
                  · refine wL_val (v := .bool true) (wn rfl) rfl rfl (y_binop rfl rfl rfl (r_lss_t h15)) ?_
                    refine wL_nil ?_
                    refine wQ_then ?_
                    refine wC_seq ?_
                    refine wC_cond_t rfl ?_
                    refine wC_skip ?_
                    refine wQ_then ?_
                    refine wC_seq ?_
                    refine wC_block ?_
                    refine wC_seq ?_
                    refine wC_region ?_
                    refine wL_val (v := .agg (((W.at k).cells).toArray)) (wn rfl) rfl rfl (y_index rfl rfl rfl (wins_index W k (by omega) _)) ?_
                    refine wL_new (V := fun b => .pointer (some ⟨b, 0, none⟩)) (row := #[.int .i64 0, .bool false, .bool false, .bool false, .bool false, .bool false, .bool false, .bool false, .bool false]) (t := 26) S12 (wn rfl) rfl rfl (d_alloc rfl (Try.zeroValue26 _) rfl) ?_
                    intro b16 w17 S18
                    clear S12
                    refine wL_st (cs := ((W.at k).cells).toArray) (row' := ((W.at k).cells).toArray) (fs' := [.blk b16 (((W.at k).cells).toArray) 26, _, _, _]) 0 S18 (wn rfl) rfl rfl rfl rfl rfl rfl inf26 rfl (win_one _) (Nat.le_of_ble_eq_true rfl) (setAll_all rfl) rfl ?_
                    intro w19 S20
                    clear S18
                    refine wL_nil ?_
                    refine wQ_sub (l' := [(1, _), (2, _), (51, _), (52, _), (4, _)]) ⟨rfl, rfl, rfl, rfl, rfl, trivial⟩ ?_
                    refine wQ_then ?_
                    refine wC_seq ?_
                    refine wC_region ?_
                    refine wL_val (v := .agg (((W.at k).cells).toArray)) (wn rfl) rfl rfl (y_load rfl rfl (r_load_row 0 S20 rfl Try.underlying26 rfl inf26 rfl)) ?_
                    refine wL_call (vs := [.agg (((W.at k).cells).toArray)]) (wn rfl) rfl rfl (e_call (vs := [.agg (((W.at k).cells).toArray)]) rfl en104 ⟨rfl, trivial⟩) (WCheck_calls (W.at k) _) ?_
                    rintro _ w21 ⟨rfl, hb23⟩
                    refine ⟨_, rfl, ?_⟩
                    have S22 := S20.on hb23
                    clear hb23 S20
                    refine wL_val (v := .int .i64 (winFault (W.at k))) (wn rfl) rfl rfl (y_assign rfl rfl) ?_
                    refine wL_nil ?_
                    refine wQ_sub (l' := [(1, _), (2, _), (51, _), (52, _), (5, _)]) ⟨rfl, rfl, rfl, rfl, rfl, trivial⟩ ?_
                    refine wQ_then ?_
                    refine wC_seq ?_
                    refine wC_region ?_
                    refine wL_val (v := .int .i64 (winFault (W.at k))) (wn rfl) rfl rfl (y_move rfl rfl) ?_
                    by_cases h24 : winFault (W.at k) = 0
                    · refine wL_val (v := .bool false) (wn rfl) rfl rfl (y_binop rfl rfl rfl (r_neq_f h24)) ?_
                      refine wL_nil ?_
                      refine wQ_sub (l' := [(1, _), (2, _), (51, _), (52, _), (5, _), (58, _)]) ⟨rfl, rfl, rfl, rfl, rfl, rfl, trivial⟩ ?_
                      refine wQ_then ?_
                      refine wC_cond_f rfl ?_
                      refine wC_skip ?_
                      refine wQ_blk_n ?_
                      refine wQ_then ?_
                      refine wC_region ?_
                      refine wL_val (v := .int .i64 ((k + 1 : Nat) : Int)) (wn rfl) rfl rfl (y_binop rfl rfl rfl (r_add (by omega) (by omega))) ?_
                      refine wL_val (v := .int .i64 ((k + 1 : Nat) : Int)) (wn rfl) rfl rfl (y_move rfl rfl) ?_
                      refine wL_nil ?_
                      refine wQ_sub (l' := [(1, _), (2, _), (51, _), (52, _)]) ⟨rfl, rfl, rfl, rfl, trivial⟩ ?_
                      have S25 : St w.heap.size w w21 [_, _, _] := (St.del 0 S22)
                      clear S22
                      refine wQ_round (k + 1) ?_ ⟨rfl, rfl, rfl, rfl, trivial⟩ (by first | omega | (dsimp only; omega))
                      exact ⟨(by omega), (fun j hj => (Nat.lt_succ_iff_lt_or_eq.1 hj).elim (fun h => hi14 j h) (fun h => by rw [h]; exact h24)), S25⟩
                    · refine wL_val (v := .bool true) (wn rfl) rfl rfl (y_binop rfl rfl rfl (r_neq_t h24)) ?_
                      refine wL_nil ?_
                      refine wQ_sub (l' := [(1, _), (2, _), (51, _), (52, _), (5, _), (58, _)]) ⟨rfl, rfl, rfl, rfl, rfl, rfl, trivial⟩ ?_
                      refine wQ_then ?_
                      refine wC_cond_t rfl ?_
                      refine wC_seq ?_
                      refine wC_region ?_
                      refine wL_val (v := .int .i64 (winFault (W.at k))) (wn rfl) rfl rfl (y_move rfl rfl) ?_
                      refine wL_val (v := .int .i64 (winFault (W.at k))) (wn rfl) rfl rfl (y_assign rfl rfl) ?_
                      refine wL_nil ?_
                      refine wQ_sub (l' := [(2, _)]) ⟨rfl, trivial⟩ ?_
                      refine wQ_then ?_
                      refine wC_ret ?_
                      refine wQ_blk_ret ?_
                      refine wQ_then_ret ?_
                      refine wQ_then_ret ?_
                      refine wQ_blk_ret ?_
                      refine wQ_then_ret ?_
                      refine wQ_post (rs := [.tmp 2]) (vs := [.int .i64 (winFault (W.at k))]) rfl ⟨rfl, trivial⟩ ?_
                      refine ⟨ret_int_ ?_, S22.low⟩
                      rw [qf_win (j := k) (by omega) h24]; exact (winF_or _).resolve_left h24
                  · refine wL_val (v := .bool false) (wn rfl) rfl rfl (y_binop rfl rfl rfl (r_lss_f h15)) ?_
                    refine wL_nil ?_
                    refine wQ_then ?_
                    refine wC_seq ?_
                    refine wC_cond_f rfl ?_
                    refine wC_exit ?_
                    refine wQ_then_exit ?_
                    refine wQ_then_exit ?_
                    refine wQ_blk_same ?_
                    refine wQ_then ?_
                    refine wC_seq ?_
                    refine wC_region ?_
                    refine wL_makeSet (k := 3) S12 (wn rfl) rfl rfl rfl ?_
                    intro b26 w27 S28
                    have hW29 : winsOk W := fun j hj => hi14 j (by omega)
                    refine wL_val (v := .map (some b26)) (wn rfl) rfl rfl (y_assign rfl rfl) ?_
                    refine wL_nil ?_
                    refine wQ_sub (l' := [(1, _), (2, _), (6, _)]) ⟨rfl, rfl, rfl, trivial⟩ ?_
                    refine wQ_then ?_
                    refine wC_seq ?_
                    refine wC_region ?_
                    refine wL_val (v := .int .i64 (-1)) (wn rfl) rfl rfl (y_assign rfl rfl) ?_
                    refine wL_nil ?_
                    refine wQ_then ?_
                    refine wC_seq ?_
                    refine wC_seq ?_
                    refine wC_region ?_
                    refine wL_val (v := .pointer (some ⟨b1, 3, none⟩)) (wn rfl) rfl rfl (y_fieldAddr rfl rfl (fa29_3 _ _ _)) ?_
                    refine wL_val (v := .slice A1 rs.length c1) (wn rfl) rfl rfl (y_load rfl rfl (r_load Try.underlying22 rfl (St.cl 1 S28 rfl qRow_g3))) ?_
                    refine wL_val (v := .int .i64 ((rs.length : Nat) : Int)) (wn rfl) rfl rfl (y_builtin (vs := [.slice A1 rs.length c1]) rfl ⟨rfl, trivial⟩ fun _ => r_len rfl Try.underlying22) ?_
                    refine wL_val (v := .int .i64 0) (wn rfl) rfl rfl (y_move rfl rfl) ?_
                    refine wL_nil ?_
                    refine wQ_sub (l' := [(1, _), (2, _), (6, _), (7, _), (63, _), (64, _), (65, _)]) ⟨rfl, rfl, rfl, rfl, rfl, rfl, rfl, trivial⟩ ?_
                    refine wQ_then ?_
                    refine wC_block ?_
                    refine wC_loop (X := Nat × Int) (fun xv => [(1, .pointer (some ⟨b1, 0, none⟩)), (2, .int .i64 0), (6, .map (some b26)), (7, .int .i64 xv.2), (63, .slice A1 rs.length c1), (64, .int .i64 ((rs.length : Nat) : Int)), (65, .int .i64 ((xv.1 : Nat) : Int))]) (fun xv wr => (xv.1 ≤ rs.length) ∧ (rdyFrom nx (-1) rs = rdyFrom nx xv.2 (rs.drop xv.1)) ∧ St w.heap.size w wr [.loc b26 (ISet Try.prog 3 ((rs.take xv.1).map (·.no))), .blk b1 (qRow ep nx gv (.slice A1 rs.length c1) (.slice A2 ls.length c2) W) 29, .rd 2 A1 rs.length ((rs).flatMap Msg.cells), .rd 4 A2 ls.length ((ls).flatMap Ls.cells)]) (fun xv => rs.length - xv.1) (0, -1) ?_ ?_ ?_
                    · exact ⟨Nat.zero_le _, rfl, S28⟩
                    · exact ⟨rfl, rfl, rfl, rfl, rfl, rfl, rfl, trivial⟩
                    · rintro ⟨k, p⟩ w30 ⟨hi32, hi33, S31⟩
                      try dsimp only at hi32 hi33 S31
                      clear S28
                      refine wC_sub (l' := [(1, .pointer (some ⟨b1, 0, none⟩)), (2, .int .i64 0), (6, .map (some b26)), (7, .int .i64 p), (63, .slice A1 rs.length c1), (64, .int .i64 ((rs.length : Nat) : Int)), (65, .int .i64 ((k : Nat) : Int))]) ⟨rfl, rfl, rfl, rfl, rfl, rfl, rfl, trivial⟩ ?_
                      refine wC_seq ?_
                      refine wC_region ?_
                      by_cases h34 : ((k : Nat) : Int) < ((rs.length : Nat) : Int)
                      · refine wL_val (v := .bool true) (wn rfl) rfl rfl (y_binop rfl rfl rfl (r_lss_t h34)) ?_
                        refine wL_nil ?_
                        refine wQ_then ?_
                        refine wC_seq ?_
                        refine wC_cond_t rfl ?_
                        refine wC_skip ?_
                        refine wQ_then ?_
                        refine wC_seq ?_
                        refine wC_block ?_
                        refine wC_seq ?_
                        refine wC_region ?_
                        obtain ⟨b35, o36, rfl⟩ := Rd.addr (St.rd 2 S31 rfl) (by omega)
                        obtain ⟨x37, hx38⟩ : ∃ x, (rs)[k]? = some x := ⟨_, List.getElem?_eq_getElem (by have := (St.rd 2 S31 rfl).1; rw [fm_len (sz := 2) (fun _ => rfl)] at this; omega)⟩
                        refine wL_val (v := .pointer (some ⟨b35, o36 + k * 2, none⟩)) (wn rfl) rfl rfl (y_indexAddr rfl rfl rfl (r_indexAddr k Try.underlying22 inf137 (by omega) (by omega))) ?_
                        refine wL_val (v := .agg #[.int .i64 x37.no, .int .i64 x37.body]) (wn rfl) rfl rfl (y_load rfl rfl (r_load_agg (cs := Msg.cells x37) Try.underlying137 rfl inf137 rfl (Rd.rg2 (St.rd 2 S31 rfl) (fun _ _ h => fm_get (enc := Msg.cells) (sz := 2) (fun _ => rfl) hx38 h)))) ?_
                        refine wL_new (V := fun b => .pointer (some ⟨b, 0, none⟩)) (row := #[.int .i64 0, .int .i64 0]) (t := 137) S31 (wn rfl) rfl rfl (d_alloc rfl (Try.zeroValue137 _) rfl) ?_
                        intro b39 w40 S41
                        clear S31
                        refine wL_st (cs := #[.int .i64 x37.no, .int .i64 x37.body]) (row' := #[.int .i64 x37.no, .int .i64 x37.body]) (fs' := [.blk b39 #[.int .i64 x37.no, .int .i64 x37.body] 137, _, _, _, _]) 0 S41 (wn rfl) rfl rfl rfl rfl rfl rfl inf137 rfl (oneAll rfl) (Nat.le_of_ble_eq_true rfl) (setAll_all rfl) rfl ?_
                        intro w42 S43
                        clear S41
                        refine wL_nil ?_
                        refine wQ_sub (l' := [(1, _), (2, _), (6, _), (7, _), (63, _), (64, _), (65, _), (9, _)]) ⟨rfl, rfl, rfl, rfl, rfl, rfl, rfl, rfl, trivial⟩ ?_
                        refine wQ_then ?_
                        refine wC_seq ?_
                        refine wC_seq ?_
                        refine wC_region ?_
                        refine wL_val (v := .agg (qRow ep nx gv (.slice (some ⟨b35, o36, none⟩) rs.length c1) (.slice A2 ls.length c2) W)) (wn rfl) rfl rfl (y_load rfl rfl (r_load_row 2 S43 rfl Try.underlying29 rfl inf29 rfl)) ?_
                        refine wL_val (v := .agg #[.int .i64 x37.no, .int .i64 x37.body]) (wn rfl) rfl rfl (y_load rfl rfl (r_load_row 0 S43 rfl Try.underlying137 rfl inf137 rfl)) ?_
                        refine wL_call (vs := [.agg (qRow ep nx gv (.slice (some ⟨b35, o36, none⟩) rs.length c1) (.slice A2 ls.length c2) W), .agg #[.int .i64 x37.no, .int .i64 x37.body]]) (wn rfl) rfl rfl (e_call (vs := [.agg (qRow ep nx gv (.slice (some ⟨b35, o36, none⟩) rs.length c1) (.slice A2 ls.length c2) W), .agg #[.int .i64 x37.no, .int .i64 x37.body]]) rfl en105 ⟨rfl, rfl, trivial⟩) (message_calls ep nx gv _ _ W x37 _) ?_
                        rintro _ w44 ⟨rfl, hb46⟩
                        refine ⟨_, rfl, ?_⟩
                        have S45 := S43.on hb46
                        clear hb46 S43
                        cases hb47 : (msgOk nx x37)
                        · refine wL_val (v := .bool true) (wn rfl) rfl rfl (y_unop rfl rfl r_not) ?_
                          refine wL_val (v := .bool true) (wn rfl) rfl rfl (y_move rfl rfl) ?_
                          refine wL_skip (wg rfl rfl rfl rfl) rfl rfl ?_
                          refine wL_skip (wg rfl rfl rfl rfl) rfl rfl ?_
                          refine wL_skip (wg rfl rfl rfl rfl) rfl rfl ?_
                          refine wL_skip (wg rfl rfl rfl rfl) rfl rfl ?_
                          refine wL_val (v := .bool true) (wn rfl) rfl rfl (y_pick_t rfl rfl rfl) ?_
                          refine wL_nil ?_
                          refine wQ_sub (l' := [(1, _), (2, _), (6, _), (63, _), (64, _), (65, _), (9, _), (74, _), (75, _), (76, _), (77, _), (78, _)]) ⟨rfl, rfl, rfl, rfl, rfl, rfl, rfl, rfl, rfl, rfl, rfl, rfl, trivial⟩ ?_
                          refine wQ_then ?_
                          refine wC_cond_t rfl ?_
                          refine wC_seq ?_
                          refine wC_region ?_
                          refine wL_val (v := .int .i64 6) (wn rfl) rfl rfl (y_assign rfl rfl) ?_
                          refine wL_nil ?_
                          refine wQ_sub (l' := [(2, _)]) ⟨rfl, trivial⟩ ?_
                          refine wQ_then ?_
                          refine wC_ret ?_
                          refine wQ_then_ret ?_
                          refine wQ_blk_ret ?_
                          refine wQ_then_ret ?_
                          refine wQ_then_ret ?_
                          refine wQ_blk_ret ?_
                          refine wQ_then_ret ?_
                          refine wQ_post (rs := [.tmp 2]) (vs := [.int .i64 6]) rfl ⟨rfl, trivial⟩ ?_
                          exact ⟨ret_int_ (qf_bad fun h => by rw [hi33, rdy_step hx38, hb47] at h; exact absurd h.2.1 (by simp)).symm, S45.low⟩
                        · have hmo48 := msgOk_of hb47
                          refine wL_val (v := .bool false) (wn rfl) rfl rfl (y_unop rfl rfl r_not) ?_
                          refine wL_val (v := .bool false) (wn rfl) rfl rfl (y_move rfl rfl) ?_
                          refine wL_val (v := .pointer (some ⟨b39, 0, none⟩)) (wg rfl rfl rfl rfl) rfl rfl (y_fieldAddr rfl rfl (fa137_0 _ _ _)) ?_
                          refine wL_val (v := .int .i64 x37.no) (wg rfl rfl rfl rfl) rfl rfl (y_load rfl rfl (r_load Try.underlying3 rfl (St.cl 0 S45 rfl rfl))) ?_
                          refine wL_val (v := .int .i64 p) (wg rfl rfl rfl rfl) rfl rfl (y_move rfl rfl) ?_
                          by_cases h49 : p < x37.no
                          · refine wL_val (v := .bool false) (wg rfl rfl rfl rfl) rfl rfl (y_binop rfl rfl rfl (r_leq_f (by omega))) ?_
                            refine wL_val (v := .bool false) (wn rfl) rfl rfl (y_pick_f rfl rfl rfl) ?_
                            refine wL_nil ?_
                            refine wQ_sub (l' := [(1, _), (2, _), (6, _), (63, _), (64, _), (65, _), (9, _), (74, _), (75, _), (76, _), (77, _), (78, _)]) ⟨rfl, rfl, rfl, rfl, rfl, rfl, rfl, rfl, rfl, rfl, rfl, rfl, trivial⟩ ?_
                            refine wQ_then ?_
                            refine wC_cond_f rfl ?_
                            refine wC_skip ?_
                            refine wQ_then ?_
                            refine wC_seq ?_
                            refine wC_region ?_
                            refine wL_val (v := .pointer (some ⟨b39, 0, none⟩)) (wn rfl) rfl rfl (y_fieldAddr rfl rfl (fa137_0 _ _ _)) ?_
                            refine wL_val (v := .int .i64 x37.no) (wn rfl) rfl rfl (y_load rfl rfl (r_load Try.underlying3 rfl (St.cl 0 S45 rfl rfl))) ?_
                            refine wL_val (v := .int .i64 x37.no) (wn rfl) rfl rfl (y_assign rfl rfl) ?_
                            refine wL_nil ?_
                            refine wQ_sub (l' := [(1, _), (2, _), (6, _), (63, _), (64, _), (65, _), (9, _), (74, _), (75, _), (76, _), (77, _), (7, _)]) ⟨rfl, rfl, rfl, rfl, rfl, rfl, rfl, rfl, rfl, rfl, rfl, rfl, trivial⟩ ?_
                            refine wQ_then ?_
                            refine wC_region ?_
                            refine wL_val (v := .map (some b26)) (wn rfl) rfl rfl (y_move rfl rfl) ?_
                            refine wL_val (v := .pointer (some ⟨b39, 0, none⟩)) (wn rfl) rfl rfl (y_fieldAddr rfl rfl (fa137_0 _ _ _)) ?_
                            refine wL_val (v := .int .i64 x37.no) (wn rfl) rfl rfl (y_load rfl rfl (r_load Try.underlying3 rfl (St.cl 0 S45 rfl rfl))) ?_
                            refine wL_val (v := .agg #[]) (wn rfl) rfl rfl (y_build (vs := []) rfl trivial (by kernel_rfl)) ?_
                            refine wL_putSet (z := x37.no) 1 S45 (wn rfl) rfl rfl rfl rfl rfl rfl Try.underlying3 Try.underlying135 (by omega) (by simp [maxLen]; omega) ?_
                            intro w50 S51
                            rw [take_map (f := fun m : Msg => m.no) hx38] at S51
                            change St _ _ _ [.blk b39 #[.int .i64 x37.no, .int .i64 x37.body] 137, .loc b26 (ISet Try.prog 3 ((rs.take (k + 1)).map (·.no))), .blk b1 (qRow ep nx gv (.slice (some ⟨b35, o36, none⟩) rs.length c1) (.slice A2 ls.length c2) W) 29, .rd 2 (some ⟨b35, o36, none⟩) rs.length ((rs).flatMap Msg.cells), .rd 4 A2 ls.length ((ls).flatMap Ls.cells)] at S51
                            refine wL_nil ?_
                            refine wQ_sub (l' := [(1, _), (2, _), (6, _), (63, _), (64, _), (65, _), (74, _), (75, _), (76, _), (77, _), (7, _)]) ⟨rfl, rfl, rfl, rfl, rfl, rfl, rfl, rfl, rfl, rfl, rfl, trivial⟩ ?_
                            refine wQ_blk_n ?_
                            refine wQ_then ?_
                            refine wC_region ?_
                            refine wL_val (v := .int .i64 ((k + 1 : Nat) : Int)) (wn rfl) rfl rfl (y_binop rfl rfl rfl (r_add (by omega) (by omega))) ?_
                            refine wL_val (v := .int .i64 ((k + 1 : Nat) : Int)) (wn rfl) rfl rfl (y_move rfl rfl) ?_
                            refine wL_nil ?_
                            refine wQ_sub (l' := [(1, _), (2, _), (6, _), (63, _), (64, _), (65, _), (74, _), (75, _), (76, _), (77, _), (7, _)]) ⟨rfl, rfl, rfl, rfl, rfl, rfl, rfl, rfl, rfl, rfl, rfl, trivial⟩ ?_
                            have S53 : St w.heap.size w w50 [_, _, _, _] := (St.del 0 S51)
                            clear S51
                            refine wQ_round (k + 1, x37.no) ?_ ⟨rfl, rfl, rfl, rfl, rfl, rfl, rfl, trivial⟩ (by first | omega | (dsimp only; omega))
                            exact ⟨(by dsimp only; omega), (by dsimp only; rw [hi33, rdy_step hx38, hb47, decide_eq_true h49]; rfl), S53⟩
                          · refine wL_val (v := .bool true) (wg rfl rfl rfl rfl) rfl rfl (y_binop rfl rfl rfl (r_leq_t (by omega))) ?_
                            refine wL_val (v := .bool true) (wn rfl) rfl rfl (y_pick_f rfl rfl rfl) ?_
                            refine wL_nil ?_
                            refine wQ_sub (l' := [(1, _), (2, _), (6, _), (63, _), (64, _), (65, _), (9, _), (74, _), (75, _), (76, _), (77, _), (78, _)]) ⟨rfl, rfl, rfl, rfl, rfl, rfl, rfl, rfl, rfl, rfl, rfl, rfl, trivial⟩ ?_
                            refine wQ_then ?_
                            refine wC_cond_t rfl ?_
                            refine wC_seq ?_
                            refine wC_region ?_
                            refine wL_val (v := .int .i64 6) (wn rfl) rfl rfl (y_assign rfl rfl) ?_
                            refine wL_nil ?_
                            refine wQ_sub (l' := [(2, _)]) ⟨rfl, trivial⟩ ?_
                            refine wQ_then ?_
                            refine wC_ret ?_
                            refine wQ_then_ret ?_
                            refine wQ_blk_ret ?_
                            refine wQ_then_ret ?_
                            refine wQ_then_ret ?_
                            refine wQ_blk_ret ?_
                            refine wQ_then_ret ?_
                            refine wQ_post (rs := [.tmp 2]) (vs := [.int .i64 6]) rfl ⟨rfl, trivial⟩ ?_
                            exact ⟨ret_int_ (qf_bad fun h => by rw [hi33, rdy_step hx38, decide_eq_false h49] at h; exact absurd h.2.1 (by simp)).symm, S45.low⟩
                      · refine wL_val (v := .bool false) (wn rfl) rfl rfl (y_binop rfl rfl rfl (r_lss_f h34)) ?_
                        refine wL_nil ?_
                        refine wQ_then ?_
                        refine wC_seq ?_
                        refine wC_cond_f rfl ?_
                        refine wC_exit ?_
                        refine wQ_then_exit ?_
                        refine wQ_then_exit ?_
                        refine wQ_blk_same ?_
                        refine wQ_then ?_
                        refine wC_seq ?_
                        refine wC_region ?_
                        refine wL_val (v := .int .i64 (-1)) (wn rfl) rfl rfl (y_assign rfl rfl) ?_
                        refine wL_nil ?_
                        refine wQ_sub (l' := [(1, _), (2, _), (6, _), (7, _)]) ⟨rfl, rfl, rfl, rfl, trivial⟩ ?_
                        refine wQ_then ?_
                        refine wC_seq ?_
                        refine wC_seq ?_
                        refine wC_region ?_
                        refine wL_val (v := .pointer (some ⟨b1, 4, none⟩)) (wn rfl) rfl rfl (y_fieldAddr rfl rfl (fa29_4 _ _ _)) ?_
                        refine wL_val (v := .slice A2 ls.length c2) (wn rfl) rfl rfl (y_load rfl rfl (r_load Try.underlying23 rfl (St.cl 1 S31 rfl qRow_g4))) ?_
                        refine wL_val (v := .int .i64 ((ls.length : Nat) : Int)) (wn rfl) rfl rfl (y_builtin (vs := [.slice A2 ls.length c2]) rfl ⟨rfl, trivial⟩ fun _ => r_len rfl Try.underlying23) ?_
                        refine wL_val (v := .int .i64 0) (wn rfl) rfl rfl (y_move rfl rfl) ?_
                        refine wL_nil ?_
                        refine wQ_sub (l' := [(1, _), (2, _), (6, _), (7, _), (87, _), (88, _), (89, _)]) ⟨rfl, rfl, rfl, rfl, rfl, rfl, rfl, trivial⟩ ?_
                        refine wQ_then ?_
                        refine wC_block ?_
                        have hR54 : rdyFrom nx (-1) rs = true := by rw [hi33, List.drop_of_length_le (by omega)]; rfl
                        have S55 := S31
                        rw [List.take_of_length_le (show rs.length ≤ k by omega)] at S55
                        rw [← List.append_nil (rs.map (·.no))] at S55
                        change St _ _ _ [.loc b26 (ISet Try.prog 3 (rs.map (·.no) ++ (ls.take 0).map (·.msg.no))), .blk b1 (qRow ep nx gv (.slice A1 rs.length c1) (.slice A2 ls.length c2) W) 29, .rd 2 A1 rs.length ((rs).flatMap Msg.cells), .rd 4 A2 ls.length ((ls).flatMap Ls.cells)] at S55
                        refine wC_loop (X := Nat × Int) (fun xv => [(1, .pointer (some ⟨b1, 0, none⟩)), (2, .int .i64 0), (6, .map (some b26)), (7, .int .i64 xv.2), (87, .slice A2 ls.length c2), (88, .int .i64 ((ls.length : Nat) : Int)), (89, .int .i64 ((xv.1 : Nat) : Int))]) (fun xv wr => (xv.1 ≤ ls.length) ∧ (lsFrom ep nx gv (-1) ls = lsFrom ep nx gv xv.2 (ls.drop xv.1)) ∧ St w.heap.size w wr [.loc b26 (ISet Try.prog 3 (rs.map (·.no) ++ (ls.take xv.1).map (·.msg.no))), .blk b1 (qRow ep nx gv (.slice A1 rs.length c1) (.slice A2 ls.length c2) W) 29, .rd 2 A1 rs.length ((rs).flatMap Msg.cells), .rd 4 A2 ls.length ((ls).flatMap Ls.cells)]) (fun xv => ls.length - xv.1) (0, -1) ?_ ?_ ?_
                        · exact ⟨Nat.zero_le _, rfl, S55⟩
                        · exact ⟨rfl, rfl, rfl, rfl, rfl, rfl, rfl, trivial⟩
                        · rintro ⟨k, p⟩ w56 ⟨hi58, hi59, S57⟩
                          try dsimp only at hi58 hi59 S57
                          clear S55
                          refine wC_sub (l' := [(1, .pointer (some ⟨b1, 0, none⟩)), (2, .int .i64 0), (6, .map (some b26)), (7, .int .i64 p), (87, .slice A2 ls.length c2), (88, .int .i64 ((ls.length : Nat) : Int)), (89, .int .i64 ((k : Nat) : Int))]) ⟨rfl, rfl, rfl, rfl, rfl, rfl, rfl, trivial⟩ ?_
                          refine wC_seq ?_
                          refine wC_region ?_
                          by_cases h60 : ((k : Nat) : Int) < ((ls.length : Nat) : Int)
                          · refine wL_val (v := .bool true) (wn rfl) rfl rfl (y_binop rfl rfl rfl (r_lss_t h60)) ?_
                            refine wL_nil ?_
                            refine wQ_then ?_
                            refine wC_seq ?_
                            refine wC_cond_t rfl ?_
                            refine wC_skip ?_
                            refine wQ_then ?_
                            refine wC_seq ?_
                            refine wC_block ?_
                            refine wC_seq ?_
                            refine wC_region ?_
                            obtain ⟨b61, o62, rfl⟩ := Rd.addr (St.rd 3 S57 rfl) (by omega)
                            obtain ⟨x63, hx64⟩ : ∃ x, (ls)[k]? = some x := ⟨_, List.getElem?_eq_getElem (by have := (St.rd 3 S57 rfl).1; rw [fm_len (sz := 4) (fun _ => rfl)] at this; omega)⟩
                            refine wL_val (v := .pointer (some ⟨b61, o62 + k * 4, none⟩)) (wn rfl) rfl rfl (y_indexAddr rfl rfl rfl (r_indexAddr k Try.underlying23 inf141 (by omega) (by omega))) ?_
                            refine wL_val (v := .agg #[.int .i64 x63.hep, .int .i64 x63.hno, .int .i64 x63.msg.no, .int .i64 x63.msg.body]) (wn rfl) rfl rfl (y_load rfl rfl (r_load_agg (cs := Ls.cells x63) Try.underlying141 rfl inf141 rfl (Rd.rg2 (St.rd 3 S57 rfl) (fun _ _ h => fm_get (enc := Ls.cells) (sz := 4) (fun _ => rfl) hx64 h)))) ?_
                            refine wL_new (V := fun b => .pointer (some ⟨b, 0, none⟩)) (row := #[.int .i64 0, .int .i64 0, .int .i64 0, .int .i64 0]) (t := 141) S57 (wn rfl) rfl rfl (d_alloc rfl (Try.zeroValue141 _) rfl) ?_
                            intro b65 w66 S67
                            clear S57
                            refine wL_st (cs := #[.int .i64 x63.hep, .int .i64 x63.hno, .int .i64 x63.msg.no, .int .i64 x63.msg.body]) (row' := #[.int .i64 x63.hep, .int .i64 x63.hno, .int .i64 x63.msg.no, .int .i64 x63.msg.body]) (fs' := [.blk b65 #[.int .i64 x63.hep, .int .i64 x63.hno, .int .i64 x63.msg.no, .int .i64 x63.msg.body] 141, _, _, _, _]) 0 S67 (wn rfl) rfl rfl rfl rfl rfl rfl inf141 rfl (oneAll rfl) (Nat.le_of_ble_eq_true rfl) (setAll_all rfl) rfl ?_
                            intro w68 S69
                            clear S67
                            refine wL_nil ?_
                            refine wQ_sub (l' := [(1, _), (2, _), (6, _), (7, _), (87, _), (88, _), (89, _), (11, _)]) ⟨rfl, rfl, rfl, rfl, rfl, rfl, rfl, rfl, trivial⟩ ?_
                            refine wQ_then ?_
                            refine wC_seq ?_
                            refine wC_seq ?_
                            refine wC_region ?_
                            refine wL_val (v := .agg (qRow ep nx gv (.slice A1 rs.length c1) (.slice (some ⟨b61, o62, none⟩) ls.length c2) W)) (wn rfl) rfl rfl (y_load rfl rfl (r_load_row 2 S69 rfl Try.underlying29 rfl inf29 rfl)) ?_
                            refine wL_val (v := .pointer (some ⟨b65, 2, none⟩)) (wn rfl) rfl rfl (y_fieldAddr rfl rfl (fa141_1 _ _ _)) ?_
                            refine wL_val (v := .agg #[.int .i64 x63.msg.no, .int .i64 x63.msg.body]) (wn rfl) rfl rfl (y_load rfl rfl (r_load_agg (cs := [.int .i64 x63.msg.no, .int .i64 x63.msg.body]) Try.underlying137 rfl inf137 rfl (St.rg 0 S69 rfl (sub_row (x := 2) (m := 2) rfl)))) ?_
                            refine wL_call (vs := [.agg (qRow ep nx gv (.slice A1 rs.length c1) (.slice (some ⟨b61, o62, none⟩) ls.length c2) W), .agg #[.int .i64 x63.msg.no, .int .i64 x63.msg.body]]) (wn rfl) rfl rfl (e_call (vs := [.agg (qRow ep nx gv (.slice A1 rs.length c1) (.slice (some ⟨b61, o62, none⟩) ls.length c2) W), .agg #[.int .i64 x63.msg.no, .int .i64 x63.msg.body]]) rfl en105 ⟨rfl, rfl, trivial⟩) (message_calls ep nx gv _ _ W x63.msg _) ?_
                            rintro _ w70 ⟨rfl, hb72⟩
                            refine ⟨_, rfl, ?_⟩
                            have S71 := S69.on hb72
                            clear hb72 S69
                            cases hb73 : (msgOk nx x63.msg)
                            · refine wL_val (v := .bool true) (wn rfl) rfl rfl (y_unop rfl rfl r_not) ?_
                              refine wL_val (v := .bool true) (wn rfl) rfl rfl (y_move rfl rfl) ?_
                              refine wL_skip (wg rfl rfl rfl rfl) rfl rfl ?_
                              refine wL_skip (wg rfl rfl rfl rfl) rfl rfl ?_
                              refine wL_skip (wg rfl rfl rfl rfl) rfl rfl ?_
                              refine wL_skip (wg rfl rfl rfl rfl) rfl rfl ?_
                              refine wL_skip (wg rfl rfl rfl rfl) rfl rfl ?_
                              refine wL_skip (wg rfl rfl rfl rfl) rfl rfl ?_
                              refine wL_val (v := .bool true) (wn rfl) rfl rfl (y_pick_t rfl rfl rfl) ?_
                              refine wL_val (v := .bool true) (wn rfl) rfl rfl (y_move rfl rfl) ?_
                              refine wL_skip (wg rfl rfl rfl rfl) rfl rfl ?_
                              refine wL_skip (wg rfl rfl rfl rfl) rfl rfl ?_
                              refine wL_skip (wg rfl rfl rfl rfl) rfl rfl ?_
                              refine wL_skip (wg rfl rfl rfl rfl) rfl rfl ?_
                              refine wL_skip (wg rfl rfl rfl rfl) rfl rfl ?_
                              refine wL_val (v := .bool true) (wn rfl) rfl rfl (y_pick_t rfl rfl rfl) ?_
                              refine wL_val (v := .bool true) (wn rfl) rfl rfl (y_move rfl rfl) ?_
                              refine wL_skip (wg rfl rfl rfl rfl) rfl rfl ?_
                              refine wL_skip (wg rfl rfl rfl rfl) rfl rfl ?_
                              refine wL_skip (wg rfl rfl rfl rfl) rfl rfl ?_
                              refine wL_skip (wg rfl rfl rfl rfl) rfl rfl ?_
                              refine wL_skip (wg rfl rfl rfl rfl) rfl rfl ?_
                              refine wL_skip (wg rfl rfl rfl rfl) rfl rfl ?_
                              refine wL_val (v := .bool true) (wn rfl) rfl rfl (y_pick_t rfl rfl rfl) ?_
                              refine wL_nil ?_
                              refine wQ_sub (l' := [(1, _), (2, _), (6, _), (87, _), (88, _), (89, _), (11, _), (99, _), (100, _), (101, _), (102, _), (103, _), (104, _), (107, _), (108, _), (109, _), (110, _), (111, _), (114, _), (115, _), (116, _), (117, _), (118, _), (119, _), (120, _)]) ⟨rfl, rfl, rfl, rfl, rfl, rfl, rfl, rfl, rfl, rfl, rfl, rfl, rfl, rfl, rfl, rfl, rfl, rfl, rfl, rfl, rfl, rfl, rfl, rfl, rfl, trivial⟩ ?_
                              refine wQ_then ?_
                              refine wC_cond_t rfl ?_
                              refine wC_seq ?_
                              refine wC_region ?_
                              refine wL_val (v := .int .i64 6) (wn rfl) rfl rfl (y_assign rfl rfl) ?_
                              refine wL_nil ?_
                              refine wQ_sub (l' := [(2, _)]) ⟨rfl, trivial⟩ ?_
                              refine wQ_then ?_
                              refine wC_ret ?_
                              refine wQ_then_ret ?_
                              refine wQ_blk_ret ?_
                              refine wQ_then_ret ?_
                              refine wQ_then_ret ?_
                              refine wQ_blk_ret ?_
                              refine wQ_then_ret ?_
                              refine wQ_post (rs := [.tmp 2]) (vs := [.int .i64 6]) rfl ⟨rfl, trivial⟩ ?_
                              exact ⟨ret_int_ (qf_bad fun h => by rw [hi59, ls_step hx64, lsOk, hb73] at h; exact absurd h.2.2.1 (by simp)).symm, S71.low⟩
                            · have hmo74 := msgOk_of hb73
                              refine wL_val (v := .bool false) (wn rfl) rfl rfl (y_unop rfl rfl r_not) ?_
                              refine wL_val (v := .bool false) (wn rfl) rfl rfl (y_move rfl rfl) ?_
                              refine wL_val (v := .pointer (some ⟨b65, 0, none⟩)) (wg rfl rfl rfl rfl) rfl rfl (y_fieldAddr rfl rfl (fa141_0 _ _ _)) ?_
                              refine wL_val (v := .pointer (some ⟨b65, 0, none⟩)) (wg rfl rfl rfl rfl) rfl rfl (y_fieldAddr rfl rfl (fa35_0 _ _ _)) ?_
                              refine wL_val (v := .int .i64 x63.hep) (wg rfl rfl rfl rfl) rfl rfl (y_load rfl rfl (r_load Try.underlying3 rfl (St.cl 0 S71 rfl rfl))) ?_
                              refine wL_val (v := .pointer (some ⟨b1, 0, none⟩)) (wg rfl rfl rfl rfl) rfl rfl (y_fieldAddr rfl rfl (fa29_0 _ _ _)) ?_
                              refine wL_val (v := .int .i64 ep) (wg rfl rfl rfl rfl) rfl rfl (y_load rfl rfl (r_load Try.underlying3 rfl (St.cl 2 S71 rfl qRow_g0))) ?_
                              by_cases h75 : x63.hep = ep
                              · refine wL_val (v := .bool false) (wg rfl rfl rfl rfl) rfl rfl (y_binop rfl rfl rfl (r_neq_f (by omega))) ?_
                                refine wL_val (v := .bool false) (wn rfl) rfl rfl (y_pick_f rfl rfl rfl) ?_
                                refine wL_val (v := .bool false) (wn rfl) rfl rfl (y_move rfl rfl) ?_
                                refine wL_val (v := .pointer (some ⟨b65, 0, none⟩)) (wg rfl rfl rfl rfl) rfl rfl (y_fieldAddr rfl rfl (fa141_0 _ _ _)) ?_
                                refine wL_val (v := .pointer (some ⟨b65, 1, none⟩)) (wg rfl rfl rfl rfl) rfl rfl (y_fieldAddr rfl rfl (fa35_1 _ _ _)) ?_
                                refine wL_val (v := .int .i64 x63.hno) (wg rfl rfl rfl rfl) rfl rfl (y_load rfl rfl (r_load Try.underlying3 rfl (St.cl 0 S71 rfl rfl))) ?_
                                refine wL_val (v := .int .i64 p) (wg rfl rfl rfl rfl) rfl rfl (y_move rfl rfl) ?_
                                by_cases h76 : p < x63.hno
                                · refine wL_val (v := .bool false) (wg rfl rfl rfl rfl) rfl rfl (y_binop rfl rfl rfl (r_leq_f (by omega))) ?_
                                  refine wL_val (v := .bool false) (wn rfl) rfl rfl (y_pick_f rfl rfl rfl) ?_
                                  refine wL_val (v := .bool false) (wn rfl) rfl rfl (y_move rfl rfl) ?_
                                  refine wL_val (v := .pointer (some ⟨b65, 0, none⟩)) (wg rfl rfl rfl rfl) rfl rfl (y_fieldAddr rfl rfl (fa141_0 _ _ _)) ?_
                                  refine wL_val (v := .pointer (some ⟨b65, 1, none⟩)) (wg rfl rfl rfl rfl) rfl rfl (y_fieldAddr rfl rfl (fa35_1 _ _ _)) ?_
                                  refine wL_val (v := .int .i64 x63.hno) (wg rfl rfl rfl rfl) rfl rfl (y_load rfl rfl (r_load Try.underlying3 rfl (St.cl 0 S71 rfl rfl))) ?_
                                  refine wL_val (v := .pointer (some ⟨b1, 2, none⟩)) (wg rfl rfl rfl rfl) rfl rfl (y_fieldAddr rfl rfl (fa29_2 _ _ _)) ?_
                                  refine wL_val (v := .int .i64 gv) (wg rfl rfl rfl rfl) rfl rfl (y_load rfl rfl (r_load Try.underlying3 rfl (St.cl 2 S71 rfl qRow_g2))) ?_
                                  by_cases h77 : x63.hno < gv
                                  · refine wL_val (v := .bool false) (wg rfl rfl rfl rfl) rfl rfl (y_binop rfl rfl rfl (r_geq_f (by omega))) ?_
                                    refine wL_val (v := .bool false) (wn rfl) rfl rfl (y_pick_f rfl rfl rfl) ?_
                                    refine wL_nil ?_
                                    refine wQ_sub (l' := [(1, _), (2, _), (6, _), (87, _), (88, _), (89, _), (11, _), (99, _), (100, _), (101, _), (102, _), (103, _), (104, _), (107, _), (108, _), (109, _), (110, _), (111, _), (114, _), (115, _), (116, _), (117, _), (118, _), (119, _), (120, _)]) ⟨rfl, rfl, rfl, rfl, rfl, rfl, rfl, rfl, rfl, rfl, rfl, rfl, rfl, rfl, rfl, rfl, rfl, rfl, rfl, rfl, rfl, rfl, rfl, rfl, rfl, trivial⟩ ?_
                                    refine wQ_then ?_
                                    refine wC_cond_f rfl ?_
                                    refine wC_skip ?_
                                    refine wQ_then ?_
                                    refine wC_seq ?_
                                    refine wC_region ?_
                                    refine wL_val (v := .pointer (some ⟨b65, 0, none⟩)) (wn rfl) rfl rfl (y_fieldAddr rfl rfl (fa141_0 _ _ _)) ?_
                                    refine wL_val (v := .pointer (some ⟨b65, 1, none⟩)) (wn rfl) rfl rfl (y_fieldAddr rfl rfl (fa35_1 _ _ _)) ?_
                                    refine wL_val (v := .int .i64 x63.hno) (wn rfl) rfl rfl (y_load rfl rfl (r_load Try.underlying3 rfl (St.cl 0 S71 rfl rfl))) ?_
                                    refine wL_val (v := .int .i64 x63.hno) (wn rfl) rfl rfl (y_assign rfl rfl) ?_
                                    refine wL_nil ?_
                                    refine wQ_sub (l' := [(1, _), (2, _), (6, _), (87, _), (88, _), (89, _), (11, _), (99, _), (100, _), (101, _), (102, _), (103, _), (104, _), (107, _), (108, _), (109, _), (110, _), (111, _), (114, _), (115, _), (116, _), (117, _), (118, _), (119, _), (7, _)]) ⟨rfl, rfl, rfl, rfl, rfl, rfl, rfl, rfl, rfl, rfl, rfl, rfl, rfl, rfl, rfl, rfl, rfl, rfl, rfl, rfl, rfl, rfl, rfl, rfl, rfl, trivial⟩ ?_
                                    refine wQ_then ?_
                                    refine wC_region ?_
                                    refine wL_val (v := .map (some b26)) (wn rfl) rfl rfl (y_move rfl rfl) ?_
                                    refine wL_val (v := .pointer (some ⟨b65, 2, none⟩)) (wn rfl) rfl rfl (y_fieldAddr rfl rfl (fa141_1 _ _ _)) ?_
                                    refine wL_val (v := .pointer (some ⟨b65, 2, none⟩)) (wn rfl) rfl rfl (y_fieldAddr rfl rfl (fa137_0 _ _ _)) ?_
                                    refine wL_val (v := .int .i64 x63.msg.no) (wn rfl) rfl rfl (y_load rfl rfl (r_load Try.underlying3 rfl (St.cl 0 S71 rfl rfl))) ?_
                                    refine wL_val (v := .agg #[]) (wn rfl) rfl rfl (y_build (vs := []) rfl trivial (by kernel_rfl)) ?_
                                    refine wL_putSet (z := x63.msg.no) 1 S71 (wn rfl) rfl rfl rfl rfl rfl rfl Try.underlying3 Try.underlying135 (by omega) (by simp [maxLen]; omega) ?_
                                    intro w78 S79
                                    rw [List.append_assoc, take_map (f := fun m : Ls => m.msg.no) hx64] at S79
                                    change St _ _ _ [.blk b65 #[.int .i64 x63.hep, .int .i64 x63.hno, .int .i64 x63.msg.no, .int .i64 x63.msg.body] 141, .loc b26 (ISet Try.prog 3 (rs.map (·.no) ++ (ls.take (k + 1)).map (·.msg.no))), .blk b1 (qRow ep nx gv (.slice A1 rs.length c1) (.slice (some ⟨b61, o62, none⟩) ls.length c2) W) 29, .rd 2 A1 rs.length ((rs).flatMap Msg.cells), .rd 4 (some ⟨b61, o62, none⟩) ls.length ((ls).flatMap Ls.cells)] at S79
                                    refine wL_nil ?_
                                    refine wQ_sub (l' := [(1, _), (2, _), (6, _), (87, _), (88, _), (89, _), (99, _), (100, _), (101, _), (102, _), (103, _), (104, _), (107, _), (108, _), (109, _), (110, _), (111, _), (114, _), (115, _), (116, _), (117, _), (118, _), (119, _), (7, _)]) ⟨rfl, rfl, rfl, rfl, rfl, rfl, rfl, rfl, rfl, rfl, rfl, rfl, rfl, rfl, rfl, rfl, rfl, rfl, rfl, rfl, rfl, rfl, rfl, rfl, trivial⟩ ?_
                                    refine wQ_blk_n ?_
                                    refine wQ_then ?_
                                    refine wC_region ?_
                                    refine wL_val (v := .int .i64 ((k + 1 : Nat) : Int)) (wn rfl) rfl rfl (y_binop rfl rfl rfl (r_add (by omega) (by omega))) ?_
                                    refine wL_val (v := .int .i64 ((k + 1 : Nat) : Int)) (wn rfl) rfl rfl (y_move rfl rfl) ?_
                                    refine wL_nil ?_
                                    refine wQ_sub (l' := [(1, _), (2, _), (6, _), (87, _), (88, _), (89, _), (99, _), (100, _), (101, _), (102, _), (103, _), (104, _), (107, _), (108, _), (109, _), (110, _), (111, _), (114, _), (115, _), (116, _), (117, _), (118, _), (119, _), (7, _)]) ⟨rfl, rfl, rfl, rfl, rfl, rfl, rfl, rfl, rfl, rfl, rfl, rfl, rfl, rfl, rfl, rfl, rfl, rfl, rfl, rfl, rfl, rfl, rfl, rfl, trivial⟩ ?_
                                    have S81 : St w.heap.size w w78 [_, _, _, _] := (St.del 0 S79)
                                    clear S79
                                    refine wQ_round (k + 1, x63.hno) ?_ ⟨rfl, rfl, rfl, rfl, rfl, rfl, rfl, trivial⟩ (by first | omega | (dsimp only; omega))
                                    exact ⟨(by dsimp only; omega), (by dsimp only; rw [hi59, ls_step hx64, lsOk, hb73, decide_eq_true ⟨by omega, by omega, by omega⟩]; rfl), S81⟩
                                  · refine wL_val (v := .bool true) (wg rfl rfl rfl rfl) rfl rfl (y_binop rfl rfl rfl (r_geq_t (by omega))) ?_
                                    refine wL_val (v := .bool true) (wn rfl) rfl rfl (y_pick_f rfl rfl rfl) ?_
                                    refine wL_nil ?_
                                    refine wQ_sub (l' := [(1, _), (2, _), (6, _), (87, _), (88, _), (89, _), (11, _), (99, _), (100, _), (101, _), (102, _), (103, _), (104, _), (107, _), (108, _), (109, _), (110, _), (111, _), (114, _), (115, _), (116, _), (117, _), (118, _), (119, _), (120, _)]) ⟨rfl, rfl, rfl, rfl, rfl, rfl, rfl, rfl, rfl, rfl, rfl, rfl, rfl, rfl, rfl, rfl, rfl, rfl, rfl, rfl, rfl, rfl, rfl, rfl, rfl, trivial⟩ ?_
                                    refine wQ_then ?_
                                    refine wC_cond_t rfl ?_
                                    refine wC_seq ?_
                                    refine wC_region ?_
                                    refine wL_val (v := .int .i64 6) (wn rfl) rfl rfl (y_assign rfl rfl) ?_
                                    refine wL_nil ?_
                                    refine wQ_sub (l' := [(2, _)]) ⟨rfl, trivial⟩ ?_
                                    refine wQ_then ?_
                                    refine wC_ret ?_
                                    refine wQ_then_ret ?_
                                    refine wQ_blk_ret ?_
                                    refine wQ_then_ret ?_
                                    refine wQ_then_ret ?_
                                    refine wQ_blk_ret ?_
                                    refine wQ_then_ret ?_
                                    refine wQ_post (rs := [.tmp 2]) (vs := [.int .i64 6]) rfl ⟨rfl, trivial⟩ ?_
                                    exact ⟨ret_int_ (qf_bad fun h => by rw [hi59, ls_step hx64, lsOk, decide_eq_false (fun h1 => h77 (h1.2.2)), Bool.and_false] at h; exact absurd h.2.2.1 (by simp)).symm, S71.low⟩
                                · refine wL_val (v := .bool true) (wg rfl rfl rfl rfl) rfl rfl (y_binop rfl rfl rfl (r_leq_t (by omega))) ?_
                                  refine wL_val (v := .bool true) (wn rfl) rfl rfl (y_pick_f rfl rfl rfl) ?_
                                  refine wL_val (v := .bool true) (wn rfl) rfl rfl (y_move rfl rfl) ?_
                                  refine wL_skip (wg rfl rfl rfl rfl) rfl rfl ?_
                                  refine wL_skip (wg rfl rfl rfl rfl) rfl rfl ?_
                                  refine wL_skip (wg rfl rfl rfl rfl) rfl rfl ?_
                                  refine wL_skip (wg rfl rfl rfl rfl) rfl rfl ?_
                                  refine wL_skip (wg rfl rfl rfl rfl) rfl rfl ?_
                                  refine wL_skip (wg rfl rfl rfl rfl) rfl rfl ?_
                                  refine wL_val (v := .bool true) (wn rfl) rfl rfl (y_pick_t rfl rfl rfl) ?_
                                  refine wL_nil ?_
                                  refine wQ_sub (l' := [(1, _), (2, _), (6, _), (87, _), (88, _), (89, _), (11, _), (99, _), (100, _), (101, _), (102, _), (103, _), (104, _), (107, _), (108, _), (109, _), (110, _), (111, _), (114, _), (115, _), (116, _), (117, _), (118, _), (119, _), (120, _)]) ⟨rfl, rfl, rfl, rfl, rfl, rfl, rfl, rfl, rfl, rfl, rfl, rfl, rfl, rfl, rfl, rfl, rfl, rfl, rfl, rfl, rfl, rfl, rfl, rfl, rfl, trivial⟩ ?_
                                  refine wQ_then ?_
                                  refine wC_cond_t rfl ?_
                                  refine wC_seq ?_
                                  refine wC_region ?_
                                  refine wL_val (v := .int .i64 6) (wn rfl) rfl rfl (y_assign rfl rfl) ?_
                                  refine wL_nil ?_
                                  refine wQ_sub (l' := [(2, _)]) ⟨rfl, trivial⟩ ?_
                                  refine wQ_then ?_
                                  refine wC_ret ?_
                                  refine wQ_then_ret ?_
                                  refine wQ_blk_ret ?_
                                  refine wQ_then_ret ?_
                                  refine wQ_then_ret ?_
                                  refine wQ_blk_ret ?_
                                  refine wQ_then_ret ?_
                                  refine wQ_post (rs := [.tmp 2]) (vs := [.int .i64 6]) rfl ⟨rfl, trivial⟩ ?_
                                  exact ⟨ret_int_ (qf_bad fun h => by rw [hi59, ls_step hx64, lsOk, decide_eq_false (fun h1 => h76 (h1.2.1)), Bool.and_false] at h; exact absurd h.2.2.1 (by simp)).symm, S71.low⟩
                              · refine wL_val (v := .bool true) (wg rfl rfl rfl rfl) rfl rfl (y_binop rfl rfl rfl (r_neq_t (by omega))) ?_
                                refine wL_val (v := .bool true) (wn rfl) rfl rfl (y_pick_f rfl rfl rfl) ?_
                                refine wL_val (v := .bool true) (wn rfl) rfl rfl (y_move rfl rfl) ?_
                                refine wL_skip (wg rfl rfl rfl rfl) rfl rfl ?_
                                refine wL_skip (wg rfl rfl rfl rfl) rfl rfl ?_
                                refine wL_skip (wg rfl rfl rfl rfl) rfl rfl ?_
                                refine wL_skip (wg rfl rfl rfl rfl) rfl rfl ?_
                                refine wL_skip (wg rfl rfl rfl rfl) rfl rfl ?_
                                refine wL_val (v := .bool true) (wn rfl) rfl rfl (y_pick_t rfl rfl rfl) ?_
                                refine wL_val (v := .bool true) (wn rfl) rfl rfl (y_move rfl rfl) ?_
                                refine wL_skip (wg rfl rfl rfl rfl) rfl rfl ?_
                                refine wL_skip (wg rfl rfl rfl rfl) rfl rfl ?_
                                refine wL_skip (wg rfl rfl rfl rfl) rfl rfl ?_
                                refine wL_skip (wg rfl rfl rfl rfl) rfl rfl ?_
                                refine wL_skip (wg rfl rfl rfl rfl) rfl rfl ?_
                                refine wL_skip (wg rfl rfl rfl rfl) rfl rfl ?_
                                refine wL_val (v := .bool true) (wn rfl) rfl rfl (y_pick_t rfl rfl rfl) ?_
                                refine wL_nil ?_
                                refine wQ_sub (l' := [(1, _), (2, _), (6, _), (87, _), (88, _), (89, _), (11, _), (99, _), (100, _), (101, _), (102, _), (103, _), (104, _), (107, _), (108, _), (109, _), (110, _), (111, _), (114, _), (115, _), (116, _), (117, _), (118, _), (119, _), (120, _)]) ⟨rfl, rfl, rfl, rfl, rfl, rfl, rfl, rfl, rfl, rfl, rfl, rfl, rfl, rfl, rfl, rfl, rfl, rfl, rfl, rfl, rfl, rfl, rfl, rfl, rfl, trivial⟩ ?_
                                refine wQ_then ?_
                                refine wC_cond_t rfl ?_
                                refine wC_seq ?_
                                refine wC_region ?_
                                refine wL_val (v := .int .i64 6) (wn rfl) rfl rfl (y_assign rfl rfl) ?_
                                refine wL_nil ?_
                                refine wQ_sub (l' := [(2, _)]) ⟨rfl, trivial⟩ ?_
                                refine wQ_then ?_
                                refine wC_ret ?_
                                refine wQ_then_ret ?_
                                refine wQ_blk_ret ?_
                                refine wQ_then_ret ?_
                                refine wQ_then_ret ?_
                                refine wQ_blk_ret ?_
                                refine wQ_then_ret ?_
                                refine wQ_post (rs := [.tmp 2]) (vs := [.int .i64 6]) rfl ⟨rfl, trivial⟩ ?_
                                exact ⟨ret_int_ (qf_bad fun h => by rw [hi59, ls_step hx64, lsOk, decide_eq_false (fun h1 => h75 (h1.1)), Bool.and_false] at h; exact absurd h.2.2.1 (by simp)).symm, S71.low⟩
                          · refine wL_val (v := .bool false) (wn rfl) rfl rfl (y_binop rfl rfl rfl (r_lss_f h60)) ?_
                            refine wL_nil ?_
                            refine wQ_then ?_
                            refine wC_seq ?_
                            refine wC_cond_f rfl ?_
                            refine wC_exit ?_
                            refine wQ_then_exit ?_
                            refine wQ_then_exit ?_
                            refine wQ_blk_same ?_
                            refine wQ_then ?_
                            refine wC_seq ?_
                            refine wC_seq ?_
                            refine wC_region ?_
                            refine wL_val (v := .map (some b26)) (wn rfl) rfl rfl (y_move rfl rfl) ?_
                            have hL82 : lsFrom ep nx gv (-1) ls = true := by rw [hi59, List.drop_of_length_le (by omega)]; rfl
                            have S83 := S57
                            rw [List.take_of_length_le (show ls.length ≤ k by omega)] at S83
                            change St _ _ _ [.loc b26 (ISet Try.prog 3 (nosOf rs ls)), .blk b1 (qRow ep nx gv (.slice A1 rs.length c1) (.slice A2 ls.length c2) W) 29, .rd 2 A1 rs.length ((rs).flatMap Msg.cells), .rd 4 A2 ls.length ((ls).flatMap Ls.cells)] at S83
                            obtain ⟨m84, hm85, hm86, hm87⟩ := r_lenSet 0 S83 rfl Try.underlying135 3
                            have hnl : (nosOf rs ls).length = rs.length + ls.length := by simp [nosOf]
                            rw [hnl] at hm86 hm87
                            refine wL_val (v := .int .i64 ((m84 : Nat) : Int)) (wn rfl) rfl rfl (y_builtin (vs := [.map (some b26)]) rfl ⟨rfl, trivial⟩ hm85) ?_
                            refine wL_val (v := .pointer (some ⟨b1, 3, none⟩)) (wn rfl) rfl rfl (y_fieldAddr rfl rfl (fa29_3 _ _ _)) ?_
                            refine wL_val (v := .slice A1 rs.length c1) (wn rfl) rfl rfl (y_load rfl rfl (r_load Try.underlying22 rfl (St.cl 1 S83 rfl qRow_g3))) ?_
                            refine wL_val (v := .int .i64 ((rs.length : Nat) : Int)) (wn rfl) rfl rfl (y_builtin (vs := [.slice A1 rs.length c1]) rfl ⟨rfl, trivial⟩ fun _ => r_len rfl Try.underlying22) ?_
                            refine wL_val (v := .pointer (some ⟨b1, 4, none⟩)) (wn rfl) rfl rfl (y_fieldAddr rfl rfl (fa29_4 _ _ _)) ?_
                            refine wL_val (v := .slice A2 ls.length c2) (wn rfl) rfl rfl (y_load rfl rfl (r_load Try.underlying23 rfl (St.cl 1 S83 rfl qRow_g4))) ?_
                            refine wL_val (v := .int .i64 ((ls.length : Nat) : Int)) (wn rfl) rfl rfl (y_builtin (vs := [.slice A2 ls.length c2]) rfl ⟨rfl, trivial⟩ fun _ => r_len rfl Try.underlying23) ?_
                            refine wL_val (v := .int .i64 ((rs.length + ls.length : Nat) : Int)) (wn rfl) rfl rfl (y_binop rfl rfl rfl (r_add (by omega) (by omega))) ?_
                            by_cases h88 : ((m84 : Nat) : Int) < ((rs.length + ls.length : Nat) : Int)
                            · refine wL_val (v := .bool true) (wn rfl) rfl rfl (y_binop rfl rfl rfl (r_lss_t h88)) ?_
                              refine wL_nil ?_
                              refine wQ_sub (l' := [(2, _), (139, _)]) ⟨rfl, rfl, trivial⟩ ?_
                              refine wQ_then ?_
                              refine wC_cond_t rfl ?_
                              refine wC_seq ?_
                              refine wC_region ?_
                              refine wL_val (v := .int .i64 6) (wn rfl) rfl rfl (y_assign rfl rfl) ?_
                              refine wL_nil ?_
                              refine wQ_sub (l' := [(2, _)]) ⟨rfl, trivial⟩ ?_
                              refine wQ_then ?_
                              refine wC_ret ?_
                              refine wQ_then_ret ?_
                              refine wQ_post (rs := [.tmp 2]) (vs := [.int .i64 6]) rfl ⟨rfl, trivial⟩ ?_
                              exact ⟨ret_int_ (qf_bad fun h => hm87.1 (by omega) h.2.2.2).symm, S83.low⟩
                            · refine wL_val (v := .bool false) (wn rfl) rfl rfl (y_binop rfl rfl rfl (r_lss_f h88)) ?_
                              refine wL_nil ?_
                              refine wQ_sub (l' := [(2, _), (139, _)]) ⟨rfl, rfl, trivial⟩ ?_
                              refine wQ_then ?_
                              refine wC_cond_f rfl ?_
                              refine wC_skip ?_
                              refine wQ_then ?_
                              refine wC_seq ?_
                              refine wC_region ?_
                              refine wL_val (v := .int .i64 0) (wn rfl) rfl rfl (y_assign rfl rfl) ?_
                              refine wL_nil ?_
                              refine wQ_sub (l' := [(2, _)]) ⟨rfl, trivial⟩ ?_
                              refine wQ_then ?_
                              refine wC_ret ?_
                              refine wQ_post (rs := [.tmp 2]) (vs := [.int .i64 0]) rfl ⟨rfl, trivial⟩ ?_
                              exact ⟨ret_int_ (qf_ok (by unfold rngQ; omega) hW29 hR54 hL82 (Classical.not_not.1 fun h => h88 (by have := hm87.2 h; omega))).symm, S83.low⟩
end Go.Proofs.Ytkjlafpafmihaaa

