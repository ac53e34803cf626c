/- Contract of ref.WhereIs. -/
import Derived.Test.YtefkifgonadiiabDoorDirAsk
namespace Go.Proofs.YtefkifgonadiiabDoor
open Go.ChangeShapes Go.WideShapes Go.RowKit

set_option maxRecDepth 100000 in
set_option maxHeartbeats 2000000 in
theorem WhereIs_calls (d : Dir) (q : Int) (w : World) : Calls Tryd.prog 6 #[d.val, .int .i64 q] w (PlPost w (whereM d q)) := by
  have HC := Lib.hid (fun w => DirectoryFault_calls d w)
  have HRF := Lib.hid (whereM_fault (d := d) (q := q))
  have HRR := Lib.hid (whereM_range (d := d) (q := q))
  have HRN0 := Lib.hid (whereM_none (d := d) (q := q))
  have HRS0 := Lib.hid (whereM_some (d := d) (q := q))
  have HZ := Lib.hid (dirFault_zero (d := d))
  generalize whereM d q = r at *
  generalize dirFault d = z at *
  obtain ⟨⟨n0, e0⟩, ⟨n1, e1⟩, ⟨n2, e2⟩, ⟨n3, e3⟩⟩ := d
  unfold Dir.val at *
  simp only at HC ⊢
  go_enter Tryd.func6, Tryd.ntmps6
  go_wp2_with fail
  refine (HC.out _).mono ?_
  rintro e w1 ⟨rfl, hb1⟩
  have B0 := ((Blk.new w _ _).alloc _).below hb1 (by simp; omega)
  have B1 := (Blk.new1 w _ _ _).below hb1 (by simp)
  obtain ⟨c0, c1, c2, c3, c4, c5, c6, c7, cf⟩ := B0.cells8
  obtain ⟨r0, r1, rf⟩ := B1.cells2
  have hz0 : w.heap.size < w1.heap.size := B0.lt
  have hz1 : w.heap.size + 1 < w1.heap.size := B1.lt
  have HB : Hid (Below w.heap.size w w1) := Lib.hid (Below.trans (by go_grown) (hb1.mono (by simp; omega)))
  clear hb1
  by_cases hz : z = 0
  · subst hz
    have HRN := Lib.hid (HRN0.out rfl)
    have HRS := Lib.hid (HRS0.out rfl)
    clear HRN0 HRS0
    cases hin : inR q 0 3
    · have e := HRR.out rfl (inR_false.1 hin)
      subst e
      go_wp2_with fail
      refine (In_calls _ _ _ _).mono ?_
      rintro e w2 ⟨rfl, rfl⟩
      rw [hin]
      go_wp2_with fail
      refine bodyPost_ret (v := .tuple #[.agg #[.int .i64 0, .int .i64 0], .int .i64 2]) (by simp [results, Tryd.results6, go_sem, r0, r1]) rfl ?_
      have hB := HB.out
      exact ⟨rfl, by go_grown⟩
    · obtain ⟨q0, q3⟩ := inR_true.1 hin
      go_wp2_with fail
      refine (In_calls _ _ _ _).mono ?_
      rintro e w2 ⟨rfl, rfl⟩
      rw [hin]
      rcases (show q = 0 ∨ q = 1 ∨ q = 2 ∨ q = 3 by omega) with rfl | rfl | rfl | rfl
      · have HO := Lib.hid (HZ.out (by trivial) 0 (by omega))
        by_cases hneg : n0 < 0
        · have hnw : (⟨n0, e0⟩ : Pl) = nowhere := by
            have := HO.out
            unfold plOk Dir.at at this
            simp only at this
            rcases this with ⟨h1, h2⟩ | h
            · rw [h1, h2]; rfl
            · omega
          have e := HRN.out (by omega) hnw
          subst e
          clear hnw
          go_wp2_with fail
          refine bodyPost_ret (v := .tuple #[.agg #[.int .i64 0, .int .i64 0], .int .i64 7]) (by simp [results, Tryd.results6, go_sem, r0, r1]) rfl ?_
          have hB := HB.out
          exact ⟨rfl, by go_grown⟩
        · have e := HRS.out (by omega) (fun h => hneg (by have h' : (⟨n0, e0⟩ : Pl) = nowhere := h; rw [(Pl.mk.injEq ..).mp h' |>.1]; decide))
          subst e
          go_wp2_with fail
          refine bodyPost_ret (v := .tuple #[.agg #[.int .i64 n0, .int .i64 e0], .int .i64 0]) (by simp [results, Tryd.results6, go_sem, r0, r1]) rfl ?_
          have hB := HB.out
          exact ⟨rfl, by go_grown⟩
      · have HO := Lib.hid (HZ.out (by trivial) 1 (by omega))
        by_cases hneg : n1 < 0
        · have hnw : (⟨n1, e1⟩ : Pl) = nowhere := by
            have := HO.out
            unfold plOk Dir.at at this
            simp only at this
            rcases this with ⟨h1, h2⟩ | h
            · rw [h1, h2]; rfl
            · omega
          have e := HRN.out (by omega) hnw
          subst e
          clear hnw
          go_wp2_with fail
          refine bodyPost_ret (v := .tuple #[.agg #[.int .i64 0, .int .i64 0], .int .i64 7]) (by simp [results, Tryd.results6, go_sem, r0, r1]) rfl ?_
          have hB := HB.out
          exact ⟨rfl, by go_grown⟩
        · have e := HRS.out (by omega) (fun h => hneg (by have h' : (⟨n1, e1⟩ : Pl) = nowhere := h; rw [(Pl.mk.injEq ..).mp h' |>.1]; decide))
          subst e
          go_wp2_with fail
          refine bodyPost_ret (v := .tuple #[.agg #[.int .i64 n1, .int .i64 e1], .int .i64 0]) (by simp [results, Tryd.results6, go_sem, r0, r1]) rfl ?_
          have hB := HB.out
          exact ⟨rfl, by go_grown⟩
      · have HO := Lib.hid (HZ.out (by trivial) 2 (by omega))
        by_cases hneg : n2 < 0
        · have hnw : (⟨n2, e2⟩ : Pl) = nowhere := by
            have := HO.out
            unfold plOk Dir.at at this
            simp only at this
            rcases this with ⟨h1, h2⟩ | h
            · rw [h1, h2]; rfl
            · omega
          have e := HRN.out (by omega) hnw
          subst e
          clear hnw
          go_wp2_with fail
          refine bodyPost_ret (v := .tuple #[.agg #[.int .i64 0, .int .i64 0], .int .i64 7]) (by simp [results, Tryd.results6, go_sem, r0, r1]) rfl ?_
          have hB := HB.out
          exact ⟨rfl, by go_grown⟩
        · have e := HRS.out (by omega) (fun h => hneg (by have h' : (⟨n2, e2⟩ : Pl) = nowhere := h; rw [(Pl.mk.injEq ..).mp h' |>.1]; decide))
          subst e
          go_wp2_with fail
          refine bodyPost_ret (v := .tuple #[.agg #[.int .i64 n2, .int .i64 e2], .int .i64 0]) (by simp [results, Tryd.results6, go_sem, r0, r1]) rfl ?_
          have hB := HB.out
          exact ⟨rfl, by go_grown⟩
      · have HO := Lib.hid (HZ.out (by trivial) 3 (by omega))
        by_cases hneg : n3 < 0
        · have hnw : (⟨n3, e3⟩ : Pl) = nowhere := by
            have := HO.out
            unfold plOk Dir.at at this
            simp only at this
            rcases this with ⟨h1, h2⟩ | h
            · rw [h1, h2]; rfl
            · omega
          have e := HRN.out (by omega) hnw
          subst e
          clear hnw
          go_wp2_with fail
          refine bodyPost_ret (v := .tuple #[.agg #[.int .i64 0, .int .i64 0], .int .i64 7]) (by simp [results, Tryd.results6, go_sem, r0, r1]) rfl ?_
          have hB := HB.out
          exact ⟨rfl, by go_grown⟩
        · have e := HRS.out (by omega) (fun h => hneg (by have h' : (⟨n3, e3⟩ : Pl) = nowhere := h; rw [(Pl.mk.injEq ..).mp h' |>.1]; decide))
          subst e
          go_wp2_with fail
          refine bodyPost_ret (v := .tuple #[.agg #[.int .i64 n3, .int .i64 e3], .int .i64 0]) (by simp [results, Tryd.results6, go_sem, r0, r1]) rfl ?_
          have hB := HB.out
          exact ⟨rfl, by go_grown⟩
  · have e := HRF.out hz
    subst e
    go_wp2_with fail
    refine bodyPost_ret (v := .tuple #[.agg #[.int .i64 0, .int .i64 0], .int .i64 z]) (by simp [results, Tryd.results6, go_sem, r0, r1]) rfl ?_
    have hB := HB.out
    exact ⟨rfl, by go_grown⟩
end Go.Proofs.YtefkifgonadiiabDoor
