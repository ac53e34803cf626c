/- Contract of directory.ask. -/
import Derived.Test.YtefkifgonadiiabDoorDir
namespace Go.Proofs.YtefkifgonadiiabDoor
open Go.ChangeShapes Go.WideShapes Go.RowKit

noncomputable def askM (d : Dir) (q : Int) : Pl × Int := if dirFault d ≠ 0 then (zeroPl, dirFault d) else if q < 0 ∨ 3 < q then (zeroPl, 2) else (d.at q.toNat, 0)
/-- P6.3. -/
noncomputable def whereM (d : Dir) (q : Int) : Pl × Int := if (askM d q).2 = 0 ∧ (askM d q).1 = nowhere then (zeroPl, 7) else askM d q
theorem askM_fault {d : Dir} {q : Int} (h : dirFault d ≠ 0) : askM d q = (zeroPl, dirFault d) := if_pos h
theorem askM_range {d : Dir} {q : Int} (h : dirFault d = 0) (hq : q < 0 ∨ 3 < q) : askM d q = (zeroPl, 2) := by
  unfold askM
  rw [if_neg (by omega), if_pos hq]
theorem askM_in {d : Dir} {q : Int} (h : dirFault d = 0) (hq : ¬ (q < 0 ∨ 3 < q)) : askM d q = (d.at q.toNat, 0) := by
  unfold askM
  rw [if_neg (by omega), if_neg hq]
theorem whereM_fault {d : Dir} {q : Int} (h : dirFault d ≠ 0) : whereM d q = (zeroPl, dirFault d) := by
  unfold whereM
  rw [askM_fault h, if_neg (fun hh => h hh.1)]
theorem whereM_range {d : Dir} {q : Int} (h : dirFault d = 0) (hq : q < 0 ∨ 3 < q) : whereM d q = (zeroPl, 2) := by
  unfold whereM
  rw [askM_range h hq, if_neg (fun hh => by cases hh.1)]
theorem whereM_none {d : Dir} {q : Int} (h : dirFault d = 0) (hq : ¬ (q < 0 ∨ 3 < q)) (hn : d.at q.toNat = nowhere) : whereM d q = (zeroPl, 7) := by
  unfold whereM
  rw [askM_in h hq, if_pos ⟨rfl, hn⟩]
theorem whereM_some {d : Dir} {q : Int} (h : dirFault d = 0) (hq : ¬ (q < 0 ∨ 3 < q)) (hn : d.at q.toNat ≠ nowhere) : whereM d q = (d.at q.toNat, 0) := by
  unfold whereM
  rw [askM_in h hq, if_neg (fun hh => hn hh.2)]

set_option maxRecDepth 100000 in
set_option maxHeartbeats 2000000 in
theorem ask_calls (d : Dir) (q : Int) (w : World) (hn : Nw w) : Calls Tryd.prog 9 #[d.val, .int .i64 q] w (PlPost w (askM d q)) := by
  have HN := Lib.hid hn
  have HC := Lib.hid (fun w h => DCheck_calls d w h)
  have HR0 : Hid (∀ r, r = askM d q → r = if dirFault d ≠ 0 then (zeroPl, dirFault d) else if q < 0 ∨ 3 < q then (zeroPl, 2) else (d.at q.toNat, 0)) := Lib.hid (fun r h => h)
  generalize hr : askM d q = r
  have HR := Lib.hid (HR0.out r hr.symm)
  clear hn hr HR0
  generalize dirFault d = z at HC HR
  obtain ⟨⟨n0, e0⟩, ⟨n1, e1⟩, ⟨n2, e2⟩, ⟨n3, e3⟩⟩ := d
  unfold Dir.val at *
  simp only at HC ⊢
  go_enter Tryd.func9, Tryd.ntmps9
  go_wp2_with fail
  refine (HC.out _ (HN.out.on (by go_grown))).mono ?_
  rintro e w1 ⟨rfl, hb1⟩
  have B0 := ((Blk.new w _ _).alloc _).below hb1 (by simp; omega)
  have B1 := (Blk.new1 w _ _ _).below hb1 (by simp)
  obtain ⟨c0, c1, c2, c3, c4, c5, c6, c7, cf⟩ := B0.cells8
  obtain ⟨r0, r1, rf⟩ := B1.cells2
  have hz0 : w.heap.size < w1.heap.size := B0.lt
  have hz1 : w.heap.size + 1 < w1.heap.size := B1.lt
  have HB : Hid (Below w.heap.size w w1) := Lib.hid (Below.trans (by go_grown) (hb1.mono (by simp; omega)))
  clear hb1
  by_cases hz : z = 0
  · subst hz
    by_cases q0 : q < 0
    · have e := HR.out
      rw [if_neg (by omega), if_pos (by omega)] at e
      subst e
      go_wp2_with fail
      refine bodyPost_ret (v := .tuple #[.agg #[.int .i64 0, .int .i64 0], .int .i64 2]) (by simp [results, Tryd.results9, go_sem, r0, r1]) rfl ?_
      have hB := HB.out
      exact ⟨rfl, by go_grown⟩
    by_cases q4 : 4 ≤ q
    · have e := HR.out
      rw [if_neg (by omega), if_pos (by omega)] at e
      subst e
      go_wp2_with fail
      refine bodyPost_ret (v := .tuple #[.agg #[.int .i64 0, .int .i64 0], .int .i64 2]) (by simp [results, Tryd.results9, go_sem, r0, r1]) rfl ?_
      have hB := HB.out
      exact ⟨rfl, by go_grown⟩
    rcases (show q = 0 ∨ q = 1 ∨ q = 2 ∨ q = 3 by omega) with rfl | rfl | rfl | rfl
    · have e := HR.out
      rw [if_neg (by omega), if_neg (by omega)] at e
      subst e
      go_wp2_with fail
      refine bodyPost_ret (v := .tuple #[.agg #[.int .i64 n0, .int .i64 e0], .int .i64 0]) (by simp [results, Tryd.results9, go_sem, r0, r1]) rfl ?_
      have hB := HB.out
      exact ⟨rfl, by go_grown⟩
    · have e := HR.out
      rw [if_neg (by omega), if_neg (by omega)] at e
      subst e
      go_wp2_with fail
      refine bodyPost_ret (v := .tuple #[.agg #[.int .i64 n1, .int .i64 e1], .int .i64 0]) (by simp [results, Tryd.results9, go_sem, r0, r1]) rfl ?_
      have hB := HB.out
      exact ⟨rfl, by go_grown⟩
    · have e := HR.out
      rw [if_neg (by omega), if_neg (by omega)] at e
      subst e
      go_wp2_with fail
      refine bodyPost_ret (v := .tuple #[.agg #[.int .i64 n2, .int .i64 e2], .int .i64 0]) (by simp [results, Tryd.results9, go_sem, r0, r1]) rfl ?_
      have hB := HB.out
      exact ⟨rfl, by go_grown⟩
    · have e := HR.out
      rw [if_neg (by omega), if_neg (by omega)] at e
      subst e
      go_wp2_with fail
      refine bodyPost_ret (v := .tuple #[.agg #[.int .i64 n3, .int .i64 e3], .int .i64 0]) (by simp [results, Tryd.results9, go_sem, r0, r1]) rfl ?_
      have hB := HB.out
      exact ⟨rfl, by go_grown⟩
  · have e := HR.out
    rw [if_pos hz] at e
    subst e
    go_wp2_with fail
    refine bodyPost_ret (v := .tuple #[.agg #[.int .i64 0, .int .i64 0], .int .i64 z]) (by simp [results, Tryd.results9, go_sem, r0, r1]) rfl ?_
    have hB := HB.out
    exact ⟨rfl, by go_grown⟩
end Go.Proofs.YtefkifgonadiiabDoor
