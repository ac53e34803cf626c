/- Contract of berthshift/berthshiftref.MadeAt. -/
import Derived.Test.YtefkifgonadiiabDoorDirMakeM
import Derived.Deep.DeepCutAuto
import Derived.Test.YtefkifgonadiiabDoorDirWhereRef
namespace Go.Proofs.YtefkifgonadiiabDoor
open Go.ChangeShapes Go.WideShapes Go.RowKit

set_option maxRecDepth 100000 in
set_option maxHeartbeats 4000000 in
theorem MadeAt_calls (d : Dir) (q node : Int) (w : World) : Calls Tryd.prog 8 #[d.val, .int .i64 q, .int .i64 node] w (DirPost w (makeM d q node)) := by
  have HC := Lib.hid (fun w => WhereIs_calls d q w)
  have HR := Lib.hid (makeM_ref d q node)
  have HZ := Lib.hid (whereM_seven (d := d) (q := q))
  generalize makeM d q node = r at *
  generalize whereM d q = a at *
  obtain ⟨⟨pn, pe⟩, z⟩ := a
  obtain ⟨⟨n0, e0⟩, ⟨n1, e1⟩, ⟨n2, e2⟩, ⟨n3, e3⟩⟩ := d
  unfold Dir.val at *
  try simp only at HC ⊢
  go_enter Tryd.func8, Tryd.ntmps8
  go_wp2_with fail
  refine (HC.out _).mono ?_
  rintro e w1 ⟨rfl, hb1⟩
  have B0 := ((Blk.new w _ _).alloc _).below hb1 (by simp; omega)
  have B1 := (Blk.new1 w _ _ _).below hb1 (by simp)
  have hz0 : w.heap.size < w1.heap.size := B0.lt
  have hz1 : w.heap.size + 1 < w1.heap.size := B1.lt
  have HB1 : Hid (Below w.heap.size w w1) := Lib.hid (Below.trans (by go_grown) (hb1.mono (by simp; omega)))
  go_upto_region 2 with fail
  have C0 := B0.alloc (.cells #[.int .i64 pn, .int .i64 pe] 23)
  have C1 := B1.alloc (.cells #[.int .i64 pn, .int .i64 pe] 23)
  have C2 := Blk.new w1 #[.int .i64 pn, .int .i64 pe] 23
  have HB : Hid (Below w.heap.size w (w1.alloc (.cells #[.int .i64 pn, .int .i64 pe] 23))) := Lib.hid (HB1.out.alloc (by omega) _)
  generalize hw2 : w1.alloc (.cells #[.int .i64 pn, .int .i64 pe] 23) = w2 at C0 C1 C2 HB ⊢
  clear hw2 HB1
  obtain ⟨c0, c1, c2, c3, c4, c5, c6, c7, cf⟩ := C0.cells8
  obtain ⟨r0, r1, r2, r3, r4, r5, r6, r7, rf⟩ := C1.cells8
  obtain ⟨p0, p1, pf⟩ := C2.cells2
  have hne1 : ¬ w1.heap.size = w.heap.size := by omega
  have hne2 : ¬ w1.heap.size = w.heap.size + 1 := by omega
  try simp only at HR HZ
  clear hb1
  by_cases hz : z ≠ 0 ∧ z ≠ 7
  · have e := HR.out
    rw [if_pos hz] at e
    subst e
    obtain ⟨z0, z7⟩ := hz
    have t0 : (z == 0) = false := by simpa using z0
    have t0' : (z != 0) = true := by simpa using z0
    have t7 : (z == 7) = false := by simpa using z7
    have t7' : (z != 7) = true := by simpa using z7
    clear z0 z7
    go_wp2_with (go_at_call 11; refine (In_calls _ _ _ _).mono ?_; rintro e w' ⟨rfl, rfl⟩)
    refine bodyPost_ret (v := .tuple #[.agg #[.int .i64 0, .int .i64 0, .int .i64 0, .int .i64 0, .int .i64 0, .int .i64 0, .int .i64 0, .int .i64 0], .int .i64 z]) (by simp [results, Tryd.results8, go_sem, r0, r1, r2, r3, r4, r5, r6, r7]) rfl ?_
    have hB := HB.out
    exact ⟨rfl, by go_grown⟩
  · have HR2 := Lib.hid (HR.out.trans (if_neg hz))
    clear HR
    have hz' : z = 7 ∨ z = 0 := by omega
    obtain ⟨q0, q3⟩ := HZ.out hz'
    clear hz
    cases hin : inR node 0 4
    · have := inR_false.1 hin
      have e := HR2.out
      rw [if_pos (by omega)] at e
      subst e
      rcases hz' with rfl | rfl
      · go_wp2_with (go_at_call 11; refine (In_calls _ _ _ _).mono ?_; rintro e w' ⟨rfl, rfl⟩)
        refine bodyPost_ret (v := .tuple #[.agg #[.int .i64 0, .int .i64 0, .int .i64 0, .int .i64 0, .int .i64 0, .int .i64 0, .int .i64 0, .int .i64 0], .int .i64 2]) (by simp [results, Tryd.results8, go_sem, r0, r1, r2, r3, r4, r5, r6, r7]) rfl ?_
        have hB := HB.out
        exact ⟨rfl, by go_grown⟩
      · go_wp2_with (go_at_call 11; refine (In_calls _ _ _ _).mono ?_; rintro e w' ⟨rfl, rfl⟩)
        refine bodyPost_ret (v := .tuple #[.agg #[.int .i64 0, .int .i64 0, .int .i64 0, .int .i64 0, .int .i64 0, .int .i64 0, .int .i64 0, .int .i64 0], .int .i64 2]) (by simp [results, Tryd.results8, go_sem, r0, r1, r2, r3, r4, r5, r6, r7]) rfl ?_
        have hB := HB.out
        exact ⟨rfl, by go_grown⟩
    obtain ⟨b1, b2⟩ := inR_true.1 hin
    have HR3 := Lib.hid (HR2.out.trans (if_neg (by omega)))
    clear HR2
    rcases hz' with rfl | rfl
    · have e := HR3.out
      rw [if_neg (by simp)] at e
      subst e
      clear HR3
      rcases (show q = 0 ∨ q = 1 ∨ q = 2 ∨ q = 3 by omega) with rfl | rfl | rfl | rfl
      · go_wp2_with (go_at_call 11; refine (In_calls _ _ _ _).mono ?_; rintro e w' ⟨rfl, rfl⟩)
        refine bodyPost_ret (v := .tuple #[.agg #[.int .i64 node, .int .i64 1, .int .i64 n1, .int .i64 e1, .int .i64 n2, .int .i64 e2, .int .i64 n3, .int .i64 e3], .int .i64 0]) (by simp [results, Tryd.results8, go_sem, r0, r1, r2, r3, r4, r5, r6, r7, c0, c1, c2, c3, c4, c5, c6, c7]) rfl ?_
        have hB := HB.out
        exact ⟨rfl, by go_grown⟩
      · go_wp2_with (go_at_call 11; refine (In_calls _ _ _ _).mono ?_; rintro e w' ⟨rfl, rfl⟩)
        refine bodyPost_ret (v := .tuple #[.agg #[.int .i64 n0, .int .i64 e0, .int .i64 node, .int .i64 1, .int .i64 n2, .int .i64 e2, .int .i64 n3, .int .i64 e3], .int .i64 0]) (by simp [results, Tryd.results8, go_sem, r0, r1, r2, r3, r4, r5, r6, r7, c0, c1, c2, c3, c4, c5, c6, c7]) rfl ?_
        have hB := HB.out
        exact ⟨rfl, by go_grown⟩
      · go_wp2_with (go_at_call 11; refine (In_calls _ _ _ _).mono ?_; rintro e w' ⟨rfl, rfl⟩)
        refine bodyPost_ret (v := .tuple #[.agg #[.int .i64 n0, .int .i64 e0, .int .i64 n1, .int .i64 e1, .int .i64 node, .int .i64 1, .int .i64 n3, .int .i64 e3], .int .i64 0]) (by simp [results, Tryd.results8, go_sem, r0, r1, r2, r3, r4, r5, r6, r7, c0, c1, c2, c3, c4, c5, c6, c7]) rfl ?_
        have hB := HB.out
        exact ⟨rfl, by go_grown⟩
      · go_wp2_with (go_at_call 11; refine (In_calls _ _ _ _).mono ?_; rintro e w' ⟨rfl, rfl⟩)
        refine bodyPost_ret (v := .tuple #[.agg #[.int .i64 n0, .int .i64 e0, .int .i64 n1, .int .i64 e1, .int .i64 n2, .int .i64 e2, .int .i64 node, .int .i64 1], .int .i64 0]) (by simp [results, Tryd.results8, go_sem, r0, r1, r2, r3, r4, r5, r6, r7, c0, c1, c2, c3, c4, c5, c6, c7]) rfl ?_
        have hB := HB.out
        exact ⟨rfl, by go_grown⟩
    · have e := HR3.out
      rw [if_pos rfl] at e
      subst e
      clear HR3
      go_wp2_with (go_at_call 11; refine (In_calls _ _ _ _).mono ?_; rintro e w' ⟨rfl, rfl⟩)
      refine bodyPost_ret (v := .tuple #[.agg #[.int .i64 0, .int .i64 0, .int .i64 0, .int .i64 0, .int .i64 0, .int .i64 0, .int .i64 0, .int .i64 0], .int .i64 8]) (by simp [results, Tryd.results8, go_sem, r0, r1, r2, r3, r4, r5, r6, r7]) rfl ?_
      have hB := HB.out
      exact ⟨rfl, by go_grown⟩
end Go.Proofs.YtefkifgonadiiabDoor
