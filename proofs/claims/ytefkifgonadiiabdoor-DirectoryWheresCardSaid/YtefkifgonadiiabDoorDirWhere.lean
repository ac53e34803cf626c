/- Contract of directory.Where. -/
import Derived.Test.YtefkifgonadiiabDoorDirAsk
namespace Go.Proofs.YtefkifgonadiiabDoor
open Go.ChangeShapes Go.WideShapes Go.RowKit

set_option maxRecDepth 100000 in
set_option maxHeartbeats 2000000 in
theorem Where_calls (d : Dir) (q : Int) (w : World) (hn : Nw w) : Calls Tryd.prog 5 #[d.val, .int .i64 q] w (PlPost w (whereM d q)) := by
  have HN := Lib.hid hn
  have HC := Lib.hid (fun w h => ask_calls d q w h)
  have HR : Hid (whereM d q = if (askM d q).2 = 0 ∧ (askM d q).1 = nowhere then (zeroPl, 7) else askM d q) := Lib.hid rfl
  clear hn
  generalize whereM d q = r at *
  generalize askM d q = a at *
  obtain ⟨⟨pn, pe⟩, z⟩ := a
  have hq := run_eql_pl ⟨pn, pe⟩ nowhere
  unfold nowhere at hq
  simp only at hq
  obtain ⟨⟨n0, e0⟩, ⟨n1, e1⟩, ⟨n2, e2⟩, ⟨n3, e3⟩⟩ := d
  unfold Dir.val at *
  simp only at HC HR ⊢
  go_enter Tryd.func5, Tryd.ntmps5
  go_wp2_with fail
  refine (HC.out _ (HN.out.on (by go_grown))).mono ?_
  rintro e w1 ⟨rfl, hb1⟩
  have B1 := (Blk.new1 w _ _ _).below hb1 (by simp)
  obtain ⟨r0, r1, rf⟩ := B1.cells2
  have hz1 : w.heap.size + 1 < w1.heap.size := B1.lt
  have HB : Hid (Below w.heap.size w w1) := Lib.hid (Below.trans (by go_grown) (hb1.mono (by simp; omega)))
  obtain ⟨g0, g1, g2⟩ := HN.out.on HB.out
  clear hb1
  by_cases hz : z = 0
  · by_cases hp : (⟨pn, pe⟩ : Pl) = nowhere
    · have e := HR.out
      rw [if_pos ⟨hz, hp⟩] at e
      subst e
      subst hz
      have hd : decide ((⟨pn, pe⟩ : Pl) = ⟨-1, 0⟩) = true := by simpa [nowhere] using hp
      rw [hd] at hq
      clear hp hd
      go_wp2_with fail
      refine bodyPost_ret (v := .tuple #[.agg #[.int .i64 0, .int .i64 0], .int .i64 7]) (by simp [results, Tryd.results5, go_sem, World.cell?_alloc_lt, hz1, r0, r1]) rfl ?_
      have hB := HB.out
      exact ⟨rfl, by go_grown⟩
    · have e := HR.out
      rw [if_neg (fun h => hp h.2)] at e
      subst e
      subst hz
      have hd : decide ((⟨pn, pe⟩ : Pl) = ⟨-1, 0⟩) = false := by simpa [nowhere] using hp
      rw [hd] at hq
      clear hp hd
      go_wp2_with fail
      refine bodyPost_ret (v := .tuple #[.agg #[.int .i64 pn, .int .i64 pe], .int .i64 0]) (by simp [results, Tryd.results5, go_sem, World.cell?_alloc_lt, hz1, r0, r1]) rfl ?_
      have hB := HB.out
      exact ⟨rfl, by go_grown⟩
  · have e := HR.out
    rw [if_neg (fun h => hz h.1)] at e
    subst e
    have hz' : (z == 0) = false := by simpa using hz
    clear hq
    go_wp2_with fail
    refine bodyPost_ret (v := .tuple #[.agg #[.int .i64 pn, .int .i64 pe], .int .i64 z]) (by simp [results, Tryd.results5, go_sem, World.cell?_alloc_lt, hz1, r0, r1]) rfl ?_
    have hB := HB.out
    exact ⟨rfl, by go_grown⟩
end Go.Proofs.YtefkifgonadiiabDoor
