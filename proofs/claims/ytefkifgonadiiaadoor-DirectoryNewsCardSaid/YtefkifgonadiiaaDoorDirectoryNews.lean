/- Contracts: directory.New, ref.DirectoryNew; 'berthshiftlaw.DirectoryNews' returns true, where the package's variable is as laid. -/
import Derived.Test.YtefkifgonadiiaaDoorDir
import Derived.Test.YtefkifgonadiiaaDoorDirLaid
namespace Go.Proofs.YtefkifgonadiiaaDoor
open Go.ChangeShapes Go.WideShapes Go.RowKit

def nowDir : Dir := ⟨nowhere, nowhere, nowhere, nowhere⟩
def NewDPost (w : World) (e : Ending) (w' : World) : Prop := e = .returned (.agg #[.int .i64 (-1), .int .i64 0, .int .i64 (-1), .int .i64 0, .int .i64 (-1), .int .i64 0, .int .i64 (-1), .int .i64 0]) ∧ Below w.heap.size w w'

set_option maxRecDepth 100000 in
set_option maxHeartbeats 2000000 in
theorem DirectoryNew_calls (w : World) : Calls Tryd.prog 8 #[] w (NewDPost w) := by
  go_enter Tryd.func8, Tryd.ntmps8
  go_wp2_with fail
  refine bodyPost_ret (v := .agg #[.int .i64 (-1), .int .i64 0, .int .i64 (-1), .int .i64 0, .int .i64 (-1), .int .i64 0, .int .i64 (-1), .int .i64 0]) (by simp [results, Tryd.results8, go_sem]) rfl ?_
  exact ⟨rfl, by go_grown⟩

def nwRow : Nat → Array Value
  | 0 => #[.int .i64 0, .int .i64 0, .int .i64 0, .int .i64 0, .int .i64 0, .int .i64 0, .int .i64 0, .int .i64 0]
  | k + 1 => ((nwRow k).setIfInBounds (k * 2) (.int .i64 (-1))).setIfInBounds (k * 2 + 1) (.int .i64 0)
theorem nwRow_size (k : Nat) : (nwRow k).size = 8 := by
  induction k with
  | zero => rfl
  | succ k ih => simp [nwRow, ih]
theorem nwRow_get (k j : Nat) (hj : j < 8) : ∃ u, (nwRow k)[j]? = some u := ⟨_, Array.getElem?_eq_getElem (by rw [nwRow_size]; exact hj)⟩

set_option maxRecDepth 100000 in
set_option maxHeartbeats 2000000 in
theorem DNew_calls (w : World) (hn : Nw w) : Calls Tryd.prog 7 #[] w (NewDPost w) := by
  have HN := Lib.hid hn
  clear hn
  go_enter Tryd.func7, Tryd.ntmps7
  go_wp2_with fail
  go_loopw [3] (fun i wr => ∃ k : Nat, k ≤ 4 ∧ i = .int .i64 k ∧ Blk wr w.heap.size #[.int .i64 0, .int .i64 0, .int .i64 0, .int .i64 0, .int .i64 0, .int .i64 0, .int .i64 0, .int .i64 0] 26 ∧ Blk wr (w.heap.size + 1) (nwRow k) 26 ∧ Below w.heap.size w wr) (fun i _ => 4 - (intOf i).toNat)
  case atStart => exact ⟨0, by omega, rfl, (Blk.new _ _ _).alloc _, Blk.new1 _ _ _ _, by go_grown⟩
  case round =>
    obtain ⟨k, hk, rfl, h0, h1, hb⟩ := hrel
    have hsz : w.heap.size ≤ wr.heap.size := hb.size
    have H0 := Lib.hid h0
    have H1 := Lib.hid h1
    have HB := Lib.hid hb
    by_cases hlt : k < 4
    · obtain ⟨g0, g1, g2⟩ := HN.out.on hb
      obtain ⟨u, hu⟩ := nwRow_get k (k * 2) (by omega)
      obtain ⟨u', hu'⟩ := nwRow_get k (k * 2 + 1) (by omega)
      have c0 := h1.cell hu
      have c1 := h1.cell hu'
      have cf := h1.free
      clear h0 h1 hb hu hu'
      go_wp2_with fail
      go_roundw
      case rel =>
        have hB := HB.out
        exact ⟨k + 1, by omega, by go_num, (H0.out.other _ (by simp) _).other _ (by simp) _, (H1.out.set_ _ _).set_ _ _, by go_grown⟩
      case measure => simp [intOf]; omega
    · obtain rfl : k = 4 := by omega
      have e4 : nwRow 4 = #[.int .i64 (-1), .int .i64 0, .int .i64 (-1), .int .i64 0, .int .i64 (-1), .int .i64 0, .int .i64 (-1), .int .i64 0] := rfl
      rw [e4] at h1
      clear e4
      obtain ⟨c0, c1, c2, c3, c4, c5, c6, c7, cf⟩ := h1.cells8
      obtain ⟨r0, r1, r2, r3, r4, r5, r6, r7, rf⟩ := h0.cells8
      clear h0 h1 H1
      go_wp2_with fail
      refine bodyPost_ret (v := .agg #[.int .i64 (-1), .int .i64 0, .int .i64 (-1), .int .i64 0, .int .i64 (-1), .int .i64 0, .int .i64 (-1), .int .i64 0]) (by simp [results, Tryd.results7, go_sem, r0, r1, r2, r3, r4, r5, r6, r7]) rfl ?_
      have hB := HB.out
      exact ⟨rfl, by go_grown⟩

theorem nowDir_ok : dirFault nowDir = 0 := dirFault_ok (fun k hk => by
  have h : k = 0 ∨ k = 1 ∨ k = 2 ∨ k = 3 := by omega
  rcases h with rfl | rfl | rfl | rfl <;> exact .inl ⟨rfl, rfl⟩)

set_option maxRecDepth 100000 in
set_option maxHeartbeats 2000000 in
theorem directoryNews_calls (w : World) (hn : Nw w) : Calls Tryd.prog 4 #[] w fun e w' => e = .returned (.bool true) ∧ Below w.heap.size w w' := by
  have HN := Lib.hid hn
  clear hn
  have H3 : Hid (∀ w : World, Nw w → Calls Tryd.prog 5 #[.agg #[.int .i64 (-1), .int .i64 0, .int .i64 (-1), .int .i64 0, .int .i64 (-1), .int .i64 0, .int .i64 (-1), .int .i64 0]] w fun e w' => e = .returned (.int .i64 0) ∧ Below w.heap.size w w') := Lib.hid (fun w h => by
    have := DCheck_calls nowDir w h
    rw [nowDir_ok] at this
    exact this)
  have hq := run_eql_dir nowDir nowDir
  simp only [decide_true, Dir.val, nowDir, nowhere] at hq
  go_enter Tryd.func4, Tryd.ntmps4
  go_wp2_with fail
  refine (DNew_calls _ HN.out).mono ?_
  rintro e w1 ⟨rfl, hb1⟩
  have HB := Lib.hid hb1
  clear hb1
  go_wp2_with fail
  refine (DirectoryNew_calls _).mono ?_
  rintro e w2 ⟨rfl, hb2⟩
  have B1 := (Blk.new w1 _ _).below hb2 (by simp)
  obtain ⟨c0, c1, c2, c3, c4, c5, c6, c7, cf⟩ := B1.cells8
  have hz2 : w1.heap.size < w2.heap.size := B1.lt
  have HB2 : Hid (Below w1.heap.size w1 w2) := Lib.hid (Below.trans (by go_grown) (hb2.mono (by simp)))
  have HB3 : Hid (Below w.heap.size w w2) := Lib.hid (HB.out.trans (HB2.out.mono HB.out.size))
  clear hb2
  have hz0 : w.heap.size ≤ w2.heap.size := HB3.out.size
  go_wp2_with fail
  refine (H3.out _ (HN.out.on (by have hB := HB3.out; go_grown))).mono ?_
  rintro e w3 ⟨rfl, hb3⟩
  have HB4 : Hid (Below w.heap.size w w3) := Lib.hid (Below.trans (by have hB := HB3.out; go_grown) (hb3.mono (by simp; omega)))
  clear hb3
  go_wp2_with fail
  go_ret
  exact ⟨by simp, HB4.out⟩

set_option maxRecDepth 100000 in
theorem directoryNews_walk (W : World) (hn : Nw W) (args : Array Value) (h : All2 (ArgOk Tryd.prog W) args.toList Tryd.f4.params.toList) :
    Calls Tryd.prog 4 args W fun e W' => e = .returned (.bool true) ∧ Below W.heap.size W W' := by
  rw [Tryd.params4] at h
  have h4 := All2.nil_ h
  obtain rfl : args = #[] := by cases args; simp_all
  exact directoryNews_calls W hn
end Go.Proofs.YtefkifgonadiiaaDoor
