/- Contracts: slices.Clone at events, client.own, ref.ClientCopy, berthshiftlaw.clients. -/
import Derived.Test.YtkjlafpafmihaaaCltRef
import Derived.Test.YtkjlafpafmihaaaEvCopy
import Derived.Test.YtkjlafpafmihaaaTape
namespace Go.Proofs.Ytkjlafpafmihaaa
open Go.ChangeShapes Go.WideShapes Go.RowKit

set_option maxHeartbeats 400000 in
theorem CloneE_calls (A : Option Addr) (n c : Nat) (l : List Ev) (w : World) (h : Rd w w.heap.size 6 A n (evCells l)) (hc : n * 48 ≤ reachBytes) :
    Calls Try.prog 157 #[.slice A n c] w (OwnPost w 37 6 n (evCells l)) := by
  have hc' : n * 48 ≤ 140737488351232 := hc
  obtain ⟨i0, hi0, hz0, hz1, hz2⟩ := info_parts ev_info
  cases A with
  | none =>
    have hn : n = 0 := by
      rcases Nat.eq_zero_or_pos n with h0 | h0
      · exact h0
      · obtain ⟨b, off, e, _⟩ := h.2 h0
        cases e
    subst hn
    have hl : evCells l = [] := List.eq_nil_of_length_eq_zero (by have := h.1; omega)
    rw [hl]
    clear hl h
    go_enter Try.func157, Try.ntmps157
    have he := @Lib.run_eql_slice_nil Try.prog
    go_wp2
    go_ret
    exact OwnPost.of (Below.refl _ _) (ownsRow_nil_ _ _ _ _)
  | some a =>
    go_enter Try.func157, Try.ntmps157
    have he := @Lib.run_eql_slice_nil Try.prog
    go_wp2_with (at_builtin; refine wpList_append_any _ rfl (.tmp 5) (.tmp 6) _ rfl w.heap.size 37 i0 _ 6 48 Try.underlying57 hi0 hz0 hz1 hz2 rfl (by omega) (.slice (some ⟨w.heap.size, 0, none⟩) 0 0) 0 [] rfl (ownsRow_empty_new w 37 6) w.heap.size (some a) n c (evCells l) rfl (h.alloc (Nat.le_refl _) _) (evCells_one l) (by simp only [maxLen]; omega) (by omega) (by simp) ?_; intro v1 w1 hown1 hg1 hat1)
    go_ret
    simp only [Nat.zero_add, List.nil_append] at hown1
    exact OwnPost.of (((Below.refl _ w).alloc (Nat.le_refl _) _).grown hg1 (by simp) (by simp [Value.ownBlock])) hown1

/-- A client, its events in memory of the call's own. -/
def CltOwn (w : World) (p nx : Int) (n : Nat) (l : List Ev) (x : Four4) (e : Ending) (w' : World) : Prop :=
  ∃ A c, e = .returned (.agg #[.int .i64 p, .int .i64 nx, .slice A n c, .int .i64 x.a, .int .i64 x.b, .int .i64 x.c, .int .i64 x.d]) ∧ Below w.heap.size w w' ∧ w'.ownsRow w.heap.size 37 6 (.slice A n c) n (evCells l)

set_option maxRecDepth 100000 in
set_option maxHeartbeats 1000000 in
theorem own_calls (p nx : Int) (A : Option Addr) (n c : Nat) (l : List Ev) (x : Four4) (w : World) (h : Rd w w.heap.size 6 A n (evCells l)) (hc : n * 48 ≤ reachBytes) :
    Calls Try.prog 126 #[.agg #[.int .i64 p, .int .i64 nx, .slice A n c, .int .i64 x.a, .int .i64 x.b, .int .i64 x.c, .int .i64 x.d]] w (CltOwn w p nx n l x) := by
  have hq : ∀ w, Rd w w.heap.size 6 A n (evCells l) → Calls Try.prog _ #[.slice A n c] w (OwnPost w 37 6 n (evCells l)) := fun w h => CloneE_calls A n c l w h hc
  have HC := Lib.hid hq
  have H := Lib.hid h
  clear h hq hc
  obtain ⟨xa, xb, xc, xd⟩ := x
  go_enter Try.func126, Try.ntmps126
  go_wp2_with fail
  refine (HC.out _ (by exact H.out.on (by go_grown))).mono ?_
  rintro e w1 ⟨A1, c1, rfl, hb1, hown⟩
  have B0 := ((Blk.new w _ _).alloc _).below hb1 (by simp; omega)
  have B1 := (Blk.new1 w _ _ _).below hb1 (by simp)
  obtain ⟨c0, c1', c2, c3, c4, c5, c6, cf⟩ := B0.cells7
  obtain ⟨r0, r1, r2, r3, r4, r5, r6, rf⟩ := B1.cells7
  have HB : Hid (Below w.heap.size w w1) := Lib.hid (Below.trans (by go_grown) (hb1.mono (by simp; omega)))
  have HO : Hid (w1.ownsRow (w.heap.size + 1 + 1) 37 6 (.slice A1 n c1) n (evCells l)) := Lib.hid (by simpa using hown)
  clear hb1 hown
  go_wp2_with fail
  refine bodyPost_ret (v := .agg #[.int .i64 p, .int .i64 nx, .slice A1 n c1, .int .i64 xa, .int .i64 xb, .int .i64 xc, .int .i64 xd]) (by simp [results, Try.results126, go_sem, r0, r1, r2, r3, r4, r5, r6]) rfl ?_
  have hB := HB.out
  exact ⟨A1, c1, rfl, by go_grown, World.ownsRow.lower (base := w.heap.size + 1 + 1) (by repeat (first | refine ownsRow_setCell_below ?_ (by simp <;> omega) _ | exact HO.out)) (by omega)⟩
set_option maxRecDepth 100000 in
set_option maxHeartbeats 1000000 in
theorem ClientCopy_calls (p nx : Int) (A : Option Addr) (n c : Nat) (l : List Ev) (x : Four4) (w : World) (h : Rd w w.heap.size 6 A n (evCells l)) (hc : n * 48 ≤ reachBytes) :
    Calls Try.prog 127 #[.agg #[.int .i64 p, .int .i64 nx, .slice A n c, .int .i64 x.a, .int .i64 x.b, .int .i64 x.c, .int .i64 x.d]] w (CltOwn w p nx n l x) := by
  have hq : ∀ w, Rd w w.heap.size 6 A n (evCells l) → Calls Try.prog _ #[.slice A n c] w (OwnPost w 37 6 n (evCells l)) := fun w h => EventsCopy_calls A n c l w h hc
  have HC := Lib.hid hq
  have H := Lib.hid h
  clear h hq hc
  obtain ⟨xa, xb, xc, xd⟩ := x
  go_enter Try.func127, Try.ntmps127
  go_wp2_with fail
  refine (HC.out _ (by exact H.out.on (by go_grown))).mono ?_
  rintro e w1 ⟨A1, c1, rfl, hb1, hown⟩
  have B0 := ((Blk.new w _ _).alloc _).below hb1 (by simp; omega)
  have B1 := (Blk.new1 w _ _ _).below hb1 (by simp)
  obtain ⟨c0, c1', c2, c3, c4, c5, c6, cf⟩ := B0.cells7
  obtain ⟨r0, r1, r2, r3, r4, r5, r6, rf⟩ := B1.cells7
  have HB : Hid (Below w.heap.size w w1) := Lib.hid (Below.trans (by go_grown) (hb1.mono (by simp; omega)))
  have HO : Hid (w1.ownsRow (w.heap.size + 1 + 1) 37 6 (.slice A1 n c1) n (evCells l)) := Lib.hid (by simpa using hown)
  clear hb1 hown
  go_wp2_with fail
  refine bodyPost_ret (v := .agg #[.int .i64 p, .int .i64 nx, .slice A1 n c1, .int .i64 xa, .int .i64 xb, .int .i64 xc, .int .i64 xd]) (by simp [results, Try.results127, go_sem, r0, r1, r2, r3, r4, r5, r6]) rfl ?_
  have hB := HB.out
  exact ⟨A1, c1, rfl, by go_grown, World.ownsRow.lower (base := w.heap.size + 1 + 1) (by repeat (first | refine ownsRow_setCell_below ?_ (by simp <;> omega) _ | exact HO.out)) (by omega)⟩
set_option maxRecDepth 100000 in
set_option maxHeartbeats 1000000 in
theorem clients_calls (p nx : Int) (A : Option Addr) (n c : Nat) (l : List Ev) (x : Four4) (w : World) (h : Rd w w.heap.size 6 A n (evCells l)) (hc : n * 48 ≤ reachBytes) :
    Calls Try.prog 44 #[.agg #[.int .i64 p, .int .i64 nx, .slice A n c, .int .i64 x.a, .int .i64 x.b, .int .i64 x.c, .int .i64 x.d]] w (CltOwn w p nx n l x) := by
  have HC := Lib.hid (fun w h => ClientCopy_calls p nx A n c l x w h hc)
  have H := Lib.hid h
  clear h hc
  obtain ⟨xa, xb, xc, xd⟩ := x
  simp only at HC ⊢
  go_enter Try.func44, Try.ntmps44
  go_wp2_with fail
  refine (HC.out _ (by exact H.out.on (by go_grown))).mono ?_
  rintro e w1 ⟨A1, c1, rfl, hb1, hown⟩
  have B1 := (Blk.new1 w _ _ _).below hb1 (by simp)
  obtain ⟨r0, r1, r2, r3, r4, r5, r6, rf⟩ := B1.cells7
  have HB : Hid (Below w.heap.size w w1) := Lib.hid (Below.trans (by go_grown) (hb1.mono (by simp; omega)))
  have HO : Hid (w1.ownsRow (w.heap.size + 1 + 1) 37 6 (.slice A1 n c1) n (evCells l)) := Lib.hid (by simpa using hown)
  clear hb1 hown
  go_wp2_with fail
  refine bodyPost_ret (v := .agg #[.int .i64 p, .int .i64 nx, .slice A1 n c1, .int .i64 xa, .int .i64 xb, .int .i64 xc, .int .i64 xd]) (by simp [results, Try.results44, go_sem, r0, r1, r2, r3, r4, r5, r6]) rfl ?_
  have hB := HB.out
  exact ⟨A1, c1, rfl, by go_grown, World.ownsRow.lower (base := w.heap.size + 1 + 1) (by repeat (first | refine ownsRow_setCell_below ?_ (by simp <;> omega) _ | exact HO.out)) (by omega)⟩
end Go.Proofs.Ytkjlafpafmihaaa
