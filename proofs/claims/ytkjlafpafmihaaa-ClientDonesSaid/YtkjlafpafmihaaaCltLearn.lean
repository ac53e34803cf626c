/- Contracts: client.Learn, ref.ClientLearnt. -/
import Derived.Test.YtkjlafpafmihaaaCltArg
import Derived.Test.YtkjlafpafmihaaaStore
namespace Go.Proofs.Ytkjlafpafmihaaa
open Go.ChangeShapes Go.WideShapes Go.RowKit

/-- A client as data. -/
structure CltD where
  p : Int
  nx : Int
  l : List Ev
  x : Four4
def zeroClt : CltD := ⟨0, 0, [], ⟨0, 0, 0, 0⟩⟩
def CltPost (w : World) (r : CltD × Int) (e : Ending) (w' : World) : Prop :=
  ∃ A n c, e = .returned (.tuple #[.agg #[.int .i64 r.1.p, .int .i64 r.1.nx, .slice A n c, .int .i64 r.1.x.a, .int .i64 r.1.x.b, .int .i64 r.1.x.c, .int .i64 r.1.x.d], .int .i64 r.2]) ∧ Below w.heap.size w w' ∧ Rd w' w'.heap.size 6 A n (evCells r.1.l) ∧ n ≤ maxLen
def Four4.set (x : Four4) (k : Nat) (v : Int) : Four4 :=
  match k with
  | 0 => { x with a := v }
  | 1 => { x with b := v }
  | 2 => { x with c := v }
  | _ => { x with d := v }
theorem clt_info : (Try.prog.info? 60).map (·.size) = some 7 := by kernel_rfl
/-- P10.5. -/
noncomputable def learnC (p nx : Int) (l : List Ev) (x : Four4) (q node : Int) : CltD × Int :=
  if cltFault p nx l x ≠ 0 then (zeroClt, cltFault p nx l x) else if (q < 0 ∨ 3 < q) ∨ (node < -1 ∨ 4 < node) then (zeroClt, 2) else (⟨p, nx, l, x.set q.toNat node⟩, 0)

set_option maxRecDepth 100000 in
set_option maxHeartbeats 4000000 in
theorem Learn_calls (p nx : Int) (A : Option Addr) (n c : Nat) (l : List Ev) (x : Four4) (q node : Int) (w : World) (h : Rd w w.heap.size 6 A n (evCells l)) (hm : n ≤ maxLen) (hc : n * 48 ≤ reachBytes) :
    Calls Try.prog 43 #[.agg #[.int .i64 p, .int .i64 nx, .slice A n c, .int .i64 x.a, .int .i64 x.b, .int .i64 x.c, .int .i64 x.d], .int .i64 q, .int .i64 node] w (CltPost w (learnC p nx l x q node)) := by
  have HC := Lib.hid (fun w h => CCheck_calls p nx A n c l x w h hm)
  have HO0 := Lib.hid (fun w h => own_calls p nx A n c l x w h hc)
  have H := Lib.hid h
  have hm := Lib.hid hm
  have HR : Hid (learnC p nx l x q node = if cltFault p nx l x ≠ 0 then (zeroClt, cltFault p nx l x) else if (q < 0 ∨ 3 < q) ∨ (node < -1 ∨ 4 < node) then (zeroClt, 2) else (⟨p, nx, l, x.set q.toNat node⟩, 0)) := Lib.hid rfl
  clear h hc
  generalize learnC p nx l x q node = r at HR ⊢
  generalize cltFault p nx l x = z at HC HR
  obtain ⟨xa, xb, xc, xd⟩ := x
  simp only at HC HO0 ⊢
  go_enter Try.func43, Try.ntmps43
  go_wp2_with fail
  refine (HC.out _ (by exact H.out.on (by go_grown))).mono ?_
  rintro e w1 ⟨rfl, hb1⟩
  have B0 := ((Blk.new w _ _).alloc _).below hb1 (by simp; omega)
  have B1 := (Blk.new1 w _ _ _).below hb1 (by simp)
  obtain ⟨c0, c1', c2, c3, c4, c5, c6, cf⟩ := B0.cells7
  have hz1 : w.heap.size + 1 < w1.heap.size := B1.lt
  have HB : Hid (Below w.heap.size w w1) := Lib.hid (Below.trans (by go_grown) (hb1.mono (by simp; omega)))
  have H1 := Lib.hid (H.out.on HB.out)
  clear hb1
  by_cases hz : z = 0
  · have HR2 := Lib.hid (HR.out.trans (if_neg (by simpa using hz)))
    subst hz
    clear HR
    by_cases q0 : q < 0
    · have e := HR2.out.trans (if_pos (by omega))
      subst e
      go_wp2_with (refine wpList_store_row rfl _ (.tmp 6) (.tmp 29) rfl (w.heap.size + 1) rfl _ rfl _ _ B1 clt_info rfl rfl ?_; intro w9 hB9 hU9)
      have HU : Hid (Below w.heap.size w w9) := Lib.hid (hU9.next HB.out (by omega))
      obtain ⟨r0, r1, r2, r3, r4, r5, r6, rf⟩ := hB9.cells7
      go_wp2_with fail
      refine bodyPost_ret (v := .tuple #[.agg #[.int .i64 0, .int .i64 0, .slice none 0 0, .int .i64 0, .int .i64 0, .int .i64 0, .int .i64 0], .int .i64 2]) (by simp [results, Try.results43, go_sem, r0, r1, r2, r3, r4, r5, r6]) rfl ?_
      exact ⟨none, 0, 0, rfl, HU.out, Rd.none_, by simp⟩
    by_cases q4 : 4 ≤ q
    · have e := HR2.out.trans (if_pos (by omega))
      subst e
      go_wp2_with (refine wpList_store_row rfl _ (.tmp 6) (.tmp 29) rfl (w.heap.size + 1) rfl _ rfl _ _ B1 clt_info rfl rfl ?_; intro w9 hB9 hU9)
      have HU : Hid (Below w.heap.size w w9) := Lib.hid (hU9.next HB.out (by omega))
      obtain ⟨r0, r1, r2, r3, r4, r5, r6, rf⟩ := hB9.cells7
      go_wp2_with fail
      refine bodyPost_ret (v := .tuple #[.agg #[.int .i64 0, .int .i64 0, .slice none 0 0, .int .i64 0, .int .i64 0, .int .i64 0, .int .i64 0], .int .i64 2]) (by simp [results, Try.results43, go_sem, r0, r1, r2, r3, r4, r5, r6]) rfl ?_
      exact ⟨none, 0, 0, rfl, HU.out, Rd.none_, by simp⟩
    by_cases n0 : node < -1
    · have e := HR2.out.trans (if_pos (by omega))
      subst e
      go_wp2_with (refine wpList_store_row rfl _ (.tmp 6) (.tmp 29) rfl (w.heap.size + 1) rfl _ rfl _ _ B1 clt_info rfl rfl ?_; intro w9 hB9 hU9)
      have HU : Hid (Below w.heap.size w w9) := Lib.hid (hU9.next HB.out (by omega))
      obtain ⟨r0, r1, r2, r3, r4, r5, r6, rf⟩ := hB9.cells7
      go_wp2_with fail
      refine bodyPost_ret (v := .tuple #[.agg #[.int .i64 0, .int .i64 0, .slice none 0 0, .int .i64 0, .int .i64 0, .int .i64 0, .int .i64 0], .int .i64 2]) (by simp [results, Try.results43, go_sem, r0, r1, r2, r3, r4, r5, r6]) rfl ?_
      exact ⟨none, 0, 0, rfl, HU.out, Rd.none_, by simp⟩
    by_cases n5 : 5 ≤ node
    · have e := HR2.out.trans (if_pos (by omega))
      subst e
      go_wp2_with (refine wpList_store_row rfl _ (.tmp 6) (.tmp 29) rfl (w.heap.size + 1) rfl _ rfl _ _ B1 clt_info rfl rfl ?_; intro w9 hB9 hU9)
      have HU : Hid (Below w.heap.size w w9) := Lib.hid (hU9.next HB.out (by omega))
      obtain ⟨r0, r1, r2, r3, r4, r5, r6, rf⟩ := hB9.cells7
      go_wp2_with fail
      refine bodyPost_ret (v := .tuple #[.agg #[.int .i64 0, .int .i64 0, .slice none 0 0, .int .i64 0, .int .i64 0, .int .i64 0, .int .i64 0], .int .i64 2]) (by simp [results, Try.results43, go_sem, r0, r1, r2, r3, r4, r5, r6]) rfl ?_
      exact ⟨none, 0, 0, rfl, HU.out, Rd.none_, by simp⟩
    have e := HR2.out.trans (if_neg (by omega))
    subst e
    clear HR2
    go_wp2_with fail
    refine (HO0.out _ H1.out).mono ?_
    rintro e w2 ⟨A1, c1, rfl, hb2, hown⟩
    have C0 := B0.on hb2
    have C1 := B1.on hb2
    have HB2 : Hid (Below w.heap.size w w2) := Lib.hid (HB.out.trans (hb2.mono (by omega)))
    have hz2 : w1.heap.size ≤ w2.heap.size := hb2.size
    have HO := Lib.hid hown
    clear hb2 hown c0 c1' c2 c3 c4 c5 c6 cf B0 B1
    rcases (show q = 0 ∨ q = 1 ∨ q = 2 ∨ q = 3 by omega) with rfl | rfl | rfl | rfl
    · go_wp2_with (first | (refine wpList_store_row rfl _ (.tmp 3) (.tmp 31) rfl w.heap.size rfl _ rfl _ _ C0 clt_info rfl rfl ?_; intro w8 hB8 hU8; have HO := Lib.hid (hU8.ownBelow HO.out (by omega)); have C1 := hU8.blk C1 (by omega); have HB2 := Lib.hid (hU8.next HB2.out (Nat.le_refl _)); obtain ⟨c0, c1', c2, c3, c4, c5, c6, cf⟩ := hB8.cells7) | (refine wpList_store_row rfl _ (.tmp 6) (.tmp 36) rfl (w.heap.size + 1) rfl _ rfl _ _ (C1.other _ (by simp) _) clt_info rfl rfl ?_; intro w9 hB9 hU9))
      have HU : Hid (Below w.heap.size w w9) := Lib.hid (hU9.next (by have hB := HB2.out; go_grown) (by omega))
      have HO9 := Lib.hid (hU9.ownBelow (ownsRow_setCell_below HO.out (by simp <;> omega) _) (by omega))
      obtain ⟨r0, r1, r2, r3, r4, r5, r6, rf⟩ := hB9.cells7
      go_wp2_with fail
      refine bodyPost_ret (v := .tuple #[.agg #[.int .i64 p, .int .i64 nx, .slice A1 n c1, .int .i64 node, .int .i64 xb, .int .i64 xc, .int .i64 xd], .int .i64 0]) (by simp [results, Try.results43, go_sem, r0, r1, r2, r3, r4, r5, r6]) rfl ?_
      exact ⟨A1, n, c1, rfl, HU.out, Rd.of_own (World.ownsRow.lower (base' := w.heap.size) HO9.out (by omega)), hm.out⟩
    · go_wp2_with (first | (refine wpList_store_row rfl _ (.tmp 3) (.tmp 31) rfl w.heap.size rfl _ rfl _ _ C0 clt_info rfl rfl ?_; intro w8 hB8 hU8; have HO := Lib.hid (hU8.ownBelow HO.out (by omega)); have C1 := hU8.blk C1 (by omega); have HB2 := Lib.hid (hU8.next HB2.out (Nat.le_refl _)); obtain ⟨c0, c1', c2, c3, c4, c5, c6, cf⟩ := hB8.cells7) | (refine wpList_store_row rfl _ (.tmp 6) (.tmp 36) rfl (w.heap.size + 1) rfl _ rfl _ _ (C1.other _ (by simp) _) clt_info rfl rfl ?_; intro w9 hB9 hU9))
      have HU : Hid (Below w.heap.size w w9) := Lib.hid (hU9.next (by have hB := HB2.out; go_grown) (by omega))
      have HO9 := Lib.hid (hU9.ownBelow (ownsRow_setCell_below HO.out (by simp <;> omega) _) (by omega))
      obtain ⟨r0, r1, r2, r3, r4, r5, r6, rf⟩ := hB9.cells7
      go_wp2_with fail
      refine bodyPost_ret (v := .tuple #[.agg #[.int .i64 p, .int .i64 nx, .slice A1 n c1, .int .i64 xa, .int .i64 node, .int .i64 xc, .int .i64 xd], .int .i64 0]) (by simp [results, Try.results43, go_sem, r0, r1, r2, r3, r4, r5, r6]) rfl ?_
      exact ⟨A1, n, c1, rfl, HU.out, Rd.of_own (World.ownsRow.lower (base' := w.heap.size) HO9.out (by omega)), hm.out⟩
    · go_wp2_with (first | (refine wpList_store_row rfl _ (.tmp 3) (.tmp 31) rfl w.heap.size rfl _ rfl _ _ C0 clt_info rfl rfl ?_; intro w8 hB8 hU8; have HO := Lib.hid (hU8.ownBelow HO.out (by omega)); have C1 := hU8.blk C1 (by omega); have HB2 := Lib.hid (hU8.next HB2.out (Nat.le_refl _)); obtain ⟨c0, c1', c2, c3, c4, c5, c6, cf⟩ := hB8.cells7) | (refine wpList_store_row rfl _ (.tmp 6) (.tmp 36) rfl (w.heap.size + 1) rfl _ rfl _ _ (C1.other _ (by simp) _) clt_info rfl rfl ?_; intro w9 hB9 hU9))
      have HU : Hid (Below w.heap.size w w9) := Lib.hid (hU9.next (by have hB := HB2.out; go_grown) (by omega))
      have HO9 := Lib.hid (hU9.ownBelow (ownsRow_setCell_below HO.out (by simp <;> omega) _) (by omega))
      obtain ⟨r0, r1, r2, r3, r4, r5, r6, rf⟩ := hB9.cells7
      go_wp2_with fail
      refine bodyPost_ret (v := .tuple #[.agg #[.int .i64 p, .int .i64 nx, .slice A1 n c1, .int .i64 xa, .int .i64 xb, .int .i64 node, .int .i64 xd], .int .i64 0]) (by simp [results, Try.results43, go_sem, r0, r1, r2, r3, r4, r5, r6]) rfl ?_
      exact ⟨A1, n, c1, rfl, HU.out, Rd.of_own (World.ownsRow.lower (base' := w.heap.size) HO9.out (by omega)), hm.out⟩
    · go_wp2_with (first | (refine wpList_store_row rfl _ (.tmp 3) (.tmp 31) rfl w.heap.size rfl _ rfl _ _ C0 clt_info rfl rfl ?_; intro w8 hB8 hU8; have HO := Lib.hid (hU8.ownBelow HO.out (by omega)); have C1 := hU8.blk C1 (by omega); have HB2 := Lib.hid (hU8.next HB2.out (Nat.le_refl _)); obtain ⟨c0, c1', c2, c3, c4, c5, c6, cf⟩ := hB8.cells7) | (refine wpList_store_row rfl _ (.tmp 6) (.tmp 36) rfl (w.heap.size + 1) rfl _ rfl _ _ (C1.other _ (by simp) _) clt_info rfl rfl ?_; intro w9 hB9 hU9))
      have HU : Hid (Below w.heap.size w w9) := Lib.hid (hU9.next (by have hB := HB2.out; go_grown) (by omega))
      have HO9 := Lib.hid (hU9.ownBelow (ownsRow_setCell_below HO.out (by simp <;> omega) _) (by omega))
      obtain ⟨r0, r1, r2, r3, r4, r5, r6, rf⟩ := hB9.cells7
      go_wp2_with fail
      refine bodyPost_ret (v := .tuple #[.agg #[.int .i64 p, .int .i64 nx, .slice A1 n c1, .int .i64 xa, .int .i64 xb, .int .i64 xc, .int .i64 node], .int .i64 0]) (by simp [results, Try.results43, go_sem, r0, r1, r2, r3, r4, r5, r6]) rfl ?_
      exact ⟨A1, n, c1, rfl, HU.out, Rd.of_own (World.ownsRow.lower (base' := w.heap.size) HO9.out (by omega)), hm.out⟩
  · have e := HR.out.trans (if_pos hz)
    subst e
    have t0 : (z == 0) = false := by simpa using hz
    have t0' : (z != 0) = true := by simpa using hz
    clear hz
    go_wp2_with (refine wpList_store_row rfl _ (.tmp 6) (.tmp 13) rfl (w.heap.size + 1) rfl _ rfl _ _ B1 clt_info rfl rfl ?_; intro w9 hB9 hU9)
    have HU : Hid (Below w.heap.size w w9) := Lib.hid (hU9.next HB.out (by omega))
    obtain ⟨r0, r1, r2, r3, r4, r5, r6, rf⟩ := hB9.cells7
    go_wp2_with fail
    refine bodyPost_ret (v := .tuple #[.agg #[.int .i64 0, .int .i64 0, .slice none 0 0, .int .i64 0, .int .i64 0, .int .i64 0, .int .i64 0], .int .i64 z]) (by simp [results, Try.results43, go_sem, r0, r1, r2, r3, r4, r5, r6]) rfl ?_
    exact ⟨none, 0, 0, rfl, HU.out, Rd.none_, by simp⟩

set_option maxRecDepth 100000 in
set_option maxHeartbeats 4000000 in
theorem ClientLearnt_calls (p nx : Int) (A : Option Addr) (n c : Nat) (l : List Ev) (x : Four4) (q node : Int) (w : World) (h : Rd w w.heap.size 6 A n (evCells l)) (hm : n ≤ maxLen) (hc : n * 48 ≤ reachBytes) :
    Calls Try.prog 45 #[.agg #[.int .i64 p, .int .i64 nx, .slice A n c, .int .i64 x.a, .int .i64 x.b, .int .i64 x.c, .int .i64 x.d], .int .i64 q, .int .i64 node] w (CltPost w (learnC p nx l x q node)) := by
  have HC := Lib.hid (fun w h => ClientFault_calls p nx A n c l x w h hm)
  have HO0 := Lib.hid (fun w h => ClientCopy_calls p nx A n c l x w h hc)
  have H := Lib.hid h
  have hm := Lib.hid hm
  have HR : Hid (learnC p nx l x q node = if cltFault p nx l x ≠ 0 then (zeroClt, cltFault p nx l x) else if (q < 0 ∨ 3 < q) ∨ (node < -1 ∨ 4 < node) then (zeroClt, 2) else (⟨p, nx, l, x.set q.toNat node⟩, 0)) := Lib.hid rfl
  clear h hc
  generalize learnC p nx l x q node = r at HR ⊢
  generalize cltFault p nx l x = z at HC HR
  obtain ⟨xa, xb, xc, xd⟩ := x
  simp only at HC HO0 ⊢
  go_enter Try.func45, Try.ntmps45
  go_wp2_with fail
  refine (HC.out _ (by exact H.out.on (by go_grown))).mono ?_
  rintro e w1 ⟨rfl, hb1⟩
  have B0 := ((Blk.new w _ _).alloc _).below hb1 (by simp; omega)
  have B1 := (Blk.new1 w _ _ _).below hb1 (by simp)
  obtain ⟨c0, c1', c2, c3, c4, c5, c6, cf⟩ := B0.cells7
  have hz1 : w.heap.size + 1 < w1.heap.size := B1.lt
  have HB : Hid (Below w.heap.size w w1) := Lib.hid (Below.trans (by go_grown) (hb1.mono (by simp; omega)))
  have H1 := Lib.hid (H.out.on HB.out)
  clear hb1
  by_cases hz : z = 0
  · have HR2 := Lib.hid (HR.out.trans (if_neg (by simpa using hz)))
    subst hz
    clear HR
    cases i1 : inR q 0 3
    · have := inR_false.1 i1
      have e := HR2.out.trans (if_pos (by omega))
      subst e
      go_wp2_with (first | (go_at_call 107; refine (In_calls _ _ _ _).mono ?_; rintro e w' ⟨rfl, rfl⟩) | (refine wpList_store_row rfl _ (.tmp 6) (.tmp 24) rfl (w.heap.size + 1) rfl _ rfl _ _ B1 clt_info rfl rfl ?_; intro w9 hB9 hU9))
      have HU : Hid (Below w.heap.size w w9) := Lib.hid (hU9.next HB.out (by omega))
      obtain ⟨r0, r1, r2, r3, r4, r5, r6, rf⟩ := hB9.cells7
      go_wp2_with fail
      refine bodyPost_ret (v := .tuple #[.agg #[.int .i64 0, .int .i64 0, .slice none 0 0, .int .i64 0, .int .i64 0, .int .i64 0, .int .i64 0], .int .i64 2]) (by simp [results, Try.results45, go_sem, r0, r1, r2, r3, r4, r5, r6]) rfl ?_
      exact ⟨none, 0, 0, rfl, HU.out, Rd.none_, by simp⟩
    have j1 := inR_true.1 i1
    cases i2 : inR node (-1) 4
    · have := inR_false.1 i2
      have e := HR2.out.trans (if_pos (by omega))
      subst e
      go_wp2_with (first | (go_at_call 107; refine (In_calls _ _ _ _).mono ?_; rintro e w' ⟨rfl, rfl⟩) | (refine wpList_store_row rfl _ (.tmp 6) (.tmp 24) rfl (w.heap.size + 1) rfl _ rfl _ _ B1 clt_info rfl rfl ?_; intro w9 hB9 hU9))
      have HU : Hid (Below w.heap.size w w9) := Lib.hid (hU9.next HB.out (by omega))
      obtain ⟨r0, r1, r2, r3, r4, r5, r6, rf⟩ := hB9.cells7
      go_wp2_with fail
      refine bodyPost_ret (v := .tuple #[.agg #[.int .i64 0, .int .i64 0, .slice none 0 0, .int .i64 0, .int .i64 0, .int .i64 0, .int .i64 0], .int .i64 2]) (by simp [results, Try.results45, go_sem, r0, r1, r2, r3, r4, r5, r6]) rfl ?_
      exact ⟨none, 0, 0, rfl, HU.out, Rd.none_, by simp⟩
    have j2 := inR_true.1 i2
    have e := HR2.out.trans (if_neg (by omega))
    subst e
    clear HR2
    go_wp2_with (go_at_call 107; refine (In_calls _ _ _ _).mono ?_; rintro e w' ⟨rfl, rfl⟩)
    refine (HO0.out _ H1.out).mono ?_
    rintro e w2 ⟨A1, c1, rfl, hb2, hown⟩
    have C0 := B0.on hb2
    have C1 := B1.on hb2
    have HB2 : Hid (Below w.heap.size w w2) := Lib.hid (HB.out.trans (hb2.mono (by omega)))
    have hz2 : w1.heap.size ≤ w2.heap.size := hb2.size
    have HO := Lib.hid hown
    clear hb2 hown c0 c1' c2 c3 c4 c5 c6 cf B0 B1
    rcases (show q = 0 ∨ q = 1 ∨ q = 2 ∨ q = 3 by omega) with rfl | rfl | rfl | rfl
    · go_wp2_with (refine wpList_store_row rfl _ (.tmp 6) (.tmp 31) rfl (w.heap.size + 1) rfl _ rfl _ _ (C1.alloc _) clt_info rfl rfl ?_; intro w9 hB9 hU9)
      have HU : Hid (Below w.heap.size w w9) := Lib.hid (hU9.next (by have hB := HB2.out; go_grown) (by omega))
      have HO9 := Lib.hid (hU9.ownBelow (HO.out.alloc _) (by omega))
      obtain ⟨r0, r1, r2, r3, r4, r5, r6, rf⟩ := hB9.cells7
      go_wp2_with fail
      refine bodyPost_ret (v := .tuple #[.agg #[.int .i64 p, .int .i64 nx, .slice A1 n c1, .int .i64 node, .int .i64 xb, .int .i64 xc, .int .i64 xd], .int .i64 0]) (by simp [results, Try.results45, go_sem, r0, r1, r2, r3, r4, r5, r6]) rfl ?_
      exact ⟨A1, n, c1, rfl, HU.out, Rd.of_own (World.ownsRow.lower (base' := w.heap.size) HO9.out (by omega)), hm.out⟩
    · go_wp2_with (refine wpList_store_row rfl _ (.tmp 6) (.tmp 31) rfl (w.heap.size + 1) rfl _ rfl _ _ (C1.alloc _) clt_info rfl rfl ?_; intro w9 hB9 hU9)
      have HU : Hid (Below w.heap.size w w9) := Lib.hid (hU9.next (by have hB := HB2.out; go_grown) (by omega))
      have HO9 := Lib.hid (hU9.ownBelow (HO.out.alloc _) (by omega))
      obtain ⟨r0, r1, r2, r3, r4, r5, r6, rf⟩ := hB9.cells7
      go_wp2_with fail
      refine bodyPost_ret (v := .tuple #[.agg #[.int .i64 p, .int .i64 nx, .slice A1 n c1, .int .i64 xa, .int .i64 node, .int .i64 xc, .int .i64 xd], .int .i64 0]) (by simp [results, Try.results45, go_sem, r0, r1, r2, r3, r4, r5, r6]) rfl ?_
      exact ⟨A1, n, c1, rfl, HU.out, Rd.of_own (World.ownsRow.lower (base' := w.heap.size) HO9.out (by omega)), hm.out⟩
    · go_wp2_with (refine wpList_store_row rfl _ (.tmp 6) (.tmp 31) rfl (w.heap.size + 1) rfl _ rfl _ _ (C1.alloc _) clt_info rfl rfl ?_; intro w9 hB9 hU9)
      have HU : Hid (Below w.heap.size w w9) := Lib.hid (hU9.next (by have hB := HB2.out; go_grown) (by omega))
      have HO9 := Lib.hid (hU9.ownBelow (HO.out.alloc _) (by omega))
      obtain ⟨r0, r1, r2, r3, r4, r5, r6, rf⟩ := hB9.cells7
      go_wp2_with fail
      refine bodyPost_ret (v := .tuple #[.agg #[.int .i64 p, .int .i64 nx, .slice A1 n c1, .int .i64 xa, .int .i64 xb, .int .i64 node, .int .i64 xd], .int .i64 0]) (by simp [results, Try.results45, go_sem, r0, r1, r2, r3, r4, r5, r6]) rfl ?_
      exact ⟨A1, n, c1, rfl, HU.out, Rd.of_own (World.ownsRow.lower (base' := w.heap.size) HO9.out (by omega)), hm.out⟩
    · go_wp2_with (refine wpList_store_row rfl _ (.tmp 6) (.tmp 31) rfl (w.heap.size + 1) rfl _ rfl _ _ (C1.alloc _) clt_info rfl rfl ?_; intro w9 hB9 hU9)
      have HU : Hid (Below w.heap.size w w9) := Lib.hid (hU9.next (by have hB := HB2.out; go_grown) (by omega))
      have HO9 := Lib.hid (hU9.ownBelow (HO.out.alloc _) (by omega))
      obtain ⟨r0, r1, r2, r3, r4, r5, r6, rf⟩ := hB9.cells7
      go_wp2_with fail
      refine bodyPost_ret (v := .tuple #[.agg #[.int .i64 p, .int .i64 nx, .slice A1 n c1, .int .i64 xa, .int .i64 xb, .int .i64 xc, .int .i64 node], .int .i64 0]) (by simp [results, Try.results45, go_sem, r0, r1, r2, r3, r4, r5, r6]) rfl ?_
      exact ⟨A1, n, c1, rfl, HU.out, Rd.of_own (World.ownsRow.lower (base' := w.heap.size) HO9.out (by omega)), hm.out⟩
  · have e := HR.out.trans (if_pos hz)
    subst e
    have t0 : (z == 0) = false := by simpa using hz
    have t0' : (z != 0) = true := by simpa using hz
    clear hz
    go_wp2_with (first | (go_at_call 107; refine (In_calls _ _ _ _).mono ?_; rintro e w' ⟨rfl, rfl⟩) | (refine wpList_store_row rfl _ (.tmp 6) (.tmp 14) rfl (w.heap.size + 1) rfl _ rfl _ _ B1 clt_info rfl rfl ?_; intro w9 hB9 hU9))
    have HU : Hid (Below w.heap.size w w9) := Lib.hid (hU9.next HB.out (by omega))
    obtain ⟨r0, r1, r2, r3, r4, r5, r6, rf⟩ := hB9.cells7
    go_wp2_with fail
    refine bodyPost_ret (v := .tuple #[.agg #[.int .i64 0, .int .i64 0, .slice none 0 0, .int .i64 0, .int .i64 0, .int .i64 0, .int .i64 0], .int .i64 z]) (by simp [results, Try.results45, go_sem, r0, r1, r2, r3, r4, r5, r6]) rfl ?_
    exact ⟨none, 0, 0, rfl, HU.out, Rd.none_, by simp⟩

end Go.Proofs.Ytkjlafpafmihaaa
