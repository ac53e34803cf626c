/- Contract: client.Done. -/
import Derived.Test.YtkjlafpafmihaaaIdxEv
import Derived.Test.YtkjlafpafmihaaaDel
namespace Go.Proofs.Ytkjlafpafmihaaa
open Go.ChangeShapes Go.WideShapes Go.RowKit

open Classical in
/-- P10.4. -/
noncomputable def doneC (p nx : Int) (l : List Ev) (x : Four4) (id : Int) : CltD × Int :=
  if cltFault p nx l x ≠ 0 then (zeroClt, cltFault p nx l x) else if ∃ (k : Nat) (e : Ev), l[k]? = some e ∧ e.id = id then (⟨p, nx, l.filter (fun e => decide (e.id ≠ id)), x⟩, 0) else (zeroClt, 7)

theorem idxId_or (id : Int) (l : List Ev) : (idxId id l 0 = -1 ∧ ¬ ∃ (k : Nat) (e : Ev), l[k]? = some e ∧ e.id = id) ∨
    ∃ (k : Nat) (e : Ev), l[k]? = some e ∧ e.id = id ∧ idxId id l 0 = (k : Int) := by
  by_cases h : ∃ (k : Nat) (e : Ev), l[k]? = some e ∧ e.id = id
  · right
    have hmin : ∀ n : Nat, ∀ (k : Nat) (e : Ev), k ≤ n → l[k]? = some e → e.id = id → ∃ (k : Nat) (e : Ev), l[k]? = some e ∧ e.id = id ∧ ∀ (j : Nat) (y : Ev), j < k → l[j]? = some y → y.id ≠ id := by
      intro n
      induction n with
      | zero => intro k e hk he hi; exact ⟨k, e, he, hi, fun j y hj => absurd hj (by omega)⟩
      | succ n ih =>
        intro k e hk he hi
        by_cases h2 : ∃ (j : Nat) (y : Ev), j < k ∧ l[j]? = some y ∧ y.id = id
        · obtain ⟨j, y, hj, hy, hyi⟩ := h2
          exact ih j y (by omega) hy hyi
        · exact ⟨k, e, he, hi, fun j y hj hy hyi => h2 ⟨j, y, hj, hy, hyi⟩⟩
    obtain ⟨k, e, he, hi⟩ := h
    obtain ⟨k, e, he, hi, hm⟩ := hmin k k e (Nat.le_refl _) he hi
    exact ⟨k, e, he, hi, by rw [idxId_at id l 0 k e hm he hi]; omega⟩
  · exact .inl ⟨idxId_none id l 0 (fun j y hj hy => h ⟨j, y, hj, hy⟩), h⟩
theorem waits_mono {p nx : Int} {l : List Ev} (h : waitsOk p nx l) : ∀ (d k : Nat) (a b : Ev), l[k]? = some a → l[k + d + 1]? = some b → a.id < b.id := by
  intro d
  induction d with
  | zero =>
    intro k a b ha hb
    have := (h (k + 1) b (by simpa using hb)).2.2.2.1
    rwa [prevI_succ ha] at this
  | succ d ih =>
    intro k a b ha hb
    have hl : k + d + 1 < l.length := by have := (List.getElem?_eq_some_iff.1 hb).1; omega
    have hm : l[k + d + 1]? = some l[k + d + 1] := List.getElem?_eq_getElem hl
    have h1 := ih k a _ ha hm
    have h2 := (h (k + d + 1 + 1) b (by simpa [Nat.add_assoc] using hb)).2.2.2.1
    rw [prevI_succ hm] at h2
    omega
theorem waits_filter {p nx : Int} {l : List Ev} (h : waitsOk p nx l) {k : Nat} {e : Ev} {id : Int} (he : l[k]? = some e) (hi : e.id = id) : l.filter (fun e => decide (e.id ≠ id)) = l.take k ++ l.drop (k + 1) := by
  have hl : k < l.length := (List.getElem?_eq_some_iff.1 he).1
  have h0 : l = l.take k ++ e :: l.drop (k + 1) := by
    rw [← (List.getElem?_eq_some_iff.1 he).2, List.getElem_cons_drop, List.take_append_drop]
  conv => lhs; rw [h0]
  rw [List.filter_append, List.filter_cons_of_neg (by simp [hi])]
  congr 1
  · rw [List.filter_eq_self]
    intro a ha
    obtain ⟨j, hj, rfl⟩ := List.getElem_of_mem ha
    have hj2 : j < k := by simp at hj; omega
    have ha2 : l[j]? = some (l.take k)[j] := by rw [List.getElem_take]; exact List.getElem?_eq_getElem (by omega)
    have := waits_mono h (k - j - 1) j _ e ha2 (by rw [show j + (k - j - 1) + 1 = k by omega]; exact he)
    simp only [List.getElem_take] at this
    simp
    omega
  · rw [List.filter_eq_self]
    intro a ha
    obtain ⟨j, hj, rfl⟩ := List.getElem_of_mem ha
    have ha2 : l[k + j + 1]? = some (l.drop (k + 1))[j] := by rw [List.getElem_drop, show k + j + 1 = k + 1 + j by omega]; exact List.getElem?_eq_getElem _
    have := waits_mono h j k e _ he ha2
    simp only [List.getElem_drop] at this
    simp
    omega
theorem evCells_take (l : List Ev) (k : Nat) : (evCells l).take (k * 6) = evCells (l.take k) := by
  rcases Nat.le_total k l.length with h | h
  · conv => lhs; rw [← List.take_append_drop k l, evCells_append]
    rw [List.take_append_of_le_length (by rw [evCells_length, List.length_take]; omega), List.take_of_length_le (by rw [evCells_length, List.length_take]; omega)]
  · rw [List.take_of_length_le (by rw [evCells_length]; omega), List.take_of_length_le h]
theorem evCells_drop (l : List Ev) (k : Nat) : (evCells l).drop (k * 6) = evCells (l.drop k) := by
  rcases Nat.le_total k l.length with h | h
  · conv => lhs; rw [← List.take_append_drop k l, evCells_append]
    rw [List.drop_append_of_le_length (by rw [evCells_length, List.length_take]; omega), List.drop_of_length_le (by rw [evCells_length, List.length_take]; omega)]
    simp
  · rw [List.drop_of_length_le (by rw [evCells_length]; omega), List.drop_of_length_le h]
    rfl
theorem own_some {w : World} {base : Nat} {e : TypeId} {size : Nat} {A : Option Addr} {n c : Nat} {xs : List Value} (h : w.ownsRow base e size (.slice A n c) n xs) (hn : 0 < n) : ∃ g, A = some ⟨g, 0, none⟩ ∧ base ≤ g ∧ g < w.heap.size := by
  have hs := own_size h
  have hl := h.own_lt
  rcases h.2 with ⟨_, h0⟩ | ⟨g, cap, cur, hv, hg, hh, r⟩
  · omega
  · injection hv with h1 h2 h3
    subst h1
    exact ⟨g, rfl, hg, hs g rfl⟩

set_option maxRecDepth 100000 in
set_option maxHeartbeats 4000000 in
theorem Done_calls (p nx : Int) (A : Option Addr) (n c : Nat) (l : List Ev) (x : Four4) (id : Int) (w : World) (h : Rd w w.heap.size 6 A n (evCells l)) (hm : n ≤ maxLen) (hc : n * 48 ≤ reachBytes) :
    Calls Try.prog 52 #[.agg #[.int .i64 p, .int .i64 nx, .slice A n c, .int .i64 x.a, .int .i64 x.b, .int .i64 x.c, .int .i64 x.d], .int .i64 id] w (CltPost w (doneC p nx l x id)) := by
  have hmf : ∀ (fn : Fn) (first cap : Array Value) (w : World), (Instr.makeFunc fn first cap).run Try.prog w = .ok (.func fn first cap) w := fun _ _ _ _ => rfl
  have HC := Lib.hid (fun w h => CCheck_calls p nx A n c l x w h hm)
  have HO0 := Lib.hid (fun w h => own_calls p nx A n c l x w h hc)
  have HI := Lib.hid (fun B w h hB hc => IdxEv_calls A n c l id B w h hm hB hc)
  have H := Lib.hid h
  have hm := Lib.hid hm
  have HL := Lib.hid h.ev_len
  open Classical in
  have HR : Hid (doneC p nx l x id = if cltFault p nx l x ≠ 0 then (zeroClt, cltFault p nx l x) else if ∃ (k : Nat) (e : Ev), l[k]? = some e ∧ e.id = id then (⟨p, nx, l.filter (fun e => decide (e.id ≠ id)), x⟩, 0) else (zeroClt, 7)) := Lib.hid rfl
  have HZ : Hid (cltFault p nx l x = 0 → waitsOk p nx l) := Lib.hid (fun h => (cltFault_zero h).2.1)
  clear h hc
  generalize doneC p nx l x id = r at HR ⊢
  generalize cltFault p nx l x = z at HC HR HZ
  obtain ⟨xa, xb, xc, xd⟩ := x
  simp only at HC HO0 ⊢
  go_enter Try.func52, Try.ntmps52
  go_wp2_with fail
  refine (HC.out _ (by exact H.out.on (by go_grown))).mono ?_
  rintro e w1 ⟨rfl, hb1⟩
  have B0 := (((Blk.new w _ _).alloc _).alloc _).below hb1 (by simp; omega)
  have B1 := ((Blk.new1 w _ _ _).alloc _).below hb1 (by simp <;> omega)
  have B2 := (Blk.new2 w _ _ _ _).below hb1 (by simp)
  obtain ⟨c0, c1', c2, c3, c4, c5, c6, cf⟩ := B0.cells7
  have hz1 : w.heap.size + 2 < w1.heap.size := B2.lt
  have HB : Hid (Below w.heap.size w w1) := Lib.hid (Below.trans (by go_grown) (hb1.mono (by simp; omega)))
  have H1 := Lib.hid (H.out.on HB.out)
  clear hb1
  by_cases hz : z = 0
  · have HR2 := Lib.hid (HR.out.trans (if_neg (by simpa using hz)))
    have HW := Lib.hid (HZ.out hz)
    subst hz
    clear HR HZ
    go_wp2_with fail
    refine (HI.out (w.heap.size + 1) _ (by exact H1.out) (by omega) (by exact B1.cell rfl)).mono ?_
    rintro e w2 ⟨rfl, hb2⟩
    have C0 := B0.on hb2
    have C2 := B2.on hb2
    have HB2 := Lib.hid (HB.out.trans (hb2.mono HB.out.size))
    have hz2 : w1.heap.size ≤ w2.heap.size := hb2.size
    have H2 := Lib.hid (H1.out.on hb2)
    clear hb2 B0 B1 B2 HB H1 c0 c1' c2 c3 c4 c5 c6 cf
    obtain ⟨c0, c1', c2, c3, c4, c5, c6, cf⟩ := C0.cells7
    rcases idxId_or id l with ⟨hi, hno⟩ | ⟨k, e, he, hid, hi⟩
    · have e := HR2.out.trans (if_neg hno)
      subst e
      rw [hi]
      clear hi hno
      have B2 := C2
      have HB := HB2
      go_wp2_with (refine wpList_store_row rfl _ (.tmp 4) (.tmp 20) rfl (w.heap.size + 1 + 1) rfl _ rfl _ _ B2 clt_info rfl rfl ?_; intro w9 hB9 hU9)
      have HU : Hid (Below w.heap.size w w9) := Lib.hid (hU9.next HB.out (by omega))
      obtain ⟨r0, r1, r2, r3, r4, r5, r6, rf⟩ := hB9.cells7
      go_wp2_with fail
      refine bodyPost_ret (v := .tuple #[.agg #[.int .i64 0, .int .i64 0, .slice none 0 0, .int .i64 0, .int .i64 0, .int .i64 0, .int .i64 0], .int .i64 7]) (by simp [results, Try.results52, go_sem, r0, r1, r2, r3, r4, r5, r6]) rfl ?_
      exact ⟨none, 0, 0, rfl, HU.out, Rd.none_, by simp⟩
    · have e := HR2.out.trans (if_pos ⟨k, e, he, hid⟩)
      rw [waits_filter HW.out he hid] at e
      subst e
      rw [hi]
      have hkn : k < n := by have := (List.getElem?_eq_some_iff.1 he).1; have := HL.out; omega
      have hnm : n ≤ 9223372036854775807 := hm.out
      clear hi hid he HR2
      go_wp2_with fail
      refine (HO0.out _ (by exact H2.out)).mono ?_
      rintro e w3 ⟨A1, c1, rfl, hb3, hown⟩
      obtain ⟨g, rfl, hg0, hg1⟩ := own_some hown (by omega)
      have D0 := C0.on hb3
      have D2 := C2.on hb3
      have HB3 := Lib.hid (HB2.out.trans (hb3.mono (by omega)))
      have HO := Lib.hid hown
      have hz3 : w2.heap.size ≤ w3.heap.size := hb3.size
      clear hb3 hown c0 c1' c2 c3 c4 c5 c6 cf C0 C2 HB2
      go_wp2_with (refine wpList_store_row rfl _ (.tmp 2) (.tmp 22) rfl w.heap.size rfl _ rfl _ _ D0 clt_info rfl rfl ?_; intro w4 hB4 hU4; obtain ⟨c0, c1', c2, c3, c4, c5, c6, cf⟩ := hB4.cells7)
      have HO4 := Lib.hid (hU4.ownBelow HO.out (by omega))
      with_reducible refine (DelEv_calls g n c1 k w2.heap.size (evCells l) _ HO4.out (evCells_one l) hkn).mono ?_
      rintro e w5 ⟨rfl, hU5, hown5⟩
      rw [evCells_take, evCells_drop, ← evCells_append] at hown5
      have E0 := hU5.blk hB4 (by omega)
      have E2 := hU5.blk (hU4.blk D2 (by omega)) (by omega)
      have HB5 := Lib.hid (hU5.next (hU4.next HB3.out (Nat.le_refl _)) (by omega))
      have HO5 := Lib.hid hown5
      clear hown5 hU5 c0 c1' c2 c3 c4 c5 c6 cf hB4 hU4 D0 D2 HB3 HO HO4
      obtain ⟨c0, c1', c2, c3, c4, c5, c6, cf⟩ := E0.cells7
      go_wp2_with (refine wpList_store_row rfl _ (.tmp 4) (.tmp 30) rfl (w.heap.size + 1 + 1) rfl _ rfl _ _ ((upd_cell w5 w.heap.size 2 (.slice (some ⟨g, 0, none⟩) (n - 1) c1)).blk E2 (by omega)) clt_info rfl rfl ?_; intro w9 hB9 hU9)
      have U6 := upd_cell w5 w.heap.size 2 (.slice (some ⟨g, 0, none⟩) (n - 1) c1)
      have HU : Hid (Below w.heap.size w w9) := Lib.hid (hU9.next (U6.next HB5.out (Nat.le_refl _)) (by omega))
      have HO9 := Lib.hid (hU9.ownBelow (U6.ownBelow HO5.out (by omega)) (by omega))
      obtain ⟨r0, r1, r2, r3, r4, r5, r6, rf⟩ := hB9.cells7
      go_wp2_with fail
      refine bodyPost_ret (v := .tuple #[.agg #[.int .i64 p, .int .i64 nx, .slice (some ⟨g, 0, none⟩) (n - 1) c1, .int .i64 xa, .int .i64 xb, .int .i64 xc, .int .i64 xd], .int .i64 0]) (by simp [results, Try.results52, go_sem, r0, r1, r2, r3, r4, r5, r6]) rfl ?_
      exact ⟨_, n - 1, c1, rfl, HU.out, Rd.of_own (World.ownsRow.lower (base' := w.heap.size) HO9.out (by omega)), by have := hm.out; omega⟩
  · have e := HR.out.trans (if_pos hz)
    subst e
    have t0 : (z == 0) = false := by simpa using hz
    have t0' : (z != 0) = true := by simpa using hz
    clear hz
    go_wp2_with (refine wpList_store_row rfl _ (.tmp 4) (.tmp 12) rfl (w.heap.size + 1 + 1) rfl _ rfl _ _ B2 clt_info rfl rfl ?_; intro w9 hB9 hU9)
    have HU : Hid (Below w.heap.size w w9) := Lib.hid (hU9.next HB.out (by omega))
    obtain ⟨r0, r1, r2, r3, r4, r5, r6, rf⟩ := hB9.cells7
    go_wp2_with fail
    refine bodyPost_ret (v := .tuple #[.agg #[.int .i64 0, .int .i64 0, .slice none 0 0, .int .i64 0, .int .i64 0, .int .i64 0, .int .i64 0], .int .i64 z]) (by simp [results, Try.results52, go_sem, r0, r1, r2, r3, r4, r5, r6]) rfl ?_
    exact ⟨none, 0, 0, rfl, HU.out, Rd.none_, by simp⟩
end Go.Proofs.Ytkjlafpafmihaaa
