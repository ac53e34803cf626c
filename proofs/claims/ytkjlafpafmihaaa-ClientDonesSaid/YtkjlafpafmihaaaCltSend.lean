/- Contracts: client.Send, ref.ClientSent. -/
import Derived.Test.YtkjlafpafmihaaaCltLearn
import Derived.RegionTactic
namespace Go.Proofs.Ytkjlafpafmihaaa
open Go.ChangeShapes Go.WideShapes Go.RowKit

def noEv : Ev := ⟨0, 0, 0, 0, 0, 0⟩
def sentEv (p nx body : Int) : Ev := ⟨1, p, nx, body, 0, 0⟩
def fullP (nx : Int) (l : List Ev) : Prop := nx = 1073741824 ∨ ∃ (k : Nat) (e : Ev), l[k]? = some e ∧ e.id + 8 ≤ nx
open Classical in
/-- P10.3. -/
noncomputable def sendC (p nx : Int) (l : List Ev) (x : Four4) (body : Int) : CltD × Ev × Int :=
  if cltFault p nx l x ≠ 0 then (zeroClt, noEv, cltFault p nx l x) else if body < 0 ∨ 1000000 < body then (zeroClt, noEv, 2) else if fullP nx l then (zeroClt, noEv, 14) else (⟨p, nx + 1, l ++ [sentEv p nx body], x⟩, sentEv p nx body, 0)
def SendPost (w : World) (r : CltD × Ev × Int) (e : Ending) (w' : World) : Prop :=
  ∃ A n c, e = .returned (.tuple #[.agg #[.int .i64 r.1.p, .int .i64 r.1.nx, .slice A n c, .int .i64 r.1.x.a, .int .i64 r.1.x.b, .int .i64 r.1.x.c, .int .i64 r.1.x.d], r.2.1.val, .int .i64 r.2.2]) ∧ Below w.heap.size w w' ∧ Rd w' w'.heap.size 6 A n (evCells r.1.l) ∧ n ≤ maxLen

theorem waits_first {p nx : Int} {l : List Ev} (h : waitsOk p nx l) {e0 : Ev} (h0 : l[0]? = some e0) : ∀ (k : Nat) (e : Ev), l[k]? = some e → e0.id ≤ e.id := by
  intro k
  induction k with
  | zero => intro e he; rw [h0] at he; cases he; exact Int.le_refl _
  | succ k ih =>
    intro e he
    have hl : k < l.length := by have := (List.getElem?_eq_some_iff.1 he).1; omega
    have hk : l[k]? = some l[k] := List.getElem?_eq_getElem hl
    have h1 := ih _ hk
    have h2 := (h (k + 1) e he).2.2.2.1
    rw [prevI_succ hk] at h2
    omega
theorem full_none {nx : Int} (h : nx ≠ 1073741824) : ¬ fullP nx [] := by
  rintro (h1 | ⟨k, e, he, _⟩)
  · exact h h1
  · simp at he
theorem full_iff {p nx : Int} {l : List Ev} (h : waitsOk p nx l) {e0 : Ev} (h0 : l[0]? = some e0) (hn : nx ≠ 1073741824) : fullP nx l ↔ 8 ≤ nx - e0.id := by
  constructor
  · rintro (h1 | ⟨k, e, he, h1⟩)
    · exact absurd h1 hn
    · have := waits_first h h0 k e he
      omega
  · intro h1
    exact .inr ⟨0, e0, h0, by omega⟩
theorem waits_id {p nx : Int} {l : List Ev} (h : waitsOk p nx l) {k : Nat} {e : Ev} (he : l[k]? = some e) : 0 ≤ e.id ∧ e.id ≤ 1073741824 := by
  obtain ⟨h1, h2, _⟩ := h k e he
  have := evFault_pub h1 h2
  omega
theorem ev_inf : (Try.prog.info? 37).map (·.size) = some 6 := by kernel_rfl

set_option maxRecDepth 100000 in
set_option maxHeartbeats 4000000 in
theorem Send_calls (p nx : Int) (A : Option Addr) (n c : Nat) (l : List Ev) (x : Four4) (body : Int) (w : World) (h : Rd w w.heap.size 6 A n (evCells l)) (hm : n ≤ maxLen) (hc : n * 48 ≤ reachBytes) :
    Calls Try.prog 47 #[.agg #[.int .i64 p, .int .i64 nx, .slice A n c, .int .i64 x.a, .int .i64 x.b, .int .i64 x.c, .int .i64 x.d], .int .i64 body] w (SendPost w (sendC p nx l x body)) := by
  have hc' : n * 48 ≤ 140737488351232 := hc
  obtain ⟨j0, hj0, zj0, zj1, zj2⟩ := info_parts ev_info
  have HC := Lib.hid (fun w h => CCheck_calls p nx A n c l x w h hm)
  have HO0 := Lib.hid (fun w h => own_calls p nx A n c l x w h hc)
  have H := Lib.hid h
  have hm := Lib.hid hm
  have HL := Lib.hid h.ev_len
  open Classical in
  have HR : Hid (sendC p nx l x body = if cltFault p nx l x ≠ 0 then (zeroClt, noEv, cltFault p nx l x) else if body < 0 ∨ 1000000 < body then (zeroClt, noEv, 2) else if fullP nx l then (zeroClt, noEv, 14) else (⟨p, nx + 1, l ++ [sentEv p nx body], x⟩, sentEv p nx body, 0)) := Lib.hid rfl
  have HZ : Hid (cltFault p nx l x = 0 → (0 ≤ p ∧ p ≤ 3 ∧ 0 ≤ nx ∧ nx ≤ 1073741824) ∧ waitsOk p nx l) := Lib.hid (fun h => ⟨(cltFault_zero h).1, (cltFault_zero h).2.1⟩)
  clear h hc
  generalize sendC p nx l x body = r at HR ⊢
  generalize cltFault p nx l x = z at HC HR HZ
  obtain ⟨xa, xb, xc, xd⟩ := x
  simp only at HC HO0 ⊢
  go_enter Try.func47, Try.ntmps47
  go_wp2_with fail
  refine (HC.out _ (by exact H.out.on (by go_grown))).mono ?_
  rintro e w1 ⟨rfl, hb1⟩
  have B0 := (((Blk.new w _ _).alloc _).alloc _).below hb1 (by simp; omega)
  have B1 := ((Blk.new1 w _ _ _).alloc _).below hb1 (by simp <;> omega)
  have B2 := (Blk.new2 w _ _ _ _).below hb1 (by simp)
  obtain ⟨c0, c1', c2, c3, c4, c5, c6, cf⟩ := B0.cells7
  have hz1 : w.heap.size + 2 < w1.heap.size := B2.lt
  have HB : Hid (Below w.heap.size w w1) := Lib.hid (Below.trans (by go_grown) (hb1.mono (by simp; omega)))
  have H1 := Lib.hid (H.out.on HB.out)
  clear hb1
  by_cases hz : z = 0
  · have HR2 := Lib.hid (HR.out.trans (if_neg (by simpa using hz)))
    obtain ⟨⟨p0, p3, n0, n3⟩, hw⟩ := HZ.out hz
    have HW := Lib.hid hw
    subst hz
    clear HR HZ hw
    by_cases q0 : body < 0
    · have e := HR2.out.trans (if_pos (by omega))
      subst e
      go_wp2_with (first | (refine wpList_store_row rfl _ (.tmp 4) (.tmp 24) rfl (w.heap.size + 1) rfl _ rfl _ _ B1 clt_info rfl rfl ?_; intro w9 hB9 hU9; have B2 := hU9.blk B2 (by omega)) | (refine wpList_store_row rfl _ (.tmp 5) (.tmp 25) rfl (w.heap.size + 1 + 1) rfl _ rfl _ _ B2 ev_inf rfl rfl ?_; intro w8 hB8 hU8) | (go_at_call 107; refine (In_calls _ _ _ _).mono ?_; rintro e w' ⟨rfl, rfl⟩))
      have HU : Hid (Below w.heap.size w w8) := Lib.hid (hU8.next (hU9.next HB.out (by omega)) (by omega))
      obtain ⟨r0, r1, r2, r3, r4, r5, r6, rf⟩ := (hU8.blk hB9 (by omega)).cells7
      obtain ⟨s0, s1, s2, s3, s4, s5, sf⟩ := hB8.cells6
      go_wp2_with fail
      refine bodyPost_ret (v := .tuple #[.agg #[.int .i64 0, .int .i64 0, .slice none 0 0, .int .i64 0, .int .i64 0, .int .i64 0, .int .i64 0], .agg #[.int .i64 0, .int .i64 0, .int .i64 0, .int .i64 0, .int .i64 0, .int .i64 0], .int .i64 2]) (by simp [results, Try.results47, go_sem, r0, r1, r2, r3, r4, r5, r6, s0, s1, s2, s3, s4, s5]) rfl ?_
      exact ⟨none, 0, 0, rfl, HU.out, Rd.none_, by simp⟩
    by_cases q4 : 1000000 < body
    · have e := HR2.out.trans (if_pos (by omega))
      subst e
      go_wp2_with (first | (refine wpList_store_row rfl _ (.tmp 4) (.tmp 24) rfl (w.heap.size + 1) rfl _ rfl _ _ B1 clt_info rfl rfl ?_; intro w9 hB9 hU9; have B2 := hU9.blk B2 (by omega)) | (refine wpList_store_row rfl _ (.tmp 5) (.tmp 25) rfl (w.heap.size + 1 + 1) rfl _ rfl _ _ B2 ev_inf rfl rfl ?_; intro w8 hB8 hU8) | (go_at_call 107; refine (In_calls _ _ _ _).mono ?_; rintro e w' ⟨rfl, rfl⟩))
      have HU : Hid (Below w.heap.size w w8) := Lib.hid (hU8.next (hU9.next HB.out (by omega)) (by omega))
      obtain ⟨r0, r1, r2, r3, r4, r5, r6, rf⟩ := (hU8.blk hB9 (by omega)).cells7
      obtain ⟨s0, s1, s2, s3, s4, s5, sf⟩ := hB8.cells6
      go_wp2_with fail
      refine bodyPost_ret (v := .tuple #[.agg #[.int .i64 0, .int .i64 0, .slice none 0 0, .int .i64 0, .int .i64 0, .int .i64 0, .int .i64 0], .agg #[.int .i64 0, .int .i64 0, .int .i64 0, .int .i64 0, .int .i64 0, .int .i64 0], .int .i64 2]) (by simp [results, Try.results47, go_sem, r0, r1, r2, r3, r4, r5, r6, s0, s1, s2, s3, s4, s5]) rfl ?_
      exact ⟨none, 0, 0, rfl, HU.out, Rd.none_, by simp⟩
    have HR3 := Lib.hid (HR2.out.trans (if_neg (by omega)))
    clear HR2
    by_cases hx : nx = 1073741824
    · have e := HR3.out.trans (if_pos (.inl hx))
      subst e
      have t1 : (nx == 1073741824) = true := by simpa using hx
      clear hx
      go_wp2_with fail
      go_quiet (fail)
      have B1 := B1.drewN nq
      have B2 := B2.drewN nq
      have HB := Lib.hid (bdrewN HB.out nq)
      go_wp2_with (first | (refine wpList_store_row rfl _ (.tmp 4) (.tmp 47) rfl (w.heap.size + 1) rfl _ rfl _ _ B1 clt_info rfl rfl ?_; intro w9 hB9 hU9; have B2 := hU9.blk B2 (by omega)) | (refine wpList_store_row rfl _ (.tmp 5) (.tmp 48) rfl (w.heap.size + 1 + 1) rfl _ rfl _ _ B2 ev_inf rfl rfl ?_; intro w8 hB8 hU8) | (go_at_call 107; refine (In_calls _ _ _ _).mono ?_; rintro e w' ⟨rfl, rfl⟩))
      have HU : Hid (Below w.heap.size w w8) := Lib.hid (hU8.next (hU9.next HB.out (by omega)) (by omega))
      obtain ⟨r0, r1, r2, r3, r4, r5, r6, rf⟩ := (hU8.blk hB9 (by omega)).cells7
      obtain ⟨s0, s1, s2, s3, s4, s5, sf⟩ := hB8.cells6
      go_wp2_with fail
      refine bodyPost_ret (v := .tuple #[.agg #[.int .i64 0, .int .i64 0, .slice none 0 0, .int .i64 0, .int .i64 0, .int .i64 0, .int .i64 0], .agg #[.int .i64 0, .int .i64 0, .int .i64 0, .int .i64 0, .int .i64 0, .int .i64 0], .int .i64 14]) (by simp [results, Try.results47, go_sem, r0, r1, r2, r3, r4, r5, r6, s0, s1, s2, s3, s4, s5]) rfl ?_
      exact ⟨none, 0, 0, rfl, HU.out, Rd.none_, by simp⟩
    have hx2 : (nx == 1073741824) = false := by simpa using hx
    by_cases hn0 : n = 0
    · have e := HR3.out.trans (if_neg (by rw [List.eq_nil_of_length_eq_zero (HL.out.trans hn0)]; exact full_none hx))
      subst e
      have hd1 : decide ((0 : Int) < (n : Int)) = false := by simp; omega
      have hd2 : decide (0 < n) = false := by simp; omega
      clear hx hn0
      go_wp2_with fail
      go_quiet (fail)
      have B0 := B0.drewN nq
      have B1 := B1.drewN nq
      have B2 := B2.drewN nq
      have HB := Lib.hid (bdrewN HB.out nq)
      have H1 : Hid (Rd (w1.drewN nq) (w1.drewN nq).heap.size 6 _ n (evCells l)) := Lib.hid H1.out
      have hz1 : w.heap.size + 2 < (w1.drewN nq).heap.size := hz1
      clear c0 c1' c2 c3 c4 c5 c6 cf
      generalize w1.drewN nq = wd at B0 B1 B2 HB H1 hz1 ⊢
      obtain ⟨c0, c1', c2, c3, c4, c5, c6, cf⟩ := B0.cells7
      go_wp2_with (refine wpList_store_row rfl _ (.tmp 8) (.tmp 54) rfl wd.heap.size rfl _ rfl _ _ (Blk.new wd _ _) ev_inf rfl rfl ?_; intro w2 hX hUX; have C0 := hUX.blk (B0.alloc _) (by omega); obtain ⟨e0, e1, e2, e3, e4, e5, e6, ef⟩ := C0.cells7)
      have C1 := hUX.blk (B1.alloc _) (by omega)
      have C2 := hUX.blk (B2.alloc _) (by omega)
      have hz2 : wd.heap.size < w2.heap.size := hX.lt
      have HB2 := Lib.hid (hUX.next (HB.out.alloc (by omega) _) (by omega))
      have H2 : Hid (Rd w2 w2.heap.size 6 _ n (evCells l)) := Lib.hid (((H1.out.alloc (Nat.le_refl _) _).below (hUX.below (Nat.le_refl _)) (Nat.le_refl _)).more (by omega))
      clear c0 c1' c2 c3 c4 c5 c6 cf B0 B1 B2 HB H1 hUX
      refine (HO0.out _ (by exact H2.out)).mono ?_
      rintro e w3 ⟨A1, c1, rfl, hb3, hown⟩
      have D0 := C0.on hb3
      have D1 := C1.on hb3
      have D2 := C2.on hb3
      have DX := hX.on hb3
      have HB3 := Lib.hid (HB2.out.trans (hb3.mono (by omega)))
      have HO := Lib.hid hown
      have hz3 : w2.heap.size ≤ w3.heap.size := hb3.size
      clear hb3 hown e0 e1 e2 e3 e4 e5 e6 ef C0 C1 C2 hX HB2
      go_wp2_with (first
        | (refine wpList_store_row rfl _ (.tmp 2) (.tmp 56) rfl w.heap.size rfl _ rfl _ _ D0 clt_info rfl rfl ?_; intro w4 hB4 hU4; obtain ⟨c0, c1', c2, c3, c4, c5, c6, cf⟩ := hB4.cells7; have DX4 := hU4.blk DX (by omega); obtain ⟨x0, x1, x2, x3, x4, x5, xf⟩ := DX4.cells6; have HO4 := Lib.hid (hU4.ownBelow HO.out (by omega)); have hz4 : w3.heap.size ≤ w4.heap.size := Nat.le_of_eq hU4.size.symm; have HN : Hid (Rd (w4.alloc (.cells #[.int .i64 1, .int .i64 p, .int .i64 nx, .int .i64 body, .int .i64 0, .int .i64 0] 37)) (w4.heap.size + 1) 6 (some ⟨w4.heap.size, 0, none⟩) 1 (evCells [sentEv p nx body])) := Lib.hid (ev_new w4 (sentEv p nx body) _))
        | (at_builtin; refine wpList_append_any _ rfl (.tmp 58) (.tmp 60) _ rfl w2.heap.size 37 j0 _ 6 48 Try.underlying57 hj0 zj0 zj1 zj2 rfl (by omega) _ n (evCells l) rfl (HO4.out.alloc _) (w4.heap.size + 1) (some ⟨w4.heap.size, 0, none⟩) 1 1 (evCells [sentEv p nx body]) rfl HN.out (evCells_one _) (by simp only [maxLen]; omega) (by omega) (by simp; omega) ?_; intro v1 w5 hown1 hg1 hat1; obtain ⟨A2, c2', rfl, _⟩ := own_form hown1; have E0 := (hB4.alloc _).grown hg1 (fun e => by have := HO4.out.own_lt _ e; omega); have E1 := ((hU4.blk D1 (by omega)).alloc _).grown hg1 (fun e => by have := HO4.out.own_lt _ e; omega); have E2 := ((hU4.blk D2 (by omega)).alloc _).grown hg1 (fun e => by have := HO4.out.own_lt _ e; omega); have EX := (DX4.alloc _).grown hg1 (fun e => by have := HO4.out.own_lt _ e; omega); have HB5 := Lib.hid (((hU4.next HB3.out (Nat.le_refl _)).alloc (by omega) _).grown hg1 (by simp; omega) (fun k hk => by have := HO4.out.own_lt k hk; omega)); clear c0 c1' c2 c3 c4 c5 c6 cf x0 x1 x2 x3 x4 x5 xf; obtain ⟨c0, c1', c2, c3, c4, c5, c6, cf⟩ := E0.cells7; obtain ⟨x0, x1, x2, x3, x4, x5, xf⟩ := EX.cells6; obtain ⟨r0, r1, r2, r3, r4, r5, r6, rf⟩ := E1.cells7; obtain ⟨s0, s1, s2, s3, s4, s5, sf⟩ := E2.cells6; have HO5 := Lib.hid hown1; clear hown1 hg1 hat1))
      have HNE : Hid (∀ k, (Value.slice A2 (n + 1) c2').ownBlock = some k → k ≠ w.heap.size) := Lib.hid (fun k hk => by have := HO5.out.own_lt k hk; omega)
      have E0 := ((E0.set_ 2 (.slice A2 (n + 1) c2')).set_ 1 (.int .i64 (nx + 1))).drew
      have U6 := upd_drew ((upd_cell w5 w.heap.size 2 (.slice A2 (n + 1) c2')).trans (upd_cell _ w.heap.size 1 (.int .i64 (nx + 1))))
      have E1 := U6.blk E1 (by omega)
      have E2 := U6.blk E2 (by omega)
      have EX := U6.blk EX (by omega)
      have HB6 := Lib.hid (U6.next HB5.out (by omega))
      have HO6 := U6.own HO5.out HNE.out
      rw [← evCells_append] at HO6
      have HO6 := Lib.hid HO6
      clear HB5 HO5 HNE U6 c0 c1' c2 c3 c4 c5 c6 cf x0 x1 x2 x3 x4 x5 xf
      refine wp_region_any (by kernel_rfl) ?_
      change wpAny _ _ _ _ _ _ _ (World.drew _)
      generalize World.drew _ = w6 at E0 E1 E2 EX HB6 HO6 ⊢
      obtain ⟨c0, c1', c2, c3, c4, c5, c6, cf⟩ := E0.cells7
      obtain ⟨x0, x1, x2, x3, x4, x5, xf⟩ := EX.cells6
      refine wpAny_ready (rs := [0, 1]) (by kernel_rfl) (by simp) ?_
      refine AllReady.cons rfl (fun K hK => ?_) (AllReady.cons rfl (fun K hK => ?_) AllReady.nil)
      · go_simp
        refine hK _ _ ?_
        clear hK K
        refine wpAny_ready (rs := [1, 2]) (by kernel_rfl) (by simp) ?_
        refine AllReady.cons rfl (fun K hK => ?_) (AllReady.cons rfl (fun K hK => ?_) AllReady.nil)
        · go_simp
          refine hK _ _ ?_
          clear hK K
          refine wpAny_ready (rs := [2]) (by kernel_rfl) (by simp) ?_
          refine AllReady.cons rfl (fun K hK => ?_) AllReady.nil
          refine step_store_row rfl _ (.tmp 4) (.tmp 67) rfl (w.heap.size + 1) rfl _ rfl _ _ E1 clt_info rfl rfl ?_
          intro w9 hB9 hU9
          refine hK _ _ ?_
          clear hK K x0 x1 x2 x3 x4 x5 xf
          have E2 := hU9.blk E2 (by omega)
          have EX := hU9.blk EX (by omega)
          obtain ⟨x0, x1, x2, x3, x4, x5, xf⟩ := EX.cells6
          refine wpAny_ready (rs := [3]) (by kernel_rfl) (by simp) ?_
          refine AllReady.cons rfl (fun K hK => ?_) AllReady.nil
          refine step_store_row rfl _ (.tmp 5) (.tmp 68) rfl (w.heap.size + 1 + 1) rfl _ rfl _ _ E2 ev_inf rfl rfl ?_
          intro w10 hB10 hU10
          refine hK _ _ ?_
          clear hK K
          refine wpAny_ready (rs := [4]) (by kernel_rfl) (by simp) ?_
          refine AllReady.cons rfl (fun K hK => ?_) AllReady.nil
          go_simp
          refine hK _ _ ?_
          clear hK K
          refine wpAny_done (by kernel_rfl) ?_ _
          have HB7 := Lib.hid (hU10.next (hU9.next HB6.out (by omega)) (by omega))
          have HO7 := Lib.hid (hU10.ownBelow (hU9.ownBelow HO6.out (by omega)) (by omega))
          obtain ⟨r0, r1, r2, r3, r4, r5, r6, rf⟩ := (hU10.blk hB9 (by omega)).cells7
          obtain ⟨s0, s1, s2, s3, s4, s5, sf⟩ := hB10.cells6
          go_wp2_with fail
          refine bodyPost_ret (v := .tuple #[.agg #[.int .i64 p, .int .i64 (nx + 1), .slice A2 (n + 1) c2', .int .i64 xa, .int .i64 xb, .int .i64 xc, .int .i64 xd], .agg #[.int .i64 1, .int .i64 p, .int .i64 nx, .int .i64 body, .int .i64 0, .int .i64 0], .int .i64 0]) (by simp [results, Try.results47, go_sem, r0, r1, r2, r3, r4, r5, r6, s0, s1, s2, s3, s4, s5]) rfl ?_
          exact ⟨A2, n + 1, c2', rfl, HB7.out, Rd.of_own (World.ownsRow.lower (base' := w.heap.size) HO7.out (by omega)), by simp only [maxLen]; omega⟩
        · refine step_store_row rfl _ (.tmp 4) (.tmp 67) rfl (w.heap.size + 1) rfl _ rfl _ _ E1 clt_info rfl rfl ?_
          intro w9 hB9 hU9
          refine hK _ _ ?_
          clear hK K x0 x1 x2 x3 x4 x5 xf
          have E2 := hU9.blk E2 (by omega)
          have EX := hU9.blk EX (by omega)
          obtain ⟨x0, x1, x2, x3, x4, x5, xf⟩ := EX.cells6
          refine wpAny_ready (rs := [1]) (by kernel_rfl) (by simp) ?_
          refine AllReady.cons rfl (fun K hK => ?_) AllReady.nil
          go_simp
          refine hK _ _ ?_
          clear hK K
          refine wpAny_ready (rs := [3]) (by kernel_rfl) (by simp) ?_
          refine AllReady.cons rfl (fun K hK => ?_) AllReady.nil
          refine step_store_row rfl _ (.tmp 5) (.tmp 68) rfl (w.heap.size + 1 + 1) rfl _ rfl _ _ E2 ev_inf rfl rfl ?_
          intro w10 hB10 hU10
          refine hK _ _ ?_
          clear hK K
          refine wpAny_ready (rs := [4]) (by kernel_rfl) (by simp) ?_
          refine AllReady.cons rfl (fun K hK => ?_) AllReady.nil
          go_simp
          refine hK _ _ ?_
          clear hK K
          refine wpAny_done (by kernel_rfl) ?_ _
          have HB7 := Lib.hid (hU10.next (hU9.next HB6.out (by omega)) (by omega))
          have HO7 := Lib.hid (hU10.ownBelow (hU9.ownBelow HO6.out (by omega)) (by omega))
          obtain ⟨r0, r1, r2, r3, r4, r5, r6, rf⟩ := (hU10.blk hB9 (by omega)).cells7
          obtain ⟨s0, s1, s2, s3, s4, s5, sf⟩ := hB10.cells6
          go_wp2_with fail
          refine bodyPost_ret (v := .tuple #[.agg #[.int .i64 p, .int .i64 (nx + 1), .slice A2 (n + 1) c2', .int .i64 xa, .int .i64 xb, .int .i64 xc, .int .i64 xd], .agg #[.int .i64 1, .int .i64 p, .int .i64 nx, .int .i64 body, .int .i64 0, .int .i64 0], .int .i64 0]) (by simp [results, Try.results47, go_sem, r0, r1, r2, r3, r4, r5, r6, s0, s1, s2, s3, s4, s5]) rfl ?_
          exact ⟨A2, n + 1, c2', rfl, HB7.out, Rd.of_own (World.ownsRow.lower (base' := w.heap.size) HO7.out (by omega)), by simp only [maxLen]; omega⟩
      · go_simp
        refine hK _ _ ?_
        clear hK K
        refine wpAny_ready (rs := [0]) (by kernel_rfl) (by simp) ?_
        refine AllReady.cons rfl (fun K hK => ?_) AllReady.nil
        go_simp
        refine hK _ _ ?_
        clear hK K
        refine wpAny_ready (rs := [2]) (by kernel_rfl) (by simp) ?_
        refine AllReady.cons rfl (fun K hK => ?_) AllReady.nil
        refine step_store_row rfl _ (.tmp 4) (.tmp 67) rfl (w.heap.size + 1) rfl _ rfl _ _ E1 clt_info rfl rfl ?_
        intro w9 hB9 hU9
        refine hK _ _ ?_
        clear hK K x0 x1 x2 x3 x4 x5 xf
        have E2 := hU9.blk E2 (by omega)
        have EX := hU9.blk EX (by omega)
        obtain ⟨x0, x1, x2, x3, x4, x5, xf⟩ := EX.cells6
        refine wpAny_ready (rs := [3]) (by kernel_rfl) (by simp) ?_
        refine AllReady.cons rfl (fun K hK => ?_) AllReady.nil
        refine step_store_row rfl _ (.tmp 5) (.tmp 68) rfl (w.heap.size + 1 + 1) rfl _ rfl _ _ E2 ev_inf rfl rfl ?_
        intro w10 hB10 hU10
        refine hK _ _ ?_
        clear hK K
        refine wpAny_ready (rs := [4]) (by kernel_rfl) (by simp) ?_
        refine AllReady.cons rfl (fun K hK => ?_) AllReady.nil
        go_simp
        refine hK _ _ ?_
        clear hK K
        refine wpAny_done (by kernel_rfl) ?_ _
        have HB7 := Lib.hid (hU10.next (hU9.next HB6.out (by omega)) (by omega))
        have HO7 := Lib.hid (hU10.ownBelow (hU9.ownBelow HO6.out (by omega)) (by omega))
        obtain ⟨r0, r1, r2, r3, r4, r5, r6, rf⟩ := (hU10.blk hB9 (by omega)).cells7
        obtain ⟨s0, s1, s2, s3, s4, s5, sf⟩ := hB10.cells6
        go_wp2_with fail
        refine bodyPost_ret (v := .tuple #[.agg #[.int .i64 p, .int .i64 (nx + 1), .slice A2 (n + 1) c2', .int .i64 xa, .int .i64 xb, .int .i64 xc, .int .i64 xd], .agg #[.int .i64 1, .int .i64 p, .int .i64 nx, .int .i64 body, .int .i64 0, .int .i64 0], .int .i64 0]) (by simp [results, Try.results47, go_sem, r0, r1, r2, r3, r4, r5, r6, s0, s1, s2, s3, s4, s5]) rfl ?_
        exact ⟨A2, n + 1, c2', rfl, HB7.out, Rd.of_own (World.ownsRow.lower (base' := w.heap.size) HO7.out (by omega)), by simp only [maxLen]; omega⟩
    obtain ⟨b, off, e0, rfl, hb, he0, d0, d1, d2, d3, d4, d5⟩ := H1.out.ev_at (show 0 < n by omega)
    obtain ⟨i0, i1⟩ := waits_id HW.out he0
    have HF := Lib.hid (full_iff HW.out he0 hx)
    have hn1 : (0 : Int) < (n : Int) := by omega
    have hn2 : 0 < n := by omega
    simp only [Nat.zero_mul, Nat.add_zero] at d0 d1 d2 d3 d4 d5
    clear he0 hx hn0
    by_cases hf : 8 ≤ nx - e0.id
    · have e := HR3.out.trans (if_pos (HF.out.2 hf))
      subst e
      go_wp2_with fail
      go_quiet (fail)
      have B1 := B1.drewN nq
      have B2 := B2.drewN nq
      have HB := Lib.hid (bdrewN HB.out nq)
      go_wp2_with (first | (refine wpList_store_row rfl _ (.tmp 4) (.tmp 47) rfl (w.heap.size + 1) rfl _ rfl _ _ B1 clt_info rfl rfl ?_; intro w9 hB9 hU9; have B2 := hU9.blk B2 (by omega)) | (refine wpList_store_row rfl _ (.tmp 5) (.tmp 48) rfl (w.heap.size + 1 + 1) rfl _ rfl _ _ B2 ev_inf rfl rfl ?_; intro w8 hB8 hU8) | (go_at_call 107; refine (In_calls _ _ _ _).mono ?_; rintro e w' ⟨rfl, rfl⟩))
      have HU : Hid (Below w.heap.size w w8) := Lib.hid (hU8.next (hU9.next HB.out (by omega)) (by omega))
      obtain ⟨r0, r1, r2, r3, r4, r5, r6, rf⟩ := (hU8.blk hB9 (by omega)).cells7
      obtain ⟨s0, s1, s2, s3, s4, s5, sf⟩ := hB8.cells6
      go_wp2_with fail
      refine bodyPost_ret (v := .tuple #[.agg #[.int .i64 0, .int .i64 0, .slice none 0 0, .int .i64 0, .int .i64 0, .int .i64 0, .int .i64 0], .agg #[.int .i64 0, .int .i64 0, .int .i64 0, .int .i64 0, .int .i64 0, .int .i64 0], .int .i64 14]) (by simp [results, Try.results47, go_sem, r0, r1, r2, r3, r4, r5, r6, s0, s1, s2, s3, s4, s5]) rfl ?_
      exact ⟨none, 0, 0, rfl, HU.out, Rd.none_, by simp⟩
    · have e := HR3.out.trans (if_neg (fun h => hf (HF.out.1 h)))
      subst e
      go_wp2_with fail
      go_quiet (fail)
      have B0 := B0.drewN nq
      have B1 := B1.drewN nq
      have B2 := B2.drewN nq
      have HB := Lib.hid (bdrewN HB.out nq)
      have H1 : Hid (Rd (w1.drewN nq) (w1.drewN nq).heap.size 6 _ n (evCells l)) := Lib.hid H1.out
      have hz1 : w.heap.size + 2 < (w1.drewN nq).heap.size := hz1
      clear c0 c1' c2 c3 c4 c5 c6 cf
      generalize w1.drewN nq = wd at B0 B1 B2 HB H1 hz1 ⊢
      obtain ⟨c0, c1', c2, c3, c4, c5, c6, cf⟩ := B0.cells7
      go_wp2_with (refine wpList_store_row rfl _ (.tmp 8) (.tmp 54) rfl wd.heap.size rfl _ rfl _ _ (Blk.new wd _ _) ev_inf rfl rfl ?_; intro w2 hX hUX; have C0 := hUX.blk (B0.alloc _) (by omega); obtain ⟨e0, e1, e2, e3, e4, e5, e6, ef⟩ := C0.cells7)
      have C1 := hUX.blk (B1.alloc _) (by omega)
      have C2 := hUX.blk (B2.alloc _) (by omega)
      have hz2 : wd.heap.size < w2.heap.size := hX.lt
      have HB2 := Lib.hid (hUX.next (HB.out.alloc (by omega) _) (by omega))
      have H2 : Hid (Rd w2 w2.heap.size 6 _ n (evCells l)) := Lib.hid (((H1.out.alloc (Nat.le_refl _) _).below (hUX.below (Nat.le_refl _)) (Nat.le_refl _)).more (by omega))
      clear c0 c1' c2 c3 c4 c5 c6 cf B0 B1 B2 HB H1 hUX
      refine (HO0.out _ (by exact H2.out)).mono ?_
      rintro e w3 ⟨A1, c1, rfl, hb3, hown⟩
      have D0 := C0.on hb3
      have D1 := C1.on hb3
      have D2 := C2.on hb3
      have DX := hX.on hb3
      have HB3 := Lib.hid (HB2.out.trans (hb3.mono (by omega)))
      have HO := Lib.hid hown
      have hz3 : w2.heap.size ≤ w3.heap.size := hb3.size
      clear hb3 hown e0 e1 e2 e3 e4 e5 e6 ef C0 C1 C2 hX HB2
      go_wp2_with (first
        | (refine wpList_store_row rfl _ (.tmp 2) (.tmp 56) rfl w.heap.size rfl _ rfl _ _ D0 clt_info rfl rfl ?_; intro w4 hB4 hU4; obtain ⟨c0, c1', c2, c3, c4, c5, c6, cf⟩ := hB4.cells7; have DX4 := hU4.blk DX (by omega); obtain ⟨x0, x1, x2, x3, x4, x5, xf⟩ := DX4.cells6; have HO4 := Lib.hid (hU4.ownBelow HO.out (by omega)); have hz4 : w3.heap.size ≤ w4.heap.size := Nat.le_of_eq hU4.size.symm; have HN : Hid (Rd (w4.alloc (.cells #[.int .i64 1, .int .i64 p, .int .i64 nx, .int .i64 body, .int .i64 0, .int .i64 0] 37)) (w4.heap.size + 1) 6 (some ⟨w4.heap.size, 0, none⟩) 1 (evCells [sentEv p nx body])) := Lib.hid (ev_new w4 (sentEv p nx body) _))
        | (at_builtin; refine wpList_append_any _ rfl (.tmp 58) (.tmp 60) _ rfl w2.heap.size 37 j0 _ 6 48 Try.underlying57 hj0 zj0 zj1 zj2 rfl (by omega) _ n (evCells l) rfl (HO4.out.alloc _) (w4.heap.size + 1) (some ⟨w4.heap.size, 0, none⟩) 1 1 (evCells [sentEv p nx body]) rfl HN.out (evCells_one _) (by simp only [maxLen]; omega) (by omega) (by simp; omega) ?_; intro v1 w5 hown1 hg1 hat1; obtain ⟨A2, c2', rfl, _⟩ := own_form hown1; have E0 := (hB4.alloc _).grown hg1 (fun e => by have := HO4.out.own_lt _ e; omega); have E1 := ((hU4.blk D1 (by omega)).alloc _).grown hg1 (fun e => by have := HO4.out.own_lt _ e; omega); have E2 := ((hU4.blk D2 (by omega)).alloc _).grown hg1 (fun e => by have := HO4.out.own_lt _ e; omega); have EX := (DX4.alloc _).grown hg1 (fun e => by have := HO4.out.own_lt _ e; omega); have HB5 := Lib.hid (((hU4.next HB3.out (Nat.le_refl _)).alloc (by omega) _).grown hg1 (by simp; omega) (fun k hk => by have := HO4.out.own_lt k hk; omega)); clear c0 c1' c2 c3 c4 c5 c6 cf x0 x1 x2 x3 x4 x5 xf; obtain ⟨c0, c1', c2, c3, c4, c5, c6, cf⟩ := E0.cells7; obtain ⟨x0, x1, x2, x3, x4, x5, xf⟩ := EX.cells6; obtain ⟨r0, r1, r2, r3, r4, r5, r6, rf⟩ := E1.cells7; obtain ⟨s0, s1, s2, s3, s4, s5, sf⟩ := E2.cells6; have HO5 := Lib.hid hown1; clear hown1 hg1 hat1))
      have HNE : Hid (∀ k, (Value.slice A2 (n + 1) c2').ownBlock = some k → k ≠ w.heap.size) := Lib.hid (fun k hk => by have := HO5.out.own_lt k hk; omega)
      have E0 := ((E0.set_ 2 (.slice A2 (n + 1) c2')).set_ 1 (.int .i64 (nx + 1))).drew
      have U6 := upd_drew ((upd_cell w5 w.heap.size 2 (.slice A2 (n + 1) c2')).trans (upd_cell _ w.heap.size 1 (.int .i64 (nx + 1))))
      have E1 := U6.blk E1 (by omega)
      have E2 := U6.blk E2 (by omega)
      have EX := U6.blk EX (by omega)
      have HB6 := Lib.hid (U6.next HB5.out (by omega))
      have HO6 := U6.own HO5.out HNE.out
      rw [← evCells_append] at HO6
      have HO6 := Lib.hid HO6
      clear HB5 HO5 HNE U6 c0 c1' c2 c3 c4 c5 c6 cf x0 x1 x2 x3 x4 x5 xf
      refine wp_region_any (by kernel_rfl) ?_
      change wpAny _ _ _ _ _ _ _ (World.drew _)
      generalize World.drew _ = w6 at E0 E1 E2 EX HB6 HO6 ⊢
      obtain ⟨c0, c1', c2, c3, c4, c5, c6, cf⟩ := E0.cells7
      obtain ⟨x0, x1, x2, x3, x4, x5, xf⟩ := EX.cells6
      refine wpAny_ready (rs := [0, 1]) (by kernel_rfl) (by simp) ?_
      refine AllReady.cons rfl (fun K hK => ?_) (AllReady.cons rfl (fun K hK => ?_) AllReady.nil)
      · go_simp
        refine hK _ _ ?_
        clear hK K
        refine wpAny_ready (rs := [1, 2]) (by kernel_rfl) (by simp) ?_
        refine AllReady.cons rfl (fun K hK => ?_) (AllReady.cons rfl (fun K hK => ?_) AllReady.nil)
        · go_simp
          refine hK _ _ ?_
          clear hK K
          refine wpAny_ready (rs := [2]) (by kernel_rfl) (by simp) ?_
          refine AllReady.cons rfl (fun K hK => ?_) AllReady.nil
          refine step_store_row rfl _ (.tmp 4) (.tmp 67) rfl (w.heap.size + 1) rfl _ rfl _ _ E1 clt_info rfl rfl ?_
          intro w9 hB9 hU9
          refine hK _ _ ?_
          clear hK K x0 x1 x2 x3 x4 x5 xf
          have E2 := hU9.blk E2 (by omega)
          have EX := hU9.blk EX (by omega)
          obtain ⟨x0, x1, x2, x3, x4, x5, xf⟩ := EX.cells6
          refine wpAny_ready (rs := [3]) (by kernel_rfl) (by simp) ?_
          refine AllReady.cons rfl (fun K hK => ?_) AllReady.nil
          refine step_store_row rfl _ (.tmp 5) (.tmp 68) rfl (w.heap.size + 1 + 1) rfl _ rfl _ _ E2 ev_inf rfl rfl ?_
          intro w10 hB10 hU10
          refine hK _ _ ?_
          clear hK K
          refine wpAny_ready (rs := [4]) (by kernel_rfl) (by simp) ?_
          refine AllReady.cons rfl (fun K hK => ?_) AllReady.nil
          go_simp
          refine hK _ _ ?_
          clear hK K
          refine wpAny_done (by kernel_rfl) ?_ _
          have HB7 := Lib.hid (hU10.next (hU9.next HB6.out (by omega)) (by omega))
          have HO7 := Lib.hid (hU10.ownBelow (hU9.ownBelow HO6.out (by omega)) (by omega))
          obtain ⟨r0, r1, r2, r3, r4, r5, r6, rf⟩ := (hU10.blk hB9 (by omega)).cells7
          obtain ⟨s0, s1, s2, s3, s4, s5, sf⟩ := hB10.cells6
          go_wp2_with fail
          refine bodyPost_ret (v := .tuple #[.agg #[.int .i64 p, .int .i64 (nx + 1), .slice A2 (n + 1) c2', .int .i64 xa, .int .i64 xb, .int .i64 xc, .int .i64 xd], .agg #[.int .i64 1, .int .i64 p, .int .i64 nx, .int .i64 body, .int .i64 0, .int .i64 0], .int .i64 0]) (by simp [results, Try.results47, go_sem, r0, r1, r2, r3, r4, r5, r6, s0, s1, s2, s3, s4, s5]) rfl ?_
          exact ⟨A2, n + 1, c2', rfl, HB7.out, Rd.of_own (World.ownsRow.lower (base' := w.heap.size) HO7.out (by omega)), by simp only [maxLen]; omega⟩
        · refine step_store_row rfl _ (.tmp 4) (.tmp 67) rfl (w.heap.size + 1) rfl _ rfl _ _ E1 clt_info rfl rfl ?_
          intro w9 hB9 hU9
          refine hK _ _ ?_
          clear hK K x0 x1 x2 x3 x4 x5 xf
          have E2 := hU9.blk E2 (by omega)
          have EX := hU9.blk EX (by omega)
          obtain ⟨x0, x1, x2, x3, x4, x5, xf⟩ := EX.cells6
          refine wpAny_ready (rs := [1]) (by kernel_rfl) (by simp) ?_
          refine AllReady.cons rfl (fun K hK => ?_) AllReady.nil
          go_simp
          refine hK _ _ ?_
          clear hK K
          refine wpAny_ready (rs := [3]) (by kernel_rfl) (by simp) ?_
          refine AllReady.cons rfl (fun K hK => ?_) AllReady.nil
          refine step_store_row rfl _ (.tmp 5) (.tmp 68) rfl (w.heap.size + 1 + 1) rfl _ rfl _ _ E2 ev_inf rfl rfl ?_
          intro w10 hB10 hU10
          refine hK _ _ ?_
          clear hK K
          refine wpAny_ready (rs := [4]) (by kernel_rfl) (by simp) ?_
          refine AllReady.cons rfl (fun K hK => ?_) AllReady.nil
          go_simp
          refine hK _ _ ?_
          clear hK K
          refine wpAny_done (by kernel_rfl) ?_ _
          have HB7 := Lib.hid (hU10.next (hU9.next HB6.out (by omega)) (by omega))
          have HO7 := Lib.hid (hU10.ownBelow (hU9.ownBelow HO6.out (by omega)) (by omega))
          obtain ⟨r0, r1, r2, r3, r4, r5, r6, rf⟩ := (hU10.blk hB9 (by omega)).cells7
          obtain ⟨s0, s1, s2, s3, s4, s5, sf⟩ := hB10.cells6
          go_wp2_with fail
          refine bodyPost_ret (v := .tuple #[.agg #[.int .i64 p, .int .i64 (nx + 1), .slice A2 (n + 1) c2', .int .i64 xa, .int .i64 xb, .int .i64 xc, .int .i64 xd], .agg #[.int .i64 1, .int .i64 p, .int .i64 nx, .int .i64 body, .int .i64 0, .int .i64 0], .int .i64 0]) (by simp [results, Try.results47, go_sem, r0, r1, r2, r3, r4, r5, r6, s0, s1, s2, s3, s4, s5]) rfl ?_
          exact ⟨A2, n + 1, c2', rfl, HB7.out, Rd.of_own (World.ownsRow.lower (base' := w.heap.size) HO7.out (by omega)), by simp only [maxLen]; omega⟩
      · go_simp
        refine hK _ _ ?_
        clear hK K
        refine wpAny_ready (rs := [0]) (by kernel_rfl) (by simp) ?_
        refine AllReady.cons rfl (fun K hK => ?_) AllReady.nil
        go_simp
        refine hK _ _ ?_
        clear hK K
        refine wpAny_ready (rs := [2]) (by kernel_rfl) (by simp) ?_
        refine AllReady.cons rfl (fun K hK => ?_) AllReady.nil
        refine step_store_row rfl _ (.tmp 4) (.tmp 67) rfl (w.heap.size + 1) rfl _ rfl _ _ E1 clt_info rfl rfl ?_
        intro w9 hB9 hU9
        refine hK _ _ ?_
        clear hK K x0 x1 x2 x3 x4 x5 xf
        have E2 := hU9.blk E2 (by omega)
        have EX := hU9.blk EX (by omega)
        obtain ⟨x0, x1, x2, x3, x4, x5, xf⟩ := EX.cells6
        refine wpAny_ready (rs := [3]) (by kernel_rfl) (by simp) ?_
        refine AllReady.cons rfl (fun K hK => ?_) AllReady.nil
        refine step_store_row rfl _ (.tmp 5) (.tmp 68) rfl (w.heap.size + 1 + 1) rfl _ rfl _ _ E2 ev_inf rfl rfl ?_
        intro w10 hB10 hU10
        refine hK _ _ ?_
        clear hK K
        refine wpAny_ready (rs := [4]) (by kernel_rfl) (by simp) ?_
        refine AllReady.cons rfl (fun K hK => ?_) AllReady.nil
        go_simp
        refine hK _ _ ?_
        clear hK K
        refine wpAny_done (by kernel_rfl) ?_ _
        have HB7 := Lib.hid (hU10.next (hU9.next HB6.out (by omega)) (by omega))
        have HO7 := Lib.hid (hU10.ownBelow (hU9.ownBelow HO6.out (by omega)) (by omega))
        obtain ⟨r0, r1, r2, r3, r4, r5, r6, rf⟩ := (hU10.blk hB9 (by omega)).cells7
        obtain ⟨s0, s1, s2, s3, s4, s5, sf⟩ := hB10.cells6
        go_wp2_with fail
        refine bodyPost_ret (v := .tuple #[.agg #[.int .i64 p, .int .i64 (nx + 1), .slice A2 (n + 1) c2', .int .i64 xa, .int .i64 xb, .int .i64 xc, .int .i64 xd], .agg #[.int .i64 1, .int .i64 p, .int .i64 nx, .int .i64 body, .int .i64 0, .int .i64 0], .int .i64 0]) (by simp [results, Try.results47, go_sem, r0, r1, r2, r3, r4, r5, r6, s0, s1, s2, s3, s4, s5]) rfl ?_
        exact ⟨A2, n + 1, c2', rfl, HB7.out, Rd.of_own (World.ownsRow.lower (base' := w.heap.size) HO7.out (by omega)), by simp only [maxLen]; omega⟩
  · have e := HR.out.trans (if_pos hz)
    subst e
    have t0 : (z == 0) = false := by simpa using hz
    have t0' : (z != 0) = true := by simpa using hz
    clear hz
    go_wp2_with (first | (refine wpList_store_row rfl _ (.tmp 4) (.tmp 14) rfl (w.heap.size + 1) rfl _ rfl _ _ B1 clt_info rfl rfl ?_; intro w9 hB9 hU9; have B2 := hU9.blk B2 (by omega)) | (refine wpList_store_row rfl _ (.tmp 5) (.tmp 15) rfl (w.heap.size + 1 + 1) rfl _ rfl _ _ B2 ev_inf rfl rfl ?_; intro w8 hB8 hU8) | (go_at_call 107; refine (In_calls _ _ _ _).mono ?_; rintro e w' ⟨rfl, rfl⟩))
    have HU : Hid (Below w.heap.size w w8) := Lib.hid (hU8.next (hU9.next HB.out (by omega)) (by omega))
    obtain ⟨r0, r1, r2, r3, r4, r5, r6, rf⟩ := (hU8.blk hB9 (by omega)).cells7
    obtain ⟨s0, s1, s2, s3, s4, s5, sf⟩ := hB8.cells6
    go_wp2_with fail
    refine bodyPost_ret (v := .tuple #[.agg #[.int .i64 0, .int .i64 0, .slice none 0 0, .int .i64 0, .int .i64 0, .int .i64 0, .int .i64 0], .agg #[.int .i64 0, .int .i64 0, .int .i64 0, .int .i64 0, .int .i64 0, .int .i64 0], .int .i64 z]) (by simp [results, Try.results47, go_sem, r0, r1, r2, r3, r4, r5, r6, s0, s1, s2, s3, s4, s5]) rfl ?_
    exact ⟨none, 0, 0, rfl, HU.out, Rd.none_, by simp⟩
end Go.Proofs.Ytkjlafpafmihaaa
