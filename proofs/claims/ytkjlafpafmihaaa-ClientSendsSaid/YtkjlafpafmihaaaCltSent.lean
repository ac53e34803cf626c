/- Contract: ref.ClientSent. -/
import Derived.Test.YtkjlafpafmihaaaCltSend
namespace Go.Proofs.Ytkjlafpafmihaaa
open Go.ChangeShapes Go.WideShapes Go.RowKit


set_option maxRecDepth 100000 in
set_option maxHeartbeats 4000000 in
theorem ClientSent_calls (p nx : Int) (A : Option Addr) (n c : Nat) (l : List Ev) (x : Four4) (body : Int) (w : World) (h : Rd w w.heap.size 6 A n (evCells l)) (hm : n ≤ maxLen) (hc : n * 48 ≤ reachBytes) :
    Calls Try.prog 48 #[.agg #[.int .i64 p, .int .i64 nx, .slice A n c, .int .i64 x.a, .int .i64 x.b, .int .i64 x.c, .int .i64 x.d], .int .i64 body] w (SendPost w (sendC p nx l x body)) := by
  have hc' : n * 48 ≤ 140737488351232 := hc
  obtain ⟨j0, hj0, zj0, zj1, zj2⟩ := info_parts ev_info
  have HC := Lib.hid (fun w h => ClientFault_calls p nx A n c l x w h hm)
  have HO0 := Lib.hid (fun w h => ClientCopy_calls p nx A n c l x w h hc)
  have H := Lib.hid h
  have hm := Lib.hid hm
  have HL := Lib.hid h.ev_len
  open Classical in
  have HR : Hid (sendC p nx l x body = if cltFault p nx l x ≠ 0 then (zeroClt, noEv, cltFault p nx l x) else if body < 0 ∨ 1000000 < body then (zeroClt, noEv, 2) else if fullP nx l then (zeroClt, noEv, 14) else (⟨p, nx + 1, l ++ [sentEv p nx body], x⟩, sentEv p nx body, 0)) := Lib.hid rfl
  have HZ : Hid (cltFault p nx l x = 0 → (0 ≤ p ∧ p ≤ 3 ∧ 0 ≤ nx ∧ nx ≤ 1073741824) ∧ waitsOk p nx l) := Lib.hid (fun h => ⟨(cltFault_zero h).1, (cltFault_zero h).2.1⟩)
  clear h hc
  generalize sendC p nx l x body = r at HR ⊢
  generalize cltFault p nx l x = z at HC HR HZ
  obtain ⟨xa, xb, xc, xd⟩ := x
  simp only at HC HO0 ⊢
  go_enter Try.func48, Try.ntmps48
  go_wp2_with fail
  refine (HC.out _ (by exact H.out.on (by go_grown))).mono ?_
  rintro e w1 ⟨rfl, hb1⟩
  have B0 := (((Blk.new w _ _).alloc _).alloc _).below hb1 (by simp; omega)
  have B1 := ((Blk.new1 w _ _ _).alloc _).below hb1 (by simp <;> omega)
  have B2 := (Blk.new2 w _ _ _ _).below hb1 (by simp)
  obtain ⟨c0, c1', c2, c3, c4, c5, c6, cf⟩ := B0.cells7
  have hz1 : w.heap.size + 2 < w1.heap.size := B2.lt
  have HB : Hid (Below w.heap.size w w1) := Lib.hid (Below.trans (by go_grown) (hb1.mono (by simp; omega)))
  have H1 := Lib.hid (H.out.on HB.out)
  clear hb1
  by_cases hz : z = 0
  · have HR2 := Lib.hid (HR.out.trans (if_neg (by simpa using hz)))
    obtain ⟨⟨p0, p3, n0, n3⟩, hw⟩ := HZ.out hz
    have HW := Lib.hid hw
    subst hz
    clear HR HZ hw
    cases i1 : inR body 0 1000000
    · have := inR_false.1 i1
      have e := HR2.out.trans (if_pos (by omega))
      subst e
      go_wp2_with (first | (refine wpList_store_row rfl _ (.tmp 4) (.tmp 21) rfl (w.heap.size + 1) rfl _ rfl _ _ B1 clt_info rfl rfl ?_; intro w9 hB9 hU9; have B2 := hU9.blk B2 (by omega)) | (refine wpList_store_row rfl _ (.tmp 5) (.tmp 22) rfl (w.heap.size + 1 + 1) rfl _ rfl _ _ B2 ev_inf rfl rfl ?_; intro w8 hB8 hU8) | (go_at_call 107; refine (In_calls _ _ _ _).mono ?_; rintro e w' ⟨rfl, rfl⟩))
      have HU : Hid (Below w.heap.size w w8) := Lib.hid (hU8.next (hU9.next HB.out (by omega)) (by omega))
      obtain ⟨r0, r1, r2, r3, r4, r5, r6, rf⟩ := (hU8.blk hB9 (by omega)).cells7
      obtain ⟨s0, s1, s2, s3, s4, s5, sf⟩ := hB8.cells6
      go_wp2_with fail
      refine bodyPost_ret (v := .tuple #[.agg #[.int .i64 0, .int .i64 0, .slice none 0 0, .int .i64 0, .int .i64 0, .int .i64 0, .int .i64 0], .agg #[.int .i64 0, .int .i64 0, .int .i64 0, .int .i64 0, .int .i64 0, .int .i64 0], .int .i64 2]) (by simp [results, Try.results48, go_sem, r0, r1, r2, r3, r4, r5, r6, s0, s1, s2, s3, s4, s5]) rfl ?_
      exact ⟨none, 0, 0, rfl, HU.out, Rd.none_, by simp⟩
    have j1 := inR_true.1 i1
    have HR3 := Lib.hid (HR2.out.trans (if_neg (by omega)))
    clear HR2
    go_wp2_with (go_at_call 107; refine (In_calls _ _ _ _).mono ?_; rintro e w' ⟨rfl, rfl⟩)
    go_loopw [8] (fun i wr => ∃ k : Nat, k ≤ n ∧ i = .int .i64 k ∧ (∀ (j : Nat) (e : Ev), j < k → l[j]? = some e → nx < e.id + 8) ∧ ∃ q, wr = w1.drewN q) (fun i _ => n - (intOf i).toNat)
    case atStart => exact ⟨0, Nat.zero_le _, rfl, fun j _ hj => absurd hj (by omega), 0, rfl⟩
    case round =>
      obtain ⟨k, hk, rfl, hall, q, rfl⟩ := hrel
      have HA := Lib.hid hall
      clear hall c0 c1' c2 c3 c4 c5 c6 cf
      have B0 := B0.drewN q
      have B1 := B1.drewN q
      have B2 := B2.drewN q
      have HB := Lib.hid (bdrewN HB.out q)
      have H1 : Hid (Rd (w1.drewN q) (w1.drewN q).heap.size 6 A n (evCells l)) := Lib.hid H1.out
      have hz1 : w.heap.size + 2 < (w1.drewN q).heap.size := hz1
      have HQ : Hid (∀ q', ∃ q'', (w1.drewN q).drewN q' = w1.drewN q'') := Lib.hid (fun q' => ⟨q + q', drewN_add w1 q q'⟩)
      generalize w1.drewN q = wd at B0 B1 B2 HB H1 hz1 HQ ⊢
      obtain ⟨c0, c1', c2, c3, c4, c5, c6, cf⟩ := B0.cells7
      by_cases hlt : k < n
      · obtain ⟨b, off, ev, rfl, hb, he, d0, d1, d2, d3, d4, d5⟩ := H1.out.ev_at hlt
        obtain ⟨g0, g1⟩ := waits_id HW.out he
        have HE := Lib.hid he
        clear he
        by_cases hf : ev.id + 8 ≤ nx
        · have e := HR3.out.trans (if_pos (.inr ⟨k, ev, HE.out, hf⟩))
          subst e
          go_wp2_with (go_at_call 107; refine (In_calls _ _ _ _).mono ?_; rintro e w' ⟨rfl, rfl⟩)
          go_quiet (fail)
          have B1 := B1.drewN nq
          have B2 := B2.drewN nq
          have HB := Lib.hid (bdrewN HB.out nq)
          go_wp2_with (first | (refine wpList_store_row rfl _ (.tmp 4) (.tmp 40) rfl (w.heap.size + 1) rfl _ rfl _ _ B1 clt_info rfl rfl ?_; intro w9 hB9 hU9; have B2 := hU9.blk B2 (by omega)) | (refine wpList_store_row rfl _ (.tmp 5) (.tmp 41) rfl (w.heap.size + 1 + 1) rfl _ rfl _ _ B2 ev_inf rfl rfl ?_; intro w8 hB8 hU8) | (go_at_call 107; refine (In_calls _ _ _ _).mono ?_; rintro e w' ⟨rfl, rfl⟩))
          have HU : Hid (Below w.heap.size w w8) := Lib.hid (hU8.next (hU9.next HB.out (by omega)) (by omega))
          obtain ⟨r0, r1, r2, r3, r4, r5, r6, rf⟩ := (hU8.blk hB9 (by omega)).cells7
          obtain ⟨s0, s1, s2, s3, s4, s5, sf⟩ := hB8.cells6
          go_wp2_with fail
          refine bodyPost_ret (v := .tuple #[.agg #[.int .i64 0, .int .i64 0, .slice none 0 0, .int .i64 0, .int .i64 0, .int .i64 0, .int .i64 0], .agg #[.int .i64 0, .int .i64 0, .int .i64 0, .int .i64 0, .int .i64 0, .int .i64 0], .int .i64 14]) (by simp [results, Try.results48, go_sem, r0, r1, r2, r3, r4, r5, r6, s0, s1, s2, s3, s4, s5]) rfl ?_
          exact ⟨none, 0, 0, rfl, HU.out, Rd.none_, by simp⟩
        · have HG : Hid (∀ (j : Nat) (e : Ev), j < k + 1 → l[j]? = some e → nx < e.id + 8) := Lib.hid (fun j e hj he => by
            by_cases e1 : j = k
            · subst e1
              rw [HE.out] at he
              cases he
              omega
            · exact HA.out j e (by omega) he)
          go_wp2_with (go_at_call 107; refine (In_calls _ _ _ _).mono ?_; rintro e w' ⟨rfl, rfl⟩)
          go_quiet (fail)
          obtain ⟨q2, hq2⟩ := HQ.out nq
          rw [hq2]
          clear hq2
          go_wp2_with (go_at_call 107; refine (In_calls _ _ _ _).mono ?_; rintro e w' ⟨rfl, rfl⟩)
          go_roundw
          case rel => exact ⟨k + 1, by omega, by go_num, HG.out, q2, rfl⟩
          case measure => simp [intOf]; omega
      · obtain rfl : k = n := by omega
        have HNF : Hid (nx ≠ 1073741824 → ¬ fullP nx l) := Lib.hid (fun h1 h2 => by
          rcases h2 with h2 | ⟨j, e, he, h2⟩
          · exact h1 h2
          · have := HA.out j e (by have := (List.getElem?_eq_some_iff.1 he).1; have := HL.out; omega) he
            omega)
        clear HA HQ
        by_cases hx : nx = 1073741824
        · have e := HR3.out.trans (if_pos (.inl hx))
          subst e
          have t1 : (nx == 1073741824) = true := by simpa using hx
          clear hx HNF
          go_wp2_with (first | (refine wpList_store_row rfl _ (.tmp 4) (.tmp 45) rfl (w.heap.size + 1) rfl _ rfl _ _ B1 clt_info rfl rfl ?_; intro w9 hB9 hU9; have B2 := hU9.blk B2 (by omega)) | (refine wpList_store_row rfl _ (.tmp 5) (.tmp 46) rfl (w.heap.size + 1 + 1) rfl _ rfl _ _ B2 ev_inf rfl rfl ?_; intro w8 hB8 hU8) | (go_at_call 107; refine (In_calls _ _ _ _).mono ?_; rintro e w' ⟨rfl, rfl⟩))
          have HU : Hid (Below w.heap.size w w8) := Lib.hid (hU8.next (hU9.next HB.out (by omega)) (by omega))
          obtain ⟨r0, r1, r2, r3, r4, r5, r6, rf⟩ := (hU8.blk hB9 (by omega)).cells7
          obtain ⟨s0, s1, s2, s3, s4, s5, sf⟩ := hB8.cells6
          go_wp2_with fail
          refine bodyPost_ret (v := .tuple #[.agg #[.int .i64 0, .int .i64 0, .slice none 0 0, .int .i64 0, .int .i64 0, .int .i64 0, .int .i64 0], .agg #[.int .i64 0, .int .i64 0, .int .i64 0, .int .i64 0, .int .i64 0, .int .i64 0], .int .i64 14]) (by simp [results, Try.results48, go_sem, r0, r1, r2, r3, r4, r5, r6, s0, s1, s2, s3, s4, s5]) rfl ?_
          exact ⟨none, 0, 0, rfl, HU.out, Rd.none_, by simp⟩
        have hx2 : (nx == 1073741824) = false := by simpa using hx
        have e := HR3.out.trans (if_neg (HNF.out hx))
        subst e
        clear hx HNF HR3
        have hz0 : w.heap.size < wd.heap.size := by omega
        go_wp2_with fail
        refine (HO0.out _ (by exact H1.out.on (by go_grown))).mono ?_
        rintro e w3 ⟨A1, c1, rfl, hb3, hown⟩
        have D0 := (B0.alloc _).on hb3
        have D1 := (B1.alloc _).on hb3
        have D2 := (B2.alloc _).on hb3
        have DX := (Blk.new wd _ _).on hb3
        have HB3 := Lib.hid ((HB.out.alloc (by omega) _).trans (hb3.mono (by simp; omega)))
        have HO : Hid (w3.ownsRow (wd.heap.size + 1) 37 6 (.slice A1 k c1) k (evCells l)) := Lib.hid (by simpa using hown)
        have hz3 : wd.heap.size < w3.heap.size := by have := hb3.size; simp at this; omega
        have hz4 : w.heap.size < w3.heap.size := by omega
        clear hb3 hown c0 c1' c2 c3 c4 c5 c6 cf B0 B1 B2 HB H1
        obtain ⟨x0, x1, x2, x3, x4, x5, xf⟩ := DX.cells6
        obtain ⟨c0, c1', c2, c3, c4, c5, c6, cf⟩ := D0.cells7
        have HN : Hid (Rd ((w3.alloc (.cells #[.int .i64 p, .int .i64 nx, .slice A1 k c1, .int .i64 xa, .int .i64 xb, .int .i64 xc, .int .i64 xd] 60)).alloc (.cells #[.int .i64 1, .int .i64 p, .int .i64 nx, .int .i64 body, .int .i64 0, .int .i64 0] 37)) (w3.heap.size + 1 + 1) 6 (some ⟨w3.heap.size + 1, 0, none⟩) 1 (evCells [sentEv p nx body])) := Lib.hid (by have := ev_new (w3.alloc (.cells #[.int .i64 p, .int .i64 nx, .slice A1 k c1, .int .i64 xa, .int .i64 xb, .int .i64 xc, .int .i64 xd] 60)) (sentEv p nx body) 37; simpa [sentEv] using this)
        go_wp2_with (at_builtin; refine stop_ ?_)
        refine Lib.hid ?_
        refine wpList_append_any _ rfl (.tmp 56) (.tmp 58) _ rfl (wd.heap.size + 1) 37 j0 _ 6 48 Try.underlying57 hj0 zj0 zj1 zj2 rfl (by omega) _ k (evCells l) rfl ((HO.out.alloc _).alloc _) (w3.heap.size + 1 + 1) (some ⟨w3.heap.size + 1, 0, none⟩) 1 1 (evCells [sentEv p nx body]) rfl HN.out (evCells_one _) (by simp only [maxLen]; omega) (by omega) (by simp; omega) ?_
        intro v1 w5 hown1 hg1 hat1
        obtain ⟨A2, c2', rfl, _⟩ := own_form hown1
        have hne : ∀ k', (Value.slice A1 k c1).ownBlock = some k' → wd.heap.size < k' ∧ k' < w3.heap.size := fun k' hk' => ⟨by have := HO.out.own_lt k' hk'; omega, own_size HO.out k' hk'⟩
        have E0 := ((Blk.new w3 _ _).alloc _).grown hg1 (fun e => by have := hne _ e; omega)
        have E1 := ((D1.alloc _).alloc _).grown hg1 (fun e => by have := hne _ e; omega)
        have E2 := ((D2.alloc _).alloc _).grown hg1 (fun e => by have := hne _ e; omega)
        have EX := ((DX.alloc _).alloc _).grown hg1 (fun e => by have := hne _ e; omega)
        have EW := ((D0.alloc _).alloc _).grown hg1 (fun e => by have := hne _ e; omega)
        have HNE : Hid (∀ k', (Value.slice A2 (k + 1) c2').ownBlock = some k' → k' ≠ w3.heap.size) := Lib.hid (fun k' hk' => by
          rcases hat1 with h1 | h1
          · have := hne k' (h1.symm.trans hk'); omega
          · rw [h1] at hk'
            simp at hk'
            omega)
        have HB5 := Lib.hid (((HB3.out.alloc (by omega) _).alloc (by simp; omega) _).grown hg1 (by simp; omega) (fun k' hk' => by have := hne k' hk'; omega))
        have HO5 := Lib.hid hown1
        clear hown1 hg1 hat1 hne HO HN D0 D1 D2 DX c0 c1' c2 c3 c4 c5 c6 cf x0 x1 x2 x3 x4 x5 xf
        obtain ⟨c0, c1', c2, c3, c4, c5, c6, cf⟩ := E0.cells7
        obtain ⟨x0, x1, x2, x3, x4, x5, xf⟩ := EX.cells6
        have y1 : w5.cell? ⟨w.heap.size, 1, none⟩ = some (.int .i64 nx) := EW.cell rfl
        clear EW
        go_wp2_with fail
        clear y1
        have E0 := ((E0.set_ 2 (.slice A2 (k + 1) c2')).set_ 1 (.int .i64 (nx + 1))).drew
        have U6 := upd_drew ((upd_cell w5 w3.heap.size 2 (.slice A2 (k + 1) c2')).trans (upd_cell _ w3.heap.size 1 (.int .i64 (nx + 1))))
        have E1 := U6.blk E1 (by omega)
        have E2 := U6.blk E2 (by omega)
        have EX := U6.blk EX (by omega)
        have HB6 := Lib.hid (U6.next HB5.out (by omega))
        have HO6 := U6.own HO5.out HNE.out
        rw [← evCells_append] at HO6
        have HO6 := Lib.hid HO6
        clear HB5 HO5 HNE U6 c0 c1' c2 c3 c4 c5 c6 cf x0 x1 x2 x3 x4 x5 xf
        refine wp_region_any (by kernel_rfl) ?_
        change wpAny _ _ _ _ _ _ _ (World.drew _)
        generalize World.drew _ = w6 at E0 E1 E2 EX HB6 HO6 ⊢
        obtain ⟨c0, c1', c2, c3, c4, c5, c6, cf⟩ := E0.cells7
        obtain ⟨x0, x1, x2, x3, x4, x5, xf⟩ := EX.cells6
        refine wpAny_ready (rs := [0, 1]) (by kernel_rfl) (by simp) ?_
        refine AllReady.cons rfl (fun K hK => ?_) (AllReady.cons rfl (fun K hK => ?_) AllReady.nil)
        · go_simp
          refine hK _ _ ?_
          clear hK K
          refine wpAny_ready (rs := [1, 2]) (by kernel_rfl) (by simp) ?_
          refine AllReady.cons rfl (fun K hK => ?_) (AllReady.cons rfl (fun K hK => ?_) AllReady.nil)
          · go_simp
            refine hK _ _ ?_
            clear hK K
            refine wpAny_ready (rs := [2]) (by kernel_rfl) (by simp) ?_
            refine AllReady.cons rfl (fun K hK => ?_) AllReady.nil
            refine step_store_row rfl _ (.tmp 4) (.tmp 65) rfl (w.heap.size + 1) rfl _ rfl _ _ E1 clt_info rfl rfl ?_
            intro w9 hB9 hU9
            refine hK _ _ ?_
            clear hK K x0 x1 x2 x3 x4 x5 xf
            have E2 := hU9.blk E2 (by omega)
            have EX := hU9.blk EX (by omega)
            obtain ⟨x0, x1, x2, x3, x4, x5, xf⟩ := EX.cells6
            refine wpAny_ready (rs := [3]) (by kernel_rfl) (by simp) ?_
            refine AllReady.cons rfl (fun K hK => ?_) AllReady.nil
            refine step_store_row rfl _ (.tmp 5) (.tmp 66) rfl (w.heap.size + 1 + 1) rfl _ rfl _ _ E2 ev_inf rfl rfl ?_
            intro w10 hB10 hU10
            refine hK _ _ ?_
            clear hK K
            refine wpAny_ready (rs := [4]) (by kernel_rfl) (by simp) ?_
            refine AllReady.cons rfl (fun K hK => ?_) AllReady.nil
            go_simp
            refine hK _ _ ?_
            clear hK K
            refine wpAny_done (by kernel_rfl) ?_ _
            have HB7 := Lib.hid (hU10.next (hU9.next HB6.out (by omega)) (by omega))
            have HO7 := Lib.hid (hU10.ownBelow (hU9.ownBelow HO6.out (by omega)) (by omega))
            obtain ⟨r0, r1, r2, r3, r4, r5, r6, rf⟩ := (hU10.blk hB9 (by omega)).cells7
            obtain ⟨s0, s1, s2, s3, s4, s5, sf⟩ := hB10.cells6
            go_wp2_with fail
            refine bodyPost_ret (v := .tuple #[.agg #[.int .i64 p, .int .i64 (nx + 1), .slice A2 (k + 1) c2', .int .i64 xa, .int .i64 xb, .int .i64 xc, .int .i64 xd], .agg #[.int .i64 1, .int .i64 p, .int .i64 nx, .int .i64 body, .int .i64 0, .int .i64 0], .int .i64 0]) (by simp [results, Try.results48, go_sem, r0, r1, r2, r3, r4, r5, r6, s0, s1, s2, s3, s4, s5]) rfl ?_
            exact ⟨A2, k + 1, c2', rfl, HB7.out, Rd.of_own (World.ownsRow.lower (base' := w.heap.size) HO7.out (by omega)), by simp only [maxLen]; omega⟩
          · refine step_store_row rfl _ (.tmp 4) (.tmp 65) rfl (w.heap.size + 1) rfl _ rfl _ _ E1 clt_info rfl rfl ?_
            intro w9 hB9 hU9
            refine hK _ _ ?_
            clear hK K x0 x1 x2 x3 x4 x5 xf
            have E2 := hU9.blk E2 (by omega)
            have EX := hU9.blk EX (by omega)
            obtain ⟨x0, x1, x2, x3, x4, x5, xf⟩ := EX.cells6
            refine wpAny_ready (rs := [1]) (by kernel_rfl) (by simp) ?_
            refine AllReady.cons rfl (fun K hK => ?_) AllReady.nil
            go_simp
            refine hK _ _ ?_
            clear hK K
            refine wpAny_ready (rs := [3]) (by kernel_rfl) (by simp) ?_
            refine AllReady.cons rfl (fun K hK => ?_) AllReady.nil
            refine step_store_row rfl _ (.tmp 5) (.tmp 66) rfl (w.heap.size + 1 + 1) rfl _ rfl _ _ E2 ev_inf rfl rfl ?_
            intro w10 hB10 hU10
            refine hK _ _ ?_
            clear hK K
            refine wpAny_ready (rs := [4]) (by kernel_rfl) (by simp) ?_
            refine AllReady.cons rfl (fun K hK => ?_) AllReady.nil
            go_simp
            refine hK _ _ ?_
            clear hK K
            refine wpAny_done (by kernel_rfl) ?_ _
            have HB7 := Lib.hid (hU10.next (hU9.next HB6.out (by omega)) (by omega))
            have HO7 := Lib.hid (hU10.ownBelow (hU9.ownBelow HO6.out (by omega)) (by omega))
            obtain ⟨r0, r1, r2, r3, r4, r5, r6, rf⟩ := (hU10.blk hB9 (by omega)).cells7
            obtain ⟨s0, s1, s2, s3, s4, s5, sf⟩ := hB10.cells6
            go_wp2_with fail
            refine bodyPost_ret (v := .tuple #[.agg #[.int .i64 p, .int .i64 (nx + 1), .slice A2 (k + 1) c2', .int .i64 xa, .int .i64 xb, .int .i64 xc, .int .i64 xd], .agg #[.int .i64 1, .int .i64 p, .int .i64 nx, .int .i64 body, .int .i64 0, .int .i64 0], .int .i64 0]) (by simp [results, Try.results48, go_sem, r0, r1, r2, r3, r4, r5, r6, s0, s1, s2, s3, s4, s5]) rfl ?_
            exact ⟨A2, k + 1, c2', rfl, HB7.out, Rd.of_own (World.ownsRow.lower (base' := w.heap.size) HO7.out (by omega)), by simp only [maxLen]; omega⟩
        · go_simp
          refine hK _ _ ?_
          clear hK K
          refine wpAny_ready (rs := [0]) (by kernel_rfl) (by simp) ?_
          refine AllReady.cons rfl (fun K hK => ?_) AllReady.nil
          go_simp
          refine hK _ _ ?_
          clear hK K
          refine wpAny_ready (rs := [2]) (by kernel_rfl) (by simp) ?_
          refine AllReady.cons rfl (fun K hK => ?_) AllReady.nil
          refine step_store_row rfl _ (.tmp 4) (.tmp 65) rfl (w.heap.size + 1) rfl _ rfl _ _ E1 clt_info rfl rfl ?_
          intro w9 hB9 hU9
          refine hK _ _ ?_
          clear hK K x0 x1 x2 x3 x4 x5 xf
          have E2 := hU9.blk E2 (by omega)
          have EX := hU9.blk EX (by omega)
          obtain ⟨x0, x1, x2, x3, x4, x5, xf⟩ := EX.cells6
          refine wpAny_ready (rs := [3]) (by kernel_rfl) (by simp) ?_
          refine AllReady.cons rfl (fun K hK => ?_) AllReady.nil
          refine step_store_row rfl _ (.tmp 5) (.tmp 66) rfl (w.heap.size + 1 + 1) rfl _ rfl _ _ E2 ev_inf rfl rfl ?_
          intro w10 hB10 hU10
          refine hK _ _ ?_
          clear hK K
          refine wpAny_ready (rs := [4]) (by kernel_rfl) (by simp) ?_
          refine AllReady.cons rfl (fun K hK => ?_) AllReady.nil
          go_simp
          refine hK _ _ ?_
          clear hK K
          refine wpAny_done (by kernel_rfl) ?_ _
          have HB7 := Lib.hid (hU10.next (hU9.next HB6.out (by omega)) (by omega))
          have HO7 := Lib.hid (hU10.ownBelow (hU9.ownBelow HO6.out (by omega)) (by omega))
          obtain ⟨r0, r1, r2, r3, r4, r5, r6, rf⟩ := (hU10.blk hB9 (by omega)).cells7
          obtain ⟨s0, s1, s2, s3, s4, s5, sf⟩ := hB10.cells6
          go_wp2_with fail
          refine bodyPost_ret (v := .tuple #[.agg #[.int .i64 p, .int .i64 (nx + 1), .slice A2 (k + 1) c2', .int .i64 xa, .int .i64 xb, .int .i64 xc, .int .i64 xd], .agg #[.int .i64 1, .int .i64 p, .int .i64 nx, .int .i64 body, .int .i64 0, .int .i64 0], .int .i64 0]) (by simp [results, Try.results48, go_sem, r0, r1, r2, r3, r4, r5, r6, s0, s1, s2, s3, s4, s5]) rfl ?_
          exact ⟨A2, k + 1, c2', rfl, HB7.out, Rd.of_own (World.ownsRow.lower (base' := w.heap.size) HO7.out (by omega)), by simp only [maxLen]; omega⟩
  · have e := HR.out.trans (if_pos hz)
    subst e
    have t0 : (z == 0) = false := by simpa using hz
    have t0' : (z != 0) = true := by simpa using hz
    clear hz
    go_wp2_with (first | (refine wpList_store_row rfl _ (.tmp 4) (.tmp 15) rfl (w.heap.size + 1) rfl _ rfl _ _ B1 clt_info rfl rfl ?_; intro w9 hB9 hU9; have B2 := hU9.blk B2 (by omega)) | (refine wpList_store_row rfl _ (.tmp 5) (.tmp 16) rfl (w.heap.size + 1 + 1) rfl _ rfl _ _ B2 ev_inf rfl rfl ?_; intro w8 hB8 hU8) | (go_at_call 107; refine (In_calls _ _ _ _).mono ?_; rintro e w' ⟨rfl, rfl⟩))
    have HU : Hid (Below w.heap.size w w8) := Lib.hid (hU8.next (hU9.next HB.out (by omega)) (by omega))
    obtain ⟨r0, r1, r2, r3, r4, r5, r6, rf⟩ := (hU8.blk hB9 (by omega)).cells7
    obtain ⟨s0, s1, s2, s3, s4, s5, sf⟩ := hB8.cells6
    go_wp2_with fail
    refine bodyPost_ret (v := .tuple #[.agg #[.int .i64 0, .int .i64 0, .slice none 0 0, .int .i64 0, .int .i64 0, .int .i64 0, .int .i64 0], .agg #[.int .i64 0, .int .i64 0, .int .i64 0, .int .i64 0, .int .i64 0, .int .i64 0], .int .i64 z]) (by simp [results, Try.results48, go_sem, r0, r1, r2, r3, r4, r5, r6, s0, s1, s2, s3, s4, s5]) rfl ?_
    exact ⟨none, 0, 0, rfl, HU.out, Rd.none_, by simp⟩
end Go.Proofs.Ytkjlafpafmihaaa
