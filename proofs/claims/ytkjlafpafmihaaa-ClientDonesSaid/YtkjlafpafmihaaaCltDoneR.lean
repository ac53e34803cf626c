/- Contract: ref.ClientDone. -/
import Derived.Test.YtkjlafpafmihaaaCltDone
import Derived.Deep.RegionLaw
namespace Go.Proofs.Ytkjlafpafmihaaa
open Go.ChangeShapes Go.WideShapes Go.RowKit

/-- The events of another id. -/
def notId (id : Int) (l : List Ev) : List Ev := l.filter fun e => decide (e.id ≠ id)
theorem notId_snoc (id : Int) (l : List Ev) (e : Ev) : notId id (l ++ [e]) = if e.id = id then notId id l else notId id l ++ [e] := by
  unfold notId
  rw [List.filter_append]
  by_cases h : e.id = id
  · rw [if_pos h, List.filter_cons_of_neg (by simp [h])]
    simp
  · rw [if_neg h, List.filter_cons_of_pos (by simp [h])]
    simp
theorem notId_le (id : Int) (l : List Ev) : (notId id l).length ≤ l.length := List.length_filter_le _ _
theorem notId_all (id : Int) (l : List Ev) : (notId id l).length = l.length ↔ ¬ ∃ (k : Nat) (e : Ev), l[k]? = some e ∧ e.id = id := by
  unfold notId
  rw [List.length_filter_eq_length_iff]
  constructor
  · rintro h ⟨k, e, he, hi⟩
    have := h e (List.mem_of_getElem? he)
    simp [hi] at this
  · intro h a ha
    obtain ⟨k, hk, rfl⟩ := List.getElem_of_mem ha
    simp
    intro hi
    exact h ⟨k, _, List.getElem?_eq_getElem hk, hi⟩

/-- The loop's memory: the client given, the result's cell, the client that is gathered. -/
structure DW (w : World) (OB : Nat) (rowC : Array Value) (p nx : Int) (xa xb xc xd : Int) (l : List Ev) (A : Option Addr) (c : Nat) (wr : World) : Prop where
  below : Below w.heap.size w wr
  arg : Blk wr w.heap.size rowC 60
  res : Blk wr (w.heap.size + 1) #[.int .i64 0, .int .i64 0, .slice none 0 0, .int .i64 0, .int .i64 0, .int .i64 0, .int .i64 0] 60
  out : Blk wr OB #[.int .i64 p, .int .i64 nx, .slice A l.length c, .int .i64 xa, .int .i64 xb, .int .i64 xc, .int .i64 xd] 60
  own : wr.ownsRow (OB + 1) 37 6 (.slice A l.length c) l.length (evCells l)
theorem DW.drewN {w : World} {OB : Nat} {rowC : Array Value} {p nx xa xb xc xd : Int} {l : List Ev} {A : Option Addr} {c : Nat} {wr : World} (h : DW w OB rowC p nx xa xb xc xd l A c wr) (q : Nat) : DW w OB rowC p nx xa xb xc xd l A c (wr.drewN q) :=
  ⟨bdrewN h.below q, h.arg.drewN q, h.res.drewN q, h.out.drewN q, h.own⟩
theorem DW.step {w : World} {OB : Nat} {rowC : Array Value} {p nx xa xb xc xd : Int} {l : List Ev} {A : Option Addr} {c : Nat} {wr : World} (h : DW w OB rowC p nx xa xb xc xd l A c wr) (hO : w.heap.size + 1 < OB) (e : Ev) (o : Obj) {A2 : Option Addr} {c2 : Nat} {w5 : World}
    (hown : w5.ownsRow (OB + 1) 37 6 (.slice A2 (l.length + 1) c2) (l.length + 1) (evCells l ++ evCells [e])) (hg : ((wr.drew).alloc o).grownBy w5 (Value.slice A l.length c).ownBlock) :
    DW w OB rowC p nx xa xb xc xd (l ++ [e]) A2 c2 (w5.setCell ⟨OB, 2, none⟩ (.slice A2 (l.length + 1) c2)) := by
  have hlt : ∀ k, (Value.slice A l.length c).ownBlock = some k → OB < k := fun k hk => by have := h.own.own_lt k hk; omega
  have U := upd_cell w5 OB 2 (.slice A2 (l.length + 1) c2)
  have hs : w.heap.size ≤ wr.heap.size := h.below.size
  have e1 := ((h.arg.drew.alloc o).grown hg (fun e => by have := hlt _ e; omega))
  have e2 := ((h.res.drew.alloc o).grown hg (fun e => by have := hlt _ e; omega))
  have e3 := ((h.out.drew.alloc o).grown hg (fun e => by have := hlt _ e; omega))
  have hb : Below w.heap.size w w5 := (((show Below w.heap.size w wr.drew from bdrewN h.below 1).alloc hs o)).grown hg (by simp; omega) (fun k hk => by have := hlt k hk; omega)
  have el : (l ++ [e]).length = l.length + 1 := by simp
  refine ⟨U.next hb (by omega), U.blk e1 (by omega), U.blk e2 (by omega), ?_, ?_⟩
  · rw [el]
    exact e3.set_ 2 _
  · rw [el, evCells_append]
    exact U.own hown (fun k hk => by have := hown.own_lt k hk; omega)

set_option maxRecDepth 100000 in
set_option maxHeartbeats 4000000 in
theorem ClientDone_calls (p nx : Int) (A : Option Addr) (n c : Nat) (l : List Ev) (x : Four4) (id : Int) (w : World) (h : Rd w w.heap.size 6 A n (evCells l)) (hm : n ≤ maxLen) (hc : n * 48 ≤ reachBytes) :
    Calls Try.prog 53 #[.agg #[.int .i64 p, .int .i64 nx, .slice A n c, .int .i64 x.a, .int .i64 x.b, .int .i64 x.c, .int .i64 x.d], .int .i64 id] w (CltPost w (doneC p nx l x id)) := by
  have hc' : n * 48 ≤ 140737488351232 := hc
  obtain ⟨j0, hj0, zj0, zj1, zj2⟩ := info_parts ev_info
  have HC := Lib.hid (fun w h => ClientFault_calls p nx A n c l x w h hm)
  have H := Lib.hid h
  have hmH := Lib.hid hm
  have HL := Lib.hid h.ev_len
  unfold maxLen at hm
  open Classical in
  have HR : Hid (doneC p nx l x id = if cltFault p nx l x ≠ 0 then (zeroClt, cltFault p nx l x) else if ∃ (k : Nat) (e : Ev), l[k]? = some e ∧ e.id = id then (⟨p, nx, notId id l, x⟩, 0) else (zeroClt, 7)) := Lib.hid rfl
  clear h hc
  generalize doneC p nx l x id = r at HR ⊢
  generalize cltFault p nx l x = z at HC HR
  obtain ⟨xa, xb, xc, xd⟩ := x
  simp only at HC ⊢
  go_enter Try.func53, Try.ntmps53
  go_wp2_with fail
  refine (HC.out _ (by exact H.out.on (by go_grown))).mono ?_
  rintro e w1 ⟨rfl, hb1⟩
  have B0 := ((Blk.new w _ _).alloc _).below hb1 (by simp; omega)
  have B1 := (Blk.new1 w _ _ _).below hb1 (by simp)
  obtain ⟨c0, c1', c2, c3, c4, c5, c6, cf⟩ := B0.cells7
  have hz1 : w.heap.size + 1 < w1.heap.size := B1.lt
  have hz0 : w.heap.size < w1.heap.size := by omega
  have HB : Hid (Below w.heap.size w w1) := Lib.hid (Below.trans (by go_grown) (hb1.mono (by simp; omega)))
  have H1 := Lib.hid (H.out.on HB.out)
  clear hb1
  by_cases hz : z = 0
  · have HR2 := Lib.hid (HR.out.trans (if_neg (by simpa using hz)))
    subst hz
    clear HR
    have HW0 : Hid (DW w w1.heap.size #[.int .i64 p, .int .i64 nx, .slice A n c, .int .i64 xa, .int .i64 xb, .int .i64 xc, .int .i64 xd] p nx xa xb xc xd [] none 0 (w1.alloc (.cells #[.int .i64 p, .int .i64 nx, .slice none 0 0, .int .i64 xa, .int .i64 xb, .int .i64 xc, .int .i64 xd] 60))) :=
      Lib.hid ⟨HB.out.alloc (by omega) _, B0.alloc _, B1.alloc _, Blk.new _ _ _, ownsRow_nil_ _ _ _ _⟩
    go_wp2_with fail
    go_loopw [8] (fun i wr => ∃ k : Nat, k ≤ n ∧ i = .int .i64 k ∧ ∃ A2 c2, DW w w1.heap.size #[.int .i64 p, .int .i64 nx, .slice A n c, .int .i64 xa, .int .i64 xb, .int .i64 xc, .int .i64 xd] p nx xa xb xc xd (notId id (l.take k)) A2 c2 wr) (fun i _ => n - (intOf i).toNat)
    case atStart => exact ⟨0, Nat.zero_le _, rfl, none, 0, HW0.out⟩
    case round =>
      obtain ⟨k, hk, rfl, A2, c2x, hw⟩ := hrel
      have HW := Lib.hid hw
      clear hw HW0 c0 c1' c2 c3 c4 c5 c6 cf
      have hzr : w1.heap.size < wr.heap.size := HW.out.out.lt
      obtain ⟨c0, c1', c2, c3, c4, c5, c6, cf⟩ := HW.out.arg.cells7
      obtain ⟨d0, d1, d2, d3, d4, d5, d6, df⟩ := HW.out.out.cells7
      have hle : (notId id (l.take k)).length ≤ k := Nat.le_trans (notId_le _ _) (List.length_take_le _ _)
      by_cases hlt : k < n
      · obtain ⟨b, off, ev, rfl, hb, he, e0, e1, e2, e3, e4, e5⟩ := (H.out.below HW.out.below (Nat.le_refl _)).ev_at hlt
        have HS : Hid (notId id (l.take (k + 1)) = if ev.id = id then notId id (l.take k) else notId id (l.take k) ++ [ev]) := Lib.hid (by rw [← take_snoc_ he]; exact notId_snoc _ _ _)
        clear he
        by_cases hid : ev.id = id
        · have HS2 := Lib.hid (HS.out.trans (if_pos hid))
          have t1 : (ev.id == id) = true := by simpa using hid
          have t2 : (ev.id != id) = false := by simpa using hid
          clear hid HS
          go_wp2_with fail
          go_roundw
          case rel => exact ⟨k + 1, by omega, by go_num, A2, c2x, by rw [HS2.out]; exact HW.out⟩
          case measure => simp [intOf]; omega
        · have HS2 := Lib.hid (HS.out.trans (if_neg hid))
          have t1 : (ev.id == id) = false := by simpa using hid
          have t2 : (ev.id != id) = true := by simpa using hid
          clear hid HS
          generalize notId id (l.take k) = lk at HW HS2 hle d2
          have HO := Lib.hid HW.out.own
          have HN : Hid (∀ w : World, Rd (w.alloc (.cells #[.int .i64 ev.kind, .int .i64 ev.producer, .int .i64 ev.id, .int .i64 ev.body, .int .i64 ev.hepoch, .int .i64 ev.hno] 37)) (w.heap.size + 1) 6 (some ⟨w.heap.size, 0, none⟩) 1 (evCells [ev])) := Lib.hid (fun w => ev_new w ev _)
          go_wp2_with fail
          go_region_law (refine step_append_any _ rfl (.tmp 33) (.tmp 39) _ rfl (w1.heap.size + 1) 37 j0 _ 6 48 Try.underlying57 hj0 zj0 zj1 zj2 rfl (by omega) (.slice A2 lk.length c2x) lk.length (evCells lk) rfl ((own_drew HO.out).alloc _) (wr.heap.size + 1) (some ⟨wr.heap.size, 0, none⟩) 1 1 (evCells [ev]) rfl (HN.out wr.drew) (evCells_one _) (by simp only [maxLen]; omega) (by omega) (by simp; omega) ?_; intro v1 w5 hown1 hg1 hat1; obtain ⟨A3, c3x, rfl, _⟩ := own_form hown1; have HW5 := Lib.hid (HW.out.step (by omega) ev _ hown1 hg1); have E := (HW.out.out.drew.alloc _).grown hg1 (fun e => by have := HO.out.own_lt _ e; omega); obtain ⟨g0, g1, g2, g3, g4, g5, g6, gf⟩ := E.cells7; clear hown1 hg1 hat1 E)
          all_goals
            go_wp2_with fail
            go_roundw
            case rel => exact ⟨k + 1, by omega, by go_num, A3, c3x, by rw [HS2.out]; exact HW5.out⟩
            case measure => simp [intOf]; omega
      · obtain rfl : k = n := by omega
        rw [List.take_of_length_le (by have := HL.out; omega)] at HW hle d2
        have HA := Lib.hid (notId_all id l)
        have B1 := HW.out.res
        have HB := Lib.hid HW.out.below
        have hlen : (notId id l).length ≤ maxLen := Nat.le_trans hle hmH.out
        by_cases hx : ∃ (k : Nat) (e : Ev), l[k]? = some e ∧ e.id = id
        · have e := HR2.out.trans (if_pos hx)
          subst e
          have hne : (notId id l).length ≠ k := fun h => HA.out.1 (h.trans HL.out.symm) hx
          generalize hlk : notId id l = lk at HW hle d2 hne hlen
          have HLK := Lib.hid hlk
          clear hlk
          have t1 : ((lk.length : Int) == (k : Int)) = false := by rw [beq_eq_false_iff_ne]; omega
          have t2 : (lk.length == k) = false := by rw [beq_eq_false_iff_ne]; exact hne
          clear hx hne HA HR2
          go_wp2_with (refine wpList_store_row rfl _ (.tmp 4) (.tmp 50) rfl (w.heap.size + 1) rfl _ rfl _ _ B1 clt_info rfl rfl ?_; intro w9 hB9 hU9)
          have HU : Hid (Below w.heap.size w w9) := Lib.hid (hU9.next HB.out (by omega))
          have HO9 : Hid (w9.ownsRow (w1.heap.size + 1) 37 6 (.slice A2 lk.length c2x) lk.length (evCells lk)) := Lib.hid (hU9.ownBelow HW.out.own (by omega))
          obtain ⟨r0, r1, r2, r3, r4, r5, r6, rf⟩ := hB9.cells7
          go_wp2_with fail
          refine bodyPost_ret (v := .tuple #[.agg #[.int .i64 p, .int .i64 nx, .slice A2 lk.length c2x, .int .i64 xa, .int .i64 xb, .int .i64 xc, .int .i64 xd], .int .i64 0]) (by simp [results, Try.results53, go_sem, r0, r1, r2, r3, r4, r5, r6]) rfl ?_
          have HF := Rd.of_own HO9.out
          exact ⟨A2, lk.length, c2x, rfl, HU.out, by simpa only [HLK.out] using HF, hlen⟩
        · have e := HR2.out.trans (if_neg hx)
          subst e
          have hne : (notId id l).length = k := (HA.out.2 hx).trans HL.out
          generalize hlk : notId id l = lk at HW hle d2 hne hlen
          have HLK := Lib.hid hlk
          clear hlk
          have t1 : ((lk.length : Int) == (k : Int)) = true := by rw [beq_iff_eq]; omega
          have t2 : (lk.length == k) = true := by rw [beq_iff_eq]; exact hne
          clear hx hne HA HR2
          go_wp2_with (refine wpList_store_row rfl _ (.tmp 4) (.tmp 49) rfl (w.heap.size + 1) rfl _ rfl _ _ B1 clt_info rfl rfl ?_; intro w9 hB9 hU9)
          have HU : Hid (Below w.heap.size w w9) := Lib.hid (hU9.next HB.out (by omega))
          obtain ⟨r0, r1, r2, r3, r4, r5, r6, rf⟩ := hB9.cells7
          go_wp2_with fail
          refine bodyPost_ret (v := .tuple #[.agg #[.int .i64 0, .int .i64 0, .slice none 0 0, .int .i64 0, .int .i64 0, .int .i64 0, .int .i64 0], .int .i64 7]) (by simp [results, Try.results53, go_sem, r0, r1, r2, r3, r4, r5, r6]) rfl ?_
          exact ⟨none, 0, 0, rfl, HU.out, Rd.none_, by simp⟩
  · have e := HR.out.trans (if_pos hz)
    subst e
    have t0 : (z == 0) = false := by simpa using hz
    have t0' : (z != 0) = true := by simpa using hz
    clear hz
    go_wp2_with (refine wpList_store_row rfl _ (.tmp 4) (.tmp 13) rfl (w.heap.size + 1) rfl _ rfl _ _ B1 clt_info rfl rfl ?_; intro w9 hB9 hU9)
    have HU : Hid (Below w.heap.size w w9) := Lib.hid (hU9.next HB.out (by omega))
    obtain ⟨r0, r1, r2, r3, r4, r5, r6, rf⟩ := hB9.cells7
    go_wp2_with fail
    refine bodyPost_ret (v := .tuple #[.agg #[.int .i64 0, .int .i64 0, .slice none 0 0, .int .i64 0, .int .i64 0, .int .i64 0, .int .i64 0], .int .i64 z]) (by simp [results, Try.results53, go_sem, r0, r1, r2, r3, r4, r5, r6]) rfl ?_
    exact ⟨none, 0, 0, rfl, HU.out, Rd.none_, by simp⟩
end Go.Proofs.Ytkjlafpafmihaaa
