/- Contract: ref.ClientFault. -/
import Derived.Test.YtkjlafpafmihaaaClt
namespace Go.Proofs.Ytkjlafpafmihaaa
open Go.ChangeShapes Go.WideShapes Go.RowKit

theorem prevI_ge {p nx : Int} {l : List Ev} : ∀ k, k ≤ l.length → (∀ j e, j < k → l[j]? = some e → waitOk p nx (prevI l j) e) → -1 ≤ prevI l k
  | 0, _, _ => by simp [prevI]
  | k + 1, hk, h => by
    have hy : l[k]? = some l[k] := List.getElem?_eq_getElem (by omega)
    have h1 := (h k _ (by omega) hy).2.2.2.1
    have h2 := prevI_ge k (by omega) (fun j x hj hx => h j x (by omega) hx)
    rw [prevI_succ hy]
    omega
theorem four_row (p nx : Int) (v : Value) (x : Four4) (k : Nat) (hk : k < 4) : (#[.int .i64 p, .int .i64 nx, v, .int .i64 x.a, .int .i64 x.b, .int .i64 x.c, .int .i64 x.d] : Array Value)[3 + k]? = some (.int .i64 (x.at k)) := by
  have h : k = 0 ∨ k = 1 ∨ k = 2 ∨ k = 3 := by omega
  rcases h with rfl | rfl | rfl | rfl <;> rfl

set_option maxRecDepth 100000 in
set_option maxHeartbeats 4000000 in
theorem ClientFault_calls (p nx : Int) (A : Option Addr) (n c : Nat) (l : List Ev) (x : Four4) (w : World) (h : Rd w w.heap.size 6 A n (evCells l)) (hm : n ≤ maxLen) :
    Calls Try.prog 128 #[.agg #[.int .i64 p, .int .i64 nx, .slice A n c, .int .i64 x.a, .int .i64 x.b, .int .i64 x.c, .int .i64 x.d]] w (IntPost w (cltFault p nx l x)) := by
  unfold maxLen at hm
  have H := Lib.hid h
  have hl := h.ev_len
  have HL := Lib.hid hl
  have HF := Lib.hid (cltFault_bad (p := p) (nx := nx) (l := l) (x := x))
  have H0 := Lib.hid (cltFault_ok (p := p) (nx := nx) (l := l) (x := x))
  have HR := Lib.hid (four_row p nx (.slice A n c) x)
  clear h hl
  generalize cltFault p nx l x = z at HF H0 ⊢
  cases i1 : inR p 0 3
  · have i1' := inR_false.1 i1
    have e := HF.out (fun ho => by have := ho.1; omega)
    subst e
    go_enter Try.func128, Try.ntmps128
    go_wp2_with (go_at_call 107; refine (In_calls _ _ _ _).mono ?_; rintro e w' ⟨rfl, rfl⟩)
    go_ret
    exact ⟨rfl, by go_grown⟩
  have i1' := inR_true.1 i1
  cases i2 : inR nx 0 1073741824
  · have i2' := inR_false.1 i2
    have e := HF.out (fun ho => by have := ho.1; omega)
    subst e
    go_enter Try.func128, Try.ntmps128
    go_wp2_with (go_at_call 107; refine (In_calls _ _ _ _).mono ?_; rintro e w' ⟨rfl, rfl⟩)
    go_ret
    exact ⟨rfl, by go_grown⟩
  obtain ⟨p2, p3⟩ := inR_true.1 i2
  go_enter Try.func128, Try.ntmps128
  go_wp2_with (go_at_call 107; refine (In_calls _ _ _ _).mono ?_; rintro e w' ⟨rfl, rfl⟩)
  clear i1 i2
  go_loopw [3] (fun i wr => ∃ k : Nat, k ≤ n ∧ i = .int .i64 k ∧ (∀ j e, j < k → l[j]? = some e → waitOk p nx (prevI l j) e) ∧ Blk wr w.heap.size #[.int .i64 p, .int .i64 nx, .slice A n c, .int .i64 x.a, .int .i64 x.b, .int .i64 x.c, .int .i64 x.d] 60 ∧ Below w.heap.size w wr) (fun i _ => n - (intOf i).toNat)
  case atStart => exact ⟨0, Nat.zero_le _, rfl, fun j _ hj => absurd hj (by omega), Blk.new _ _ _, by go_grown⟩
  case round =>
    obtain ⟨k, hk, rfl, hall, hblk, hb⟩ := hrel
    have HB := Lib.hid hb
    have HK := Lib.hid hblk
    have HA := Lib.hid hall
    obtain ⟨s0, s1, s2, s3, s4, s5, s6, sf⟩ := hblk.cells7
    by_cases hlt : k < n
    · have H1 := Lib.hid (H.out.below hb (Nat.le_refl _))
      obtain ⟨b, off, ev, rfl, hbb, he, c0, c1, c2, c3, c4, c5⟩ := H1.out.ev_at hlt
      have HE := Lib.hid he
      have HFk := Lib.hid (fun (hw : ¬ waitOk p nx (prevI l k) ev) => HF.out (fun ho => hw (ho.2.1 k ev he)))
      have hpg := prevI_ge (p := p) (nx := nx) (l := l) k (by have := HL.out; omega) hall
      have HQ : Hid (waitOk p nx (prevI l k) ev → ∀ j y, j < k + 1 → l[j]? = some y → waitOk p nx (prevI l j) y) := Lib.hid (fun ho j y hj hy => by
        by_cases e : j = k
        · subst e
          have := HE.out
          rw [hy] at this
          simp at this
          subst this
          exact ho
        · exact HA.out j y (by omega) hy)
      have HC := Lib.hid (EventFault_calls ev)
      have HU := Lib.hid (evFault_pub (e := ev))
      have hz0 : w.heap.size < wr.heap.size := hblk.lt
      have HPV : Hid (∀ y, 0 < k → l[k - 1]? = some y → prevI l k = y.id) := Lib.hid (fun y h1 h2 => by rw [show k = (k - 1) + 1 by omega, prevI_succ h2])
      have HPZ : Hid (k = 0 → prevI l k = -1) := Lib.hid (fun h => by rw [h]; rfl)
      clear hall hb he hblk
      generalize prevI l k = pv at HFk HQ HPV HPZ hpg
      generalize hf : evFault ev = f at HC HU
      have HEF := Lib.hid hf
      clear hf
      unfold Ev.val at HC
      go_wp2_with (go_at_call 107; refine (In_calls _ _ _ _).mono ?_; rintro e w' ⟨rfl, rfl⟩)
      refine (HC.out _).mono ?_
      rintro e w2 ⟨rfl, hb2⟩
      have B1 := (Blk.new wr _ _).below hb2 (by simp)
      have B0 := (HK.out.alloc _).below hb2 (by simp; omega)
      clear s0 s1 s2 s3 s4 s5 s6 sf c0 c1 c2 c3 c4 c5
      obtain ⟨q0, q1, q2, q3, q4, q5, qf⟩ := B1.cells6
      obtain ⟨s0, s1, s2, s3, s4, s5, s6, sf⟩ := B0.cells7
      have HB2 : Hid (Below w.heap.size w w2) := Lib.hid ((HB.out.alloc (by omega) _).trans (hb2.mono (by simp; omega)))
      have HB0 := Lib.hid B0
      have H2 := Lib.hid (H.out.below HB2.out (Nat.le_refl _))
      clear hb2 B1 B0
      by_cases hf : f = 0
      · have HU2 := Lib.hid (HU.out hf)
        subst hf
        by_cases b1 : ev.kind = 1
        · obtain ⟨u0, u1, _, _, _, _, _, _⟩ := HU2.out b1
          have B1 := Lib.hid b1
          rw [b1] at q0
          clear b1
          by_cases b2 : ev.producer = p
          · have B2 := Lib.hid b2
            have b2' : (ev.producer == p) = true := by simpa using b2
            have b2'' : (ev.producer != p) = false := by simpa using b2
            clear b2
            cases i3 : inR (nx - ev.id) 1 8
            · have i3' := inR_false.1 i3
              have e := HFk.out (fun ho => by unfold waitOk at ho; have := ho.2.2.2; omega)
              subst e
              go_wp2_with (go_at_call 107; refine (In_calls _ _ _ _).mono ?_; rintro e w' ⟨rfl, rfl⟩)
              go_ret
              have hB := HB2.out
              exact ⟨rfl, by go_grown⟩
            have i3' := inR_true.1 i3
            by_cases hk0 : k = 0
            · have e0 := HPZ.out hk0
              have HG := Lib.hid (HQ.out ⟨HEF.out, B1.out, B2.out, by omega, by omega, by omega⟩)
              have hd1 : decide ((0 : Int) < (k : Int)) = false := by simp; omega
              have hd2 : decide (0 < k) = false := by simp; omega
              clear hk0 e0
              go_wp2_with (go_at_call 107; refine (In_calls _ _ _ _).mono ?_; rintro e w' ⟨rfl, rfl⟩)
              go_quiet (fail)
              go_wp2_with (go_at_call 107; refine (In_calls _ _ _ _).mono ?_; rintro e w' ⟨rfl, rfl⟩)
              go_roundw
              case rel => exact ⟨k + 1, by omega, by go_num, HG.out, HB0.out.drewN _, bdrewN HB2.out _⟩
              case measure => simp [intOf]; omega
            · obtain ⟨b', off', y, hA', hbb', hy, d0, d1, d2, d3, d4, d5⟩ := H2.out.ev_at (show k - 1 < n by omega)
              simp only [Option.some.injEq, Addr.mk.injEq, and_true] at hA'
              obtain ⟨rfl, rfl⟩ := hA'
              have e0 := HPV.out y (by omega) hy
              have hp : 0 < k := by omega
              have e1 : IntKind.i64.wrap ((k : Int) - 1) = (k : Int) - 1 := IntWalk.i64_in _ (by omega)
              have e2 : ((k : Int) - 1).toNat = k - 1 := by omega
              have e3 : 0 ≤ (k : Int) - 1 := by omega
              have e4 : (k : Int) - 1 < (n : Int) := by omega
              clear hk0 hy d0 d1 d3 d4 d5
              by_cases b3 : ev.id ≤ y.id
              · have e := HFk.out (fun ho => by unfold waitOk at ho; have := ho.2.2.2; rw [e0] at this; clear e2; omega)
                subst e
                clear e0
                go_wp2_with (go_at_call 107; refine (In_calls _ _ _ _).mono ?_; rintro e w' ⟨rfl, rfl⟩)
                go_quiet (fail)
                go_wp2_with (go_at_call 107; refine (In_calls _ _ _ _).mono ?_; rintro e w' ⟨rfl, rfl⟩)
                go_ret
                exact ⟨rfl, bdrewN HB2.out _⟩
              · have HG := Lib.hid (HQ.out ⟨HEF.out, B1.out, B2.out, by rw [e0]; clear e2; omega, by clear e2; omega, by clear e2; omega⟩)
                clear e0
                go_wp2_with (go_at_call 107; refine (In_calls _ _ _ _).mono ?_; rintro e w' ⟨rfl, rfl⟩)
                go_quiet (fail)
                go_wp2_with (go_at_call 107; refine (In_calls _ _ _ _).mono ?_; rintro e w' ⟨rfl, rfl⟩)
                go_roundw
                case rel => exact ⟨k + 1, by omega, by go_num, HG.out, HB0.out.drewN _, bdrewN HB2.out _⟩
                case measure => simp [intOf]; omega
          · have e := HFk.out (fun ho => b2 ho.2.2.1)
            subst e
            have b2' : (ev.producer == p) = false := by simpa using b2
            have b2'' : (ev.producer != p) = true := by simpa using b2
            clear b2
            go_wp2_with (go_at_call 107; refine (In_calls _ _ _ _).mono ?_; rintro e w' ⟨rfl, rfl⟩)
            go_ret
            have hB := HB2.out
            exact ⟨rfl, by go_grown⟩
        · have e := HFk.out (fun ho => b1 ho.2.1)
          subst e
          have b1' : (ev.kind == 1) = false := by simpa using b1
          have b1'' : (ev.kind != 1) = true := by simpa using b1
          clear b1
          go_wp2_with (go_at_call 107; refine (In_calls _ _ _ _).mono ?_; rintro e w' ⟨rfl, rfl⟩)
          go_ret
          have hB := HB2.out
          exact ⟨rfl, by go_grown⟩
      · have e := HFk.out (fun ho => hf (HEF.out.symm.trans ho.1))
        subst e
        have b1' : (f == 0) = false := by simpa using hf
        have b1'' : (f != 0) = true := by simpa using hf
        clear hf
        go_wp2_with (go_at_call 107; refine (In_calls _ _ _ _).mono ?_; rintro e w' ⟨rfl, rfl⟩)
        go_ret
        have hB := HB2.out
        exact ⟨rfl, by go_grown⟩
    · obtain rfl : k = n := by omega
      have HW : Hid (waitsOk p nx l) := Lib.hid (fun j y hy => HA.out j y (by have := (List.getElem?_eq_some_iff.1 hy).1; have := HL.out; omega) hy)
      have HFk := Lib.hid (fun (j : Nat) (hj : j < 4) (hw : ¬ (-1 ≤ x.at j ∧ x.at j ≤ 4)) => HF.out (fun ho => hw (ho.2.2 j hj)))
      have H0k : Hid ((∀ k, k < 4 → -1 ≤ x.at k ∧ x.at k ≤ 4) → z = 0) := Lib.hid (fun hx => H0.out ⟨⟨by omega, by omega, by omega, by omega⟩, HW.out, hx⟩)
      have HCELL : Hid (∀ j, j < 4 → wr.cell? ⟨w.heap.size, 3 + j, none⟩ = some (.int .i64 (x.at j))) := Lib.hid (fun j hj => HK.out.cell (HR.out j hj))
      clear hall hblk hb HF H0 HA
      have hat := Lib.hid (rfl : x.at = x.at)
      generalize x.at = f at HCELL HFk H0k hat HR
      clear hat
      obtain ⟨xa, xb, xc, xd⟩ := x
      go_wp2_with (go_at_call 107; refine (In_calls _ _ _ _).mono ?_; rintro e w' ⟨rfl, rfl⟩)
      go_loop [5] (fun i => ∃ j : Nat, j ≤ 4 ∧ i = .int .i64 j ∧ ∀ m, m < j → -1 ≤ f m ∧ f m ≤ 4) (fun i => 4 - (intOf i).toNat)
      case atStart => exact ⟨0, by omega, rfl, fun m hm => absurd hm (by omega)⟩
      case round =>
        obtain ⟨j, hj, rfl, hall⟩ := hrel
        have HA := Lib.hid hall
        clear hall
        by_cases hlt2 : j < 4
        · have cj := HCELL.out j hlt2
          have HFj := Lib.hid (HFk.out j hlt2)
          have HQ : Hid (-1 ≤ f j ∧ f j ≤ 4 → ∀ m, m < j + 1 → -1 ≤ f m ∧ f m ≤ 4) := Lib.hid (fun h m hm => by
            by_cases e : m = j
            · rw [e]; exact h
            · exact HA.out m (by omega))
          generalize f j = y at cj HFj HQ
          cases i3 : inR y (-1) 4
          · have i3' := inR_false.1 i3
            have e := HFj.out (by omega)
            subst e
            go_wp2_with (go_at_call 107; refine (In_calls _ _ _ _).mono ?_; rintro e w' ⟨rfl, rfl⟩)
            go_ret
            exact ⟨rfl, HB.out⟩
          · have i3' := inR_true.1 i3
            have HG := Lib.hid (HQ.out (by omega))
            go_wp2_with (go_at_call 107; refine (In_calls _ _ _ _).mono ?_; rintro e w' ⟨rfl, rfl⟩)
            go_round
            case rel => exact ⟨j + 1, by omega, by go_num, HG.out⟩
            case measure => simp [intOf]; omega
        · obtain rfl : j = 4 := by omega
          have e := H0k.out HA.out
          subst e
          go_wp2_with (go_at_call 107; refine (In_calls _ _ _ _).mono ?_; rintro e w' ⟨rfl, rfl⟩)
          go_ret
          exact ⟨rfl, HB.out⟩
end Go.Proofs.Ytkjlafpafmihaaa
