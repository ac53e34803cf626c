/- Contracts: client.Check, ref.ClientFault. -/
import Derived.Test.YtkjlafpafmihaaaEvFaultRef
import Derived.Test.YtkjlafpafmihaaaCliS
import Derived.Test.YtkjlafpafmihaaaBlk
namespace Go.Proofs.Ytkjlafpafmihaaa
open Go.ChangeShapes Go.WideShapes Go.RowKit

def Four4.at (x : Four4) : Nat → Int
  | 0 => x.a
  | 1 => x.b
  | 2 => x.c
  | _ => x.d
def prevI (l : List Ev) : Nat → Int
  | 0 => -1
  | k + 1 => match l[k]? with
    | some x => x.id
    | none => -1
theorem prevI_succ {l : List Ev} {k : Nat} {x : Ev} (h : l[k]? = some x) : prevI l (k + 1) = x.id := by
  simp [prevI, h]
def waitOk (p nx prev : Int) (e : Ev) : Prop := evFault e = 0 ∧ e.kind = 1 ∧ e.producer = p ∧ prev < e.id ∧ e.id < nx ∧ nx - e.id ≤ 8
def waitsOk (p nx : Int) (l : List Ev) : Prop := ∀ (k : Nat) (e : Ev), l[k]? = some e → waitOk p nx (prevI l k) e
def cltOk (p nx : Int) (l : List Ev) (x : Four4) : Prop := (0 ≤ p ∧ p ≤ 3 ∧ 0 ≤ nx ∧ nx ≤ 1073741824) ∧ waitsOk p nx l ∧ ∀ k, k < 4 → -1 ≤ x.at k ∧ x.at k ≤ 4
open Classical in
/-- P10.1. -/
noncomputable def cltFault (p nx : Int) (l : List Ev) (x : Four4) : Int := if cltOk p nx l x then 0 else 6
theorem cltFault_bad {p nx : Int} {l : List Ev} {x : Four4} (h : ¬ cltOk p nx l x) : cltFault p nx l x = 6 := if_neg h
theorem cltFault_ok {p nx : Int} {l : List Ev} {x : Four4} (h : cltOk p nx l x) : cltFault p nx l x = 0 := if_pos h
theorem cltFault_zero {p nx : Int} {l : List Ev} {x : Four4} (h : cltFault p nx l x = 0) : cltOk p nx l x := by
  unfold cltFault at h
  split at h
  · assumption
  · cases h
theorem evFault_pub {e : Ev} (h : evFault e = 0) (hk : e.kind = 1) : 0 ≤ e.id ∧ e.id ≤ 1073741824 ∧ 0 ≤ e.producer ∧ e.producer ≤ 3 ∧ 0 ≤ e.body ∧ e.body ≤ 1000000 ∧ e.hepoch = 0 ∧ e.hno = 0 := by
  unfold evFault at h
  rw [if_neg (by omega)] at h
  split at h
  · cases h
  · rename_i h1
    have h1' : (inR e.producer 0 3 && inR e.id 0 1073741824 && inR e.body 0 1000000) = true := by
      rcases Bool.eq_false_or_eq_true (inR e.producer 0 3 && inR e.id 0 1073741824 && inR e.body 0 1000000) with h | h
      · exact h
      · exact absurd ⟨hk, by rw [h]; simp⟩ h1
    simp only [Bool.and_eq_true, inR_true] at h1'
    rw [if_neg (by omega)] at h
    split at h
    · cases h
    · split at h
      · cases h
      · rename_i h3
        have : e.hepoch = 0 ∧ e.hno = 0 := by
          by_cases hh : e.hepoch = 0 ∧ e.hno = 0
          · exact hh
          · exact absurd ⟨by omega, hh⟩ h3
        omega
theorem four_index0 (a b c d : Int) (w : World) : (Instr.index 58 (.agg #[.int .i64 a, .int .i64 b, .int .i64 c, .int .i64 d]) (.int .i64 0)).run Try.prog w = .ok (.int .i64 a) w := by kernel_rfl
theorem four_index1 (a b c d : Int) (w : World) : (Instr.index 58 (.agg #[.int .i64 a, .int .i64 b, .int .i64 c, .int .i64 d]) (.int .i64 1)).run Try.prog w = .ok (.int .i64 b) w := by kernel_rfl
theorem four_index2 (a b c d : Int) (w : World) : (Instr.index 58 (.agg #[.int .i64 a, .int .i64 b, .int .i64 c, .int .i64 d]) (.int .i64 2)).run Try.prog w = .ok (.int .i64 c) w := by kernel_rfl
theorem four_index3 (a b c d : Int) (w : World) : (Instr.index 58 (.agg #[.int .i64 a, .int .i64 b, .int .i64 c, .int .i64 d]) (.int .i64 3)).run Try.prog w = .ok (.int .i64 d) w := by kernel_rfl
theorem four_index (x : Four4) (k : Nat) (hk : k < 4) (w : World) : (Instr.index 58 (.agg #[.int .i64 x.a, .int .i64 x.b, .int .i64 x.c, .int .i64 x.d]) (.int .i64 k)).run Try.prog w = .ok (.int .i64 (x.at k)) w := by
  have h : k = 0 ∨ k = 1 ∨ k = 2 ∨ k = 3 := by omega
  rcases h with rfl | rfl | rfl | rfl
  · exact four_index0 _ _ _ _ w
  · exact four_index1 _ _ _ _ w
  · exact four_index2 _ _ _ _ w
  · exact four_index3 _ _ _ _ w

set_option maxRecDepth 100000 in
set_option maxHeartbeats 4000000 in
theorem CCheck_calls (p nx : Int) (A : Option Addr) (n c : Nat) (l : List Ev) (x : Four4) (w : World) (h : Rd w w.heap.size 6 A n (evCells l)) (hm : n ≤ maxLen) :
    Calls Try.prog 125 #[.agg #[.int .i64 p, .int .i64 nx, .slice A n c, .int .i64 x.a, .int .i64 x.b, .int .i64 x.c, .int .i64 x.d]] w (IntPost w (cltFault p nx l x)) := by
  unfold maxLen at hm
  have H := Lib.hid h
  have hl := h.ev_len
  have HL := Lib.hid hl
  have HF := Lib.hid (cltFault_bad (p := p) (nx := nx) (l := l) (x := x))
  have H0 := Lib.hid (cltFault_ok (p := p) (nx := nx) (l := l) (x := x))
  have HI := Lib.hid (four_index x)
  clear h hl
  generalize cltFault p nx l x = z at HF H0 ⊢
  by_cases p0 : p < 0
  · have e := HF.out (fun ho => by have := ho.1; omega)
    subst e
    go_enter Try.func125, Try.ntmps125
    go_wp2_with fail
    go_ret
    exact ⟨rfl, by go_grown⟩
  by_cases p1 : 4 ≤ p
  · have e := HF.out (fun ho => by have := ho.1; omega)
    subst e
    go_enter Try.func125, Try.ntmps125
    go_wp2_with fail
    go_ret
    exact ⟨rfl, by go_grown⟩
  by_cases p2 : nx < 0
  · have e := HF.out (fun ho => by have := ho.1; omega)
    subst e
    go_enter Try.func125, Try.ntmps125
    go_wp2_with fail
    go_ret
    exact ⟨rfl, by go_grown⟩
  by_cases p3 : 1073741824 < nx
  · have e := HF.out (fun ho => by have := ho.1; omega)
    subst e
    go_enter Try.func125, Try.ntmps125
    go_wp2_with fail
    go_ret
    exact ⟨rfl, by go_grown⟩
  go_enter Try.func125, Try.ntmps125
  go_wp2_with fail
  go_loopw [3, 29] (fun la i wr => ∃ k : Nat, k ≤ n ∧ i = .int .i64 k ∧ la = .int .i64 (prevI l k) ∧ (∀ j e, j < k → l[j]? = some e → waitOk p nx (prevI l j) e) ∧ Blk wr w.heap.size #[.int .i64 p, .int .i64 nx, .slice A n c, .int .i64 x.a, .int .i64 x.b, .int .i64 x.c, .int .i64 x.d] 60 ∧ Below w.heap.size w wr) (fun _ i _ => n - (intOf i).toNat)
  case atStart => exact ⟨0, Nat.zero_le _, rfl, rfl, fun j _ hj => absurd hj (by omega), Blk.new _ _ _, by go_grown⟩
  case round =>
    obtain ⟨k, hk, rfl, rfl, hall, hblk, hb⟩ := hrel
    have HB := Lib.hid hb
    have HK := Lib.hid hblk
    have HA := Lib.hid hall
    by_cases hlt : k < n
    · obtain ⟨b, off, ev, rfl, hbb, he, c0, c1, c2, c3, c4, c5⟩ := (H.out.below hb (Nat.le_refl _)).ev_at hlt
      have HE := Lib.hid he
      have HFk := Lib.hid (fun (hw : ¬ waitOk p nx (prevI l k) ev) => HF.out (fun ho => hw (ho.2.1 k ev he)))
      have HP := Lib.hid (prevI_succ he)
      have HQ : Hid (waitOk p nx (prevI l k) ev → ∀ j y, j < k + 1 → l[j]? = some y → waitOk p nx (prevI l j) y) := Lib.hid (fun ho j y hj hy => by
        by_cases e : j = k
        · subst e
          have := HE.out
          rw [hy] at this
          simp at this
          subst this
          exact ho
        · exact HA.out j y (by omega) hy)
      have HC := Lib.hid (Check_calls ev)
      have HU := Lib.hid (evFault_pub (e := ev))
      have hz0 : w.heap.size < wr.heap.size := hblk.lt
      clear hall hb he hblk
      generalize prevI l k = pv at HFk HQ ⊢
      generalize hf : evFault ev = f at HC HU
      have HEF := Lib.hid hf
      clear hf
      unfold Ev.val at HC
      go_wp2_with fail
      refine (HC.out _).mono ?_
      rintro e w2 ⟨rfl, hb2⟩
      have B1 := (Blk.new wr _ _).below hb2 (by simp)
      have B0 := (HK.out.alloc _).below hb2 (by simp; omega)
      obtain ⟨q0, q1, q2, q3, q4, q5, qf⟩ := B1.cells6
      obtain ⟨s0, s1, s2, s3, s4, s5, s6, sf⟩ := B0.cells7
      have HB2 : Hid (Below w.heap.size w w2) := Lib.hid ((HB.out.alloc (by omega) _).trans (hb2.mono (by simp; omega)))
      have HB0 := Lib.hid B0
      clear hb2 B1 B0 c0 c1 c2 c3 c4 c5
      by_cases hf : f = 0
      · have HU2 := Lib.hid (HU.out hf)
        subst hf
        by_cases b1 : ev.kind = 1
        · obtain ⟨u0, u1, _, _, _, _, _, _⟩ := HU2.out b1
          have b1' : (ev.kind == 1) = true := by simpa using b1
          have B1 := Lib.hid b1
          rw [b1] at q0
          clear b1 b1'
          by_cases b2 : ev.producer = p
          · have B2 := Lib.hid b2
            have b2' : (ev.producer == p) = true := by simpa using b2
            have b2'' : (ev.producer != p) = false := by simpa using b2
            clear b2
            by_cases b3 : ev.id ≤ pv
            · have e := HFk.out (fun ho => by unfold waitOk at ho; have ho1 := ho.1; have ho2 := ho.2.1; have ho3 := ho.2.2.1; have ho4 := ho.2.2.2; omega)
              subst e
              go_wp2_with fail
              go_ret
              have hB := HB2.out
              exact ⟨rfl, by go_grown⟩
            by_cases b4 : nx ≤ ev.id
            · have e := HFk.out (fun ho => by unfold waitOk at ho; have ho1 := ho.1; have ho2 := ho.2.1; have ho3 := ho.2.2.1; have ho4 := ho.2.2.2; omega)
              subst e
              go_wp2_with fail
              go_ret
              have hB := HB2.out
              exact ⟨rfl, by go_grown⟩
            by_cases b5 : 8 < nx - ev.id
            · have e := HFk.out (fun ho => by unfold waitOk at ho; have ho1 := ho.1; have ho2 := ho.2.1; have ho3 := ho.2.2.1; have ho4 := ho.2.2.2; omega)
              subst e
              go_wp2_with fail
              go_ret
              have hB := HB2.out
              exact ⟨rfl, by go_grown⟩
            have HG := Lib.hid (HQ.out ⟨HEF.out, B1.out, B2.out, by omega, by omega, by omega⟩)
            go_wp2_with fail
            go_roundw
            case rel => exact ⟨k + 1, by omega, by go_num, by rw [HP.out], HG.out, HB0.out, HB2.out⟩
            case measure => simp [intOf]; omega
          · have e := HFk.out (fun ho => b2 ho.2.2.1)
            subst e
            have b2' : (ev.producer == p) = false := by simpa using b2
            have b2'' : (ev.producer != p) = true := by simpa using b2
            clear b2
            go_wp2_with fail
            go_ret
            have hB := HB2.out
            exact ⟨rfl, by go_grown⟩
        · have e := HFk.out (fun ho => b1 ho.2.1)
          subst e
          have b1' : (ev.kind == 1) = false := by simpa using b1
          have b1'' : (ev.kind != 1) = true := by simpa using b1
          clear b1
          go_wp2_with fail
          go_ret
          have hB := HB2.out
          exact ⟨rfl, by go_grown⟩
      · have e := HFk.out (fun ho => hf (HEF.out.symm.trans ho.1))
        subst e
        have b1' : (f == 0) = false := by simpa using hf
        have b1'' : (f != 0) = true := by simpa using hf
        clear hf
        go_wp2_with fail
        go_ret
        have hB := HB2.out
        exact ⟨rfl, by go_grown⟩
    · obtain rfl : k = n := by omega
      have HW : Hid (waitsOk p nx l) := Lib.hid (fun j y hy => HA.out j y (by have := (List.getElem?_eq_some_iff.1 hy).1; have := HL.out; omega) hy)
      have HFk := Lib.hid (fun (j : Nat) (hj : j < 4) (hw : ¬ (-1 ≤ x.at j ∧ x.at j ≤ 4)) => HF.out (fun ho => hw (ho.2.2 j hj)))
      have H0k : Hid ((∀ k, k < 4 → -1 ≤ x.at k ∧ x.at k ≤ 4) → z = 0) := Lib.hid (fun hx => H0.out ⟨⟨by omega, by omega, by omega, by omega⟩, HW.out, hx⟩)
      obtain ⟨s0, s1, s2, s3, s4, s5, s6, sf⟩ := hblk.cells7
      clear hall hblk hb HF H0 HA
      have hat := Lib.hid (rfl : x.at = x.at)
      generalize x.at = f at HI HFk H0k hat
      clear hat
      obtain ⟨xa, xb, xc, xd⟩ := x
      go_wp2_with fail
      go_loop [74] (fun i => ∃ j : Nat, j ≤ 4 ∧ i = .int .i64 j ∧ ∀ m, m < j → -1 ≤ f m ∧ f m ≤ 4) (fun i => 4 - (intOf i).toNat)
      case atStart => exact ⟨0, by omega, rfl, fun m hm => absurd hm (by omega)⟩
      case round =>
        obtain ⟨j, hj, rfl, hall⟩ := hrel
        have HA := Lib.hid hall
        clear hall
        by_cases hlt2 : j < 4
        · have hi := HI.out j hlt2
          have HFj := Lib.hid (HFk.out j hlt2)
          have HQ : Hid (-1 ≤ f j ∧ f j ≤ 4 → ∀ m, m < j + 1 → -1 ≤ f m ∧ f m ≤ 4) := Lib.hid (fun h m hm => by
            by_cases e : m = j
            · rw [e]; exact h
            · exact HA.out m (by omega))
          generalize f j = y at hi HFj HQ
          by_cases b1 : y < -1
          · have e := HFj.out (by omega)
            subst e
            go_wp2_with fail
            go_ret
            exact ⟨rfl, HB.out⟩
          by_cases b2 : 5 ≤ y
          · have e := HFj.out (by omega)
            subst e
            go_wp2_with fail
            go_ret
            exact ⟨rfl, HB.out⟩
          have HG := Lib.hid (HQ.out (by omega))
          go_wp2_with fail
          go_round
          case rel => exact ⟨j + 1, by omega, by go_num, HG.out⟩
          case measure => simp [intOf]; omega
        · obtain rfl : j = 4 := by omega
          have e := H0k.out HA.out
          subst e
          go_wp2_with fail
          go_ret
          exact ⟨rfl, HB.out⟩
end Go.Proofs.Ytkjlafpafmihaaa
