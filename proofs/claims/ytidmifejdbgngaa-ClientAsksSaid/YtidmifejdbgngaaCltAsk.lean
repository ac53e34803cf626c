/- Contracts: client.Ask, ref.ClientAsked; an argument that is a client. -/
import Derived.Test.YtidmifejdbgngaaCltCopy
namespace Go.Proofs.Ytidmifejdbgngaa
open Go.ChangeShapes Go.WideShapes Go.RowKit

/-- P10.6. -/
noncomputable def askC (p nx : Int) (l : List Ev) (x : Four4) (q : Int) : Int × Int :=
  if cltFault p nx l x ≠ 0 then (0, cltFault p nx l x) else if q < 0 ∨ 3 < q then (0, 2) else if x.at q.toNat < 0 then (0, 7) else (x.at q.toNat, 0)
def TwoP (w : World) (r : Int × Int) (e : Ending) (w' : World) : Prop := e = .returned (.tuple #[.int .i64 r.1, .int .i64 r.2]) ∧ Below w.heap.size w w'

set_option maxRecDepth 100000 in
set_option maxHeartbeats 2000000 in
theorem CAsk_calls (p nx : Int) (A : Option Addr) (n c : Nat) (l : List Ev) (x : Four4) (q : Int) (w : World) (h : Rd w w.heap.size 6 A n (evCells l)) (hm : n ≤ maxLen) :
    Calls Try.prog 26 #[.agg #[.int .i64 p, .int .i64 nx, .slice A n c, .int .i64 x.a, .int .i64 x.b, .int .i64 x.c, .int .i64 x.d], .int .i64 q] w (TwoP w (askC p nx l x q)) := by
  have HC := Lib.hid (fun w h => CCheck_calls p nx A n c l x w h hm)
  have H := Lib.hid h
  have HR : Hid (askC p nx l x q = if cltFault p nx l x ≠ 0 then (0, cltFault p nx l x) else if q < 0 ∨ 3 < q then (0, 2) else if x.at q.toNat < 0 then (0, 7) else (x.at q.toNat, 0)) := Lib.hid rfl
  clear h hm
  generalize askC p nx l x q = r at HR ⊢
  obtain ⟨r1, r2⟩ := r
  generalize cltFault p nx l x = z at HC HR
  obtain ⟨xa, xb, xc, xd⟩ := x
  simp only at HC ⊢
  go_enter Try.func26, Try.ntmps26
  go_wp2_with fail
  refine (HC.out _ (by exact H.out.on (by go_grown))).mono ?_
  rintro e w1 ⟨rfl, hb1⟩
  have B0 := (Blk.new w _ _).below hb1 (by simp)
  obtain ⟨c0, c1', c2, c3, c4, c5, c6, cf⟩ := B0.cells7
  have HB : Hid (Below w.heap.size w w1) := Lib.hid (Below.trans (by go_grown) (hb1.mono (by simp)))
  clear hb1
  by_cases hz : z = 0
  · have HR2 := Lib.hid (HR.out.trans (if_neg (by simpa using hz)))
    subst hz
    clear HR
    by_cases q0 : q < 0
    · have e := HR2.out.trans (if_pos (by omega))
      have HE := Lib.hid e
      clear e
      go_wp2_with fail
      go_ret2
      exact ⟨by rw [show (⟨r1, r2⟩ : Int × Int) = _ from HE.out] <;> rfl, HB.out⟩
    by_cases q4 : 4 ≤ q
    · have e := HR2.out.trans (if_pos (by omega))
      have HE := Lib.hid e
      clear e
      go_wp2_with fail
      go_ret2
      exact ⟨by rw [show (⟨r1, r2⟩ : Int × Int) = _ from HE.out] <;> rfl, HB.out⟩
    have HR3 := Lib.hid (HR2.out.trans (if_neg (by omega)))
    clear HR2
    rcases (show q = 0 ∨ q = 1 ∨ q = 2 ∨ q = 3 by omega) with rfl | rfl | rfl | rfl
    · by_cases hneg : xa < 0
      · have e := HR3.out.trans (if_pos hneg)
        have HE := Lib.hid e
        clear e
        go_wp2_with fail
        go_ret2
        exact ⟨by rw [show (⟨r1, r2⟩ : Int × Int) = _ from HE.out] <;> rfl, HB.out⟩
      · have e := HR3.out.trans (if_neg hneg)
        have HE := Lib.hid e
        clear e
        go_wp2_with fail
        go_ret2
        exact ⟨by rw [show (⟨r1, r2⟩ : Int × Int) = _ from HE.out] <;> rfl, HB.out⟩
    · by_cases hneg : xb < 0
      · have e := HR3.out.trans (if_pos hneg)
        have HE := Lib.hid e
        clear e
        go_wp2_with fail
        go_ret2
        exact ⟨by rw [show (⟨r1, r2⟩ : Int × Int) = _ from HE.out] <;> rfl, HB.out⟩
      · have e := HR3.out.trans (if_neg hneg)
        have HE := Lib.hid e
        clear e
        go_wp2_with fail
        go_ret2
        exact ⟨by rw [show (⟨r1, r2⟩ : Int × Int) = _ from HE.out] <;> rfl, HB.out⟩
    · by_cases hneg : xc < 0
      · have e := HR3.out.trans (if_pos hneg)
        have HE := Lib.hid e
        clear e
        go_wp2_with fail
        go_ret2
        exact ⟨by rw [show (⟨r1, r2⟩ : Int × Int) = _ from HE.out] <;> rfl, HB.out⟩
      · have e := HR3.out.trans (if_neg hneg)
        have HE := Lib.hid e
        clear e
        go_wp2_with fail
        go_ret2
        exact ⟨by rw [show (⟨r1, r2⟩ : Int × Int) = _ from HE.out] <;> rfl, HB.out⟩
    · by_cases hneg : xd < 0
      · have e := HR3.out.trans (if_pos hneg)
        have HE := Lib.hid e
        clear e
        go_wp2_with fail
        go_ret2
        exact ⟨by rw [show (⟨r1, r2⟩ : Int × Int) = _ from HE.out] <;> rfl, HB.out⟩
      · have e := HR3.out.trans (if_neg hneg)
        have HE := Lib.hid e
        clear e
        go_wp2_with fail
        go_ret2
        exact ⟨by rw [show (⟨r1, r2⟩ : Int × Int) = _ from HE.out] <;> rfl, HB.out⟩
  · have HE := Lib.hid (HR.out.trans (if_pos hz))
    have t0 : (z == 0) = false := by simpa using hz
    have t0' : (z != 0) = true := by simpa using hz
    clear hz
    go_wp2_with fail
    go_ret2
    exact ⟨by rw [show (⟨r1, r2⟩ : Int × Int) = _ from HE.out] <;> rfl, HB.out⟩

set_option maxRecDepth 100000 in
set_option maxHeartbeats 2000000 in
theorem ClientAsked_calls (p nx : Int) (A : Option Addr) (n c : Nat) (l : List Ev) (x : Four4) (q : Int) (w : World) (h : Rd w w.heap.size 6 A n (evCells l)) (hm : n ≤ maxLen) :
    Calls Try.prog 27 #[.agg #[.int .i64 p, .int .i64 nx, .slice A n c, .int .i64 x.a, .int .i64 x.b, .int .i64 x.c, .int .i64 x.d], .int .i64 q] w (TwoP w (askC p nx l x q)) := by
  have HC := Lib.hid (fun w h => ClientFault_calls p nx A n c l x w h hm)
  have H := Lib.hid h
  have HR : Hid (askC p nx l x q = if cltFault p nx l x ≠ 0 then (0, cltFault p nx l x) else if q < 0 ∨ 3 < q then (0, 2) else if x.at q.toNat < 0 then (0, 7) else (x.at q.toNat, 0)) := Lib.hid rfl
  have HZ : Hid (cltFault p nx l x = 0 → ∀ k, k < 4 → -1 ≤ x.at k ∧ x.at k ≤ 4) := Lib.hid (fun h => (cltFault_zero h).2.2)
  clear h hm
  generalize askC p nx l x q = r at HR ⊢
  obtain ⟨r1, r2⟩ := r
  generalize cltFault p nx l x = z at HC HR HZ
  obtain ⟨xa, xb, xc, xd⟩ := x
  simp only at HC ⊢
  go_enter Try.func27, Try.ntmps27
  go_wp2_with fail
  refine (HC.out _ (by exact H.out.on (by go_grown))).mono ?_
  rintro e w1 ⟨rfl, hb1⟩
  have B0 := (Blk.new w _ _).below hb1 (by simp)
  obtain ⟨c0, c1', c2, c3, c4, c5, c6, cf⟩ := B0.cells7
  have HB : Hid (Below w.heap.size w w1) := Lib.hid (Below.trans (by go_grown) (hb1.mono (by simp)))
  clear hb1
  by_cases hz : z = 0
  · have HV := Lib.hid (HZ.out hz)
    have HR2 := Lib.hid (HR.out.trans (if_neg (by simpa using hz)))
    subst hz
    clear HR
    go_wp2_with fail
    refine (In_calls _ _ _ _).mono ?_
    rintro e w2 ⟨rfl, rfl⟩
    cases i1 : inR q 0 3
    · have := inR_false.1 i1
      have HE := Lib.hid (HR2.out.trans (if_pos (by omega)))
      go_wp2_with fail
      go_ret2
      exact ⟨by rw [show (⟨r1, r2⟩ : Int × Int) = _ from HE.out] <;> rfl, HB.out⟩
    · obtain ⟨q0, q3⟩ := inR_true.1 i1
      have HR3 := Lib.hid (HR2.out.trans (if_neg (by omega)))
      clear HR2
      rcases (show q = 0 ∨ q = 1 ∨ q = 2 ∨ q = 3 by omega) with rfl | rfl | rfl | rfl
      · have hr := HV.out 0 (by omega)
        by_cases hneg : xa < 0
        · have e := HR3.out.trans (if_pos hneg)
          have HE := Lib.hid e
          have t : xa = -1 := by have h1 : -1 ≤ xa := hr.1; omega
          have t' : (xa == -1) = true := by simpa using t
          clear e t hr hneg
          go_wp2_with fail
          go_ret2
          exact ⟨by rw [show (⟨r1, r2⟩ : Int × Int) = _ from HE.out] <;> rfl, HB.out⟩
        · have e := HR3.out.trans (if_neg hneg)
          have HE := Lib.hid e
          have t' : (xa == -1) = false := by rw [beq_eq_false_iff_ne]; omega
          clear e hr hneg
          go_wp2_with fail
          go_ret2
          exact ⟨by rw [show (⟨r1, r2⟩ : Int × Int) = _ from HE.out] <;> rfl, HB.out⟩
      · have hr := HV.out 1 (by omega)
        by_cases hneg : xb < 0
        · have e := HR3.out.trans (if_pos hneg)
          have HE := Lib.hid e
          have t : xb = -1 := by have h1 : -1 ≤ xb := hr.1; omega
          have t' : (xb == -1) = true := by simpa using t
          clear e t hr hneg
          go_wp2_with fail
          go_ret2
          exact ⟨by rw [show (⟨r1, r2⟩ : Int × Int) = _ from HE.out] <;> rfl, HB.out⟩
        · have e := HR3.out.trans (if_neg hneg)
          have HE := Lib.hid e
          have t' : (xb == -1) = false := by rw [beq_eq_false_iff_ne]; omega
          clear e hr hneg
          go_wp2_with fail
          go_ret2
          exact ⟨by rw [show (⟨r1, r2⟩ : Int × Int) = _ from HE.out] <;> rfl, HB.out⟩
      · have hr := HV.out 2 (by omega)
        by_cases hneg : xc < 0
        · have e := HR3.out.trans (if_pos hneg)
          have HE := Lib.hid e
          have t : xc = -1 := by have h1 : -1 ≤ xc := hr.1; omega
          have t' : (xc == -1) = true := by simpa using t
          clear e t hr hneg
          go_wp2_with fail
          go_ret2
          exact ⟨by rw [show (⟨r1, r2⟩ : Int × Int) = _ from HE.out] <;> rfl, HB.out⟩
        · have e := HR3.out.trans (if_neg hneg)
          have HE := Lib.hid e
          have t' : (xc == -1) = false := by rw [beq_eq_false_iff_ne]; omega
          clear e hr hneg
          go_wp2_with fail
          go_ret2
          exact ⟨by rw [show (⟨r1, r2⟩ : Int × Int) = _ from HE.out] <;> rfl, HB.out⟩
      · have hr := HV.out 3 (by omega)
        by_cases hneg : xd < 0
        · have e := HR3.out.trans (if_pos hneg)
          have HE := Lib.hid e
          have t : xd = -1 := by have h1 : -1 ≤ xd := hr.1; omega
          have t' : (xd == -1) = true := by simpa using t
          clear e t hr hneg
          go_wp2_with fail
          go_ret2
          exact ⟨by rw [show (⟨r1, r2⟩ : Int × Int) = _ from HE.out] <;> rfl, HB.out⟩
        · have e := HR3.out.trans (if_neg hneg)
          have HE := Lib.hid e
          have t' : (xd == -1) = false := by rw [beq_eq_false_iff_ne]; omega
          clear e hr hneg
          go_wp2_with fail
          go_ret2
          exact ⟨by rw [show (⟨r1, r2⟩ : Int × Int) = _ from HE.out] <;> rfl, HB.out⟩
  · have HE := Lib.hid (HR.out.trans (if_pos hz))
    have t0 : (z == 0) = false := by simpa using hz
    have t0' : (z != 0) = true := by simpa using hz
    clear hz
    go_wp2_with fail
    go_ret2
    exact ⟨by rw [show (⟨r1, r2⟩ : Int × Int) = _ from HE.out] <;> rfl, HB.out⟩

theorem flat_clt : flat Try.prog 30 25 = some [.at_ (.int .i64), .at_ (.int .i64), .sl 48 [.int .i64, .int .i64, .int .i64, .int .i64, .int .i64, .int .i64], .at_ (.int .i64), .at_ (.int .i64), .at_ (.int .i64), .at_ (.int .i64)] := by kernel_rfl
set_option maxRecDepth 100000 in
theorem arg_client {W : World} {v : Value} (h : ArgOk Try.prog W v 25) : ∃ p nx A n c l, ∃ x : Four4, v = .agg #[.int .i64 p, .int .i64 nx, .slice A n c, .int .i64 x.a, .int .i64 x.b, .int .i64 x.c, .int .i64 x.d] ∧
    Rd W W.heap.size 6 A n (evCells l) ∧ n ≤ c ∧ c ≤ maxLen ∧ c * 48 ≤ reachBytes := by
  obtain ⟨⟨base, hk⟩, l, hl, ha⟩ := h
  rw [flat_clt] at hl
  cases hl
  obtain ⟨cs, rfl, _⟩ := okWide_struct Try.underlying25 hk
  obtain ⟨a1, l1, e, ⟨m1, rfl, _⟩, h3⟩ := All2.cons_ ha
  obtain ⟨a2, l2, rfl, ⟨m2, rfl, _⟩, h4⟩ := All2.cons_ h3
  obtain ⟨a3, l3, rfl, hs, h5⟩ := All2.cons_ h4
  obtain ⟨a4, l4, rfl, ⟨m4, rfl, _⟩, h6⟩ := All2.cons_ h5
  obtain ⟨a5, l5, rfl, ⟨m5, rfl, _⟩, h7⟩ := All2.cons_ h6
  obtain ⟨a6, l6, rfl, ⟨m6, rfl, _⟩, h8⟩ := All2.cons_ h7
  obtain ⟨a7, l7, rfl, ⟨m7, rfl, _⟩, h9⟩ := All2.cons_ h8
  have h10 := All2.nil_ h9
  subst h10
  obtain ⟨A, n, c, l, rfl, hr, hn, hc, hb, _⟩ := open_events hs
  refine ⟨m1, m2, A, n, c, l, ⟨m4, m5, m6, m7⟩, ?_, hr, hn, hc, hb⟩
  congr 1
  exact Array.toList_inj.1 e
end Go.Proofs.Ytidmifejdbgngaa
