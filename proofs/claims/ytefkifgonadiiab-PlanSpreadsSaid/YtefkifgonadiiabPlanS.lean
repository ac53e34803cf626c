/- Contracts: plan.Spread, ref.SpreadOf, berthshiftlaw.loads; 'berthshiftlaw.PlanSpreads' returns true. -/
import Derived.Test.YtefkifgonadiiabPlanB
namespace Go.Proofs.Ytefkifgonadiiab
open Go.ChangeShapes Go.WideShapes Go.RowKit

/-- P9.2. -/
noncomputable def spreadM (l : List Ld) (nodes : Int) : Int × Int :=
  if ldsFault l nodes ≠ 0 then (0, ldsFault l nodes) else (workAt l (mostTo (fun j => workAt l j) nodes.toNat : Nat) - workAt l (leastTo (fun j => workAt l j) nodes.toNat : Nat), 0)
def TwoPost (w : World) (r : Int × Int) (e : Ending) (w' : World) : Prop := e = .returned (.tuple #[.int .i64 r.1, .int .i64 r.2]) ∧ Below w.heap.size w w'

theorem ldsOk_each {nodes : Int} {l : List Ld} (h : ldsOk nodes l) : ∀ x ∈ l, 0 ≤ x.work ∧ x.work ≤ 1073741824 ∧ 0 ≤ x.node ∧ x.node < nodes := by
  intro x hx
  obtain ⟨k, hk⟩ := List.getElem?_of_mem hx
  have := h k x hk
  unfold ldOk at this
  omega

set_option maxRecDepth 100000 in
set_option maxHeartbeats 2000000 in
theorem Spread_calls (A : Option Addr) (n c : Nat) (l : List Ld) (nodes : Int) (w : World) (h : Rd w w.heap.size 3 A n (recCells l)) (hm : n ≤ maxLen) :
    Calls Try.prog 10 #[.slice A n c, .int .i64 nodes] w (TwoPost w (spreadM l nodes)) := by
  have HC := Lib.hid (fun w h => pcheck_calls A n c l nodes w h hm)
  have H := Lib.hid h
  have HZ := Lib.hid (ldsFault_zero (l := l) (nodes := nodes))
  have HS : Hid (∀ r, r = spreadM l nodes → r = if ldsFault l nodes ≠ 0 then (0, ldsFault l nodes) else (workAt l (mostTo (fun j => workAt l j) nodes.toNat : Nat) - workAt l (leastTo (fun j => workAt l j) nodes.toNat : Nat), 0)) := Lib.hid (fun r h => h)
  generalize hr : spreadM l nodes = r
  have HR := Lib.hid (HS.out r hr.symm)
  clear h hm hr HS
  obtain ⟨r1, r2⟩ := r
  generalize ldsFault l nodes = z at HC HZ HR
  go_enter Try.func10, Try.ntmps10
  go_wp2_with fail
  refine (HC.out _ H.out).mono ?_
  rintro e w1 ⟨rfl, hb1⟩
  by_cases hz : z = 0
  · obtain ⟨h1, h5, ho⟩ := HZ.out hz
    have e := HR.out
    rw [if_neg (by omega)] at e
    subst hz
    obtain ⟨m, hm⟩ := Int.eq_ofNat_of_zero_le (show 0 ≤ nodes by omega)
    subst hm
    rw [Int.toNat_natCast] at e
    have HR := Lib.hid e
    clear e
    have hlen := ldsOk_len ho
    have hl := H.out.ld_len
    have H1 := Lib.hid (H.out.on hb1)
    have HE := Lib.hid (ldsOk_each ho)
    have HB1 := Lib.hid hb1
    have HW := Lib.hid (fun (j : Int) => workAt_bounds (l := l) (fun x hx => ⟨(HE.out x hx).1, (HE.out x hx).2.1⟩) j l.length (Nat.le_refl _))
    have m0 := mostTo_lt (fun j => workAt l j) m (by omega)
    have m1 := leastTo_lt (fun j => workAt l j) m (by omega)
    clear hb1 ho
    go_wp2_with fail
    refine (sums_calls A n c m l _ H1.out (by omega) (by omega) (by omega) HE.out).mono ?_
    rintro e w2 ⟨b, rfl, hb2, hbw, hblk⟩
    have e := HR.out
    generalize hf : (fun j : Nat => workAt l j) = f at hblk m0 m1 e ⊢
    have HF : Hid (∀ j : Nat, workAt l j = f j) := Lib.hid (fun j => congrFun hf j)
    clear hf
    rw [HF.out, HF.out] at e
    have HR := Lib.hid e
    clear e
    have HB2 := Lib.hid (HB1.out.trans (hb2.mono HB1.out.size))
    have HK := Lib.hid (fun (j : Nat) (hj : j < m) => hblk.cell (hsRow_get f hj))
    clear hb2 hblk
    go_wp2_with fail
    refine (ends_calls b m m f _ HK.out (by omega) (by omega)).mono ?_
    rintro e w3 ⟨rfl, rfl⟩
    have b0 := HW.out (mostTo f m : Nat)
    have b1 := HW.out (leastTo f m : Nat)
    rw [List.take_length, HF.out] at b0 b1
    have e := HR.out
    generalize mostTo f m = p at m0 b0 e ⊢
    generalize leastTo f m = q at m1 b1 e ⊢
    have HR := Lib.hid e
    clear e
    have c0 := HK.out p m0
    have c1 := HK.out q m1
    go_wp2_with fail
    go_quiet (fail)
    go_wp2_with fail
    go_ret2
    exact ⟨by rw [show (⟨r1, r2⟩ : Int × Int) = _ from HR.out]; rfl, bdrewN HB2.out _⟩
  · have e := HR.out
    rw [if_pos hz] at e
    have HR := Lib.hid e
    clear e
    go_wp2_with fail
    go_ret2
    exact ⟨by rw [show (⟨r1, r2⟩ : Int × Int) = _ from HR.out]; rfl, hb1⟩

set_option maxRecDepth 100000 in
set_option maxHeartbeats 2000000 in
theorem SpreadOf_calls (A : Option Addr) (n c : Nat) (l : List Ld) (nodes : Int) (w : World) (h : Rd w w.heap.size 3 A n (recCells l)) (hm : n ≤ maxLen) :
    Calls Try.prog 12 #[.slice A n c, .int .i64 nodes] w (TwoPost w (spreadM l nodes)) := by
  have HC := Lib.hid (fun w h => LoadsFault_calls A n c l nodes w h hm)
  have H := Lib.hid h
  have HZ := Lib.hid (ldsFault_zero (l := l) (nodes := nodes))
  have HS : Hid (∀ r, r = spreadM l nodes → r = if ldsFault l nodes ≠ 0 then (0, ldsFault l nodes) else (workAt l (mostTo (fun j => workAt l j) nodes.toNat : Nat) - workAt l (leastTo (fun j => workAt l j) nodes.toNat : Nat), 0)) := Lib.hid (fun r h => h)
  generalize hr : spreadM l nodes = r
  have HR := Lib.hid (HS.out r hr.symm)
  clear h hm hr HS
  obtain ⟨r1, r2⟩ := r
  generalize ldsFault l nodes = z at HC HZ HR
  go_enter Try.func12, Try.ntmps12
  go_wp2_with fail
  refine (HC.out _ H.out).mono ?_
  rintro e w1 ⟨rfl, hb1⟩
  by_cases hz : z = 0
  · obtain ⟨h1, h5, ho⟩ := HZ.out hz
    have e := HR.out
    rw [if_neg (by omega)] at e
    subst hz
    obtain ⟨m, hm⟩ := Int.eq_ofNat_of_zero_le (show 0 ≤ nodes by omega)
    subst hm
    rw [Int.toNat_natCast] at e
    have HR := Lib.hid e
    clear e
    have hlen := ldsOk_len ho
    have hl := H.out.ld_len
    have H1 := Lib.hid (H.out.on hb1)
    have HE := Lib.hid (ldsOk_each ho)
    have HB1 := Lib.hid hb1
    have HW := Lib.hid (fun (j : Int) => workAt_bounds (l := l) (fun x hx => ⟨(HE.out x hx).1, (HE.out x hx).2.1⟩) j l.length (Nat.le_refl _))
    clear hb1 ho
    go_wp2_with fail
    refine (busiest_calls A n c m l _ H1.out (by omega) (by omega) (by omega) (fun x hx => ⟨(HE.out x hx).1, (HE.out x hx).2.1⟩)).mono ?_
    rintro e w2 ⟨rfl, rfl⟩
    have e := HR.out
    generalize mostTo (fun j : Nat => workAt l j) m = p at e ⊢
    generalize leastTo (fun j : Nat => workAt l j) m = q at e ⊢
    have HR := Lib.hid e
    clear e
    have b0 := HW.out (p : Nat)
    have b1 := HW.out (q : Nat)
    rw [List.take_length] at b0 b1
    go_wp2_with fail
    refine (workAt_calls A n c l p _ H1.out (by omega) (fun x hx => ⟨(HE.out x hx).1, (HE.out x hx).2.1⟩)).mono ?_
    rintro e w2 ⟨rfl, rfl⟩
    go_wp2_with fail
    refine (workAt_calls A n c l q _ H1.out (by omega) (fun x hx => ⟨(HE.out x hx).1, (HE.out x hx).2.1⟩)).mono ?_
    rintro e w2 ⟨rfl, rfl⟩
    go_wp2_with fail
    go_ret2
    exact ⟨by rw [show (⟨r1, r2⟩ : Int × Int) = _ from HR.out]; rfl, HB1.out⟩
  · have e := HR.out
    rw [if_pos hz] at e
    have HR := Lib.hid e
    clear e
    go_wp2_with fail
    go_ret2
    exact ⟨by rw [show (⟨r1, r2⟩ : Int × Int) = _ from HR.out]; rfl, hb1⟩

theorem ld_info : (Try.prog.info? 58).map (fun i => (i.zero, i.size, i.bytes)) = some (some (.agg #[.int .i64 0, .int .i64 0, .int .i64 0]), 3, 24) := by kernel_rfl
set_option maxHeartbeats 400000 in
theorem loads_calls (A : Option Addr) (n c : Nat) (l : List Ld) (w : World) (h : Rd w w.heap.size 3 A n (recCells l)) (hc : n * 24 ≤ reachBytes) :
    Calls Try.prog 11 #[.slice A n c] w (OwnPost w 58 3 n (recCells l)) := by
  have hc' : n * 24 ≤ 140737488351232 := hc
  obtain ⟨i0, hi0, hz0, hz1, hz2⟩ := info_parts ld_info
  go_enter Try.func11, Try.ntmps11
  go_wp2_with (at_builtin; refine wpList_append_any _ rfl (.const (.slice none 0 0)) (.tmp 3) _ rfl w.heap.size 58 i0 _ 3 24 Try.underlying37 hi0 hz0 hz1 hz2 rfl (by omega) (.slice none 0 0) 0 [] rfl (ownsRow_nil_ _ _ _ _) w.heap.size A n c (recCells l) rfl h (recCells_one l) (by simp only [maxLen]; omega) (by omega) (Nat.le_refl _) ?_; intro v1 w1 hown1 hg1 hat1)
  go_ret
  obtain ⟨A1, c1, rfl, _⟩ := own_form hown1
  simp only [Nat.zero_add, List.nil_append] at hown1 ⊢
  exact ⟨A1, c1, rfl, (Below.refl _ _).grown hg1 (Nat.le_refl _) (by simp [Value.ownBlock]), hown1⟩

theorem flat_loads : flat Try.prog 30 37 = some [.sl 24 [.int .i64, .int .i64, .int .i64]] := by kernel_rfl
set_option maxRecDepth 100000 in
theorem arg_loads {W : World} {v : Value} (h : ArgOk Try.prog W v 37) : ∃ A n c, ∃ l : List Ld, v = .slice A n c ∧ Rd W W.heap.size 3 A n (recCells l) ∧ n ≤ c ∧ c ≤ maxLen ∧ c * 24 ≤ reachBytes ∧ (A = none → c = 0) := by
  obtain ⟨⟨base, hk⟩, l, hl, ha⟩ := h
  rw [flat_loads] at hl
  cases hl
  obtain ⟨A, n, c, rfl⟩ := okWide_slice Try.underlying37 hk
  obtain ⟨a, l1, e, h1, _⟩ := All2.cons_ ha
  simp [Value.cells] at e
  obtain ⟨rfl, _⟩ := e
  obtain ⟨A', n', c', l, e, hr, hn, hc, hb, h0⟩ := open_recs (α := Ld) h1
  simp only [Value.slice.injEq] at e
  obtain ⟨rfl, rfl, rfl⟩ := e
  exact ⟨A, n, c, l, rfl, hr, hn, hc, hb, h0⟩
end Go.Proofs.Ytefkifgonadiiab
