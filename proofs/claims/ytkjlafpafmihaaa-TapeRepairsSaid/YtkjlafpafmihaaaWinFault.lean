/- Contract: ref.WindowFault. -/
import Derived.Test.YtkjlafpafmihaaaWinLaw
import Derived.Deep.RegionHeld3
namespace Go.Proofs.Ytkjlafpafmihaaa
open Go.ChangeShapes Go.WideShapes Go.RowKit

def winSh : List Sh := [.at_ (.int .i64), .at_ .bool, .at_ .bool, .at_ .bool, .at_ .bool, .at_ .bool, .at_ .bool, .at_ .bool, .at_ .bool]
theorem flat_win : flat Try.prog 30 26 = some winSh := by kernel_rfl
theorem eqOk_win : eqOk Try.prog 30 26 = true := by kernel_rfl
theorem mkV_win (xs : List Value) : mkV Try.prog 26 xs = .agg xs.toArray := by
  unfold mkV
  rw [Try.underlying26]
theorem Win.kd (a : Win) : All2 Kd a.cells winSh := ⟨⟨_, rfl⟩, ⟨_, rfl⟩, ⟨_, rfl⟩, ⟨_, rfl⟩, ⟨_, rfl⟩, ⟨_, rfl⟩, ⟨_, rfl⟩, ⟨_, rfl⟩, ⟨_, rfl⟩, trivial⟩
theorem Win.cellsEq_ (a b : Win) : cellsEq a.cells b.cells = decide (a = b) := by
  obtain ⟨a1, a2, a3, a4, a5, a6, a7, a8, a9⟩ := a
  obtain ⟨b1, b2, b3, b4, b5, b6, b7, b8, b9⟩ := b
  simp only [Win.cells, cellsEq, cellEq, Win.mk.injEq, Bool.and_true]
  rw [Bool.eq_iff_iff]
  simp
theorem run_neq_win (a b : Win) (w : World) : (binOp .neq 26 (.agg #[.int .i64 a.top, .bool a.b0, .bool a.b1, .bool a.b2, .bool a.b3, .bool a.b4, .bool a.b5, .bool a.b6, .bool a.b7])
    (.agg #[.int .i64 b.top, .bool b.b0, .bool b.b1, .bool b.b2, .bool b.b3, .bool b.b4, .bool b.b5, .bool b.b6, .bool b.b7])).run Try.prog w = .ok (.bool (!decide (a = b))) w := by
  rw [← Win.cellsEq_]
  exact run_neq_cells (P := Try.prog) w flat_win eqOk_win mkV_win a.kd b.kd
theorem run_eql_win (a b : Win) (w : World) : (binOp .eql 26 (.agg #[.int .i64 a.top, .bool a.b0, .bool a.b1, .bool a.b2, .bool a.b3, .bool a.b4, .bool a.b5, .bool a.b6, .bool a.b7])
    (.agg #[.int .i64 b.top, .bool b.b0, .bool b.b1, .bool b.b2, .bool b.b3, .bool b.b4, .bool b.b5, .bool b.b6, .bool b.b7])).run Try.prog w = .ok (.bool (decide (a = b))) w := by
  rw [← Win.cellsEq_]
  exact run_eql_cells (P := Try.prog) w flat_win eqOk_win mkV_win a.kd b.kd

theorem ids_last {t : Int} {f : Nat → Bool} (k : Nat) : ∀ x ∈ idsTo t f k, x ≤ (idsTo t f k).getLastD 0 := by
  induction k with
  | zero => simp [idsTo]
  | succ k ih =>
    intro x hx
    unfold idsTo at hx ⊢
    split
    · rename_i hf
      rw [if_pos hf] at hx
      have e : (idsTo t f k ++ [t - 8 + (k : Int)]).getLastD 0 = t - 8 + k := by simp
      rw [e]
      rcases List.mem_append.1 hx with h | h
      · have := idsTo_lt t f k x h; omega
      · simp at h; omega
    · rename_i hf
      rw [if_neg hf] at hx
      exact ih x hx

theorem windowOf_ids (A : Option Addr) (n c : Nat) (t : Int) (f : Nat → Bool) (w : World) (h : Rd w w.heap.size 1 A n (intCells (idsTo t f 8))) (h0 : 0 ≤ t) (h1 : t ≤ 1073741825) :
    Calls Try.prog 167 #[.slice A n c] w (WinPost w (winOf (idsTo t f 8))) := by
  have hl := h.int_len
  have h8 := idsTo_len t f 8
  rcases Nat.eq_zero_or_pos n with hn | hn
  · subst hn
    have e : idsTo t f 8 = [] := List.eq_nil_of_length_eq_zero hl
    rw [e]
    exact windowOf_nil A c w
  · have hne : idsTo t f 8 ≠ [] := by
      intro e
      rw [e] at hl
      simp at hl
      omega
    have hmem : (idsTo t f 8).getLastD 0 ∈ idsTo t f 8 := by
      rw [List.getLastD_eq_getLast?, List.getLast?_eq_some_getLast hne]
      exact List.getLast_mem hne
    have hlast := idsTo_lt t f 8 _ hmem
    exact windowOf_cons A n c _ w h hn (by omega) (fun x hx => ⟨by have := idsTo_lt t f 8 x hx; omega, ids_last 8 x hx⟩) (by omega)

set_option maxRecDepth 100000 in
set_option maxHeartbeats 4000000 in
theorem WindowFault_range (x : Win) (w : World) (h : inR x.top 0 1073741825 = false) : Calls Try.prog 108 #[x.val] w (IntPostW w 6) := by
  obtain ⟨t, b0, b1, b2, b3, b4, b5, b6, b7⟩ := x
  unfold Win.val
  simp only at h
  go_enter Try.func108, Try.ntmps108
  go_wp2_with (go_at_call 107; refine (In_calls _ _ _ _).mono ?_; rintro e w' ⟨rfl, rfl⟩)
  go_ret
  exact ⟨rfl, by go_grown⟩

set_option maxRecDepth 100000 in
set_option maxHeartbeats 4000000 in
theorem WindowFault_in (x : Win) (w : World) (h : inR x.top 0 1073741825 = true) : Calls Try.prog 108 #[x.val] w
    (IntPostW w (if headNeg (idsTo x.top x.at 8) = true then 6 else if x = winOf (idsTo x.top x.at 8) then 0 else 6)) := by
  have hr := inR_true.1 h
  have HI := Lib.hid fun w => idsOf_calls x w hr.1 hr.2
  have HW := Lib.hid fun A n c w hh => windowOf_ids A n c x.top x.at w hh hr.1 hr.2
  generalize hids : idsTo x.top x.at 8 = l at HI HW ⊢
  generalize hwin : winOf l = y at HW ⊢
  clear hids hwin hr
  generalize hfin : (if headNeg l = true then (6 : Int) else if x = y then 0 else 6) = z
  have HZ := Lib.hid hfin
  clear hfin
  obtain ⟨t, b0, b1, b2, b3, b4, b5, b6, b7⟩ := x
  obtain ⟨t', d0, d1, d2, d3, d4, d5, d6, d7⟩ := y
  have hq := run_neq_win ⟨t, b0, b1, b2, b3, b4, b5, b6, b7⟩ ⟨t', d0, d1, d2, d3, d4, d5, d6, d7⟩
  simp only at hq
  generalize hd : decide ((⟨t, b0, b1, b2, b3, b4, b5, b6, b7⟩ : Win) = ⟨t', d0, d1, d2, d3, d4, d5, d6, d7⟩) = dq at hq
  have HD := Lib.hid hd
  clear hd
  unfold Win.val WinPost at *
  unfold Win.val at *
  simp only at h
  go_enter Try.func108, Try.ntmps108
  go_wp2_with fail
  refine (In_calls _ _ _ _).mono ?_
  rintro e w' ⟨rfl, rfl⟩
  go_wp2_with fail
  refine (HI.out _).mono ?_
  rintro e w1 ⟨A1, n1, c1, rfl, hn1, hb1, hr1⟩
  have HN := Lib.hid hn1
  have HR := Lib.hid hr1
  have HB : Hid (Below w.heap.size w w1) := Lib.hid (Below.trans (by go_grown) (hb1.mono (by simp)))
  have hz : w.heap.size < w1.heap.size := by have := hb1.size; simp at this; omega
  have c0 := hb1.cell (p := ⟨w.heap.size, 0, none⟩) (by simp)
  have c1' := hb1.cell (p := ⟨w.heap.size, 1, none⟩) (by simp)
  have c2 := hb1.cell (p := ⟨w.heap.size, 2, none⟩) (by simp)
  have c3 := hb1.cell (p := ⟨w.heap.size, 3, none⟩) (by simp)
  have c4 := hb1.cell (p := ⟨w.heap.size, 4, none⟩) (by simp)
  have c5 := hb1.cell (p := ⟨w.heap.size, 5, none⟩) (by simp)
  have c6 := hb1.cell (p := ⟨w.heap.size, 6, none⟩) (by simp)
  have c7 := hb1.cell (p := ⟨w.heap.size, 7, none⟩) (by simp)
  have c8 := hb1.cell (p := ⟨w.heap.size, 8, none⟩) (by simp)
  simp only [World.cell?_alloc_mark] at c0 c1' c2 c3 c4 c5 c6 c7 c8
  simp at c0 c1' c2 c3 c4 c5 c6 c7 c8
  clear hb1 hr1 hn1
  cases l with
  | nil =>
    have hn : n1 = 0 := HN.out
    have HZ' : Hid ((if (⟨t, b0, b1, b2, b3, b4, b5, b6, b7⟩ : Win) = ⟨t', d0, d1, d2, d3, d4, d5, d6, d7⟩ then (0 : Int) else 6) = z) := (if_neg (by simp [headNeg])).symm.trans HZ.out
    have hd0 : decide (0 < n1) = false := by simp; omega
    clear hn
    go_wp2_with fail
    refine wp_region_any (by kernel_rfl) ?_
    change wpAny _ _ _ _ _ _ _ (World.drew _)
    refine wpAny_take (i := 0) (v := ?_) rfl (by kernel_rfl) (by kernel_rfl) (by kernel_rfl) (fun _ _ _ h => h) (Or.inl ⟨by kernel_rfl, ?_⟩) ?_
    case refine_2 => intro w; go_simp; try (with_reducible rfl)
    refine wpAny_take (i := 1) (v := ?_) rfl (by kernel_rfl) (by kernel_rfl) (by kernel_rfl) (fun _ _ _ h => h) (Or.inl ⟨by kernel_rfl, ?_⟩) ?_
    case refine_2 => intro w; go_simp; try (with_reducible rfl)
    refine wpAny_take (i := 2) (v := ?_) rfl (by kernel_rfl) (by kernel_rfl) (by kernel_rfl) (fun _ _ _ h => h) (Or.inl ⟨by kernel_rfl, ?_⟩) ?_
    case refine_2 => intro w; go_simp; try (with_reducible rfl)
    refine wpAny_take (i := 3) (v := ?_) rfl (by kernel_rfl) (by kernel_rfl) (by kernel_rfl) (fun _ _ _ h => h) (Or.inl ⟨by kernel_rfl, ?_⟩) ?_
    case refine_2 => intro w; go_simp; try (with_reducible rfl)
    refine wpAny_take (i := 4) (v := undef) rfl (by kernel_rfl) (by kernel_rfl) (by kernel_rfl) (fun _ _ _ h => h) (Or.inr ⟨by kernel_rfl, rfl⟩) ?_
    refine wpAny_take (i := 5) (v := undef) rfl (by kernel_rfl) (by kernel_rfl) (by kernel_rfl) (fun _ _ _ h => h) (Or.inr ⟨by kernel_rfl, rfl⟩) ?_
    refine wpAny_take (i := 6) (v := undef) rfl (by kernel_rfl) (by kernel_rfl) (by kernel_rfl) (fun _ _ _ h => h) (Or.inr ⟨by kernel_rfl, rfl⟩) ?_
    refine wpAny_take (i := 7) (v := undef) rfl (by kernel_rfl) (by kernel_rfl) (by kernel_rfl) (fun _ _ _ h => h) (Or.inr ⟨by kernel_rfl, rfl⟩) ?_
    refine wpAny_take (i := 8) (v := ?_) rfl (by kernel_rfl) (by kernel_rfl) (by kernel_rfl) (fun _ _ _ h => h) (Or.inl ⟨by kernel_rfl, ?_⟩) ?_
    case refine_2 => intro w; go_simp; try (with_reducible rfl)
    refine wpAny_take (i := 9) (v := ?_) rfl (by kernel_rfl) (by kernel_rfl) (by kernel_rfl) (fun _ _ _ h => h) (Or.inl ⟨by kernel_rfl, ?_⟩) ?_
    case refine_2 => intro w; go_simp; try (with_reducible rfl)
    refine wpAny_take (i := 11) (v := ?_) rfl (by kernel_rfl) (by kernel_rfl) (by kernel_rfl) (fun _ _ _ h => h) (Or.inl ⟨by kernel_rfl, ?_⟩) ?_
    case refine_2 => intro w; go_simp; try (with_reducible rfl)
    refine wpAny_ready (rs := [10, 12]) (by kernel_rfl) (by simp) ?_
    refine AllReady.cons rfl (fun K hK => ?_) (AllReady.cons rfl (fun K hK => ?_) AllReady.nil)
    · go_simp
      refine hK _ _ ?_
      clear hK K
      refine wpAny_ready (rs := [12]) (by kernel_rfl) (by simp) ?_
      refine AllReady.cons rfl (fun K hK => ?_) AllReady.nil
      go_simp
      go_wp2_with (go_at_call 167; refine (HW.out A1 n1 c1 _ (by exact HR.out)).mono ?_; rintro e w2 ⟨rfl, hb2⟩; have hb2 : Below w1.heap.size w1 w2 := ⟨hb2.os, hb2.tape, hb2.output, hb2.size, hb2.block⟩; have x0 := hb2.cell (p := ⟨w.heap.size, 0, none⟩) hz; have x1 := hb2.cell (p := ⟨w.heap.size, 1, none⟩) hz; have x2 := hb2.cell (p := ⟨w.heap.size, 2, none⟩) hz; have x3 := hb2.cell (p := ⟨w.heap.size, 3, none⟩) hz; have x4 := hb2.cell (p := ⟨w.heap.size, 4, none⟩) hz; have x5 := hb2.cell (p := ⟨w.heap.size, 5, none⟩) hz; have x6 := hb2.cell (p := ⟨w.heap.size, 6, none⟩) hz; have x7 := hb2.cell (p := ⟨w.heap.size, 7, none⟩) hz; have x8 := hb2.cell (p := ⟨w.heap.size, 8, none⟩) hz; rw [c0] at x0; rw [c1'] at x1; rw [c2] at x2; rw [c3] at x3; rw [c4] at x4; rw [c5] at x5; rw [c6] at x6; rw [c7] at x7; rw [c8] at x8)
      refine wpAny_take (i := 13) (v := ?_) rfl (by kernel_rfl) (by kernel_rfl) (by kernel_rfl) (fun _ _ _ h => h) (Or.inl ⟨by kernel_rfl, ?_⟩) ?_
      case refine_2 => intro w; go_simp; try (with_reducible rfl)
      refine wpAny_take (i := 14) (v := ?_) rfl (by kernel_rfl) (by kernel_rfl) (by kernel_rfl) (fun _ _ _ h => h) (Or.inl ⟨by kernel_rfl, ?_⟩) ?_
      case refine_2 => intro w; go_simp; try (with_reducible rfl)
      refine wpAny_done (by kernel_rfl) ?_ _
      have HB2 : Hid (Below w1.heap.size w1 w2) := Lib.hid hb2
      clear hb2
      cases dq
      all_goals go_wp2_with fail
      all_goals go_ret
      all_goals (have e := HZ'.out)
      all_goals first | rw [if_neg (of_decide_eq_false HD.out)] at e | rw [if_pos (of_decide_eq_true HD.out)] at e
      all_goals subst e
      all_goals exact ⟨rfl, HB.out.trans (HB2.out.mono (by omega))⟩
    · go_simp
      go_wp2_with (go_at_call 167; refine (HW.out A1 n1 c1 _ (by exact HR.out)).mono ?_; rintro e w2 ⟨rfl, hb2⟩; have hb2 : Below w1.heap.size w1 w2 := ⟨hb2.os, hb2.tape, hb2.output, hb2.size, hb2.block⟩; have x0 := hb2.cell (p := ⟨w.heap.size, 0, none⟩) hz; have x1 := hb2.cell (p := ⟨w.heap.size, 1, none⟩) hz; have x2 := hb2.cell (p := ⟨w.heap.size, 2, none⟩) hz; have x3 := hb2.cell (p := ⟨w.heap.size, 3, none⟩) hz; have x4 := hb2.cell (p := ⟨w.heap.size, 4, none⟩) hz; have x5 := hb2.cell (p := ⟨w.heap.size, 5, none⟩) hz; have x6 := hb2.cell (p := ⟨w.heap.size, 6, none⟩) hz; have x7 := hb2.cell (p := ⟨w.heap.size, 7, none⟩) hz; have x8 := hb2.cell (p := ⟨w.heap.size, 8, none⟩) hz; rw [c0] at x0; rw [c1'] at x1; rw [c2] at x2; rw [c3] at x3; rw [c4] at x4; rw [c5] at x5; rw [c6] at x6; rw [c7] at x7; rw [c8] at x8)
      refine wpAny_ready (rs := [10]) (by kernel_rfl) (by simp) ?_
      refine AllReady.cons rfl (fun K hK => ?_) AllReady.nil
      go_simp
      refine hK _ _ ?_
      clear hK K
      refine wpAny_take (i := 13) (v := ?_) rfl (by kernel_rfl) (by kernel_rfl) (by kernel_rfl) (fun _ _ _ h => h) (Or.inl ⟨by kernel_rfl, ?_⟩) ?_
      case refine_2 => intro w; go_simp; try (with_reducible rfl)
      refine wpAny_take (i := 14) (v := ?_) rfl (by kernel_rfl) (by kernel_rfl) (by kernel_rfl) (fun _ _ _ h => h) (Or.inl ⟨by kernel_rfl, ?_⟩) ?_
      case refine_2 => intro w; go_simp; try (with_reducible rfl)
      refine wpAny_done (by kernel_rfl) ?_ _
      have HB2 : Hid (Below w1.heap.size w1 w2) := Lib.hid hb2
      clear hb2
      cases dq
      all_goals go_wp2_with fail
      all_goals go_ret
      all_goals (have e := HZ'.out)
      all_goals first | rw [if_neg (of_decide_eq_false HD.out)] at e | rw [if_pos (of_decide_eq_true HD.out)] at e
      all_goals subst e
      all_goals exact ⟨rfl, HB.out.trans (HB2.out.mono (by omega))⟩
  | cons a r =>
    have hlen : n1 = r.length + 1 := HN.out
    have hpos : 0 < n1 := by omega
    have hpos' : (0 : Int) < (n1 : Int) := by omega
    have hd0 : decide (0 < n1) = true := by simp; omega
    clear hlen
    obtain ⟨bA, offA, y, hA, hbA, hy, hcA⟩ := HR.out.int_at hpos
    simp at hy
    subst hy
    subst hA
    rw [Nat.add_zero] at hcA
    by_cases ha : a < 0
    · have e := HZ.out
      rw [if_pos (by simp [headNeg, ha])] at e
      subst e
      go_wp2_with fail
      go_quiet (fail)
      go_wp2_with fail
      go_ret
      exact ⟨rfl, HB.out.trans ⟨rfl, rfl, rfl, Nat.le_refl _, fun _ _ => rfl⟩⟩
    · have HZ' : Hid ((if (⟨t, b0, b1, b2, b3, b4, b5, b6, b7⟩ : Win) = ⟨t', d0, d1, d2, d3, d4, d5, d6, d7⟩ then (0 : Int) else 6) = z) := (if_neg (by simp [headNeg, ha])).symm.trans HZ.out
      have hda : decide (a < 0) = false := by simpa using ha
      go_wp2_with fail
      go_region_with (go_at_call 167; refine (HW.out (some ⟨bA, offA, none⟩) n1 c1 _ (by exact HR.out)).mono ?_; rintro e w2 ⟨rfl, hb2⟩; have hb2 : Below w1.heap.size w1 w2 := ⟨hb2.os, hb2.tape, hb2.output, hb2.size, hb2.block⟩; have x0 := hb2.cell (p := ⟨w.heap.size, 0, none⟩) hz; have x1 := hb2.cell (p := ⟨w.heap.size, 1, none⟩) hz; have x2 := hb2.cell (p := ⟨w.heap.size, 2, none⟩) hz; have x3 := hb2.cell (p := ⟨w.heap.size, 3, none⟩) hz; have x4 := hb2.cell (p := ⟨w.heap.size, 4, none⟩) hz; have x5 := hb2.cell (p := ⟨w.heap.size, 5, none⟩) hz; have x6 := hb2.cell (p := ⟨w.heap.size, 6, none⟩) hz; have x7 := hb2.cell (p := ⟨w.heap.size, 7, none⟩) hz; have x8 := hb2.cell (p := ⟨w.heap.size, 8, none⟩) hz; rw [c0] at x0; rw [c1'] at x1; rw [c2] at x2; rw [c3] at x3; rw [c4] at x4; rw [c5] at x5; rw [c6] at x6; rw [c7] at x7; rw [c8] at x8)
      all_goals (have HB2 : Hid (Below w1.heap.size w1 w2) := Lib.hid hb2)
      all_goals clear hb2
      all_goals cases dq
      all_goals go_wp2_with fail
      all_goals go_ret
      all_goals (have e := HZ'.out)
      all_goals first | rw [if_neg (of_decide_eq_false HD.out)] at e | rw [if_pos (of_decide_eq_true HD.out)] at e
      all_goals subst e
      all_goals exact ⟨rfl, HB.out.trans (HB2.out.mono (by omega))⟩
theorem WindowFault_calls (x : Win) (w : World) : Calls Try.prog 108 #[x.val] w (IntPostW w (winFault x)) := by
  rw [← winFaultRef_eq]
  unfold winFaultRef
  cases h : inR x.top 0 1073741825
  · rw [if_pos (by have := inR_false.1 h; omega)]
    exact WindowFault_range x w h
  · rw [if_neg (by have := inR_true.1 h; omega)]
    exact WindowFault_in x w h

set_option maxRecDepth 100000 in
theorem arg_window {W : World} {v : Value} (h : ArgOk Try.prog W v 26) : ∃ x : Win, v = x.val := by
  obtain ⟨⟨base, hk⟩, l, hl, ha⟩ := h
  rw [flat_win] at hl
  cases hl
  obtain ⟨cs, rfl, _⟩ := okWide_struct Try.underlying26 hk
  obtain ⟨a1, l1, e, ⟨m1, rfl, _⟩, h3⟩ := All2.cons_ ha
  obtain ⟨a2, l2, rfl, ⟨m2, rfl⟩, h4⟩ := All2.cons_ h3
  obtain ⟨a3, l3, rfl, ⟨m3, rfl⟩, h5⟩ := All2.cons_ h4
  obtain ⟨a4, l4, rfl, ⟨m4, rfl⟩, h6⟩ := All2.cons_ h5
  obtain ⟨a5, l5, rfl, ⟨m5, rfl⟩, h7⟩ := All2.cons_ h6
  obtain ⟨a6, l6, rfl, ⟨m6, rfl⟩, h8⟩ := All2.cons_ h7
  obtain ⟨a7, l7, rfl, ⟨m7, rfl⟩, h9⟩ := All2.cons_ h8
  obtain ⟨a8, l8, rfl, ⟨m8, rfl⟩, h10⟩ := All2.cons_ h9
  obtain ⟨a9, l9, rfl, ⟨m9, rfl⟩, h11⟩ := All2.cons_ h10
  have h12 := All2.nil_ h11
  subst h12
  refine ⟨⟨m1, m2, m3, m4, m5, m6, m7, m8, m9⟩, ?_⟩
  simp only [Value.cells] at e
  unfold Win.val
  congr 1
  exact Array.toList_inj.1 e
end Go.Proofs.Ytkjlafpafmihaaa
