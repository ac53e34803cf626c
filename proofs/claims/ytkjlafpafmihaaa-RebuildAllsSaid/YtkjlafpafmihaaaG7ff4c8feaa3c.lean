/- Parts of proofs: lemmas on memory, on single functions and on the plain models; no condition of their own. -/
import Derived.Test.YtkjlafpafmihaaaRows
import Derived.WalkKit
import Derived.ProofKit
import Derived.OpenShut
import Derived.SizedLaws
import Derived.WalkSpells
import Derived.WalkLawsBesides
import Derived.Handy
import Derived.Deep.QuietTactic
import Derived.BigQuiet
import Derived.Lib.Hide
import Derived.Maps.AppendAt
import Derived.Deep.AppendLies
import Derived.RegionTactic
import Derived.OwnWalk
import Derived.ChangeKeysEq
import Derived.Deep.RegionHeld3
import Derived.Test.YtkjlafpafmihaaaG570539d87647
import Derived.Test.YtkjlafpafmihaaaG76ddf6bdedad
import Derived.Test.YtkjlafpafmihaaaG809794e4b789
import Derived.Test.YtkjlafpafmihaaaG924ec51911fe
set_option linter.unusedVariables false
set_option linter.unusedSimpArgs false

namespace Go.Proofs.Ytkjlafpafmihaaa
open Go.ChangeShapes Go.WideShapes Go.RowKit

def winSh : List Sh := [.at_ (.int .i64), .at_ .bool, .at_ .bool, .at_ .bool, .at_ .bool, .at_ .bool, .at_ .bool, .at_ .bool, .at_ .bool]
theorem flat_win : flat Try.prog 30 26 = some winSh := by kernel_rfl
theorem eqOk_win : eqOk Try.prog 30 26 = true := by kernel_rfl
theorem mkV_win (xs : List Value) : mkV Try.prog 26 xs = .agg xs.toArray := by
  unfold mkV
  rw [Try.underlying26]
theorem Win.kd (a : Win) : All2 Kd a.cells winSh := ⟨⟨_, rfl⟩, ⟨_, rfl⟩, ⟨_, rfl⟩, ⟨_, rfl⟩, ⟨_, rfl⟩, ⟨_, rfl⟩, ⟨_, rfl⟩, ⟨_, rfl⟩, ⟨_, rfl⟩, trivial⟩
theorem Win.cellsEq_ (a b : Win) : cellsEq a.cells b.cells = decide (a = b) := by
  obtain ⟨a1, a2, a3, a4, a5, a6, a7, a8, a9⟩ := a
  obtain ⟨b1, b2, b3, b4, b5, b6, b7, b8, b9⟩ := b
  simp only [Win.cells, cellsEq, cellEq, Win.mk.injEq, Bool.and_true]
  rw [Bool.eq_iff_iff]
  simp
theorem run_neq_win (a b : Win) (w : World) : (binOp .neq 26 (.agg #[.int .i64 a.top, .bool a.b0, .bool a.b1, .bool a.b2, .bool a.b3, .bool a.b4, .bool a.b5, .bool a.b6, .bool a.b7])
    (.agg #[.int .i64 b.top, .bool b.b0, .bool b.b1, .bool b.b2, .bool b.b3, .bool b.b4, .bool b.b5, .bool b.b6, .bool b.b7])).run Try.prog w = .ok (.bool (!decide (a = b))) w := by
  rw [← Win.cellsEq_]
  exact run_neq_cells (P := Try.prog) w flat_win eqOk_win mkV_win a.kd b.kd
theorem ids_last {t : Int} {f : Nat → Bool} (k : Nat) : ∀ x ∈ idsTo t f k, x ≤ (idsTo t f k).getLastD 0 := by
  induction k with
  | zero => simp [idsTo]
  | succ k ih =>
    intro x hx
    unfold idsTo at hx ⊢
    split
    · rename_i hf
      rw [if_pos hf] at hx
      have e : (idsTo t f k ++ [t - 8 + (k : Int)]).getLastD 0 = t - 8 + k := by simp
      rw [e]
      rcases List.mem_append.1 hx with h | h
      · have := idsTo_lt t f k x h; omega
      · simp at h; omega
    · rename_i hf
      rw [if_neg hf] at hx
      exact ih x hx

theorem windowOf_ids (A : Option Addr) (n c : Nat) (t : Int) (f : Nat → Bool) (w : World) (h : Rd w w.heap.size 1 A n (intCells (idsTo t f 8))) (h0 : 0 ≤ t) (h1 : t ≤ 1073741825) :
    Calls Try.prog 167 #[.slice A n c] w (WinPost w (winOf (idsTo t f 8))) := by
  have hl := h.int_len
  have h8 := idsTo_len t f 8
  rcases Nat.eq_zero_or_pos n with hn | hn
  · subst hn
    have e : idsTo t f 8 = [] := List.eq_nil_of_length_eq_zero hl
    rw [e]
    exact windowOf_nil A c w
  · have hne : idsTo t f 8 ≠ [] := by
      intro e
      rw [e] at hl
      simp at hl
      omega
    have hmem : (idsTo t f 8).getLastD 0 ∈ idsTo t f 8 := by
      rw [List.getLastD_eq_getLast?, List.getLast?_eq_some_getLast hne]
      exact List.getLast_mem hne
    have hlast := idsTo_lt t f 8 _ hmem
    exact windowOf_cons A n c _ w h hn (by omega) (fun x hx => ⟨by have := idsTo_lt t f 8 x hx; omega, ids_last 8 x hx⟩) (by omega)

set_option maxRecDepth 100000 in
set_option maxHeartbeats 4000000 in
theorem WindowFault_range (x : Win) (w : World) (h : inR x.top 0 1073741825 = false) : Calls Try.prog 108 #[x.val] w (IntPostW w 6) := by
  obtain ⟨t, b0, b1, b2, b3, b4, b5, b6, b7⟩ := x
  unfold Win.val
  simp only at h
  go_enter Try.func108, Try.ntmps108
  go_wp2_with (go_at_call 107; refine (In_calls _ _ _ _).mono ?_; rintro e w' ⟨rfl, rfl⟩)
  go_ret
  exact ⟨rfl, by go_grown⟩

set_option maxRecDepth 100000 in
set_option maxHeartbeats 4000000 in
theorem WindowFault_in (x : Win) (w : World) (h : inR x.top 0 1073741825 = true) : Calls Try.prog 108 #[x.val] w
    (IntPostW w (if headNeg (idsTo x.top x.at 8) = true then 6 else if x = winOf (idsTo x.top x.at 8) then 0 else 6)) := by
  have hr := inR_true.1 h
  have HI := Lib.hid fun w => idsOf_calls x w hr.1 hr.2
  have HW := Lib.hid fun A n c w hh => windowOf_ids A n c x.top x.at w hh hr.1 hr.2
  generalize hids : idsTo x.top x.at 8 = l at HI HW ⊢
  generalize hwin : winOf l = y at HW ⊢
  clear hids hwin hr
  generalize hfin : (if headNeg l = true then (6 : Int) else if x = y then 0 else 6) = z
  have HZ := Lib.hid hfin
  clear hfin
  obtain ⟨t, b0, b1, b2, b3, b4, b5, b6, b7⟩ := x
  obtain ⟨t', d0, d1, d2, d3, d4, d5, d6, d7⟩ := y
  have hq := run_neq_win ⟨t, b0, b1, b2, b3, b4, b5, b6, b7⟩ ⟨t', d0, d1, d2, d3, d4, d5, d6, d7⟩
  simp only at hq
  generalize hd : decide ((⟨t, b0, b1, b2, b3, b4, b5, b6, b7⟩ : Win) = ⟨t', d0, d1, d2, d3, d4, d5, d6, d7⟩) = dq at hq
  have HD := Lib.hid hd
  clear hd
  unfold Win.val WinPost at *
  unfold Win.val at *
  simp only at h
  go_enter Try.func108, Try.ntmps108
  go_wp2_with fail
  refine (In_calls _ _ _ _).mono ?_
  rintro e w' ⟨rfl, rfl⟩
  go_wp2_with fail
  refine (HI.out _).mono ?_
  rintro e w1 ⟨A1, n1, c1, rfl, hn1, hb1, hr1⟩
  have HN := Lib.hid hn1
  have HR := Lib.hid hr1
  have HB : Hid (Below w.heap.size w w1) := Lib.hid (Below.trans (by go_grown) (hb1.mono (by simp)))
  have hz : w.heap.size < w1.heap.size := by have := hb1.size; simp at this; omega
  have c0 := hb1.cell (p := ⟨w.heap.size, 0, none⟩) (by simp)
  have c1' := hb1.cell (p := ⟨w.heap.size, 1, none⟩) (by simp)
  have c2 := hb1.cell (p := ⟨w.heap.size, 2, none⟩) (by simp)
  have c3 := hb1.cell (p := ⟨w.heap.size, 3, none⟩) (by simp)
  have c4 := hb1.cell (p := ⟨w.heap.size, 4, none⟩) (by simp)
  have c5 := hb1.cell (p := ⟨w.heap.size, 5, none⟩) (by simp)
  have c6 := hb1.cell (p := ⟨w.heap.size, 6, none⟩) (by simp)
  have c7 := hb1.cell (p := ⟨w.heap.size, 7, none⟩) (by simp)
  have c8 := hb1.cell (p := ⟨w.heap.size, 8, none⟩) (by simp)
  simp only [World.cell?_alloc_mark] at c0 c1' c2 c3 c4 c5 c6 c7 c8
  simp at c0 c1' c2 c3 c4 c5 c6 c7 c8
  clear hb1 hr1 hn1
  cases l with
  | nil =>
    have hn : n1 = 0 := HN.out
    have HZ' : Hid ((if (⟨t, b0, b1, b2, b3, b4, b5, b6, b7⟩ : Win) = ⟨t', d0, d1, d2, d3, d4, d5, d6, d7⟩ then (0 : Int) else 6) = z) := (if_neg (by simp [headNeg])).symm.trans HZ.out
    have hd0 : decide (0 < n1) = false := by simp; omega
    clear hn
    go_wp2_with fail
    refine wp_region_any (by kernel_rfl) ?_
    change wpAny _ _ _ _ _ _ _ (World.drew _)
    refine wpAny_take (i := 0) (v := ?_) rfl (by kernel_rfl) (by kernel_rfl) (by kernel_rfl) (fun _ _ _ h => h) (Or.inl ⟨by kernel_rfl, ?_⟩) ?_
    case refine_2 => intro w; go_simp; try (with_reducible rfl)
    refine wpAny_take (i := 1) (v := ?_) rfl (by kernel_rfl) (by kernel_rfl) (by kernel_rfl) (fun _ _ _ h => h) (Or.inl ⟨by kernel_rfl, ?_⟩) ?_
    case refine_2 => intro w; go_simp; try (with_reducible rfl)
    refine wpAny_take (i := 2) (v := ?_) rfl (by kernel_rfl) (by kernel_rfl) (by kernel_rfl) (fun _ _ _ h => h) (Or.inl ⟨by kernel_rfl, ?_⟩) ?_
    case refine_2 => intro w; go_simp; try (with_reducible rfl)
    refine wpAny_take (i := 3) (v := ?_) rfl (by kernel_rfl) (by kernel_rfl) (by kernel_rfl) (fun _ _ _ h => h) (Or.inl ⟨by kernel_rfl, ?_⟩) ?_
    case refine_2 => intro w; go_simp; try (with_reducible rfl)
    refine wpAny_take (i := 4) (v := undef) rfl (by kernel_rfl) (by kernel_rfl) (by kernel_rfl) (fun _ _ _ h => h) (Or.inr ⟨by kernel_rfl, rfl⟩) ?_
    refine wpAny_take (i := 5) (v := undef) rfl (by kernel_rfl) (by kernel_rfl) (by kernel_rfl) (fun _ _ _ h => h) (Or.inr ⟨by kernel_rfl, rfl⟩) ?_
    refine wpAny_take (i := 6) (v := undef) rfl (by kernel_rfl) (by kernel_rfl) (by kernel_rfl) (fun _ _ _ h => h) (Or.inr ⟨by kernel_rfl, rfl⟩) ?_
    refine wpAny_take (i := 7) (v := undef) rfl (by kernel_rfl) (by kernel_rfl) (by kernel_rfl) (fun _ _ _ h => h) (Or.inr ⟨by kernel_rfl, rfl⟩) ?_
    refine wpAny_take (i := 8) (v := ?_) rfl (by kernel_rfl) (by kernel_rfl) (by kernel_rfl) (fun _ _ _ h => h) (Or.inl ⟨by kernel_rfl, ?_⟩) ?_
    case refine_2 => intro w; go_simp; try (with_reducible rfl)
    refine wpAny_take (i := 9) (v := ?_) rfl (by kernel_rfl) (by kernel_rfl) (by kernel_rfl) (fun _ _ _ h => h) (Or.inl ⟨by kernel_rfl, ?_⟩) ?_
    case refine_2 => intro w; go_simp; try (with_reducible rfl)
    refine wpAny_take (i := 11) (v := ?_) rfl (by kernel_rfl) (by kernel_rfl) (by kernel_rfl) (fun _ _ _ h => h) (Or.inl ⟨by kernel_rfl, ?_⟩) ?_
    case refine_2 => intro w; go_simp; try (with_reducible rfl)
    refine wpAny_ready (rs := [10, 12]) (by kernel_rfl) (by simp) ?_
    refine AllReady.cons rfl (fun K hK => ?_) (AllReady.cons rfl (fun K hK => ?_) AllReady.nil)
    · go_simp
      refine hK _ _ ?_
      clear hK K
      refine wpAny_ready (rs := [12]) (by kernel_rfl) (by simp) ?_
      refine AllReady.cons rfl (fun K hK => ?_) AllReady.nil
      go_simp
      go_wp2_with (go_at_call 167; refine (HW.out A1 n1 c1 _ (by exact HR.out)).mono ?_; rintro e w2 ⟨rfl, hb2⟩; have hb2 : Below w1.heap.size w1 w2 := ⟨hb2.os, hb2.tape, hb2.output, hb2.size, hb2.block⟩; have x0 := hb2.cell (p := ⟨w.heap.size, 0, none⟩) hz; have x1 := hb2.cell (p := ⟨w.heap.size, 1, none⟩) hz; have x2 := hb2.cell (p := ⟨w.heap.size, 2, none⟩) hz; have x3 := hb2.cell (p := ⟨w.heap.size, 3, none⟩) hz; have x4 := hb2.cell (p := ⟨w.heap.size, 4, none⟩) hz; have x5 := hb2.cell (p := ⟨w.heap.size, 5, none⟩) hz; have x6 := hb2.cell (p := ⟨w.heap.size, 6, none⟩) hz; have x7 := hb2.cell (p := ⟨w.heap.size, 7, none⟩) hz; have x8 := hb2.cell (p := ⟨w.heap.size, 8, none⟩) hz; rw [c0] at x0; rw [c1'] at x1; rw [c2] at x2; rw [c3] at x3; rw [c4] at x4; rw [c5] at x5; rw [c6] at x6; rw [c7] at x7; rw [c8] at x8)
      refine wpAny_take (i := 13) (v := ?_) rfl (by kernel_rfl) (by kernel_rfl) (by kernel_rfl) (fun _ _ _ h => h) (Or.inl ⟨by kernel_rfl, ?_⟩) ?_
      case refine_2 => intro w; go_simp; try (with_reducible rfl)
      refine wpAny_take (i := 14) (v := ?_) rfl (by kernel_rfl) (by kernel_rfl) (by kernel_rfl) (fun _ _ _ h => h) (Or.inl ⟨by kernel_rfl, ?_⟩) ?_
      case refine_2 => intro w; go_simp; try (with_reducible rfl)
      refine wpAny_done (by kernel_rfl) ?_ _
      have HB2 : Hid (Below w1.heap.size w1 w2) := Lib.hid hb2
      clear hb2
      cases dq
      all_goals go_wp2_with fail
      all_goals go_ret
      all_goals (have e := HZ'.out)
      all_goals first | rw [if_neg (of_decide_eq_false HD.out)] at e | rw [if_pos (of_decide_eq_true HD.out)] at e
      all_goals subst e
      all_goals exact ⟨rfl, HB.out.trans (HB2.out.mono (by omega))⟩
    · go_simp
      go_wp2_with (go_at_call 167; refine (HW.out A1 n1 c1 _ (by exact HR.out)).mono ?_; rintro e w2 ⟨rfl, hb2⟩; have hb2 : Below w1.heap.size w1 w2 := ⟨hb2.os, hb2.tape, hb2.output, hb2.size, hb2.block⟩; have x0 := hb2.cell (p := ⟨w.heap.size, 0, none⟩) hz; have x1 := hb2.cell (p := ⟨w.heap.size, 1, none⟩) hz; have x2 := hb2.cell (p := ⟨w.heap.size, 2, none⟩) hz; have x3 := hb2.cell (p := ⟨w.heap.size, 3, none⟩) hz; have x4 := hb2.cell (p := ⟨w.heap.size, 4, none⟩) hz; have x5 := hb2.cell (p := ⟨w.heap.size, 5, none⟩) hz; have x6 := hb2.cell (p := ⟨w.heap.size, 6, none⟩) hz; have x7 := hb2.cell (p := ⟨w.heap.size, 7, none⟩) hz; have x8 := hb2.cell (p := ⟨w.heap.size, 8, none⟩) hz; rw [c0] at x0; rw [c1'] at x1; rw [c2] at x2; rw [c3] at x3; rw [c4] at x4; rw [c5] at x5; rw [c6] at x6; rw [c7] at x7; rw [c8] at x8)
      refine wpAny_ready (rs := [10]) (by kernel_rfl) (by simp) ?_
      refine AllReady.cons rfl (fun K hK => ?_) AllReady.nil
      go_simp
      refine hK _ _ ?_
      clear hK K
      refine wpAny_take (i := 13) (v := ?_) rfl (by kernel_rfl) (by kernel_rfl) (by kernel_rfl) (fun _ _ _ h => h) (Or.inl ⟨by kernel_rfl, ?_⟩) ?_
      case refine_2 => intro w; go_simp; try (with_reducible rfl)
      refine wpAny_take (i := 14) (v := ?_) rfl (by kernel_rfl) (by kernel_rfl) (by kernel_rfl) (fun _ _ _ h => h) (Or.inl ⟨by kernel_rfl, ?_⟩) ?_
      case refine_2 => intro w; go_simp; try (with_reducible rfl)
      refine wpAny_done (by kernel_rfl) ?_ _
      have HB2 : Hid (Below w1.heap.size w1 w2) := Lib.hid hb2
      clear hb2
      cases dq
      all_goals go_wp2_with fail
      all_goals go_ret
      all_goals (have e := HZ'.out)
      all_goals first | rw [if_neg (of_decide_eq_false HD.out)] at e | rw [if_pos (of_decide_eq_true HD.out)] at e
      all_goals subst e
      all_goals exact ⟨rfl, HB.out.trans (HB2.out.mono (by omega))⟩
  | cons a r =>
    have hlen : n1 = r.length + 1 := HN.out
    have hpos : 0 < n1 := by omega
    have hpos' : (0 : Int) < (n1 : Int) := by omega
    have hd0 : decide (0 < n1) = true := by simp; omega
    clear hlen
    obtain ⟨bA, offA, y, hA, hbA, hy, hcA⟩ := HR.out.int_at hpos
    simp at hy
    subst hy
    subst hA
    rw [Nat.add_zero] at hcA
    by_cases ha : a < 0
    · have e := HZ.out
      rw [if_pos (by simp [headNeg, ha])] at e
      subst e
      go_wp2_with fail
      go_quiet (fail)
      go_wp2_with fail
      go_ret
      exact ⟨rfl, HB.out.trans ⟨rfl, rfl, rfl, Nat.le_refl _, fun _ _ => rfl⟩⟩
    · have HZ' : Hid ((if (⟨t, b0, b1, b2, b3, b4, b5, b6, b7⟩ : Win) = ⟨t', d0, d1, d2, d3, d4, d5, d6, d7⟩ then (0 : Int) else 6) = z) := (if_neg (by simp [headNeg, ha])).symm.trans HZ.out
      have hda : decide (a < 0) = false := by simpa using ha
      go_wp2_with fail
      go_region_with (go_at_call 167; refine (HW.out (some ⟨bA, offA, none⟩) n1 c1 _ (by exact HR.out)).mono ?_; rintro e w2 ⟨rfl, hb2⟩; have hb2 : Below w1.heap.size w1 w2 := ⟨hb2.os, hb2.tape, hb2.output, hb2.size, hb2.block⟩; have x0 := hb2.cell (p := ⟨w.heap.size, 0, none⟩) hz; have x1 := hb2.cell (p := ⟨w.heap.size, 1, none⟩) hz; have x2 := hb2.cell (p := ⟨w.heap.size, 2, none⟩) hz; have x3 := hb2.cell (p := ⟨w.heap.size, 3, none⟩) hz; have x4 := hb2.cell (p := ⟨w.heap.size, 4, none⟩) hz; have x5 := hb2.cell (p := ⟨w.heap.size, 5, none⟩) hz; have x6 := hb2.cell (p := ⟨w.heap.size, 6, none⟩) hz; have x7 := hb2.cell (p := ⟨w.heap.size, 7, none⟩) hz; have x8 := hb2.cell (p := ⟨w.heap.size, 8, none⟩) hz; rw [c0] at x0; rw [c1'] at x1; rw [c2] at x2; rw [c3] at x3; rw [c4] at x4; rw [c5] at x5; rw [c6] at x6; rw [c7] at x7; rw [c8] at x8)
      all_goals (have HB2 : Hid (Below w1.heap.size w1 w2) := Lib.hid hb2)
      all_goals clear hb2
      all_goals cases dq
      all_goals go_wp2_with fail
      all_goals go_ret
      all_goals (have e := HZ'.out)
      all_goals first | rw [if_neg (of_decide_eq_false HD.out)] at e | rw [if_pos (of_decide_eq_true HD.out)] at e
      all_goals subst e
      all_goals exact ⟨rfl, HB.out.trans (HB2.out.mono (by omega))⟩
theorem WindowFault_calls (x : Win) (w : World) : Calls Try.prog 108 #[x.val] w (IntPostW w (winFault x)) := by
  rw [← winFaultRef_eq]
  unfold winFaultRef
  cases h : inR x.top 0 1073741825
  · rw [if_pos (by have := inR_false.1 h; omega)]
    exact WindowFault_range x w h
  · rw [if_neg (by have := inR_true.1 h; omega)]
    exact WindowFault_in x w h

end Go.Proofs.Ytkjlafpafmihaaa

namespace Go.Proofs.Ytkjlafpafmihaaa
open Go.ChangeShapes Go.WideShapes Go.RowKit

/-- P3.2. -/
def seenM (x : Win) (id : Int) : Bool × Int :=
  if winFault x ≠ 0 then (false, winFault x)
  else if id < 0 ∨ 1073741824 < id then (false, 2)
  else if x.top ≤ id then (false, 0)
  else if id < x.top - 8 then (false, 9)
  else (x.at (id - (x.top - 8)).toNat, 0)

def SeenPost (w : World) (r : Bool × Int) (e : Ending) (w' : World) : Prop := e = .returned (.tuple #[.bool r.1, .int .i64 r.2]) ∧ Below w.heap.size w w'

theorem winFault_zero {x : Win} (h : winFault x = 0) : 0 ≤ x.top ∧ x.top ≤ 1073741825 := by
  unfold winFault at h
  split at h
  · rename_i hh
    simp only [Bool.and_eq_true, decide_eq_true_eq] at hh
    exact ⟨hh.1.1.1, hh.1.1.2⟩
  · cases h

theorem win_cells (x : Win) : ∀ k, k < 8 → (x.cells)[k + 1]? = some (.bool (x.at k)) := by
  intro k hk
  have h : k = 0 ∨ k = 1 ∨ k = 2 ∨ k = 3 ∨ k = 4 ∨ k = 5 ∨ k = 6 ∨ k = 7 := by omega
  rcases h with rfl | rfl | rfl | rfl | rfl | rfl | rfl | rfl <;> rfl

set_option maxRecDepth 100000 in
set_option maxHeartbeats 4000000 in
theorem WSeen_calls (x : Win) (id : Int) (w : World) : Calls Try.prog 189 #[x.val, .int .i64 id] w (SeenPost w (seenM x id)) := by
  have HC := Lib.hid (WCheck_calls x)
  have HL := Lib.hid (lowest_calls x)
  have HX := Lib.hid (win_cells x)
  have HT := Lib.hid (winFault_zero (x := x))
  have HZ0 : Hid (∀ r, r = seenM x id → r = if winFault x ≠ 0 then (false, winFault x)
    else if id < 0 ∨ 1073741824 < id then (false, 2)
    else if x.top ≤ id then (false, 0)
    else if id < x.top - 8 then (false, 9)
    else (x.at (id - (x.top - 8)).toNat, 0)) := Lib.hid (fun r h => h)
  generalize hr : seenM x id = r
  have HZ := Lib.hid (HZ0.out r hr.symm)
  clear hr HZ0
  generalize winFault x = z at HC HT HZ
  have hat := Lib.hid (rfl : x.at = x.at)
  generalize x.at = f at HX HZ hat
  clear hat
  obtain ⟨t, b0, b1, b2, b3, b4, b5, b6, b7⟩ := x
  unfold Win.val at *
  unfold Win.cells at HX
  simp only at HT HX HZ HL
  go_enter Try.func189, Try.ntmps189
  go_wp2_with fail
  refine (HC.out _).mono ?_
  rintro e w1 ⟨rfl, hb1⟩
  have c0 := hb1.cell (p := ⟨w.heap.size, 0, none⟩) (by simp)
  have c1 := hb1.cell (p := ⟨w.heap.size, 1, none⟩) (by simp)
  have c2 := hb1.cell (p := ⟨w.heap.size, 2, none⟩) (by simp)
  have c3 := hb1.cell (p := ⟨w.heap.size, 3, none⟩) (by simp)
  have c4 := hb1.cell (p := ⟨w.heap.size, 4, none⟩) (by simp)
  have c5 := hb1.cell (p := ⟨w.heap.size, 5, none⟩) (by simp)
  have c6 := hb1.cell (p := ⟨w.heap.size, 6, none⟩) (by simp)
  have c7 := hb1.cell (p := ⟨w.heap.size, 7, none⟩) (by simp)
  have c8 := hb1.cell (p := ⟨w.heap.size, 8, none⟩) (by simp)
  simp only [World.cell?_alloc_mark] at c0 c1 c2 c3 c4 c5 c6 c7 c8
  have hsz : w.heap.size + 1 ≤ w1.heap.size := by have := hb1.size; simpa using this
  have HK : Hid (∀ k, k < 8 → w1.cell? ⟨w.heap.size, 1 + k, none⟩ = some (.bool (f k))) := by
    intro k hk
    have ck := hb1.cell (p := ⟨w.heap.size, 1 + k, none⟩) (by simp)
    rw [World.cell?_alloc_mark] at ck
    rw [ck, Nat.add_comm 1 k]
    simpa using HX.out k hk
  have HB : Hid (Below w.heap.size w w1) := Lib.hid (((Below.refl _ w).alloc (Nat.le_refl _) _).trans (hb1.mono (by simp)))
  clear hb1 HX HC
  by_cases hz : z = 0
  · obtain ⟨h0, h1⟩ := HT.out hz
    subst hz
    have HZ := Lib.hid (HZ.out.trans (if_neg (by simp)))
    clear HT
    by_cases i0 : id < 0
    · have e := HZ.out
      rw [if_pos (by omega)] at e
      subst e
      go_wp2_with fail
      go_ret2
      exact ⟨rfl, HB.out⟩
    · by_cases i1 : 1073741824 < id
      · have e := HZ.out
        rw [if_pos (by omega)] at e
        subst e
        go_wp2_with fail
        go_ret2
        exact ⟨rfl, HB.out⟩
      · have HZ := Lib.hid (HZ.out.trans (if_neg (by omega)))
        by_cases i2 : t ≤ id
        · have e := HZ.out
          rw [if_pos (by omega)] at e
          subst e
          go_wp2_with fail
          go_ret2
          exact ⟨rfl, HB.out⟩
        · have HZ := Lib.hid (HZ.out.trans (if_neg (by omega)))
          by_cases i3 : id < t - 8
          · have e := HZ.out
            rw [if_pos (by omega)] at e
            subst e
            go_wp2_with fail
            refine (HL.out _ h0 h1).mono ?_
            rintro e w2 ⟨rfl, hb2⟩
            have HB2 := Lib.hid hb2
            clear hb2
            go_wp2_with fail
            go_ret2
            exact ⟨rfl, HB.out.trans (HB2.out.mono (by omega))⟩
          · have e := HZ.out
            rw [if_neg (by omega)] at e
            subst e
            obtain ⟨k, hk⟩ := Int.eq_ofNat_of_zero_le (show 0 ≤ id - (t - 8) by omega)
            have hk8 : k < 8 := by omega
            rw [hk, Int.toNat_natCast]
            have HKK := Lib.hid hk
            have ck := HK.out k hk8
            go_wp2_with fail
            refine (HL.out _ h0 h1).mono ?_
            rintro e w2 ⟨rfl, hb2⟩
            have d0 := hb2.cell (p := ⟨w.heap.size, 0, none⟩) (by simp; omega)
            have d1 := hb2.cell (p := ⟨w.heap.size, 1, none⟩) (by simp; omega)
            have d2 := hb2.cell (p := ⟨w.heap.size, 2, none⟩) (by simp; omega)
            have d3 := hb2.cell (p := ⟨w.heap.size, 3, none⟩) (by simp; omega)
            have d4 := hb2.cell (p := ⟨w.heap.size, 4, none⟩) (by simp; omega)
            have d5 := hb2.cell (p := ⟨w.heap.size, 5, none⟩) (by simp; omega)
            have d6 := hb2.cell (p := ⟨w.heap.size, 6, none⟩) (by simp; omega)
            have d7 := hb2.cell (p := ⟨w.heap.size, 7, none⟩) (by simp; omega)
            have d8 := hb2.cell (p := ⟨w.heap.size, 8, none⟩) (by simp; omega)
            have dk := hb2.cell (p := ⟨w.heap.size, 1 + k, none⟩) (by simp; omega)
            rw [c0] at d0; rw [c1] at d1; rw [c2] at d2; rw [c3] at d3; rw [c4] at d4; rw [c5] at d5; rw [c6] at d6; rw [c7] at d7; rw [c8] at d8; rw [ck] at dk
            have HB2 := Lib.hid hb2
            clear hb2
            go_wp2_with fail
            refine (HL.out _ h0 h1).mono ?_
            rintro e w3 ⟨rfl, hb3⟩
            have HB3 := Lib.hid hb3
            have g0 := hb3.cell (p := ⟨w.heap.size, 1 + k, none⟩) (by simp; have := HB2.out.size; omega)
            rw [dk] at g0
            clear hb3
            go_wp2_with fail
            go_ret2
            exact ⟨by show Ending.returned (.tuple #[.bool (f k), .int .i64 0]) = _; rw [HKK.out, Int.toNat_natCast], (HB.out.trans (HB2.out.mono (by omega))).trans (HB3.out.mono (by have := HB2.out.size; omega))⟩
  · have e := HZ.out
    rw [if_pos hz] at e
    subst e
    go_wp2_with fail
    go_ret2
    exact ⟨rfl, HB.out⟩

theorem ids_mem {t : Int} {f : Nat → Bool} {k : Nat} {y : Int} : y ∈ idsTo t f k ↔ ∃ i, i < k ∧ f i = true ∧ y = t - 8 + i := by
  induction k with
  | zero => simp [idsTo]
  | succ k ih =>
    unfold idsTo
    split
    · rename_i hf
      rw [List.mem_append, ih, List.mem_singleton]
      constructor
      · rintro (⟨i, h1, h2, h3⟩ | h)
        · exact ⟨i, by omega, h2, h3⟩
        · exact ⟨k, by omega, hf, h⟩
      · rintro ⟨i, h1, h2, h3⟩
        by_cases hik : i = k
        · subst hik; exact .inr h3
        · exact .inl ⟨i, by omega, h2, h3⟩
    · rename_i hf
      rw [ih]
      constructor
      · rintro ⟨i, h1, h2, h3⟩; exact ⟨i, by omega, h2, h3⟩
      · rintro ⟨i, h1, h2, h3⟩
        have : i ≠ k := by rintro rfl; exact hf h2
        exact ⟨i, by omega, h2, h3⟩

/-- P3.2 as the reference asks it. -/
def seenRef (x : Win) (id : Int) : Bool × Int :=
  if winFault x ≠ 0 then (false, winFault x)
  else if inR id 0 1073741824 = false then (false, 2)
  else if id + 8 < x.top then (false, 9)
  else (decide (id ∈ idsTo x.top x.at 8), 0)

theorem seenRef_eq (x : Win) (id : Int) : seenRef x id = seenM x id := by
  unfold seenRef seenM
  split
  · rfl
  · by_cases h : id < 0 ∨ 1073741824 < id
    · rw [if_pos (inR_false.2 h), if_pos h]
    · rw [if_neg (by rw [inR_false]; exact h), if_neg h]
      by_cases h1 : x.top ≤ id
      · rw [if_neg (by omega), if_pos h1]
        have : ¬ id ∈ idsTo x.top x.at 8 := fun hm => by
          have := idsTo_lt x.top x.at 8 id hm
          omega
        simp [this]
      · rw [if_neg h1]
        by_cases h2 : id < x.top - 8
        · rw [if_pos (by omega), if_pos h2]
        · rw [if_neg (by omega), if_neg h2]
          obtain ⟨k, hk⟩ := Int.eq_ofNat_of_zero_le (show 0 ≤ id - (x.top - 8) by omega)
          rw [hk, Int.toNat_natCast]
          have : id ∈ idsTo x.top x.at 8 ↔ x.at k = true := by
            rw [ids_mem]
            constructor
            · rintro ⟨i, h1, h2, h3⟩
              rw [show k = i by omega]; exact h2
            · intro h; exact ⟨k, by omega, h, by omega⟩
          cases hx : x.at k
          · rw [hx] at this; simp [this]
          · rw [hx] at this; simp [this]

set_option maxRecDepth 100000 in
set_option maxHeartbeats 4000000 in
theorem IdSeen_calls (x : Win) (id : Int) (w : World) : Calls Try.prog 180 #[x.val, .int .i64 id] w (SeenPost w (seenM x id)) := by
  rw [← seenRef_eq]
  have HC := Lib.hid (WindowFault_calls x)
  have HI := Lib.hid (idsOf_calls x)
  have HT := Lib.hid (winFault_zero (x := x))
  have HZ0 : Hid (∀ r, r = seenRef x id → r = if winFault x ≠ 0 then (false, winFault x)
    else if inR id 0 1073741824 = false then (false, 2)
    else if id + 8 < x.top then (false, 9)
    else (decide (id ∈ idsTo x.top x.at 8), 0)) := Lib.hid (fun r h => h)
  generalize hr : seenRef x id = r
  have HZ := Lib.hid (HZ0.out r hr.symm)
  clear hr HZ0
  have hlen := idsTo_len x.top x.at 8
  generalize winFault x = z at HC HT HZ
  generalize idsTo x.top x.at 8 = l at HI HZ hlen
  obtain ⟨t, b0, b1, b2, b3, b4, b5, b6, b7⟩ := x
  unfold Win.val at *
  simp only at HT HZ HI
  go_enter Try.func180, Try.ntmps180
  go_wp2_with fail
  refine (HC.out _).mono ?_
  rintro e w1 ⟨rfl, hb1⟩
  have c0 := hb1.cell (p := ⟨w.heap.size, 0, none⟩) (by simp)
  have c1 := hb1.cell (p := ⟨w.heap.size, 1, none⟩) (by simp)
  have c2 := hb1.cell (p := ⟨w.heap.size, 2, none⟩) (by simp)
  have c3 := hb1.cell (p := ⟨w.heap.size, 3, none⟩) (by simp)
  have c4 := hb1.cell (p := ⟨w.heap.size, 4, none⟩) (by simp)
  have c5 := hb1.cell (p := ⟨w.heap.size, 5, none⟩) (by simp)
  have c6 := hb1.cell (p := ⟨w.heap.size, 6, none⟩) (by simp)
  have c7 := hb1.cell (p := ⟨w.heap.size, 7, none⟩) (by simp)
  have c8 := hb1.cell (p := ⟨w.heap.size, 8, none⟩) (by simp)
  simp only [World.cell?_alloc_mark] at c0 c1 c2 c3 c4 c5 c6 c7 c8
  have hsz : w.heap.size + 1 ≤ w1.heap.size := by have := hb1.size; simpa using this
  have HB : Hid (Below w.heap.size w w1) := Lib.hid (((Below.refl _ w).alloc (Nat.le_refl _) _).trans (hb1.mono (by simp)))
  clear hb1 HC
  by_cases hz : z = 0
  · obtain ⟨h0, h1⟩ := HT.out hz
    subst hz
    have HZ := Lib.hid (HZ.out.trans (if_neg (by simp)))
    clear HT
    go_wp2_with fail
    refine (In_calls _ _ _ _).mono ?_
    rintro e w2 ⟨rfl, rfl⟩
    cases hin : inR id 0 1073741824
    · have e := HZ.out
      rw [if_pos hin] at e
      subst e
      clear hin
      go_wp2_with fail
      go_ret2
      exact ⟨rfl, HB.out⟩
    · have HZ := Lib.hid (HZ.out.trans (if_neg (by simp [hin])))
      obtain ⟨i0, i1⟩ := inR_true.1 hin
      clear hin
      by_cases i2 : id + 8 < t
      · have e := HZ.out
        rw [if_pos i2] at e
        subst e
        go_wp2_with fail
        go_ret2
        exact ⟨rfl, HB.out⟩
      · have HZ := Lib.hid (HZ.out.trans (if_neg i2))
        go_wp2_with fail
        refine (HI.out _ h0 h1).mono ?_
        rintro e w2 ⟨A1, n1, d1, rfl, hn1, hb2, hr2⟩
        have HB2 := Lib.hid hb2
        have HR := Lib.hid hr2
        have HN := Lib.hid hn1
        have hn8 : n1 ≤ 8 := by omega
        clear hb2 hr2 hn1 c0 c1 c2 c3 c4 c5 c6 c7 c8
        go_wp2_with fail
        go_loopw [8] (fun i wr => ∃ k : Nat, k ≤ n1 ∧ i = .int .i64 k ∧ (∀ y ∈ l.take k, y ≠ id) ∧ ∃ q, wr = w2.drewN q) (fun i _ => n1 - (intOf i).toNat)
        case atStart => exact ⟨0, by omega, rfl, by simp, 0, rfl⟩
        case round =>
          obtain ⟨k, hk, rfl, hall, q, rfl⟩ := hrel
          have HA := Lib.hid hall
          clear hall
          by_cases hlt : k < n1
          · obtain ⟨b, off, y, hA, hb, hy, hc⟩ := HR.out.int_at hlt
            subst hA
            have HY := Lib.hid hy
            clear hy
            by_cases hyi : y = id
            · have e := HZ.out
              rw [show decide (id ∈ l) = true from by rw [decide_eq_true_eq, ← hyi]; exact List.mem_of_getElem? HY.out] at e
              subst e
              subst hyi
              go_wp2_with fail
              go_ret2
              exact ⟨rfl, (HB.out.trans (HB2.out.mono (by omega))).trans ⟨rfl, rfl, rfl, Nat.le_refl _, fun _ _ => rfl⟩⟩
            · go_wp2_with fail
              go_roundw
              case rel => exact ⟨k + 1, by omega, by go_num, (fun v hv => by
                rw [List.take_add_one, HY.out, List.mem_append] at hv
                rcases hv with h | h
                · exact HA.out v h
                · simp at h; subst h; exact hyi), q, rfl⟩
              case measure => simp [intOf]; omega
          · obtain rfl : k = n1 := by omega
            have e := HZ.out
            rw [show decide (id ∈ l) = false from by
              rw [decide_eq_false_iff_not]
              intro hm
              exact HA.out id (by rw [List.take_of_length_le (by have := HN.out; omega)]; exact hm) rfl] at e
            subst e
            go_wp2_with fail
            go_ret2
            exact ⟨rfl, (HB.out.trans (HB2.out.mono (by omega))).trans ⟨rfl, rfl, rfl, Nat.le_refl _, fun _ _ => rfl⟩⟩
  · have e := HZ.out
    rw [if_pos hz] at e
    subst e
    go_wp2_with fail
    go_ret2
    exact ⟨rfl, HB.out⟩
end Go.Proofs.Ytkjlafpafmihaaa

namespace Go.Proofs.Ytkjlafpafmihaaa

theorem foldBits (t : Int) (i : Nat) (hi : i < 8) : ∀ (l : List Int) (bs : List Bool), bs.length = 8 →
    (l.foldl (fun bs x => setBit bs (x - t + 8)) bs).getD i false = (bs.getD i false || decide (t - 8 + i ∈ l))
  | [], bs, _ => by simp
  | x :: l, bs, h => by
    rw [List.foldl_cons, foldBits t i hi l _ (by rw [setBit_len]; exact h)]
    have key : (setBit bs (x - t + 8)).getD i false = (bs.getD i false || decide (t - 8 + (i : Int) = x)) := by
      unfold setBit
      split
      · rename_i h0
        rw [getD_set, h]
        by_cases e : t - 8 + (i : Int) = x
        · rw [if_pos (by omega)]
          simp [e]
        · rw [if_neg (by omega)]
          simp [e]
      · rename_i h0
        have e : ¬ t - 8 + (i : Int) = x := by omega
        simp [e]
    rw [key, Bool.or_assoc]
    congr 1
    rw [Bool.eq_iff_iff]
    simp

theorem bitsTo_mem (t : Int) (l : List Int) (i : Nat) (hi : i < 8) : (bitsTo t l).getD i false = decide (t - 8 + i ∈ l) := by
  unfold bitsTo
  rw [foldBits t i hi l _ rfl]
  have : ([false, false, false, false, false, false, false, false] : List Bool).getD i false = false := by
    match i with
    | 0 | 1 | 2 | 3 | 4 | 5 | 6 | 7 => rfl
    | n + 8 => rfl
  rw [this, Bool.false_or]

theorem winOn_congr (t : Int) (l k : List Int) (h : ∀ z, z ∈ l ↔ z ∈ k) : winOn t (bitsTo t l) = winOn t (bitsTo t k) := by
  unfold winOn
  have e : ∀ i, i < 8 → (bitsTo t l).getD i false = (bitsTo t k).getD i false := fun i hi => by
    rw [bitsTo_mem _ _ _ hi, bitsTo_mem _ _ _ hi, Bool.eq_iff_iff]
    simp [h]
  rw [e 0 (by omega), e 1 (by omega), e 2 (by omega), e 3 (by omega), e 4 (by omega), e 5 (by omega), e 6 (by omega), e 7 (by omega)]

/-- The reference's loop: what is out, and whether the id is in it. -/
def insF (id : Int) (l : List Int) : List Int × Bool := l.foldl (fun s y => ((if s.2 = false ∧ id < y then s.1 ++ [id] else s.1) ++ [y], s.2 || decide (id < y))) ([], false)
def insM (id : Int) (l : List Int) : List Int := if (insF id l).2 = true then (insF id l).1 else (insF id l).1 ++ [id]
theorem insF_snoc (id : Int) (l : List Int) (y : Int) : insF id (l ++ [y]) = ((if (insF id l).2 = false ∧ id < y then (insF id l).1 ++ [id] else (insF id l).1) ++ [y], (insF id l).2 || decide (id < y)) := by
  unfold insF
  rw [List.foldl_append]
  rfl

theorem insF_facts (id : Int) (l : List Int) : ∀ k, k ≤ l.length →
    (∀ z, z ∈ (insF id (l.take k)).1 ↔ (z ∈ l.take k ∨ ((insF id (l.take k)).2 = true ∧ z = id))) ∧ ((insF id (l.take k)).2 = true ↔ ∃ y ∈ l.take k, id < y) ∧
    (l.take k ≠ [] → (insF id (l.take k)).1.getLastD 0 = (l.take k).getLastD 0) ∧ ((insF id (l.take k)).1.length ≤ k + 1) ∧ ((insF id (l.take k)).2 = false → (insF id (l.take k)).1.length ≤ k) := by
  intro k
  induction k with
  | zero => intro _; simp [insF]
  | succ k ih =>
    intro hk
    obtain ⟨h1, h2, h3, h4, h5⟩ := ih (by omega)
    have hx : l[k]? = some l[k] := List.getElem?_eq_getElem (by omega)
    have e : l.take (k + 1) = l.take k ++ [l[k]] := by rw [List.take_add_one, hx]; rfl
    rw [e, insF_snoc]
    generalize l[k] = y
    generalize l.take k = m at h1 h2 h3 h4 h5
    generalize insF id m = s at h1 h2 h3 h4 h5
    obtain ⟨o, d⟩ := s
    simp only at h1 h2 h3 h4 h5 ⊢
    cases d
    · have h2' : ¬ ∃ y ∈ m, id < y := fun h => by have := h2.2 h; cases this
      by_cases hy : id < y
      · simp only [hy, and_self, if_true, Bool.false_or, decide_true]
        refine ⟨fun z => ?_, ?_, fun _ => by simp, by have := h5 rfl; simp; omega, fun h => by cases h⟩
        · simp only [List.mem_append, List.mem_singleton, h1]
          simp
          constructor
          · rintro ((h | h) | h)
            · exact .inl (.inl h)
            · exact .inr h
            · exact .inl (.inr h)
          · rintro ((h | h) | h)
            · exact .inl (.inl h)
            · exact .inr h
            · exact .inl (.inr h)
        · simp only [true_iff]
          exact ⟨y, by simp, hy⟩
      · simp only [hy, and_false, if_false, Bool.false_or, decide_false]
        refine ⟨fun z => ?_, ?_, fun _ => by simp, by have := h5 rfl; simp; omega, fun _ => by have := h5 rfl; simp; omega⟩
        · simp only [List.mem_append, List.mem_singleton, h1]
          simp
        · simp only [Bool.false_eq_true, false_iff]
          rintro ⟨z, hz, hlt⟩
          rcases List.mem_append.1 hz with h | h
          · exact h2' ⟨z, h, hlt⟩
          · simp at h; subst h; exact hy hlt
    · have h2' := h2.1 rfl
      simp only [Bool.true_eq_false, false_and, if_false, Bool.true_or]
      refine ⟨fun z => ?_, ?_, fun _ => by simp, by simp; omega, fun h => by cases h⟩
      · simp only [List.mem_append, List.mem_singleton, h1]
        simp
        constructor
        · rintro ((h | h) | h)
          · exact .inl (.inl h)
          · exact .inr h
          · exact .inl (.inr h)
        · rintro ((h | h) | h)
          · exact .inl (.inl h)
          · exact .inr h
          · exact .inl (.inr h)
      · simp only [true_iff]
        obtain ⟨z, hz, hlt⟩ := h2'
        exact ⟨z, by simp [hz], hlt⟩

/-- The window behind the taking. -/
def outM (x : Win) (id : Int) : Win := winOn (max x.top (id + 1)) (bitsTo (max x.top (id + 1)) (idsTo x.top x.at 8 ++ [id]))

theorem winFault_ids {x : Win} (h : winFault x = 0) : (x.top = 0 ∧ idsTo x.top x.at 8 = []) ∨ (0 < x.top ∧ idsTo x.top x.at 8 ≠ [] ∧ (idsTo x.top x.at 8).getLastD 0 = x.top - 1) := by
  have h0 := winFault_zero h
  unfold winFault at h
  split at h
  · rename_i hh
    simp only [Bool.and_eq_true, decide_eq_true_eq, Bool.or_eq_true, Bool.not_eq_true', decide_eq_false_iff_not] at hh
    obtain ⟨⟨_, hw⟩, h7⟩ := hh
    by_cases ht : 0 < x.top
    · right
      have hb : x.at 7 = true := by
        rcases h7 with h | h
        · exact absurd ht h
        · exact h
      have e : idsTo x.top x.at 8 = idsTo x.top x.at 7 ++ [x.top - 1] := by
        show (if x.at 7 = true then _ else _) = _
        rw [hb, if_pos rfl, show x.top - 8 + ((7 : Nat) : Int) = x.top - 1 by omega]
      exact ⟨ht, by rw [e]; simp, by rw [e]; simp⟩
    · left
      have ht0 : x.top = 0 := by omega
      refine ⟨ht0, List.eq_nil_iff_forall_not_mem.2 fun y hy => ?_⟩
      obtain ⟨i, h1, h2, h3⟩ := ids_mem.1 hy
      have := winAll_iff.1 hw i h1 h2
      omega
  · cases h

theorem insM_eq (x : Win) (id : Int) (h : winFault x = 0) (h0 : 0 ≤ id) (hn : ¬ id ∈ idsTo x.top x.at 8) : winOf (insM id (idsTo x.top x.at 8)) = outM x id := by
  have hc := winFault_ids h
  have hlt : ∀ y ∈ idsTo x.top x.at 8, y < x.top := fun y hy => by have := idsTo_lt _ _ _ y hy; omega
  unfold outM
  generalize idsTo x.top x.at 8 = l at hc hn hlt
  obtain ⟨f1, f2, f3, _, _⟩ := insF_facts id l l.length (Nat.le_refl _)
  rw [List.take_length] at f1 f2 f3
  unfold insM
  generalize insF id l = s at f1 f2 f3
  obtain ⟨o, d⟩ := s
  simp only at f1 f2 f3 ⊢
  cases d
  · simp only [Bool.false_eq_true, if_false]
    have hge : ∀ y ∈ l, ¬ id < y := fun y hy hlt => by have := f2.2 ⟨y, hy, hlt⟩; cases this
    have hT : max x.top (id + 1) = id + 1 := by
      rcases hc with ⟨h1, _⟩ | ⟨h1, h2, h3⟩
      · omega
      · have hm : x.top - 1 ∈ l := by
          rw [← h3, List.getLastD_eq_getLast?, List.getLast?_eq_some_getLast h2]
          exact List.getLast_mem _
        have := hge _ hm
        omega
    unfold winOf
    rw [if_neg (by simp), hT, show (o ++ [id]).getLastD 0 = id by simp]
    refine winOn_congr _ _ _ fun z => ?_
    simp [f1]
  · simp only [if_true]
    obtain ⟨y, hy, hlt2⟩ := f2.1 rfl
    rcases hc with ⟨_, h2⟩ | ⟨h1, h2, h3⟩
    · rw [h2] at hy; cases hy
    · have := hlt y hy
      have hT : max x.top (id + 1) = x.top := by omega
      have hne : o ≠ [] := by
        intro e
        have := (f1 y).2 (.inl hy)
        rw [e] at this
        cases this
      unfold winOf
      rw [if_neg hne, f3 h2, h3, hT, show x.top - 1 + 1 = x.top by omega]
      refine winOn_congr _ _ _ fun z => ?_
      simp [f1]
end Go.Proofs.Ytkjlafpafmihaaa

namespace Go.Proofs.Ytkjlafpafmihaaa
open Go.ChangeShapes Go.WideShapes Go.RowKit

def zeroWin : Win := ⟨0, false, false, false, false, false, false, false, false⟩
/-- P3.3. -/
def takeW (x : Win) (id : Int) : Win × Bool × Int :=
  if (seenM x id).2 ≠ 0 then (zeroWin, false, (seenM x id).2) else if (seenM x id).1 = true then (x, false, 0) else (outM x id, true, 0)
def WTakePost (w : World) (r : Win × Bool × Int) (e : Ending) (w' : World) : Prop := e = .returned (.tuple #[r.1.val, .bool r.2.1, .int .i64 r.2.2]) ∧ Below w.heap.size w w'

theorem seen_zero {x : Win} {id : Int} (h : (seenM x id).2 = 0) : winFault x = 0 ∧ 0 ≤ id ∧ id ≤ 1073741824 := by
  unfold seenM at h
  by_cases h1 : winFault x = 0
  · by_cases h2 : id < 0 ∨ 1073741824 < id
    · simp [h1, h2] at h
    · exact ⟨h1, by omega, by omega⟩
  · simp [h1] at h
theorem seen_not {x : Win} {id : Int} (h : (seenM x id).2 = 0) (h1 : (seenM x id).1 = false) : ¬ id ∈ idsTo x.top x.at 8 := by
  obtain ⟨hz, h2, h3⟩ := seen_zero h
  rw [← seenRef_eq] at h h1
  unfold seenRef at h h1
  rw [if_neg (by simp [hz]), if_neg (by simp [inR]; omega)] at h h1
  split at h
  · cases h
  · rename_i hh
    rw [if_neg hh] at h1
    simpa using h1

theorem insM_facts (x : Win) (id : Int) (h : winFault x = 0) (h0 : 0 ≤ id) (h1 : id ≤ 1073741824) (hn : ¬ id ∈ idsTo x.top x.at 8) :
    0 < (insM id (idsTo x.top x.at 8)).length ∧ (insM id (idsTo x.top x.at 8)).length ≤ 9 ∧ (∀ y ∈ insM id (idsTo x.top x.at 8), -8 ≤ y ∧ y ≤ (insM id (idsTo x.top x.at 8)).getLastD 0) ∧ (insM id (idsTo x.top x.at 8)).getLastD 0 ≤ 1073741824 := by
  have hc := winFault_ids h
  have hz := winFault_zero h
  have hlen := idsTo_len x.top x.at 8
  have hlt : ∀ y ∈ idsTo x.top x.at 8, y < x.top ∧ x.top - 8 ≤ y := fun y hy => by have := idsTo_lt _ _ _ y hy; omega
  generalize idsTo x.top x.at 8 = l at hc hn hlt hlen
  obtain ⟨f1, f2, f3, f4, f5⟩ := insF_facts id l l.length (Nat.le_refl _)
  rw [List.take_length] at f1 f2 f3 f4 f5
  unfold insM
  generalize insF id l = s at f1 f2 f3 f4 f5
  obtain ⟨o, d⟩ := s
  simp only at f1 f2 f3 f4 f5 ⊢
  cases d
  · simp only [Bool.false_eq_true, if_false]
    have hge : ∀ y ∈ l, ¬ id < y := fun y hy hlt => by have := f2.2 ⟨y, hy, hlt⟩; cases this
    have hl := f5 rfl
    rw [show (o ++ [id]).getLastD 0 = id by simp]
    refine ⟨by simp, by simp; omega, fun y hy => ?_, h1⟩
    rcases List.mem_append.1 hy with hy | hy
    · rcases (f1 y).1 hy with hy | ⟨hy, _⟩
      · have := hge y hy
        have := hlt y hy
        omega
      · cases hy
    · simp at hy
      omega
  · simp only [if_true]
    obtain ⟨y, hy, hlt2⟩ := f2.1 rfl
    rcases hc with ⟨_, h2⟩ | ⟨h1', h2, h3⟩
    · rw [h2] at hy; cases hy
    · have hy3 := hlt y hy
      rw [f3 h2, h3]
      have hp : 0 < o.length := List.length_pos_of_mem ((f1 y).2 (.inl hy))
      refine ⟨hp, by omega, fun z hz => ?_, by omega⟩
      rcases (f1 z).1 hz with hz | ⟨_, hz⟩
      · have := hlt z hz
        omega
      · omega

set_option maxRecDepth 100000 in
set_option maxHeartbeats 4000000 in
theorem IdTaken_calls (x : Win) (id : Int) (w : World) : Calls Try.prog 150 #[x.val, .int .i64 id] w (WTakePost w (takeW x id)) := by
  obtain ⟨i0, hi0, hz0, hz1, hz2⟩ := info_parts i64_info
  have HS := Lib.hid (IdSeen_calls x id)
  have HI := Lib.hid (idsOf_calls x)
  have HV := Lib.hid (fun h h0 hn => insM_eq x id h h0 hn)
  have HM := Lib.hid (fun h h0 h1 hn => insM_facts x id h h0 h1 hn)
  have HT := Lib.hid (winFault_zero (x := x))
  have HSZ := Lib.hid (seen_zero (x := x) (id := id))
  have HSN := Lib.hid (seen_not (x := x) (id := id))
  have HF := Lib.hid (insF_snoc id)
  have HQ : Hid (∀ l : List Int, insM id l = if (insF id l).2 = true then (insF id l).1 else (insF id l).1 ++ [id]) := Lib.hid (fun l => rfl)
  have HLEN := Lib.hid (idsTo_len x.top x.at 8)
  have HFL : Hid (∀ (l : List Int) (k : Nat), k ≤ l.length → (insF id (l.take k)).1.length ≤ k + 1) := Lib.hid (fun l k hk => (insF_facts id l k hk).2.2.2.1)
  have HZ0 : Hid (∀ z, z = takeW x id → z = if (seenM x id).2 ≠ 0 then (zeroWin, false, (seenM x id).2) else if (seenM x id).1 = true then (x, false, 0) else (outM x id, true, 0)) := Lib.hid (fun z h => h)
  generalize hz : takeW x id = z
  have HZ := Lib.hid (HZ0.out z hz.symm)
  clear hz HZ0
  generalize outM x id = ow at HV HZ
  generalize winFault x = wf at HT HSZ HV HM
  generalize seenM x id = r at HS HSZ HSN HZ
  generalize idsTo x.top x.at 8 = l at HI HV HM HSN HLEN
  obtain ⟨rb, rk⟩ := r
  obtain ⟨t, b0, b1, b2, b3, b4, b5, b6, b7⟩ := x
  obtain ⟨ot, o0, o1, o2, o3, o4, o5, o6, o7⟩ := ow
  unfold Win.val at *
  simp only at HT HI HSZ HSN HS HZ ⊢
  go_enter Try.func150, Try.ntmps150
  go_wp2_with fail
  refine (HS.out _).mono ?_
  rintro e w1 ⟨rfl, hb1⟩
  have c0 := hb1.cell (p := ⟨w.heap.size, 0, none⟩) (by simp; omega)
  have c1 := hb1.cell (p := ⟨w.heap.size, 1, none⟩) (by simp; omega)
  have c2 := hb1.cell (p := ⟨w.heap.size, 2, none⟩) (by simp; omega)
  have c3 := hb1.cell (p := ⟨w.heap.size, 3, none⟩) (by simp; omega)
  have c4 := hb1.cell (p := ⟨w.heap.size, 4, none⟩) (by simp; omega)
  have c5 := hb1.cell (p := ⟨w.heap.size, 5, none⟩) (by simp; omega)
  have c6 := hb1.cell (p := ⟨w.heap.size, 6, none⟩) (by simp; omega)
  have c7 := hb1.cell (p := ⟨w.heap.size, 7, none⟩) (by simp; omega)
  have c8 := hb1.cell (p := ⟨w.heap.size, 8, none⟩) (by simp; omega)
  simp [World.cell?_alloc_lt] at c0 c1 c2 c3 c4 c5 c6 c7 c8
  have RB1 := (Blk.new1 w _ _ _).below hb1 (by simp)
  have r0 := hb1.cell (p := ⟨w.heap.size + 1, 0, none⟩) (by simp)
  have r1 := hb1.cell (p := ⟨w.heap.size + 1, 1, none⟩) (by simp)
  have r2 := hb1.cell (p := ⟨w.heap.size + 1, 2, none⟩) (by simp)
  have r3 := hb1.cell (p := ⟨w.heap.size + 1, 3, none⟩) (by simp)
  have r4 := hb1.cell (p := ⟨w.heap.size + 1, 4, none⟩) (by simp)
  have r5 := hb1.cell (p := ⟨w.heap.size + 1, 5, none⟩) (by simp)
  have r6 := hb1.cell (p := ⟨w.heap.size + 1, 6, none⟩) (by simp)
  have r7 := hb1.cell (p := ⟨w.heap.size + 1, 7, none⟩) (by simp)
  have r8 := hb1.cell (p := ⟨w.heap.size + 1, 8, none⟩) (by simp)
  simp at r0 r1 r2 r3 r4 r5 r6 r7 r8
  have fz := fun j => hb1.frozen (p := ⟨w.heap.size + 1, j, none⟩) (by simp)
  simp at fz
  have hsz : w.heap.size + 2 ≤ w1.heap.size := by have := hb1.size; simp at this; omega
  have HB : Hid (Below w.heap.size w w1) := Lib.hid ((((Below.refl _ w).alloc (Nat.le_refl _) _).alloc (by simp) _).trans (hb1.mono (by simp; omega)))
  clear hb1
  by_cases hrk : rk = 0
  · obtain ⟨hwf, i0', i1'⟩ := HSZ.out hrk
    subst hrk
    obtain ⟨t0, t1⟩ := HT.out hwf
    cases rb
    · have e := HZ.out
      rw [if_neg (by simp), if_neg (by simp)] at e
      subst e
      go_wp2_with fail
      refine (HI.out _ t0 t1).mono ?_
      rintro e w2 ⟨A1, n1, d1, rfl, hn1, hb2, hr2⟩
      have hB12 : Below w.heap.size w w2 := HB.out.trans (hb2.mono (by omega))
      have hsz2 : w.heap.size + 2 ≤ w2.heap.size := by have := hb2.size; omega
      have RB2 := RB1.below hb2 (by omega)
      have HBW := Lib.hid hB12
      have HR := Lib.hid hr2
      have HN := Lib.hid hn1
      have hn8 : n1 ≤ 8 := by have := HLEN.out; omega
      clear hb2 hr2 hn1 hB12 c0 c1 c2 c3 c4 c5 c6 c7 c8 r0 r1 r2 r3 r4 r5 r6 r7 r8 fz
      go_wp2_with fail
      go_loopw [10, 11, 12] (fun v d i wr => ∃ k : Nat, k ≤ n1 ∧ i = .int .i64 k ∧ d = .bool (insF id (l.take k)).2 ∧ wr.ownsRow w2.heap.size 3 1 v (insF id (l.take k)).1.length (intCells (insF id (l.take k)).1) ∧ Below w2.heap.size w2 wr) (fun _ _ i _ => n1 - (intOf i).toNat)
      case atStart => exact ⟨0, by omega, rfl, rfl, ownsRow_nil_ _ _ _ _, Below.refl _ _⟩
      case round =>
        obtain ⟨k, hk, rfl, rfl, hown, hb⟩ := hrel
        have HO := Lib.hid hown
        have HBr := Lib.hid hb
        have hszr : w2.heap.size ≤ wr.heap.size := hb.size
        have hol := HFL.out l k (by have := HN.out; omega)
        by_cases hlt : k < n1
        · obtain ⟨b, off, y, hA, hbb, hy, hc⟩ := (HR.out.below hb (Nat.le_refl _)).int_at hlt
          have HC2 : Hid (w2.cell? ⟨b, off + k, none⟩ = some (.int .i64 y)) := Lib.hid ((hb.cell (p := ⟨b, off + k, none⟩) hbb).symm.trans hc)
          have HE : Hid (insF id (l.take (k + 1)) = _) := Lib.hid ((by rw [List.take_add_one, hy]; rfl : insF id (l.take (k + 1)) = insF id (l.take k ++ [y])).trans (HF.out (l.take k) y))
          have HNy := Lib.hid (int_new wr y 3)
          have HY := Lib.hid hy
          subst hA
          clear hown hb hy
          generalize insF id (l.take k) = s at HE HO hol ⊢
          obtain ⟨o, d⟩ := s
          simp only at HE HO hol ⊢
          cases d
          · by_cases hid : id < y
            · simp only [hid, and_self, if_true, Bool.false_or, decide_true] at HE
              have HNi := Lib.hid (int_new wr id 3)
              go_wp2_with (first | (at_builtin; refine wpList_append_any _ rfl (.tmp 43) (.tmp 45) _ rfl w2.heap.size 3 i0 _ 1 8 Try.underlying143 hi0 hz0 hz1 hz2 rfl (by omega) _ o.length (intCells o) rfl (HO.out.alloc _) (wr.heap.size + 1) (some ⟨wr.heap.size, 0, none⟩) 1 1 (intCells [id]) rfl HNi.out (intCells_one _) (by simp only [maxLen]; omega) (by omega) (by simp; omega) ?_; intro v1 w3 hown1 hg1 hat1; have hB1 : Below w2.heap.size w2 w3 := (HBr.out.alloc (by omega) _).grown hg1 (by simp; omega) (HO.out.own_lt ·); have hc3 := (hB1.cell (p := ⟨b, off + k, none⟩) hbb).trans HC2.out; have hsz3 : w2.heap.size ≤ w3.heap.size := hB1.size; rw [← intCells_append] at hown1; have HO1 := Lib.hid hown1; have HB1 := Lib.hid hB1; clear hown1 hB1 hg1 hat1) | (at_builtin; refine wpList_append_any _ rfl (.tmp 47) (.tmp 52) _ rfl w2.heap.size 3 i0 _ 1 8 Try.underlying143 hi0 hz0 hz1 hz2 rfl (by omega) _ (o.length + 1) (intCells (o ++ [id])) rfl (HO1.out.alloc _) (_ + 1) (some ⟨_, 0, none⟩) 1 1 (intCells [y]) rfl (int_new _ y 3) (intCells_one _) (by simp only [maxLen]; omega) (by omega) (by simp; omega) ?_; intro v2 w4 hown2 hg2 hat2))
              have hB2 : Below w2.heap.size w2 w4 := (HB1.out.alloc (by omega) _).grown hg2 (by simp; omega) (HO1.out.own_lt ·)
              rw [← intCells_append] at hown2
              have HB2 := Lib.hid hB2
              have HO2 := Lib.hid hown2
              clear hB2 hown2 hg2 hat2
              go_wp2_with fail
              go_roundw
              case rel => exact ⟨k + 1, by omega, by go_num, by rw [HE.out], by rw [HE.out]; simpa using HO2.out, HB2.out⟩
              case measure => simp [intOf]; omega
            · simp only [hid, and_false, if_false, Bool.false_or, decide_false] at HE
              go_wp2_with (at_builtin; refine wpList_append_any _ rfl (.tmp 47) (.tmp 52) _ rfl w2.heap.size 3 i0 _ 1 8 Try.underlying143 hi0 hz0 hz1 hz2 rfl (by omega) _ o.length (intCells o) rfl (HO.out.alloc _) (wr.heap.size + 1) (some ⟨wr.heap.size, 0, none⟩) 1 1 (intCells [y]) rfl HNy.out (intCells_one _) (by simp only [maxLen]; omega) (by omega) (by simp; omega) ?_; intro v1 w3 hown1 hg1 hat1)
              have hB1 : Below w2.heap.size w2 w3 := (HBr.out.alloc (by omega) _).grown hg1 (by simp; omega) (HO.out.own_lt ·)
              rw [← intCells_append] at hown1
              have HB1 := Lib.hid hB1
              have HO1 := Lib.hid hown1
              clear hB1 hown1 hg1 hat1
              go_wp2_with fail
              go_roundw
              case rel => exact ⟨k + 1, by omega, by go_num, by rw [HE.out], by rw [HE.out]; simpa using HO1.out, HB1.out⟩
              case measure => simp [intOf]; omega
          · simp only [Bool.true_eq_false, false_and, if_false, Bool.true_or] at HE
            go_wp2_with (at_builtin; refine wpList_append_any _ rfl (.tmp 47) (.tmp 52) _ rfl w2.heap.size 3 i0 _ 1 8 Try.underlying143 hi0 hz0 hz1 hz2 rfl (by omega) _ o.length (intCells o) rfl (HO.out.alloc _) (wr.heap.size + 1) (some ⟨wr.heap.size, 0, none⟩) 1 1 (intCells [y]) rfl HNy.out (intCells_one _) (by simp only [maxLen]; omega) (by omega) (by simp; omega) ?_; intro v1 w3 hown1 hg1 hat1)
            have hB1 : Below w2.heap.size w2 w3 := (HBr.out.alloc (by omega) _).grown hg1 (by simp; omega) (HO.out.own_lt ·)
            rw [← intCells_append] at hown1
            have HB1 := Lib.hid hB1
            have HO1 := Lib.hid hown1
            clear hB1 hown1 hg1 hat1
            go_wp2_with fail
            go_roundw
            case rel => exact ⟨k + 1, by omega, by go_num, by rw [HE.out], by rw [HE.out]; simpa using HO1.out, HB1.out⟩
            case measure => simp [intOf]; omega
        · obtain rfl : k = n1 := by omega
          clear hown hb
          have hln : l.take k = l := List.take_of_length_le (by have := HN.out; omega)
          rw [hln] at HO hol ⊢
          clear hln
          have HI2 := Lib.hid (HQ.out l)
          have HV2 := Lib.hid (HV.out hwf i0' (HSN.out trivial trivial))
          obtain ⟨hm1, hm2, hm3, hm4⟩ := HM.out hwf i0' i1' (HSN.out trivial trivial)
          have HM2 := Lib.hid hm3
          have HM3 := Lib.hid hm4
          generalize insM id l = m at HI2 HV2 hm1 hm2 HM2 HM3
          generalize insF id l = s at HI2 HO hol ⊢
          obtain ⟨o, d⟩ := s
          simp only at HI2 HO hol ⊢
          clear hm3 hm4
          cases d
          · have hmo : m = o ++ [id] := HI2.out
            subst hmo
            have HNi := Lib.hid (int_new wr id 3)
            go_wp2_with (at_builtin; refine wpList_append_any _ rfl (.tmp 56) (.tmp 58) _ rfl w2.heap.size 3 i0 _ 1 8 Try.underlying143 hi0 hz0 hz1 hz2 rfl (by omega) _ o.length (intCells o) rfl (HO.out.alloc _) (wr.heap.size + 1) (some ⟨wr.heap.size, 0, none⟩) 1 1 (intCells [id]) rfl HNi.out (intCells_one _) (by simp only [maxLen]; omega) (by omega) (by simp; omega) ?_; intro v1 w3 hown1 hg1 hat1)
            have hB1 : Below w2.heap.size w2 w3 := (HBr.out.alloc (by omega) _).grown hg1 (by simp; omega) (HO.out.own_lt ·)
            rw [← intCells_append] at hown1
            obtain ⟨A3, c3, rfl, _⟩ := own_form hown1
            have hr3 := Rd.of_own hown1
            have HR3 := Lib.hid hr3
            have RB3 := RB2.below hB1 (by omega)
            have hB3 : Below w.heap.size w w3 := HBW.out.trans (hB1.mono (by omega))
            have hs3 : w2.heap.size ≤ w3.heap.size := hB1.size
            have HB3 := Lib.hid hB3
            clear hB1 hB3 hr3
            try clear hown1 hg1 hat1
            go_wp2_with fail
            refine (windowOf_cons A3 (o.length + 1) c3 _ _ HR3.out (by first | exact hm1 | simp) (by first | exact hm2 | (simp at hm2 ⊢; exact hm2)) HM2.out HM3.out).mono ?_
            rintro e w4 ⟨rfl, hb4⟩
            rw [HV2.out]
            have RB4 := RB3.below hb4 (by omega)
            obtain ⟨g0, g1, g2, g3, g4, g5, g6, g7, g8, fz⟩ := RB4.cells9
            have hs4 : w3.heap.size ≤ w4.heap.size := hb4.size
            have HB4 := Lib.hid (HB3.out.trans (hb4.mono (by omega)))
            clear hb4
            unfold Win.val
            go_wp2_with fail
            refine bodyPost_ret (v := .tuple #[.agg #[.int .i64 ot, .bool o0, .bool o1, .bool o2, .bool o3, .bool o4, .bool o5, .bool o6, .bool o7], .bool true, .int .i64 0]) (by simp [results, Try.results150, go_sem, g0, g1, g2, g3, g4, g5, g6, g7, g8]) rfl ?_
            have hB := HB4.out
            exact ⟨rfl, by go_grown⟩
          · have hmo : m = o := HI2.out
            subst hmo
            have hown1 := HO.out
            obtain ⟨A3, c3, rfl, _⟩ := own_form hown1
            have hr3 := Rd.of_own hown1
            have hB1 := HBr.out
            have HR3 := Lib.hid hr3
            have RB3 := RB2.below hB1 (by omega)
            have hB3 : Below w.heap.size w wr := HBW.out.trans (hB1.mono (by omega))
            have hs3 : w2.heap.size ≤ wr.heap.size := hB1.size
            have HB3 := Lib.hid hB3
            clear hB1 hB3 hr3
            try clear hown1 hg1 hat1
            go_wp2_with fail
            refine (windowOf_cons A3 (m.length) c3 _ _ HR3.out (by first | exact hm1 | simp) (by first | exact hm2 | (simp at hm2 ⊢; exact hm2)) HM2.out HM3.out).mono ?_
            rintro e w4 ⟨rfl, hb4⟩
            rw [HV2.out]
            have RB4 := RB3.below hb4 (by omega)
            obtain ⟨g0, g1, g2, g3, g4, g5, g6, g7, g8, fz⟩ := RB4.cells9
            have hs4 : wr.heap.size ≤ w4.heap.size := hb4.size
            have HB4 := Lib.hid (HB3.out.trans (hb4.mono (by omega)))
            clear hb4
            unfold Win.val
            go_wp2_with fail
            refine bodyPost_ret (v := .tuple #[.agg #[.int .i64 ot, .bool o0, .bool o1, .bool o2, .bool o3, .bool o4, .bool o5, .bool o6, .bool o7], .bool true, .int .i64 0]) (by simp [results, Try.results150, go_sem, g0, g1, g2, g3, g4, g5, g6, g7, g8]) rfl ?_
            have hB := HB4.out
            exact ⟨rfl, by go_grown⟩
    · have e := HZ.out
      rw [if_neg (by simp), if_pos rfl] at e
      subst e
      go_wp2_with fail
      refine bodyPost_ret (v := .tuple #[.agg #[.int .i64 t, .bool b0, .bool b1, .bool b2, .bool b3, .bool b4, .bool b5, .bool b6, .bool b7], .bool false, .int .i64 0]) (by simp [results, Try.results150, go_sem, r0, r1, r2, r3, r4, r5, r6, r7, r8]) rfl ?_
      have hB := HB.out
      exact ⟨rfl, by go_grown⟩
  · have e := HZ.out
    rw [if_pos hrk] at e
    subst e
    go_wp2_with fail
    refine bodyPost_ret (v := .tuple #[.agg #[.int .i64 0, .bool false, .bool false, .bool false, .bool false, .bool false, .bool false, .bool false, .bool false], .bool false, .int .i64 rk]) (by simp [results, Try.results150, go_sem, r0, r1, r2, r3, r4, r5, r6, r7, r8]) rfl ?_
    have hB := HB.out
    exact ⟨rfl, by go_grown⟩
end Go.Proofs.Ytkjlafpafmihaaa

