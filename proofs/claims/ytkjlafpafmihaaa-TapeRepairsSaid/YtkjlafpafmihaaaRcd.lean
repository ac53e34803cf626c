/- Contracts: pack.hasEvent, pack.Record, ref.RecordFault. -/
import Derived.Test.YtkjlafpafmihaaaEvFaultRef
namespace Go.Proofs.Ytkjlafpafmihaaa
open Go.ChangeShapes Go.WideShapes Go.RowKit

/-- A record. -/
structure Rcd where
  kind : Int
  queue : Int
  epoch : Int
  peer : Int
  ev : Ev
  deriving DecidableEq

def Rcd.val (r : Rcd) : Value := .agg #[.int .i64 r.kind, .int .i64 r.queue, .int .i64 r.epoch, .int .i64 r.peer, .int .i64 r.ev.kind, .int .i64 r.ev.producer, .int .i64 r.ev.id, .int .i64 r.ev.body, .int .i64 r.ev.hepoch, .int .i64 r.ev.hno]

def hasEv (k : Int) : Bool := k == 2 || k == 5
def zeroEv : Ev := ⟨0, 0, 0, 0, 0, 0⟩
/-- P1.4. -/
def recFault (r : Rcd) : Int :=
  if inR r.kind 1 7 = false then 3
  else if (inR r.queue 0 3 && inR r.epoch 0 1048576 && inR r.peer 0 4) = false then 2
  else if hasEv r.kind = true then evFault r.ev
  else if r.ev = zeroEv then 0 else 3

set_option maxHeartbeats 400000 in
theorem hasEvent_calls (k : Int) (w : World) : Calls Try.prog 121 #[.int .i64 k] w fun e w' => e = .returned (.bool (hasEv k)) ∧ w = w' := by
  unfold hasEv
  cases h1 : (k == 2) <;> cases h2 : (k == 5)
  all_goals
    go_enter Try.func121, Try.ntmps121
    go_wp2
    go_ret
    exact ⟨by simp, rfl⟩

set_option maxRecDepth 100000 in
set_option maxHeartbeats 4000000 in
theorem Record_kind (r : Rcd) (w : World) (h : inR r.kind 1 7 = false) : Calls Try.prog 119 #[r.val] w (IntPost w 3) := by
  obtain ⟨k, q, ep, pe, x0, x1, x2, x3, x4, x5⟩ := r
  unfold Rcd.val
  simp only at h
  rcases inR_false.1 h with h1 | h1
  all_goals
    clear h
    go_enter Try.func119, Try.ntmps119
    go_wp2_with (first | (go_at_call 168; refine (within_calls _ _ _ _).mono ?_; rintro e w' ⟨rfl, rfl⟩) | (go_at_call 121; refine (hasEvent_calls _ _).mono ?_; rintro e w' ⟨rfl, rfl⟩))
    go_ret
    exact ⟨rfl, by go_grown⟩
set_option maxRecDepth 100000 in
set_option maxHeartbeats 4000000 in
theorem Record_range (r : Rcd) (w : World) (h : inR r.kind 1 7 = true) (hb : (inR r.queue 0 3 && inR r.epoch 0 1048576 && inR r.peer 0 4) = false) : Calls Try.prog 119 #[r.val] w (IntPost w 2) := by
  obtain ⟨k, q, ep, pe, x0, x1, x2, x3, x4, x5⟩ := r
  unfold Rcd.val
  simp only at h hb
  obtain ⟨hk0, hk1⟩ := inR_true.1 h
  cases r1 : inR q 0 3 <;> cases r2 : inR ep 0 1048576 <;> cases r3 : inR pe 0 4 <;> simp [r1, r2, r3] at hb
  all_goals
    go_enter Try.func119, Try.ntmps119
    go_wp2_with (first | (go_at_call 168; refine (within_calls _ _ _ _).mono ?_; rintro e w' ⟨rfl, rfl⟩) | (go_at_call 121; refine (hasEvent_calls _ _).mono ?_; rintro e w' ⟨rfl, rfl⟩))
    go_ret
    exact ⟨rfl, by go_grown⟩
set_option maxRecDepth 100000 in
set_option maxHeartbeats 4000000 in
theorem Record_bare (r : Rcd) (w : World) (h : inR r.kind 1 7 = true) (hb : (inR r.queue 0 3 && inR r.epoch 0 1048576 && inR r.peer 0 4) = true) (he : hasEv r.kind = false) : Calls Try.prog 119 #[r.val] w (IntPost w (if r.ev = zeroEv then 0 else 3)) := by
  obtain ⟨k, q, ep, pe, x0, x1, x2, x3, x4, x5⟩ := r
  unfold Rcd.val
  simp only at h hb he ⊢
  obtain ⟨hk0, hk1⟩ := inR_true.1 h
  simp only [Bool.and_eq_true] at hb
  obtain ⟨⟨r1, r2⟩, r3⟩ := hb
  have hq := run_neq_ev ⟨x0, x1, x2, x3, x4, x5⟩ zeroEv
  by_cases z : (⟨x0, x1, x2, x3, x4, x5⟩ : Ev) = zeroEv
  · rw [if_pos z]
    rw [show decide ((⟨x0, x1, x2, x3, x4, x5⟩ : Ev) = zeroEv) = true from decide_eq_true z] at hq
    simp only [zeroEv] at hq z
    simp only [Ev.mk.injEq] at z
    obtain ⟨rfl, rfl, rfl, rfl, rfl, rfl⟩ := z
    go_enter Try.func119, Try.ntmps119
    go_wp2_with (first | (go_at_call 168; refine (within_calls _ _ _ _).mono ?_; rintro e w' ⟨rfl, rfl⟩) | (go_at_call 121; refine (hasEvent_calls _ _).mono ?_; rintro e w' ⟨rfl, rfl⟩))
    go_ret
    exact ⟨rfl, by go_grown⟩
  · rw [if_neg z]
    rw [show decide ((⟨x0, x1, x2, x3, x4, x5⟩ : Ev) = zeroEv) = false from decide_eq_false z] at hq
    simp only [zeroEv] at hq
    have HZ := Lib.hid z
    clear z
    go_enter Try.func119, Try.ntmps119
    go_wp2_with (first | (go_at_call 168; refine (within_calls _ _ _ _).mono ?_; rintro e w' ⟨rfl, rfl⟩) | (go_at_call 121; refine (hasEvent_calls _ _).mono ?_; rintro e w' ⟨rfl, rfl⟩))
    go_ret
    exact ⟨rfl, by go_grown⟩
set_option maxRecDepth 100000 in
set_option maxHeartbeats 4000000 in
theorem Record_event (r : Rcd) (w : World) (h : inR r.kind 1 7 = true) (hb : (inR r.queue 0 3 && inR r.epoch 0 1048576 && inR r.peer 0 4) = true) (he : hasEv r.kind = true) : Calls Try.prog 119 #[r.val] w (IntPost w (evFault r.ev)) := by
  have HC := Lib.hid (Check_calls r.ev)
  generalize evFault r.ev = z at HC
  obtain ⟨k, q, ep, pe, x0, x1, x2, x3, x4, x5⟩ := r
  unfold Rcd.val
  unfold Ev.val at HC
  simp only at h hb he HC ⊢
  obtain ⟨hk0, hk1⟩ := inR_true.1 h
  simp only [Bool.and_eq_true] at hb
  obtain ⟨⟨r1, r2⟩, r3⟩ := hb
  have hk : k = 2 ∨ k = 5 := by unfold hasEv at he; simp at he; exact he
  rcases hk with rfl | rfl
  all_goals
    go_enter Try.func119, Try.ntmps119
    go_wp2_with (first | (go_at_call 168; refine (within_calls _ _ _ _).mono ?_; rintro e w' ⟨rfl, rfl⟩) | (go_at_call 121; refine (hasEvent_calls _ _).mono ?_; rintro e w' ⟨rfl, rfl⟩))
    refine (HC.out _).mono ?_
    rintro e w1 ⟨rfl, hb1⟩
    have HB := Lib.hid hb1
    clear hb1
    go_wp2_with fail
    go_ret
    exact ⟨rfl, ((Below.refl _ w).alloc (Nat.le_refl _) _).trans (HB.out.mono (by simp))⟩
theorem Record_calls (r : Rcd) (w : World) : Calls Try.prog 119 #[r.val] w (IntPost w (recFault r)) := by
  unfold recFault
  cases h : inR r.kind 1 7
  · rw [if_pos rfl]
    exact Record_kind r w h
  · rw [if_neg (by simp)]
    cases hb : (inR r.queue 0 3 && inR r.epoch 0 1048576 && inR r.peer 0 4)
    · rw [if_pos rfl]
      exact Record_range r w h hb
    · rw [if_neg (by simp)]
      cases he : hasEv r.kind
      · rw [if_neg (by simp)]
        exact Record_bare r w h hb he
      · rw [if_pos rfl]
        exact Record_event r w h hb he

set_option maxRecDepth 100000 in
set_option maxHeartbeats 4000000 in
theorem RecordFault_kind (r : Rcd) (w : World) (h : inR r.kind 1 7 = false) : Calls Try.prog 122 #[r.val] w (IntPost w 3) := by
  obtain ⟨k, q, ep, pe, x0, x1, x2, x3, x4, x5⟩ := r
  unfold Rcd.val
  simp only at h
  go_enter Try.func122, Try.ntmps122
  go_wp2_with (go_at_call 107; refine (In_calls _ _ _ _).mono ?_; rintro e w' ⟨rfl, rfl⟩)
  go_ret
  exact ⟨rfl, by go_grown⟩
set_option maxRecDepth 100000 in
set_option maxHeartbeats 4000000 in
theorem RecordFault_range (r : Rcd) (w : World) (h : inR r.kind 1 7 = true) (hb : (inR r.queue 0 3 && inR r.epoch 0 1048576 && inR r.peer 0 4) = false) : Calls Try.prog 122 #[r.val] w (IntPost w 2) := by
  obtain ⟨k, q, ep, pe, x0, x1, x2, x3, x4, x5⟩ := r
  unfold Rcd.val
  simp only at h hb
  obtain ⟨hk0, hk1⟩ := inR_true.1 h
  cases r1 : inR q 0 3 <;> cases r2 : inR ep 0 1048576 <;> cases r3 : inR pe 0 4 <;> simp [r1, r2, r3] at hb
  all_goals
    go_enter Try.func122, Try.ntmps122
    go_wp2_with (go_at_call 107; refine (In_calls _ _ _ _).mono ?_; rintro e w' ⟨rfl, rfl⟩)
    go_ret
    exact ⟨rfl, by go_grown⟩
set_option maxRecDepth 100000 in
set_option maxHeartbeats 4000000 in
theorem RecordFault_bare (r : Rcd) (w : World) (h : inR r.kind 1 7 = true) (hb : (inR r.queue 0 3 && inR r.epoch 0 1048576 && inR r.peer 0 4) = true) (he : hasEv r.kind = false) : Calls Try.prog 122 #[r.val] w (IntPost w (if r.ev = zeroEv then 0 else 3)) := by
  obtain ⟨k, q, ep, pe, x0, x1, x2, x3, x4, x5⟩ := r
  unfold Rcd.val
  simp only at h hb he ⊢
  obtain ⟨hk0, hk1⟩ := inR_true.1 h
  simp only [Bool.and_eq_true] at hb
  obtain ⟨⟨r1, r2⟩, r3⟩ := hb
  have hq := run_neq_ev ⟨x0, x1, x2, x3, x4, x5⟩ zeroEv
  have k2 : (k == 2) = false := by unfold hasEv at he; simp at he; simp [he]
  have k5 : (k == 5) = false := by unfold hasEv at he; simp at he; simp [he]
  by_cases z : (⟨x0, x1, x2, x3, x4, x5⟩ : Ev) = zeroEv
  · rw [if_pos z]
    rw [show decide ((⟨x0, x1, x2, x3, x4, x5⟩ : Ev) = zeroEv) = true from decide_eq_true z] at hq
    simp only [zeroEv] at hq z
    simp only [Ev.mk.injEq] at z
    obtain ⟨rfl, rfl, rfl, rfl, rfl, rfl⟩ := z
    go_enter Try.func122, Try.ntmps122
    go_wp2_with (go_at_call 107; refine (In_calls _ _ _ _).mono ?_; rintro e w' ⟨rfl, rfl⟩)
    go_ret
    exact ⟨rfl, by go_grown⟩
  · rw [if_neg z]
    rw [show decide ((⟨x0, x1, x2, x3, x4, x5⟩ : Ev) = zeroEv) = false from decide_eq_false z] at hq
    simp only [zeroEv] at hq
    have HZ := Lib.hid z
    clear z
    go_enter Try.func122, Try.ntmps122
    go_wp2_with (go_at_call 107; refine (In_calls _ _ _ _).mono ?_; rintro e w' ⟨rfl, rfl⟩)
    go_ret
    exact ⟨rfl, by go_grown⟩
set_option maxRecDepth 100000 in
set_option maxHeartbeats 4000000 in
theorem RecordFault_event (r : Rcd) (w : World) (h : inR r.kind 1 7 = true) (hb : (inR r.queue 0 3 && inR r.epoch 0 1048576 && inR r.peer 0 4) = true) (he : hasEv r.kind = true) : Calls Try.prog 122 #[r.val] w (IntPost w (evFault r.ev)) := by
  have HC := Lib.hid (EventFault_calls r.ev)
  generalize evFault r.ev = z at HC
  obtain ⟨k, q, ep, pe, x0, x1, x2, x3, x4, x5⟩ := r
  unfold Rcd.val
  unfold Ev.val at HC
  simp only at h hb he HC ⊢
  obtain ⟨hk0, hk1⟩ := inR_true.1 h
  simp only [Bool.and_eq_true] at hb
  obtain ⟨⟨r1, r2⟩, r3⟩ := hb
  have hk : k = 2 ∨ k = 5 := by unfold hasEv at he; simp at he; exact he
  rcases hk with rfl | rfl
  all_goals
    go_enter Try.func122, Try.ntmps122
    go_wp2_with (go_at_call 107; refine (In_calls _ _ _ _).mono ?_; rintro e w' ⟨rfl, rfl⟩)
    refine (HC.out _).mono ?_
    rintro e w1 ⟨rfl, hb1⟩
    have HB := Lib.hid hb1
    clear hb1
    go_wp2_with fail
    go_ret
    exact ⟨rfl, ((Below.refl _ w).alloc (Nat.le_refl _) _).trans (HB.out.mono (by simp))⟩
theorem RecordFault_calls (r : Rcd) (w : World) : Calls Try.prog 122 #[r.val] w (IntPost w (recFault r)) := by
  unfold recFault
  cases h : inR r.kind 1 7
  · rw [if_pos rfl]
    exact RecordFault_kind r w h
  · rw [if_neg (by simp)]
    cases hb : (inR r.queue 0 3 && inR r.epoch 0 1048576 && inR r.peer 0 4)
    · rw [if_pos rfl]
      exact RecordFault_range r w h hb
    · rw [if_neg (by simp)]
      cases he : hasEv r.kind
      · rw [if_neg (by simp)]
        exact RecordFault_bare r w h hb he
      · rw [if_pos rfl]
        exact RecordFault_event r w h hb he

def rcdSh : List Sh := [.at_ (.int .i64), .at_ (.int .i64), .at_ (.int .i64), .at_ (.int .i64), .at_ (.int .i64), .at_ (.int .i64), .at_ (.int .i64), .at_ (.int .i64), .at_ (.int .i64), .at_ (.int .i64)]
theorem flat_rcd : flat Try.prog 30 51 = some rcdSh := by kernel_rfl
set_option maxRecDepth 100000 in
theorem arg_record {W : World} {v : Value} (h : ArgOk Try.prog W v 51) : ∃ r : Rcd, v = r.val := by
  obtain ⟨⟨base, hk⟩, l, hl, ha⟩ := h
  rw [flat_rcd] at hl
  cases hl
  obtain ⟨cs, rfl, _⟩ := okWide_struct Try.underlying51 hk
  obtain ⟨a1, l1, e, ⟨m1, rfl, _⟩, h3⟩ := All2.cons_ ha
  obtain ⟨a2, l2, rfl, ⟨m2, rfl, _⟩, h4⟩ := All2.cons_ h3
  obtain ⟨a3, l3, rfl, ⟨m3, rfl, _⟩, h5⟩ := All2.cons_ h4
  obtain ⟨a4, l4, rfl, ⟨m4, rfl, _⟩, h6⟩ := All2.cons_ h5
  obtain ⟨a5, l5, rfl, ⟨m5, rfl, _⟩, h7⟩ := All2.cons_ h6
  obtain ⟨a6, l6, rfl, ⟨m6, rfl, _⟩, h8⟩ := All2.cons_ h7
  obtain ⟨a7, l7, rfl, ⟨m7, rfl, _⟩, h9⟩ := All2.cons_ h8
  obtain ⟨a8, l8, rfl, ⟨m8, rfl, _⟩, h10⟩ := All2.cons_ h9
  obtain ⟨a9, l9, rfl, ⟨m9, rfl, _⟩, h11⟩ := All2.cons_ h10
  obtain ⟨a10, l10, rfl, ⟨m10, rfl, _⟩, h12⟩ := All2.cons_ h11
  have h13 := All2.nil_ h12
  subst h13
  refine ⟨⟨m1, m2, m3, m4, ⟨m5, m6, m7, m8, m9, m10⟩⟩, ?_⟩
  simp only [Value.cells] at e
  unfold Rcd.val
  congr 1
  exact Array.toList_inj.1 e
end Go.Proofs.Ytkjlafpafmihaaa
