/- Parts of proofs: lemmas on memory, on single functions and on the plain models; no condition of their own. -/
import Derived.Test.YtkjlafpafmihaaaRows
import Derived.WalkKit
import Derived.ProofKit
import Derived.OpenShut
import Derived.SizedLaws
import Derived.WalkSpells
import Derived.WalkLawsBesides
import Derived.Handy
import Derived.Deep.QuietTactic
import Derived.BigQuiet
import Derived.Lib.Hide
import Derived.ChangeKeysEq
import Derived.RegionTactic
import Derived.Test.YtkjlafpafmihaaaG37e7b647d51a
import Derived.Test.YtkjlafpafmihaaaG7f5e22065f20
import Derived.Test.YtkjlafpafmihaaaG808b67dd407d
import Derived.Test.YtkjlafpafmihaaaGa54395e311fb
set_option linter.unusedVariables false
set_option linter.unusedSimpArgs false

namespace Go.Proofs.Ytkjlafpafmihaaa
open Go.ChangeShapes Go.WideShapes Go.RowKit

set_option maxHeartbeats 400000 in
theorem within_calls (n lo hi : Int) (w : World) :
    Calls Try.prog 168 #[.int .i64 n, .int .i64 lo, .int .i64 hi] w fun e w' => e = .returned (.bool (inR n lo hi)) ∧ w = w' := by
  by_cases h1 : lo ≤ n <;> by_cases h2 : n ≤ hi
  all_goals
    go_enter Try.func168, Try.ntmps168
    go_wp2
    go_ret
    exact ⟨by simp [inR]; omega, rfl⟩

/-- P1.3. -/
def evFault (e : Ev) : Int :=
  if ¬ (1 ≤ e.kind ∧ e.kind ≤ 4) then 3
  else if e.kind = 1 ∧ ¬ (inR e.producer 0 3 && inR e.id 0 1073741824 && inR e.body 0 1000000) = true then 2
  else if e.kind = 3 ∧ ¬ (inR e.hepoch 0 1048576 && inR e.hno 0 1073741824) = true then 2
  else if e.kind ≠ 1 ∧ ¬ (e.producer = 0 ∧ e.id = 0 ∧ e.body = 0) then 3
  else if e.kind ≠ 3 ∧ ¬ (e.hepoch = 0 ∧ e.hno = 0) then 3
  else 0

set_option maxRecDepth 100000 in
set_option maxHeartbeats 4000000 in
theorem Check_publish_bad (p i b he hn : Int) (w : World) (hb : (inR p 0 3 && inR i 0 1073741824 && inR b 0 1000000) = false) :
    Calls Try.prog 142 #[Ev.val ⟨1, p, i, b, he, hn⟩] w (IntPost w 2) := by
  unfold Ev.val
  cases r1 : inR p 0 3 <;> cases r2 : inR i 0 1073741824 <;> cases r3 : inR b 0 1000000 <;> simp [r1, r2, r3] at hb
  all_goals
    go_enter Try.func142, Try.ntmps142
    go_wp2_with (go_at_call 168; refine (within_calls _ _ _ _).mono ?_; rintro e w' ⟨rfl, rfl⟩)
    go_region
    go_wp2_with (go_at_call 168; refine (within_calls _ _ _ _).mono ?_; rintro e w' ⟨rfl, rfl⟩)
    go_ret
    exact ⟨rfl, by go_grown⟩

set_option maxRecDepth 100000 in
set_option maxHeartbeats 4000000 in
theorem Check_publish (p i b he hn : Int) (w : World) (hb : (inR p 0 3 && inR i 0 1073741824 && inR b 0 1000000) = true) :
    Calls Try.prog 142 #[Ev.val ⟨1, p, i, b, he, hn⟩] w (IntPost w (if he = 0 ∧ hn = 0 then 0 else 3)) := by
  unfold Ev.val
  simp only [Bool.and_eq_true] at hb
  obtain ⟨⟨r1, r2⟩, r3⟩ := hb
  have hq := run_neq_ev ⟨1, p, i, b, 0, 0⟩ ⟨1, p, i, b, he, hn⟩
  simp only [Ev.mk.injEq, true_and] at hq
  by_cases z : 0 = he ∧ 0 = hn
  · rw [if_pos ⟨z.1.symm, z.2.symm⟩]
    rw [show decide (0 = he ∧ 0 = hn) = true by simpa using z] at hq
    obtain ⟨rfl, rfl⟩ := z
    go_enter Try.func142, Try.ntmps142
    go_wp2_with (go_at_call 168; refine (within_calls _ _ _ _).mono ?_; rintro e w' ⟨rfl, rfl⟩)
    go_region
    go_wp2_with (go_at_call 168; refine (within_calls _ _ _ _).mono ?_; rintro e w' ⟨rfl, rfl⟩)
    go_ret
    exact ⟨rfl, by go_grown⟩
  · rw [if_neg (fun h => z ⟨h.1.symm, h.2.symm⟩)]
    rw [show decide (0 = he ∧ 0 = hn) = false by simpa using z] at hq
    have HZ := Lib.hid z
    clear z
    go_enter Try.func142, Try.ntmps142
    go_wp2_with (go_at_call 168; refine (within_calls _ _ _ _).mono ?_; rintro e w' ⟨rfl, rfl⟩)
    go_region
    go_wp2_with (go_at_call 168; refine (within_calls _ _ _ _).mono ?_; rintro e w' ⟨rfl, rfl⟩)
    go_ret
    exact ⟨rfl, by go_grown⟩

set_option maxRecDepth 100000 in
set_option maxHeartbeats 4000000 in
theorem Check_ack_bad (p i b he hn : Int) (w : World) (hb : (inR he 0 1048576 && inR hn 0 1073741824) = false) :
    Calls Try.prog 142 #[Ev.val ⟨3, p, i, b, he, hn⟩] w (IntPost w 2) := by
  unfold Ev.val
  cases r1 : inR he 0 1048576 <;> cases r2 : inR hn 0 1073741824 <;> simp [r1, r2] at hb
  all_goals
    go_enter Try.func142, Try.ntmps142
    go_wp2_with (go_at_call 168; refine (within_calls _ _ _ _).mono ?_; rintro e w' ⟨rfl, rfl⟩)
    go_ret
    exact ⟨rfl, by go_grown⟩

set_option maxRecDepth 100000 in
set_option maxHeartbeats 4000000 in
theorem Check_ack (p i b he hn : Int) (w : World) (hb : (inR he 0 1048576 && inR hn 0 1073741824) = true) :
    Calls Try.prog 142 #[Ev.val ⟨3, p, i, b, he, hn⟩] w (IntPost w (if p = 0 ∧ i = 0 ∧ b = 0 then 0 else 3)) := by
  unfold Ev.val
  simp only [Bool.and_eq_true] at hb
  obtain ⟨r1, r2⟩ := hb
  have hq := run_neq_ev ⟨3, 0, 0, 0, he, hn⟩ ⟨3, p, i, b, he, hn⟩
  simp only [Ev.mk.injEq, true_and, and_true] at hq
  by_cases z : 0 = p ∧ 0 = i ∧ 0 = b
  · rw [if_pos ⟨z.1.symm, z.2.1.symm, z.2.2.symm⟩]
    rw [show decide (0 = p ∧ 0 = i ∧ 0 = b) = true by simpa using z] at hq
    obtain ⟨rfl, rfl, rfl⟩ := z
    go_enter Try.func142, Try.ntmps142
    go_wp2_with (go_at_call 168; refine (within_calls _ _ _ _).mono ?_; rintro e w' ⟨rfl, rfl⟩)
    go_ret
    exact ⟨rfl, by go_grown⟩
  · rw [if_neg (fun h => z ⟨h.1.symm, h.2.1.symm, h.2.2.symm⟩)]
    rw [show decide (0 = p ∧ 0 = i ∧ 0 = b) = false by simpa using z] at hq
    have HZ := Lib.hid z
    clear z
    go_enter Try.func142, Try.ntmps142
    go_wp2_with (go_at_call 168; refine (within_calls _ _ _ _).mono ?_; rintro e w' ⟨rfl, rfl⟩)
    go_ret
    exact ⟨rfl, by go_grown⟩

set_option maxRecDepth 100000 in
set_option maxHeartbeats 4000000 in
theorem Check_bare (k p i b he hn : Int) (w : World) (hk : k = 2 ∨ k = 4) :
    Calls Try.prog 142 #[Ev.val ⟨k, p, i, b, he, hn⟩] w (IntPost w (if p = 0 ∧ i = 0 ∧ b = 0 ∧ he = 0 ∧ hn = 0 then 0 else 3)) := by
  unfold Ev.val
  have hq := run_neq_ev ⟨k, 0, 0, 0, 0, 0⟩ ⟨k, p, i, b, he, hn⟩
  simp only [Ev.mk.injEq, true_and] at hq
  by_cases z : 0 = p ∧ 0 = i ∧ 0 = b ∧ 0 = he ∧ 0 = hn
  · rw [if_pos ⟨z.1.symm, z.2.1.symm, z.2.2.1.symm, z.2.2.2.1.symm, z.2.2.2.2.symm⟩]
    rw [show decide (0 = p ∧ 0 = i ∧ 0 = b ∧ 0 = he ∧ 0 = hn) = true by simpa using z] at hq
    obtain ⟨rfl, rfl, rfl, rfl, rfl⟩ := z
    rcases hk with rfl | rfl
    all_goals
      go_enter Try.func142, Try.ntmps142
      go_wp2_with (go_at_call 168; refine (within_calls _ _ _ _).mono ?_; rintro e w' ⟨rfl, rfl⟩)
      go_ret
      exact ⟨rfl, by go_grown⟩
  · rw [if_neg (fun h => z ⟨h.1.symm, h.2.1.symm, h.2.2.1.symm, h.2.2.2.1.symm, h.2.2.2.2.symm⟩)]
    rw [show decide (0 = p ∧ 0 = i ∧ 0 = b ∧ 0 = he ∧ 0 = hn) = false by simpa using z] at hq
    have HZ := Lib.hid z
    clear z
    rcases hk with rfl | rfl
    all_goals
      go_enter Try.func142, Try.ntmps142
      go_wp2_with (go_at_call 168; refine (within_calls _ _ _ _).mono ?_; rintro e w' ⟨rfl, rfl⟩)
      go_ret
      exact ⟨rfl, by go_grown⟩

set_option maxRecDepth 100000 in
set_option maxHeartbeats 4000000 in
theorem Check_none (k p i b he hn : Int) (w : World) (h1 : (k == 1) = false) (h2 : (k == 2) = false) (h3 : (k == 3) = false) (h4 : (k == 4) = false) :
    Calls Try.prog 142 #[Ev.val ⟨k, p, i, b, he, hn⟩] w (IntPost w 3) := by
  unfold Ev.val
  go_enter Try.func142, Try.ntmps142
  go_wp2_with (go_at_call 168; refine (within_calls _ _ _ _).mono ?_; rintro e w' ⟨rfl, rfl⟩)
  go_ret
  exact ⟨rfl, by go_grown⟩

theorem Check_calls (e : Ev) (w : World) : Calls Try.prog 142 #[e.val] w (IntPost w (evFault e)) := by
  obtain ⟨k, p, i, b, he, hn⟩ := e
  by_cases k1 : k = 1
  · subst k1
    cases hb : (inR p 0 3 && inR i 0 1073741824 && inR b 0 1000000)
    · have hf : evFault ⟨1, p, i, b, he, hn⟩ = 2 := by simp only [evFault, hb]; simp
      rw [hf]
      exact Check_publish_bad p i b he hn w hb
    · have hf : evFault ⟨1, p, i, b, he, hn⟩ = if he = 0 ∧ hn = 0 then 0 else 3 := by
        simp only [evFault, hb]
        by_cases z : he = 0 ∧ hn = 0 <;> simp [z]
      rw [hf]
      exact Check_publish p i b he hn w hb
  · by_cases k3 : k = 3
    · subst k3
      cases hb : (inR he 0 1048576 && inR hn 0 1073741824)
      · have hf : evFault ⟨3, p, i, b, he, hn⟩ = 2 := by simp only [evFault, hb]; simp
        rw [hf]
        exact Check_ack_bad p i b he hn w hb
      · have hf : evFault ⟨3, p, i, b, he, hn⟩ = if p = 0 ∧ i = 0 ∧ b = 0 then 0 else 3 := by
          simp only [evFault, hb]
          by_cases z : p = 0 ∧ i = 0 ∧ b = 0 <;> simp [z]
        rw [hf]
        exact Check_ack p i b he hn w hb
    · by_cases k24 : k = 2 ∨ k = 4
      · have hf : evFault ⟨k, p, i, b, he, hn⟩ = if p = 0 ∧ i = 0 ∧ b = 0 ∧ he = 0 ∧ hn = 0 then 0 else 3 := by
          have hk : 1 ≤ k ∧ k ≤ 4 := by omega
          simp only [evFault, hk, and_self, not_true_eq_false, if_false, k1, k3, false_and, ne_eq, not_false_eq_true, true_and]
          by_cases z : p = 0 ∧ i = 0 ∧ b = 0 <;> by_cases y : he = 0 ∧ hn = 0 <;> simp [z, y] <;> omega
        rw [hf]
        exact Check_bare k p i b he hn w k24
      · have hf : evFault ⟨k, p, i, b, he, hn⟩ = 3 := by
          have hk : ¬ (1 ≤ k ∧ k ≤ 4) := by omega
          simp only [evFault, hk, not_false_eq_true, if_true]
        rw [hf]
        exact Check_none k p i b he hn w (beq_eq_false_iff_ne.2 (by omega)) (beq_eq_false_iff_ne.2 (by omega)) (beq_eq_false_iff_ne.2 (by omega)) (beq_eq_false_iff_ne.2 (by omega))
end Go.Proofs.Ytkjlafpafmihaaa

