/- Parts of proofs: lemmas on memory, on single functions and on the plain models; no condition of their own. -/
import Derived.Test.YtkjlafpafmihaaaRows
import Derived.WalkKit
import Derived.ProofKit
import Derived.OpenShut
import Derived.SizedLaws
import Derived.WalkSpells
import Derived.WalkLawsBesides
import Derived.Handy
import Derived.Deep.QuietTactic
import Derived.BigQuiet
import Derived.Lib.Hide
import Derived.ChangeKeysEq
import Derived.RegionTactic
import Derived.Test.YtkjlafpafmihaaaG570539d87647
import Derived.Test.YtkjlafpafmihaaaG924ec51911fe
set_option linter.unusedVariables false
set_option linter.unusedSimpArgs false

namespace Go.Proofs.Ytkjlafpafmihaaa
open Go.ChangeShapes Go.WideShapes Go.RowKit

set_option maxHeartbeats 400000 in
theorem within_calls (n lo hi : Int) (w : World) :
    Calls Try.prog 168 #[.int .i64 n, .int .i64 lo, .int .i64 hi] w fun e w' => e = .returned (.bool (inR n lo hi)) ∧ w = w' := by
  by_cases h1 : lo ≤ n <;> by_cases h2 : n ≤ hi
  all_goals
    go_enter Try.func168, Try.ntmps168
    go_wp2
    go_ret
    exact ⟨by simp [inR]; omega, rfl⟩

/-- P1.3. -/
def evFault (e : Ev) : Int :=
  if ¬ (1 ≤ e.kind ∧ e.kind ≤ 4) then 3
  else if e.kind = 1 ∧ ¬ (inR e.producer 0 3 && inR e.id 0 1073741824 && inR e.body 0 1000000) = true then 2
  else if e.kind = 3 ∧ ¬ (inR e.hepoch 0 1048576 && inR e.hno 0 1073741824) = true then 2
  else if e.kind ≠ 1 ∧ ¬ (e.producer = 0 ∧ e.id = 0 ∧ e.body = 0) then 3
  else if e.kind ≠ 3 ∧ ¬ (e.hepoch = 0 ∧ e.hno = 0) then 3
  else 0

/-- A number, and nothing below the old heap's end turned. -/
def IntPost (w : World) (k : Int) (e : Ending) (w' : World) : Prop := e = .returned (.int .i64 k) ∧ Below w.heap.size w w'


set_option maxRecDepth 100000 in
set_option maxHeartbeats 4000000 in
theorem Check_publish_bad (p i b he hn : Int) (w : World) (hb : (inR p 0 3 && inR i 0 1073741824 && inR b 0 1000000) = false) :
    Calls Try.prog 142 #[Ev.val ⟨1, p, i, b, he, hn⟩] w (IntPost w 2) := by
  unfold Ev.val
  cases r1 : inR p 0 3 <;> cases r2 : inR i 0 1073741824 <;> cases r3 : inR b 0 1000000 <;> simp [r1, r2, r3] at hb
  all_goals
    go_enter Try.func142, Try.ntmps142
    go_wp2_with (go_at_call 168; refine (within_calls _ _ _ _).mono ?_; rintro e w' ⟨rfl, rfl⟩)
    go_region
    go_wp2_with (go_at_call 168; refine (within_calls _ _ _ _).mono ?_; rintro e w' ⟨rfl, rfl⟩)
    go_ret
    exact ⟨rfl, by go_grown⟩

set_option maxRecDepth 100000 in
set_option maxHeartbeats 4000000 in
theorem Check_publish (p i b he hn : Int) (w : World) (hb : (inR p 0 3 && inR i 0 1073741824 && inR b 0 1000000) = true) :
    Calls Try.prog 142 #[Ev.val ⟨1, p, i, b, he, hn⟩] w (IntPost w (if he = 0 ∧ hn = 0 then 0 else 3)) := by
  unfold Ev.val
  simp only [Bool.and_eq_true] at hb
  obtain ⟨⟨r1, r2⟩, r3⟩ := hb
  have hq := run_neq_ev ⟨1, p, i, b, 0, 0⟩ ⟨1, p, i, b, he, hn⟩
  simp only [Ev.mk.injEq, true_and] at hq
  by_cases z : 0 = he ∧ 0 = hn
  · rw [if_pos ⟨z.1.symm, z.2.symm⟩]
    rw [show decide (0 = he ∧ 0 = hn) = true by simpa using z] at hq
    obtain ⟨rfl, rfl⟩ := z
    go_enter Try.func142, Try.ntmps142
    go_wp2_with (go_at_call 168; refine (within_calls _ _ _ _).mono ?_; rintro e w' ⟨rfl, rfl⟩)
    go_region
    go_wp2_with (go_at_call 168; refine (within_calls _ _ _ _).mono ?_; rintro e w' ⟨rfl, rfl⟩)
    go_ret
    exact ⟨rfl, by go_grown⟩
  · rw [if_neg (fun h => z ⟨h.1.symm, h.2.symm⟩)]
    rw [show decide (0 = he ∧ 0 = hn) = false by simpa using z] at hq
    have HZ := Lib.hid z
    clear z
    go_enter Try.func142, Try.ntmps142
    go_wp2_with (go_at_call 168; refine (within_calls _ _ _ _).mono ?_; rintro e w' ⟨rfl, rfl⟩)
    go_region
    go_wp2_with (go_at_call 168; refine (within_calls _ _ _ _).mono ?_; rintro e w' ⟨rfl, rfl⟩)
    go_ret
    exact ⟨rfl, by go_grown⟩

set_option maxRecDepth 100000 in
set_option maxHeartbeats 4000000 in
theorem Check_ack_bad (p i b he hn : Int) (w : World) (hb : (inR he 0 1048576 && inR hn 0 1073741824) = false) :
    Calls Try.prog 142 #[Ev.val ⟨3, p, i, b, he, hn⟩] w (IntPost w 2) := by
  unfold Ev.val
  cases r1 : inR he 0 1048576 <;> cases r2 : inR hn 0 1073741824 <;> simp [r1, r2] at hb
  all_goals
    go_enter Try.func142, Try.ntmps142
    go_wp2_with (go_at_call 168; refine (within_calls _ _ _ _).mono ?_; rintro e w' ⟨rfl, rfl⟩)
    go_ret
    exact ⟨rfl, by go_grown⟩

set_option maxRecDepth 100000 in
set_option maxHeartbeats 4000000 in
theorem Check_ack (p i b he hn : Int) (w : World) (hb : (inR he 0 1048576 && inR hn 0 1073741824) = true) :
    Calls Try.prog 142 #[Ev.val ⟨3, p, i, b, he, hn⟩] w (IntPost w (if p = 0 ∧ i = 0 ∧ b = 0 then 0 else 3)) := by
  unfold Ev.val
  simp only [Bool.and_eq_true] at hb
  obtain ⟨r1, r2⟩ := hb
  have hq := run_neq_ev ⟨3, 0, 0, 0, he, hn⟩ ⟨3, p, i, b, he, hn⟩
  simp only [Ev.mk.injEq, true_and, and_true] at hq
  by_cases z : 0 = p ∧ 0 = i ∧ 0 = b
  · rw [if_pos ⟨z.1.symm, z.2.1.symm, z.2.2.symm⟩]
    rw [show decide (0 = p ∧ 0 = i ∧ 0 = b) = true by simpa using z] at hq
    obtain ⟨rfl, rfl, rfl⟩ := z
    go_enter Try.func142, Try.ntmps142
    go_wp2_with (go_at_call 168; refine (within_calls _ _ _ _).mono ?_; rintro e w' ⟨rfl, rfl⟩)
    go_ret
    exact ⟨rfl, by go_grown⟩
  · rw [if_neg (fun h => z ⟨h.1.symm, h.2.1.symm, h.2.2.symm⟩)]
    rw [show decide (0 = p ∧ 0 = i ∧ 0 = b) = false by simpa using z] at hq
    have HZ := Lib.hid z
    clear z
    go_enter Try.func142, Try.ntmps142
    go_wp2_with (go_at_call 168; refine (within_calls _ _ _ _).mono ?_; rintro e w' ⟨rfl, rfl⟩)
    go_ret
    exact ⟨rfl, by go_grown⟩

set_option maxRecDepth 100000 in
set_option maxHeartbeats 4000000 in
theorem Check_bare (k p i b he hn : Int) (w : World) (hk : k = 2 ∨ k = 4) :
    Calls Try.prog 142 #[Ev.val ⟨k, p, i, b, he, hn⟩] w (IntPost w (if p = 0 ∧ i = 0 ∧ b = 0 ∧ he = 0 ∧ hn = 0 then 0 else 3)) := by
  unfold Ev.val
  have hq := run_neq_ev ⟨k, 0, 0, 0, 0, 0⟩ ⟨k, p, i, b, he, hn⟩
  simp only [Ev.mk.injEq, true_and] at hq
  by_cases z : 0 = p ∧ 0 = i ∧ 0 = b ∧ 0 = he ∧ 0 = hn
  · rw [if_pos ⟨z.1.symm, z.2.1.symm, z.2.2.1.symm, z.2.2.2.1.symm, z.2.2.2.2.symm⟩]
    rw [show decide (0 = p ∧ 0 = i ∧ 0 = b ∧ 0 = he ∧ 0 = hn) = true by simpa using z] at hq
    obtain ⟨rfl, rfl, rfl, rfl, rfl⟩ := z
    rcases hk with rfl | rfl
    all_goals
      go_enter Try.func142, Try.ntmps142
      go_wp2_with (go_at_call 168; refine (within_calls _ _ _ _).mono ?_; rintro e w' ⟨rfl, rfl⟩)
      go_ret
      exact ⟨rfl, by go_grown⟩
  · rw [if_neg (fun h => z ⟨h.1.symm, h.2.1.symm, h.2.2.1.symm, h.2.2.2.1.symm, h.2.2.2.2.symm⟩)]
    rw [show decide (0 = p ∧ 0 = i ∧ 0 = b ∧ 0 = he ∧ 0 = hn) = false by simpa using z] at hq
    have HZ := Lib.hid z
    clear z
    rcases hk with rfl | rfl
    all_goals
      go_enter Try.func142, Try.ntmps142
      go_wp2_with (go_at_call 168; refine (within_calls _ _ _ _).mono ?_; rintro e w' ⟨rfl, rfl⟩)
      go_ret
      exact ⟨rfl, by go_grown⟩

set_option maxRecDepth 100000 in
set_option maxHeartbeats 4000000 in
theorem Check_none (k p i b he hn : Int) (w : World) (h1 : (k == 1) = false) (h2 : (k == 2) = false) (h3 : (k == 3) = false) (h4 : (k == 4) = false) :
    Calls Try.prog 142 #[Ev.val ⟨k, p, i, b, he, hn⟩] w (IntPost w 3) := by
  unfold Ev.val
  go_enter Try.func142, Try.ntmps142
  go_wp2_with (go_at_call 168; refine (within_calls _ _ _ _).mono ?_; rintro e w' ⟨rfl, rfl⟩)
  go_ret
  exact ⟨rfl, by go_grown⟩

theorem Check_calls (e : Ev) (w : World) : Calls Try.prog 142 #[e.val] w (IntPost w (evFault e)) := by
  obtain ⟨k, p, i, b, he, hn⟩ := e
  by_cases k1 : k = 1
  · subst k1
    cases hb : (inR p 0 3 && inR i 0 1073741824 && inR b 0 1000000)
    · have hf : evFault ⟨1, p, i, b, he, hn⟩ = 2 := by simp only [evFault, hb]; simp
      rw [hf]
      exact Check_publish_bad p i b he hn w hb
    · have hf : evFault ⟨1, p, i, b, he, hn⟩ = if he = 0 ∧ hn = 0 then 0 else 3 := by
        simp only [evFault, hb]
        by_cases z : he = 0 ∧ hn = 0 <;> simp [z]
      rw [hf]
      exact Check_publish p i b he hn w hb
  · by_cases k3 : k = 3
    · subst k3
      cases hb : (inR he 0 1048576 && inR hn 0 1073741824)
      · have hf : evFault ⟨3, p, i, b, he, hn⟩ = 2 := by simp only [evFault, hb]; simp
        rw [hf]
        exact Check_ack_bad p i b he hn w hb
      · have hf : evFault ⟨3, p, i, b, he, hn⟩ = if p = 0 ∧ i = 0 ∧ b = 0 then 0 else 3 := by
          simp only [evFault, hb]
          by_cases z : p = 0 ∧ i = 0 ∧ b = 0 <;> simp [z]
        rw [hf]
        exact Check_ack p i b he hn w hb
    · by_cases k24 : k = 2 ∨ k = 4
      · have hf : evFault ⟨k, p, i, b, he, hn⟩ = if p = 0 ∧ i = 0 ∧ b = 0 ∧ he = 0 ∧ hn = 0 then 0 else 3 := by
          have hk : 1 ≤ k ∧ k ≤ 4 := by omega
          simp only [evFault, hk, and_self, not_true_eq_false, if_false, k1, k3, false_and, ne_eq, not_false_eq_true, true_and]
          by_cases z : p = 0 ∧ i = 0 ∧ b = 0 <;> by_cases y : he = 0 ∧ hn = 0 <;> simp [z, y] <;> omega
        rw [hf]
        exact Check_bare k p i b he hn w k24
      · have hf : evFault ⟨k, p, i, b, he, hn⟩ = 3 := by
          have hk : ¬ (1 ≤ k ∧ k ≤ 4) := by omega
          simp only [evFault, hk, not_false_eq_true, if_true]
        rw [hf]
        exact Check_none k p i b he hn w (beq_eq_false_iff_ne.2 (by omega)) (beq_eq_false_iff_ne.2 (by omega)) (beq_eq_false_iff_ne.2 (by omega)) (beq_eq_false_iff_ne.2 (by omega))
end Go.Proofs.Ytkjlafpafmihaaa

namespace Go.Proofs.Ytkjlafpafmihaaa
open Go.ChangeShapes Go.WideShapes Go.RowKit

set_option maxRecDepth 100000 in
set_option maxHeartbeats 4000000 in
theorem EventFault_publish_bad (p i b he hn : Int) (w : World) (hb : (inR p 0 3 && inR i 0 1073741824 && inR b 0 1000000) = false) :
    Calls Try.prog 149 #[Ev.val ⟨1, p, i, b, he, hn⟩] w (IntPost w 2) := by
  unfold Ev.val
  have h14 : inR 1 1 4 = true := by decide
  cases r1 : inR p 0 3 <;> cases r2 : inR i 0 1073741824 <;> cases r3 : inR b 0 1000000 <;> simp [r1, r2, r3] at hb
  all_goals
    go_enter Try.func149, Try.ntmps149
    go_wp2_with (go_at_call 107; refine (In_calls _ _ _ _).mono ?_; rintro e w' ⟨rfl, rfl⟩)
    go_ret
    exact ⟨rfl, by go_grown⟩
set_option maxRecDepth 100000 in
set_option maxHeartbeats 4000000 in
theorem EventFault_publish (p i b he hn : Int) (w : World) (hb : (inR p 0 3 && inR i 0 1073741824 && inR b 0 1000000) = true) :
    Calls Try.prog 149 #[Ev.val ⟨1, p, i, b, he, hn⟩] w (IntPost w (if he = 0 ∧ hn = 0 then 0 else 3)) := by
  unfold Ev.val
  have h14 : inR 1 1 4 = true := by decide
  simp only [Bool.and_eq_true] at hb
  obtain ⟨⟨r1, r2⟩, r3⟩ := hb
  by_cases z1 : he = 0
  · subst z1
    by_cases z2 : hn = 0
    · subst z2
      rw [if_pos ⟨rfl, rfl⟩]
      go_enter Try.func149, Try.ntmps149
      go_wp2_with (go_at_call 107; refine (In_calls _ _ _ _).mono ?_; rintro e w' ⟨rfl, rfl⟩)
      go_ret
      exact ⟨rfl, by go_grown⟩
    · rw [if_neg (fun h => z2 h.2)]
      have y2 : (hn != 0) = true := by rw [bne_iff_ne]; exact z2
      clear z2
      go_enter Try.func149, Try.ntmps149
      go_wp2_with (go_at_call 107; refine (In_calls _ _ _ _).mono ?_; rintro e w' ⟨rfl, rfl⟩)
      go_ret
      exact ⟨rfl, by go_grown⟩
  · rw [if_neg (fun h => z1 h.1)]
    have y1 : (he != 0) = true := by rw [bne_iff_ne]; exact z1
    clear z1
    go_enter Try.func149, Try.ntmps149
    go_wp2_with (go_at_call 107; refine (In_calls _ _ _ _).mono ?_; rintro e w' ⟨rfl, rfl⟩)
    go_ret
    exact ⟨rfl, by go_grown⟩
set_option maxRecDepth 100000 in
set_option maxHeartbeats 4000000 in
theorem EventFault_ack_bad (p i b he hn : Int) (w : World) (hb : (inR he 0 1048576 && inR hn 0 1073741824) = false) :
    Calls Try.prog 149 #[Ev.val ⟨3, p, i, b, he, hn⟩] w (IntPost w 2) := by
  unfold Ev.val
  have h14 : inR 3 1 4 = true := by decide
  cases r1 : inR he 0 1048576 <;> cases r2 : inR hn 0 1073741824 <;> simp [r1, r2] at hb
  all_goals
    go_enter Try.func149, Try.ntmps149
    go_wp2_with (go_at_call 107; refine (In_calls _ _ _ _).mono ?_; rintro e w' ⟨rfl, rfl⟩)
    go_ret
    exact ⟨rfl, by go_grown⟩
set_option maxRecDepth 100000 in
set_option maxHeartbeats 4000000 in
theorem EventFault_ack (p i b he hn : Int) (w : World) (hb : (inR he 0 1048576 && inR hn 0 1073741824) = true) :
    Calls Try.prog 149 #[Ev.val ⟨3, p, i, b, he, hn⟩] w (IntPost w (if p = 0 ∧ i = 0 ∧ b = 0 then 0 else 3)) := by
  unfold Ev.val
  have h14 : inR 3 1 4 = true := by decide
  simp only [Bool.and_eq_true] at hb
  obtain ⟨r1, r2⟩ := hb
  by_cases z1 : p = 0
  · subst z1
    by_cases z2 : i = 0
    · subst z2
      by_cases z3 : b = 0
      · subst z3
        rw [if_pos ⟨rfl, rfl, rfl⟩]
        go_enter Try.func149, Try.ntmps149
        go_wp2_with (go_at_call 107; refine (In_calls _ _ _ _).mono ?_; rintro e w' ⟨rfl, rfl⟩)
        go_ret
        exact ⟨rfl, by go_grown⟩
      · rw [if_neg (fun h => z3 h.2.2)]
        have y3 : (b != 0) = true := by rw [bne_iff_ne]; exact z3
        clear z3
        go_enter Try.func149, Try.ntmps149
        go_wp2_with (go_at_call 107; refine (In_calls _ _ _ _).mono ?_; rintro e w' ⟨rfl, rfl⟩)
        go_ret
        exact ⟨rfl, by go_grown⟩
    · rw [if_neg (fun h => z2 h.2.1)]
      have y2 : (i != 0) = true := by rw [bne_iff_ne]; exact z2
      clear z2
      go_enter Try.func149, Try.ntmps149
      go_wp2_with (go_at_call 107; refine (In_calls _ _ _ _).mono ?_; rintro e w' ⟨rfl, rfl⟩)
      go_ret
      exact ⟨rfl, by go_grown⟩
  · rw [if_neg (fun h => z1 h.1)]
    have y1 : (p != 0) = true := by rw [bne_iff_ne]; exact z1
    clear z1
    go_enter Try.func149, Try.ntmps149
    go_wp2_with (go_at_call 107; refine (In_calls _ _ _ _).mono ?_; rintro e w' ⟨rfl, rfl⟩)
    go_ret
    exact ⟨rfl, by go_grown⟩
set_option maxRecDepth 100000 in
set_option maxHeartbeats 4000000 in
theorem EventFault_bare2 (p i b he hn : Int) (w : World) :
    Calls Try.prog 149 #[Ev.val ⟨2, p, i, b, he, hn⟩] w (IntPost w (if p = 0 ∧ i = 0 ∧ b = 0 ∧ he = 0 ∧ hn = 0 then 0 else 3)) := by
  unfold Ev.val
  have h14 : inR 2 1 4 = true := by decide
  by_cases z1 : p = 0
  · subst z1
    by_cases z2 : i = 0
    · subst z2
      by_cases z3 : b = 0
      · subst z3
        by_cases z4 : he = 0
        · subst z4
          by_cases z5 : hn = 0
          · subst z5
            rw [if_pos ⟨rfl, rfl, rfl, rfl, rfl⟩]
            go_enter Try.func149, Try.ntmps149
            go_wp2_with (go_at_call 107; refine (In_calls _ _ _ _).mono ?_; rintro e w' ⟨rfl, rfl⟩)
            go_ret
            exact ⟨rfl, by go_grown⟩
          · rw [if_neg (fun h => z5 h.2.2.2.2)]
            have y5 : (hn != 0) = true := by rw [bne_iff_ne]; exact z5
            clear z5
            go_enter Try.func149, Try.ntmps149
            go_wp2_with (go_at_call 107; refine (In_calls _ _ _ _).mono ?_; rintro e w' ⟨rfl, rfl⟩)
            go_ret
            exact ⟨rfl, by go_grown⟩
        · rw [if_neg (fun h => z4 h.2.2.2.1)]
          have y4 : (he != 0) = true := by rw [bne_iff_ne]; exact z4
          clear z4
          go_enter Try.func149, Try.ntmps149
          go_wp2_with (go_at_call 107; refine (In_calls _ _ _ _).mono ?_; rintro e w' ⟨rfl, rfl⟩)
          go_ret
          exact ⟨rfl, by go_grown⟩
      · rw [if_neg (fun h => z3 h.2.2.1)]
        have y3 : (b != 0) = true := by rw [bne_iff_ne]; exact z3
        clear z3
        go_enter Try.func149, Try.ntmps149
        go_wp2_with (go_at_call 107; refine (In_calls _ _ _ _).mono ?_; rintro e w' ⟨rfl, rfl⟩)
        go_ret
        exact ⟨rfl, by go_grown⟩
    · rw [if_neg (fun h => z2 h.2.1)]
      have y2 : (i != 0) = true := by rw [bne_iff_ne]; exact z2
      clear z2
      go_enter Try.func149, Try.ntmps149
      go_wp2_with (go_at_call 107; refine (In_calls _ _ _ _).mono ?_; rintro e w' ⟨rfl, rfl⟩)
      go_ret
      exact ⟨rfl, by go_grown⟩
  · rw [if_neg (fun h => z1 h.1)]
    have y1 : (p != 0) = true := by rw [bne_iff_ne]; exact z1
    clear z1
    go_enter Try.func149, Try.ntmps149
    go_wp2_with (go_at_call 107; refine (In_calls _ _ _ _).mono ?_; rintro e w' ⟨rfl, rfl⟩)
    go_ret
    exact ⟨rfl, by go_grown⟩
set_option maxRecDepth 100000 in
set_option maxHeartbeats 4000000 in
theorem EventFault_bare4 (p i b he hn : Int) (w : World) :
    Calls Try.prog 149 #[Ev.val ⟨4, p, i, b, he, hn⟩] w (IntPost w (if p = 0 ∧ i = 0 ∧ b = 0 ∧ he = 0 ∧ hn = 0 then 0 else 3)) := by
  unfold Ev.val
  have h14 : inR 4 1 4 = true := by decide
  by_cases z1 : p = 0
  · subst z1
    by_cases z2 : i = 0
    · subst z2
      by_cases z3 : b = 0
      · subst z3
        by_cases z4 : he = 0
        · subst z4
          by_cases z5 : hn = 0
          · subst z5
            rw [if_pos ⟨rfl, rfl, rfl, rfl, rfl⟩]
            go_enter Try.func149, Try.ntmps149
            go_wp2_with (go_at_call 107; refine (In_calls _ _ _ _).mono ?_; rintro e w' ⟨rfl, rfl⟩)
            go_ret
            exact ⟨rfl, by go_grown⟩
          · rw [if_neg (fun h => z5 h.2.2.2.2)]
            have y5 : (hn != 0) = true := by rw [bne_iff_ne]; exact z5
            clear z5
            go_enter Try.func149, Try.ntmps149
            go_wp2_with (go_at_call 107; refine (In_calls _ _ _ _).mono ?_; rintro e w' ⟨rfl, rfl⟩)
            go_ret
            exact ⟨rfl, by go_grown⟩
        · rw [if_neg (fun h => z4 h.2.2.2.1)]
          have y4 : (he != 0) = true := by rw [bne_iff_ne]; exact z4
          clear z4
          go_enter Try.func149, Try.ntmps149
          go_wp2_with (go_at_call 107; refine (In_calls _ _ _ _).mono ?_; rintro e w' ⟨rfl, rfl⟩)
          go_ret
          exact ⟨rfl, by go_grown⟩
      · rw [if_neg (fun h => z3 h.2.2.1)]
        have y3 : (b != 0) = true := by rw [bne_iff_ne]; exact z3
        clear z3
        go_enter Try.func149, Try.ntmps149
        go_wp2_with (go_at_call 107; refine (In_calls _ _ _ _).mono ?_; rintro e w' ⟨rfl, rfl⟩)
        go_ret
        exact ⟨rfl, by go_grown⟩
    · rw [if_neg (fun h => z2 h.2.1)]
      have y2 : (i != 0) = true := by rw [bne_iff_ne]; exact z2
      clear z2
      go_enter Try.func149, Try.ntmps149
      go_wp2_with (go_at_call 107; refine (In_calls _ _ _ _).mono ?_; rintro e w' ⟨rfl, rfl⟩)
      go_ret
      exact ⟨rfl, by go_grown⟩
  · rw [if_neg (fun h => z1 h.1)]
    have y1 : (p != 0) = true := by rw [bne_iff_ne]; exact z1
    clear z1
    go_enter Try.func149, Try.ntmps149
    go_wp2_with (go_at_call 107; refine (In_calls _ _ _ _).mono ?_; rintro e w' ⟨rfl, rfl⟩)
    go_ret
    exact ⟨rfl, by go_grown⟩
set_option maxRecDepth 100000 in
set_option maxHeartbeats 4000000 in
theorem EventFault_none (k p i b he hn : Int) (w : World) (h14 : inR k 1 4 = false) :
    Calls Try.prog 149 #[Ev.val ⟨k, p, i, b, he, hn⟩] w (IntPost w 3) := by
  unfold Ev.val
  go_enter Try.func149, Try.ntmps149
  go_wp2_with (go_at_call 107; refine (In_calls _ _ _ _).mono ?_; rintro e w' ⟨rfl, rfl⟩)
  go_ret
  exact ⟨rfl, by go_grown⟩
theorem EventFault_calls (e : Ev) (w : World) : Calls Try.prog 149 #[e.val] w (IntPost w (evFault e)) := by
  obtain ⟨k, p, i, b, he, hn⟩ := e
  by_cases k1 : k = 1
  · subst k1
    cases hb : (inR p 0 3 && inR i 0 1073741824 && inR b 0 1000000)
    · have hf : evFault ⟨1, p, i, b, he, hn⟩ = 2 := by simp only [evFault, hb]; simp
      rw [hf]
      exact EventFault_publish_bad p i b he hn w hb
    · have hf : evFault ⟨1, p, i, b, he, hn⟩ = if he = 0 ∧ hn = 0 then 0 else 3 := by
        simp only [evFault, hb]
        by_cases z : he = 0 ∧ hn = 0 <;> simp [z]
      rw [hf]
      exact EventFault_publish p i b he hn w hb
  · by_cases k3 : k = 3
    · subst k3
      cases hb : (inR he 0 1048576 && inR hn 0 1073741824)
      · have hf : evFault ⟨3, p, i, b, he, hn⟩ = 2 := by simp only [evFault, hb]; simp
        rw [hf]
        exact EventFault_ack_bad p i b he hn w hb
      · have hf : evFault ⟨3, p, i, b, he, hn⟩ = if p = 0 ∧ i = 0 ∧ b = 0 then 0 else 3 := by
          simp only [evFault, hb]
          by_cases z : p = 0 ∧ i = 0 ∧ b = 0 <;> simp [z]
        rw [hf]
        exact EventFault_ack p i b he hn w hb
    · by_cases k24 : k = 2 ∨ k = 4
      · have hf : evFault ⟨k, p, i, b, he, hn⟩ = if p = 0 ∧ i = 0 ∧ b = 0 ∧ he = 0 ∧ hn = 0 then 0 else 3 := by
          have hk : 1 ≤ k ∧ k ≤ 4 := by omega
          simp only [evFault, hk, and_self, not_true_eq_false, if_false, k1, k3, false_and, ne_eq, not_false_eq_true, true_and]
          by_cases z : p = 0 ∧ i = 0 ∧ b = 0 <;> by_cases y : he = 0 ∧ hn = 0 <;> simp [z, y] <;> omega
        rw [hf]
        rcases k24 with rfl | rfl
        · exact EventFault_bare2 p i b he hn w
        · exact EventFault_bare4 p i b he hn w
      · have hf : evFault ⟨k, p, i, b, he, hn⟩ = 3 := by
          have hk : ¬ (1 ≤ k ∧ k ≤ 4) := by omega
          simp only [evFault, hk, not_false_eq_true, if_true]
        rw [hf]
        exact EventFault_none k p i b he hn w (inR_false.2 (by omega))
end Go.Proofs.Ytkjlafpafmihaaa

namespace Go.Proofs.Ytkjlafpafmihaaa
open Go.ChangeShapes Go.WideShapes Go.RowKit

/-- A record. -/
structure Rcd where
  kind : Int
  queue : Int
  epoch : Int
  peer : Int
  ev : Ev
  deriving DecidableEq

def Rcd.val (r : Rcd) : Value := .agg #[.int .i64 r.kind, .int .i64 r.queue, .int .i64 r.epoch, .int .i64 r.peer, .int .i64 r.ev.kind, .int .i64 r.ev.producer, .int .i64 r.ev.id, .int .i64 r.ev.body, .int .i64 r.ev.hepoch, .int .i64 r.ev.hno]

def hasEv (k : Int) : Bool := k == 2 || k == 5
def zeroEv : Ev := ⟨0, 0, 0, 0, 0, 0⟩
/-- P1.4. -/
def recFault (r : Rcd) : Int :=
  if inR r.kind 1 7 = false then 3
  else if (inR r.queue 0 3 && inR r.epoch 0 1048576 && inR r.peer 0 4) = false then 2
  else if hasEv r.kind = true then evFault r.ev
  else if r.ev = zeroEv then 0 else 3

set_option maxHeartbeats 400000 in
theorem hasEvent_calls (k : Int) (w : World) : Calls Try.prog 121 #[.int .i64 k] w fun e w' => e = .returned (.bool (hasEv k)) ∧ w = w' := by
  unfold hasEv
  cases h1 : (k == 2) <;> cases h2 : (k == 5)
  all_goals
    go_enter Try.func121, Try.ntmps121
    go_wp2
    go_ret
    exact ⟨by simp, rfl⟩

set_option maxRecDepth 100000 in
set_option maxHeartbeats 4000000 in
theorem Record_kind (r : Rcd) (w : World) (h : inR r.kind 1 7 = false) : Calls Try.prog 119 #[r.val] w (IntPost w 3) := by
  obtain ⟨k, q, ep, pe, x0, x1, x2, x3, x4, x5⟩ := r
  unfold Rcd.val
  simp only at h
  rcases inR_false.1 h with h1 | h1
  all_goals
    clear h
    go_enter Try.func119, Try.ntmps119
    go_wp2_with (first | (go_at_call 168; refine (within_calls _ _ _ _).mono ?_; rintro e w' ⟨rfl, rfl⟩) | (go_at_call 121; refine (hasEvent_calls _ _).mono ?_; rintro e w' ⟨rfl, rfl⟩))
    go_ret
    exact ⟨rfl, by go_grown⟩
set_option maxRecDepth 100000 in
set_option maxHeartbeats 4000000 in
theorem Record_range (r : Rcd) (w : World) (h : inR r.kind 1 7 = true) (hb : (inR r.queue 0 3 && inR r.epoch 0 1048576 && inR r.peer 0 4) = false) : Calls Try.prog 119 #[r.val] w (IntPost w 2) := by
  obtain ⟨k, q, ep, pe, x0, x1, x2, x3, x4, x5⟩ := r
  unfold Rcd.val
  simp only at h hb
  obtain ⟨hk0, hk1⟩ := inR_true.1 h
  cases r1 : inR q 0 3 <;> cases r2 : inR ep 0 1048576 <;> cases r3 : inR pe 0 4 <;> simp [r1, r2, r3] at hb
  all_goals
    go_enter Try.func119, Try.ntmps119
    go_wp2_with (first | (go_at_call 168; refine (within_calls _ _ _ _).mono ?_; rintro e w' ⟨rfl, rfl⟩) | (go_at_call 121; refine (hasEvent_calls _ _).mono ?_; rintro e w' ⟨rfl, rfl⟩))
    go_ret
    exact ⟨rfl, by go_grown⟩
set_option maxRecDepth 100000 in
set_option maxHeartbeats 4000000 in
theorem Record_bare (r : Rcd) (w : World) (h : inR r.kind 1 7 = true) (hb : (inR r.queue 0 3 && inR r.epoch 0 1048576 && inR r.peer 0 4) = true) (he : hasEv r.kind = false) : Calls Try.prog 119 #[r.val] w (IntPost w (if r.ev = zeroEv then 0 else 3)) := by
  obtain ⟨k, q, ep, pe, x0, x1, x2, x3, x4, x5⟩ := r
  unfold Rcd.val
  simp only at h hb he ⊢
  obtain ⟨hk0, hk1⟩ := inR_true.1 h
  simp only [Bool.and_eq_true] at hb
  obtain ⟨⟨r1, r2⟩, r3⟩ := hb
  have hq := run_neq_ev ⟨x0, x1, x2, x3, x4, x5⟩ zeroEv
  by_cases z : (⟨x0, x1, x2, x3, x4, x5⟩ : Ev) = zeroEv
  · rw [if_pos z]
    rw [show decide ((⟨x0, x1, x2, x3, x4, x5⟩ : Ev) = zeroEv) = true from decide_eq_true z] at hq
    simp only [zeroEv] at hq z
    simp only [Ev.mk.injEq] at z
    obtain ⟨rfl, rfl, rfl, rfl, rfl, rfl⟩ := z
    go_enter Try.func119, Try.ntmps119
    go_wp2_with (first | (go_at_call 168; refine (within_calls _ _ _ _).mono ?_; rintro e w' ⟨rfl, rfl⟩) | (go_at_call 121; refine (hasEvent_calls _ _).mono ?_; rintro e w' ⟨rfl, rfl⟩))
    go_ret
    exact ⟨rfl, by go_grown⟩
  · rw [if_neg z]
    rw [show decide ((⟨x0, x1, x2, x3, x4, x5⟩ : Ev) = zeroEv) = false from decide_eq_false z] at hq
    simp only [zeroEv] at hq
    have HZ := Lib.hid z
    clear z
    go_enter Try.func119, Try.ntmps119
    go_wp2_with (first | (go_at_call 168; refine (within_calls _ _ _ _).mono ?_; rintro e w' ⟨rfl, rfl⟩) | (go_at_call 121; refine (hasEvent_calls _ _).mono ?_; rintro e w' ⟨rfl, rfl⟩))
    go_ret
    exact ⟨rfl, by go_grown⟩
set_option maxRecDepth 100000 in
set_option maxHeartbeats 4000000 in
theorem Record_event (r : Rcd) (w : World) (h : inR r.kind 1 7 = true) (hb : (inR r.queue 0 3 && inR r.epoch 0 1048576 && inR r.peer 0 4) = true) (he : hasEv r.kind = true) : Calls Try.prog 119 #[r.val] w (IntPost w (evFault r.ev)) := by
  have HC := Lib.hid (Check_calls r.ev)
  generalize evFault r.ev = z at HC
  obtain ⟨k, q, ep, pe, x0, x1, x2, x3, x4, x5⟩ := r
  unfold Rcd.val
  unfold Ev.val at HC
  simp only at h hb he HC ⊢
  obtain ⟨hk0, hk1⟩ := inR_true.1 h
  simp only [Bool.and_eq_true] at hb
  obtain ⟨⟨r1, r2⟩, r3⟩ := hb
  have hk : k = 2 ∨ k = 5 := by unfold hasEv at he; simp at he; exact he
  rcases hk with rfl | rfl
  all_goals
    go_enter Try.func119, Try.ntmps119
    go_wp2_with (first | (go_at_call 168; refine (within_calls _ _ _ _).mono ?_; rintro e w' ⟨rfl, rfl⟩) | (go_at_call 121; refine (hasEvent_calls _ _).mono ?_; rintro e w' ⟨rfl, rfl⟩))
    refine (HC.out _).mono ?_
    rintro e w1 ⟨rfl, hb1⟩
    have HB := Lib.hid hb1
    clear hb1
    go_wp2_with fail
    go_ret
    exact ⟨rfl, ((Below.refl _ w).alloc (Nat.le_refl _) _).trans (HB.out.mono (by simp))⟩
theorem Record_calls (r : Rcd) (w : World) : Calls Try.prog 119 #[r.val] w (IntPost w (recFault r)) := by
  unfold recFault
  cases h : inR r.kind 1 7
  · rw [if_pos rfl]
    exact Record_kind r w h
  · rw [if_neg (by simp)]
    cases hb : (inR r.queue 0 3 && inR r.epoch 0 1048576 && inR r.peer 0 4)
    · rw [if_pos rfl]
      exact Record_range r w h hb
    · rw [if_neg (by simp)]
      cases he : hasEv r.kind
      · rw [if_neg (by simp)]
        exact Record_bare r w h hb he
      · rw [if_pos rfl]
        exact Record_event r w h hb he

set_option maxRecDepth 100000 in
set_option maxHeartbeats 4000000 in
theorem RecordFault_kind (r : Rcd) (w : World) (h : inR r.kind 1 7 = false) : Calls Try.prog 122 #[r.val] w (IntPost w 3) := by
  obtain ⟨k, q, ep, pe, x0, x1, x2, x3, x4, x5⟩ := r
  unfold Rcd.val
  simp only at h
  go_enter Try.func122, Try.ntmps122
  go_wp2_with (go_at_call 107; refine (In_calls _ _ _ _).mono ?_; rintro e w' ⟨rfl, rfl⟩)
  go_ret
  exact ⟨rfl, by go_grown⟩
set_option maxRecDepth 100000 in
set_option maxHeartbeats 4000000 in
theorem RecordFault_range (r : Rcd) (w : World) (h : inR r.kind 1 7 = true) (hb : (inR r.queue 0 3 && inR r.epoch 0 1048576 && inR r.peer 0 4) = false) : Calls Try.prog 122 #[r.val] w (IntPost w 2) := by
  obtain ⟨k, q, ep, pe, x0, x1, x2, x3, x4, x5⟩ := r
  unfold Rcd.val
  simp only at h hb
  obtain ⟨hk0, hk1⟩ := inR_true.1 h
  cases r1 : inR q 0 3 <;> cases r2 : inR ep 0 1048576 <;> cases r3 : inR pe 0 4 <;> simp [r1, r2, r3] at hb
  all_goals
    go_enter Try.func122, Try.ntmps122
    go_wp2_with (go_at_call 107; refine (In_calls _ _ _ _).mono ?_; rintro e w' ⟨rfl, rfl⟩)
    go_ret
    exact ⟨rfl, by go_grown⟩
set_option maxRecDepth 100000 in
set_option maxHeartbeats 4000000 in
theorem RecordFault_bare (r : Rcd) (w : World) (h : inR r.kind 1 7 = true) (hb : (inR r.queue 0 3 && inR r.epoch 0 1048576 && inR r.peer 0 4) = true) (he : hasEv r.kind = false) : Calls Try.prog 122 #[r.val] w (IntPost w (if r.ev = zeroEv then 0 else 3)) := by
  obtain ⟨k, q, ep, pe, x0, x1, x2, x3, x4, x5⟩ := r
  unfold Rcd.val
  simp only at h hb he ⊢
  obtain ⟨hk0, hk1⟩ := inR_true.1 h
  simp only [Bool.and_eq_true] at hb
  obtain ⟨⟨r1, r2⟩, r3⟩ := hb
  have hq := run_neq_ev ⟨x0, x1, x2, x3, x4, x5⟩ zeroEv
  have k2 : (k == 2) = false := by unfold hasEv at he; simp at he; simp [he]
  have k5 : (k == 5) = false := by unfold hasEv at he; simp at he; simp [he]
  by_cases z : (⟨x0, x1, x2, x3, x4, x5⟩ : Ev) = zeroEv
  · rw [if_pos z]
    rw [show decide ((⟨x0, x1, x2, x3, x4, x5⟩ : Ev) = zeroEv) = true from decide_eq_true z] at hq
    simp only [zeroEv] at hq z
    simp only [Ev.mk.injEq] at z
    obtain ⟨rfl, rfl, rfl, rfl, rfl, rfl⟩ := z
    go_enter Try.func122, Try.ntmps122
    go_wp2_with (go_at_call 107; refine (In_calls _ _ _ _).mono ?_; rintro e w' ⟨rfl, rfl⟩)
    go_ret
    exact ⟨rfl, by go_grown⟩
  · rw [if_neg z]
    rw [show decide ((⟨x0, x1, x2, x3, x4, x5⟩ : Ev) = zeroEv) = false from decide_eq_false z] at hq
    simp only [zeroEv] at hq
    have HZ := Lib.hid z
    clear z
    go_enter Try.func122, Try.ntmps122
    go_wp2_with (go_at_call 107; refine (In_calls _ _ _ _).mono ?_; rintro e w' ⟨rfl, rfl⟩)
    go_ret
    exact ⟨rfl, by go_grown⟩
set_option maxRecDepth 100000 in
set_option maxHeartbeats 4000000 in
theorem RecordFault_event (r : Rcd) (w : World) (h : inR r.kind 1 7 = true) (hb : (inR r.queue 0 3 && inR r.epoch 0 1048576 && inR r.peer 0 4) = true) (he : hasEv r.kind = true) : Calls Try.prog 122 #[r.val] w (IntPost w (evFault r.ev)) := by
  have HC := Lib.hid (EventFault_calls r.ev)
  generalize evFault r.ev = z at HC
  obtain ⟨k, q, ep, pe, x0, x1, x2, x3, x4, x5⟩ := r
  unfold Rcd.val
  unfold Ev.val at HC
  simp only at h hb he HC ⊢
  obtain ⟨hk0, hk1⟩ := inR_true.1 h
  simp only [Bool.and_eq_true] at hb
  obtain ⟨⟨r1, r2⟩, r3⟩ := hb
  have hk : k = 2 ∨ k = 5 := by unfold hasEv at he; simp at he; exact he
  rcases hk with rfl | rfl
  all_goals
    go_enter Try.func122, Try.ntmps122
    go_wp2_with (go_at_call 107; refine (In_calls _ _ _ _).mono ?_; rintro e w' ⟨rfl, rfl⟩)
    refine (HC.out _).mono ?_
    rintro e w1 ⟨rfl, hb1⟩
    have HB := Lib.hid hb1
    clear hb1
    go_wp2_with fail
    go_ret
    exact ⟨rfl, ((Below.refl _ w).alloc (Nat.le_refl _) _).trans (HB.out.mono (by simp))⟩
theorem RecordFault_calls (r : Rcd) (w : World) : Calls Try.prog 122 #[r.val] w (IntPost w (recFault r)) := by
  unfold recFault
  cases h : inR r.kind 1 7
  · rw [if_pos rfl]
    exact RecordFault_kind r w h
  · rw [if_neg (by simp)]
    cases hb : (inR r.queue 0 3 && inR r.epoch 0 1048576 && inR r.peer 0 4)
    · rw [if_pos rfl]
      exact RecordFault_range r w h hb
    · rw [if_neg (by simp)]
      cases he : hasEv r.kind
      · rw [if_neg (by simp)]
        exact RecordFault_bare r w h hb he
      · rw [if_pos rfl]
        exact RecordFault_event r w h hb he

end Go.Proofs.Ytkjlafpafmihaaa

