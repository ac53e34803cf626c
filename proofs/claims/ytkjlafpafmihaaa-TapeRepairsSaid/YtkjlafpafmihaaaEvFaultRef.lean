/- Contract: ref.EventFault. -/
import Derived.Test.YtkjlafpafmihaaaEvFault
namespace Go.Proofs.Ytkjlafpafmihaaa
open Go.ChangeShapes Go.WideShapes Go.RowKit

theorem in14 {k : Int} (h : 1 ≤ k ∧ k ≤ 4) : inR k 1 4 = true := inR_true.2 h
set_option maxRecDepth 100000 in
set_option maxHeartbeats 4000000 in
theorem EventFault_publish_bad (p i b he hn : Int) (w : World) (hb : (inR p 0 3 && inR i 0 1073741824 && inR b 0 1000000) = false) :
    Calls Try.prog 149 #[Ev.val ⟨1, p, i, b, he, hn⟩] w (IntPost w 2) := by
  unfold Ev.val
  have h14 : inR 1 1 4 = true := by decide
  cases r1 : inR p 0 3 <;> cases r2 : inR i 0 1073741824 <;> cases r3 : inR b 0 1000000 <;> simp [r1, r2, r3] at hb
  all_goals
    go_enter Try.func149, Try.ntmps149
    go_wp2_with (go_at_call 107; refine (In_calls _ _ _ _).mono ?_; rintro e w' ⟨rfl, rfl⟩)
    go_ret
    exact ⟨rfl, by go_grown⟩
set_option maxRecDepth 100000 in
set_option maxHeartbeats 4000000 in
theorem EventFault_publish (p i b he hn : Int) (w : World) (hb : (inR p 0 3 && inR i 0 1073741824 && inR b 0 1000000) = true) :
    Calls Try.prog 149 #[Ev.val ⟨1, p, i, b, he, hn⟩] w (IntPost w (if he = 0 ∧ hn = 0 then 0 else 3)) := by
  unfold Ev.val
  have h14 : inR 1 1 4 = true := by decide
  simp only [Bool.and_eq_true] at hb
  obtain ⟨⟨r1, r2⟩, r3⟩ := hb
  by_cases z1 : he = 0
  · subst z1
    by_cases z2 : hn = 0
    · subst z2
      rw [if_pos ⟨rfl, rfl⟩]
      go_enter Try.func149, Try.ntmps149
      go_wp2_with (go_at_call 107; refine (In_calls _ _ _ _).mono ?_; rintro e w' ⟨rfl, rfl⟩)
      go_ret
      exact ⟨rfl, by go_grown⟩
    · rw [if_neg (fun h => z2 h.2)]
      have y2 : (hn != 0) = true := by rw [bne_iff_ne]; exact z2
      clear z2
      go_enter Try.func149, Try.ntmps149
      go_wp2_with (go_at_call 107; refine (In_calls _ _ _ _).mono ?_; rintro e w' ⟨rfl, rfl⟩)
      go_ret
      exact ⟨rfl, by go_grown⟩
  · rw [if_neg (fun h => z1 h.1)]
    have y1 : (he != 0) = true := by rw [bne_iff_ne]; exact z1
    clear z1
    go_enter Try.func149, Try.ntmps149
    go_wp2_with (go_at_call 107; refine (In_calls _ _ _ _).mono ?_; rintro e w' ⟨rfl, rfl⟩)
    go_ret
    exact ⟨rfl, by go_grown⟩
set_option maxRecDepth 100000 in
set_option maxHeartbeats 4000000 in
theorem EventFault_ack_bad (p i b he hn : Int) (w : World) (hb : (inR he 0 1048576 && inR hn 0 1073741824) = false) :
    Calls Try.prog 149 #[Ev.val ⟨3, p, i, b, he, hn⟩] w (IntPost w 2) := by
  unfold Ev.val
  have h14 : inR 3 1 4 = true := by decide
  cases r1 : inR he 0 1048576 <;> cases r2 : inR hn 0 1073741824 <;> simp [r1, r2] at hb
  all_goals
    go_enter Try.func149, Try.ntmps149
    go_wp2_with (go_at_call 107; refine (In_calls _ _ _ _).mono ?_; rintro e w' ⟨rfl, rfl⟩)
    go_ret
    exact ⟨rfl, by go_grown⟩
set_option maxRecDepth 100000 in
set_option maxHeartbeats 4000000 in
theorem EventFault_ack (p i b he hn : Int) (w : World) (hb : (inR he 0 1048576 && inR hn 0 1073741824) = true) :
    Calls Try.prog 149 #[Ev.val ⟨3, p, i, b, he, hn⟩] w (IntPost w (if p = 0 ∧ i = 0 ∧ b = 0 then 0 else 3)) := by
  unfold Ev.val
  have h14 : inR 3 1 4 = true := by decide
  simp only [Bool.and_eq_true] at hb
  obtain ⟨r1, r2⟩ := hb
  by_cases z1 : p = 0
  · subst z1
    by_cases z2 : i = 0
    · subst z2
      by_cases z3 : b = 0
      · subst z3
        rw [if_pos ⟨rfl, rfl, rfl⟩]
        go_enter Try.func149, Try.ntmps149
        go_wp2_with (go_at_call 107; refine (In_calls _ _ _ _).mono ?_; rintro e w' ⟨rfl, rfl⟩)
        go_ret
        exact ⟨rfl, by go_grown⟩
      · rw [if_neg (fun h => z3 h.2.2)]
        have y3 : (b != 0) = true := by rw [bne_iff_ne]; exact z3
        clear z3
        go_enter Try.func149, Try.ntmps149
        go_wp2_with (go_at_call 107; refine (In_calls _ _ _ _).mono ?_; rintro e w' ⟨rfl, rfl⟩)
        go_ret
        exact ⟨rfl, by go_grown⟩
    · rw [if_neg (fun h => z2 h.2.1)]
      have y2 : (i != 0) = true := by rw [bne_iff_ne]; exact z2
      clear z2
      go_enter Try.func149, Try.ntmps149
      go_wp2_with (go_at_call 107; refine (In_calls _ _ _ _).mono ?_; rintro e w' ⟨rfl, rfl⟩)
      go_ret
      exact ⟨rfl, by go_grown⟩
  · rw [if_neg (fun h => z1 h.1)]
    have y1 : (p != 0) = true := by rw [bne_iff_ne]; exact z1
    clear z1
    go_enter Try.func149, Try.ntmps149
    go_wp2_with (go_at_call 107; refine (In_calls _ _ _ _).mono ?_; rintro e w' ⟨rfl, rfl⟩)
    go_ret
    exact ⟨rfl, by go_grown⟩
set_option maxRecDepth 100000 in
set_option maxHeartbeats 4000000 in
theorem EventFault_bare2 (p i b he hn : Int) (w : World) :
    Calls Try.prog 149 #[Ev.val ⟨2, p, i, b, he, hn⟩] w (IntPost w (if p = 0 ∧ i = 0 ∧ b = 0 ∧ he = 0 ∧ hn = 0 then 0 else 3)) := by
  unfold Ev.val
  have h14 : inR 2 1 4 = true := by decide
  by_cases z1 : p = 0
  · subst z1
    by_cases z2 : i = 0
    · subst z2
      by_cases z3 : b = 0
      · subst z3
        by_cases z4 : he = 0
        · subst z4
          by_cases z5 : hn = 0
          · subst z5
            rw [if_pos ⟨rfl, rfl, rfl, rfl, rfl⟩]
            go_enter Try.func149, Try.ntmps149
            go_wp2_with (go_at_call 107; refine (In_calls _ _ _ _).mono ?_; rintro e w' ⟨rfl, rfl⟩)
            go_ret
            exact ⟨rfl, by go_grown⟩
          · rw [if_neg (fun h => z5 h.2.2.2.2)]
            have y5 : (hn != 0) = true := by rw [bne_iff_ne]; exact z5
            clear z5
            go_enter Try.func149, Try.ntmps149
            go_wp2_with (go_at_call 107; refine (In_calls _ _ _ _).mono ?_; rintro e w' ⟨rfl, rfl⟩)
            go_ret
            exact ⟨rfl, by go_grown⟩
        · rw [if_neg (fun h => z4 h.2.2.2.1)]
          have y4 : (he != 0) = true := by rw [bne_iff_ne]; exact z4
          clear z4
          go_enter Try.func149, Try.ntmps149
          go_wp2_with (go_at_call 107; refine (In_calls _ _ _ _).mono ?_; rintro e w' ⟨rfl, rfl⟩)
          go_ret
          exact ⟨rfl, by go_grown⟩
      · rw [if_neg (fun h => z3 h.2.2.1)]
        have y3 : (b != 0) = true := by rw [bne_iff_ne]; exact z3
        clear z3
        go_enter Try.func149, Try.ntmps149
        go_wp2_with (go_at_call 107; refine (In_calls _ _ _ _).mono ?_; rintro e w' ⟨rfl, rfl⟩)
        go_ret
        exact ⟨rfl, by go_grown⟩
    · rw [if_neg (fun h => z2 h.2.1)]
      have y2 : (i != 0) = true := by rw [bne_iff_ne]; exact z2
      clear z2
      go_enter Try.func149, Try.ntmps149
      go_wp2_with (go_at_call 107; refine (In_calls _ _ _ _).mono ?_; rintro e w' ⟨rfl, rfl⟩)
      go_ret
      exact ⟨rfl, by go_grown⟩
  · rw [if_neg (fun h => z1 h.1)]
    have y1 : (p != 0) = true := by rw [bne_iff_ne]; exact z1
    clear z1
    go_enter Try.func149, Try.ntmps149
    go_wp2_with (go_at_call 107; refine (In_calls _ _ _ _).mono ?_; rintro e w' ⟨rfl, rfl⟩)
    go_ret
    exact ⟨rfl, by go_grown⟩
set_option maxRecDepth 100000 in
set_option maxHeartbeats 4000000 in
theorem EventFault_bare4 (p i b he hn : Int) (w : World) :
    Calls Try.prog 149 #[Ev.val ⟨4, p, i, b, he, hn⟩] w (IntPost w (if p = 0 ∧ i = 0 ∧ b = 0 ∧ he = 0 ∧ hn = 0 then 0 else 3)) := by
  unfold Ev.val
  have h14 : inR 4 1 4 = true := by decide
  by_cases z1 : p = 0
  · subst z1
    by_cases z2 : i = 0
    · subst z2
      by_cases z3 : b = 0
      · subst z3
        by_cases z4 : he = 0
        · subst z4
          by_cases z5 : hn = 0
          · subst z5
            rw [if_pos ⟨rfl, rfl, rfl, rfl, rfl⟩]
            go_enter Try.func149, Try.ntmps149
            go_wp2_with (go_at_call 107; refine (In_calls _ _ _ _).mono ?_; rintro e w' ⟨rfl, rfl⟩)
            go_ret
            exact ⟨rfl, by go_grown⟩
          · rw [if_neg (fun h => z5 h.2.2.2.2)]
            have y5 : (hn != 0) = true := by rw [bne_iff_ne]; exact z5
            clear z5
            go_enter Try.func149, Try.ntmps149
            go_wp2_with (go_at_call 107; refine (In_calls _ _ _ _).mono ?_; rintro e w' ⟨rfl, rfl⟩)
            go_ret
            exact ⟨rfl, by go_grown⟩
        · rw [if_neg (fun h => z4 h.2.2.2.1)]
          have y4 : (he != 0) = true := by rw [bne_iff_ne]; exact z4
          clear z4
          go_enter Try.func149, Try.ntmps149
          go_wp2_with (go_at_call 107; refine (In_calls _ _ _ _).mono ?_; rintro e w' ⟨rfl, rfl⟩)
          go_ret
          exact ⟨rfl, by go_grown⟩
      · rw [if_neg (fun h => z3 h.2.2.1)]
        have y3 : (b != 0) = true := by rw [bne_iff_ne]; exact z3
        clear z3
        go_enter Try.func149, Try.ntmps149
        go_wp2_with (go_at_call 107; refine (In_calls _ _ _ _).mono ?_; rintro e w' ⟨rfl, rfl⟩)
        go_ret
        exact ⟨rfl, by go_grown⟩
    · rw [if_neg (fun h => z2 h.2.1)]
      have y2 : (i != 0) = true := by rw [bne_iff_ne]; exact z2
      clear z2
      go_enter Try.func149, Try.ntmps149
      go_wp2_with (go_at_call 107; refine (In_calls _ _ _ _).mono ?_; rintro e w' ⟨rfl, rfl⟩)
      go_ret
      exact ⟨rfl, by go_grown⟩
  · rw [if_neg (fun h => z1 h.1)]
    have y1 : (p != 0) = true := by rw [bne_iff_ne]; exact z1
    clear z1
    go_enter Try.func149, Try.ntmps149
    go_wp2_with (go_at_call 107; refine (In_calls _ _ _ _).mono ?_; rintro e w' ⟨rfl, rfl⟩)
    go_ret
    exact ⟨rfl, by go_grown⟩
set_option maxRecDepth 100000 in
set_option maxHeartbeats 4000000 in
theorem EventFault_none (k p i b he hn : Int) (w : World) (h14 : inR k 1 4 = false) :
    Calls Try.prog 149 #[Ev.val ⟨k, p, i, b, he, hn⟩] w (IntPost w 3) := by
  unfold Ev.val
  go_enter Try.func149, Try.ntmps149
  go_wp2_with (go_at_call 107; refine (In_calls _ _ _ _).mono ?_; rintro e w' ⟨rfl, rfl⟩)
  go_ret
  exact ⟨rfl, by go_grown⟩
theorem EventFault_calls (e : Ev) (w : World) : Calls Try.prog 149 #[e.val] w (IntPost w (evFault e)) := by
  obtain ⟨k, p, i, b, he, hn⟩ := e
  by_cases k1 : k = 1
  · subst k1
    cases hb : (inR p 0 3 && inR i 0 1073741824 && inR b 0 1000000)
    · have hf : evFault ⟨1, p, i, b, he, hn⟩ = 2 := by simp only [evFault, hb]; simp
      rw [hf]
      exact EventFault_publish_bad p i b he hn w hb
    · have hf : evFault ⟨1, p, i, b, he, hn⟩ = if he = 0 ∧ hn = 0 then 0 else 3 := by
        simp only [evFault, hb]
        by_cases z : he = 0 ∧ hn = 0 <;> simp [z]
      rw [hf]
      exact EventFault_publish p i b he hn w hb
  · by_cases k3 : k = 3
    · subst k3
      cases hb : (inR he 0 1048576 && inR hn 0 1073741824)
      · have hf : evFault ⟨3, p, i, b, he, hn⟩ = 2 := by simp only [evFault, hb]; simp
        rw [hf]
        exact EventFault_ack_bad p i b he hn w hb
      · have hf : evFault ⟨3, p, i, b, he, hn⟩ = if p = 0 ∧ i = 0 ∧ b = 0 then 0 else 3 := by
          simp only [evFault, hb]
          by_cases z : p = 0 ∧ i = 0 ∧ b = 0 <;> simp [z]
        rw [hf]
        exact EventFault_ack p i b he hn w hb
    · by_cases k24 : k = 2 ∨ k = 4
      · have hf : evFault ⟨k, p, i, b, he, hn⟩ = if p = 0 ∧ i = 0 ∧ b = 0 ∧ he = 0 ∧ hn = 0 then 0 else 3 := by
          have hk : 1 ≤ k ∧ k ≤ 4 := by omega
          simp only [evFault, hk, and_self, not_true_eq_false, if_false, k1, k3, false_and, ne_eq, not_false_eq_true, true_and]
          by_cases z : p = 0 ∧ i = 0 ∧ b = 0 <;> by_cases y : he = 0 ∧ hn = 0 <;> simp [z, y] <;> omega
        rw [hf]
        rcases k24 with rfl | rfl
        · exact EventFault_bare2 p i b he hn w
        · exact EventFault_bare4 p i b he hn w
      · have hf : evFault ⟨k, p, i, b, he, hn⟩ = 3 := by
          have hk : ¬ (1 ≤ k ∧ k ≤ 4) := by omega
          simp only [evFault, hk, not_false_eq_true, if_true]
        rw [hf]
        exact EventFault_none k p i b he hn w (inR_false.2 (by omega))
end Go.Proofs.Ytkjlafpafmihaaa
