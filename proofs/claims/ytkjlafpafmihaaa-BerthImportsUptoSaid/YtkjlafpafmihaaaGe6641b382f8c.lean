/- Parts of proofs: lemmas on memory, on single functions and on the plain models; no condition of their own. -/
import Derived.Test.YtkjlafpafmihaaaRows
import Derived.WalkKit
import Derived.ProofKit
import Derived.OpenShut
import Derived.SizedLaws
import Derived.WalkSpells
import Derived.WalkLawsBesides
import Derived.Handy
import Derived.Deep.QuietTactic
import Derived.BigQuiet
import Derived.Lib.Hide
import Derived.Maps.AppendAt
import Derived.Deep.AppendLies
import Derived.RegionTactic
import Derived.OwnWalk
import Derived.ChangeKeysEq
import Derived.Test.YtkjlafpafmihaaaG53d9860cd554
import Derived.Test.YtkjlafpafmihaaaG5a4470397ed8
import Derived.Test.YtkjlafpafmihaaaGc91015c24562
set_option linter.unusedVariables false
set_option linter.unusedSimpArgs false

namespace Go.Proofs.Ytkjlafpafmihaaa
open Go.ChangeShapes Go.WideShapes Go.RowKit

set_option maxRecDepth 100000 in
set_option maxHeartbeats 2000000 in
theorem sameEvents_calls (A A' : Option Addr) (n c n' c' : Nat) (l l' : List Ev) (w : World) {B B' : Nat} (h : Rd w B 6 A n (evCells l)) (h' : Rd w B' 6 A' n' (evCells l')) (hm : n ≤ maxLen) (hm' : n' ≤ maxLen) :
    Calls Try.prog 72 #[.slice A n c, .slice A' n' c'] w fun e w' => e = .returned (.bool (decide (l = l'))) ∧ ∃ q, w' = w.drewN q := by
  unfold maxLen at hm hm'
  have hl := h.ev_len
  have hl' := h'.ev_len
  have H := Lib.hid h
  have H' := Lib.hid h'
  have HL := Lib.hid hl
  have HL' := Lib.hid hl'
  have HZ0 : Hid (∀ b, b = decide (l = l') → b = decide (l = l')) := Lib.hid (fun b h => h)
  generalize hb : decide (l = l') = r
  have HZ := Lib.hid (HZ0.out r hb.symm)
  clear hb HZ0 h h' hl hl'
  by_cases hn : n = n'
  · subst hn
    go_enter Try.func72, Try.ntmps72
    go_wp2_with fail
    go_loopw [5] (fun i wr => ∃ k : Nat, k ≤ n ∧ i = .int .i64 k ∧ l.take k = l'.take k ∧ ∃ q, wr = w.drewN q) (fun i _ => n - (intOf i).toNat)
    case atStart => exact ⟨0, Nat.zero_le _, rfl, rfl, 0, rfl⟩
    case round =>
      obtain ⟨k, hk, rfl, hall, q, rfl⟩ := hrel
      have HA := Lib.hid hall
      clear hall
      by_cases hlt : k < n
      · obtain ⟨b, off, e, rfl, hb, he, c0, c1, c2, c3, c4, c5⟩ := H.out.ev_at hlt
        obtain ⟨b', off', e', rfl, hb', he', d0, d1, d2, d3, d4, d5⟩ := H'.out.ev_at hlt
        have hq := run_neq_ev e e'
        have HE := Lib.hid he
        have HE' := Lib.hid he'
        clear he he'
        by_cases hee : e = e'
        · have hd : decide (e = e') = true := by simpa using hee
          rw [hd] at hq
          have HEE := Lib.hid hee
          clear hee hd
          go_wp2_with fail
          go_quiet (fail)
          go_wp2_with fail
          go_roundw
          case rel => exact ⟨k + 1, by omega, by go_num, (by rw [List.take_add_one, List.take_add_one, HE.out, HE'.out, HA.out, HEE.out]), q + nq, rfl⟩
          case measure => simp [intOf]; omega
        · have hd : decide (e = e') = false := by simpa using hee
          rw [hd] at hq
          have hr : r = false := by
            rw [HZ.out, decide_eq_false_iff_not]
            intro hll
            have h1 := HE.out
            rw [hll, HE'.out] at h1
            simp at h1
            exact hee h1.symm
          subst hr
          clear hee hd
          go_wp2_with fail
          go_quiet (fail)
          go_wp2_with fail
          go_ret
          exact ⟨rfl, q + nq, World.drewN_drewN ..⟩
      · obtain rfl : k = n := by omega
        have hr : r = true := by
          rw [HZ.out, decide_eq_true_eq]
          have h1 := HA.out
          rwa [List.take_of_length_le (by have := HL.out; omega), List.take_of_length_le (by have := HL'.out; omega)] at h1
        subst hr
        go_wp2_with fail
        go_ret
        exact ⟨rfl, q, rfl⟩
  · have hr : r = false := by
      rw [HZ.out, decide_eq_false_iff_not]
      intro hll
      have h1 := HL.out
      rw [hll, HL'.out] at h1
      exact hn h1.symm
    subst hr
    go_enter Try.func72, Try.ntmps72
    go_wp2_with fail
    go_ret
    exact ⟨rfl, 0, rfl⟩
end Go.Proofs.Ytkjlafpafmihaaa

