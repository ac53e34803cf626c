/- Contracts: ref.EventsCopy, berthshiftlaw.events, history.Common, ref.CommonTo. -/
import Derived.Test.YtefkifgonadiiaaEv
import Derived.Deep.LoopGhost
namespace Go.Proofs.Ytefkifgonadiiaa
open Go.ChangeShapes Go.WideShapes Go.RowKit

/-- With how many elements two lists begin alike. -/
def commonM : List Ev → List Ev → Nat
  | a :: l, b :: k => if a = b then commonM l k + 1 else 0
  | _, _ => 0
theorem commonM_le : ∀ (l k : List Ev), commonM l k ≤ l.length ∧ commonM l k ≤ k.length
  | a :: l, b :: k => by
    have := commonM_le l k
    simp only [commonM, List.length_cons]
    split <;> omega
  | [], _ => by simp [commonM]
  | _ :: _, [] => by simp [commonM]
theorem commonM_at : ∀ (l k : List Ev) (n : Nat), n ≤ commonM l k → (n < commonM l k ↔ ∃ a, l[n]? = some a ∧ k[n]? = some a)
  | a :: l, b :: k, n, h => by
    simp only [commonM] at h ⊢
    split at h
    · rename_i e
      subst e
      rw [if_pos rfl]
      cases n with
      | zero => simp
      | succ n =>
        have := commonM_at l k n (by omega)
        simp only [List.getElem?_cons_succ]
        rw [← this]
        omega
    · rename_i e
      rw [if_neg e]
      have h0 : n = 0 := by omega
      subst h0
      constructor
      · intro h; omega
      · rintro ⟨x, h1, h2⟩
        simp at h1 h2
        exact absurd (h1.trans h2.symm) e
  | [], _, n, h => by simp [commonM]
  | _ :: _, [], n, h => by simp [commonM]

theorem take_snoc_ {α : Type} {l : List α} {k : Nat} {e : α} (h : l[k]? = some e) : l.take k ++ [e] = l.take (k + 1) := by
  rw [List.take_add_one, h]
  rfl

theorem ev_new (w : World) (e : Ev) (t : TypeId) : Rd (w.alloc (.cells #[.int .i64 e.kind, .int .i64 e.producer, .int .i64 e.id, .int .i64 e.body, .int .i64 e.hepoch, .int .i64 e.hno] t)) (w.heap.size + 1) 6 (some ⟨w.heap.size, 0, none⟩) 1 (evCells [e]) :=
  Rd.new_ w t (evCells [e]) 1 6 (by simp [evCells_length])

set_option maxHeartbeats 800000 in
theorem EventsCopy_calls (A : Option Addr) (n c : Nat) (l : List Ev) (w : World) (h : Rd w w.heap.size 6 A n (evCells l)) (hc : n * 48 ≤ reachBytes) :
    Calls Try.prog 38 #[.slice A n c] w (OwnPost w 54 6 n (evCells l)) := by
  have hc' : n * 48 ≤ 140737488351232 := hc
  obtain ⟨i0, hi0, hz0, hz1, hz2⟩ := info_parts ev_info
  have hl := h.ev_len
  have H := Lib.hid h
  have HL := Lib.hid hl
  clear h hl hc
  go_enter Try.func38, Try.ntmps38
  go_wp2
  go_loopw [3, 4] (fun v i wr => ∃ k : Nat, k ≤ n ∧ i = .int .i64 k ∧ Below w.heap.size w wr ∧ wr.ownsRow w.heap.size 54 6 v k (evCells (l.take k))) (fun _ i _ => n - (intOf i).toNat)
  case atStart => exact ⟨0, Nat.zero_le _, rfl, Below.refl _ _, ownsRow_nil_ _ _ _ _⟩
  case round =>
    obtain ⟨k, hk, rfl, hB, hown⟩ := hrel
    by_cases hlt : k < n
    · obtain ⟨b, off, e, rfl, hb, he, c0, c1, c2, c3, c4, c5⟩ := (H.out.below hB (Nat.le_refl _)).ev_at hlt
      have hs := hB.size
      have HE := Lib.hid he
      have HB := Lib.hid hB
      have HO := Lib.hid hown
      clear he hB hown
      have hE := ev_new wr e 54
      have HN := Lib.hid hE
      clear hE
      go_wp2_with (at_builtin; refine wpList_append_any _ rfl (.tmp 11) (.tmp 16) _ rfl w.heap.size 54 i0 _ 6 48 Try.underlying31 hi0 hz0 hz1 hz2 rfl (by omega) _ k (evCells (l.take k)) rfl (HO.out.alloc _) (wr.heap.size + 1) (some ⟨wr.heap.size, 0, none⟩) 1 1 (evCells [e]) rfl HN.out (evCells_one _) (by simp only [maxLen]; omega) (by omega) (by simp; omega) ?_; intro v1 w1 hown1 hg1 hat1)
      have hB1 : Below w.heap.size w w1 := (HB.out.alloc hs _).grown hg1 (by simp; omega) (HO.out.own_lt ·)
      rw [← evCells_append, take_snoc_ HE.out] at hown1
      have HB1 := Lib.hid hB1
      have HO1 := Lib.hid hown1
      clear hB1 hown1 hg1 hat1
      go_wp2
      go_roundw
      case rel => exact ⟨k + 1, by omega, by go_num, HB1.out, HO1.out⟩
      case measure => simp [intOf]; omega
    · obtain rfl : k = n := by omega
      have HB := Lib.hid hB
      have HO := Lib.hid hown
      clear hB hown
      go_wp2
      go_ret
      have hown := HO.out
      rw [List.take_of_length_le (by have := HL.out; omega)] at hown
      exact OwnPost.of HB.out hown
set_option maxHeartbeats 800000 in
theorem Common_calls (A A' : Option Addr) (n c n' c' : Nat) (l l' : List Ev) (w : World) {B B' : Nat} (h : Rd w B 6 A n (evCells l)) (h' : Rd w B' 6 A' n' (evCells l')) (hm : n ≤ maxLen) (hm' : n' ≤ maxLen) :
    Calls Try.prog 16 #[.slice A n c, .slice A' n' c'] w fun e w' => e = .returned (.int .i64 (commonM l l' : Nat)) ∧ ∃ q, w' = w.drewN q := by
  unfold maxLen at hm hm'
  have hl := h.ev_len
  have hl' := h'.ev_len
  obtain ⟨m1, m2⟩ := commonM_le l l'
  have hat := commonM_at l l'
  generalize commonM l l' = m at *
  have H := Lib.hid h
  have H' := Lib.hid h'
  have HA := Lib.hid hat
  rw [hl] at m1
  rw [hl'] at m2
  clear h h' hat hl hl'
  go_enter Try.func16, Try.ntmps16
  go_wp2
  go_loopw [5] (fun i wr => ∃ k : Nat, k ≤ m ∧ i = .int .i64 k ∧ ∃ q, wr = w.drewN q) (fun i _ => m + 1 - (intOf i).toNat)
  case atStart => exact ⟨0, Nat.zero_le _, rfl, 0, rfl⟩
  case round =>
    obtain ⟨k, hk, rfl, q, rfl⟩ := hrel
    by_cases hlt : k < n ∧ k < n'
    · obtain ⟨k1, k2⟩ := hlt
      obtain ⟨b, off, e, rfl, hb, he, c0, c1, c2, c3, c4, c5⟩ := H.out.ev_at k1
      obtain ⟨b', off', e', rfl, hb', he', d0, d1, d2, d3, d4, d5⟩ := H'.out.ev_at k2
      have hq := run_eql_ev e e'
      have hiff := HA.out k hk
      rw [he, he'] at hiff
      have hmin : ((k : Int) < min (n : Int) (n' : Int)) := by omega
      by_cases hee : e = e'
      · have hkm : k < m := hiff.2 ⟨e, rfl, by rw [hee]⟩
        have hd : decide (e = e') = true := by simpa using hee
        rw [hd] at hq
        clear he he' hiff hee hd hmin
        by_cases hc : n' < n
        all_goals
          go_wp2
          go_quiet (fail)
          go_wp2
          go_roundw
          case rel => exact ⟨k + 1, by omega, by go_num, q + nq, rfl⟩
          case measure => simp [intOf]; omega
      · have hkm : k = m := by
          rcases Nat.lt_or_ge k m with h | h
          · obtain ⟨a, h1, h2⟩ := hiff.1 h
            simp at h1 h2
            exact absurd (h1.trans h2.symm) hee
          · omega
        have hd : decide (e = e') = false := by simpa using hee
        rw [hd] at hq
        clear he he' hiff hee hd hmin
        subst hkm
        by_cases hc : n' < n
        all_goals
          go_wp2
          go_quiet (fail)
          go_wp2
          go_ret
          exact ⟨rfl, q + nq, World.drewN_drewN ..⟩
    · have hkm : k = m := by omega
      subst hkm
      by_cases hc : n' < n
      · have hk' : ¬ k < n' := by omega
        have hd : decide ((k : Int) < (n' : Int)) = false := by simpa using hk'
        clear hlt
        go_wp2
        go_quiet (fail)
        go_wp2
        go_ret
        exact ⟨rfl, q + nq, World.drewN_drewN ..⟩
      · have hk' : ¬ k < n := by omega
        have hd : decide ((k : Int) < (n : Int)) = false := by simpa using hk'
        clear hlt
        go_wp2
        go_quiet (fail)
        go_wp2
        go_ret
        exact ⟨rfl, q + nq, World.drewN_drewN ..⟩
set_option maxHeartbeats 800000 in
theorem CommonTo_calls (A A' : Option Addr) (n c n' c' : Nat) (l l' : List Ev) (w : World) {B B' : Nat} (h : Rd w B 6 A n (evCells l)) (h' : Rd w B' 6 A' n' (evCells l')) (hm : n ≤ maxLen) :
    Calls Try.prog 18 #[.slice A n c, .slice A' n' c'] w fun e w' => e = .returned (.int .i64 (commonM l l' : Nat)) ∧ ∃ q, w' = w.drewN q := by
  unfold maxLen at hm
  have hl := h.ev_len
  have hl' := h'.ev_len
  obtain ⟨m1, m2⟩ := commonM_le l l'
  have hat := commonM_at l l'
  generalize commonM l l' = m at *
  have H := Lib.hid h
  have H' := Lib.hid h'
  have HA := Lib.hid hat
  have HL := Lib.hid hl
  have HL' := Lib.hid hl'
  rw [hl] at m1
  rw [hl'] at m2
  clear h h' hat hl hl'
  go_enter Try.func18, Try.ntmps18
  go_wp2
  go_loopw [5] (fun i wr => ∃ k : Nat, k ≤ m ∧ i = .int .i64 k ∧ ∃ q, wr = w.drewN q) (fun i _ => n + 1 - (intOf i).toNat)
  case atStart => exact ⟨0, Nat.zero_le _, rfl, 0, rfl⟩
  case round =>
    obtain ⟨k, hk, rfl, q, rfl⟩ := hrel
    by_cases k1 : k < n
    · by_cases k2 : k = n'
      · have hkm : k = m := by omega
        subst k2
        subst hkm
        have hd : ((k : Int) == (k : Int)) = true := by simp
        go_wp2
        go_quiet (fail)
        go_wp2
        go_ret
        exact ⟨rfl, q + nq, World.drewN_drewN ..⟩
      · have k2' : k < n' := by omega
        have hd0 : ((k : Int) == (n' : Int)) = false := beq_eq_false_iff_ne.2 (by omega)
        obtain ⟨b, off, e, rfl, hb, he, c0, c1, c2, c3, c4, c5⟩ := H.out.ev_at k1
        obtain ⟨b', off', e', rfl, hb', he', d0, d1, d2, d3, d4, d5⟩ := H'.out.ev_at k2'
        have hq := run_neq_ev e e'
        have hiff := HA.out k hk
        rw [he, he'] at hiff
        by_cases hee : e = e'
        · have hkm : k < m := hiff.2 ⟨e, rfl, by rw [hee]⟩
          have hd : decide (e = e') = true := by simpa using hee
          rw [hd] at hq
          clear he he' hiff hee hd k2
          go_wp2
          go_quiet (fail)
          go_wp2
          go_roundw
          case rel => exact ⟨k + 1, by omega, by go_num, q + nq, rfl⟩
          case measure => simp [intOf]; omega
        · have hkm : k = m := by
            rcases Nat.lt_or_ge k m with h | h
            · obtain ⟨a, h1, h2⟩ := hiff.1 h
              simp at h1 h2
              exact absurd (h1.trans h2.symm) hee
            · omega
          have hd : decide (e = e') = false := by simpa using hee
          rw [hd] at hq
          clear he he' hiff hee hd k2
          subst hkm
          go_wp2
          go_quiet (fail)
          go_wp2
          go_ret
          exact ⟨rfl, q + nq, World.drewN_drewN ..⟩
    · have hkm : k = m := by omega
      have hkn : k = n := by omega
      subst hkm
      subst hkn
      clear k1
      go_wp2
      go_ret
      exact ⟨rfl, q, rfl⟩

theorem OwnPost.opened {w : World} {e : TypeId} {size n : Nat} {xs : List Value} {en : Ending} {w' : World} (h : OwnPost w e size n xs en w') :
    ∃ A c, en = .returned (.slice A n c) ∧ Below w.heap.size w w' ∧ Rd w' w'.heap.size size A n xs ∧ n ≤ c ∧ c ≤ maxLen := by
  obtain ⟨A, c, he, hb, ho⟩ := h
  obtain ⟨A2, c2, hv, h1, h2⟩ := own_form ho
  simp only [Value.slice.injEq] at hv
  obtain ⟨_, _, rfl⟩ := hv
  exact ⟨A, c, he, hb, Rd.of_own ho, h1, h2⟩

set_option maxHeartbeats 400000 in
theorem events_calls (A : Option Addr) (n c : Nat) (l : List Ev) (w : World) (h : Rd w w.heap.size 6 A n (evCells l)) (hc : n * 48 ≤ reachBytes) :
    Calls Try.prog 17 #[.slice A n c] w (OwnPost w 54 6 n (evCells l)) := by
  have H := Lib.hid (EventsCopy_calls A n c l)
  go_enter Try.func17, Try.ntmps17
  go_wp2_with fail
  refine (H.out _ h hc).mono ?_
  rintro e w1 ⟨A1, c1, rfl, hb1, hown1⟩
  have HO := Lib.hid hown1
  have HB := Lib.hid hb1
  clear hown1 hb1
  go_wp2_with fail
  go_ret
  exact OwnPost.of HB.out HO.out
end Go.Proofs.Ytefkifgonadiiaa
