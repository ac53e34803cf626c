/- LOADS AS DATA; what plan.check and ref.LoadsFault say of them. -/
import Derived.Test.YtefkifgonadiiabRecs
namespace Go.Proofs.Ytefkifgonadiiab
open Go.ChangeShapes Go.WideShapes Go.RowKit

/-- A load. -/
structure Ld where
  queue : Int
  node : Int
  work : Int
  deriving DecidableEq
instance : IntRec Ld where
  size := 3
  ints x := [x.queue, x.node, x.work]
  of l := ⟨l.getD 0 0, l.getD 1 0, l.getD 2 0⟩
  pos := by omega
  len _ := rfl
  inv xs h := by
    match xs, h with
    | [a, b, c], _ => rfl

theorem Rd.ld_at {w : World} {B n k : Nat} {A : Option Addr} {l : List Ld} (h : Rd w B 3 A n (recCells l)) (hk : k < n) : ∃ b off x, A = some ⟨b, off, none⟩ ∧ b < B ∧ l[k]? = some x ∧
    w.cell? ⟨b, off + k * 3, none⟩ = some (.int .i64 x.queue) ∧ w.cell? ⟨b, off + k * 3 + 1, none⟩ = some (.int .i64 x.node) ∧ w.cell? ⟨b, off + k * 3 + 2, none⟩ = some (.int .i64 x.work) := by
  obtain ⟨b, off, x, e, hb, hx, hc⟩ := Rd.rec_at (α := Ld) h hk
  exact ⟨b, off, x, e, hb, hx, hc 0 _ rfl, hc 1 _ rfl, hc 2 _ rfl⟩
theorem Rd.ld_len {w : World} {B n : Nat} {A : Option Addr} {l : List Ld} (h : Rd w B 3 A n (recCells l)) : l.length = n := Rd.rec_len (α := Ld) h

def ldOk (nodes prev : Int) (x : Ld) : Prop := prev < x.queue ∧ x.queue < 4 ∧ 0 ≤ x.node ∧ x.node < nodes ∧ 0 ≤ x.work ∧ x.work ≤ 1073741824
def prevQ (l : List Ld) : Nat → Int
  | 0 => -1
  | k + 1 => match l[k]? with
    | some x => x.queue
    | none => -1
theorem prevQ_succ {l : List Ld} {k : Nat} {x : Ld} (h : l[k]? = some x) : prevQ l (k + 1) = x.queue := by
  simp [prevQ, h]
def ldsOk (nodes : Int) (l : List Ld) : Prop := ∀ k x, l[k]? = some x → ldOk nodes (prevQ l k) x
open Classical in
/-- P9.1. -/
noncomputable def ldsFault (l : List Ld) (nodes : Int) : Int := if ¬ (1 ≤ nodes ∧ nodes ≤ 5) then 2 else if ldsOk nodes l then 0 else 6
theorem ldsFault_range {l : List Ld} {nodes : Int} (h : ¬ (1 ≤ nodes ∧ nodes ≤ 5)) : ldsFault l nodes = 2 := if_pos h
theorem ldsFault_bad {l : List Ld} {nodes : Int} (h : 1 ≤ nodes ∧ nodes ≤ 5) {k : Nat} {x : Ld} (hx : l[k]? = some x) (hb : ¬ ldOk nodes (prevQ l k) x) : ldsFault l nodes = 6 := by
  unfold ldsFault
  rw [if_neg (by omega), if_neg (fun ho => hb (ho k x hx))]
theorem ldsFault_ok {l : List Ld} {nodes : Int} (h : 1 ≤ nodes ∧ nodes ≤ 5) (ho : ldsOk nodes l) : ldsFault l nodes = 0 := by
  unfold ldsFault
  rw [if_neg (by omega), if_pos ho]
theorem ldsFault_zero {l : List Ld} {nodes : Int} (h : ldsFault l nodes = 0) : 1 ≤ nodes ∧ nodes ≤ 5 ∧ ldsOk nodes l := by
  unfold ldsFault at h
  split at h
  · cases h
  · rename_i h1
    split at h
    · rename_i h2
      exact ⟨by omega, by omega, h2⟩
    · cases h
theorem ldsOk_queue {nodes : Int} {l : List Ld} (h : ldsOk nodes l) : ∀ (k : Nat) (x : Ld), l[k]? = some x → (k : Int) ≤ x.queue := by
  intro k
  induction k with
  | zero =>
    intro x hx
    have := (h 0 x hx).1
    simp [prevQ] at this
    omega
  | succ k ih =>
    intro x hx
    have h1 := (h (k + 1) x hx).1
    have hk : k < l.length := by have := (List.getElem?_eq_some_iff.1 hx).1; omega
    have hy : l[k]? = some l[k] := List.getElem?_eq_getElem hk
    rw [prevQ_succ hy] at h1
    have := ih _ hy
    omega
theorem ldsOk_len {nodes : Int} {l : List Ld} (h : ldsOk nodes l) : l.length ≤ 4 := by
  rcases Nat.lt_or_ge 4 l.length with h1 | h1
  · have hy : l[4]? = some l[4] := List.getElem?_eq_getElem h1
    have h2 := ldsOk_queue h 4 _ hy
    have h3 := (h 4 _ hy).2.1
    omega
  · exact h1

/-- An int's answer, and nothing below the old heap's end turned. -/
def LdPost (w : World) (k : Int) (e : Ending) (w' : World) : Prop := e = .returned (.int .i64 k) ∧ Below w.heap.size w w'

set_option maxRecDepth 100000 in
set_option maxHeartbeats 2000000 in
theorem pcheck_calls (A : Option Addr) (n c : Nat) (l : List Ld) (nodes : Int) (w : World) (h : Rd w w.heap.size 3 A n (recCells l)) (hm : n ≤ maxLen) :
    Calls Try.prog 22 #[.slice A n c, .int .i64 nodes] w (LdPost w (ldsFault l nodes)) := by
  unfold maxLen at hm
  have H := Lib.hid h
  have hl := h.ld_len
  have HL := Lib.hid hl
  clear h hl
  by_cases h1 : nodes < 1
  · rw [ldsFault_range (by omega)]
    go_enter Try.func22, Try.ntmps22
    go_wp2_with fail
    go_ret
    exact ⟨rfl, by go_grown⟩
  · by_cases h5 : 5 < nodes
    · rw [ldsFault_range (by omega)]
      go_enter Try.func22, Try.ntmps22
      go_wp2_with fail
      go_ret
      exact ⟨rfl, by go_grown⟩
    · have HF : Hid (∀ k x, l[k]? = some x → ¬ ldOk nodes (prevQ l k) x → ldsFault l nodes = 6) := Lib.hid (fun k x hx hb => ldsFault_bad (by omega) hx hb)
      have H0 : Hid (ldsOk nodes l → ldsFault l nodes = 0) := Lib.hid (fun ho => ldsFault_ok (by omega) ho)
      generalize ldsFault l nodes = z at HF H0 ⊢
      go_enter Try.func22, Try.ntmps22
      go_wp2_with fail
      go_loopw [5, 16] (fun p i wr => ∃ k : Nat, k ≤ n ∧ i = .int .i64 k ∧ p = .int .i64 (prevQ l k) ∧ (∀ j x, j < k → l[j]? = some x → ldOk nodes (prevQ l j) x) ∧ Below w.heap.size w wr) (fun _ i _ => n - (intOf i).toNat)
      case atStart => exact ⟨0, Nat.zero_le _, rfl, rfl, fun j _ hj => absurd hj (by omega), Below.refl _ _⟩
      case round =>
        obtain ⟨k, hk, rfl, rfl, hall, hb⟩ := hrel
        have HB := Lib.hid hb
        have HA := Lib.hid hall
        by_cases hlt : k < n
        · obtain ⟨b, off, x, rfl, hbb, hx, c0, c1, c2⟩ := (H.out.below hb (Nat.le_refl _)).ld_at hlt
          have HX := Lib.hid hx
          have HFk := Lib.hid (HF.out k x hx)
          have HP := Lib.hid (prevQ_succ hx)
          have HQ : Hid (ldOk nodes (prevQ l k) x → ∀ j x, j < k + 1 → l[j]? = some x → ldOk nodes (prevQ l j) x) := Lib.hid (fun ho j y hj hy => by
            by_cases e : j = k
            · subst e
              have := HX.out
              rw [hy] at this
              simp at this
              subst this
              exact ho
            · exact HA.out j y (by omega) hy)
          have hsz : w.heap.size ≤ wr.heap.size := hb.size
          clear hall hb hx
          generalize prevQ l k = p at HFk HQ ⊢
          by_cases b1 : x.queue ≤ p
          · have e := HFk.out (by unfold ldOk; omega)
            subst e
            go_wp2_with fail
            go_ret
            have hB := HB.out
            exact ⟨rfl, by go_grown⟩
          by_cases b2 : 4 ≤ x.queue
          · have e := HFk.out (by unfold ldOk; omega)
            subst e
            go_wp2_with fail
            go_ret
            have hB := HB.out
            exact ⟨rfl, by go_grown⟩
          by_cases b3 : x.node < 0
          · have e := HFk.out (by unfold ldOk; omega)
            subst e
            go_wp2_with fail
            go_ret
            have hB := HB.out
            exact ⟨rfl, by go_grown⟩
          by_cases b4 : nodes ≤ x.node
          · have e := HFk.out (by unfold ldOk; omega)
            subst e
            go_wp2_with fail
            go_ret
            have hB := HB.out
            exact ⟨rfl, by go_grown⟩
          by_cases b5 : x.work < 0
          · have e := HFk.out (by unfold ldOk; omega)
            subst e
            go_wp2_with fail
            go_ret
            have hB := HB.out
            exact ⟨rfl, by go_grown⟩
          by_cases b6 : 1073741824 < x.work
          · have e := HFk.out (by unfold ldOk; omega)
            subst e
            go_wp2_with fail
            go_ret
            have hB := HB.out
            exact ⟨rfl, by go_grown⟩
          have HG := Lib.hid (HQ.out (by unfold ldOk; omega))
          go_wp2_with fail
          go_roundw
          case rel =>
            have hB := HB.out
            exact ⟨k + 1, by omega, by go_num, by rw [HP.out], HG.out, by go_grown⟩
          case measure => simp [intOf]; omega
        · obtain rfl : k = n := by omega
          have e := H0.out (fun j x hx => HA.out j x (by have := (List.getElem?_eq_some_iff.1 hx).1; have := HL.out; omega) hx)
          subst e
          clear hall hb
          go_wp2_with fail
          go_ret
          exact ⟨rfl, HB.out⟩
end Go.Proofs.Ytefkifgonadiiab
