/- Parts of proofs: lemmas on memory, on single functions and on the plain models; no condition of their own. -/
import Derived.Test.YtkjlafpafmihaaaRows
import Derived.WalkKit
import Derived.ProofKit
import Derived.OpenShut
import Derived.SizedLaws
import Derived.WalkSpells
import Derived.WalkLawsBesides
import Derived.Handy
import Derived.Deep.QuietTactic
import Derived.BigQuiet
import Derived.Lib.Hide
import Derived.Maps.AppendAt
import Derived.Deep.AppendLies
import Derived.RegionTactic
import Derived.OwnWalk
import Derived.ChangeKeysEq
import Derived.Test.YtkjlafpafmihaaaG3d3d00a3ec74
import Derived.Test.YtkjlafpafmihaaaGf662d898f049
set_option linter.unusedVariables false
set_option linter.unusedSimpArgs false

namespace Go.Proofs.Ytkjlafpafmihaaa
open Go.ChangeShapes Go.WideShapes Go.RowKit

/-- A struct of so many ints. -/
class IntRec (α : Type) where
  size : Nat
  ints : α → List Int
  of : List Int → α
  pos : 0 < size
  len : ∀ a, (ints a).length = size
  inv : ∀ xs : List Int, xs.length = size → ints (of xs) = xs

section
variable {α : Type} [IntRec α]
open IntRec

def recOne (a : α) : List Value := (ints a).map (Value.int .i64)
def recCells (l : List α) : List Value := l.flatMap recOne
theorem recOne_length (a : α) : (recOne a).length = size α := by simp [recOne, len]
theorem recCells_length (l : List α) : (recCells l).length = l.length * size α := by
  induction l with
  | nil => simp [recCells]
  | cons e l ih => simp only [recCells, List.flatMap_cons, List.length_append, List.length_cons] at *; rw [ih, recOne_length, Nat.succ_mul]; omega
theorem recCells_one (l : List α) : ∀ u ∈ recCells l, u.oneCell' = true := by
  intro u hu
  simp only [recCells, recOne, List.mem_flatMap, List.mem_map] at hu
  obtain ⟨e, _, x, _, rfl⟩ := hu
  rfl
theorem recCells_get {l : List α} {k j : Nat} {a : α} {v : Int} (h : l[k]? = some a) (hj : (ints a)[j]? = some v) : (recCells l)[k * size α + j]? = some (.int .i64 v) := by
  induction l generalizing k with
  | nil => simp at h
  | cons x l ih =>
    have e1 : recCells (x :: l) = recOne x ++ recCells l := by simp [recCells]
    have hx := recOne_length x
    have hjl : j < size α := by
      have := (List.getElem?_eq_some_iff.1 hj).1
      rw [len] at this
      exact this
    rw [e1]
    cases k with
    | zero =>
      simp at h
      subst h
      rw [Nat.zero_mul, Nat.zero_add, List.getElem?_append_left (by omega)]
      simp [recOne, hj]
    | succ k =>
      rw [List.getElem?_append_right (by rw [Nat.succ_mul]; omega), hx, show (k + 1) * size α + j - size α = k * size α + j by rw [Nat.succ_mul]; omega]
      exact ih (by simpa using h)

variable {w : World} {B n : Nat} {A : Option Addr} {l : List α}
theorem Rd.rec_len (h : Rd w B (size α) A n (recCells l)) : l.length = n := by
  have := h.1
  rw [recCells_length] at this
  exact Nat.eq_of_mul_eq_mul_right (pos (α := α)) this
/-- One element's cells, by number. -/
theorem Rd.rec_at {k : Nat} (h : Rd w B (size α) A n (recCells l)) (hk : k < n) : ∃ b off a, A = some ⟨b, off, none⟩ ∧ b < B ∧ l[k]? = some a ∧
    ∀ j v, (ints a)[j]? = some v → w.cell? ⟨b, off + (k * size α + j), none⟩ = some (.int .i64 v) := by
  have hl := h.rec_len
  obtain ⟨b, off, e, hb, hc⟩ := h.2 (by omega)
  have he : l[k]? = some (l[k]'(by omega)) := List.getElem?_eq_getElem (by omega)
  exact ⟨b, off, _, e, hb, he, fun j v hj => hc _ _ (recCells_get he hj)⟩
theorem all2_ints {cs : List Value} {m : Nat} (h : All2 Fits0 cs (List.replicate m (.int .i64))) : ∃ xs : List Int, xs.length = m ∧ cs = xs.map (Value.int .i64) := by
  induction m generalizing cs with
  | zero => exact ⟨[], rfl, All2.nil_ h⟩
  | succ m ih =>
    obtain ⟨a, l1, rfl, ⟨x, rfl, _⟩, h3⟩ := All2.cons_ h
    obtain ⟨xs, h4, rfl⟩ := ih h3
    exact ⟨x :: xs, by simp [h4], rfl⟩

/-- An argument that is a slice of such structs. -/
theorem open_recs {W : World} {v : Value} {b : Nat} (h : Fits W v (.sl b (List.replicate (size α) (.int .i64)))) :
    ∃ A n c, ∃ l : List α, v = .slice A n c ∧ Rd W W.heap.size (size α) A n (recCells l) ∧ n ≤ c ∧ c ≤ maxLen ∧ c * b ≤ reachBytes ∧ (A = none → c = 0) := by
  have hp := pos (α := α)
  rcases h with rfl | ⟨ad, n, c, rfl, hn, hc, hr, hcell⟩
  · exact ⟨none, 0, 0, [], rfl, ⟨by simp [recCells], fun h => absurd h (by omega)⟩, Nat.le_refl _, Nat.zero_le _, by simp, fun _ => rfl⟩
  · have hex : ∀ i, i < n → ∃ x : α, ad.block < W.heap.size ∧ ∀ j u, (recOne x)[j]? = some u → W.cell? (ad.add (i * size α + j)) = some u := by
      intro i hi
      obtain ⟨cs, h2, hb, hcs⟩ := hcell i hi
      obtain ⟨xs, hx, rfl⟩ := all2_ints h2
      rw [List.length_replicate] at hb hcs
      refine ⟨of xs, hb hp, fun j u hj => hcs j u ?_⟩
      rw [recOne, inv xs hx] at hj
      exact hj
    have hd : ∃ x : α, True := ⟨of [], trivial⟩
    obtain ⟨f, hf⟩ : ∃ f : Nat → α, ∀ i, i < n → ad.block < W.heap.size ∧ ∀ j u, (recOne (f i))[j]? = some u → W.cell? (ad.add (i * size α + j)) = some u := by
      refine ⟨fun i => if hi : i < n then Classical.choose (hex i hi) else of [], fun i hi => ?_⟩
      simp only [hi, dif_pos]
      exact Classical.choose_spec (hex i hi)
    refine ⟨some ad, n, c, (List.range n).map f, rfl, ⟨by rw [recCells_length]; simp, fun h0 => ?_⟩, hn, hc, hr, fun h => by cases h⟩
    obtain ⟨b, off, spot⟩ := ad
    have hspot : spot = none := by
      have h1 : (recOne (f 0))[0]? = some ((recOne (f 0))[0]'(by rw [recOne_length]; exact hp)) := List.getElem?_eq_getElem _
      simpa [Addr.add] using World.cell?_spot ((hf 0 h0).2 0 _ h1)
    subst hspot
    refine ⟨b, off, rfl, (hf 0 h0).1, fun j u hu => ?_⟩
    have hj : j < n * size α := by
      have := (List.getElem?_eq_some_iff.1 hu).1
      rw [recCells_length] at this
      simpa using this
    have hk : j / size α < n := Nat.div_lt_of_lt_mul (by rw [Nat.mul_comm]; exact hj)
    have hm : j % size α < size α := Nat.mod_lt _ hp
    have hg : ((List.range n).map f)[j / size α]? = some (f (j / size α)) := by simp [hk]
    have e : j / size α * size α + j % size α = j := by rw [Nat.mul_comm]; exact Nat.div_add_mod j (size α)
    have h7 := (hf (j / size α) hk).2 (j % size α) u
    rw [Go.WideShapes.add_plain, e] at h7
    refine h7 ?_
    have hi : (ints (f (j / size α)))[j % size α]? = some ((ints (f (j / size α)))[j % size α]'(by rw [len]; exact hm)) := List.getElem?_eq_getElem _
    have h8 := recCells_get hg hi
    rw [e, hu] at h8
    rw [recOne, List.getElem?_map, hi]
    exact h8.symm
end

end Go.Proofs.Ytkjlafpafmihaaa

namespace Go.Proofs.Ytkjlafpafmihaaa
open Go.ChangeShapes Go.WideShapes Go.RowKit

/-- A load. -/
structure Ld where
  queue : Int
  node : Int
  work : Int
  deriving DecidableEq
instance : IntRec Ld where
  size := 3
  ints x := [x.queue, x.node, x.work]
  of l := ⟨l.getD 0 0, l.getD 1 0, l.getD 2 0⟩
  pos := by omega
  len _ := rfl
  inv xs h := by
    match xs, h with
    | [a, b, c], _ => rfl

theorem Rd.ld_at {w : World} {B n k : Nat} {A : Option Addr} {l : List Ld} (h : Rd w B 3 A n (recCells l)) (hk : k < n) : ∃ b off x, A = some ⟨b, off, none⟩ ∧ b < B ∧ l[k]? = some x ∧
    w.cell? ⟨b, off + k * 3, none⟩ = some (.int .i64 x.queue) ∧ w.cell? ⟨b, off + k * 3 + 1, none⟩ = some (.int .i64 x.node) ∧ w.cell? ⟨b, off + k * 3 + 2, none⟩ = some (.int .i64 x.work) := by
  obtain ⟨b, off, x, e, hb, hx, hc⟩ := Rd.rec_at (α := Ld) h hk
  exact ⟨b, off, x, e, hb, hx, hc 0 _ rfl, hc 1 _ rfl, hc 2 _ rfl⟩
theorem Rd.ld_len {w : World} {B n : Nat} {A : Option Addr} {l : List Ld} (h : Rd w B 3 A n (recCells l)) : l.length = n := Rd.rec_len (α := Ld) h

def ldOk (nodes prev : Int) (x : Ld) : Prop := prev < x.queue ∧ x.queue < 4 ∧ 0 ≤ x.node ∧ x.node < nodes ∧ 0 ≤ x.work ∧ x.work ≤ 1073741824
def prevQ (l : List Ld) : Nat → Int
  | 0 => -1
  | k + 1 => match l[k]? with
    | some x => x.queue
    | none => -1
theorem prevQ_succ {l : List Ld} {k : Nat} {x : Ld} (h : l[k]? = some x) : prevQ l (k + 1) = x.queue := by
  simp [prevQ, h]
def ldsOk (nodes : Int) (l : List Ld) : Prop := ∀ k x, l[k]? = some x → ldOk nodes (prevQ l k) x
open Classical in
/-- P9.1. -/
noncomputable def ldsFault (l : List Ld) (nodes : Int) : Int := if ¬ (1 ≤ nodes ∧ nodes ≤ 5) then 2 else if ldsOk nodes l then 0 else 6
theorem ldsFault_range {l : List Ld} {nodes : Int} (h : ¬ (1 ≤ nodes ∧ nodes ≤ 5)) : ldsFault l nodes = 2 := if_pos h
theorem ldsFault_bad {l : List Ld} {nodes : Int} (h : 1 ≤ nodes ∧ nodes ≤ 5) {k : Nat} {x : Ld} (hx : l[k]? = some x) (hb : ¬ ldOk nodes (prevQ l k) x) : ldsFault l nodes = 6 := by
  unfold ldsFault
  rw [if_neg (by omega), if_neg (fun ho => hb (ho k x hx))]
theorem ldsFault_ok {l : List Ld} {nodes : Int} (h : 1 ≤ nodes ∧ nodes ≤ 5) (ho : ldsOk nodes l) : ldsFault l nodes = 0 := by
  unfold ldsFault
  rw [if_neg (by omega), if_pos ho]
theorem ldsFault_zero {l : List Ld} {nodes : Int} (h : ldsFault l nodes = 0) : 1 ≤ nodes ∧ nodes ≤ 5 ∧ ldsOk nodes l := by
  unfold ldsFault at h
  split at h
  · cases h
  · rename_i h1
    split at h
    · rename_i h2
      exact ⟨by omega, by omega, h2⟩
    · cases h
theorem ldsOk_queue {nodes : Int} {l : List Ld} (h : ldsOk nodes l) : ∀ (k : Nat) (x : Ld), l[k]? = some x → (k : Int) ≤ x.queue := by
  intro k
  induction k with
  | zero =>
    intro x hx
    have := (h 0 x hx).1
    simp [prevQ] at this
    omega
  | succ k ih =>
    intro x hx
    have h1 := (h (k + 1) x hx).1
    have hk : k < l.length := by have := (List.getElem?_eq_some_iff.1 hx).1; omega
    have hy : l[k]? = some l[k] := List.getElem?_eq_getElem hk
    rw [prevQ_succ hy] at h1
    have := ih _ hy
    omega
theorem ldsOk_len {nodes : Int} {l : List Ld} (h : ldsOk nodes l) : l.length ≤ 4 := by
  rcases Nat.lt_or_ge 4 l.length with h1 | h1
  · have hy : l[4]? = some l[4] := List.getElem?_eq_getElem h1
    have h2 := ldsOk_queue h 4 _ hy
    have h3 := (h 4 _ hy).2.1
    omega
  · exact h1

/-- An int's answer, and nothing below the old heap's end turned. -/
def LdPost (w : World) (k : Int) (e : Ending) (w' : World) : Prop := e = .returned (.int .i64 k) ∧ Below w.heap.size w w'

set_option maxRecDepth 100000 in
set_option maxHeartbeats 2000000 in
theorem pcheck_calls (A : Option Addr) (n c : Nat) (l : List Ld) (nodes : Int) (w : World) (h : Rd w w.heap.size 3 A n (recCells l)) (hm : n ≤ maxLen) :
    Calls Try.prog 113 #[.slice A n c, .int .i64 nodes] w (LdPost w (ldsFault l nodes)) := by
  unfold maxLen at hm
  have H := Lib.hid h
  have hl := h.ld_len
  have HL := Lib.hid hl
  clear h hl
  by_cases h1 : nodes < 1
  · rw [ldsFault_range (by omega)]
    go_enter Try.func113, Try.ntmps113
    go_wp2_with fail
    go_ret
    exact ⟨rfl, by go_grown⟩
  · by_cases h5 : 5 < nodes
    · rw [ldsFault_range (by omega)]
      go_enter Try.func113, Try.ntmps113
      go_wp2_with fail
      go_ret
      exact ⟨rfl, by go_grown⟩
    · have HF : Hid (∀ k x, l[k]? = some x → ¬ ldOk nodes (prevQ l k) x → ldsFault l nodes = 6) := Lib.hid (fun k x hx hb => ldsFault_bad (by omega) hx hb)
      have H0 : Hid (ldsOk nodes l → ldsFault l nodes = 0) := Lib.hid (fun ho => ldsFault_ok (by omega) ho)
      generalize ldsFault l nodes = z at HF H0 ⊢
      go_enter Try.func113, Try.ntmps113
      go_wp2_with fail
      go_loopw [5, 16] (fun p i wr => ∃ k : Nat, k ≤ n ∧ i = .int .i64 k ∧ p = .int .i64 (prevQ l k) ∧ (∀ j x, j < k → l[j]? = some x → ldOk nodes (prevQ l j) x) ∧ Below w.heap.size w wr) (fun _ i _ => n - (intOf i).toNat)
      case atStart => exact ⟨0, Nat.zero_le _, rfl, rfl, fun j _ hj => absurd hj (by omega), Below.refl _ _⟩
      case round =>
        obtain ⟨k, hk, rfl, rfl, hall, hb⟩ := hrel
        have HB := Lib.hid hb
        have HA := Lib.hid hall
        by_cases hlt : k < n
        · obtain ⟨b, off, x, rfl, hbb, hx, c0, c1, c2⟩ := (H.out.below hb (Nat.le_refl _)).ld_at hlt
          have HX := Lib.hid hx
          have HFk := Lib.hid (HF.out k x hx)
          have HP := Lib.hid (prevQ_succ hx)
          have HQ : Hid (ldOk nodes (prevQ l k) x → ∀ j x, j < k + 1 → l[j]? = some x → ldOk nodes (prevQ l j) x) := Lib.hid (fun ho j y hj hy => by
            by_cases e : j = k
            · subst e
              have := HX.out
              rw [hy] at this
              simp at this
              subst this
              exact ho
            · exact HA.out j y (by omega) hy)
          have hsz : w.heap.size ≤ wr.heap.size := hb.size
          clear hall hb hx
          generalize prevQ l k = p at HFk HQ ⊢
          by_cases b1 : x.queue ≤ p
          · have e := HFk.out (by unfold ldOk; omega)
            subst e
            go_wp2_with fail
            go_ret
            have hB := HB.out
            exact ⟨rfl, by go_grown⟩
          by_cases b2 : 4 ≤ x.queue
          · have e := HFk.out (by unfold ldOk; omega)
            subst e
            go_wp2_with fail
            go_ret
            have hB := HB.out
            exact ⟨rfl, by go_grown⟩
          by_cases b3 : x.node < 0
          · have e := HFk.out (by unfold ldOk; omega)
            subst e
            go_wp2_with fail
            go_ret
            have hB := HB.out
            exact ⟨rfl, by go_grown⟩
          by_cases b4 : nodes ≤ x.node
          · have e := HFk.out (by unfold ldOk; omega)
            subst e
            go_wp2_with fail
            go_ret
            have hB := HB.out
            exact ⟨rfl, by go_grown⟩
          by_cases b5 : x.work < 0
          · have e := HFk.out (by unfold ldOk; omega)
            subst e
            go_wp2_with fail
            go_ret
            have hB := HB.out
            exact ⟨rfl, by go_grown⟩
          by_cases b6 : 1073741824 < x.work
          · have e := HFk.out (by unfold ldOk; omega)
            subst e
            go_wp2_with fail
            go_ret
            have hB := HB.out
            exact ⟨rfl, by go_grown⟩
          have HG := Lib.hid (HQ.out (by unfold ldOk; omega))
          go_wp2_with fail
          go_roundw
          case rel =>
            have hB := HB.out
            exact ⟨k + 1, by omega, by go_num, by rw [HP.out], HG.out, by go_grown⟩
          case measure => simp [intOf]; omega
        · obtain rfl : k = n := by omega
          have e := H0.out (fun j x hx => HA.out j x (by have := (List.getElem?_eq_some_iff.1 hx).1; have := HL.out; omega) hx)
          subst e
          clear hall hb
          go_wp2_with fail
          go_ret
          exact ⟨rfl, HB.out⟩
end Go.Proofs.Ytkjlafpafmihaaa

namespace Go.Proofs.Ytkjlafpafmihaaa
open Go.ChangeShapes Go.WideShapes Go.RowKit

theorem In_quiet (n lo hi : Int) (w : World) (q : Nat) : Calls Try.prog 107 #[.int .i64 n, .int .i64 lo, .int .i64 hi] (w.drewN q) fun e w' => e = .returned (.bool (inR n lo hi)) ∧ ∃ m, w' = w.drewN m :=
  (In_calls n lo hi _).mono fun _ _ ⟨he, hw⟩ => ⟨he, q, hw.symm⟩

theorem prevQ_ge {nodes : Int} {l : List Ld} : ∀ k, k ≤ l.length → (∀ j x, j < k → l[j]? = some x → ldOk nodes (prevQ l j) x) → -1 ≤ prevQ l k
  | 0, _, _ => by simp [prevQ]
  | k + 1, hk, h => by
    have hy : l[k]? = some l[k] := List.getElem?_eq_getElem (by omega)
    have h1 := (h k _ (by omega) hy).1
    have h2 := prevQ_ge k (by omega) (fun j x hj hx => h j x (by omega) hx)
    rw [prevQ_succ hy]
    omega

set_option maxRecDepth 100000 in
set_option maxHeartbeats 4000000 in
theorem LoadsFault_calls (A : Option Addr) (n c : Nat) (l : List Ld) (nodes : Int) (w : World) (h : Rd w w.heap.size 3 A n (recCells l)) (hm : n ≤ maxLen) :
    Calls Try.prog 116 #[.slice A n c, .int .i64 nodes] w (LdPost w (ldsFault l nodes)) := by
  unfold maxLen at hm
  have H := Lib.hid h
  have hl := h.ld_len
  have HL := Lib.hid hl
  clear h hl
  cases hin : inR nodes 1 5
  · rw [ldsFault_range (by have := inR_false.1 hin; omega)]
    go_enter Try.func116, Try.ntmps116
    go_wp2_with fail
    refine (In_calls _ _ _ _).mono ?_
    rintro e w2 ⟨rfl, rfl⟩
    rw [hin]
    go_wp2_with fail
    go_ret
    exact ⟨rfl, by go_grown⟩
  · obtain ⟨hn1, hn5⟩ := inR_true.1 hin
    have HF : Hid (∀ k x, l[k]? = some x → ¬ ldOk nodes (prevQ l k) x → ldsFault l nodes = 6) := Lib.hid (fun k x hx hb => ldsFault_bad (by omega) hx hb)
    have H0 : Hid (ldsOk nodes l → ldsFault l nodes = 0) := Lib.hid (fun ho => ldsFault_ok (by omega) ho)
    generalize ldsFault l nodes = z at HF H0 ⊢
    go_enter Try.func116, Try.ntmps116
    go_wp2_with fail
    refine (In_calls _ _ _ _).mono ?_
    rintro e w2 ⟨rfl, rfl⟩
    rw [hin]
    clear hin
    have ew : IntKind.i64.wrap (nodes - 1) = nodes - 1 := IntWalk.i64_in _ (by omega)
    go_wp2_with fail
    go_loopw [5] (fun i wr => ∃ k : Nat, k ≤ n ∧ i = .int .i64 k ∧ (∀ j x, j < k → l[j]? = some x → ldOk nodes (prevQ l j) x) ∧ Below w.heap.size w wr) (fun i _ => n - (intOf i).toNat)
    case atStart => exact ⟨0, Nat.zero_le _, rfl, fun j _ hj => absurd hj (by omega), Below.refl _ _⟩
    case round =>
      obtain ⟨k, hk, rfl, hall, hb⟩ := hrel
      have HB := Lib.hid hb
      have HA := Lib.hid hall
      by_cases hlt : k < n
      · have H1 := Lib.hid (H.out.below hb (Nat.le_refl _))
        obtain ⟨b, off, x, rfl, hbb, hx, c0, c1, c2⟩ := H1.out.ld_at hlt
        have HX := Lib.hid hx
        have HFk := Lib.hid (HF.out k x hx)
        have hpg := prevQ_ge (nodes := nodes) (l := l) k (by have := HL.out; omega) hall
        have HQ : Hid (ldOk nodes (prevQ l k) x → ∀ j x, j < k + 1 → l[j]? = some x → ldOk nodes (prevQ l j) x) := Lib.hid (fun ho j y hj hy => by
          by_cases e : j = k
          · subst e
            have := HX.out
            rw [hy] at this
            simp at this
            subst this
            exact ho
          · exact HA.out j y (by omega) hy)
        clear hall hb hx
        cases i1 : inR x.queue 0 3
        · have := inR_false.1 i1
          have e := HFk.out (by unfold ldOk; omega)
          subst e
          go_wp2_with fail
          go_quiet ((go_at_call 107; exact In_quiet _ _ _ _ _))
          go_wp2_with fail
          go_ret
          exact ⟨rfl, bdrewN HB.out _⟩
        have j1 := inR_true.1 i1
        cases i2 : inR x.node 0 (nodes - 1)
        · have := inR_false.1 i2
          have e := HFk.out (by unfold ldOk; omega)
          subst e
          go_wp2_with fail
          go_quiet ((go_at_call 107; exact In_quiet _ _ _ _ _))
          go_wp2_with fail
          go_ret
          exact ⟨rfl, bdrewN HB.out _⟩
        have j2 := inR_true.1 i2
        cases i3 : inR x.work 0 1073741824
        · have := inR_false.1 i3
          have e := HFk.out (by unfold ldOk; omega)
          subst e
          go_wp2_with fail
          go_quiet ((go_at_call 107; exact In_quiet _ _ _ _ _))
          go_wp2_with fail
          go_ret
          exact ⟨rfl, bdrewN HB.out _⟩
        have j3 := inR_true.1 i3
        by_cases hk0 : k = 0
        · have HG := Lib.hid (HQ.out (by rw [hk0, show prevQ l 0 = -1 from rfl]; unfold ldOk; omega))
          have hd1 : decide ((0 : Int) < (k : Int)) = false := by simp; omega
          have hd2 : decide (0 < k) = false := by simp; omega
          clear hk0
          go_wp2_with fail
          go_quiet ((go_at_call 107; exact In_quiet _ _ _ _ _))
          go_wp2_with fail
          go_roundw
          case rel => exact ⟨k + 1, by omega, by go_num, HG.out, bdrewN HB.out _⟩
          case measure => simp [intOf]; omega
        · obtain ⟨b', off', y, hA', hbb', hy, d0, d1, d2⟩ := H1.out.ld_at (show k - 1 < n by omega)
          simp only [Option.some.injEq, Addr.mk.injEq, and_true] at hA'
          obtain ⟨rfl, rfl⟩ := hA'
          have hkk : prevQ l k = y.queue := by
            rw [show k = (k - 1) + 1 by omega, prevQ_succ hy]
          rw [hkk] at HFk HQ hpg
          clear hy d1 d2 hkk
          have hp : 0 < k := by omega
          have e1 : IntKind.i64.wrap ((k : Int) - 1) = (k : Int) - 1 := IntWalk.i64_in _ (by omega)
          have e2 : ((k : Int) - 1).toNat = k - 1 := by omega
          have e3 : 0 ≤ (k : Int) - 1 := by omega
          have e4 : (k : Int) - 1 < (n : Int) := by omega
          clear hk0
          by_cases hq : x.queue ≤ y.queue
          · have e := HFk.out (by unfold ldOk; omega)
            subst e
            go_wp2_with fail
            go_quiet ((go_at_call 107; exact In_quiet _ _ _ _ _))
            go_wp2_with fail
            go_ret
            exact ⟨rfl, bdrewN HB.out _⟩
          · have HG := Lib.hid (HQ.out (by clear e2; unfold ldOk; omega))
            go_wp2_with fail
            go_quiet ((go_at_call 107; exact In_quiet _ _ _ _ _))
            go_wp2_with fail
            go_roundw
            case rel => exact ⟨k + 1, by omega, by go_num, HG.out, bdrewN HB.out _⟩
            case measure => simp [intOf]; omega
      · obtain rfl : k = n := by omega
        have e := H0.out (fun j x hx => HA.out j x (by have := (List.getElem?_eq_some_iff.1 hx).1; have := HL.out; omega) hx)
        subst e
        clear hall hb
        go_wp2_with fail
        go_ret
        exact ⟨rfl, HB.out⟩

/-- The work at a node. -/
def workAt (l : List Ld) (n : Int) : Int := (l.map fun x => if x.node = n then x.work else 0).sum
theorem workAt_take {l : List Ld} {k : Nat} {x : Ld} (h : l[k]? = some x) (n : Int) : workAt (l.take (k + 1)) n = workAt (l.take k) n + if x.node = n then x.work else 0 := by
  unfold workAt
  rw [List.take_add_one, h]
  simp
theorem workAt_bounds {l : List Ld} (hw : ∀ x ∈ l, 0 ≤ x.work ∧ x.work ≤ 1073741824) (n : Int) : ∀ k, k ≤ l.length → 0 ≤ workAt (l.take k) n ∧ workAt (l.take k) n ≤ k * 1073741824 := by
  intro k
  induction k with
  | zero => intro _; simp [workAt]
  | succ k ih =>
    intro hk
    have hy : l[k]? = some l[k] := List.getElem?_eq_getElem (by omega)
    have h1 := hw _ (List.mem_of_getElem? hy)
    have h2 := ih (by omega)
    rw [workAt_take hy]
    split <;> omega

set_option maxRecDepth 100000 in
set_option maxHeartbeats 2000000 in
theorem workAt_calls (A : Option Addr) (n c : Nat) (l : List Ld) (node : Int) (w : World) {B : Nat} (h : Rd w B 3 A n (recCells l)) (hn : n ≤ 4) (hw : ∀ x ∈ l, 0 ≤ x.work ∧ x.work ≤ 1073741824) :
    Calls Try.prog 118 #[.slice A n c, .int .i64 node] w fun e w' => e = .returned (.int .i64 (workAt l node)) ∧ w = w' := by
  have H := Lib.hid h
  have hl := h.ld_len
  have HL := Lib.hid hl
  have HW := Lib.hid (workAt_bounds hw node)
  have HT := Lib.hid (fun (k : Nat) (x : Ld) (hx : l[k]? = some x) => workAt_take hx node)
  have HM := Lib.hid (fun (k : Nat) (x : Ld) (hx : l[k]? = some x) => hw x (List.mem_of_getElem? hx))
  clear h hl hw
  go_enter Try.func118, Try.ntmps118
  go_wp2_with fail
  go_loop [5, 6] (fun s i => ∃ k : Nat, k ≤ n ∧ i = .int .i64 k ∧ s = .int .i64 (workAt (l.take k) node)) (fun _ i => n - (intOf i).toNat)
  case atStart => exact ⟨0, Nat.zero_le _, rfl, rfl⟩
  case round =>
    obtain ⟨k, hk, rfl, rfl⟩ := hrel
    have hb := HW.out k (by have := HL.out; omega)
    by_cases hlt : k < n
    · obtain ⟨b, off, x, rfl, hbb, hx, c0, c1, c2⟩ := H.out.ld_at hlt
      have hm := HM.out k x hx
      have HK := Lib.hid (HT.out k x hx)
      clear hx
      generalize workAt (l.take k) node = s at HK hb ⊢
      by_cases he : x.node = node
      · rw [if_pos he] at HK
        have he' : (x.node == node) = true := by simpa using he
        have HE := Lib.hid he
        clear he
        go_wp2_with fail
        go_round
        case rel => exact ⟨k + 1, by omega, by go_num, by rw [HK.out]⟩
        case measure => simp [intOf]; omega
      · rw [if_neg he] at HK
        have he' : (x.node == node) = false := by simpa using he
        go_wp2_with fail
        go_round
        case rel => exact ⟨k + 1, by omega, by go_num, by rw [HK.out]; simp⟩
        case measure => simp [intOf]; omega
    · obtain rfl : k = n := by omega
      rw [List.take_of_length_le (by have := HL.out; omega)]
      go_wp2_with fail
      go_ret
      exact ⟨rfl, rfl⟩

/-- The index of the first greatest of so many. -/
def mostTo (f : Nat → Int) : Nat → Nat
  | 0 => 0
  | k + 1 => if f (mostTo f k) < f k then k else mostTo f k
def leastTo (f : Nat → Int) : Nat → Nat
  | 0 => 0
  | k + 1 => if f k < f (leastTo f k) then k else leastTo f k
theorem mostTo_lt (f : Nat → Int) : ∀ k, 0 < k → mostTo f k < k
  | 1, _ => by simp [mostTo]
  | k + 2, _ => by
    have := mostTo_lt f (k + 1) (by omega)
    rw [mostTo]
    split <;> omega
theorem leastTo_lt (f : Nat → Int) : ∀ k, 0 < k → leastTo f k < k
  | 1, _ => by simp [leastTo]
  | k + 2, _ => by
    have := leastTo_lt f (k + 1) (by omega)
    rw [leastTo]
    split <;> omega
theorem mostTo_spec (f : Nat → Int) : ∀ k, (∀ j, j < k → f j ≤ f (mostTo f k)) ∧ (∀ j, j < mostTo f k → f j < f (mostTo f k))
  | 0 => ⟨fun j h => absurd h (by omega), fun j h => by simp [mostTo] at h⟩
  | k + 1 => by
    have ⟨h1, h2⟩ := mostTo_spec f k
    have h3 : 0 < k → mostTo f k < k := mostTo_lt f k
    rw [mostTo]
    split
    · rename_i hlt
      refine ⟨fun j hj => ?_, fun j hj => ?_⟩
      · by_cases e : j = k
        · rw [e]; exact Int.le_refl _
        · have := h1 j (by omega); omega
      · have := h1 j hj; omega
    · rename_i hlt
      refine ⟨fun j hj => ?_, h2⟩
      by_cases e : j = k
      · subst e; omega
      · exact h1 j (by omega)
theorem leastTo_neg (f : Nat → Int) : ∀ k, leastTo f k = mostTo (fun j => - f j) k
  | 0 => rfl
  | k + 1 => by
    rw [leastTo, mostTo, leastTo_neg f k]
    by_cases h : f k < f (mostTo (fun j => - f j) k)
    · rw [if_pos h, if_pos (by omega)]
    · rw [if_neg h, if_neg (by omega)]
theorem mostTo_unique (f : Nat → Int) (n m : Nat) (hm : m < n) (h1 : ∀ j, j < n → f j ≤ f m) (h2 : ∀ j, j < m → f j < f m) : m = mostTo f n := by
  have ⟨k1, k2⟩ := mostTo_spec f n
  have k3 := mostTo_lt f n (by omega)
  rcases Nat.lt_trichotomy m (mostTo f n) with h | h | h
  · have := k2 m h; have := h1 _ k3; omega
  · exact h
  · have := h2 _ h; have := k1 m hm; omega
/-- From the highest down. -/
def DownM (f : Nat → Int) (n i m : Nat) : Prop := m < n ∧ (i = n → m = n - 1) ∧ (∀ j, i ≤ j → j < n → f j ≤ f m) ∧ (i < n → i ≤ m) ∧ (∀ j, i ≤ j → j < m → f j < f m)
theorem DownM.step {f : Nat → Int} {n i m : Nat} (h : DownM f n (i + 1) m) (hi : i < n) : DownM f n i (if f m ≤ f i then i else m) := by
  obtain ⟨h1, h2, h3, h4, h5⟩ := h
  split
  · rename_i hle
    refine ⟨hi, fun e => by omega, fun j hj hn => ?_, fun _ => Nat.le_refl _, fun j hj hn => by omega⟩
    by_cases e : j = i
    · rw [e]; exact Int.le_refl _
    · have := h3 j (by omega) hn; omega
  · rename_i hle
    have hin : i + 1 ≠ n := fun e => hle (by have := h2 e; rw [this, show n - 1 = i by omega]; exact Int.le_refl _)
    refine ⟨h1, fun e => by omega, fun j hj hn => ?_, fun _ => by have := h4 (by omega); omega, fun j hj hn => ?_⟩
    · by_cases e : j = i
      · subst e; omega
      · exact h3 j (by omega) hn
    · by_cases e : j = i
      · subst e; omega
      · exact h5 j (by omega) hn
theorem DownM.done {f : Nat → Int} {n m : Nat} (h : DownM f n 0 m) : m = mostTo f n :=
  mostTo_unique f n m h.1 (fun j hj => h.2.2.1 j (by omega) hj) (fun j hj => h.2.2.2.2 j (by omega) hj)
end Go.Proofs.Ytkjlafpafmihaaa

namespace Go.Proofs.Ytkjlafpafmihaaa
open Go.ChangeShapes Go.WideShapes Go.RowKit

def hsRow (f : Nat → Int) (m : Nat) : Array Value := ((List.range m).map fun j => Value.int .i64 (f j)).toArray
theorem hsRow_get (f : Nat → Int) {m j : Nat} (h : j < m) : (hsRow f m)[j]? = some (.int .i64 (f j)) := by
  simp [hsRow, h]
theorem hsRow_set (f g : Nat → Int) {m j : Nat} (h : ∀ i, i < m → g i = if i = j then g j else f i) : (hsRow f m).setIfInBounds j (.int .i64 (g j)) = hsRow g m := by
  apply Array.ext_getElem?
  intro i
  rw [Array.getElem?_setIfInBounds]
  by_cases hi : i < m
  · have hgi := h i hi
    by_cases e : j = i
    · subst e
      simp [hsRow, hi]
    · rw [if_neg e, hsRow_get f hi, hsRow_get g hi, hgi, if_neg (fun e' => e e'.symm)]
  · by_cases e : j = i
    · subst e
      simp [hsRow, hi]
    · rw [if_neg e]
      simp [hsRow, hi]
theorem hsRow_made (m : Nat) : madeCells (Value.int .i64 0).cells (m * 1) = hsRow (fun _ => 0) m := by
  apply Array.ext_getElem?
  intro i
  by_cases hi : i < m
  · simp [madeCells, hsRow, hi, Value.cells, Nat.mod_one]
  · simp [madeCells, hsRow, hi]

set_option maxRecDepth 100000 in
set_option maxHeartbeats 2000000 in
theorem ends_calls (b m c : Nat) (f : Nat → Int) (w : World) (h : ∀ j, j < m → w.cell? ⟨b, j, none⟩ = some (.int .i64 (f j))) (hm0 : 0 < m) (hm5 : m ≤ 5) :
    Calls Try.prog 115 #[.slice (some ⟨b, 0, none⟩) m c] w fun e w' => e = .returned (.tuple #[.int .i64 (mostTo f m : Nat), .int .i64 (leastTo f m : Nat)]) ∧ w = w' := by
  have H := Lib.hid h
  have HM : Hid (∀ k, mostTo f (k + 1) = if f (mostTo f k) < f k then k else mostTo f k) := Lib.hid (fun _ => rfl)
  have HL : Hid (∀ k, leastTo f (k + 1) = if f k < f (leastTo f k) then k else leastTo f k) := Lib.hid (fun _ => rfl)
  have HM0 : Hid (∀ k, k < m → mostTo f k < m) := Lib.hid (fun k hk => by
    rcases Nat.eq_zero_or_pos k with h | h
    · subst h; simpa [mostTo] using hm0
    · have := mostTo_lt f k h; omega)
  have HL0 : Hid (∀ k, k < m → leastTo f k < m) := Lib.hid (fun k hk => by
    rcases Nat.eq_zero_or_pos k with h | h
    · subst h; simpa [leastTo] using hm0
    · have := leastTo_lt f k h; omega)
  clear h
  go_enter Try.func115, Try.ntmps115
  go_wp2_with fail
  go_loop [2, 3, 8] (fun p q i => ∃ k : Nat, k ≤ m ∧ i = .int .i64 k ∧ p = .int .i64 (mostTo f k : Nat) ∧ q = .int .i64 (leastTo f k : Nat)) (fun _ _ i => m - (intOf i).toNat)
  case atStart => exact ⟨0, Nat.zero_le _, rfl, rfl, rfl⟩
  case round =>
    obtain ⟨k, hk, rfl, rfl, rfl⟩ := hrel
    by_cases hlt : k < m
    · have HMk := Lib.hid (HM.out k)
      have HLk := Lib.hid (HL.out k)
      have m1 := HM0.out k hlt
      have m2 := HL0.out k hlt
      generalize mostTo f k = p at HMk m1 ⊢
      generalize leastTo f k = q at HLk m2 ⊢
      have c0 := H.out k hlt
      have c1 := H.out p m1
      have c2 := H.out q m2
      by_cases t1 : f p < f k
      · rw [if_pos t1] at HMk
        by_cases t2 : f k < f q
        · rw [if_pos t2] at HLk
          go_wp2_with fail
          go_round
          case rel => exact ⟨k + 1, by omega, by go_num, by rw [HMk.out], by rw [HLk.out]⟩
          case measure => simp [intOf]; omega
        · rw [if_neg t2] at HLk
          go_wp2_with fail
          go_round
          case rel => exact ⟨k + 1, by omega, by go_num, by rw [HMk.out], by rw [HLk.out]⟩
          case measure => simp [intOf]; omega
      · rw [if_neg t1] at HMk
        by_cases t2 : f k < f q
        · rw [if_pos t2] at HLk
          go_wp2_with fail
          go_round
          case rel => exact ⟨k + 1, by omega, by go_num, by rw [HMk.out], by rw [HLk.out]⟩
          case measure => simp [intOf]; omega
        · rw [if_neg t2] at HLk
          go_wp2_with fail
          go_round
          case rel => exact ⟨k + 1, by omega, by go_num, by rw [HMk.out], by rw [HLk.out]⟩
          case measure => simp [intOf]; omega
    · obtain rfl : k = m := by omega
      go_wp2_with fail
      go_ret2
      exact ⟨rfl, rfl⟩

/-- The works, a row of its own. -/
def SumsPost (w : World) (f : Nat → Int) (m : Nat) (e : Ending) (w' : World) : Prop :=
  ∃ b, e = .returned (.slice (some ⟨b, 0, none⟩) m m) ∧ Below w.heap.size w w' ∧ w.heap.size ≤ b ∧ Blk w' b (hsRow f m) 3

set_option maxRecDepth 100000 in
set_option maxHeartbeats 4000000 in
theorem sums_calls (A : Option Addr) (n c m : Nat) (l : List Ld) (w : World) (h : Rd w w.heap.size 3 A n (recCells l)) (hn : n ≤ 4) (hm0 : 0 < m) (hm5 : m ≤ 5) (hw : ∀ x ∈ l, 0 ≤ x.work ∧ x.work ≤ 1073741824 ∧ 0 ≤ x.node ∧ x.node < m) :
    Calls Try.prog 114 #[.slice A n c, .int .i64 m] w (SumsPost w (fun j => workAt l j) m) := by
  obtain ⟨i0, hi0, hz0, hz1, hz2⟩ := info_parts (P := Try.prog) (e := 3) (z := .int .i64 0) (size := 1) (bytes := 8) (by kernel_rfl)
  have hmk : ∀ w : World, (Instr.makeSlice 157 (.int .i64 (m : Int)) (.int .i64 (m : Int))).run Try.prog w = .ok (.slice (some ⟨w.heap.size, 0, none⟩) m m) (w.alloc (.cells (hsRow (fun _ => 0) m) 3)) := by
    intro w
    have := run_makeSlice (P := Try.prog) w 157 3 i0 _ Try.underlying157 hi0 hz0 .i64 .i64 (m : Int) (m : Int) (by omega) (by omega) (by rw [hz1]; omega) (by rw [hz2]; omega) (by omega)
    rw [this, hz1, Int.toNat_natCast, hsRow_made]
  clear hi0 hz0 hz1 hz2
  have H := Lib.hid h
  have hl := h.ld_len
  have HL := Lib.hid hl
  have HW := Lib.hid (fun (j : Int) => workAt_bounds (l := l) (fun x hx => ⟨(hw x hx).1, (hw x hx).2.1⟩) j)
  have HT := Lib.hid (fun (k : Nat) (x : Ld) (hx : l[k]? = some x) (j : Int) => workAt_take hx j)
  have HM := Lib.hid (fun (k : Nat) (x : Ld) (hx : l[k]? = some x) => hw x (List.mem_of_getElem? hx))
  clear h hl hw
  go_enter Try.func114, Try.ntmps114
  go_wp2_with fail
  clear hmk
  go_loopw [12] (fun i wr => ∃ k : Nat, k ≤ n ∧ i = .int .i64 k ∧ Blk wr w.heap.size (hsRow (fun j => workAt (l.take k) j) m) 3 ∧ Below w.heap.size w wr) (fun i _ => n - (intOf i).toNat)
  case atStart => exact ⟨0, Nat.zero_le _, rfl, Blk.new _ _ _, by go_grown⟩
  case round =>
    obtain ⟨k, hk, rfl, hblk, hb⟩ := hrel
    have HB := Lib.hid hb
    have HK := Lib.hid hblk
    by_cases hlt : k < n
    · obtain ⟨b, off, x, rfl, hbb, hx, c0, c1, c2⟩ := (H.out.below hb (Nat.le_refl _)).ld_at hlt
      obtain ⟨x1, x2, x3, x4⟩ := HM.out k x hx
      obtain ⟨j, hj⟩ := Int.eq_ofNat_of_zero_le x3
      have HTk := Lib.hid (HT.out k x hx)
      have hwb := HW.out j k (by have := HL.out; omega)
      rw [hj] at c1 x4
      have hjm : j < m := by omega
      have d0 := hblk.cell (hsRow_get (fun j => workAt (l.take k) j) hjm)
      have df := hblk.free j
      have hz : w.heap.size < wr.heap.size := hblk.lt
      have HS : Hid ((hsRow (fun j => workAt (l.take k) j) m).setIfInBounds j (.int .i64 (workAt (l.take k) j + x.work)) = hsRow (fun j => workAt (l.take (k + 1)) j) m) := by
        have e := hsRow_set (fun j => workAt (l.take k) j) (fun j => workAt (l.take (k + 1)) j) (m := m) (j := j) (fun i hi => by
          simp only [HTk.out]
          by_cases e : i = j
          · rw [if_pos e, e]
          · rw [if_neg e, if_neg (by omega)]; simp)
        rw [show workAt (l.take (k + 1)) (j : Int) = workAt (l.take k) j + x.work by rw [HTk.out, if_pos hj]] at e
        exact e
      have HJ := Lib.hid hj
      clear hblk hb hx hj x3
      generalize workAt (l.take k) (j : Int) = s at hwb d0 HS
      go_wp2_with fail
      go_region
      go_wp2_with fail
      go_roundw
      case rel => exact ⟨k + 1, by omega, by go_num, by exact (((HK.out.set_ j _).cast HS.out).alloc _).drew, by have hB := HB.out; go_grown⟩
      case measure => simp [intOf]; omega
    · obtain rfl : k = n := by omega
      rw [List.take_of_length_le (by have := HL.out; omega)] at HK
      clear hblk hb
      go_wp2_with fail
      go_ret
      exact ⟨_, rfl, HB.out, Nat.le_refl _, HK.out⟩

set_option maxRecDepth 100000 in
set_option maxHeartbeats 4000000 in
theorem busiest_calls (A : Option Addr) (n c m : Nat) (l : List Ld) (w : World) {B : Nat} (h : Rd w B 3 A n (recCells l)) (hn : n ≤ 4) (hm0 : 0 < m) (hm5 : m ≤ 5) (hw : ∀ x ∈ l, 0 ≤ x.work ∧ x.work ≤ 1073741824) :
    Calls Try.prog 117 #[.slice A n c, .int .i64 m] w fun e w' => e = .returned (.tuple #[.int .i64 (mostTo (fun j => workAt l j) m : Nat), .int .i64 (leastTo (fun j => workAt l j) m : Nat)]) ∧ w = w' := by
  have HA := Lib.hid (fun node : Int => workAt_calls A n c l node w h hn hw)
  clear h hn hw
  generalize hf : (fun j : Nat => workAt l j) = f
  have HLN := Lib.hid (leastTo_neg f m)
  have HF : Hid (∀ j : Nat, workAt l j = f j) := Lib.hid (fun j => congrFun hf j)
  clear hf
  have HA2 : Hid (∀ j : Nat, Calls Try.prog 118 #[.slice A n c, .int .i64 (j : Int)] w fun e w' => e = .returned (.int .i64 (f j)) ∧ w = w') := Lib.hid (fun j => by rw [← HF.out j]; exact HA.out j)
  clear HA
  have e1 : IntKind.i64.wrap ((m : Int) - 1) = (m : Int) - 1 := IntWalk.i64_in _ (by omega)
  go_enter Try.func117, Try.ntmps117
  go_wp2_with fail
  go_loop [6, 7, 8] (fun p q i => ∃ k a b : Nat, k ≤ m ∧ i = .int .i64 ((k : Int) - 1) ∧ p = .int .i64 (a : Nat) ∧ q = .int .i64 (b : Nat) ∧ DownM f m k a ∧ DownM (fun j => - f j) m k b) (fun _ _ i => (intOf i + 1).toNat)
  case atStart => exact ⟨m, m - 1, m - 1, Nat.le_refl _, rfl, by go_num, by go_num, ⟨by omega, fun _ => rfl, fun j _ _ => by omega, fun _ => by omega, fun j _ _ => by omega⟩, ⟨by omega, fun _ => rfl, fun j _ _ => by omega, fun _ => by omega, fun j _ _ => by omega⟩⟩
  case round =>
    obtain ⟨k, a, b, hk, rfl, rfl, rfl, hd1, hd2⟩ := hrel
    have HD1 := Lib.hid hd1
    have HD2 := Lib.hid hd2
    clear hd1 hd2
    by_cases hk0 : k = 0
    · subst hk0
      rw [show (((0 : Nat) : Int) - 1) = -1 from rfl]
      have ha := Lib.hid HD1.out.done
      have hb := Lib.hid (HD2.out.done.trans HLN.out.symm)
      go_wp2_with fail
      go_ret2
      exact ⟨by rw [← ha.out, ← hb.out]; rfl, rfl⟩
    · obtain ⟨i, rfl⟩ : ∃ i, k = i + 1 := ⟨k - 1, by omega⟩
      have ei : ((i + 1 : Nat) : Int) - 1 = (i : Int) := by omega
      rw [ei]
      clear ei hk0
      have him : i < m := by omega
      have HE1 := Lib.hid (HD1.out.step him)
      have HE2 := Lib.hid (HD2.out.step him)
      clear HD1 HD2
      have e2 : IntKind.i64.wrap ((i : Int) - 1) = (i : Int) - 1 := IntWalk.i64_in _ (by omega)
      have CALL := Lib.hid HA2.out
      go_wp2_with fail
      refine (HA2.out i).mono ?_
      rintro e w2 ⟨rfl, rfl⟩
      go_wp2_with fail
      refine (HA2.out a).mono ?_
      rintro e w2 ⟨rfl, rfl⟩
      by_cases t1 : f a ≤ f i
      · rw [if_pos t1] at HE1
        go_wp2_with fail
        refine (HA2.out b).mono ?_
        rintro e w2 ⟨rfl, rfl⟩
        by_cases t2 : f i ≤ f b
        · rw [if_pos (by omega)] at HE2
          go_wp2_with fail
          go_round
          case rel => exact ⟨i, i, i, by omega, rfl, rfl, rfl, HE1.out, HE2.out⟩
          case measure => (simp [intOf] <;> omega)
        · rw [if_neg (by omega)] at HE2
          go_wp2_with fail
          go_round
          case rel => exact ⟨i, i, b, by omega, rfl, rfl, rfl, HE1.out, HE2.out⟩
          case measure => (simp [intOf] <;> omega)
      · rw [if_neg t1] at HE1
        go_wp2_with fail
        refine (HA2.out b).mono ?_
        rintro e w2 ⟨rfl, rfl⟩
        by_cases t2 : f i ≤ f b
        · rw [if_pos (by omega)] at HE2
          go_wp2_with fail
          go_round
          case rel => exact ⟨i, a, i, by omega, rfl, rfl, rfl, HE1.out, HE2.out⟩
          case measure => (simp [intOf] <;> omega)
        · rw [if_neg (by omega)] at HE2
          go_wp2_with fail
          go_round
          case rel => exact ⟨i, a, b, by omega, rfl, rfl, rfl, HE1.out, HE2.out⟩
          case measure => (simp [intOf] <;> omega)
end Go.Proofs.Ytkjlafpafmihaaa

namespace Go.Proofs.Ytkjlafpafmihaaa

/-- The lowest index below k with the most of f among those that C wants. -/
def bestTo (C : Nat → Bool) (f : Nat → Int) : Nat → Option Nat
  | 0 => none
  | k + 1 => if C k = true then match bestTo C f k with
      | none => some k
      | some b => if f b < f k then some k else some b
    else bestTo C f k
def bestInt : Option Nat → Int
  | none => -1
  | some b => b
def BestP (C : Nat → Bool) (f : Nat → Int) (i n : Nat) : Option Nat → Prop
  | none => ∀ j, i ≤ j → j < n → C j = false
  | some b => i ≤ b ∧ b < n ∧ C b = true ∧ (∀ j, i ≤ j → j < n → C j = true → f j ≤ f b) ∧ (∀ j, i ≤ j → j < b → C j = true → f j < f b)
theorem bestTo_spec (C : Nat → Bool) (f : Nat → Int) : ∀ k, BestP C f 0 k (bestTo C f k)
  | 0 => fun j _ h => absurd h (Nat.not_lt_zero _)
  | k + 1 => by
    have ih := bestTo_spec C f k
    rw [bestTo]
    by_cases hc : C k = true
    · rw [if_pos hc]
      cases hb : bestTo C f k with
      | none =>
        rw [hb] at ih
        refine ⟨Nat.zero_le _, Nat.lt_succ_self _, hc, fun j h1 h2 h3 => ?_, fun j h1 h2 h3 => ?_⟩
        · rcases Nat.lt_succ_iff_lt_or_eq.1 h2 with h | h
          · rw [ih j h1 h] at h3; cases h3
          · rw [h]; exact Int.le_refl _
        · rw [ih j h1 h2] at h3; cases h3
      | some b =>
        rw [hb] at ih
        obtain ⟨i1, i2, i3, i4, i5⟩ := ih
        by_cases hf : f b < f k
        · simp only [if_pos hf]
          refine ⟨Nat.zero_le _, Nat.lt_succ_self _, hc, fun j h1 h2 h3 => ?_, fun j h1 h2 h3 => ?_⟩
          · rcases Nat.lt_succ_iff_lt_or_eq.1 h2 with h | h
            · exact Int.le_of_lt (Int.lt_of_le_of_lt (i4 j h1 h h3) hf)
            · rw [h]; exact Int.le_refl _
          · exact Int.lt_of_le_of_lt (i4 j h1 h2 h3) hf
        · simp only [if_neg hf]
          refine ⟨i1, Nat.lt_succ_of_lt i2, i3, fun j h1 h2 h3 => ?_, i5⟩
          rcases Nat.lt_succ_iff_lt_or_eq.1 h2 with h | h
          · exact i4 j h1 h h3
          · rw [h]; exact Int.not_lt.1 hf
    · rw [if_neg hc]
      cases hb : bestTo C f k with
      | none =>
        rw [hb] at ih
        intro j h1 h2
        rcases Nat.lt_succ_iff_lt_or_eq.1 h2 with h | h
        · exact ih j h1 h
        · rw [h]; simpa using hc
      | some b =>
        rw [hb] at ih
        obtain ⟨i1, i2, i3, i4, i5⟩ := ih
        refine ⟨i1, Nat.lt_succ_of_lt i2, i3, fun j h1 h2 h3 => ?_, i5⟩
        rcases Nat.lt_succ_iff_lt_or_eq.1 h2 with h | h
        · exact i4 j h1 h h3
        · rw [h] at h3; exact absurd h3 hc
theorem BestP.unique {C : Nat → Bool} {f : Nat → Int} {i n : Nat} : ∀ {a b : Option Nat}, BestP C f i n a → BestP C f i n b → a = b
  | none, none, _, _ => rfl
  | none, some b, h, h' => by have := h b h'.1 h'.2.1; rw [h'.2.2.1] at this; cases this
  | some a, none, h, h' => by have := h' a h.1 h.2.1; rw [h.2.2.1] at this; cases this
  | some a, some b, h, h' => by
    obtain ⟨a1, a2, a3, a4, a5⟩ := h
    obtain ⟨b1, b2, b3, b4, b5⟩ := h'
    rcases Nat.lt_trichotomy a b with h | h | h
    · have e1 := b5 a a1 h a3
      have e2 := a4 b b1 b2 b3
      omega
    · rw [h]
    · have e1 := a5 b b1 h b3
      have e2 := b4 a a1 a2 a3
      omega
/-- From the top down. -/
theorem BestP.skip {C : Nat → Bool} {f : Nat → Int} {i n : Nat} {a : Option Nat} (h : BestP C f (i + 1) n a) (hc : C i = false) : BestP C f i n a := by
  cases a with
  | none =>
    intro j h1 h2
    rcases Nat.eq_or_lt_of_le h1 with e | e
    · rw [← e]; exact hc
    · exact h j e h2
  | some b =>
    obtain ⟨a1, a2, a3, a4, a5⟩ := h
    refine ⟨by omega, a2, a3, fun j h1 h2 h3 => ?_, fun j h1 h2 h3 => ?_⟩
    · rcases Nat.eq_or_lt_of_le h1 with e | e
      · rw [← e, hc] at h3; cases h3
      · exact a4 j e h2 h3
    · rcases Nat.eq_or_lt_of_le h1 with e | e
      · rw [← e, hc] at h3; cases h3
      · exact a5 j e h2 h3
theorem BestP.first {C : Nat → Bool} {f : Nat → Int} {i n : Nat} (h : BestP C f (i + 1) n none) (hn : i < n) (hc : C i = true) : BestP C f i n (some i) := by
  refine ⟨Nat.le_refl _, hn, hc, fun j h1 h2 h3 => ?_, fun j h1 h2 => absurd h2 (by omega)⟩
  rcases Nat.eq_or_lt_of_le h1 with e | e
  · rw [← e]; exact Int.le_refl _
  · rw [h j e h2] at h3; cases h3
theorem BestP.over {C : Nat → Bool} {f : Nat → Int} {i n b : Nat} (h : BestP C f (i + 1) n (some b)) (hc : C i = true) (hf : f b ≤ f i) : BestP C f i n (some i) := by
  obtain ⟨a1, a2, a3, a4, a5⟩ := h
  refine ⟨Nat.le_refl _, by omega, hc, fun j h1 h2 h3 => ?_, fun j h1 h2 => absurd h2 (by omega)⟩
  rcases Nat.eq_or_lt_of_le h1 with e | e
  · rw [← e]; exact Int.le_refl _
  · exact Int.le_trans (a4 j e h2 h3) hf
theorem BestP.stay {C : Nat → Bool} {f : Nat → Int} {i n b : Nat} (h : BestP C f (i + 1) n (some b)) (hf : f i < f b) : BestP C f i n (some b) := by
  obtain ⟨a1, a2, a3, a4, a5⟩ := h
  refine ⟨by omega, a2, a3, fun j h1 h2 h3 => ?_, fun j h1 h2 h3 => ?_⟩
  · rcases Nat.eq_or_lt_of_le h1 with e | e
    · rw [← e]; exact Int.le_of_lt hf
    · exact a4 j e h2 h3
  · rcases Nat.eq_or_lt_of_le h1 with e | e
    · rw [← e]; exact hf
    · exact a5 j e h2 h3
theorem BestP.done {C : Nat → Bool} {f : Nat → Int} {n : Nat} {a : Option Nat} (h : BestP C f 0 n a) : a = bestTo C f n := h.unique (bestTo_spec C f n)

structure Pln where
  queue : Int
  fr : Int
  to : Int
  deriving DecidableEq
def Pln.cells (p : Pln) : List Value := [.int .i64 p.queue, .int .i64 p.fr, .int .i64 p.to]
/-- May the load i go? gone: those that went. -/
def wants (now : List Ld) (gone : Nat → Bool) (fr : Nat) (gap : Int) (i : Nat) : Bool := match now[i]? with
  | some x => !gone i && decide (x.node = fr ∧ x.work ≠ 0 ∧ x.work < gap)
  | none => false
def workOf (now : List Ld) (i : Nat) : Int := match now[i]? with
  | some x => x.work
  | none => 0
def frOf (m : Nat) (now : List Ld) : Nat := mostTo (fun j => workAt now j) m
def toOf (m : Nat) (now : List Ld) : Nat := leastTo (fun j => workAt now j) m
def gapOf (m : Nat) (now : List Ld) : Int := workAt now (frOf m now) - workAt now (toOf m now)
def bestOf (m : Nat) (now : List Ld) (gone : Nat → Bool) : Option Nat := bestTo (wants now gone (frOf m now) (gapOf m now)) (workOf now) now.length
def moveLd (now : List Ld) (b : Nat) (to : Nat) : List Ld := now.modify b fun x => { x with node := to }
def queueOf (now : List Ld) (i : Nat) : Int := match now[i]? with
  | some x => x.queue
  | none => 0
def balGo (m : Nat) : Nat → List Ld → (Nat → Bool) → List Pln
  | 0, _, _ => []
  | k + 1, now, gone => match bestOf m now gone with
    | none => []
    | some b => ⟨queueOf now b, frOf m now, toOf m now⟩ :: balGo m k (moveLd now b (toOf m now)) (fun j => decide (j = b) || gone j)
noncomputable def balM (l : List Ld) (nodes moves : Int) : List Pln × Int :=
  if ldsFault l nodes ≠ 0 then ([], ldsFault l nodes) else if ¬ (0 ≤ moves ∧ moves ≤ 4) then ([], 2) else (balGo nodes.toNat moves.toNat l (fun _ => false), 0)
end Go.Proofs.Ytkjlafpafmihaaa

namespace Go.Proofs.Ytkjlafpafmihaaa
open Go.ChangeShapes Go.WideShapes Go.RowKit

/-- A window: Top, and which of the eight ids below it were taken. -/
structure Win where
  top : Int
  b0 : Bool
  b1 : Bool
  b2 : Bool
  b3 : Bool
  b4 : Bool
  b5 : Bool
  b6 : Bool
  b7 : Bool
  deriving DecidableEq

def Win.seen (x : Win) : List Bool := [x.b0, x.b1, x.b2, x.b3, x.b4, x.b5, x.b6, x.b7]
def Win.cells (x : Win) : List Value := [.int .i64 x.top, .bool x.b0, .bool x.b1, .bool x.b2, .bool x.b3, .bool x.b4, .bool x.b5, .bool x.b6, .bool x.b7]
def Win.at (x : Win) (k : Nat) : Bool := x.seen.getD k false

end Go.Proofs.Ytkjlafpafmihaaa

namespace Go.Proofs.Ytkjlafpafmihaaa
open Go.ChangeShapes Go.WideShapes Go.RowKit

def winRow (t : Int) (bs : List Bool) : Array Value := (.int .i64 t :: bs.map Value.bool).toArray
theorem eight {bs : List Bool} (h : bs.length = 8) : ∃ a0 a1 a2 a3 a4 a5 a6 a7, bs = [a0, a1, a2, a3, a4, a5, a6, a7] := by
  match bs, h with
  | [a0, a1, a2, a3, a4, a5, a6, a7], _ => exact ⟨a0, a1, a2, a3, a4, a5, a6, a7, rfl⟩

structure WB (w : World) (t : Int) (bs : List Bool) (wr : World) : Prop where
  below : Below w.heap.size w wr
  res : wr.heap[w.heap.size]? = some (.cells #[.int .i64 0, .bool false, .bool false, .bool false, .bool false, .bool false, .bool false, .bool false, .bool false] 26 (0, 0))
  row : wr.heap[w.heap.size + 1]? = some (.cells (winRow t bs) 26 (0, 0))

theorem WB.drewN {w wr : World} {t : Int} {bs : List Bool} (h : WB w t bs wr) (q : Nat) : WB w t bs (wr.drewN q) :=
  ⟨⟨h.below.os, h.below.tape, h.below.output, h.below.size, h.below.block⟩, h.res, h.row⟩
theorem WB.set_ {w wr : World} {t : Int} {bs : List Bool} (h : WB w t bs wr) (j : Nat) : WB w t (bs.set j true) (wr.setCell ⟨w.heap.size + 1, 1 + j, none⟩ (.bool true)) := by
  refine ⟨h.below.setCell (by simp) _, ?_, ?_⟩
  · rw [Below.heap_setCell _ _ _ _ (by simp)]
    exact h.res
  · have hr := h.row
    simp only [World.setCell, Array.getElem?_modify, hr]
    simp [winRow, Nat.add_comm 1 j, List.map_set]
theorem WB.cell {w wr : World} {t : Int} {bs : List Bool} (h : WB w t bs wr) {j : Nat} (hj : j < bs.length) : wr.cell? ⟨w.heap.size + 1, 1 + j, none⟩ = some (.bool (bs.getD j false)) := by
  rw [cell_of_row wr _ (1 + j) _ _ (0, 0) h.row, Nat.add_comm]
  simp [winRow, hj]
theorem WB.free {w wr : World} {t : Int} {bs : List Bool} (h : WB w t bs wr) (j : Nat) : wr.frozen? ⟨w.heap.size + 1, j, none⟩ = false := by
  have := h.row
  simp [World.frozen?, this]
end Go.Proofs.Ytkjlafpafmihaaa

