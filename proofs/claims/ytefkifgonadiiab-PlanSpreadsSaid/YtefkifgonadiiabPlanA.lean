/- Contracts: ref.LoadsFault, ref.workAt, plan.sums, heap.ends, ref.busiest. -/
import Derived.Test.YtefkifgonadiiabLds
import Derived.Test.YtefkifgonadiiabBlk
import Derived.Test.YtefkifgonadiiabIn
namespace Go.Proofs.Ytefkifgonadiiab
open Go.ChangeShapes Go.WideShapes Go.RowKit

theorem In_quiet (n lo hi : Int) (w : World) (q : Nat) : Calls Try.prog 16 #[.int .i64 n, .int .i64 lo, .int .i64 hi] (w.drewN q) fun e w' => e = .returned (.bool (inR n lo hi)) ∧ ∃ m, w' = w.drewN m :=
  (In_calls n lo hi _).mono fun _ _ ⟨he, hw⟩ => ⟨he, q, hw.symm⟩

theorem prevQ_ge {nodes : Int} {l : List Ld} : ∀ k, k ≤ l.length → (∀ j x, j < k → l[j]? = some x → ldOk nodes (prevQ l j) x) → -1 ≤ prevQ l k
  | 0, _, _ => by simp [prevQ]
  | k + 1, hk, h => by
    have hy : l[k]? = some l[k] := List.getElem?_eq_getElem (by omega)
    have h1 := (h k _ (by omega) hy).1
    have h2 := prevQ_ge k (by omega) (fun j x hj hx => h j x (by omega) hx)
    rw [prevQ_succ hy]
    omega

set_option maxRecDepth 100000 in
set_option maxHeartbeats 4000000 in
theorem LoadsFault_calls (A : Option Addr) (n c : Nat) (l : List Ld) (nodes : Int) (w : World) (h : Rd w w.heap.size 3 A n (recCells l)) (hm : n ≤ maxLen) :
    Calls Try.prog 25 #[.slice A n c, .int .i64 nodes] w (LdPost w (ldsFault l nodes)) := by
  unfold maxLen at hm
  have H := Lib.hid h
  have hl := h.ld_len
  have HL := Lib.hid hl
  clear h hl
  cases hin : inR nodes 1 5
  · rw [ldsFault_range (by have := inR_false.1 hin; omega)]
    go_enter Try.func25, Try.ntmps25
    go_wp2_with fail
    refine (In_calls _ _ _ _).mono ?_
    rintro e w2 ⟨rfl, rfl⟩
    rw [hin]
    go_wp2_with fail
    go_ret
    exact ⟨rfl, by go_grown⟩
  · obtain ⟨hn1, hn5⟩ := inR_true.1 hin
    have HF : Hid (∀ k x, l[k]? = some x → ¬ ldOk nodes (prevQ l k) x → ldsFault l nodes = 6) := Lib.hid (fun k x hx hb => ldsFault_bad (by omega) hx hb)
    have H0 : Hid (ldsOk nodes l → ldsFault l nodes = 0) := Lib.hid (fun ho => ldsFault_ok (by omega) ho)
    generalize ldsFault l nodes = z at HF H0 ⊢
    go_enter Try.func25, Try.ntmps25
    go_wp2_with fail
    refine (In_calls _ _ _ _).mono ?_
    rintro e w2 ⟨rfl, rfl⟩
    rw [hin]
    clear hin
    have ew : IntKind.i64.wrap (nodes - 1) = nodes - 1 := IntWalk.i64_in _ (by omega)
    go_wp2_with fail
    go_loopw [5] (fun i wr => ∃ k : Nat, k ≤ n ∧ i = .int .i64 k ∧ (∀ j x, j < k → l[j]? = some x → ldOk nodes (prevQ l j) x) ∧ Below w.heap.size w wr) (fun i _ => n - (intOf i).toNat)
    case atStart => exact ⟨0, Nat.zero_le _, rfl, fun j _ hj => absurd hj (by omega), Below.refl _ _⟩
    case round =>
      obtain ⟨k, hk, rfl, hall, hb⟩ := hrel
      have HB := Lib.hid hb
      have HA := Lib.hid hall
      by_cases hlt : k < n
      · have H1 := Lib.hid (H.out.below hb (Nat.le_refl _))
        obtain ⟨b, off, x, rfl, hbb, hx, c0, c1, c2⟩ := H1.out.ld_at hlt
        have HX := Lib.hid hx
        have HFk := Lib.hid (HF.out k x hx)
        have hpg := prevQ_ge (nodes := nodes) (l := l) k (by have := HL.out; omega) hall
        have HQ : Hid (ldOk nodes (prevQ l k) x → ∀ j x, j < k + 1 → l[j]? = some x → ldOk nodes (prevQ l j) x) := Lib.hid (fun ho j y hj hy => by
          by_cases e : j = k
          · subst e
            have := HX.out
            rw [hy] at this
            simp at this
            subst this
            exact ho
          · exact HA.out j y (by omega) hy)
        clear hall hb hx
        cases i1 : inR x.queue 0 3
        · have := inR_false.1 i1
          have e := HFk.out (by unfold ldOk; omega)
          subst e
          go_wp2_with fail
          go_quiet ((go_at_call 16; exact In_quiet _ _ _ _ _))
          go_wp2_with fail
          go_ret
          exact ⟨rfl, bdrewN HB.out _⟩
        have j1 := inR_true.1 i1
        cases i2 : inR x.node 0 (nodes - 1)
        · have := inR_false.1 i2
          have e := HFk.out (by unfold ldOk; omega)
          subst e
          go_wp2_with fail
          go_quiet ((go_at_call 16; exact In_quiet _ _ _ _ _))
          go_wp2_with fail
          go_ret
          exact ⟨rfl, bdrewN HB.out _⟩
        have j2 := inR_true.1 i2
        cases i3 : inR x.work 0 1073741824
        · have := inR_false.1 i3
          have e := HFk.out (by unfold ldOk; omega)
          subst e
          go_wp2_with fail
          go_quiet ((go_at_call 16; exact In_quiet _ _ _ _ _))
          go_wp2_with fail
          go_ret
          exact ⟨rfl, bdrewN HB.out _⟩
        have j3 := inR_true.1 i3
        by_cases hk0 : k = 0
        · have HG := Lib.hid (HQ.out (by rw [hk0, show prevQ l 0 = -1 from rfl]; unfold ldOk; omega))
          have hd1 : decide ((0 : Int) < (k : Int)) = false := by simp; omega
          have hd2 : decide (0 < k) = false := by simp; omega
          clear hk0
          go_wp2_with fail
          go_quiet ((go_at_call 16; exact In_quiet _ _ _ _ _))
          go_wp2_with fail
          go_roundw
          case rel => exact ⟨k + 1, by omega, by go_num, HG.out, bdrewN HB.out _⟩
          case measure => simp [intOf]; omega
        · obtain ⟨b', off', y, hA', hbb', hy, d0, d1, d2⟩ := H1.out.ld_at (show k - 1 < n by omega)
          simp only [Option.some.injEq, Addr.mk.injEq, and_true] at hA'
          obtain ⟨rfl, rfl⟩ := hA'
          have hkk : prevQ l k = y.queue := by
            rw [show k = (k - 1) + 1 by omega, prevQ_succ hy]
          rw [hkk] at HFk HQ hpg
          clear hy d1 d2 hkk
          have hp : 0 < k := by omega
          have e1 : IntKind.i64.wrap ((k : Int) - 1) = (k : Int) - 1 := IntWalk.i64_in _ (by omega)
          have e2 : ((k : Int) - 1).toNat = k - 1 := by omega
          have e3 : 0 ≤ (k : Int) - 1 := by omega
          have e4 : (k : Int) - 1 < (n : Int) := by omega
          clear hk0
          by_cases hq : x.queue ≤ y.queue
          · have e := HFk.out (by unfold ldOk; omega)
            subst e
            go_wp2_with fail
            go_quiet ((go_at_call 16; exact In_quiet _ _ _ _ _))
            go_wp2_with fail
            go_ret
            exact ⟨rfl, bdrewN HB.out _⟩
          · have HG := Lib.hid (HQ.out (by clear e2; unfold ldOk; omega))
            go_wp2_with fail
            go_quiet ((go_at_call 16; exact In_quiet _ _ _ _ _))
            go_wp2_with fail
            go_roundw
            case rel => exact ⟨k + 1, by omega, by go_num, HG.out, bdrewN HB.out _⟩
            case measure => simp [intOf]; omega
      · obtain rfl : k = n := by omega
        have e := H0.out (fun j x hx => HA.out j x (by have := (List.getElem?_eq_some_iff.1 hx).1; have := HL.out; omega) hx)
        subst e
        clear hall hb
        go_wp2_with fail
        go_ret
        exact ⟨rfl, HB.out⟩

/-- The work at a node. -/
def workAt (l : List Ld) (n : Int) : Int := (l.map fun x => if x.node = n then x.work else 0).sum
theorem workAt_take {l : List Ld} {k : Nat} {x : Ld} (h : l[k]? = some x) (n : Int) : workAt (l.take (k + 1)) n = workAt (l.take k) n + if x.node = n then x.work else 0 := by
  unfold workAt
  rw [List.take_add_one, h]
  simp
theorem workAt_bounds {l : List Ld} (hw : ∀ x ∈ l, 0 ≤ x.work ∧ x.work ≤ 1073741824) (n : Int) : ∀ k, k ≤ l.length → 0 ≤ workAt (l.take k) n ∧ workAt (l.take k) n ≤ k * 1073741824 := by
  intro k
  induction k with
  | zero => intro _; simp [workAt]
  | succ k ih =>
    intro hk
    have hy : l[k]? = some l[k] := List.getElem?_eq_getElem (by omega)
    have h1 := hw _ (List.mem_of_getElem? hy)
    have h2 := ih (by omega)
    rw [workAt_take hy]
    split <;> omega

set_option maxRecDepth 100000 in
set_option maxHeartbeats 2000000 in
theorem workAt_calls (A : Option Addr) (n c : Nat) (l : List Ld) (node : Int) (w : World) {B : Nat} (h : Rd w B 3 A n (recCells l)) (hn : n ≤ 4) (hw : ∀ x ∈ l, 0 ≤ x.work ∧ x.work ≤ 1073741824) :
    Calls Try.prog 27 #[.slice A n c, .int .i64 node] w fun e w' => e = .returned (.int .i64 (workAt l node)) ∧ w = w' := by
  have H := Lib.hid h
  have hl := h.ld_len
  have HL := Lib.hid hl
  have HW := Lib.hid (workAt_bounds hw node)
  have HT := Lib.hid (fun (k : Nat) (x : Ld) (hx : l[k]? = some x) => workAt_take hx node)
  have HM := Lib.hid (fun (k : Nat) (x : Ld) (hx : l[k]? = some x) => hw x (List.mem_of_getElem? hx))
  clear h hl hw
  go_enter Try.func27, Try.ntmps27
  go_wp2_with fail
  go_loop [5, 6] (fun s i => ∃ k : Nat, k ≤ n ∧ i = .int .i64 k ∧ s = .int .i64 (workAt (l.take k) node)) (fun _ i => n - (intOf i).toNat)
  case atStart => exact ⟨0, Nat.zero_le _, rfl, rfl⟩
  case round =>
    obtain ⟨k, hk, rfl, rfl⟩ := hrel
    have hb := HW.out k (by have := HL.out; omega)
    by_cases hlt : k < n
    · obtain ⟨b, off, x, rfl, hbb, hx, c0, c1, c2⟩ := H.out.ld_at hlt
      have hm := HM.out k x hx
      have HK := Lib.hid (HT.out k x hx)
      clear hx
      generalize workAt (l.take k) node = s at HK hb ⊢
      by_cases he : x.node = node
      · rw [if_pos he] at HK
        have he' : (x.node == node) = true := by simpa using he
        have HE := Lib.hid he
        clear he
        go_wp2_with fail
        go_round
        case rel => exact ⟨k + 1, by omega, by go_num, by rw [HK.out]⟩
        case measure => simp [intOf]; omega
      · rw [if_neg he] at HK
        have he' : (x.node == node) = false := by simpa using he
        go_wp2_with fail
        go_round
        case rel => exact ⟨k + 1, by omega, by go_num, by rw [HK.out]; simp⟩
        case measure => simp [intOf]; omega
    · obtain rfl : k = n := by omega
      rw [List.take_of_length_le (by have := HL.out; omega)]
      go_wp2_with fail
      go_ret
      exact ⟨rfl, rfl⟩

/-- The index of the first greatest of so many. -/
def mostTo (f : Nat → Int) : Nat → Nat
  | 0 => 0
  | k + 1 => if f (mostTo f k) < f k then k else mostTo f k
def leastTo (f : Nat → Int) : Nat → Nat
  | 0 => 0
  | k + 1 => if f k < f (leastTo f k) then k else leastTo f k
theorem mostTo_lt (f : Nat → Int) : ∀ k, 0 < k → mostTo f k < k
  | 1, _ => by simp [mostTo]
  | k + 2, _ => by
    have := mostTo_lt f (k + 1) (by omega)
    rw [mostTo]
    split <;> omega
theorem leastTo_lt (f : Nat → Int) : ∀ k, 0 < k → leastTo f k < k
  | 1, _ => by simp [leastTo]
  | k + 2, _ => by
    have := leastTo_lt f (k + 1) (by omega)
    rw [leastTo]
    split <;> omega
theorem mostTo_spec (f : Nat → Int) : ∀ k, (∀ j, j < k → f j ≤ f (mostTo f k)) ∧ (∀ j, j < mostTo f k → f j < f (mostTo f k))
  | 0 => ⟨fun j h => absurd h (by omega), fun j h => by simp [mostTo] at h⟩
  | k + 1 => by
    have ⟨h1, h2⟩ := mostTo_spec f k
    have h3 : 0 < k → mostTo f k < k := mostTo_lt f k
    rw [mostTo]
    split
    · rename_i hlt
      refine ⟨fun j hj => ?_, fun j hj => ?_⟩
      · by_cases e : j = k
        · rw [e]; exact Int.le_refl _
        · have := h1 j (by omega); omega
      · have := h1 j hj; omega
    · rename_i hlt
      refine ⟨fun j hj => ?_, h2⟩
      by_cases e : j = k
      · subst e; omega
      · exact h1 j (by omega)
theorem leastTo_neg (f : Nat → Int) : ∀ k, leastTo f k = mostTo (fun j => - f j) k
  | 0 => rfl
  | k + 1 => by
    rw [leastTo, mostTo, leastTo_neg f k]
    by_cases h : f k < f (mostTo (fun j => - f j) k)
    · rw [if_pos h, if_pos (by omega)]
    · rw [if_neg h, if_neg (by omega)]
theorem mostTo_unique (f : Nat → Int) (n m : Nat) (hm : m < n) (h1 : ∀ j, j < n → f j ≤ f m) (h2 : ∀ j, j < m → f j < f m) : m = mostTo f n := by
  have ⟨k1, k2⟩ := mostTo_spec f n
  have k3 := mostTo_lt f n (by omega)
  rcases Nat.lt_trichotomy m (mostTo f n) with h | h | h
  · have := k2 m h; have := h1 _ k3; omega
  · exact h
  · have := h2 _ h; have := k1 m hm; omega
/-- From the highest down. -/
def DownM (f : Nat → Int) (n i m : Nat) : Prop := m < n ∧ (i = n → m = n - 1) ∧ (∀ j, i ≤ j → j < n → f j ≤ f m) ∧ (i < n → i ≤ m) ∧ (∀ j, i ≤ j → j < m → f j < f m)
theorem DownM.step {f : Nat → Int} {n i m : Nat} (h : DownM f n (i + 1) m) (hi : i < n) : DownM f n i (if f m ≤ f i then i else m) := by
  obtain ⟨h1, h2, h3, h4, h5⟩ := h
  split
  · rename_i hle
    refine ⟨hi, fun e => by omega, fun j hj hn => ?_, fun _ => Nat.le_refl _, fun j hj hn => by omega⟩
    by_cases e : j = i
    · rw [e]; exact Int.le_refl _
    · have := h3 j (by omega) hn; omega
  · rename_i hle
    have hin : i + 1 ≠ n := fun e => hle (by have := h2 e; rw [this, show n - 1 = i by omega]; exact Int.le_refl _)
    refine ⟨h1, fun e => by omega, fun j hj hn => ?_, fun _ => by have := h4 (by omega); omega, fun j hj hn => ?_⟩
    · by_cases e : j = i
      · subst e; omega
      · exact h3 j (by omega) hn
    · by_cases e : j = i
      · subst e; omega
      · exact h5 j (by omega) hn
theorem DownM.done {f : Nat → Int} {n m : Nat} (h : DownM f n 0 m) : m = mostTo f n :=
  mostTo_unique f n m h.1 (fun j hj => h.2.2.1 j (by omega) hj) (fun j hj => h.2.2.2.2 j (by omega) hj)
end Go.Proofs.Ytefkifgonadiiab
