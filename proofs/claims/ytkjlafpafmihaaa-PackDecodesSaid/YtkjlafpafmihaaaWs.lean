/- THE WALK BY LEMMAS: slices of slices; min, max. No program in sight. -/
import Derived.Test.YtkjlafpafmihaaaWg
namespace Go.Proofs.Ytkjlafpafmihaaa
open Go.ChangeShapes Go.WideShapes Go.ChangeAt Go.RowKit

theorem evo_s {l : Slots} {x : Operand} {v : Value} (h : ev l x = some v) : EvO l (some x) (some v) := h
theorem evo_n {l : Slots} : EvO l none none := trivial
theorem px_int {kd : IntKind} {a b : Int} (h : a = b) : some (Value.int kd a) = some (Value.int kd b) := by rw [h]
section
variable {P : Program} {w : World} {t e : TypeId} {A : Option Addr} {n c s B : Nat} {xs : List Value} {kd ke kf : IntKind}
theorem sb_bound {i : Int} (k y : Nat) (code : BoundsCode) (hik : i = k) (hy : k ≤ y) (w : World) : (Instr.sliceBound (.int kd i) y code).run P w = .ok k w := by
  subst hik
  have h1 : (0 : Int) ≤ k ∧ (k : Int) ≤ y := by omega
  simp [Instr.sliceBound, asIntOf, Sem.run_bind, Result.andThen, h1, hy]
theorem sb_l {i : Int} (l : Nat) (hi : i = l) (h : l ≤ n) (w : World) : (Instr.sliceBounds true n c (some (.int kd i)) none none).run P w = .ok (l, n, c) w := by
  simp [Instr.sliceBounds, Sem.run_bind, Result.andThen, sb_bound l n _ hi h]
theorem sb_h {i : Int} (k : Nat) (hi : i = k) (h : k ≤ c) (w : World) : (Instr.sliceBounds true n c none (some (.int kd i)) none).run P w = .ok (0, k, c) w := by
  simp [Instr.sliceBounds, Sem.run_bind, Result.andThen, sb_bound k c _ hi h]
theorem sb_lh {i j : Int} (l k : Nat) (hi : i = l) (hj : j = k) (hlk : l ≤ k) (h : k ≤ c) (w : World) : (Instr.sliceBounds true n c (some (.int kd i)) (some (.int ke j)) none).run P w = .ok (l, k, c) w := by
  simp [Instr.sliceBounds, Sem.run_bind, Result.andThen, sb_bound k c _ hj h, sb_bound l k _ hi hlk]
theorem sb_hm {j m : Int} (k q : Nat) (hj : j = k) (hm : m = q) (hkq : k ≤ q) (h : q ≤ c) (w : World) : (Instr.sliceBounds true n c none (some (.int ke j)) (some (.int kf m))).run P w = .ok (0, k, q) w := by
  simp [Instr.sliceBounds, Sem.run_bind, Result.andThen, sb_bound q c _ hm h, sb_bound k q _ hj hkq]
theorem sb_lhm {i j m : Int} (l k q : Nat) (hi : i = l) (hj : j = k) (hm : m = q) (hlk : l ≤ k) (hkq : k ≤ q) (h : q ≤ c) (w : World) : (Instr.sliceBounds true n c (some (.int kd i)) (some (.int ke j)) (some (.int kf m))).run P w = .ok (l, k, q) w := by
  simp [Instr.sliceBounds, Sem.run_bind, Result.andThen, sb_bound q c _ hm h, sb_bound k q _ hj hkq, sb_bound l k _ hi hlk]
theorem slice_ex {lo hi mx : Option Value} {l k q : Nat} (hu : P.underlying t = some (.slice e)) (hz : (P.info? e).map (·.size) = some s) (hb : ∀ w, (Instr.sliceBounds true n c lo hi mx).run P w = .ok (l, k, q) w) (hR : Rd w B s A n xs) (hlk : l ≤ k) (hkn : k ≤ n) (hkq : k ≤ q) :
    ∃ A', (∀ w, (Instr.sliceAt t (.slice A n c) lo hi mx).run P w = .ok (.slice A' (k - l) (q - l)) w) ∧ Rd w B s A' (k - l) ((xs.drop (l * s)).take ((k - l) * s)) := by
  obtain ⟨z, hq, hs⟩ : ∃ z, P.info? e = some z ∧ z.size = s := by
    cases h : P.info? e with
    | none => simp [h] at hz
    | some z => exact ⟨z, rfl, by simpa [h] using hz⟩
  refine ⟨if q = l then A else A.map (·.add (l * s)), fun w => ?_, ?_⟩
  · have h1 : (sizeOf e).run P w = .ok s w := by simp [sizeOf, typeInfo, hq, hs, Sem.run_bind, Result.andThen]
    simp [Instr.sliceAt, Instr.slice, run_underlying hu, Sem.run_bind, Result.andThen, hb, h1]
  · refine ⟨?_, fun hn => ?_⟩
    · rw [List.length_take, List.length_drop, hR.1, ← Nat.sub_mul]
      exact Nat.min_eq_left (Nat.mul_le_mul_right _ (by omega))
    · obtain ⟨b, off, rfl, hb, hcell⟩ := hR.2 (by omega)
      rw [if_neg (by omega)]
      refine ⟨b, off + l * s, ?_, hb, fun j u hu => ?_⟩
      · simp only [Option.map_some, Option.some.injEq]
        rw [Go.WideShapes.add_plain]
      · rw [Nat.add_assoc]
        refine hcell _ u ?_
        have hj : j < (k - l) * s := by
          have := (List.getElem?_eq_some_iff.1 hu).1
          rw [List.length_take] at this
          omega
        rw [List.getElem?_take_of_lt hj, List.getElem?_drop] at hu
        exact hu
theorem slice_l {i : Int} (l : Nat) (hu : P.underlying t = some (.slice e)) (hz : (P.info? e).map (·.size) = some s) (hR : Rd w B s A n xs) (hnc : n ≤ c) (hi : i = l) (h : l ≤ n) :
    ∃ A', (∀ w, (Instr.sliceAt t (.slice A n c) (some (.int kd i)) none none).run P w = .ok (.slice A' (n - l) (c - l)) w) ∧ Rd w B s A' (n - l) (xs.drop (l * s)) := by
  obtain ⟨A', h1, h2⟩ := slice_ex hu hz (sb_l (P := P) (kd := kd) l hi h) hR h (Nat.le_refl _) hnc
  refine ⟨A', h1, ?_⟩
  rw [List.take_of_length_le (by rw [List.length_drop, hR.1, ← Nat.sub_mul]; exact Nat.le_refl _)] at h2
  exact h2
theorem r_min {x y : Int} {ts : Array TypeId} {ty : TypeId} {cs : Array Bool} : (builtin .min ts ty cs #[.int kd x, .int kd y]).run P w = .ok (.value (.int kd (min x y))) w := by
  have : (if y < x then y else x) = min x y := by split <;> omega
  simp [builtin, run_min_int2, Sem.run_bind, Result.andThen, this]
theorem r_max {x y : Int} {ts : Array TypeId} {ty : TypeId} {cs : Array Bool} : (builtin .max ts ty cs #[.int kd x, .int kd y]).run P w = .ok (.value (.int kd (max x y))) w := by
  have : (if y > x then y else x) = max x y := by split <;> omega
  simp [builtin, run_max_int2, Sem.run_bind, Result.andThen, this]
theorem r_minN {x y : Nat} {ts : Array TypeId} {ty : TypeId} {cs : Array Bool} : (builtin .min ts ty cs #[.int kd x, .int kd y]).run P w = .ok (.value (.int kd ((min x y : Nat) : Int))) w := by
  rw [r_min, show min (x : Int) (y : Int) = ((min x y : Nat) : Int) by omega]
theorem r_eqg {op : BinOp} {xo yo : Operand} {a b : Array Value} {v : Value} (hg : P.eqGuardType P.depth t = false) (h : (binOp op t (.agg a) (.agg b)).run P w = .ok v w) : (do eqGuard op t xo yo (.agg a) (.agg b); binOp op t (.agg a) (.agg b) : Sem Value).run P w = .ok v w := by
  have h1 : (eqGuard op t xo yo (.agg a) (.agg b)).run P w = .ok () w := by
    have hp : ∀ w, (program : Sem Program).run P w = .ok P w := fun _ => rfl
    unfold eqGuard
    cases op <;> first | rfl | simp [hp, Sem.run_bind, Result.andThen, hg]
  rw [Sem.run_bind, h1]
  exact h
theorem r_convert {s t : TypeId} {k : IntKind} {x : Int} (hs : (P.underlying s).isSome = true) (ht : P.underlying t = some (.int k)) {z : Int} (hz : k.wrap x = z) : (convert s t (.int kd x)).run P w = .ok (.int k z) w := by
  obtain ⟨ds, hs⟩ := Option.isSome_iff_exists.1 hs
  subst hz
  simp [convert, Sem.run_bind, run_underlying hs, run_underlying ht, Result.andThen, Conv.intToInt]
end
end Go.Proofs.Ytkjlafpafmihaaa
