/- THE WALK BY LEMMAS: slices of slices; min, max. No program in sight. -/
import Derived.Test.YtkjlafpafmihaaaWg
import Derived.Test.YtkjlafpafmihaaaBits
namespace Go.Proofs.Ytkjlafpafmihaaa
open Go.ChangeShapes Go.WideShapes Go.ChangeAt Go.RowKit

theorem evo_s {l : Slots} {x : Operand} {v : Value} (h : ev l x = some v) : EvO l (some x) (some v) := h
theorem evo_n {l : Slots} : EvO l none none := trivial
theorem px_int {kd : IntKind} {a b : Int} (h : a = b) : some (Value.int kd a) = some (Value.int kd b) := by rw [h]
section
variable {P : Program} {w : World} {t e : TypeId} {A : Option Addr} {n c s B : Nat} {xs : List Value} {kd ke kf : IntKind}
theorem sb_bound {i : Int} (k y : Nat) (code : BoundsCode) (hik : i = k) (hy : k ≤ y) (w : World) : (Instr.sliceBound (.int kd i) y code).run P w = .ok k w := by
  subst hik
  have h1 : (0 : Int) ≤ k ∧ (k : Int) ≤ y := by omega
  simp [Instr.sliceBound, asIntOf, Sem.run_bind, Result.andThen, h1, hy]
theorem sb_l {i : Int} (l : Nat) (hi : i = l) (h : l ≤ n) (w : World) : (Instr.sliceBounds true n c (some (.int kd i)) none none).run P w = .ok (l, n, c) w := by
  simp [Instr.sliceBounds, Sem.run_bind, Result.andThen, sb_bound l n _ hi h]
theorem sb_h {i : Int} (k : Nat) (hi : i = k) (h : k ≤ c) (w : World) : (Instr.sliceBounds true n c none (some (.int kd i)) none).run P w = .ok (0, k, c) w := by
  simp [Instr.sliceBounds, Sem.run_bind, Result.andThen, sb_bound k c _ hi h]
theorem sb_lh {i j : Int} (l k : Nat) (hi : i = l) (hj : j = k) (hlk : l ≤ k) (h : k ≤ c) (w : World) : (Instr.sliceBounds true n c (some (.int kd i)) (some (.int ke j)) none).run P w = .ok (l, k, c) w := by
  simp [Instr.sliceBounds, Sem.run_bind, Result.andThen, sb_bound k c _ hj h, sb_bound l k _ hi hlk]
theorem sb_hm {j m : Int} (k q : Nat) (hj : j = k) (hm : m = q) (hkq : k ≤ q) (h : q ≤ c) (w : World) : (Instr.sliceBounds true n c none (some (.int ke j)) (some (.int kf m))).run P w = .ok (0, k, q) w := by
  simp [Instr.sliceBounds, Sem.run_bind, Result.andThen, sb_bound q c _ hm h, sb_bound k q _ hj hkq]
theorem sb_lhm {i j m : Int} (l k q : Nat) (hi : i = l) (hj : j = k) (hm : m = q) (hlk : l ≤ k) (hkq : k ≤ q) (h : q ≤ c) (w : World) : (Instr.sliceBounds true n c (some (.int kd i)) (some (.int ke j)) (some (.int kf m))).run P w = .ok (l, k, q) w := by
  simp [Instr.sliceBounds, Sem.run_bind, Result.andThen, sb_bound q c _ hm h, sb_bound k q _ hj hkq, sb_bound l k _ hi hlk]
theorem add_block (a : Addr) (k : Nat) : a.block = (a.add k).block := by
  unfold Addr.add
  split <;> rfl
theorem slice_exw {lo hi mx : Option Value} {l k q : Nat} (hu : P.underlying t = some (.slice e)) (hz : (P.info? e).map (·.size) = some s) (hb : ∀ w, (Instr.sliceBounds true n c lo hi mx).run P w = .ok (l, k, q) w) (hlk : l ≤ k) (hkn : k ≤ n) (hkq : k ≤ q) :
    ∃ A', (∀ w, (Instr.sliceAt t (.slice A n c) lo hi mx).run P w = .ok (.slice A' (k - l) (q - l)) w) ∧ (∀ (w : World) (B : Nat) (xs : List Value), Rd w B s A n xs → Rd w B s A' (k - l) ((xs.drop (l * s)).take ((k - l) * s))) ∧ ∀ a', A' = some a' → ∃ a, A = some a ∧ a.block = a'.block := by
  obtain ⟨z, hq, hs⟩ : ∃ z, P.info? e = some z ∧ z.size = s := by
    cases h : P.info? e with
    | none => simp [h] at hz
    | some z => exact ⟨z, rfl, by simpa [h] using hz⟩
  refine ⟨if q = l then A else A.map (·.add (l * s)), fun w => ?_, ?_, ?_⟩
  · have h1 : (sizeOf e).run P w = .ok s w := by simp [sizeOf, typeInfo, hq, hs, Sem.run_bind, Result.andThen]
    simp [Instr.sliceAt, Instr.slice, run_underlying hu, Sem.run_bind, Result.andThen, hb, h1]
  · intro w B xs hR
    refine ⟨?_, fun hn => ?_⟩
    · rw [List.length_take, List.length_drop, hR.1, ← Nat.sub_mul]
      exact Nat.min_eq_left (Nat.mul_le_mul_right _ (by omega))
    · obtain ⟨b, off, rfl, hb, hcell⟩ := hR.2 (by omega)
      rw [if_neg (by omega)]
      refine ⟨b, off + l * s, ?_, hb, fun j u hu => ?_⟩
      · simp only [Option.map_some, Option.some.injEq]
        rw [Go.WideShapes.add_plain]
      · rw [Nat.add_assoc]
        refine hcell _ u ?_
        have hj : j < (k - l) * s := by
          have := (List.getElem?_eq_some_iff.1 hu).1
          rw [List.length_take] at this
          omega
        rw [List.getElem?_take_of_lt hj, List.getElem?_drop] at hu
        exact hu
  · intro a' h
    split at h
    · exact ⟨a', h, rfl⟩
    · cases A with
      | none => cases h
      | some a => cases h; exact ⟨a, rfl, add_block a _⟩
theorem slice_exb {lo hi mx : Option Value} {l k q : Nat} (hu : P.underlying t = some (.slice e)) (hz : (P.info? e).map (·.size) = some s) (hb : ∀ w, (Instr.sliceBounds true n c lo hi mx).run P w = .ok (l, k, q) w) (hR : Rd w B s A n xs) (hlk : l ≤ k) (hkn : k ≤ n) (hkq : k ≤ q) :
    ∃ A', (∀ w, (Instr.sliceAt t (.slice A n c) lo hi mx).run P w = .ok (.slice A' (k - l) (q - l)) w) ∧ Rd w B s A' (k - l) ((xs.drop (l * s)).take ((k - l) * s)) ∧ ∀ a', A' = some a' → ∃ a, A = some a ∧ a.block = a'.block := by
  obtain ⟨A', h1, h2, h3⟩ := slice_exw (A := A) hu hz hb hlk hkn hkq
  exact ⟨A', h1, h2 _ _ _ hR, h3⟩
theorem slice_ex {lo hi mx : Option Value} {l k q : Nat} (hu : P.underlying t = some (.slice e)) (hz : (P.info? e).map (·.size) = some s) (hb : ∀ w, (Instr.sliceBounds true n c lo hi mx).run P w = .ok (l, k, q) w) (hR : Rd w B s A n xs) (hlk : l ≤ k) (hkn : k ≤ n) (hkq : k ≤ q) :
    ∃ A', (∀ w, (Instr.sliceAt t (.slice A n c) lo hi mx).run P w = .ok (.slice A' (k - l) (q - l)) w) ∧ Rd w B s A' (k - l) ((xs.drop (l * s)).take ((k - l) * s)) := by
  obtain ⟨A', h1, h2, _⟩ := slice_exb hu hz hb hR hlk hkn hkq
  exact ⟨A', h1, h2⟩
theorem slice_l {i : Int} (l : Nat) (hu : P.underlying t = some (.slice e)) (hz : (P.info? e).map (·.size) = some s) (hR : Rd w B s A n xs) (hnc : n ≤ c) (hi : i = l) (h : l ≤ n) :
    ∃ A', (∀ w, (Instr.sliceAt t (.slice A n c) (some (.int kd i)) none none).run P w = .ok (.slice A' (n - l) (c - l)) w) ∧ Rd w B s A' (n - l) (xs.drop (l * s)) := by
  obtain ⟨A', h1, h2⟩ := slice_ex hu hz (sb_l (P := P) (kd := kd) l hi h) hR h (Nat.le_refl _) hnc
  refine ⟨A', h1, ?_⟩
  rw [List.take_of_length_le (by rw [List.length_drop, hR.1, ← Nat.sub_mul]; exact Nat.le_refl _)] at h2
  exact h2
theorem r_min {x y : Int} {ts : Array TypeId} {ty : TypeId} {cs : Array Bool} : (builtin .min ts ty cs #[.int kd x, .int kd y]).run P w = .ok (.value (.int kd (min x y))) w := by
  have : (if y < x then y else x) = min x y := by split <;> omega
  simp [builtin, run_min_int2, Sem.run_bind, Result.andThen, this]
theorem r_max {x y : Int} {ts : Array TypeId} {ty : TypeId} {cs : Array Bool} : (builtin .max ts ty cs #[.int kd x, .int kd y]).run P w = .ok (.value (.int kd (max x y))) w := by
  have : (if y > x then y else x) = max x y := by split <;> omega
  simp [builtin, run_max_int2, Sem.run_bind, Result.andThen, this]
theorem r_minN {x y : Nat} {ts : Array TypeId} {ty : TypeId} {cs : Array Bool} : (builtin .min ts ty cs #[.int kd x, .int kd y]).run P w = .ok (.value (.int kd ((min x y : Nat) : Int))) w := by
  rw [r_min, show min (x : Int) (y : Int) = ((min x y : Nat) : Int) by omega]
theorem r_eqg {op : BinOp} {xo yo : Operand} {a b : Array Value} {v : Value} (hg : P.eqGuardType P.depth t = false) (h : (binOp op t (.agg a) (.agg b)).run P w = .ok v w) : (do eqGuard op t xo yo (.agg a) (.agg b); binOp op t (.agg a) (.agg b) : Sem Value).run P w = .ok v w := by
  have h1 : (eqGuard op t xo yo (.agg a) (.agg b)).run P w = .ok () w := by
    have hp : ∀ w, (program : Sem Program).run P w = .ok P w := fun _ => rfl
    unfold eqGuard
    cases op <;> first | rfl | simp [hp, Sem.run_bind, Result.andThen, hg]
  rw [Sem.run_bind, h1]
  exact h
theorem r_convert {s t : TypeId} {k : IntKind} {x : Int} (hs : (P.underlying s).isSome = true) (ht : P.underlying t = some (.int k)) {z : Int} (hz : k.wrap x = z) : (convert s t (.int kd x)).run P w = .ok (.int k z) w := by
  obtain ⟨ds, hs⟩ := Option.isSome_iff_exists.1 hs
  subst hz
  simp [convert, Sem.run_bind, run_underlying hs, run_underlying ht, Result.andThen, Conv.intToInt]
theorem u8_in (a : UInt8) : 0 ≤ (a.toNat : Int) ∧ (a.toNat : Int) ≤ 255 := by
  have := a.toNat_lt
  omega
theorem r_u8int {s t : TypeId} {a : UInt8} (hs : P.underlying s = some (.int .u8)) (ht : P.underlying t = some (.int .i64)) : (convert s t (.int .u8 (a.toNat : Int))).run P w = .ok (.int .i64 (a.toNat : Int)) w :=
  r_convert (by rw [hs]; rfl) ht (wrap64_in (by have := u8_in a; omega) (by have := u8_in a; omega))
theorem r_shl8 {xo yo : Operand} {x z : Int} (hz : x * 256 = z) (h0 : 0 ≤ x) (h1 : x ≤ 1099511627776) : (do eqGuard .shl t xo yo (.int .i64 x) (.int .u64 8); binOp .shl t (.int .i64 x) (.int .u64 8) : Sem Value).run P w = .ok (.int .i64 z) w := by
  subst hz
  have : IntKind.i64.wrap (x * 256) = x * 256 := wrap64_in (by omega) (by omega)
  simp [binOp, eqGuard_shl, shift_shl_i64, this]
theorem r_or8 {xo yo : Operand} {v x z : Int} (hz : v * 256 + x = z) (h0 : 0 ≤ v) (h1 : v ≤ 1099511627776) (h2 : 0 ≤ x) (h3 : x ≤ 255) : (do eqGuard .or t xo yo (.int .i64 (v * 256)) (.int .i64 x); binOp .or t (.int .i64 (v * 256)) (.int .i64 x) : Sem Value).run P w = .ok (.int .i64 z) w := by
  subst hz
  have := or8 v x h0 h1 h2 h3
  simp [binOp, eqGuard_or, intBits_or, this]
theorem bslice {b : List UInt8} {lo hi mx : Option Value} {l k q m c' : Nat} (hu : P.underlying t = some (.slice e)) (hz : (P.info? e).map (·.size) = some 1) (hb : ∀ w, (Instr.sliceBounds true b.length c lo hi mx).run P w = .ok (l, k, q) w) (hR : Rd w B 1 A b.length (byteCells b))
    (hlk : l ≤ k) (hkn : k ≤ b.length) (hkq : k ≤ q) (hm : k - l = m) (hc : q - l = c') : ∃ A', (∀ w, (Instr.sliceAt t (.slice A b.length c) lo hi mx).run P w = .ok (.slice A' m c') w) ∧ Rd w B 1 A' m (byteCells ((b.drop l).take m)) := by
  subst hm
  subst hc
  obtain ⟨A', h1, h2⟩ := slice_ex hu hz hb hR hlk hkn hkq
  refine ⟨A', h1, ?_⟩
  rw [Nat.mul_one, Nat.mul_one] at h2
  simpa [byteCells, List.map_drop, List.map_take] using h2
theorem bsliceb {b : List UInt8} {lo hi mx : Option Value} {l k q m c' : Nat} (hu : P.underlying t = some (.slice e)) (hz : (P.info? e).map (·.size) = some 1) (hb : ∀ w, (Instr.sliceBounds true b.length c lo hi mx).run P w = .ok (l, k, q) w) (hR : Rd w B 1 A b.length (byteCells b))
    (hlk : l ≤ k) (hkn : k ≤ b.length) (hkq : k ≤ q) (hm : k - l = m) (hc : q - l = c') : ∃ A', (∀ w, (Instr.sliceAt t (.slice A b.length c) lo hi mx).run P w = .ok (.slice A' m c') w) ∧ Rd w B 1 A' m (byteCells ((b.drop l).take m)) ∧ ∀ a', A' = some a' → ∃ a, A = some a ∧ a.block = a'.block := by
  subst hm
  subst hc
  obtain ⟨A', h1, h2, h3⟩ := slice_exb hu hz hb hR hlk hkn hkq
  refine ⟨A', h1, ?_, h3⟩
  rw [Nat.mul_one, Nat.mul_one] at h2
  simpa [byteCells, List.map_drop, List.map_take] using h2
theorem bslicew {b : List UInt8} {lo hi mx : Option Value} {l k q m c' : Nat} (hu : P.underlying t = some (.slice e)) (hz : (P.info? e).map (·.size) = some 1) (hb : ∀ w, (Instr.sliceBounds true b.length c lo hi mx).run P w = .ok (l, k, q) w)
    (hlk : l ≤ k) (hkn : k ≤ b.length) (hkq : k ≤ q) (hm : k - l = m) (hc : q - l = c') : ∃ A', (∀ w, (Instr.sliceAt t (.slice A b.length c) lo hi mx).run P w = .ok (.slice A' m c') w) ∧ (∀ (w : World) (B : Nat), Rd w B 1 A b.length (byteCells b) → Rd w B 1 A' m (byteCells ((b.drop l).take m))) ∧ ∀ a', A' = some a' → ∃ a, A = some a ∧ a.block = a'.block := by
  subst hm
  subst hc
  obtain ⟨A', h1, h2, h3⟩ := slice_exw (A := A) hu hz hb hlk hkn hkq
  refine ⟨A', h1, fun w B hR => ?_, h3⟩
  replace h2 := h2 w B _ hR
  rw [Nat.mul_one, Nat.mul_one] at h2
  simpa [byteCells, List.map_drop, List.map_take] using h2
end
end Go.Proofs.Ytkjlafpafmihaaa
