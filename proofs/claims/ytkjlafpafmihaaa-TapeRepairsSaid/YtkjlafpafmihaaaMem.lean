/-
  WORDS FOR MEMORY: a slice that reads as a list of cells ('Rd'), nil let in; bytes as cells; how such a reading is kept. No program in sight.
-/
import Derived.Test.YtkjlafpafmihaaaFrame
namespace Go.Proofs.Ytkjlafpafmihaaa
open Go.ChangeShapes Go.WideShapes Go.ChangeAt Go.RowKit

/-- The slice '.slice A n c' (c whatever) holds these cells, n elements of so many cells each, and lies below block B. -/
def Rd (w : World) (B size : Nat) (A : Option Addr) (n : Nat) (xs : List Value) : Prop :=
  xs.length = n * size ∧ (0 < n → ∃ b off, A = some ⟨b, off, none⟩ ∧ b < B ∧ ∀ j u, xs[j]? = some u → w.cell? ⟨b, off + j, none⟩ = some u)

section
variable {w w' : World} {B B' size n : Nat} {A : Option Addr} {xs : List Value}
theorem Rd.none_ : Rd w B size A 0 [] := ⟨by simp, fun h => absurd h (by omega)⟩
theorem Rd.keep (h : Rd w B size A n xs) (hk : ∀ p : Addr, p.block < B → w'.cell? p = w.cell? p) : Rd w' B size A n xs :=
  ⟨h.1, fun hn => by
    obtain ⟨b, off, e, hb, hc⟩ := h.2 hn
    exact ⟨b, off, e, hb, fun j u hu => (hk _ hb).trans (hc j u hu)⟩⟩
theorem Rd.more (h : Rd w B size A n xs) (hB : B ≤ B') : Rd w B' size A n xs :=
  ⟨h.1, fun hn => by
    obtain ⟨b, off, e, hb, hc⟩ := h.2 hn
    exact ⟨b, off, e, by omega, hc⟩⟩
theorem Rd.below {C : Nat} (h : Rd w B size A n xs) (hb : Below C w w') (hC : B ≤ C) : Rd w' B size A n xs := h.keep fun _ hp => hb.cell (by omega)
/-- Read in w, still so in a later world, whose own blocks are counted anew. -/
theorem Rd.on (h : Rd w w.heap.size size A n xs) (hb : Below w.heap.size w w') : Rd w' w'.heap.size size A n xs := (h.below hb (Nat.le_refl _)).more hb.size
theorem Rd.drewN (h : Rd w B size A n xs) (k : Nat) : Rd (w.drewN k) B size A n xs := h
theorem Rd.alloc (h : Rd w B size A n xs) (hB : B ≤ w.heap.size) (o : Obj) : Rd (w.alloc o) B size A n xs := h.keep fun p hp => World.cell?_alloc_lt w o p (by omega)
theorem Rd.setCell (h : Rd w B size A n xs) {p : Addr} (hB : B ≤ p.block) (u : Value) : Rd (w.setCell p u) B size A n xs :=
  h.keep fun q hq => World.cell?_setCell_other w p q u (fun e => by subst e; omega)
theorem Rd.grown (h : Rd w B size A n xs) {row : Option Nat} (hg : w.grownBy w' row) (hB : B ≤ w.heap.size) (hr : ∀ g, row = some g → B ≤ g) : Rd w' B size A n xs :=
  h.keep fun p hp => World.cell?_of_block (hg.block p.block (by omega) (fun e => by have := hr _ e.symm; omega))
theorem Rd.of_own {base : Nat} {e : TypeId} {c : Nat} (h : w.ownsRow base e size (.slice A n c) n xs) : Rd w w.heap.size size A n xs := by
  obtain ⟨h1, h2⟩ := h
  refine ⟨h1, fun hn => ?_⟩
  rcases h2 with ⟨_, h0⟩ | ⟨g, cap, cur, hv, _, hh, hnc, _, hsz, htk⟩
  · omega
  · have hA : A = some ⟨g, 0, none⟩ := by injection hv
    subst hA
    have hg : g < w.heap.size := by
      rcases Nat.lt_or_ge g w.heap.size with h | h
      · exact h
      · rw [Array.getElem?_eq_none h] at hh; cases hh
    refine ⟨g, 0, rfl, hg, fun j u hu => ?_⟩
    rw [Nat.zero_add, cell_of_row w g j _ e (0, 0) hh]
    have hj : j < xs.length := (List.getElem?_eq_some_iff.1 hu).1
    rw [← htk] at hu
    rw [List.getElem?_take_of_lt (by omega)] at hu
    simpa using hu
theorem Rd.of_own_cap {base : Nat} {e : TypeId} {c : Nat} (h : w.ownsRow base e size (.slice A n c) n xs) : Rd w w.heap.size size A n xs := Rd.of_own h
theorem Rd.new_ (w : World) (t : TypeId) (xs : List Value) (n size : Nat) (h : xs.length = n * size) : Rd (w.alloc (.cells xs.toArray t)) (w.heap.size + 1) size (some ⟨w.heap.size, 0, none⟩) n xs := by
  refine ⟨h, fun _ => ⟨_, 0, rfl, by omega, fun j u hu => ?_⟩⟩
  rw [World.cell?_alloc_mark]
  simpa using hu
/-- One element's cell, by number. -/
theorem Rd.at_ {k : Nat} (h : Rd w B 1 A n xs) (hk : k < n) : ∃ b off u, A = some ⟨b, off, none⟩ ∧ b < B ∧ xs[k]? = some u ∧ w.cell? ⟨b, off + k, none⟩ = some u := by
  obtain ⟨b, off, e, hb, hc⟩ := h.2 (by omega)
  have hl : k < xs.length := by have := h.1; omega
  exact ⟨b, off, xs[k], e, hb, List.getElem?_eq_getElem hl, hc k _ (List.getElem?_eq_getElem hl)⟩
theorem Rd.cut (h : Rd w B size A n xs) {k cap : Nat} (hk : k ≤ n) (hc : n ≤ cap) :
    Rd w B size (if cap = k then A else A.map (·.add (k * size))) (n - k) (xs.drop (k * size)) := by
  refine ⟨by rw [List.length_drop, h.1, Nat.sub_mul], fun hn => ?_⟩
  obtain ⟨b, off, rfl, hb, hcell⟩ := h.2 (by omega)
  rw [if_neg (by omega)]
  refine ⟨b, off + k * size, ?_, hb, fun j u hu => ?_⟩
  · simp only [Option.map_some, Option.some.injEq]
    unfold Addr.add
    split
    · simp
    · rfl
  · rw [Nat.add_assoc]
    exact hcell _ u (by rw [← hu, List.getElem?_drop])
end

/-- Behind a contract that ends in 'Below': all old cells and marks read as before: two rules for the walk. -/
theorem bcell {W w1 : World} (hb : Below W.heap.size W w1) : (∀ b o, b < W.heap.size → w1.cell? ⟨b, o, none⟩ = W.cell? ⟨b, o, none⟩) ∧ (∀ b o, b < W.heap.size → w1.frozen? ⟨b, o, none⟩ = W.frozen? ⟨b, o, none⟩) :=
  ⟨fun b o h => hb.cell (p := ⟨b, o, none⟩) h, fun b o h => hb.frozen (p := ⟨b, o, none⟩) h⟩

theorem tup_int {k : IntKind} {a b : Int} {x : Value} (h : a = b) : Ending.returned (.tuple #[.int k a, x]) = .returned (.tuple #[.int k b, x]) := by rw [h]
theorem ret_int_ {k : IntKind} {a b : Int} (h : a = b) : Ending.returned (.int k a) = .returned (.int k b) := by rw [h]

/-- Bytes as cells. -/
def byteCells (l : List UInt8) : List Value := l.map fun b => .int .u8 b.toNat
theorem byteCells_length (l : List UInt8) : (byteCells l).length = l.length := by simp [byteCells]
theorem byteCells_append (l k : List UInt8) : byteCells (l ++ k) = byteCells l ++ byteCells k := by simp [byteCells]

theorem Rd.bytes_len {w : World} {B n : Nat} {A : Option Addr} {l : List UInt8} (h : Rd w B 1 A n (byteCells l)) : l.length = n := by
  have := h.1
  rw [byteCells_length] at this
  omega

/-- 'string(b)'. -/
theorem run_str {P : Program} {w : World} {B n : Nat} {A : Option Addr} {l : List UInt8} (h : Rd w B 1 A n (byteCells l)) (c : Nat) {src dst e : TypeId} (hs : P.underlying src = some (.slice e)) (he : P.underlying e = some (.int .u8)) (hd : P.underlying dst = some .string) :
    (convert src dst (.slice A n c)).run P w = .ok (.string ⟨l.toArray⟩) w := by
  have hl := h.bytes_len
  subst hl
  rcases Nat.eq_zero_or_pos l.length with h0 | h0
  · have hl : l = [] := List.eq_nil_of_length_eq_zero h0
    subst hl
    rw [run_convert_bytes_string w src dst e A _ c hs he hd]
    cases A with
    | none => simp [Conv.bytesToString]; rfl
    | some a =>
      have := run_loadCells_list (P := P) w a [] (fun j v hj => by simp at hj)
      have h2 := run_bytesToString w a ([] : List UInt8).length c [] (by simpa using this)
      rw [h2]
      rfl
  · obtain ⟨b, off, rfl, _, hc⟩ := h.2 h0
    refine run_convert_bytes_back w src dst e ⟨b, off, none⟩ c l hs he hd (fun j hj => ?_)
    rw [Go.WideShapes.add_plain]
    refine hc j _ ?_
    simp [byteCells, hj]

/-- An argument that is a slice of bytes. -/
theorem open_bytes {W : World} {v : Value} {b : Nat} (h : Fits W v (.sl b [.int .u8])) :
    ∃ A n c l, v = .slice A n c ∧ Rd W W.heap.size 1 A n (byteCells l) ∧ n ≤ c ∧ c ≤ maxLen ∧ c * b ≤ reachBytes ∧ (A = none → c = 0) := by
  rcases h with rfl | ⟨ad, n, c, rfl, hn, hc, hr, hcell⟩
  · exact ⟨none, 0, 0, [], rfl, Rd.none_, Nat.le_refl _, Nat.zero_le _, by simp, fun _ => rfl⟩
  · have hex : ∀ i, i < n → ∃ x : UInt8, ad.block < W.heap.size ∧ W.cell? (ad.add i) = some (.int .u8 x.toNat) := by
      intro i hi
      obtain ⟨cs, h2, hb, hcs⟩ := hcell i hi
      obtain ⟨a, l1, rfl, ha, h3⟩ := All2.cons_ h2
      obtain ⟨m, rfl, hw⟩ := ha
      have h5 := hcs 0 _ rfl
      simp only [List.length_cons, List.length_nil, Nat.zero_add, Nat.mul_one, Nat.add_zero] at h5
      have h6 : 0 ≤ m ∧ m ≤ 255 := by simpa [Lit.wf, IntKind.min, IntKind.max, IntKind.signed, IntKind.bits] using hw
      refine ⟨UInt8.ofNat m.toNat, hb (by simp), ?_⟩
      rw [h5]
      congr 2
      simp
      omega
    obtain ⟨f, hf⟩ : ∃ f : Nat → UInt8, ∀ i, i < n → ad.block < W.heap.size ∧ W.cell? (ad.add i) = some (.int .u8 (f i).toNat) := by
      refine ⟨fun i => if hi : i < n then Classical.choose (hex i hi) else 0, fun i hi => ?_⟩
      simp only [hi, dif_pos]
      exact Classical.choose_spec (hex i hi)
    refine ⟨some ad, n, c, (List.range n).map f, rfl, ⟨by simp [byteCells], fun h0 => ?_⟩, hn, hc, hr, fun h => by cases h⟩
    obtain ⟨b, off, spot⟩ := ad
    have hspot : spot = none := by simpa [Addr.add] using World.cell?_spot (hf 0 h0).2
    subst hspot
    refine ⟨b, off, rfl, (hf 0 h0).1, fun j u hu => ?_⟩
    have hj : j < n := by
      have := (List.getElem?_eq_some_iff.1 hu).1
      simpa [byteCells] using this
    have h7 := (hf j hj).2
    rw [Go.WideShapes.add_plain] at h7
    rw [h7, ← hu]
    simp [byteCells, hj]

end Go.Proofs.Ytkjlafpafmihaaa
