/- Parts of proofs: lemmas on memory, on single functions and on the plain models; no condition of their own. -/
import Derived.Test.YtkjlafpafmihaaaDoorRows
import Derived.WalkKit
import Derived.ProofKit
import Derived.OpenShut
import Derived.SizedLaws
import Derived.WalkSpells
import Derived.WalkLawsBesides
import Derived.Handy
import Derived.Deep.QuietTactic
import Derived.BigQuiet
import Derived.Lib.Hide
set_option linter.unusedVariables false
set_option linter.unusedSimpArgs false

namespace Go.Proofs.YtkjlafpafmihaaaDoor
open Go.ChangeShapes Go.WideShapes Go.ChangeAt Go.RowKit

/-- Two lists, element by element. -/
def All2 {α β : Type} (R : α → β → Prop) : List α → List β → Prop
  | [], [] => True
  | a :: l1, b :: l2 => R a b ∧ All2 R l1 l2
  | _, _ => False

theorem All2.cons_ {α β : Type} {R : α → β → Prop} {l : List α} {b : β} {l2 : List β} (h : All2 R l (b :: l2)) : ∃ a l1, l = a :: l1 ∧ R a b ∧ All2 R l1 l2 := by
  cases l with
  | nil => exact absurd h id
  | cons a l1 => exact ⟨a, l1, rfl, h.1, h.2⟩
theorem All2.nil_ {α β : Type} {R : α → β → Prop} {l : List α} (h : All2 R l []) : l = [] := by
  cases l with
  | nil => rfl
  | cons a l1 => exact absurd h id
theorem All2.len {α β : Type} {R : α → β → Prop} : ∀ {l : List α} {k : List β}, All2 R l k → l.length = k.length
  | [], [], _ => rfl
  | _ :: _, _ :: _, h => by simp [All2.len h.2]
  | [], _ :: _, h => absurd h id
  | _ :: _, [], h => absurd h id
theorem All2.app {α β : Type} {R : α → β → Prop} : ∀ {l l' : List α} {k k' : List β}, All2 R l k → All2 R l' k' → All2 R (l ++ l') (k ++ k')
  | [], _, [], _, _, h' => h'
  | _ :: _, _, _ :: _, _, h, h' => ⟨h.1, All2.app h.2 h'⟩
  | [], _, _ :: _, _, h, _ => absurd h id
  | _ :: _, _, [], _, h, _ => absurd h id

/-- One cell that is no slice. -/
inductive Sh0 where
  | int (k : IntKind)
  | bool
  | str
/-- One cell: plain, or a slice of so many bytes an element, whose elements have these cells. -/
inductive Sh where
  | at_ (s : Sh0)
  | sl (bytes : Nat) (es : List Sh0)

def Sh.plain : Sh → Option Sh0
  | .at_ s => some s
  | .sl _ _ => none

def fieldsOk (P : Program) : List Field → List (List Sh) → Nat → Bool
  | [], [], _ => true
  | f :: fs, l :: ls, o => f.offset == o && P.cellsOf f.type == l.length && fieldsOk P fs ls (o + l.length)
  | _, _, _ => false

/-- The cells of a type, one behind the other. -/
def flat (P : Program) : Nat → TypeId → Option (List Sh)
  | 0, _ => none
  | n + 1, t =>
    match P.underlying t with
    | some (.int k) => some [.at_ (.int k)]
    | some .bool => some [.at_ .bool]
    | some .string => some [.at_ .str]
    | some (.slice e) => (flat P n e).bind fun l => (l.mapM Sh.plain).bind fun es => if P.cellsOf e == es.length then some [.sl (P.bytesOf e) es] else none
    | some (.struct fs) => (fs.toList.mapM fun f => flat P n f.type).bind fun ls => if fieldsOk P fs.toList ls 0 && P.cellsOf t == ls.flatten.length then some ls.flatten else none
    | some (.array m e) => (flat P n e).bind fun l => if P.cellsOf e == l.length && P.cellsOf t == m * l.length then some (List.replicate m l).flatten else none
    | _ => none

def Fits0 (v : Value) : Sh0 → Prop
  | .int k => ∃ n, v = .int k n ∧ (Lit.int k n).wf = true
  | .bool => ∃ b, v = .bool b
  | .str => ∃ s : ByteArray, v = .string s ∧ s.size ≤ maxLen

/-- What a cell holds that could be read. -/
def Fits (W : World) (v : Value) : Sh → Prop
  | .at_ s => Fits0 v s
  | .sl bytes es => (v = .slice none 0 0) ∨ ∃ ad n c, v = .slice (some ad) n c ∧ n ≤ c ∧ c ≤ maxLen ∧ c * bytes ≤ reachBytes ∧
      ∀ i, i < n → ∃ cs : List Value, All2 Fits0 cs es ∧ (0 < es.length → ad.block < W.heap.size) ∧ ∀ j u, cs[j]? = some u → W.cell? (ad.add (i * es.length + j)) = some u

section
variable {H : Type} {enc : TypeId × Value → H} {P : Program} {w : World}

theorem all2_of_pieces {R : Value → Sh → Prop} {cs : List Value} : ∀ (fs : List Field) (ls : List (List Sh)) (o : Nat), fieldsOk P fs ls o = true →
    (∀ (i : Nat) (f : Field) (l : List Sh), fs[i]? = some f → ls[i]? = some l → All2 R ((cs.drop f.offset).take (P.cellsOf f.type)) l) →
    All2 R ((cs.drop o).take ls.flatten.length) ls.flatten
  | [], [], o, _, _ => by simp [All2]
  | f :: fs, l :: ls, o, h, hp => by
    simp only [fieldsOk, Bool.and_eq_true, beq_iff_eq] at h
    obtain ⟨⟨h1, h2⟩, h3⟩ := h
    have h0 := hp 0 f l rfl rfl
    have hr := all2_of_pieces fs ls (o + l.length) h3 (fun i f' l' hf hl => hp (i + 1) f' l' (by simpa using hf) (by simpa using hl))
    rw [h1, h2] at h0
    have e : (cs.drop o).take (l ++ ls.flatten).length = (cs.drop o).take l.length ++ (cs.drop (o + l.length)).take ls.flatten.length := by
      rw [List.length_append, List.take_add, List.drop_drop]
    simp only [List.flatten_cons]
    rw [e]
    exact All2.app h0 hr
  | [], _ :: _, _, h, _ => by simp [fieldsOk] at h
  | _ :: _, [], _, h, _ => by simp [fieldsOk] at h

theorem all2_of_rows {R : Value → Sh → Prop} {cs : List Value} {l : List Sh} : ∀ (m o : Nat), (∀ i, i < m → All2 R ((cs.drop (o + i * l.length)).take l.length) l) →
    All2 R ((cs.drop o).take (m * l.length)) (List.replicate m l).flatten
  | 0, o, _ => by simp [All2]
  | m + 1, o, h => by
    have h0 := h 0 (by omega)
    have hr := all2_of_rows m (o + l.length) (fun i hi => by have := h (i + 1) (by omega); rw [show o + (i + 1) * l.length = o + l.length + i * l.length from by rw [Nat.succ_mul]; omega] at this; exact this)
    have e : (cs.drop o).take ((m + 1) * l.length) = (cs.drop o).take l.length ++ (cs.drop (o + l.length)).take (m * l.length) := by
      rw [Nat.succ_mul, Nat.add_comm, List.take_add, List.drop_drop]
    rw [List.replicate_succ, List.flatten_cons, e]
    simp only [Nat.zero_mul, Nat.add_zero] at h0
    exact All2.app h0 hr

theorem weights_all {e : TypeId} : ∀ {ds : List (DataW H)} {d : DataW H}, d ∈ ds → ∀ n ∈ d.weights P e, n ∈ DataW.weightsAll P e ds
  | d0 :: ds, d, hd, n, hn => by
    simp only [DataW.weightsAll, List.mem_append]
    rcases List.mem_cons.1 hd with rfl | hd
    · exact .inl hn
    · exact .inr (weights_all hd n hn)
  | [], _, hd, _, _ => by simp at hd

theorem all2_plain : ∀ {cs : List Value} {l : List Sh} {es : List Sh0}, l.mapM Sh.plain = some es → All2 (Fits w) cs l → All2 Fits0 cs es
  | cs, [], es, h, h2 => by simp at h; subst h; rw [All2.nil_ h2]; trivial
  | cs, s :: l, es, h, h2 => by
    obtain ⟨a, l1, rfl, ha, h3⟩ := All2.cons_ h2
    rw [List.mapM_cons] at h
    cases s with
    | sl b e => simp [Sh.plain] at h
    | at_ s =>
      cases hl : l.mapM Sh.plain with
      | none => simp [Sh.plain, hl] at h
      | some es' =>
        simp [Sh.plain, hl] at h
        subst h
        exact ⟨ha, all2_plain hl h3⟩

theorem fits_of_trod : ∀ (n fuel : Nat) (t : TypeId) (cs : List Value) (x : DataW H × List MemPlace) (l : List Sh),
    DataW.trod enc P w 0 (fun _ => true) true fuel t cs = some x → flat P n t = some l → (∀ b ∈ x.1.weights P t, b ≤ reachBytes) → (∀ p ∈ x.2, p.block < w.heap.size) → All2 (Fits w) cs l := by
  intro n
  induction n with
  | zero => intro fuel t cs x l _ h; simp [flat] at h
  | succ n ih =>
    intro fuel t cs x l ht hf hz hb
    unfold flat at hf
    split at hf
    · rename_i k hu
      obtain ⟨m, rfl, rfl, hw⟩ := DataW.trod_int hu ht
      simp at hf; subst hf
      exact ⟨⟨m, rfl, hw⟩, trivial⟩
    · rename_i hu
      obtain ⟨b, rfl, rfl⟩ := DataW.trod_bool hu ht
      simp at hf; subst hf
      exact ⟨⟨b, rfl⟩, trivial⟩
    · rename_i hu
      obtain ⟨s, rfl, rfl, hs⟩ := DataW.trod_string hu ht
      simp at hf; subst hf
      exact ⟨⟨s, rfl, hs⟩, trivial⟩
    · rename_i e hu
      simp only [Option.bind_eq_some_iff] at hf
      obtain ⟨le, hle, es, hes, hif⟩ := hf
      split at hif
      · rename_i hce
        simp only [beq_iff_eq] at hce
        simp at hif; subst hif
        rcases DataW.trod_slice hu ht with ⟨rfl, _⟩ | ⟨a, len, cap, elems, rest, m, _, rfl, rfl, _, hl, hm, hlen, hel, hsp, _⟩
        · simp [Fits, All2]
        · have hrest := (hsp rfl).1
          refine ⟨.inr ⟨a, len, cap, rfl, hl, hm, ?_, fun i hi => ?_⟩, trivial⟩
          · refine hz _ ?_
            simp only [DataW.weights, hu]
            refine List.mem_cons.2 (.inl ?_)
            simp only [List.length_map, hlen, hrest]
            congr 1
            omega
          · have hi1 := hel i hi
            have hi2 : elems[i]? = some (elems[i]'(by omega)) := List.getElem?_eq_getElem (by omega)
            rw [hi2, Option.bind_eq_some_iff] at hi1
            obtain ⟨ds, hds, htr⟩ := hi1
            obtain ⟨_, hdl, hdc⟩ := World.cells?_some hds
            have hmem : elems[i]'(by omega) ∈ elems := List.getElem_mem _
            have hA := ih _ _ _ _ _ htr hle (fun b hb' => hz b (by
              simp only [DataW.weights, hu]
              exact List.mem_cons.2 (.inr (List.mem_append.2 (.inl (weights_all (List.mem_map.2 ⟨_, hmem, rfl⟩) b hb'))))))
              (fun p hp => hb p (by
                simp only [List.mem_append]
                exact .inr (List.mem_flatMap.2 ⟨_, List.mem_append.2 (.inl hmem), hp⟩)))
            refine ⟨ds, all2_plain hes hA, fun h0 => ?_, fun j u hj => ?_⟩
            · refine hb (.cell a.block (a.off + 0)) (List.mem_append.2 (.inl ?_))
              unfold MemPlace.row
              refine List.mem_map.2 ⟨0, ?_, rfl⟩
              rw [List.mem_range, hce]
              exact Nat.mul_pos (by omega) h0
            · have hj' : j < P.cellsOf e := by
                have := (List.getElem?_eq_some_iff.1 hj).1
                omega
              have h1 := hdc j hj'
              rw [hj] at h1
              have e1 : (a.add (i * P.cellsOf e)).add j = a.add (i * es.length + j) := by
                rw [hce]
                unfold Addr.add
                by_cases hi : i * es.length = 0 <;> by_cases hj : j = 0 <;> simp [hi, hj, Nat.add_assoc]
              rw [e1] at h1
              exact h1
      · simp at hif
    · rename_i fs hu
      simp only [Option.bind_eq_some_iff] at hf
      obtain ⟨ls, hls, hif⟩ := hf
      split at hif
      · rename_i hok
        simp only [Bool.and_eq_true, beq_iff_eq] at hok
        simp at hif; subst hif
        obtain ⟨xs, m, _, rfl, hcl, hxl, hg⟩ := DataW.trod_struct hu ht
        have h := all2_of_pieces (R := Fits w) (cs := cs) (P := P) fs.toList ls 0 hok.1 (fun i f l' hfi hli => by
          have hfi' : fs[i]? = some f := by simpa using hfi
          have h1 := hg i f hfi'
          have hil : i < fs.size := (Array.getElem?_eq_some_iff.1 hfi').1
          have h2 : xs[i]? = some (xs[i]'(by omega)) := List.getElem?_eq_getElem (by omega)
          rw [h2] at h1
          have h3 := mapM_some_get hls i f hfi
          rw [hli] at h3
          have hmem : xs[i]'(by omega) ∈ xs := List.getElem_mem _
          refine ih _ _ _ _ _ h1 h3 (fun b hb' => hz b ?_) (fun p hp => hb p (List.mem_flatMap.2 ⟨_, hmem, hp⟩))
          simp only [DataW.weights, hu]
          exact DataW.weights_mem_each (j := i) (t := f.type) (d := (xs[i]'(by omega)).1) (by simp [hfi']) (by simp [h2]) b hb')
        rw [List.drop_zero, ← hok.2, ← hcl, List.take_length] at h
        exact h
      · simp at hif
    · rename_i m e hu
      simp only [Option.bind_eq_some_iff] at hf
      obtain ⟨le, hle, hif⟩ := hf
      split at hif
      · rename_i hok
        simp only [Bool.and_eq_true, beq_iff_eq] at hok
        simp at hif; subst hif
        obtain ⟨xs, k, _, rfl, hcl, hxl, hg⟩ := DataW.trod_array hu ht
        have h := all2_of_rows (R := Fits w) (cs := cs) (l := le) m 0 (fun i hi => by
          have h1 := hg i hi
          have h2 : xs[i]? = some (xs[i]'(by omega)) := List.getElem?_eq_getElem (by omega)
          rw [h2] at h1
          have hmem : xs[i]'(by omega) ∈ xs := List.getElem_mem _
          have h4 := ih _ _ _ _ _ h1 hle (fun b hb' => hz b (by
            simp only [DataW.weights, hu]
            exact weights_all (List.mem_map.2 ⟨_, hmem, rfl⟩) b hb')) (fun p hp => hb p (List.mem_flatMap.2 ⟨_, hmem, hp⟩))
          rw [hok.1] at h4
          rw [Nat.zero_add]
          exact h4)
        rw [List.drop_zero, ← hok.2, ← hcl, List.take_length] at h
        exact h
      · simp at hif
    · simp at hf
end
/-- An argument of type t as the walk may take it. -/
def ArgOk (P : Program) (W : World) (v : Value) (t : TypeId) : Prop :=
  (∃ base, Value.okWide P W .any base t v) ∧ ∃ l, flat P 30 t = some l ∧ All2 (Fits W) v.cells.toList l

section
variable {H : Type} {enc : TypeId × Value → H} {P : Program}

theorem args_ok {W : World} {base : Nat} : ∀ {ts : List TypeId} {vs : List Value} {ds : List (DataW H)} {ps : List MemPlace}, DataW.TrodAll enc P W 0 (fun _ => true) true ts vs ds ps →
    (∀ (j : Nat) t v, ts[j]? = some t → vs[j]? = some v → Value.okWide P W .any base t v) → (∀ t ∈ ts, (flat P 30 t).isSome = true) →
    (∀ b ∈ DataW.weightsEach P ts ds, b ≤ reachBytes) → (∀ p ∈ ps, p.block < W.heap.size) → All2 (ArgOk P W) vs ts
  | [], vs, ds, ps, h, _, _, _, _ => by obtain ⟨rfl, _⟩ := trodAll_nil h; trivial
  | t :: ts, vs, ds, ps, h, hv, hf, hz, hb => by
    obtain ⟨v, vs', d, ds', p, q, rfl, rfl, rfl, h0, hr⟩ := trodAll_cons h
    refine ⟨⟨⟨base, hv 0 t v rfl rfl⟩, ?_⟩, args_ok hr (fun j t' v' h1 h2 => hv (j + 1) t' v' (by simpa using h1) (by simpa using h2)) (fun t' h' => hf t' (List.mem_cons_of_mem _ h'))
      (fun b h' => hz b (by simp only [DataW.weightsEach, List.mem_append]; exact .inr h')) (fun x hx => hb x (List.mem_append.2 (.inr hx)))⟩
    have hs := hf t (List.mem_cons_self ..)
    obtain ⟨l, hl⟩ := Option.isSome_iff_exists.1 hs
    obtain ⟨fuel, ht⟩ := h0
    exact ⟨l, hl, fits_of_trod 30 fuel t _ _ l ht hl (fun b h' => hz b (by simp only [DataW.weightsEach, List.mem_append]; exact .inl h')) (fun x hx => hb x (List.mem_append.2 (.inl hx)))⟩

theorem trodAll_below (hl : laidOutB P = true) {W W' : World} (hb : Below W.heap.size W W') : ∀ {ts : List TypeId} {vs : List Value} {ds : List (DataW H)} {ps : List MemPlace},
    DataW.TrodAll enc P W 0 (fun _ => true) true ts vs ds ps → (∀ t ∈ ts, P.readableRec t = true ∧ t < P.types.size) → (∀ p ∈ ps, p.block < W.heap.size) →
    DataW.TrodAll enc P W' 0 (fun b => decide (b < W.heap.size)) true ts vs ds ps
  | [], vs, ds, ps, h, _, _ => by
    obtain ⟨rfl, rfl, rfl⟩ := trodAll_nil h
    exact trodAll_mk0
  | t :: ts, vs, ds, ps, h, hr, hlt => by
    obtain ⟨v, vs', d, ds', p, q, rfl, rfl, rfl, h0, h1⟩ := trodAll_cons h
    have hrt := hr t (List.mem_cons_self ..)
    exact ⟨p, q, Below.trod hl hrt.1 hrt.2 h0 hb (fun x hx => hlt x (List.mem_append.2 (.inl hx))),
      trodAll_below hl hb h1 (fun t' h' => hr t' (List.mem_cons_of_mem _ h')) (fun x hx => hlt x (List.mem_append.2 (.inr hx))), rfl⟩

/-- All that a law's row asks of the parameters' types, in one closed fact. -/
def typesOk (P : Program) (ts : List TypeId) : Bool := laidOutB P && ts.all fun t => (flat P 30 t).isSome && P.readableRec t && decide (t < P.types.size)

end
end Go.Proofs.YtkjlafpafmihaaaDoor

namespace Go.Proofs.YtkjlafpafmihaaaDoor
open Go.ChangeShapes Go.WideShapes Go.ChangeAt Go.RowKit

/-- The slice '.slice A n c' (c whatever) holds these cells, n elements of so many cells each, and lies below block B. -/
def Rd (w : World) (B size : Nat) (A : Option Addr) (n : Nat) (xs : List Value) : Prop :=
  xs.length = n * size ∧ (0 < n → ∃ b off, A = some ⟨b, off, none⟩ ∧ b < B ∧ ∀ j u, xs[j]? = some u → w.cell? ⟨b, off + j, none⟩ = some u)

section
variable {w w' : World} {B B' size n : Nat} {A : Option Addr} {xs : List Value}
theorem Rd.none_ : Rd w B size A 0 [] := ⟨by simp, fun h => absurd h (by omega)⟩
theorem Rd.keep (h : Rd w B size A n xs) (hk : ∀ p : Addr, p.block < B → w'.cell? p = w.cell? p) : Rd w' B size A n xs :=
  ⟨h.1, fun hn => by
    obtain ⟨b, off, e, hb, hc⟩ := h.2 hn
    exact ⟨b, off, e, hb, fun j u hu => (hk _ hb).trans (hc j u hu)⟩⟩
theorem Rd.more (h : Rd w B size A n xs) (hB : B ≤ B') : Rd w B' size A n xs :=
  ⟨h.1, fun hn => by
    obtain ⟨b, off, e, hb, hc⟩ := h.2 hn
    exact ⟨b, off, e, by omega, hc⟩⟩
theorem Rd.below {C : Nat} (h : Rd w B size A n xs) (hb : Below C w w') (hC : B ≤ C) : Rd w' B size A n xs := h.keep fun _ hp => hb.cell (by omega)
/-- Read in w, still so in a later world, whose own blocks are counted anew. -/
theorem Rd.on (h : Rd w w.heap.size size A n xs) (hb : Below w.heap.size w w') : Rd w' w'.heap.size size A n xs := (h.below hb (Nat.le_refl _)).more hb.size
theorem Rd.drewN (h : Rd w B size A n xs) (k : Nat) : Rd (w.drewN k) B size A n xs := h
theorem Rd.alloc (h : Rd w B size A n xs) (hB : B ≤ w.heap.size) (o : Obj) : Rd (w.alloc o) B size A n xs := h.keep fun p hp => World.cell?_alloc_lt w o p (by omega)
theorem Rd.setCell (h : Rd w B size A n xs) {p : Addr} (hB : B ≤ p.block) (u : Value) : Rd (w.setCell p u) B size A n xs :=
  h.keep fun q hq => World.cell?_setCell_other w p q u (fun e => by subst e; omega)
theorem Rd.grown (h : Rd w B size A n xs) {row : Option Nat} (hg : w.grownBy w' row) (hB : B ≤ w.heap.size) (hr : ∀ g, row = some g → B ≤ g) : Rd w' B size A n xs :=
  h.keep fun p hp => World.cell?_of_block (hg.block p.block (by omega) (fun e => by have := hr _ e.symm; omega))
theorem Rd.of_own {base : Nat} {e : TypeId} {c : Nat} (h : w.ownsRow base e size (.slice A n c) n xs) : Rd w w.heap.size size A n xs := by
  obtain ⟨h1, h2⟩ := h
  refine ⟨h1, fun hn => ?_⟩
  rcases h2 with ⟨_, h0⟩ | ⟨g, cap, cur, hv, _, hh, hnc, _, hsz, htk⟩
  · omega
  · have hA : A = some ⟨g, 0, none⟩ := by injection hv
    subst hA
    have hg : g < w.heap.size := by
      rcases Nat.lt_or_ge g w.heap.size with h | h
      · exact h
      · rw [Array.getElem?_eq_none h] at hh; cases hh
    refine ⟨g, 0, rfl, hg, fun j u hu => ?_⟩
    rw [Nat.zero_add, cell_of_row w g j _ e (0, 0) hh]
    have hj : j < xs.length := (List.getElem?_eq_some_iff.1 hu).1
    rw [← htk] at hu
    rw [List.getElem?_take_of_lt (by omega)] at hu
    simpa using hu
/-- One element's cell, by number. -/
theorem Rd.at_ {k : Nat} (h : Rd w B 1 A n xs) (hk : k < n) : ∃ b off u, A = some ⟨b, off, none⟩ ∧ b < B ∧ xs[k]? = some u ∧ w.cell? ⟨b, off + k, none⟩ = some u := by
  obtain ⟨b, off, e, hb, hc⟩ := h.2 (by omega)
  have hl : k < xs.length := by have := h.1; omega
  exact ⟨b, off, xs[k], e, hb, List.getElem?_eq_getElem hl, hc k _ (List.getElem?_eq_getElem hl)⟩
theorem Rd.cut (h : Rd w B size A n xs) {k cap : Nat} (hk : k ≤ n) (hc : n ≤ cap) :
    Rd w B size (if cap = k then A else A.map (·.add (k * size))) (n - k) (xs.drop (k * size)) := by
  refine ⟨by rw [List.length_drop, h.1, Nat.sub_mul], fun hn => ?_⟩
  obtain ⟨b, off, rfl, hb, hcell⟩ := h.2 (by omega)
  rw [if_neg (by omega)]
  refine ⟨b, off + k * size, ?_, hb, fun j u hu => ?_⟩
  · simp only [Option.map_some, Option.some.injEq]
    unfold Addr.add
    split
    · simp
    · rfl
  · rw [Nat.add_assoc]
    exact hcell _ u (by rw [← hu, List.getElem?_drop])
end

end Go.Proofs.YtkjlafpafmihaaaDoor

namespace Go.Proofs.YtkjlafpafmihaaaDoor
open Go.ChangeShapes Go.WideShapes Go.ChangeAt Go.RowKit

/-- Block b is a row of these cells, free to be written. -/
structure Blk (w : World) (b : Nat) (row : Array Value) (t : TypeId) : Prop where
  blk : w.heap[b]? = some (.cells row t (0, 0))

section
variable {w w' W : World} {b : Nat} {row : Array Value} {t : TypeId}
theorem Blk.lt (h : Blk w b row t) : b < w.heap.size := by
  rcases Nat.lt_or_ge b w.heap.size with h1 | h1
  · exact h1
  · have := h.blk
    rw [Array.getElem?_eq_none h1] at this
    cases this
theorem Blk.new (w : World) (row : Array Value) (t : TypeId) : Blk (w.alloc (.cells row t)) w.heap.size row t := by
  refine ⟨?_⟩
  show (w.heap.push _)[_]? = _
  rw [Array.getElem?_push, if_pos rfl]
theorem Blk.alloc (h : Blk w b row t) (o : Obj) : Blk (w.alloc o) b row t := ⟨by rw [Below.heap_alloc _ _ _ h.lt]; exact h.blk⟩
theorem Blk.drewN (h : Blk w b row t) (q : Nat) : Blk (w.drewN q) b row t := ⟨h.blk⟩
theorem Blk.drew (h : Blk w b row t) : Blk w.drew b row t := ⟨h.blk⟩
theorem Blk.below {B : Nat} (h : Blk w b row t) (hb : Below B w w') (hB : b < B) : Blk w' b row t := ⟨(hb.block b hB).trans h.blk⟩
/-- Behind a call that turned nothing old. -/
theorem Blk.on (h : Blk w b row t) (hb : Below w.heap.size w w') : Blk w' b row t := h.below hb h.lt
theorem Blk.grown (h : Blk w b row t) {r : Option Nat} (hg : w.grownBy w' r) (hr : r ≠ some b) : Blk w' b row t := ⟨(hg.block b h.lt (fun e => hr e.symm)).trans h.blk⟩
theorem Blk.other (h : Blk w b row t) (p : Addr) (hp : b ≠ p.block) (u : Value) : Blk (w.setCell p u) b row t := ⟨by rw [Below.heap_setCell _ _ _ _ hp]; exact h.blk⟩
theorem Blk.set_ (h : Blk w b row t) (k : Nat) (u : Value) : Blk (w.setCell ⟨b, k, none⟩ u) b (row.setIfInBounds k u) t := by
  refine ⟨?_⟩
  have hr := h.blk
  simp only [World.setCell, Array.getElem?_modify, hr]
  simp
theorem Blk.cell (h : Blk w b row t) {k : Nat} {u : Value} (hk : row[k]? = some u) : w.cell? ⟨b, k, none⟩ = some u := by
  rw [cell_of_row w b k _ _ (0, 0) h.blk]
  exact hk
theorem Blk.free (h : Blk w b row t) (j : Nat) : w.frozen? ⟨b, j, none⟩ = false := by
  have := h.blk
  simp [World.frozen?, this]
theorem Blk.at_ {b' : Nat} (h : Blk w b row t) (e : b = b') : Blk w b' row t := e ▸ h
end
end Go.Proofs.YtkjlafpafmihaaaDoor

namespace Go.Proofs.YtkjlafpafmihaaaDoor
open Go.RowKit

def inR (n lo hi : Int) : Bool := decide (lo ≤ n) && decide (n ≤ hi)
set_option maxHeartbeats 400000 in
theorem In_calls (n lo hi : Int) (w : World) :
    Calls Tryd.prog 25 #[.int .i64 n, .int .i64 lo, .int .i64 hi] w fun e w' => e = .returned (.bool (inR n lo hi)) ∧ w = w' := by
  by_cases h1 : lo ≤ n <;> by_cases h2 : n ≤ hi
  all_goals
    go_enter Tryd.func25, Tryd.ntmps25
    go_wp2
    go_ret
    exact ⟨by simp [inR]; omega, rfl⟩

end Go.Proofs.YtkjlafpafmihaaaDoor

namespace Go.Proofs.YtkjlafpafmihaaaDoor
open Go.ChangeShapes Go.WideShapes Go.RowKit
def IntPost (w : World) (k : Int) (e : Ending) (w' : World) : Prop := e = .returned (.int .i64 k) ∧ Below w.heap.size w w'
end Go.Proofs.YtkjlafpafmihaaaDoor

