/- Parts of the proof of QueueDoes: lemmas on memory, on single functions and on the plain models; no condition of their own. -/
import Derived.Test.YtkjlafpafmihaaaRows
import Derived.WalkKit
import Derived.ProofKit
import Derived.OpenShut
import Derived.SizedLaws
import Derived.WalkSpells
import Derived.WalkLawsBesides
import Derived.Handy
import Derived.Deep.QuietTactic
import Derived.BigQuiet
import Derived.Lib.Hide
import Derived.Maps.AppendAt
import Derived.Deep.AppendLies
import Derived.RegionTactic
import Derived.OwnWalk
import Derived.Laws.Tables
import Derived.Deep.MidRow
import Derived.StillTailTactics
import Derived.OrdersHeld
import Derived.Deep.RegionHeld3
import Derived.Laws.IdiomCopy
import Derived.ChangeKeysEq
import Derived.Laws.BitsAllLaws

namespace Go.Proofs.Ytkjlafpafmihaaa
open Go.ChangeShapes Go.WideShapes Go.ChangeAt Go.RowKit

/-- Two lists, element by element. -/
def All2 {α β : Type} (R : α → β → Prop) : List α → List β → Prop
  | [], [] => True
  | a :: l1, b :: l2 => R a b ∧ All2 R l1 l2
  | _, _ => False

theorem All2.cons_ {α β : Type} {R : α → β → Prop} {l : List α} {b : β} {l2 : List β} (h : All2 R l (b :: l2)) : ∃ a l1, l = a :: l1 ∧ R a b ∧ All2 R l1 l2 := by
  cases l with
  | nil => exact absurd h id
  | cons a l1 => exact ⟨a, l1, rfl, h.1, h.2⟩
theorem All2.nil_ {α β : Type} {R : α → β → Prop} {l : List α} (h : All2 R l []) : l = [] := by
  cases l with
  | nil => rfl
  | cons a l1 => exact absurd h id
theorem All2.len {α β : Type} {R : α → β → Prop} : ∀ {l : List α} {k : List β}, All2 R l k → l.length = k.length
  | [], [], _ => rfl
  | _ :: _, _ :: _, h => by simp [All2.len h.2]
  | [], _ :: _, h => absurd h id
  | _ :: _, [], h => absurd h id
theorem All2.app {α β : Type} {R : α → β → Prop} : ∀ {l l' : List α} {k k' : List β}, All2 R l k → All2 R l' k' → All2 R (l ++ l') (k ++ k')
  | [], _, [], _, _, h' => h'
  | _ :: _, _, _ :: _, _, h, h' => ⟨h.1, All2.app h.2 h'⟩
  | [], _, _ :: _, _, h, _ => absurd h id
  | _ :: _, _, [], _, h, _ => absurd h id

/-- One cell that is no slice. -/
inductive Sh0 where
  | int (k : IntKind)
  | bool
  | str
/-- One cell: plain, or a slice of so many bytes an element, whose elements have these cells. -/
inductive Sh where
  | at_ (s : Sh0)
  | sl (bytes : Nat) (es : List Sh0)

def Sh.plain : Sh → Option Sh0
  | .at_ s => some s
  | .sl _ _ => none

def fieldsOk (P : Program) : List Field → List (List Sh) → Nat → Bool
  | [], [], _ => true
  | f :: fs, l :: ls, o => f.offset == o && P.cellsOf f.type == l.length && fieldsOk P fs ls (o + l.length)
  | _, _, _ => false

/-- The cells of a type, one behind the other. -/
def flat (P : Program) : Nat → TypeId → Option (List Sh)
  | 0, _ => none
  | n + 1, t =>
    match P.underlying t with
    | some (.int k) => some [.at_ (.int k)]
    | some .bool => some [.at_ .bool]
    | some .string => some [.at_ .str]
    | some (.slice e) => (flat P n e).bind fun l => (l.mapM Sh.plain).bind fun es => if P.cellsOf e == es.length then some [.sl (P.bytesOf e) es] else none
    | some (.struct fs) => (fs.toList.mapM fun f => flat P n f.type).bind fun ls => if fieldsOk P fs.toList ls 0 && P.cellsOf t == ls.flatten.length then some ls.flatten else none
    | some (.array m e) => (flat P n e).bind fun l => if P.cellsOf e == l.length && P.cellsOf t == m * l.length then some (List.replicate m l).flatten else none
    | _ => none

def Fits0 (v : Value) : Sh0 → Prop
  | .int k => ∃ n, v = .int k n ∧ (Lit.int k n).wf = true
  | .bool => ∃ b, v = .bool b
  | .str => ∃ s : ByteArray, v = .string s ∧ s.size ≤ maxLen

/-- What a cell holds that could be read. -/
def Fits (W : World) (v : Value) : Sh → Prop
  | .at_ s => Fits0 v s
  | .sl bytes es => (v = .slice none 0 0) ∨ ∃ ad n c, v = .slice (some ad) n c ∧ n ≤ c ∧ c ≤ maxLen ∧ c * bytes ≤ reachBytes ∧
      ∀ i, i < n → ∃ cs : List Value, All2 Fits0 cs es ∧ (0 < es.length → ad.block < W.heap.size) ∧ ∀ j u, cs[j]? = some u → W.cell? (ad.add (i * es.length + j)) = some u

section
variable {H : Type} {enc : TypeId × Value → H} {P : Program} {w : World}

theorem all2_of_pieces {R : Value → Sh → Prop} {cs : List Value} : ∀ (fs : List Field) (ls : List (List Sh)) (o : Nat), fieldsOk P fs ls o = true →
    (∀ (i : Nat) (f : Field) (l : List Sh), fs[i]? = some f → ls[i]? = some l → All2 R ((cs.drop f.offset).take (P.cellsOf f.type)) l) →
    All2 R ((cs.drop o).take ls.flatten.length) ls.flatten
  | [], [], o, _, _ => by simp [All2]
  | f :: fs, l :: ls, o, h, hp => by
    simp only [fieldsOk, Bool.and_eq_true, beq_iff_eq] at h
    obtain ⟨⟨h1, h2⟩, h3⟩ := h
    have h0 := hp 0 f l rfl rfl
    have hr := all2_of_pieces fs ls (o + l.length) h3 (fun i f' l' hf hl => hp (i + 1) f' l' (by simpa using hf) (by simpa using hl))
    rw [h1, h2] at h0
    have e : (cs.drop o).take (l ++ ls.flatten).length = (cs.drop o).take l.length ++ (cs.drop (o + l.length)).take ls.flatten.length := by
      rw [List.length_append, List.take_add, List.drop_drop]
    simp only [List.flatten_cons]
    rw [e]
    exact All2.app h0 hr
  | [], _ :: _, _, h, _ => by simp [fieldsOk] at h
  | _ :: _, [], _, h, _ => by simp [fieldsOk] at h

theorem all2_of_rows {R : Value → Sh → Prop} {cs : List Value} {l : List Sh} : ∀ (m o : Nat), (∀ i, i < m → All2 R ((cs.drop (o + i * l.length)).take l.length) l) →
    All2 R ((cs.drop o).take (m * l.length)) (List.replicate m l).flatten
  | 0, o, _ => by simp [All2]
  | m + 1, o, h => by
    have h0 := h 0 (by omega)
    have hr := all2_of_rows m (o + l.length) (fun i hi => by have := h (i + 1) (by omega); rw [show o + (i + 1) * l.length = o + l.length + i * l.length from by rw [Nat.succ_mul]; omega] at this; exact this)
    have e : (cs.drop o).take ((m + 1) * l.length) = (cs.drop o).take l.length ++ (cs.drop (o + l.length)).take (m * l.length) := by
      rw [Nat.succ_mul, Nat.add_comm, List.take_add, List.drop_drop]
    rw [List.replicate_succ, List.flatten_cons, e]
    simp only [Nat.zero_mul, Nat.add_zero] at h0
    exact All2.app h0 hr

theorem weights_all {e : TypeId} : ∀ {ds : List (DataW H)} {d : DataW H}, d ∈ ds → ∀ n ∈ d.weights P e, n ∈ DataW.weightsAll P e ds
  | d0 :: ds, d, hd, n, hn => by
    simp only [DataW.weightsAll, List.mem_append]
    rcases List.mem_cons.1 hd with rfl | hd
    · exact .inl hn
    · exact .inr (weights_all hd n hn)
  | [], _, hd, _, _ => by simp at hd

theorem all2_plain : ∀ {cs : List Value} {l : List Sh} {es : List Sh0}, l.mapM Sh.plain = some es → All2 (Fits w) cs l → All2 Fits0 cs es
  | cs, [], es, h, h2 => by simp at h; subst h; rw [All2.nil_ h2]; trivial
  | cs, s :: l, es, h, h2 => by
    obtain ⟨a, l1, rfl, ha, h3⟩ := All2.cons_ h2
    rw [List.mapM_cons] at h
    cases s with
    | sl b e => simp [Sh.plain] at h
    | at_ s =>
      cases hl : l.mapM Sh.plain with
      | none => simp [Sh.plain, hl] at h
      | some es' =>
        simp [Sh.plain, hl] at h
        subst h
        exact ⟨ha, all2_plain hl h3⟩

theorem fits_of_trod : ∀ (n fuel : Nat) (t : TypeId) (cs : List Value) (x : DataW H × List MemPlace) (l : List Sh),
    DataW.trod enc P w 0 (fun _ => true) true fuel t cs = some x → flat P n t = some l → (∀ b ∈ x.1.weights P t, b ≤ reachBytes) → (∀ p ∈ x.2, p.block < w.heap.size) → All2 (Fits w) cs l := by
  intro n
  induction n with
  | zero => intro fuel t cs x l _ h; simp [flat] at h
  | succ n ih =>
    intro fuel t cs x l ht hf hz hb
    unfold flat at hf
    split at hf
    · rename_i k hu
      obtain ⟨m, rfl, rfl, hw⟩ := DataW.trod_int hu ht
      simp at hf; subst hf
      exact ⟨⟨m, rfl, hw⟩, trivial⟩
    · rename_i hu
      obtain ⟨b, rfl, rfl⟩ := DataW.trod_bool hu ht
      simp at hf; subst hf
      exact ⟨⟨b, rfl⟩, trivial⟩
    · rename_i hu
      obtain ⟨s, rfl, rfl, hs⟩ := DataW.trod_string hu ht
      simp at hf; subst hf
      exact ⟨⟨s, rfl, hs⟩, trivial⟩
    · rename_i e hu
      simp only [Option.bind_eq_some_iff] at hf
      obtain ⟨le, hle, es, hes, hif⟩ := hf
      split at hif
      · rename_i hce
        simp only [beq_iff_eq] at hce
        simp at hif; subst hif
        rcases DataW.trod_slice hu ht with ⟨rfl, _⟩ | ⟨a, len, cap, elems, rest, m, _, rfl, rfl, _, hl, hm, hlen, hel, hsp, _⟩
        · simp [Fits, All2]
        · have hrest := (hsp rfl).1
          refine ⟨.inr ⟨a, len, cap, rfl, hl, hm, ?_, fun i hi => ?_⟩, trivial⟩
          · refine hz _ ?_
            simp only [DataW.weights, hu]
            refine List.mem_cons.2 (.inl ?_)
            simp only [List.length_map, hlen, hrest]
            congr 1
            omega
          · have hi1 := hel i hi
            have hi2 : elems[i]? = some (elems[i]'(by omega)) := List.getElem?_eq_getElem (by omega)
            rw [hi2, Option.bind_eq_some_iff] at hi1
            obtain ⟨ds, hds, htr⟩ := hi1
            obtain ⟨_, hdl, hdc⟩ := World.cells?_some hds
            have hmem : elems[i]'(by omega) ∈ elems := List.getElem_mem _
            have hA := ih _ _ _ _ _ htr hle (fun b hb' => hz b (by
              simp only [DataW.weights, hu]
              exact List.mem_cons.2 (.inr (List.mem_append.2 (.inl (weights_all (List.mem_map.2 ⟨_, hmem, rfl⟩) b hb'))))))
              (fun p hp => hb p (by
                simp only [List.mem_append]
                exact .inr (List.mem_flatMap.2 ⟨_, List.mem_append.2 (.inl hmem), hp⟩)))
            refine ⟨ds, all2_plain hes hA, fun h0 => ?_, fun j u hj => ?_⟩
            · refine hb (.cell a.block (a.off + 0)) (List.mem_append.2 (.inl ?_))
              unfold MemPlace.row
              refine List.mem_map.2 ⟨0, ?_, rfl⟩
              rw [List.mem_range, hce]
              exact Nat.mul_pos (by omega) h0
            · have hj' : j < P.cellsOf e := by
                have := (List.getElem?_eq_some_iff.1 hj).1
                omega
              have h1 := hdc j hj'
              rw [hj] at h1
              have e1 : (a.add (i * P.cellsOf e)).add j = a.add (i * es.length + j) := by
                rw [hce]
                unfold Addr.add
                by_cases hi : i * es.length = 0 <;> by_cases hj : j = 0 <;> simp [hi, hj, Nat.add_assoc]
              rw [e1] at h1
              exact h1
      · simp at hif
    · rename_i fs hu
      simp only [Option.bind_eq_some_iff] at hf
      obtain ⟨ls, hls, hif⟩ := hf
      split at hif
      · rename_i hok
        simp only [Bool.and_eq_true, beq_iff_eq] at hok
        simp at hif; subst hif
        obtain ⟨xs, m, _, rfl, hcl, hxl, hg⟩ := DataW.trod_struct hu ht
        have h := all2_of_pieces (R := Fits w) (cs := cs) (P := P) fs.toList ls 0 hok.1 (fun i f l' hfi hli => by
          have hfi' : fs[i]? = some f := by simpa using hfi
          have h1 := hg i f hfi'
          have hil : i < fs.size := (Array.getElem?_eq_some_iff.1 hfi').1
          have h2 : xs[i]? = some (xs[i]'(by omega)) := List.getElem?_eq_getElem (by omega)
          rw [h2] at h1
          have h3 := mapM_some_get hls i f hfi
          rw [hli] at h3
          have hmem : xs[i]'(by omega) ∈ xs := List.getElem_mem _
          refine ih _ _ _ _ _ h1 h3 (fun b hb' => hz b ?_) (fun p hp => hb p (List.mem_flatMap.2 ⟨_, hmem, hp⟩))
          simp only [DataW.weights, hu]
          exact DataW.weights_mem_each (j := i) (t := f.type) (d := (xs[i]'(by omega)).1) (by simp [hfi']) (by simp [h2]) b hb')
        rw [List.drop_zero, ← hok.2, ← hcl, List.take_length] at h
        exact h
      · simp at hif
    · rename_i m e hu
      simp only [Option.bind_eq_some_iff] at hf
      obtain ⟨le, hle, hif⟩ := hf
      split at hif
      · rename_i hok
        simp only [Bool.and_eq_true, beq_iff_eq] at hok
        simp at hif; subst hif
        obtain ⟨xs, k, _, rfl, hcl, hxl, hg⟩ := DataW.trod_array hu ht
        have h := all2_of_rows (R := Fits w) (cs := cs) (l := le) m 0 (fun i hi => by
          have h1 := hg i hi
          have h2 : xs[i]? = some (xs[i]'(by omega)) := List.getElem?_eq_getElem (by omega)
          rw [h2] at h1
          have hmem : xs[i]'(by omega) ∈ xs := List.getElem_mem _
          have h4 := ih _ _ _ _ _ h1 hle (fun b hb' => hz b (by
            simp only [DataW.weights, hu]
            exact weights_all (List.mem_map.2 ⟨_, hmem, rfl⟩) b hb')) (fun p hp => hb p (List.mem_flatMap.2 ⟨_, hmem, hp⟩))
          rw [hok.1] at h4
          rw [Nat.zero_add]
          exact h4)
        rw [List.drop_zero, ← hok.2, ← hcl, List.take_length] at h
        exact h
      · simp at hif
    · simp at hf
end
/-- An argument of type t as the walk may take it. -/
def ArgOk (P : Program) (W : World) (v : Value) (t : TypeId) : Prop :=
  (∃ base, Value.okWide P W .any base t v) ∧ ∃ l, flat P 30 t = some l ∧ All2 (Fits W) v.cells.toList l

section
variable {H : Type} {enc : TypeId × Value → H} {P : Program}

theorem args_ok {W : World} {base : Nat} : ∀ {ts : List TypeId} {vs : List Value} {ds : List (DataW H)} {ps : List MemPlace}, DataW.TrodAll enc P W 0 (fun _ => true) true ts vs ds ps →
    (∀ (j : Nat) t v, ts[j]? = some t → vs[j]? = some v → Value.okWide P W .any base t v) → (∀ t ∈ ts, (flat P 30 t).isSome = true) →
    (∀ b ∈ DataW.weightsEach P ts ds, b ≤ reachBytes) → (∀ p ∈ ps, p.block < W.heap.size) → All2 (ArgOk P W) vs ts
  | [], vs, ds, ps, h, _, _, _, _ => by obtain ⟨rfl, _⟩ := trodAll_nil h; trivial
  | t :: ts, vs, ds, ps, h, hv, hf, hz, hb => by
    obtain ⟨v, vs', d, ds', p, q, rfl, rfl, rfl, h0, hr⟩ := trodAll_cons h
    refine ⟨⟨⟨base, hv 0 t v rfl rfl⟩, ?_⟩, args_ok hr (fun j t' v' h1 h2 => hv (j + 1) t' v' (by simpa using h1) (by simpa using h2)) (fun t' h' => hf t' (List.mem_cons_of_mem _ h'))
      (fun b h' => hz b (by simp only [DataW.weightsEach, List.mem_append]; exact .inr h')) (fun x hx => hb x (List.mem_append.2 (.inr hx)))⟩
    have hs := hf t (List.mem_cons_self ..)
    obtain ⟨l, hl⟩ := Option.isSome_iff_exists.1 hs
    obtain ⟨fuel, ht⟩ := h0
    exact ⟨l, hl, fits_of_trod 30 fuel t _ _ l ht hl (fun b h' => hz b (by simp only [DataW.weightsEach, List.mem_append]; exact .inl h')) (fun x hx => hb x (List.mem_append.2 (.inl hx)))⟩

theorem trodAll_below (hl : laidOutB P = true) {W W' : World} (hb : Below W.heap.size W W') : ∀ {ts : List TypeId} {vs : List Value} {ds : List (DataW H)} {ps : List MemPlace},
    DataW.TrodAll enc P W 0 (fun _ => true) true ts vs ds ps → (∀ t ∈ ts, P.readableRec t = true ∧ t < P.types.size) → (∀ p ∈ ps, p.block < W.heap.size) →
    DataW.TrodAll enc P W' 0 (fun b => decide (b < W.heap.size)) true ts vs ds ps
  | [], vs, ds, ps, h, _, _ => by
    obtain ⟨rfl, rfl, rfl⟩ := trodAll_nil h
    exact trodAll_mk0
  | t :: ts, vs, ds, ps, h, hr, hlt => by
    obtain ⟨v, vs', d, ds', p, q, rfl, rfl, rfl, h0, h1⟩ := trodAll_cons h
    have hrt := hr t (List.mem_cons_self ..)
    exact ⟨p, q, Below.trod hl hrt.1 hrt.2 h0 hb (fun x hx => hlt x (List.mem_append.2 (.inl hx))),
      trodAll_below hl hb h1 (fun t' h' => hr t' (List.mem_cons_of_mem _ h')) (fun x hx => hlt x (List.mem_append.2 (.inr hx))), rfl⟩

/-- All that a law's row asks of the parameters' types, in one closed fact. -/
def typesOk (P : Program) (ts : List TypeId) : Bool := laidOutB P && ts.all fun t => (flat P 30 t).isSome && P.readableRec t && decide (t < P.types.size)

/-- FROM THE WALK TO THE ROW'S CONTRACT: a law returns true, and below the old heap's end nothing has turned. -/
theorem law_contract {f : FuncId} {fn : Func} {s : ChangeSpec} {bt : TypeId} (hts : typesOk P fn.params.toList = true) (hvars : s.vars = []) (hres : fn.resultTypes = #[bt]) (hbt : P.underlying bt = some .bool)
    (hs : ∀ ds : List (DataW H), ds.length = fn.params.toList.length → s.fn H ds = { results := [.lit (.bool true)], args := ds })
    (walk : ∀ (W : World) (args : Array Value), All2 (ArgOk P W) args.toList fn.params.toList → Calls P f args W fun e W' => e = .returned (.bool true) ∧ Below W.heap.size W W')
    (W : World) (base : Nat) (args : Array Value) (ds gs : List (DataW H)) (before : List MemPlace)
    (hval : ∀ (j : Nat) t v, fn.params[j]? = some t → args[j]? = some v → Value.okWide P W .any base t v)
    (hW : DataW.Whole enc P fn.params.toList s.vars false W args.toList ds gs before)
    (hz : (DataW.weightsEach P (fn.params.toList ++ s.plain.varTypes P) (ds ++ gs)).all (· ≤ reachBytes) = true) :
    Calls P f args W fun e W' => ∃ v, e = .returned v ∧ s.post enc P fn false true false false W args v W' := by
  simp only [typesOk, Bool.and_eq_true, List.all_eq_true, decide_eq_true_eq] at hts
  obtain ⟨hl, hts⟩ := hts
  have hW' := hW
  have hlt := hW.lt
  obtain ⟨p, q, hA, hV, rfl, _, _⟩ := hW
  rw [hvars] at hV
  have hg : gs = [] ∧ q = [] := by
    cases gs with
    | nil => exact ⟨rfl, hV⟩
    | cons g gs => exact hV.elim
  obtain ⟨rfl, rfl⟩ := hg
  have hvt : s.plain.varTypes P = [] := by unfold DataSpec.varTypes ChangeSpec.plain; simp [hvars]
  rw [hvt, List.append_nil, List.append_nil] at hz
  have hzz : ∀ b ∈ DataW.weightsEach P fn.params.toList ds, b ≤ reachBytes := fun b hb => by simpa using List.all_eq_true.1 hz b hb
  have hargs := args_ok hA (fun j t v h1 h2 => hval j t v (by simpa using h1) (by simpa using h2)) (fun t ht => (hts t ht).1.1) hzz (fun x hx => hlt x (List.mem_append.2 (.inl hx)))
  have hlen : ds.length = fn.params.toList.length := by
    have : ∀ {ts : List TypeId} {vs : List Value} {ds : List (DataW H)} {ps : List MemPlace}, DataW.TrodAll enc P W 0 (fun _ => true) true ts vs ds ps → ds.length = ts.length := by
      intro ts
      induction ts with
      | nil => intro vs ds ps h; obtain ⟨_, rfl, _⟩ := trodAll_nil h; rfl
      | cons t ts ih =>
        intro vs ds ps h
        obtain ⟨v, vs', d, ds', p, q, rfl, rfl, rfl, h0, h1⟩ := trodAll_cons h
        simp [ih h1]
    exact this hA
  refine (walk W args hargs).mono fun e W' ⟨he, hb⟩ => ?_
  have hsd := hs (ds ++ []) (by simpa using hlen)
  refine ⟨_, he, ds, [], p ++ [], [], p, [], hW', ?_, ?_, ?_, hb.frame _, fun h => by cases h⟩
  · rw [hsd, hres]
    exact trodAll_mk1 (shut_bool hbt true)
  · rw [hsd]
    simp only [List.append_nil]
    exact trodAll_below hl hb hA (fun t ht => ⟨(hts t ht).1.2, (hts t ht).2⟩) (fun x hx => hlt x (List.mem_append.2 (.inl hx)))
  · rw [hsd, hvars]
    simp [DataW.TrodVars]
end
end Go.Proofs.Ytkjlafpafmihaaa

namespace Go.Proofs.Ytkjlafpafmihaaa
open Go.ChangeShapes Go.WideShapes Go.ChangeAt Go.RowKit

/-- The slice '.slice A n c' (c whatever) holds these cells, n elements of so many cells each, and lies below block B. -/
def Rd (w : World) (B size : Nat) (A : Option Addr) (n : Nat) (xs : List Value) : Prop :=
  xs.length = n * size ∧ (0 < n → ∃ b off, A = some ⟨b, off, none⟩ ∧ b < B ∧ ∀ j u, xs[j]? = some u → w.cell? ⟨b, off + j, none⟩ = some u)

section
variable {w w' : World} {B B' size n : Nat} {A : Option Addr} {xs : List Value}
theorem Rd.none_ : Rd w B size A 0 [] := ⟨by simp, fun h => absurd h (by omega)⟩
theorem Rd.keep (h : Rd w B size A n xs) (hk : ∀ p : Addr, p.block < B → w'.cell? p = w.cell? p) : Rd w' B size A n xs :=
  ⟨h.1, fun hn => by
    obtain ⟨b, off, e, hb, hc⟩ := h.2 hn
    exact ⟨b, off, e, hb, fun j u hu => (hk _ hb).trans (hc j u hu)⟩⟩
theorem Rd.more (h : Rd w B size A n xs) (hB : B ≤ B') : Rd w B' size A n xs :=
  ⟨h.1, fun hn => by
    obtain ⟨b, off, e, hb, hc⟩ := h.2 hn
    exact ⟨b, off, e, by omega, hc⟩⟩
theorem Rd.below {C : Nat} (h : Rd w B size A n xs) (hb : Below C w w') (hC : B ≤ C) : Rd w' B size A n xs := h.keep fun _ hp => hb.cell (by omega)
/-- Read in w, still so in a later world, whose own blocks are counted anew. -/
theorem Rd.on (h : Rd w w.heap.size size A n xs) (hb : Below w.heap.size w w') : Rd w' w'.heap.size size A n xs := (h.below hb (Nat.le_refl _)).more hb.size
theorem Rd.drewN (h : Rd w B size A n xs) (k : Nat) : Rd (w.drewN k) B size A n xs := h
theorem Rd.alloc (h : Rd w B size A n xs) (hB : B ≤ w.heap.size) (o : Obj) : Rd (w.alloc o) B size A n xs := h.keep fun p hp => World.cell?_alloc_lt w o p (by omega)
theorem Rd.setCell (h : Rd w B size A n xs) {p : Addr} (hB : B ≤ p.block) (u : Value) : Rd (w.setCell p u) B size A n xs :=
  h.keep fun q hq => World.cell?_setCell_other w p q u (fun e => by subst e; omega)
theorem Rd.grown (h : Rd w B size A n xs) {row : Option Nat} (hg : w.grownBy w' row) (hB : B ≤ w.heap.size) (hr : ∀ g, row = some g → B ≤ g) : Rd w' B size A n xs :=
  h.keep fun p hp => World.cell?_of_block (hg.block p.block (by omega) (fun e => by have := hr _ e.symm; omega))
theorem Rd.of_own {base : Nat} {e : TypeId} {c : Nat} (h : w.ownsRow base e size (.slice A n c) n xs) : Rd w w.heap.size size A n xs := by
  obtain ⟨h1, h2⟩ := h
  refine ⟨h1, fun hn => ?_⟩
  rcases h2 with ⟨_, h0⟩ | ⟨g, cap, cur, hv, _, hh, hnc, _, hsz, htk⟩
  · omega
  · have hA : A = some ⟨g, 0, none⟩ := by injection hv
    subst hA
    have hg : g < w.heap.size := by
      rcases Nat.lt_or_ge g w.heap.size with h | h
      · exact h
      · rw [Array.getElem?_eq_none h] at hh; cases hh
    refine ⟨g, 0, rfl, hg, fun j u hu => ?_⟩
    rw [Nat.zero_add, cell_of_row w g j _ e (0, 0) hh]
    have hj : j < xs.length := (List.getElem?_eq_some_iff.1 hu).1
    rw [← htk] at hu
    rw [List.getElem?_take_of_lt (by omega)] at hu
    simpa using hu
theorem Rd.new_ (w : World) (t : TypeId) (xs : List Value) (n size : Nat) (h : xs.length = n * size) : Rd (w.alloc (.cells xs.toArray t)) (w.heap.size + 1) size (some ⟨w.heap.size, 0, none⟩) n xs := by
  refine ⟨h, fun _ => ⟨_, 0, rfl, by omega, fun j u hu => ?_⟩⟩
  rw [World.cell?_alloc_mark]
  simpa using hu
/-- One element's cell, by number. -/
theorem Rd.at_ {k : Nat} (h : Rd w B 1 A n xs) (hk : k < n) : ∃ b off u, A = some ⟨b, off, none⟩ ∧ b < B ∧ xs[k]? = some u ∧ w.cell? ⟨b, off + k, none⟩ = some u := by
  obtain ⟨b, off, e, hb, hc⟩ := h.2 (by omega)
  have hl : k < xs.length := by have := h.1; omega
  exact ⟨b, off, xs[k], e, hb, List.getElem?_eq_getElem hl, hc k _ (List.getElem?_eq_getElem hl)⟩
theorem Rd.cut (h : Rd w B size A n xs) {k cap : Nat} (hk : k ≤ n) (hc : n ≤ cap) :
    Rd w B size (if cap = k then A else A.map (·.add (k * size))) (n - k) (xs.drop (k * size)) := by
  refine ⟨by rw [List.length_drop, h.1, Nat.sub_mul], fun hn => ?_⟩
  obtain ⟨b, off, rfl, hb, hcell⟩ := h.2 (by omega)
  rw [if_neg (by omega)]
  refine ⟨b, off + k * size, ?_, hb, fun j u hu => ?_⟩
  · simp only [Option.map_some, Option.some.injEq]
    unfold Addr.add
    split
    · simp
    · rfl
  · rw [Nat.add_assoc]
    exact hcell _ u (by rw [← hu, List.getElem?_drop])
end

/-- Behind a contract that ends in 'Below': all old cells and marks read as before: two rules for the walk. -/
theorem bcell {W w1 : World} (hb : Below W.heap.size W w1) : (∀ b o, b < W.heap.size → w1.cell? ⟨b, o, none⟩ = W.cell? ⟨b, o, none⟩) ∧ (∀ b o, b < W.heap.size → w1.frozen? ⟨b, o, none⟩ = W.frozen? ⟨b, o, none⟩) :=
  ⟨fun b o h => hb.cell (p := ⟨b, o, none⟩) h, fun b o h => hb.frozen (p := ⟨b, o, none⟩) h⟩

theorem ret_int_ {k : IntKind} {a b : Int} (h : a = b) : Ending.returned (.int k a) = .returned (.int k b) := by rw [h]

end Go.Proofs.Ytkjlafpafmihaaa

namespace Go.Proofs.Ytkjlafpafmihaaa
open Go.ChangeShapes Go.WideShapes Go.ChangeAt Go.RowKit

/-- Block b is a row of these cells, free to be written. -/
structure Blk (w : World) (b : Nat) (row : Array Value) (t : TypeId) : Prop where
  blk : w.heap[b]? = some (.cells row t (0, 0))

section
variable {w w' W : World} {b : Nat} {row : Array Value} {t : TypeId}
theorem Blk.lt (h : Blk w b row t) : b < w.heap.size := by
  rcases Nat.lt_or_ge b w.heap.size with h1 | h1
  · exact h1
  · have := h.blk
    rw [Array.getElem?_eq_none h1] at this
    cases this
theorem Blk.new (w : World) (row : Array Value) (t : TypeId) : Blk (w.alloc (.cells row t)) w.heap.size row t := by
  refine ⟨?_⟩
  show (w.heap.push _)[_]? = _
  rw [Array.getElem?_push, if_pos rfl]
theorem Blk.new1 (w : World) (o1 : Obj) (row : Array Value) (t : TypeId) : Blk ((w.alloc o1).alloc (.cells row t)) (w.heap.size + 1) row t := by
  have := Blk.new (w.alloc o1) row t
  simpa using this
theorem Blk.alloc (h : Blk w b row t) (o : Obj) : Blk (w.alloc o) b row t := ⟨by rw [Below.heap_alloc _ _ _ h.lt]; exact h.blk⟩
theorem Blk.drewN (h : Blk w b row t) (q : Nat) : Blk (w.drewN q) b row t := ⟨h.blk⟩
theorem Blk.drew (h : Blk w b row t) : Blk w.drew b row t := ⟨h.blk⟩
theorem Blk.below {B : Nat} (h : Blk w b row t) (hb : Below B w w') (hB : b < B) : Blk w' b row t := ⟨(hb.block b hB).trans h.blk⟩
/-- Behind a call that turned nothing old. -/
theorem Blk.on (h : Blk w b row t) (hb : Below w.heap.size w w') : Blk w' b row t := h.below hb h.lt
theorem Blk.grown (h : Blk w b row t) {r : Option Nat} (hg : w.grownBy w' r) (hr : r ≠ some b) : Blk w' b row t := ⟨(hg.block b h.lt (fun e => hr e.symm)).trans h.blk⟩
theorem Blk.other (h : Blk w b row t) (p : Addr) (hp : b ≠ p.block) (u : Value) : Blk (w.setCell p u) b row t := ⟨by rw [Below.heap_setCell _ _ _ _ hp]; exact h.blk⟩
theorem Blk.set_ (h : Blk w b row t) (k : Nat) (u : Value) : Blk (w.setCell ⟨b, k, none⟩ u) b (row.setIfInBounds k u) t := by
  refine ⟨?_⟩
  have hr := h.blk
  simp only [World.setCell, Array.getElem?_modify, hr]
  simp
theorem Blk.cell (h : Blk w b row t) {k : Nat} {u : Value} (hk : row[k]? = some u) : w.cell? ⟨b, k, none⟩ = some u := by
  rw [cell_of_row w b k _ _ (0, 0) h.blk]
  exact hk
theorem Blk.free (h : Blk w b row t) (j : Nat) : w.frozen? ⟨b, j, none⟩ = false := by
  have := h.blk
  simp [World.frozen?, this]
theorem Blk.cast {row' : Array Value} (h : Blk w b row t) (e : row = row') : Blk w b row' t := e ▸ h
theorem Blk.at_ {b' : Nat} (h : Blk w b row t) (e : b = b') : Blk w b' row t := e ▸ h
end
section
variable {w : World} {b : Nat} {t : TypeId} {a0 a1 a2 a3 a4 a5 a6 a7 a8 a9 a10 a11 a12 a13 a14 a15 : Value}
theorem Blk.cells9 (h : Blk w b #[a0, a1, a2, a3, a4, a5, a6, a7, a8] t) : w.cell? ⟨b, 0, none⟩ = some a0 ∧ w.cell? ⟨b, 1, none⟩ = some a1 ∧ w.cell? ⟨b, 2, none⟩ = some a2 ∧ w.cell? ⟨b, 3, none⟩ = some a3 ∧ w.cell? ⟨b, 4, none⟩ = some a4 ∧ w.cell? ⟨b, 5, none⟩ = some a5 ∧ w.cell? ⟨b, 6, none⟩ = some a6 ∧ w.cell? ⟨b, 7, none⟩ = some a7 ∧ w.cell? ⟨b, 8, none⟩ = some a8 ∧ ∀ j, w.frozen? ⟨b, j, none⟩ = false := ⟨h.cell rfl, h.cell rfl, h.cell rfl, h.cell rfl, h.cell rfl, h.cell rfl, h.cell rfl, h.cell rfl, h.cell rfl, h.free⟩
end
end Go.Proofs.Ytkjlafpafmihaaa

namespace Go.Proofs.Ytkjlafpafmihaaa
open Go.RowKit

section
variable {P : Program} (w : World)

theorem run_append_of_nil (base : Nat) (t ty e : TypeId) (i : TypeInfo) (size : Nat) (ht : P.underlying t = some (.slice e)) (hi : P.info? e = some i)
    (v : Value) (n : Nat) (xs : List Value) (hown : w.ownsRow base e size v n xs) (c : Nat) : (Builtin.append_ #[t, t] ty #[v, .slice none 0 c]).run P w = .ok v w := by
  rcases hown.2 with ⟨rfl, rfl⟩ | ⟨g, cap, cur, rfl, _, _, hnc, _⟩
  · simp [Builtin.append_, run_underlying ht, sizeOf, typeInfo, hi, Builtin.lenOf, Builtin.firstCells]
  · simp [Builtin.append_, run_underlying ht, sizeOf, typeInfo, hi, Builtin.lenOf, Builtin.firstCells, hnc, storeCells]

theorem run_append_any (base : Nat) (t ty e : TypeId) (i : TypeInfo) (z : Value) (size bytes : Nat) (ht : P.underlying t = some (.slice e)) (hi : P.info? e = some i) (hz : i.zero = some z)
    (hsize : i.size = size) (hby : i.bytes = bytes) (hzs : z.cells.size = size) (hsz : 0 < size)
    (v : Value) (n : Nat) (xs : List Value) (hown : w.ownsRow base e size v n xs)
    (B : Nat) (A : Option Addr) (m c : Nat) (news : List Value) (hr : Rd w B size A m news) (h1 : ∀ u ∈ news, u.oneCell' = true)
    (h63 : n + m ≤ maxLen) (hbytes : (n + m) * bytes ≤ 140737488355328) (hbase : base ≤ w.heap.size) :
    ∃ v' w', (Builtin.append_ #[t, t] ty #[v, .slice A m c]).run P w = .ok v' w' ∧ w'.ownsRow base e size v' (n + m) (xs ++ news) ∧ w.grownBy w' v.ownBlock ∧
      (v'.ownBlock = v.ownBlock ∨ v'.ownBlock = some w.heap.size) := by
  rcases A with _ | ad
  · have hm : m = 0 := by
      rcases Nat.eq_zero_or_pos m with h0 | h0
      · exact h0
      · obtain ⟨b, off, h, _⟩ := hr.2 h0
        cases h
    subst hm
    have hn : news = [] := List.eq_nil_of_length_eq_zero (by simpa using hr.1)
    subst hn
    exact ⟨v, w, run_append_of_nil w base t ty e i size ht hi v n xs hown c, by simpa using hown, World.grownBy.refl w _, .inl rfl⟩
  · have hcells : ∀ j u, news[j]? = some u → w.cell? (ad.add j) = some u := by
      intro j u hu
      rcases Nat.eq_zero_or_pos m with h0 | h0
      · subst h0
        have hn : news = [] := List.eq_nil_of_length_eq_zero (by simpa using hr.1)
        subst hn
        simp at hu
      · obtain ⟨b, off, h, _, hc⟩ := hr.2 h0
        injection h with h
        subst h
        rw [Go.WideShapes.add_plain]
        exact hc j u hu
    obtain ⟨v', w', hrun, h2, h3, _, h5⟩ := run_append_own_at (P := P) w base t ty e i z size bytes ht hi hz hsize hby hzs hsz v n xs hown ad m c news hr.1 hcells h1 h63 hbytes hbase
    exact ⟨v', w', hrun, h2, h3, h5⟩

theorem wp_append_any {o : Oper} {a : Act} {K : Act → World → Prop} {Q : Exit → Act → World → Prop} (s x : Operand) (t : TypeId)
    (ho : o.op = .call { callee := .builtin .append, args := #[s, x], argTypes := #[t, t] })
    (base : Nat) (e : TypeId) (i : TypeInfo) (z : Value) (size bytes : Nat) (ht : P.underlying t = some (.slice e)) (hi : P.info? e = some i) (hz : i.zero = some z)
    (hsize : i.size = size) (hby : i.bytes = bytes) (hzs : z.cells.size = size) (hsz : 0 < size)
    (v : Value) (n : Nat) (xs : List Value) (hs : a.eval s = v) (hown : w.ownsRow base e size v n xs)
    (B : Nat) (A : Option Addr) (m c : Nat) (news : List Value) (hx : a.eval x = .slice A m c) (hr : Rd w B size A m news) (h1 : ∀ u ∈ news, u.oneCell' = true)
    (h63 : n + m ≤ maxLen) (hbytes : (n + m) * bytes ≤ 140737488355328) (hbase : base ≤ w.heap.size)
    (h : ∀ v' w', w'.ownsRow base e size v' (n + m) (xs ++ news) → w.grownBy w' v.ownBlock → (v'.ownBlock = v.ownBlock ∨ v'.ownBlock = some w.heap.size) → K (a.put o.dst v') w') : o.wp P a w K Q := by
  obtain ⟨v', w', hrun, h2, h3, h4⟩ := run_append_any (P := P) w base t o.type e i z size bytes ht hi hz hsize hby hzs hsz v n xs hown B A m c news hr h1 h63 hbytes hbase
  unfold Oper.wp execOp
  simp only [ho, resolve, invoke, builtin, Sem.run_bind, Sem.run_pure, Result.andThen_ok, List.map_toArray, List.map_cons, List.map_nil, hs, hx, hrun]
  exact h v' w' h2 h3 h4

theorem wpList_append_any {ops : Array Oper} {rest : List Oper} {o : Oper} {a : Act} {Q : Exit → Act → World → Prop} (hgd : o.guard = none) (s x : Operand) (t : TypeId)
    (ho : o.op = .call { callee := .builtin .append, args := #[s, x], argTypes := #[t, t] })
    (base : Nat) (e : TypeId) (i : TypeInfo) (z : Value) (size bytes : Nat) (ht : P.underlying t = some (.slice e)) (hi : P.info? e = some i) (hz : i.zero = some z)
    (hsize : i.size = size) (hby : i.bytes = bytes) (hzs : z.cells.size = size) (hsz : 0 < size)
    (v : Value) (n : Nat) (xs : List Value) (hs : a.eval s = v) (hown : w.ownsRow base e size v n xs)
    (B : Nat) (A : Option Addr) (m c : Nat) (news : List Value) (hx : a.eval x = .slice A m c) (hr : Rd w B size A m news) (h1 : ∀ u ∈ news, u.oneCell' = true)
    (h63 : n + m ≤ maxLen) (hbytes : (n + m) * bytes ≤ 140737488355328) (hbase : base ≤ w.heap.size)
    (h : ∀ v' w', w'.ownsRow base e size v' (n + m) (xs ++ news) → w.grownBy w' v.ownBlock → (v'.ownBlock = v.ownBlock ∨ v'.ownBlock = some w.heap.size) → wpList P ops Q rest (a.put o.dst v') w') : wpList P ops Q (o :: rest) a w :=
  wpList_plain hgd fun _ hK => wp_append_any w s x t ho base e i z size bytes ht hi hz hsize hby hzs hsz v n xs hs hown B A m c news hx hr h1 h63 hbytes hbase fun v' w' h2 h3 h4 => hK _ _ (h v' w' h2 h3 h4)
end

theorem ownsRow_nil_ (w : World) (base : Nat) (e : TypeId) (size : Nat) : w.ownsRow base e size (.slice none 0 0) 0 [] := ⟨by simp, .inl ⟨rfl, rfl⟩⟩

/-- An owned row's value is a slice. -/
theorem own_form {w : World} {base : Nat} {e : TypeId} {size : Nat} {v : Value} {n : Nat} {xs : List Value} (h : w.ownsRow base e size v n xs) : ∃ A c, v = .slice A n c ∧ n ≤ c ∧ c ≤ maxLen := by
  rcases h.2 with ⟨rfl, rfl⟩ | ⟨g, cap, cur, rfl, _, _, hnc, hm, _⟩
  · exact ⟨none, 0, rfl, Nat.le_refl _, Nat.zero_le _⟩
  · exact ⟨_, cap, rfl, hnc, hm⟩
/-- An owned row's block is one of the call's own. -/
theorem _root_.Go.World.ownsRow.own_lt {w : World} {base : Nat} {e : TypeId} {size : Nat} {v : Value} {n : Nat} {xs : List Value} (h : w.ownsRow base e size v n xs) (k : Nat) (hk : v.ownBlock = some k) : base ≤ k := by
  rcases h.2 with ⟨rfl, _⟩ | ⟨g, cap, cur, rfl, hg, _⟩
  · simp [Value.ownBlock] at hk
  · simp [Value.ownBlock] at hk
    omega

theorem _root_.Go.World.ownsRow.lower {w : World} {base base' : Nat} {e : TypeId} {size : Nat} {v : Value} {n : Nat} {xs : List Value} (h : w.ownsRow base e size v n xs) (hb : base' ≤ base) : w.ownsRow base' e size v n xs := by
  obtain ⟨h1, h2⟩ := h
  refine ⟨h1, ?_⟩
  rcases h2 with h2 | ⟨g, cap, cur, hv, hg, r⟩
  · exact .inl h2
  · exact .inr ⟨g, cap, cur, hv, Nat.le_trans hb hg, r⟩

/-- A row that was just laid. -/
theorem own_new (w : World) (row : Array Value) (e : TypeId) (n size : Nat) (h : row.size = n * size) (hn : n ≤ maxLen) : (w.alloc (.cells row e)).ownsRow w.heap.size e size (.slice (some ⟨w.heap.size, 0, none⟩) n n) n row.toList := by
  refine ⟨by simpa using h, .inr ⟨w.heap.size, n, row, rfl, Nat.le_refl _, ?_, Nat.le_refl _, hn, h, ?_⟩⟩
  · show (w.heap.push _)[_]? = _
    rw [Array.getElem?_push, if_pos rfl]
  · exact List.take_of_length_le (by simpa using Nat.le_of_eq h)
/-- A slice of the call's own. -/
def OwnPost (w : World) (e : TypeId) (size : Nat) (n : Nat) (xs : List Value) (en : Ending) (w' : World) : Prop :=
  ∃ A c, en = .returned (.slice A n c) ∧ Below w.heap.size w w' ∧ w'.ownsRow w.heap.size e size (.slice A n c) n xs

theorem OwnPost.of {w w' : World} {e : TypeId} {size n : Nat} {v : Value} {xs : List Value} (hb : Below w.heap.size w w') (h : w'.ownsRow w.heap.size e size v n xs) : OwnPost w e size n xs (.returned v) w' := by
  obtain ⟨A, c, rfl, _⟩ := own_form h
  exact ⟨A, c, rfl, hb, h⟩
end Go.Proofs.Ytkjlafpafmihaaa

namespace Go.Proofs.Ytkjlafpafmihaaa
open Go.ChangeShapes Go.WideShapes Go.ChangeAt Go.RowKit

/-- Block g alone was written; nothing is new. -/
structure Upd (w : World) (g : Nat) (w' : World) : Prop where
  os : w'.os = w.os
  tape : w'.tape = w.tape
  output : w'.output = w.output
  size : w'.heap.size = w.heap.size
  block : ∀ k, k ≠ g → w'.heap[k]? = w.heap[k]?

section
variable {w w' a : World} {g B : Nat}
theorem Upd.below (h : Upd w g w') (hB : B ≤ g) : Below B w w' := ⟨h.os, h.tape, h.output, Nat.le_of_eq h.size.symm, fun k hk => h.block k (by omega)⟩
theorem Upd.next (h : Upd w g w') (hb : Below B a w) (hB : B ≤ g) : Below B a w' := hb.trans (h.below hB)
theorem Upd.blk {b : Nat} {row : Array Value} {t : TypeId} (h : Upd w g w') (hb : Blk w b row t) (hne : b ≠ g) : Blk w' b row t := ⟨(h.block b hne).trans hb.blk⟩
theorem Upd.own {base : Nat} {e : TypeId} {size : Nat} {v : Value} {n : Nat} {xs : List Value} (h : Upd w g w') (ho : w.ownsRow base e size v n xs) (hne : ∀ k, v.ownBlock = some k → k ≠ g) : w'.ownsRow base e size v n xs := by
  obtain ⟨h1, h2⟩ := ho
  refine ⟨h1, ?_⟩
  rcases h2 with h2 | ⟨k, cap, cur, hv, hk, hh, r⟩
  · exact .inl h2
  · exact .inr ⟨k, cap, cur, hv, hk, (h.block k (hne k (by rw [hv]; rfl))).trans hh, r⟩
theorem Upd.rd {size n : Nat} {A : Option Addr} {xs : List Value} (h : Upd w g w') (hr : Rd w B size A n xs) (hB : B ≤ g) : Rd w' B size A n xs := hr.below (h.below hB) (Nat.le_refl _)
theorem own_size {base : Nat} {e : TypeId} {size : Nat} {v : Value} {n : Nat} {xs : List Value} (h : w.ownsRow base e size v n xs) (k : Nat) (hk : v.ownBlock = some k) : k < w.heap.size := by
  rcases h.2 with ⟨rfl, _⟩ | ⟨g', cap, cur, rfl, _, hh, _⟩
  · simp [Value.ownBlock] at hk
  · simp [Value.ownBlock] at hk
    subst hk
    rcases Nat.lt_or_ge g' w.heap.size with h | h
    · exact h
    · rw [Array.getElem?_eq_none h] at hh; cases hh
theorem upd_setCell (w : World) (a : Addr) (u : Value) : Upd w a.block (w.setCell a u) := by
  refine ⟨rfl, rfl, rfl, by simp [World.setCell], fun k hk => ?_⟩
  exact Below.heap_setCell _ _ _ _ hk
theorem upd_cell (w : World) (g k : Nat) (u : Value) : Upd w g (w.setCell ⟨g, k, none⟩ u) := upd_setCell w ⟨g, k, none⟩ u
theorem upd_drew0 (w : World) (g : Nat) : Upd w g w.drew := ⟨rfl, rfl, rfl, rfl, fun _ _ => rfl⟩
theorem Upd.trans {w w' w'' : World} {g : Nat} (h : Upd w g w') (h' : Upd w' g w'') : Upd w g w'' := ⟨h'.os.trans h.os, h'.tape.trans h.tape, h'.output.trans h.output, h'.size.trans h.size, fun k hk => (h'.block k hk).trans (h.block k hk)⟩
end

section
variable {P : Program}
end
end Go.Proofs.Ytkjlafpafmihaaa

namespace Go.Proofs.Ytkjlafpafmihaaa
open Go.ChangeShapes Go.WideShapes Go.ChangeAt Go.RowKit

inductive Fact
  | blk (b : Nat) (row : Array Value) (t : TypeId)
  | own (e : TypeId) (size : Nat) (v : Value) (n : Nat) (xs : List Value)
  | rd (size : Nat) (A : Option Addr) (n : Nat) (xs : List Value)
  | loc (b : Nat) (R : Obj → Prop)
  | rdo (size : Nat) (A : Option Addr) (n : Nat) (xs : List Value)

def Fact.foot : Fact → Option Nat
  | .blk b _ _ => some b
  | .own _ _ v _ _ => v.ownBlock
  | .rd .. => none
  | .loc b _ => some b
  | .rdo _ A _ _ => A.map (·.block)
def Fact.holds (B : Nat) (w : World) : Fact → Prop
  | .blk b row t => B ≤ b ∧ Blk w b row t
  | .own e s v n xs => w.ownsRow B e s v n xs
  | .rd s A n xs => Rd w B s A n xs
  | .loc b R => B ≤ b ∧ ∃ o, w.heap[b]? = some o ∧ R o
  | .rdo s A n xs => Rd w w.heap.size s A n xs ∧ ∀ a, A = some a → B ≤ a.block ∧ a.block < w.heap.size

structure St (B : Nat) (w0 w : World) (fs : List Fact) : Prop where
  low : Below B w0 w
  base : B ≤ w.heap.size
  all : ∀ (i : Nat) (f : Fact), fs[i]? = some f → f.holds B w
  sep : ∀ (i j : Nat) (f g : Fact), i ≠ j → fs[i]? = some f → fs[j]? = some g → ∀ k, f.foot = some k → g.foot ≠ some k

theorem own_keep {w w' : World} {base : Nat} {e : TypeId} {size : Nat} {v : Value} {n : Nat} {xs : List Value} (h : w.ownsRow base e size v n xs) (hk : ∀ k, v.ownBlock = some k → w'.heap[k]? = w.heap[k]?) : w'.ownsRow base e size v n xs := by
  obtain ⟨h1, h2⟩ := h
  refine ⟨h1, ?_⟩
  rcases h2 with h2 | ⟨k, cap, cur, hv, hk1, hh, r⟩
  · exact .inl h2
  · exact .inr ⟨k, cap, cur, hv, hk1, (hk k (by rw [hv]; rfl)).trans hh, r⟩

section
variable {B : Nat} {w0 w w' : World} {fs : List Fact}

theorem Fact.foot_lt {f : Fact} {k : Nat} (h : f.holds B w) (hk : f.foot = some k) : B ≤ k ∧ k < w.heap.size := by
  cases f with
  | blk b row t => cases hk; exact ⟨h.1, h.2.lt⟩
  | own e s v n xs => exact ⟨World.ownsRow.own_lt h k hk, own_size h k hk⟩
  | rd s A n xs => cases hk
  | loc b R =>
    cases hk
    obtain ⟨h1, o, h2, _⟩ := h
    exact ⟨h1, (Array.getElem?_eq_some_iff.1 h2).1⟩
  | rdo s A n xs =>
    cases A with
    | none => cases hk
    | some a => cases hk; exact h.2 a rfl
/-- A fact is kept where its own block is as it was, and what lies below B. -/
theorem Fact.keep {f : Fact} (h : f.holds B w) (hb : ∀ k, k < B → w'.heap[k]? = w.heap[k]?) (hk : ∀ k, f.foot = some k → w'.heap[k]? = w.heap[k]?) : f.holds B w' := by
  cases f with
  | blk b row t => exact ⟨h.1, ⟨(hk b rfl).trans h.2.blk⟩⟩
  | own e s v n xs => exact own_keep h hk
  | rd s A n xs => exact Rd.keep h fun p hp => World.cell?_of_block (hb _ hp)
  | loc b R =>
    obtain ⟨h1, o, h2, h3⟩ := h
    exact ⟨h1, o, (hk b rfl).trans h2, h3⟩
  | rdo s A n xs =>
    obtain ⟨h1, h2⟩ := h
    have hz : ∀ a, A = some a → a.block < w'.heap.size := fun a ha => by
      have h3 := hk a.block (by rw [ha]; rfl)
      rw [Array.getElem?_eq_getElem (h2 a ha).2] at h3
      exact (Array.getElem?_eq_some_iff.1 h3).1
    refine ⟨⟨h1.1, fun hn => ?_⟩, fun a ha => ⟨(h2 a ha).1, hz a ha⟩⟩
    obtain ⟨b, off, e, _, hc⟩ := h1.2 hn
    exact ⟨b, off, e, hz _ e, fun j u hu => (World.cell?_of_block (hk b (by rw [e]; rfl))).trans (hc j u hu)⟩

theorem St.start (w : World) : St w.heap.size w w [] := ⟨Below.refl _ _, Nat.le_refl _, fun i f h => by simp at h, fun i j f g _ h => by simp at h⟩
theorem St.le (S : St B w0 w fs) : w0.heap.size ≤ w.heap.size := S.low.size
theorem St.cons {f : Fact} (S : St B w0 w fs) (h : f.holds B w) (hs : ∀ k, f.foot = some k → ∀ (i : Nat) (g : Fact), fs[i]? = some g → g.foot ≠ some k) : St B w0 w (f :: fs) := by
  refine ⟨S.low, S.base, fun i g hg => ?_, fun i j g g' hij hi hj k hk hk' => ?_⟩
  · cases i with
    | zero => simp at hg; subst hg; exact h
    | succ i => exact S.all i g (by simpa using hg)
  · cases i with
    | zero =>
      simp at hi; subst hi
      cases j with
      | zero => exact hij rfl
      | succ j => exact hs k hk j g' (by simpa using hj) hk'
    | succ i =>
      cases j with
      | zero => simp at hj; subst hj; exact hs k hk' i g (by simpa using hi) hk
      | succ j => exact S.sep i j g g' (by omega) (by simpa using hi) (by simpa using hj) k hk hk'
theorem St.addRd {s : Nat} {A : Option Addr} {n : Nat} {xs : List Value} (S : St B w0 w fs) (h : Rd w B s A n xs) : St B w0 w (.rd s A n xs :: fs) := S.cons h fun k hk => by cases hk
/-- Nothing old has turned. -/
theorem St.on (S : St B w0 w fs) (hb : Below w.heap.size w w') : St B w0 w' fs := by
  refine ⟨S.low.trans (hb.mono S.base), Nat.le_trans S.base hb.size, fun i f hf => ?_, S.sep⟩
  have h := S.all i f hf
  exact Fact.keep h (fun k hk => hb.block k (by have := S.base; omega)) (fun k hk => hb.block k (Fact.foot_lt h hk).2)
theorem St.drew (S : St B w0 w fs) : St B w0 w.drew fs := S.on ⟨rfl, rfl, rfl, Nat.le_refl _, fun _ _ => rfl⟩
theorem St.drewN (S : St B w0 w fs) (q : Nat) : St B w0 (w.drewN q) fs := S.on ⟨rfl, rfl, rfl, Nat.le_refl _, fun _ _ => rfl⟩
/-- A block of cells is new. -/
theorem St.alloc {row : Array Value} {t : TypeId} (S : St B w0 w fs) : St B w0 (w.alloc (.cells row t)) (.blk w.heap.size row t :: fs) := by
  have S1 : St B w0 (w.alloc (.cells row t)) fs := S.on ((Below.refl _ _).alloc (Nat.le_refl _) _)
  refine S1.cons ⟨S.base, Blk.new _ _ _⟩ fun k hk i g hg e => ?_
  cases hk
  have := (Fact.foot_lt (S.all i g hg) e).2
  omega
/-- Some other block (a map) is new. -/
theorem St.allocO {o : Obj} (S : St B w0 w fs) : St B w0 (w.alloc o) fs := S.on ((Below.refl _ _).alloc (Nat.le_refl _) _)
/-- What a call hands back: a row that it has made. -/
theorem St.onOwn {e : TypeId} {s : Nat} {v : Value} {n : Nat} {xs : List Value} (S : St B w0 w fs) (hb : Below w.heap.size w w') (ho : w'.ownsRow w.heap.size e s v n xs) : St B w0 w' (.own e s v n xs :: fs) := by
  refine (S.on hb).cons (ho.lower S.base) fun k hk i g hg e => ?_
  have h1 := ho.own_lt k hk
  have := (Fact.foot_lt (S.all i g hg) e).2
  omega
theorem St.allocLoc {o : Obj} {R : Obj → Prop} (S : St B w0 w fs) (hR : R o) : St B w0 (w.alloc o) (.loc w.heap.size R :: fs) := by
  have S1 : St B w0 (w.alloc o) fs := S.allocO
  refine S1.cons ⟨S.base, o, by show (w.heap.push _)[_]? = _; rw [Array.getElem?_push, if_pos rfl], hR⟩ fun k hk i g hg e => ?_
  cases hk
  have := (Fact.foot_lt (S.all i g hg) e).2
  omega
theorem St.cut {f : Fact} (S : St B w0 w (f :: fs)) : St B w0 w fs :=
  ⟨S.low, S.base, fun i g hg => S.all (i + 1) g (by simpa using hg), fun i j f g hij hi hj => S.sep (i + 1) (j + 1) f g (by omega) (by simpa using hi) (by simpa using hj)⟩
/-- One fact is turned into another. -/
theorem St.turn {f f' : Fact} (i : Nat) (S : St B w0 w fs) (hi : fs[i]? = some f) (hlow : Below B w0 w') (hz : w.heap.size ≤ w'.heap.size) (hb : ∀ k, k < w.heap.size → f.foot ≠ some k → w'.heap[k]? = w.heap[k]?) (hf : f'.holds B w')
    (hff : ∀ k, f'.foot = some k → f.foot = some k ∨ w.heap.size ≤ k) : St B w0 w' (fs.set i f') := by
  have hil : i < fs.length := (List.getElem?_eq_some_iff.1 hi).1
  have hfoot : ∀ (j : Nat) (g : Fact), j ≠ i → fs[j]? = some g → ∀ k, f'.foot = some k → g.foot ≠ some k := by
    intro j g hji hj k hk e
    rcases hff k hk with h | h
    · exact S.sep j i g f hji hj hi k e h
    · have := (Fact.foot_lt (S.all j g hj) e).2
      omega
  refine ⟨hlow, Nat.le_trans S.base hz, fun j g hg => ?_, fun j j' g g' hjj hj hj' k hk hk' => ?_⟩
  · by_cases e : j = i
    · subst e
      rw [List.getElem?_set_self hil] at hg
      cases hg
      exact hf
    · rw [List.getElem?_set_ne (fun h => e h.symm)] at hg
      have h := S.all j g hg
      have hb' := S.base
      exact Fact.keep h (fun k hk => hb k (by omega) (fun e2 => by have := (Fact.foot_lt (S.all i f hi) e2).1; omega))
        (fun k hk => hb k (Fact.foot_lt h hk).2 (S.sep j i g f e hg hi k hk))
  · by_cases e : j = i
    · subst e
      rw [List.getElem?_set_self hil] at hj
      cases hj
      rw [List.getElem?_set_ne (fun h => hjj h)] at hj'
      exact hfoot j' g' (fun h => hjj h.symm) hj' k hk hk'
    · rw [List.getElem?_set_ne (fun h => e h.symm)] at hj
      by_cases e' : j' = i
      · subst e'
        rw [List.getElem?_set_self hil] at hj'
        cases hj'
        exact hfoot j g e hj k hk' hk
      · rw [List.getElem?_set_ne (fun h => e' h.symm)] at hj'
        exact S.sep j j' g g' hjj hj hj' k hk hk'
/-- A block that is known whole was written. -/
theorem St.set {b : Nat} {row row' : Array Value} {t t' : TypeId} (i : Nat) (S : St B w0 w fs) (hi : fs[i]? = some (.blk b row t)) (hu : Upd w b w') (hb : Blk w' b row' t') : St B w0 w' (fs.set i (.blk b row' t')) := by
  have h := (S.all i _ hi).1
  exact S.turn i hi (hu.next S.low h) (Nat.le_of_eq hu.size.symm) (fun k _ hk => hu.block k (fun e => hk (by rw [e]; rfl))) ⟨h, hb⟩ (fun k hk => .inl hk)
theorem St.setCell {b : Nat} {row : Array Value} {t : TypeId} (i k : Nat) (u : Value) (S : St B w0 w fs) (hi : fs[i]? = some (.blk b row t)) : St B w0 (w.setCell ⟨b, k, none⟩ u) (fs.set i (.blk b (row.setIfInBounds k u) t)) :=
  S.set i hi (upd_cell w b k u) ((S.all i _ hi).2.set_ k u)
/-- Some other block (a map) was written. -/
theorem St.setLoc {b : Nat} {R R' : Obj → Prop} {o : Obj} (i : Nat) (S : St B w0 w fs) (hi : fs[i]? = some (.loc b R)) (hu : Upd w b w') (ho : w'.heap[b]? = some o) (hR : R' o) : St B w0 w' (fs.set i (.loc b R')) := by
  have h := (S.all i _ hi).1
  exact S.turn i hi (hu.next S.low h) (Nat.le_of_eq hu.size.symm) (fun k _ hk => hu.block k (fun e => hk (by rw [e]; rfl))) ⟨h, o, ho, hR⟩ (fun k hk => .inl hk)
theorem St.loc {b : Nat} {R : Obj → Prop} (i : Nat) (S : St B w0 w fs) (hi : fs[i]? = some (.loc b R)) : ∃ o, w.heap[b]? = some o ∧ R o := (S.all i _ hi).2
/-- An own row was appended to. -/
theorem St.append {e e' : TypeId} {s s' : Nat} {v v' : Value} {n n' : Nat} {xs xs' : List Value} (i : Nat) (S : St B w0 w fs) (hi : fs[i]? = some (.own e s v n xs)) (hg : w.grownBy w' v.ownBlock) (ho : w'.ownsRow B e' s' v' n' xs')
    (hat : v'.ownBlock = v.ownBlock ∨ v'.ownBlock = some w.heap.size) : St B w0 w' (fs.set i (.own e' s' v' n' xs')) := by
  have h := S.all i _ hi
  refine S.turn i hi (S.low.grown hg S.base (fun k hk => (Fact.foot_lt h hk).1)) hg.size (fun k hk hne => hg.block k hk (fun e => hne e.symm)) ho (fun k hk => ?_)
  have hk' : v'.ownBlock = some k := hk
  rcases hat with h1 | h1
  · exact .inl (by rw [← hk', h1]; rfl)
  · rw [hk'] at h1
    cases h1
    exact .inr (Nat.le_refl _)
/-- Some facts of the list, in an order of one's own. -/
theorem St.re (is : List Nat) (S : St B w0 w fs) (hn : is.Nodup) : St B w0 w (is.filterMap fun i => fs[i]?) := by
  have key : ∀ (is : List Nat), is.Nodup → ∀ (a : Nat) (f : Fact), (is.filterMap fun i => fs[i]?)[a]? = some f → ∃ i, i ∈ is ∧ fs[i]? = some f := by
    intro is _ a f h
    have hm := List.mem_of_getElem? h
    rw [List.mem_filterMap] at hm
    obtain ⟨i, h1, h2⟩ := hm
    exact ⟨i, h1, h2⟩
  have key2 : ∀ (is : List Nat), is.Nodup → ∀ (a c : Nat) (f g : Fact), a ≠ c → (is.filterMap fun i => fs[i]?)[a]? = some f → (is.filterMap fun i => fs[i]?)[c]? = some g → ∃ (i j : Nat), i ≠ j ∧ fs[i]? = some f ∧ fs[j]? = some g := by
    intro is
    induction is with
    | nil => intro _ a c f g _ h; simp at h
    | cons i is ih =>
      intro hn a c f g hac ha hc
      obtain ⟨h1, h2⟩ := List.nodup_cons.1 hn
      rw [List.filterMap_cons] at ha hc
      cases hi : fs[i]? with
      | none => rw [hi] at ha hc; exact ih h2 a c f g hac ha hc
      | some x =>
        rw [hi] at ha hc
        cases a with
        | zero =>
          simp at ha
          cases c with
          | zero => exact absurd rfl hac
          | succ c =>
            obtain ⟨j, hj, hjg⟩ := key is h2 c g (by simpa using hc)
            exact ⟨i, j, fun e => h1 (e ▸ hj), by rw [hi, ha], hjg⟩
        | succ a =>
          cases c with
          | zero =>
            simp at hc
            obtain ⟨j, hj, hjf⟩ := key is h2 a f (by simpa using ha)
            exact ⟨j, i, fun e => h1 (e ▸ hj), hjf, by rw [hi, hc]⟩
          | succ c => exact ih h2 a c f g (by omega) (by simpa using ha) (by simpa using hc)
  refine ⟨S.low, S.base, fun a f hf => ?_, fun a c f g hac ha hc => ?_⟩
  · obtain ⟨i, _, hi⟩ := key is hn a f hf
    exact S.all i f hi
  · obtain ⟨i, j, hij, hi, hj⟩ := key2 is hn a c f g hac ha hc
    exact S.sep i j f g hij hi hj

/-- One fact is let go. -/
theorem St.del (i : Nat) (S : St B w0 w fs) : St B w0 w (fs.eraseIdx i) := by
  have key : ∀ (a : Nat) (f : Fact), (fs.eraseIdx i)[a]? = some f → fs[if a < i then a else a + 1]? = some f := by
    intro a f h
    rw [List.getElem?_eraseIdx] at h
    split at h
    · rename_i e; rw [if_pos e]; exact h
    · rename_i e; rw [if_neg e]; exact h
  refine ⟨S.low, S.base, fun a f h => S.all _ f (key a f h), fun a c f g hac ha hc => S.sep _ _ f g ?_ (key a f ha) (key c g hc)⟩
  split <;> split <;> omega
theorem St.blk {b : Nat} {row : Array Value} {t : TypeId} (i : Nat) (S : St B w0 w fs) (hi : fs[i]? = some (.blk b row t)) : Blk w b row t := (S.all i _ hi).2
theorem St.own {e : TypeId} {s : Nat} {v : Value} {n : Nat} {xs : List Value} (i : Nat) (S : St B w0 w fs) (hi : fs[i]? = some (.own e s v n xs)) : w.ownsRow B e s v n xs := S.all i _ hi
theorem St.rd {s : Nat} {A : Option Addr} {n : Nat} {xs : List Value} (i : Nat) (S : St B w0 w fs) (hi : fs[i]? = some (.rd s A n xs)) : Rd w w.heap.size s A n xs := (show Rd w B s A n xs from S.all i _ hi).more S.base
theorem St.ord {e : TypeId} {s : Nat} {A : Option Addr} {c n : Nat} {xs : List Value} (i : Nat) (S : St B w0 w fs) (hi : fs[i]? = some (.own e s (.slice A n c) n xs)) : Rd w w.heap.size s A n xs := Rd.of_own (S.own i hi)
theorem St.lt {b : Nat} {row : Array Value} {t : TypeId} (i : Nat) (S : St B w0 w fs) (hi : fs[i]? = some (.blk b row t)) : b < w.heap.size := (S.blk i hi).lt
theorem St.ne {b c : Nat} {row row' : Array Value} {t t' : TypeId} (i j : Nat) (S : St B w0 w fs) (hij : i ≠ j) (hi : fs[i]? = some (.blk b row t)) (hj : fs[j]? = some (.blk c row' t')) : b ≠ c := fun e => S.sep i j _ _ hij hi hj b rfl (by rw [e]; rfl)
def Fact.notRd : Fact → Bool
  | .rd .. => false
  | _ => true
theorem Fact.lower {f : Fact} {C : Nat} (h : f.holds C w) (hf : f.notRd = true) (hC : B ≤ C) : f.holds B w := by
  cases f with
  | blk b row t => exact ⟨Nat.le_trans hC h.1, h.2⟩
  | own e s v n xs => exact World.ownsRow.lower h hC
  | rd s A n xs => cases hf
  | loc b R => exact ⟨Nat.le_trans hC h.1, h.2⟩
  | rdo s A n xs => exact ⟨h.1, fun a ha => ⟨Nat.le_trans hC (h.2 a ha).1, (h.2 a ha).2⟩⟩
/-- What a call has made, behind what was known ahead of it. -/
theorem St.ext {gs : List Fact} (S : St B w0 w fs) (T : St w.heap.size w w' gs) (hg : gs.all Fact.notRd = true) : St B w0 w' (gs ++ fs) := by
  have S1 := S.on T.low
  induction gs with
  | nil => exact S1
  | cons g gs ih =>
    simp only [List.all_cons, Bool.and_eq_true] at hg
    refine (ih T.cut hg.2).cons (Fact.lower (T.all 0 g rfl) hg.1 S.base) fun k hk i g' hg' e => ?_
    have h1 := (Fact.foot_lt (T.all 0 g rfl) hk).1
    rcases Nat.lt_or_ge i gs.length with hi | hi
    · rw [List.getElem?_append_left hi] at hg'
      exact T.sep 0 (i + 1) g g' (by omega) rfl (by simpa using hg') k hk e
    · rw [List.getElem?_append_right hi] at hg'
      have := (Fact.foot_lt (S.all _ g' hg') e).2
      omega
theorem St.rdo {s : Nat} {A : Option Addr} {n : Nat} {xs : List Value} (i : Nat) (S : St B w0 w fs) (hi : fs[i]? = some (.rdo s A n xs)) : Rd w w.heap.size s A n xs := (S.all i _ hi).1
/-- A row of the call's own, or what is only read of one, is from now on only read, a part of it maybe. -/
theorem St.seal {e : TypeId} {s : Nat} {A : Option Addr} {c n : Nat} {xs : List Value} {A' : Option Addr} {n' : Nat} {xs' : List Value} (i : Nat) (S : St B w0 w fs) (hi : fs[i]? = some (.own e s (.slice A n c) n xs)) (hR : Rd w w.heap.size s A' n' xs')
    (hA : ∀ a', A' = some a' → ∃ a, A = some a ∧ a.block = a'.block) : St B w0 w (fs.set i (.rdo s A' n' xs')) := by
  have hf : ∀ a', A' = some a' → (Fact.own e s (.slice A n c) n xs).foot = some a'.block := fun a' ha => by
    obtain ⟨a, h1, h2⟩ := hA a' ha
    rw [h1, ← h2]
    rfl
  refine S.turn i hi S.low (Nat.le_refl _) (fun _ _ _ => rfl) ⟨hR, fun a' ha => Fact.foot_lt (S.all i _ hi) (hf a' ha)⟩ fun k hk => .inl ?_
  cases A' with
  | none => cases hk
  | some a' => cases hk; exact hf a' rfl
theorem St.sealAll {e : TypeId} {s : Nat} {A : Option Addr} {c n : Nat} {xs : List Value} (i : Nat) (S : St B w0 w fs) (hi : fs[i]? = some (.own e s (.slice A n c) n xs)) : St B w0 w (fs.set i (.rdo s A n xs)) :=
  S.seal i hi (S.ord i hi) fun a h => ⟨a, h, rfl⟩
end
end Go.Proofs.Ytkjlafpafmihaaa

namespace Go.Proofs.Ytkjlafpafmihaaa
open Go.ChangeShapes Go.WideShapes Go.ChangeAt Go.RowKit

abbrev Slots := List (Nat × Value)
def lk : Slots → Nat → Option Value
  | [], _ => none
  | (t, v) :: l, k => bif Nat.beq t k then some v else lk l k
def ev (l : Slots) : Operand → Option Value
  | .tmp t => lk l t
  | .const v => some v
  | .global g => some (.pointer (some ⟨g, 0, none⟩))
  | .func f => some (.func (.func f) #[] #[])
def Evs (l : Slots) : List Operand → List Value → Prop
  | [], [] => True
  | x :: xs, v :: vs => ev l x = some v ∧ Evs l xs vs
  | _, _ => False
def ents : Nat → List Value → Slots
  | _, [] => []
  | k, v :: vs => (k, v) :: ents (k + 1) vs
def SubL (l : Slots) : Slots → Prop
  | [] => True
  | (k, v) :: r => lk l k = some v ∧ SubL l r

/-- What is known of a frame. -/
structure Fr (N : Nat) (l : Slots) (a : Act) : Prop where
  defers : a.defers = []
  size : a.tmps.size = N
  get : ∀ k v, lk l k = some v → a.tmps[k]? = some v

section
variable {P : Program} {N : Nat} {l l' : Slots} {a : Act} {w w' w0 : World} {B : Nat} {fs : List Fact} {ops : Array Oper} {o : Oper} {rest : List Oper} {Q : Exit → Act → World → Prop} {v u p : Value} {d : Nat}

theorem Fr.ev {x : Operand} (F : Fr N l a) (h : ev l x = some v) : a.eval x = v := by
  cases x with
  | tmp t =>
    have := F.get t v h
    simp [Act.eval, this]
  | const c => simpa [Go.Proofs.Ytkjlafpafmihaaa.ev, Act.eval] using h
  | global g => simpa [Go.Proofs.Ytkjlafpafmihaaa.ev, Act.eval] using h
  | func f => simpa [Go.Proofs.Ytkjlafpafmihaaa.ev, Act.eval] using h
theorem Fr.evs (F : Fr N l a) : ∀ {xs : List Operand} {vs : List Value}, Evs l xs vs → xs.map a.eval = vs
  | [], [], _ => rfl
  | x :: xs, v :: vs, h => by
    rw [List.map_cons, F.ev h.1, F.evs h.2]
  | [], _ :: _, h => h.elim
  | _ :: _, [], h => h.elim
theorem lk_hit {k : Nat} : lk ((k, v) :: l) k = some v := by simp [lk]
theorem lk_miss {t k : Nat} (h : t ≠ k) : lk ((t, v) :: l) k = lk l k := by
  have : Nat.beq t k = false := by
    cases e : Nat.beq t k
    · rfl
    · exact absurd (Nat.eq_of_beq_eq_true e) h
  simp [lk, this]
theorem Fr.put (F : Fr N l a) (hd : Nat.blt d N = true) (v : Value) : Fr N ((d, v) :: l) (a.put (some d) v) := by
  have hdN : d < N := by simpa [Nat.blt_eq] using hd
  refine ⟨F.defers, by simp [Act.put, F.size], fun k u hk => ?_⟩
  simp only [Act.put]
  by_cases e : d = k
  · subst e
    rw [lk_hit] at hk
    rw [Array.getElem?_setIfInBounds_self_of_lt (by rw [F.size]; exact hdN)]
    exact hk
  · rw [lk_miss e] at hk
    rw [Array.getElem?_setIfInBounds_ne e]
    exact F.get k u hk
theorem lk_sub : ∀ {l' : Slots}, SubL l l' → ∀ k v, lk l' k = some v → lk l k = some v
  | [], _, k, v, h => by cases h
  | (t, u) :: r, hs, k, v, h => by
    by_cases e : t = k
    · subst e
      rw [lk_hit] at h
      cases h
      exact hs.1
    · rw [lk_miss e] at h
      exact lk_sub hs.2 k v h
theorem Fr.sub (F : Fr N l a) (h : SubL l l') : Fr N l' a := ⟨F.defers, F.size, fun k v hk => F.get k v (lk_sub h k v hk)⟩
theorem lk_ents : ∀ (vs : List Value) (m k : Nat) (v : Value), lk (ents m vs) k = some v → m ≤ k ∧ vs[k - m]? = some v
  | [], _, _, _, h => by cases h
  | u :: vs, m, k, v, h => by
    by_cases e : m = k
    · subst e
      rw [ents, lk_hit] at h
      exact ⟨Nat.le_refl _, by simpa using h⟩
    · rw [ents, lk_miss e] at h
      obtain ⟨h1, h2⟩ := lk_ents vs (m + 1) k v h
      refine ⟨by omega, ?_⟩
      rw [show k - m = (k - (m + 1)) + 1 by omega]
      simpa using h2
theorem Fr.enter (vs : List Value) (hN : Nat.ble vs.length N = true) : Fr N (ents 0 vs) { tmps := vs.toArray ++ Array.replicate (N - vs.toArray.size) undef, defers := [] } := by
  have h : vs.length ≤ N := by simpa using hN
  refine ⟨rfl, by simp; omega, fun k v hk => ?_⟩
  have := (lk_ents vs 0 k v hk).2
  simp only [Nat.sub_zero] at this
  have hl : k < vs.length := (List.getElem?_eq_some_iff.1 this).1
  rw [Array.getElem?_append_left (by simpa using hl)]
  simpa using this

/-- Code, a list of operations, an exit: from every frame of which so much is known. -/
def wC (P : Program) (N : Nat) (c : Code) (Q : Exit → Act → World → Prop) (l : Slots) (w : World) : Prop := ∀ a, Fr N l a → c.wp P Q a w
def wL (P : Program) (N : Nat) (ops : Array Oper) (Q : Exit → Act → World → Prop) (rest : List Oper) (l : Slots) (w : World) : Prop := ∀ a, Fr N l a → wpList P ops Q rest a w
def wQ (N : Nat) (Q : Exit → Act → World → Prop) (e : Exit) (l : Slots) (w : World) : Prop := ∀ a, Fr N l a → Q e a w

theorem calls_of_wC {f : FuncId} {fn : Func} {c : Code} {vs : List Value} {R : Ending → World → Prop} (hf : P.funcs[f]? = some fn) (hb : fn.body = some c) (hn : fn.ntmps = N) (hN : Nat.ble vs.length N = true)
    (h : wC P N c (bodyPost P fn R) (ents 0 vs) w) : Calls P f vs.toArray w R := calls_of_wp hf hb (by rw [hn]; exact h _ (Fr.enter vs hN))

theorem wC_seq {x y : Code} (h : wC P N x (Exit.then (y.wp P Q) Q) l w) : wC P N (.seq x y) Q l w := fun a F => wp_seq (h a F)
theorem wC_region {id : Nat} {os : List Oper} (h : wL P N os.toArray Q os l w) : wC P N (.region id os.toArray false) Q l w := fun a F => wp_region_lit (h a F)
theorem wC_cond_t {c : Operand} {x y : Code} (hc : ev l c = some (.bool true)) (h : wC P N x Q l w) : wC P N (.cond c x y) Q l w := fun a F => wp_cond_true (F.ev hc) (h a F)
theorem wC_cond_f {c : Operand} {x y : Code} (hc : ev l c = some (.bool false)) (h : wC P N y Q l w) : wC P N (.cond c x y) Q l w := fun a F => wp_cond_false (F.ev hc) (h a F)
theorem wC_block {id : Nat} {c : Code} (h : wC P N c (Exit.inBlock id Q) l w) : wC P N (.block id c) Q l w := fun a F => wp_block (h a F)
theorem wC_exit {id : Nat} (h : wQ N Q (.exit id) l w) : wC P N (.exit id) Q l w := fun a F => wp_exit (h a F)
theorem wC_skip (h : wQ N Q .normal l w) : wC P N .skip Q l w := fun a F => wp_skip (h a F)
theorem wC_ret (h : wQ N Q .ret l w) : wC P N .ret Q l w := fun a F => wp_ret (h a F)
theorem wC_sub {c : Code} (hs : SubL l l') (h : wC P N c Q l' w) : wC P N c Q l w := fun a F => h a (F.sub hs)
theorem wQ_sub {e : Exit} (hs : SubL l l') (h : wQ N Q e l' w) : wQ N Q e l w := fun a F => h a (F.sub hs)

theorem wQ_then {y : Code} (h : wC P N y Q l w) : wQ N (Exit.then (y.wp P Q) Q) .normal l w := h
theorem wQ_then_exit {K : Act → World → Prop} {id : Nat} (h : wQ N Q (.exit id) l w) : wQ N (Exit.then K Q) (.exit id) l w := h
theorem wQ_then_ret {K : Act → World → Prop} (h : wQ N Q .ret l w) : wQ N (Exit.then K Q) .ret l w := h
theorem wQ_blk_n {id : Nat} (h : wQ N Q .normal l w) : wQ N (Exit.inBlock id Q) .normal l w := h
theorem wQ_blk_ret {id : Nat} (h : wQ N Q .ret l w) : wQ N (Exit.inBlock id Q) .ret l w := h
theorem wQ_blk_same {id : Nat} (h : wQ N Q .normal l w) : wQ N (Exit.inBlock id Q) (.exit id) l w := fun a F => by
  show if id = id then _ else _
  rw [if_pos rfl]
  exact h a F
/-- A loop: what the head's frame holds is a function of x. -/
theorem wC_loop {X : Type} {c : Code} (L : X → Slots) (I : X → World → Prop) (m : X → Nat) (x0 : X) (hI : I x0 w) (hs : SubL l (L x0))
    (round : ∀ x w, I x w → wC P N c (Exit.then (fun a' w' => ∃ x', Fr N (L x') a' ∧ I x' w' ∧ m x' < m x) Q) (L x) w) : wC P N (.loop c) Q l w := by
  intro a F b k cs
  have key : ∀ n x a w, m x = n → Fr N (L x) a → I x w → ∃ e a' w', Q e a' w' ∧ Arrives P (lone (b.at a (.code c :: .inLoop c :: k)) cs w) b k cs e a' w' := by
    intro n
    induction n using Nat.strongRecOn with
    | _ n ih =>
      intro x a w hn hF hI
      obtain ⟨e, a₁, w₁, hq, harr⟩ := round x w hI a hF b (.inLoop c :: k) cs
      cases e with
      | normal =>
        obtain ⟨x', hF', hI', hlt⟩ := hq
        obtain ⟨e₂, a₂, w₂, hq₂, harr₂⟩ := ih (m x') (hn ▸ hlt) x' a₁ w₁ rfl hF' hI'
        exact ⟨e₂, a₂, w₂, hq₂, .of_steps (Steps.trans harr (.one step_inLoop)) harr₂⟩
      | exit id => exact ⟨_, a₁, w₁, hq, .pass (x := .inLoop c) rfl (fun _ _ => .inl (by simp)) harr⟩
      | goto l => exact ⟨_, a₁, w₁, hq, .pass (x := .inLoop c) rfl (fun _ _ => .inl (by simp)) harr⟩
      | ret => exact ⟨_, a₁, w₁, hq, .pass (x := .inLoop c) rfl (fun _ _ => .inl (by simp)) harr⟩
      | panic ch => exact ⟨_, a₁, w₁, hq, .pass (x := .inLoop c) rfl (fun _ _ => .inl (by simp)) harr⟩
      | outgrown => exact ⟨_, a₁, w₁, hq, .pass (x := .inLoop c) rfl (fun _ _ => .inl (by simp)) harr⟩
  obtain ⟨e, a', w', hq, harr⟩ := key _ x0 a w rfl (F.sub hs) hI
  exact ⟨e, a', w', hq, .of_steps (.one step_loop) harr⟩
theorem wQ_round {X : Type} {L : X → Slots} {I : X → World → Prop} {m : X → Nat} {x : X} (x' : X) (hI : I x' w) (hs : SubL l (L x')) (hm : m x' < m x) :
    wQ N (Exit.then (fun a' w' => ∃ x', Fr N (L x') a' ∧ I x' w' ∧ m x' < m x) Q) .normal l w := fun _ F => ⟨x', F.sub hs, hI, hm⟩
/-! ### Results -/
def ResOk (P : Program) (l : Slots) (w : World) : List ResultVar → List Value → Prop
  | [], [] => True
  | .tmp t :: rs, v :: vs => lk l t = some v ∧ ResOk P l w rs vs
  | .cell t ty :: rs, v :: vs => (∃ ad, lk l t = some (.pointer (some ad)) ∧ (loadVar ty ad).run P w = .ok v w) ∧ ResOk P l w rs vs
  | _, _ => False
def tupOf : List Value → Value
  | [v] => v
  | vs => .tuple vs.toArray
def resF (tmps : Array Value) : ResultVar → Sem Value
  | .tmp t => pure (tmps.getD t undef)
  | .cell ad t => do loadVar t (← asAddr (tmps.getD ad undef))
theorem resF_tmp (F : Fr N l a) {t : Tmp} (h : lk l t = some v) : (resF a.tmps (.tmp t)).run P w = .ok v w := by
  have h2 := F.get t v h
  simp [resF, h2]
theorem resF_cell (F : Fr N l a) {t : Tmp} {ty : TypeId} {ad : Addr} (h : lk l t = some (.pointer (some ad))) (h3 : (loadVar ty ad).run P w = .ok v w) : (resF a.tmps (.cell t ty)).run P w = .ok v w := by
  have h2 := F.get t _ h
  simp [resF, h2, asAddr, h3]
theorem mapM_res (F : Fr N l a) : ∀ {rs : List ResultVar} {vs : List Value}, ResOk P l w rs vs → (rs.mapM (resF a.tmps)).run P w = .ok vs w
  | [], [], _ => rfl
  | .tmp t :: rs, v :: vs, h => by
    have h1 := mapM_res F h.2
    have h2 := resF_tmp (P := P) (w := w) F h.1
    rw [List.mapM_cons]
    simp only [Sem.run_bind, h1, h2, Sem.run_pure, Result.andThen]
  | .cell t ty :: rs, v :: vs, h => by
    obtain ⟨⟨ad, h2, h3⟩, h4⟩ := h
    have h1 := mapM_res F h4
    have h2 := resF_cell F h2 h3
    rw [List.mapM_cons]
    simp only [Sem.run_bind, h1, h2, Sem.run_pure, Result.andThen]
  | [], _ :: _, h => h.elim
  | .tmp _ :: _, [], h => h.elim
  | .cell _ _ :: _, [], h => h.elim
theorem results_run {fn : Func} {rs : List ResultVar} {vs : List Value} (F : Fr N l a) (hr : fn.results = rs.toArray) (h : ResOk P l w rs vs) : (results fn a.tmps).run P w = .ok (tupOf vs) w := by
  have h1 := mapM_res F h
  have e : results fn a.tmps = (fn.results.mapM (resF a.tmps)) >>= fun vs => pure (if h : vs.size = 1 then vs[0] else .tuple vs) := rfl
  have e2 : (List.toArray <$> rs.mapM (resF a.tmps)) = (rs.mapM (resF a.tmps)) >>= fun x => (pure x.toArray : Sem (Array Value)) := rfl
  rw [e, hr, List.mapM_toArray, e2]
  simp only [Sem.run_bind, h1, Sem.run_pure, Result.andThen]
  match vs with
  | [] => simp [tupOf]
  | [v] => simp [tupOf]
  | v :: u :: vs => simp [tupOf]
theorem wQ_post {fn : Func} {R : Ending → World → Prop} {rs : List ResultVar} {vs : List Value} (hr : fn.results = rs.toArray) (h : ResOk P l w rs vs) (hR : R (.returned (tupOf vs)) w) : wQ N (bodyPost P fn R) .ret l w :=
  fun _ F => bodyPost_ret (results_run F hr h) F.defers hR
theorem res_row {b : Nat} {row : Array Value} {t ty : TypeId} {ds : TypeDesc} (i : Nat) (S : St B w0 w fs) (hi : fs[i]? = some (.blk b row t)) (hu : P.underlying ty = some ds) (hd : ds.isRow = true) (hz : (P.info? ty).map (·.size) = some row.size) :
    (loadVar ty ⟨b, 0, none⟩).run P w = .ok (.agg row) w := run_loadVar_row w b t ty row (0, 0) ds (S.blk i hi).blk hu (by cases ds <;> simp_all) hz
end
end Go.Proofs.Ytkjlafpafmihaaa

namespace Go.Proofs.Ytkjlafpafmihaaa
open Go.ChangeShapes Go.WideShapes Go.RowKit

def setAll : Array Value → Nat → List Value → Array Value
  | cur, _, [] => cur
  | cur, o, v :: vs => setAll (cur.setIfInBounds o v) (o + 1) vs
theorem setAll_size : ∀ (vs : List Value) (cur : Array Value) (o : Nat), (setAll cur o vs).size = cur.size
  | [], _, _ => rfl
  | v :: vs, cur, o => by rw [setAll, setAll_size vs]; simp
theorem setAll_get : ∀ (vs : List Value) (cur : Array Value) (o k : Nat), o + vs.length ≤ cur.size → (setAll cur o vs)[k]? = if k < o then cur[k]? else if k < o + vs.length then vs[k - o]? else cur[k]?
  | [], cur, o, k, _ => by
    simp only [setAll, List.length_nil, Nat.add_zero]
    split
    · rfl
    · rfl
  | v :: vs, cur, o, k, h => by
    simp only [List.length_cons] at h
    rw [setAll, setAll_get vs _ _ _ (by simp; omega)]
    by_cases h1 : k < o
    · rw [if_pos (by omega), if_pos h1, Array.getElem?_setIfInBounds_ne (by omega)]
    · by_cases h2 : k = o
      · subst h2
        rw [if_pos (by omega), if_neg h1, if_pos (by simp)]
        rw [Array.getElem?_setIfInBounds_self_of_lt (by omega)]
        simp
      · rw [if_neg (by omega), if_neg h1]
        by_cases h3 : k < o + 1 + vs.length
        · rw [if_pos h3, if_pos (by simp; omega), show k - o = (k - (o + 1)) + 1 by omega]
          simp
        · rw [if_neg h3, if_neg (by simp; omega), Array.getElem?_setIfInBounds_ne (by omega)]
theorem setAll_list (vs : List Value) (cur : Array Value) (o : Nat) (h : o + vs.length ≤ cur.size) : (setAll cur o vs).toList = cur.toList.take o ++ vs ++ cur.toList.drop (o + vs.length) := by
  apply List.ext_getElem?
  intro k
  rw [Array.getElem?_toList, setAll_get vs cur o k h]
  have hl : (cur.toList.take o).length = o := by simp; omega
  by_cases h1 : k < o
  · rw [if_pos h1, List.append_assoc, List.getElem?_append_left (by omega), List.getElem?_take_of_lt h1]
    simp
  · rw [if_neg h1]
    by_cases h2 : k < o + vs.length
    · rw [if_pos h2, List.append_assoc, List.getElem?_append_right (by omega), List.getElem?_append_left (by omega), hl]
    · rw [if_neg h2, List.getElem?_append_right (by simp; omega), List.getElem?_drop]
      simp only [List.length_append, hl]
      rw [show o + vs.length + (k - (o + vs.length)) = k by omega]
      simp
theorem blk_setCells {t : TypeId} : ∀ (vs : List Value) (o : Nat) {w : World} {g : Nat} {cur : Array Value}, Blk w g cur t → Blk (w.setCells g o vs) g (setAll cur o vs) t
  | [], _, _, _, _, h => h
  | v :: vs, o, _, _, _, h => blk_setCells vs (o + 1) (h.set_ o v)
theorem Upd.refl (w : World) (g : Nat) : Upd w g w := ⟨rfl, rfl, rfl, rfl, fun _ _ => rfl⟩
theorem upd_setCells (g : Nat) : ∀ (vs : List Value) (o : Nat) (w : World), Upd w g (w.setCells g o vs)
  | [], _, w => Upd.refl w g
  | v :: vs, o, w => (upd_cell w g o v).trans (upd_setCells g vs (o + 1) _)

end Go.Proofs.Ytkjlafpafmihaaa

namespace Go.Proofs.Ytkjlafpafmihaaa
open Go.ChangeShapes Go.WideShapes Go.ChangeAt Go.RowKit

/-- The operation yields v, the world as it was. -/
def Yld (P : Program) (N : Nat) (l : Slots) (o : Oper) (w : World) (v : Value) : Prop := ∀ a, Fr N l a → (execOp a.eval o).run P w = .ok (.value v) w
/-- The operation yields v, the world w'. -/
def Does (P : Program) (N : Nat) (l : Slots) (o : Oper) (w : World) (v : Value) (w' : World) : Prop := ∀ a, Fr N l a → (execOp a.eval o).run P w = .ok (.value v) w'
/-- The operation yields nothing, the world w'. -/
def Eff (P : Program) (N : Nat) (l : Slots) (o : Oper) (w w' : World) : Prop := ∀ a, Fr N l a → (execOp a.eval o).run P w = .ok .skip w'
def Enter (P : Program) (N : Nat) (l : Slots) (o : Oper) (w : World) (f : FuncId) (vs : List Value) : Prop := ∀ a, Fr N l a → (execOp a.eval o).run P w = .ok (.enter f vs.toArray) w
def Wanted (N : Nat) (ops : Array Oper) (l : Slots) (o : Oper) (b : Bool) : Prop := ∀ a, Fr N l a → Region.wanted o (yielded ops a.tmps) = b
def yl : Value → Option Bool
  | .bool b => some b
  | _ => none

section
variable {P : Program} {N : Nat} {l l' : Slots} {a : Act} {w w' w0 : World} {B : Nat} {fs fs' : List Fact} {ops : Array Oper} {o : Oper} {rest : List Oper} {Q : Exit → Act → World → Prop} {v u p : Value} {d : Nat}

theorem wn (hg : o.guard = none) : Wanted N ops l o true := fun a F => by simp [Region.wanted, hg]
theorem wg {j : Nat} {b r : Bool} {t : Nat} (hg : o.guard = some (j, b)) (hj : (ops[j]?).bind (·.dst) = some t) (hv : lk l t = some v) (hr : (yl v == some b) = r) : Wanted N ops l o r := fun a F => by
  have h1 := F.get t v hv
  have h2 : yielded ops a.tmps j = yl v := by
    unfold yielded
    rw [hj]
    simp only [Option.bind_some, h1]
    cases v <;> rfl
  simp only [Region.wanted, hg, h2]
  exact hr

theorem wL_nil (h : wQ N Q .normal l w) : wL P N ops Q [] l w := h
theorem wL_val (hw : Wanted N ops l o true) (hd : o.dst = some d) (hN : Nat.blt d N = true) (hy : Yld P N l o w v) (h : wL P N ops Q rest ((d, v) :: l) w) : wL P N ops Q (o :: rest) l w := fun a F => wpList_step fun K hK => by
  rw [if_pos (hw a F)]
  unfold Oper.wp
  rw [hy a F]
  show K (a.put o.dst v) w
  rw [hd]
  exact hK _ _ (h _ (F.put hN v))
theorem wL_to (hw : Wanted N ops l o true) (hd : o.dst = some d) (hN : Nat.blt d N = true) (hy : Does P N l o w v w') (h : wL P N ops Q rest ((d, v) :: l) w') : wL P N ops Q (o :: rest) l w := fun a F => wpList_step fun K hK => by
  rw [if_pos (hw a F)]
  unfold Oper.wp
  rw [hy a F]
  show K (a.put o.dst v) w'
  rw [hd]
  exact hK _ _ (h _ (F.put hN v))
theorem wL_eff (hw : Wanted N ops l o true) (hd : o.dst = none) (hy : Eff P N l o w w') (h : wL P N ops Q rest l w') : wL P N ops Q (o :: rest) l w := fun a F => wpList_step fun K hK => by
  rw [if_pos (hw a F)]
  unfold Oper.wp
  rw [hy a F]
  show K (a.put o.dst undef) w'
  rw [hd]
  exact hK _ _ (h _ F)
theorem wL_skip (hw : Wanted N ops l o false) (hd : o.dst = some d) (hN : Nat.blt d N = true) (h : wL P N ops Q rest ((d, undef) :: l) w) : wL P N ops Q (o :: rest) l w := fun a F => wpList_step fun K hK => by
  rw [if_neg (by rw [hw a F]; simp), hd]
  exact hK _ _ (h _ (F.put hN undef))
/-- A call. -/
theorem wL_call {f : FuncId} {vs : List Value} {R : Ending → World → Prop} (hw : Wanted N ops l o true) (hd : o.dst = some d) (hN : Nat.blt d N = true) (he : Enter P N l o w f vs) (hc : Calls P f vs.toArray w R)
    (h : ∀ e w', R e w' → ∃ v, e = .returned v ∧ wL P N ops Q rest ((d, v) :: l) w') : wL P N ops Q (o :: rest) l w := fun a F => wpList_step fun K hK => by
  rw [if_pos (hw a F)]
  unfold Oper.wp
  rw [he a F]
  refine hc.mono fun e w' hr => ?_
  obtain ⟨v, rfl, hv⟩ := h e w' hr
  show K (a.put o.dst v) w'
  rw [hd]
  exact hK _ _ (hv _ (F.put hN v))
/-! ### What an operation yields -/
theorem enters_of_ {f : FuncId} {fn : Func} {c : Code} (hf : P.funcs[f]? = some fn) (hname : (fn.name == "runtime.NumGoroutine") = false) (hb : fn.body = some c) (args : Array Value) (w : World) : (callFunc f args).run P w = .ok (.enter f args) w := by
  have h1 : fn.name ≠ "runtime.NumGoroutine" := by simpa using hname
  simp [callFunc, hf, h1, hb, mark]
theorem e_call {f : FuncId} {xs : List Operand} {ts : Array TypeId} {vs : List Value} (ho : o.op = .call { callee := .value (.func f), args := xs.toArray, argTypes := ts }) (heg : ∀ args w, (callFunc f args).run P w = .ok (.enter f args) w) (hx : Evs l xs vs) : Enter P N l o w f vs := fun a F => by
  have h1 := F.evs hx
  unfold execOp
  simp only [ho, resolve, Deferred.ofValue, invoke, Sem.run_bind, Sem.run_pure, Result.andThen_ok, List.map_toArray, h1, Act.eval]
  simp [heg]
theorem y_move {x : Operand} (ho : o.op = .move x) (hx : ev l x = some v) : Yld P N l o w v := fun a F => by
  unfold execOp
  simp only [ho, F.ev hx, Sem.run_pure]
theorem y_assign {x : Operand} (ho : o.op = .assign x) (hx : ev l x = some v) : Yld P N l o w v := fun a F => by
  unfold execOp
  simp only [ho, F.ev hx, Sem.run_pure]
theorem y_pick_t {c x y : Operand} (ho : o.op = .pick c x y) (hc : ev l c = some (.bool true)) (hx : ev l x = some v) : Yld P N l o w v := fun a F => by
  unfold execOp
  simp only [ho, F.ev hx, F.ev hc, asBool, Sem.run_bind, Sem.run_pure, Result.andThen_ok, if_true]
theorem y_pick_f {c x y : Operand} (ho : o.op = .pick c x y) (hc : ev l c = some (.bool false)) (hx : ev l y = some v) : Yld P N l o w v := fun a F => by
  unfold execOp
  simp only [ho, F.ev hx, F.ev hc, asBool, Sem.run_bind, Sem.run_pure, Result.andThen_ok]
  simp
theorem y_load {t : TypeId} {x : Operand} (ho : o.op = .load t x) (hx : ev l x = some p) (hr : (Instr.loadAt t p).run P w = .ok v w) : Yld P N l o w v := fun a F => by
  unfold execOp
  simp only [ho, F.ev hx, Sem.run_bind, hr, Result.andThen_ok, Sem.run_pure]
theorem y_fieldAddr {s : TypeId} {x : Operand} {f : Nat} (ho : o.op = .fieldAddr s x f) (hx : ev l x = some p) (hr : (Instr.fieldAt s p f).run P w = .ok v w) : Yld P N l o w v := fun a F => by
  unfold execOp
  simp only [ho, F.ev hx, Sem.run_bind, hr, Result.andThen_ok, Sem.run_pure]
theorem y_indexAddr {s : TypeId} {x y : Operand} {q : Value} (ho : o.op = .indexAddr s x y) (hx : ev l x = some p) (hy : ev l y = some q) (hr : (Instr.indexAt s p q).run P w = .ok v w) : Yld P N l o w v := fun a F => by
  unfold execOp
  simp only [ho, F.ev hx, F.ev hy, Sem.run_bind, hr, Result.andThen_ok, Sem.run_pure]
theorem y_index {s : TypeId} {x y : Operand} {q : Value} (ho : o.op = .index s x y) (hx : ev l x = some p) (hy : ev l y = some q) (hr : (Instr.index s p q).run P w = .ok v w) : Yld P N l o w v := fun a F => by
  unfold execOp
  simp only [ho, F.ev hx, F.ev hy, Sem.run_bind, hr, Result.andThen_ok, Sem.run_pure]
def EvO (l : Slots) : Option Operand → Option Value → Prop
  | none, none => True
  | some x, some v => ev l x = some v
  | _, _ => False
theorem Fr.evo (F : Fr N l a) {x : Option Operand} {x' : Option Value} (h : EvO l x x') : x.map a.eval = x' := by
  cases x <;> cases x'
  · rfl
  · exact h.elim
  · exact h.elim
  · simpa using F.ev h
theorem y_slice {s : TypeId} {x : Operand} {lo hi mx : Option Operand} {lo' hi' mx' : Option Value} (ho : o.op = .slice s x lo hi mx) (hx : ev l x = some p) (h1 : EvO l lo lo') (h2 : EvO l hi hi') (h3 : EvO l mx mx')
    (hr : (Instr.sliceAt s p lo' hi' mx').run P w = .ok v w) : Yld P N l o w v := fun a F => by
  unfold execOp
  simp only [ho, F.ev hx, F.evo h1, F.evo h2, F.evo h3, Sem.run_bind, hr, Result.andThen_ok, Sem.run_pure]
theorem y_binop {op : BinOp} {t t' : TypeId} {x y : Operand} {q : Value} (ho : o.op = .binOp op t x y t') (hx : ev l x = some p) (hy : ev l y = some q) (hr : (do eqGuard op t x y p q; binOp op t p q : Sem Value).run P w = .ok v w) : Yld P N l o w v := fun a F => by
  unfold execOp
  simp only [ho, F.ev hx, F.ev hy, Sem.run_bind] at hr ⊢
  rw [hr]
  simp only [Result.andThen_ok, Sem.run_pure]
theorem y_unop {op : UnOp} {t : TypeId} {x : Operand} (ho : o.op = .unOp op t x) (hx : ev l x = some p) (hr : (Op.unary op p).run P w = .ok v w) : Yld P N l o w v := fun a F => by
  unfold execOp
  simp only [ho, F.ev hx, Sem.run_bind, hr, Result.andThen_ok, Sem.run_pure]
theorem y_extract {x : Operand} {k : Nat} {vs : Array Value} (ho : o.op = .extract x k) (hx : ev l x = some (.tuple vs)) (hk : vs[k]? = some v) : Yld P N l o w v := fun a F => by
  unfold execOp
  simp only [ho, F.ev hx, Instr.extract, Sem.run_bind, hk]
  simp [Result.andThen]
theorem y_nil {x : Operand} (ho : o.op = .nilCheck x) (hx : ev l x = some p) (hp : match p with | .pointer (some _) => True | .func (.func _) _ _ => True | .func (.via ..) _ _ => True | _ => False) : Yld P N l o w p := fun a F => by
  unfold execOp
  simp only [ho, F.ev hx]
  cases p with
  | pointer ad => cases ad with
    | none => exact hp.elim
    | some ad => rfl
  | func fn f c => cases fn <;> first | rfl | exact hp.elim
  | _ => exact hp.elim
theorem y_builtin {b : Builtin} {xs : List Operand} {ts : Array TypeId} {vs : List Value} (ho : o.op = .call { callee := .builtin b, args := xs.toArray, argTypes := ts }) (hx : Evs l xs vs)
    (hr : ∀ cs, (builtin b ts o.type cs vs.toArray).run P w = .ok (.value v) w) : Yld P N l o w v := fun a F => by
  have h1 := F.evs hx
  unfold execOp
  simp only [ho, resolve, invoke, Sem.run_bind, Sem.run_pure, Result.andThen_ok, List.map_toArray, h1, hr]
theorem d_builtin {b : Builtin} {xs : List Operand} {ts : Array TypeId} {vs : List Value} (ho : o.op = .call { callee := .builtin b, args := xs.toArray, argTypes := ts }) (hx : Evs l xs vs)
    (hr : ∀ cs, (builtin b ts o.type cs vs.toArray).run P w = .ok (.value v) w') : Does P N l o w v w' := fun a F => by
  have h1 := F.evs hx
  unfold execOp
  simp only [ho, resolve, invoke, Sem.run_bind, Sem.run_pure, Result.andThen_ok, List.map_toArray, h1, hr]
def EvP (l : Slots) : List (Nat × Operand) → List (Nat × Value) → Prop
  | [], [] => True
  | (i, x) :: xs, (j, v) :: vs => i = j ∧ ev l x = some v ∧ EvP l xs vs
  | _, _ => False
theorem Fr.evp (F : Fr N l a) : ∀ {xs : List (Nat × Operand)} {vs : List (Nat × Value)}, EvP l xs vs → (xs.map fun x => (x.1, a.eval x.2)) = vs
  | [], [], _ => rfl
  | (i, x) :: xs, (j, v) :: vs, h => by
    obtain ⟨rfl, h1, h2⟩ := h
    rw [List.map_cons, F.ev h1, F.evp h2]
  | [], _ :: _, h => h.elim
  | _ :: _, [], h => h.elim
theorem y_build {t : TypeId} {xs : List (Nat × Operand)} {vs : List (Nat × Value)} (ho : o.op = .build t xs.toArray) (hx : EvP l xs vs) (hr : (Instr.build t vs.toArray).run P w = .ok v w) : Yld P N l o w v := fun a F => by
  have h1 := F.evp hx
  unfold execOp
  simp only [ho, List.map_toArray, h1, Sem.run_bind, hr, Result.andThen_ok, Sem.run_pure]
theorem d_buildSlice {t : TypeId} {n : Nat} {xs : List (Nat × Operand)} {vs : List (Nat × Value)} (ho : o.op = .buildSlice t n xs.toArray) (hx : EvP l xs vs) (hr : (Instr.buildSlice t n vs.toArray).run P w = .ok v w') : Does P N l o w v w' := fun a F => by
  have h1 := F.evp hx
  unfold execOp
  simp only [ho, List.map_toArray, h1, Sem.run_bind, hr, Result.andThen_ok, Sem.run_pure]
theorem d_alloc {t : TypeId} {z : Value} {row : Array Value} (ho : o.op = .alloc t) (hz : (zeroValue t).run P w = .ok z w) (hc : z.cells = row) : Does P N l o w (.pointer (some ⟨w.heap.size, 0, none⟩)) (w.alloc (.cells row t)) := fun a F => by
  subst hc
  unfold execOp
  simp [ho, Instr.alloc, hz, newVar, newRow, Result.andThen, Sem.run_bind]
theorem d_box {t : TypeId} {x : Operand} {row : Array Value} (ho : o.op = .box t x) (hx : ev l x = some p) (hc : p.cells = row) : Does P N l o w (.pointer (some ⟨w.heap.size, 0, none⟩)) (w.alloc (.cells row t)) := fun a F => by
  subst hc
  unfold execOp
  simp [ho, Instr.box, F.ev hx, newVar, newRow, Result.andThen, Sem.run_bind]
theorem d_makeMap {t : TypeId} (ho : o.op = .makeMap t none) (hr : (Instr.makeMap t none).run P w = .ok v w') : Does P N l o w v w' := fun a F => by
  unfold execOp
  simp only [ho, Option.map_none, Sem.run_bind, hr, Result.andThen_ok, Sem.run_pure]
theorem f_store {t : TypeId} {x y : Operand} {q : Value} (ho : o.op = .store t x y) (hx : ev l x = some p) (hy : ev l y = some q) (hr : (Instr.storeAt t p q).run P w = .ok () w') : Eff P N l o w w' := fun a F => by
  unfold execOp
  simp only [ho, F.ev hx, F.ev hy, Sem.run_bind, hr, Result.andThen_ok, Sem.run_pure]
theorem f_mapUpdate {t : TypeId} {m x y : Operand} {q r : Value} (ho : o.op = .mapUpdate t m x y) (hm : ev l m = some p) (hx : ev l x = some q) (hy : ev l y = some r) (hr : (Instr.mapUpdate t p q r).run P w = .ok () w') : Eff P N l o w w' := fun a F => by
  unfold execOp
  simp only [ho, F.ev hm, F.ev hx, F.ev hy, Sem.run_bind, hr, Result.andThen_ok, Sem.run_pure]

/-! ### The runs -/
section runs
variable {t s : TypeId} {xo yo : Operand} {k : IntKind} {x y : Int}
theorem r_lss_t (h : x < y) : (do eqGuard .lss t xo yo (.int k x) (.int k y); binOp .lss t (.int k x) (.int k y) : Sem Value).run P w = .ok (.bool true) w := by simp [binOp, Op.intCmp, h, eqGuard_lss]
theorem r_lss_f (h : ¬ x < y) : (do eqGuard .lss t xo yo (.int k x) (.int k y); binOp .lss t (.int k x) (.int k y) : Sem Value).run P w = .ok (.bool false) w := by simp [binOp, Op.intCmp, eqGuard_lss]; omega
theorem r_leq_t (h : x ≤ y) : (do eqGuard .leq t xo yo (.int k x) (.int k y); binOp .leq t (.int k x) (.int k y) : Sem Value).run P w = .ok (.bool true) w := by simp [binOp, Op.intCmp, h, eqGuard_leq]
theorem r_leq_f (h : ¬ x ≤ y) : (do eqGuard .leq t xo yo (.int k x) (.int k y); binOp .leq t (.int k x) (.int k y) : Sem Value).run P w = .ok (.bool false) w := by simp [binOp, Op.intCmp, eqGuard_leq]; omega
theorem r_gtr_t (h : y < x) : (do eqGuard .gtr t xo yo (.int k x) (.int k y); binOp .gtr t (.int k x) (.int k y) : Sem Value).run P w = .ok (.bool true) w := by simp [binOp, Op.intCmp, h, eqGuard_gtr]
theorem r_gtr_f (h : ¬ y < x) : (do eqGuard .gtr t xo yo (.int k x) (.int k y); binOp .gtr t (.int k x) (.int k y) : Sem Value).run P w = .ok (.bool false) w := by simp [binOp, Op.intCmp, eqGuard_gtr]; omega
theorem r_geq_t (h : y ≤ x) : (do eqGuard .geq t xo yo (.int k x) (.int k y); binOp .geq t (.int k x) (.int k y) : Sem Value).run P w = .ok (.bool true) w := by simp [binOp, Op.intCmp, h, eqGuard_geq]
theorem r_geq_f (h : ¬ y ≤ x) : (do eqGuard .geq t xo yo (.int k x) (.int k y); binOp .geq t (.int k x) (.int k y) : Sem Value).run P w = .ok (.bool false) w := by simp [binOp, Op.intCmp, eqGuard_geq]; omega
theorem r_eql_t (h : x = y) : (do eqGuard .eql t xo yo (.int k x) (.int k y); binOp .eql t (.int k x) (.int k y) : Sem Value).run P w = .ok (.bool true) w := by simp [binOp, Op.intCmp, h, eqGuard_at_int]
theorem r_eql_f (h : ¬ x = y) : (do eqGuard .eql t xo yo (.int k x) (.int k y); binOp .eql t (.int k x) (.int k y) : Sem Value).run P w = .ok (.bool false) w := by simp [binOp, Op.intCmp, h, eqGuard_at_int]
theorem r_neq_t (h : ¬ x = y) : (do eqGuard .neq t xo yo (.int k x) (.int k y); binOp .neq t (.int k x) (.int k y) : Sem Value).run P w = .ok (.bool true) w := by simp [binOp, Op.intCmp, h, eqGuard_at_int]
theorem r_neq_f (h : x = y) : (do eqGuard .neq t xo yo (.int k x) (.int k y); binOp .neq t (.int k x) (.int k y) : Sem Value).run P w = .ok (.bool false) w := by simp [binOp, Op.intCmp, h, eqGuard_at_int]
theorem r_eql : (do eqGuard .eql t xo yo (.int k x) (.int k y); binOp .eql t (.int k x) (.int k y) : Sem Value).run P w = .ok (.bool (decide (x = y))) w := by
  by_cases h : x = y
  · rw [r_eql_t h]; simp [h]
  · rw [r_eql_f h]; simp [h]
theorem wrap64_in {z : Int} (h0 : -9223372036854775808 ≤ z) (h1 : z ≤ 9223372036854775807) : IntKind.i64.wrap z = z := IntWalk.i64_in _ ⟨h0, h1⟩
theorem r_add {z : Int} (hz : x + y = z) (h : -9223372036854775808 ≤ z ∧ z ≤ 9223372036854775807) : (do eqGuard .add t xo yo (.int .i64 x) (.int .i64 y); binOp .add t (.int .i64 x) (.int .i64 y) : Sem Value).run P w = .ok (.int .i64 z) w := by
  subst hz; simp [binOp, Op.intArith, eqGuard_add, wrap64_in h.1 h.2]
theorem r_sub {z : Int} (hz : x - y = z) (h : -9223372036854775808 ≤ z ∧ z ≤ 9223372036854775807) : (do eqGuard .sub t xo yo (.int .i64 x) (.int .i64 y); binOp .sub t (.int .i64 x) (.int .i64 y) : Sem Value).run P w = .ok (.int .i64 z) w := by
  subst hz; simp [binOp, Op.intArith, eqGuard_sub, wrap64_in h.1 h.2]
theorem r_not {b : Bool} : (Op.unary .not (.bool b)).run P w = .ok (.bool (!b)) w := by simp [Op.unary]
theorem r_len {A : Option Addr} {n c : Nat} {e : TypeId} {ts : Array TypeId} {ty : TypeId} {cs : Array Bool} (ht : ts = #[t]) (hu : P.underlying t = some (.slice e)) : (builtin .len ts ty cs #[.slice A n c]).run P w = .ok (.value (.int .i64 n)) w := by
  subst ht
  simp [builtin, Builtin.len_, run_underlying hu, goInt, Result.andThen]
/-- A cell that is known. -/
theorem r_load {ad : Addr} {ds : TypeDesc} (hu : P.underlying t = some ds) (hd : ds.isRow = false) (hc : w.cell? ad = some v) : (Instr.loadAt t (.pointer (some ad))).run P w = .ok v w := by
  have hagg : (isAgg t).run P w = .ok false w := by
    unfold isAgg
    rw [Sem.run_bind, run_underlying hu w]
    cases ds <;> simp_all
  simp [Instr.loadAt, Instr.sureAddr, loadVar, Sem.run_bind, hagg, Result.andThen, hc]
theorem r_load_agg {b off m : Nat} {cs : List Value} {ds : TypeDesc} (hu : P.underlying t = some ds) (hd : ds.isRow = true) (hi : (P.info? t).map (·.size) = some m) (hm : cs.length = m) (hc : w.rangeAt b off cs) : (Instr.loadAt t (.pointer (some ⟨b, off, none⟩))).run P w = .ok (.agg cs.toArray) w :=
  run_loadAt_mid w b off t cs ds hc hu hd (by rw [hm]; exact hi)
theorem r_load_row {b : Nat} {row : Array Value} {tt : TypeId} {ds : TypeDesc} {m : Nat} (i : Nat) (S : St B w0 w fs) (hi : fs[i]? = some (.blk b row tt)) (hu : P.underlying t = some ds) (hd : ds.isRow = true) (hz : (P.info? t).map (·.size) = some m) (hm : row.size = m) : (Instr.loadAt t (.pointer (some ⟨b, 0, none⟩))).run P w = .ok (.agg row) w := by
  simp only [Instr.loadAt, Instr.sureAddr, Sem.run_bind, Sem.run_pure, Result.andThen_ok, res_row i S hi hu hd (by rw [hm]; exact hz)]
theorem r_store {b off m : Nat} {cs : Array Value} (hv : v.cells = cs) (hz : (P.info? t).map (·.size) = some m) (hm : cs.size = m) (h1 : ∀ u ∈ cs.toList, u.oneCell' = true) (ht : w.there b off m) : (Instr.storeAt t (.pointer (some ⟨b, off, none⟩)) v).run P w = .ok () (w.setCells b off cs.toList) := by
  subst hm
  have := run_storeCells_cells (P := P) b off cs.toList 0 w (fun j hj => by simpa using (ht j (by simpa using hj)).1) (fun j hj => by simpa using (ht j (by simpa using hj)).2) h1
  cases hq : P.info? t with
  | none => simp [hq] at hz
  | some i =>
    have hs : cs.size = i.size := by simp [hq] at hz; omega
    simp only [Nat.add_zero] at this
    simp [Instr.storeAt, Instr.sureAddr, storeVar, Sem.run_bind, sizeOf, typeInfo, hq, hv, hs, this, Result.andThen]
end runs
end
end Go.Proofs.Ytkjlafpafmihaaa

namespace Go.Proofs.Ytkjlafpafmihaaa
open Go.ChangeShapes Go.WideShapes Go.RowKit

def cellEq : Value → Value → Bool
  | .int _ a, .int _ b => a == b
  | .bool a, .bool b => a == b
  | .string a, .string b => a.toList == b.toList
  | _, _ => false
def cellsEq : List Value → List Value → Bool
  | [], [] => true
  | a :: l, b :: k => cellEq a b && cellsEq l k
  | _, _ => false
theorem cellsEq_append : ∀ {l l' k k' : List Value}, l.length = l'.length → cellsEq (l ++ k) (l' ++ k') = (cellsEq l l' && cellsEq k k')
  | [], [], _, _, _ => by simp [cellsEq]
  | a :: l, b :: l', k, k', h => by
    simp only [List.cons_append, cellsEq]
    rw [cellsEq_append (by simpa using h), Bool.and_assoc]
  | [], _ :: _, _, _, h => by simp at h
  | _ :: _, [], _, _, h => by simp at h

/-- May be compared so: no blank field, no stand-in. -/
def eqOk (P : Program) : Nat → TypeId → Bool
  | 0, _ => false
  | n + 1, t =>
    match P.underlying t with
    | some (.int _) | some .bool | some .string => true
    | some (.struct fs) => !P.stoodInHeld t && fs.toList.all fun f => f.name != "_" && eqOk P n f.type
    | some (.array _ e) => eqOk P n e
    | _ => false

def Kd (v : Value) : Sh → Prop
  | .at_ (.int k) => ∃ n, v = .int k n
  | .at_ .bool => ∃ b, v = .bool b
  | .at_ .str => ∃ s, v = .string s
  | .sl _ _ => False

def aggOr (u : TypeDesc) (n : Nat) : Prop := match u with | .struct _ => True | .array _ _ => True | _ => n = 1

def mkV (P : Program) (t : TypeId) (xs : List Value) : Value :=
  match P.underlying t with
  | some (.struct _) | some (.array _ _) => .agg xs.toArray
  | _ => xs.headD undef

section
variable {P : Program} (w : World)

theorem run_part_mk {t : TypeId} {u : TypeDesc} (hu : P.underlying t = some u) {xs : List Value} {off : Nat} (h : off + P.cellsOf t ≤ xs.length) (h1 : aggOr u (P.cellsOf t)) :
    (part t xs.toArray off).run P w = .ok (mkV P t ((xs.drop off).take (P.cellsOf t))) w := by
  have hi : ∃ i, P.info? t = some i := by
    unfold Program.underlying at hu
    cases hh : P.info? t with
    | none => simp [hh] at hu
    | some i => exact ⟨i, rfl⟩
  obtain ⟨i, hi⟩ := hi
  have hc : P.cellsOf t = i.size := by simp [Program.cellsOf, hi]
  have hx : (xs.toArray.extract off (off + i.size)) = ((xs.drop off).take i.size).toArray := by
    simp [List.extract_toArray]
  have plain : P.cellsOf t = 1 → (xs.toArray[off]?) = some (((xs.drop off).take (P.cellsOf t)).headD undef) := by
    intro h1
    rw [h1]
    have : off < xs.length := by omega
    have e : (xs.drop off).take 1 = [xs[off]] := by rw [List.drop_eq_getElem_cons this]; rfl
    rw [e]
    simp [this]
  unfold part isAgg mkV
  cases u <;> simp only [aggOr] at h1 <;> first
    | (have h2 := plain h1
       simp only [Sem.run_bind, run_underlying hu, Result.andThen_ok, Sem.run_pure, Bool.false_eq_true, if_false, h2, hu])
    | (simp only [Sem.run_bind, run_underlying hu, Result.andThen_ok, Sem.run_pure, if_true, hu, sizeOf, typeInfo, hc]
       simp [hi])

theorem flat_cells {n : Nat} {t : TypeId} {l : List Sh} (h : flat P (n + 1) t = some l) : ∃ u, P.underlying t = some u ∧ aggOr u l.length := by
  unfold flat at h
  cases hu : P.underlying t with
  | none => simp [hu] at h
  | some u =>
    refine ⟨u, rfl, ?_⟩
    unfold aggOr
    cases u <;> simp only [hu] at h <;> first
      | trivial
      | (simp at h; done)
      | (simp at h; subst h; rfl)
      | (simp only [Option.bind_eq_some_iff] at h
         obtain ⟨a, _, b, _, h⟩ := h
         split at h
         · simp at h; subst h; rfl
         · simp at h)

theorem kd_split {xs : List Value} : ∀ {l k : List Sh}, All2 Kd xs (l ++ k) → All2 Kd (xs.take l.length) l ∧ All2 Kd (xs.drop l.length) k := by
  intro l
  induction l generalizing xs with
  | nil => intro k h; exact ⟨by simp [All2], by simpa using h⟩
  | cons s l ih =>
    intro k h
    obtain ⟨a, l1, rfl, ha, h2⟩ := All2.cons_ h
    obtain ⟨h3, h4⟩ := ih h2
    exact ⟨⟨ha, h3⟩, h4⟩

/-- What the induction gives of one type. -/
def EqT (P : Program) (d : Nat) (t : TypeId) (l : List Sh) : Prop :=
  ∀ (w : World) (xs ys : List Value), All2 Kd xs l → All2 Kd ys l → (Op.equalIn d t (mkV P t xs) (mkV P t ys)).run P w = .ok (cellsEq xs ys) w

theorem run_fields {d : Nat} {xs ys : List Value} : ∀ (fs : List Field) (ls : List (List Sh)) (o : Nat), fieldsOk P fs ls o = true →
    (∀ (i : Nat) (f : Field) (l : List Sh), fs[i]? = some f → ls[i]? = some l → f.name ≠ "_" ∧ EqT P d f.type l ∧ ∃ u, P.underlying f.type = some u ∧ aggOr u l.length) →
    o ≤ xs.length → o ≤ ys.length → All2 Kd (xs.drop o) ls.flatten → All2 Kd (ys.drop o) ls.flatten →
    (Op.eqFields d xs.toArray ys.toArray fs).run P w = .ok (cellsEq (xs.drop o) (ys.drop o)) w
  | [], [], o, _, _, _, _, hx, hy => by
    rw [All2.nil_ hx, All2.nil_ hy]
    simp [Op.eqFields, cellsEq]
  | f :: fs, l :: ls, o, h, hp, ox, oy, hx, hy => by
    simp only [fieldsOk, Bool.and_eq_true, beq_iff_eq] at h
    obtain ⟨⟨h1, h2⟩, h3⟩ := h
    obtain ⟨hn, he, u, hu, hu1⟩ := hp 0 f l rfl rfl
    simp only [List.flatten_cons] at hx hy
    obtain ⟨hx1, hx2⟩ := kd_split hx
    obtain ⟨hy1, hy2⟩ := kd_split hy
    rw [List.drop_drop] at hx2 hy2
    have hlx : o + l.length ≤ xs.length := by
      have e1 := hx1.len
      simp only [List.length_take, List.length_drop] at e1
      omega
    have hly : o + l.length ≤ ys.length := by
      have e1 := hy1.len
      simp only [List.length_take, List.length_drop] at e1
      omega
    have hr := run_fields fs ls (o + l.length) h3 (fun i f' l' hf hl => hp (i + 1) f' l' (by simpa using hf) (by simpa using hl)) hlx hly hx2 hy2
    have hu2 : aggOr u (P.cellsOf f.type) := by
      rw [h2]
      exact hu1
    have p1 := run_part_mk (P := P) w hu (xs := xs) (off := f.offset) (by omega) hu2
    have p2 := run_part_mk (P := P) w hu (xs := ys) (off := f.offset) (by omega) hu2
    rw [h1, h2] at p1 p2
    have p3 := he w _ _ hx1 hy1
    have e1 : cellsEq (xs.drop o) (ys.drop o) = (cellsEq ((xs.drop o).take l.length) ((ys.drop o).take l.length) && cellsEq (xs.drop (o + l.length)) (ys.drop (o + l.length))) := by
      rw [← List.drop_drop, ← List.drop_drop, ← cellsEq_append (by simp; omega), List.take_append_drop, List.take_append_drop]
    simp only [Op.eqFields, hn, ne_eq, not_false_eq_true, if_true, Sem.run_bind, h1, p1, p2, p3, Result.andThen_ok]
    rw [e1]
    cases hb : cellsEq ((xs.drop o).take l.length) ((ys.drop o).take l.length)
    · simp
    · simpa using hr
  | [], _ :: _, _, h, _, _, _, _, _ => by simp [fieldsOk] at h
  | _ :: _, [], _, h, _, _, _, _, _ => by simp [fieldsOk] at h

theorem run_items {d : Nat} {e : TypeId} {l : List Sh} {xs ys : List Value} (he : EqT P d e l) (hc : P.cellsOf e = l.length) {u : TypeDesc} (hu : P.underlying e = some u)
    (hu1 : aggOr u l.length) : ∀ (m i : Nat),
    All2 Kd (xs.drop (i * l.length)) (List.replicate m l).flatten → All2 Kd (ys.drop (i * l.length)) (List.replicate m l).flatten →
    (Op.eqItems d e (P.cellsOf e) xs.toArray ys.toArray (List.range' i m)).run P w = .ok (cellsEq (xs.drop (i * l.length)) (ys.drop (i * l.length))) w
  | 0, i, hx, hy => by
    rw [All2.nil_ hx, All2.nil_ hy]
    simp [Op.eqItems, cellsEq]
  | m + 1, i, hx, hy => by
    rw [List.replicate_succ, List.flatten_cons] at hx hy
    obtain ⟨hx1, hx2⟩ := kd_split hx
    obtain ⟨hy1, hy2⟩ := kd_split hy
    rw [List.drop_drop, ← Nat.succ_mul] at hx2 hy2
    have hr := run_items he hc hu hu1 m (i + 1) hx2 hy2
    have hu2 : aggOr u (P.cellsOf e) := by
      rw [hc]
      exact hu1
    have hlx : i * l.length + l.length ≤ xs.length ∨ l.length = 0 := by
      have e1 := hx1.len
      simp only [List.length_take, List.length_drop] at e1
      omega
    have hly : i * l.length + l.length ≤ ys.length ∨ l.length = 0 := by
      have e1 := hy1.len
      simp only [List.length_take, List.length_drop] at e1
      omega
    by_cases h0 : l.length = 0
    · have hl : l = [] := List.eq_nil_of_length_eq_zero h0
      subst hl
      have hz : (List.replicate m ([] : List Sh)).flatten = [] := by simp
      rw [hz] at hx2 hy2
      simp only [List.length_nil, Nat.mul_zero, List.drop_zero] at *
      have ex := All2.nil_ hx2
      have ey := All2.nil_ hy2
      subst ex; subst ey
      have p1 := run_part_mk (P := P) w hu (xs := []) (off := 0) (by rw [hc]; simp) hu2
      simp only [List.drop_nil, List.take_nil] at p1
      have p3 := he w [] [] trivial trivial
      simp only [List.range'_succ, Op.eqItems, Sem.run_bind, hc, Nat.mul_zero, p1, p3, Result.andThen_ok]
      rw [hc] at hr
      simpa [cellsEq] using hr
    · have p1 := run_part_mk (P := P) w hu (xs := xs) (off := i * l.length) (by omega) hu2
      have p2 := run_part_mk (P := P) w hu (xs := ys) (off := i * l.length) (by omega) hu2
      rw [hc] at p1 p2
      have p3 := he w _ _ hx1 hy1
      have e1 : cellsEq (xs.drop (i * l.length)) (ys.drop (i * l.length)) = (cellsEq ((xs.drop (i * l.length)).take l.length) ((ys.drop (i * l.length)).take l.length) && cellsEq (xs.drop ((i + 1) * l.length)) (ys.drop ((i + 1) * l.length))) := by
        rw [Nat.succ_mul, ← List.drop_drop, ← List.drop_drop, ← cellsEq_append (by simp; omega), List.take_append_drop, List.take_append_drop]
      simp only [List.range'_succ, Op.eqItems, Sem.run_bind, hc, p1, p2, p3, Result.andThen_ok]
      rw [e1]
      rw [hc] at hr
      cases hb : cellsEq ((xs.drop (i * l.length)).take l.length) ((ys.drop (i * l.length)).take l.length)
      · simp
      · simpa using hr

theorem eqT_of : ∀ (n : Nat) (t : TypeId) (l : List Sh) (d : Nat), flat P n t = some l → eqOk P n t = true → n ≤ d → EqT P d t l
  | 0, _, _, _, h, _, _ => by simp [flat] at h
  | n + 1, t, l, 0, _, _, h => by omega
  | n + 1, t, l, d + 1, hf, ho, hd => by
    intro w xs ys hx hy
    unfold flat at hf
    unfold eqOk at ho
    cases hu : P.underlying t with
    | none => simp [hu] at hf
    | some u =>
      cases u <;> simp only [hu] at hf ho <;> try (simp at hf; done)
      case bool =>
        simp at hf; subst hf
        obtain ⟨a, l1, rfl, ⟨p, rfl⟩, h2⟩ := All2.cons_ hx
        obtain ⟨b, l2, rfl, ⟨q, rfl⟩, h3⟩ := All2.cons_ hy
        rw [All2.nil_ h2, All2.nil_ h3]
        simp [mkV, hu, Op.equalIn, run_underlying hu, cellsEq, cellEq]
      case int k =>
        simp at hf; subst hf
        obtain ⟨a, l1, rfl, ⟨p, rfl⟩, h2⟩ := All2.cons_ hx
        obtain ⟨b, l2, rfl, ⟨q, rfl⟩, h3⟩ := All2.cons_ hy
        rw [All2.nil_ h2, All2.nil_ h3]
        simp [mkV, hu, Op.equalIn, run_underlying hu, cellsEq, cellEq]
      case string =>
        simp at hf; subst hf
        obtain ⟨a, l1, rfl, ⟨p, rfl⟩, h2⟩ := All2.cons_ hx
        obtain ⟨b, l2, rfl, ⟨q, rfl⟩, h3⟩ := All2.cons_ hy
        rw [All2.nil_ h2, All2.nil_ h3]
        simp [mkV, hu, Op.equalIn, run_underlying hu, cellsEq, cellEq, beq_toListBytes]
      case slice e => simp at ho
      case array m e =>
        simp only [Option.bind_eq_some_iff] at hf
        obtain ⟨le, hle, hif⟩ := hf
        split at hif
        · rename_i hok
          simp only [Bool.and_eq_true, beq_iff_eq] at hok
          simp at hif; subst hif
          have ih := eqT_of n e le d hle ho (by omega)
          have hn : ∃ k, n = k + 1 := by
            cases n with
            | zero => simp [flat] at hle
            | succ k => exact ⟨k, rfl⟩
          obtain ⟨k, rfl⟩ := hn
          obtain ⟨u, hue, hu1⟩ := flat_cells hle
          have hi : ∃ i, P.info? e = some i := by
            unfold Program.underlying at hue
            cases hh : P.info? e with
            | none => simp [hh] at hue
            | some i => exact ⟨i, rfl⟩
          obtain ⟨i, hi⟩ := hi
          have h := run_items (P := P) w ih hok.1 hue hu1 (xs := xs) (ys := ys) m 0 (by simpa using hx) (by simpa using hy)
          simp only [mkV, hu]
          rw [run_equalIn_array w d _ _ hu hi, List.range_eq_range', h]
          simp
        · simp at hif
      case struct fs =>
        simp only [Option.bind_eq_some_iff] at hf
        obtain ⟨ls, hls, hif⟩ := hf
        split at hif
        · rename_i hok
          simp only [Bool.and_eq_true, beq_iff_eq] at hok
          simp at hif; subst hif
          simp only [Bool.and_eq_true, Bool.not_eq_true', List.all_eq_true, bne_iff_ne, ne_eq] at ho
          have hfs : P.fieldsOf t = fs := by simp [Program.fieldsOf, hu]
          have h := run_fields (P := P) w (d := d) (xs := xs) (ys := ys) fs.toList ls 0 hok.1 (fun i f l' hfi hli => by
            have hmem : f ∈ fs.toList := List.mem_of_getElem? hfi
            have h3 := mapM_some_get hls i f hfi
            rw [hli] at h3
            have hn : ∃ k, n = k + 1 := by
              cases n with
              | zero => simp [flat] at h3
              | succ k => exact ⟨k, rfl⟩
            obtain ⟨k, rfl⟩ := hn
            exact ⟨(ho.2 f hmem).1, eqT_of (k + 1) f.type l' d h3 (ho.2 f hmem).2 (by omega), flat_cells h3⟩) (Nat.zero_le _) (Nat.zero_le _) (by simpa using hx) (by simpa using hy)
          simp only [mkV, hu]
          rw [run_equalIn_struct w d t _ _ (by rw [hfs]; exact hu) ho.1, hfs, h]
          simp
        · simp at hif

/-- '==' on two structs or arrays. -/
theorem run_eql_cells {t : TypeId} {l : List Sh} (hf : flat P 30 t = some l) (ho : eqOk P 30 t = true) (ha : ∀ xs, mkV P t xs = .agg xs.toArray) {xs ys : List Value} (hx : All2 Kd xs l) (hy : All2 Kd ys l) :
    (binOp .eql t (.agg xs.toArray) (.agg ys.toArray)).run P w = .ok (.bool (cellsEq xs ys)) w := by
  rw [run_eql_struct]
  have h := eqT_of 30 t l 10000 hf ho (by omega) w xs ys hx hy
  rw [ha, ha] at h
  rw [h]
  rfl
theorem run_neq_cells {t : TypeId} {l : List Sh} (hf : flat P 30 t = some l) (ho : eqOk P 30 t = true) (ha : ∀ xs, mkV P t xs = .agg xs.toArray) {xs ys : List Value} (hx : All2 Kd xs l) (hy : All2 Kd ys l) :
    (binOp .neq t (.agg xs.toArray) (.agg ys.toArray)).run P w = .ok (.bool (!cellsEq xs ys)) w := by
  rw [run_neq_struct]
  have h := eqT_of 30 t l 10000 hf ho (by omega) w xs ys hx hy
  rw [ha, ha] at h
  rw [h]
  rfl
end
end Go.Proofs.Ytkjlafpafmihaaa

namespace Go.Proofs.Ytkjlafpafmihaaa
open Go.ChangeShapes Go.WideShapes Go.RowKit

/-- An event. -/
structure Ev where
  kind : Int
  producer : Int
  id : Int
  body : Int
  hepoch : Int
  hno : Int
  deriving DecidableEq

def Ev.cells (e : Ev) : List Value := [.int .i64 e.kind, .int .i64 e.producer, .int .i64 e.id, .int .i64 e.body, .int .i64 e.hepoch, .int .i64 e.hno]
theorem Ev.cellsEq_ (a b : Ev) : cellsEq a.cells b.cells = decide (a = b) := by
  obtain ⟨a1, a2, a3, a4, a5, a6⟩ := a
  obtain ⟨b1, b2, b3, b4, b5, b6⟩ := b
  simp only [Ev.cells, cellsEq, cellEq, Ev.mk.injEq, Bool.and_true]
  rw [Bool.eq_iff_iff]
  simp

def evSh : List Sh := [.at_ (.int .i64), .at_ (.int .i64), .at_ (.int .i64), .at_ (.int .i64), .at_ (.int .i64), .at_ (.int .i64)]
theorem flat_ev : flat Try.prog 30 37 = some evSh := by kernel_rfl
theorem eqOk_ev : eqOk Try.prog 30 37 = true := by kernel_rfl
theorem mkV_ev (xs : List Value) : mkV Try.prog 37 xs = .agg xs.toArray := by
  unfold mkV
  rw [Try.underlying37]
theorem Ev.kd (a : Ev) : All2 Kd a.cells evSh := ⟨⟨_, rfl⟩, ⟨_, rfl⟩, ⟨_, rfl⟩, ⟨_, rfl⟩, ⟨_, rfl⟩, ⟨_, rfl⟩, trivial⟩

theorem run_neq_ev (a b : Ev) (w : World) : (binOp .neq 37 (.agg #[.int .i64 a.kind, .int .i64 a.producer, .int .i64 a.id, .int .i64 a.body, .int .i64 a.hepoch, .int .i64 a.hno])
    (.agg #[.int .i64 b.kind, .int .i64 b.producer, .int .i64 b.id, .int .i64 b.body, .int .i64 b.hepoch, .int .i64 b.hno])).run Try.prog w = .ok (.bool (!decide (a = b))) w := by
  rw [← Ev.cellsEq_]
  exact run_neq_cells (P := Try.prog) w flat_ev eqOk_ev mkV_ev a.kd b.kd

def Ev.val (e : Ev) : Value := .agg #[.int .i64 e.kind, .int .i64 e.producer, .int .i64 e.id, .int .i64 e.body, .int .i64 e.hepoch, .int .i64 e.hno]

set_option maxRecDepth 100000 in
theorem arg_event {W : World} {v : Value} (h : ArgOk Try.prog W v 37) : ∃ e : Ev, v = e.val := by
  obtain ⟨⟨base, hk⟩, l, hl, ha⟩ := h
  rw [flat_ev] at hl
  cases hl
  obtain ⟨cs, rfl, _⟩ := okWide_struct Try.underlying37 hk
  obtain ⟨a1, l1, e, ⟨m1, rfl, _⟩, h3⟩ := All2.cons_ ha
  obtain ⟨a2, l2, rfl, ⟨m2, rfl, _⟩, h4⟩ := All2.cons_ h3
  obtain ⟨a3, l3, rfl, ⟨m3, rfl, _⟩, h5⟩ := All2.cons_ h4
  obtain ⟨a4, l4, rfl, ⟨m4, rfl, _⟩, h6⟩ := All2.cons_ h5
  obtain ⟨a5, l5, rfl, ⟨m5, rfl, _⟩, h7⟩ := All2.cons_ h6
  obtain ⟨a6, l6, rfl, ⟨m6, rfl, _⟩, h8⟩ := All2.cons_ h7
  have h9 := All2.nil_ h8
  subst h9
  refine ⟨⟨m1, m2, m3, m4, m5, m6⟩, ?_⟩
  simp only [Value.cells] at e
  unfold Ev.val
  congr 1
  exact Array.toList_inj.1 e

end Go.Proofs.Ytkjlafpafmihaaa

namespace Go.Proofs.Ytkjlafpafmihaaa
open Go.ChangeShapes Go.WideShapes Go.RowKit

end Go.Proofs.Ytkjlafpafmihaaa

namespace Go.Proofs.Ytkjlafpafmihaaa
open Go.ChangeShapes Go.WideShapes Go.RowKit

end Go.Proofs.Ytkjlafpafmihaaa

namespace Go.Proofs.Ytkjlafpafmihaaa
open Go.ChangeShapes Go.WideShapes Go.ChangeAt Go.RowKit

section
variable {P : Program} {N : Nat} {l l' : Slots} {a : Act} {w w' w0 : World} {B : Nat} {fs fs' : List Fact} {ops : Array Oper} {o : Oper} {rest : List Oper} {Q : Exit → Act → World → Prop} {v u p : Value} {d : Nat}

/-- A new block of cells. -/
theorem wL_new {V : Nat → Value} {row : Array Value} {t : TypeId} (S : St B w0 w fs) (hw : Wanted N ops l o true) (hd : o.dst = some d) (hN : Nat.blt d N = true) (hy : Does P N l o w (V w.heap.size) (w.alloc (.cells row t)))
    (h : ∀ b w', St B w0 w' (.blk b row t :: fs) → wL P N ops Q rest ((d, V b) :: l) w') : wL P N ops Q (o :: rest) l w := wL_to hw hd hN hy (h _ _ S.alloc)
theorem St.allocOwn {row : Array Value} {t : TypeId} {n s : Nat} (S : St B w0 w fs) (hs : row.size = n * s) (hn : n ≤ maxLen) : St B w0 (w.alloc (.cells row t)) (.own t s (.slice (some ⟨w.heap.size, 0, none⟩) n n) n row.toList :: fs) :=
  S.onOwn ((Below.refl _ _).alloc (Nat.le_refl _) _) (own_new w row t n s hs hn)
theorem wL_newOwn {V : Nat → Value} {row : Array Value} {t : TypeId} {n s : Nat} {xs : List Value} (S : St B w0 w fs) (hw : Wanted N ops l o true) (hd : o.dst = some d) (hN : Nat.blt d N = true) (hy : Does P N l o w (V w.heap.size) (w.alloc (.cells row t)))
    (hs : row.size = n * s) (hn : n ≤ maxLen) (hx : row.toList = xs) (h : ∀ b w', St B w0 w' (.own t s (.slice (some ⟨b, 0, none⟩) n n) n xs :: fs) → wL P N ops Q rest ((d, V b) :: l) w') : wL P N ops Q (o :: rest) l w := by
  subst hx
  exact wL_to hw hd hN hy (h _ _ (S.allocOwn hs hn))
theorem St.nil (S : St B w0 w fs) (e : TypeId) (s : Nat) : St B w0 w (.own e s (.slice none 0 0) 0 [] :: fs) := S.cons (ownsRow_nil_ _ _ _ _) fun k hk => by cases hk
theorem St.there {b : Nat} {row : Array Value} {t : TypeId} (i : Nat) (S : St B w0 w fs) (hi : fs[i]? = some (.blk b row t)) (off m : Nat) (h : off + m ≤ row.size) : w.there b off m := fun j hj => by
  have hb := S.blk i hi
  exact ⟨by rw [hb.cell (k := off + j) (Array.getElem?_eq_getElem (by omega))]; rfl, hb.free _⟩
/-- A store into a block that is known whole. -/
theorem wL_st {ty t : TypeId} {x y : Operand} {b off m : Nat} {cs row row' : Array Value} (i : Nat) (S : St B w0 w fs) (hw : Wanted N ops l o true) (hd : o.dst = none) (ho : o.op = .store ty x y) (hx : ev l x = some (.pointer (some ⟨b, off, none⟩))) (hy : ev l y = some v)
    (hi : fs[i]? = some (.blk b row t)) (hv : v.cells = cs) (hz : (P.info? ty).map (·.size) = some m) (hm : cs.size = m) (h1 : ∀ u ∈ cs.toList, u.oneCell' = true) (hr : off + m ≤ row.size) (hrow : setAll row off cs.toList = row') (hfs : fs.set i (.blk b row' t) = fs')
    (h : ∀ w', St B w0 w' fs' → wL P N ops Q rest l w') : wL P N ops Q (o :: rest) l w := by
  subst hrow
  subst hfs
  exact wL_eff hw hd (f_store ho hx hy (r_store hv hz hm h1 (S.there i hi off m hr))) (h _ (S.set i hi (upd_setCells b cs.toList off w) (blk_setCells cs.toList off (S.blk i hi))))
/-- append onto a row of the call's own. -/
theorem wL_append {x y : Operand} {t e : TypeId} {z : Value} {size bytes n m c Br : Nat} {A : Option Addr} {xs news xs' : List Value} {sv : Value} (i : Nat) (S : St B w0 w fs) (hw : Wanted N ops l o true) (hd : o.dst = some d) (hN : Nat.blt d N = true)
    (ho : o.op = .call { callee := .builtin .append, args := #[x, y], argTypes := #[t, t] }) (hx : ev l x = some sv) (hy : ev l y = some (.slice A m c)) (hi : fs[i]? = some (.own e size sv n xs)) (hr : Rd w Br size A m news)
    (ht : P.underlying t = some (.slice e)) (hinf : (P.info? e).map (fun i => (i.zero, i.size, i.bytes)) = some (some z, size, bytes)) (hzs : z.cells.size = size) (hsz : 0 < size) (h1 : ∀ u ∈ news, u.oneCell' = true) (h63 : n + m ≤ maxLen) (hbytes : (n + m) * bytes ≤ 140737488355328)
    (hxs : xs ++ news = xs') (h : ∀ A' c' w', n + m ≤ c' → c' ≤ maxLen → St B w0 w' (fs.set i (.own e size (.slice A' (n + m) c') (n + m) xs')) → wL P N ops Q rest ((d, .slice A' (n + m) c') :: l) w') : wL P N ops Q (o :: rest) l w := by
  subst hxs
  obtain ⟨j0, hj0, hz, hs, hb⟩ := info_parts hinf
  obtain ⟨v', w', hrun, h2, h3, h4⟩ := run_append_any (P := P) w B t o.type e j0 z size bytes ht hj0 hz hs hb hzs hsz sv n xs (S.own i hi) Br A m c news hr h1 h63 hbytes S.base
  obtain ⟨A', c', rfl, hc1, hc2⟩ := own_form h2
  exact wL_to hw hd hN (d_builtin (xs := [x, y]) (vs := [sv, .slice A m c]) ho ⟨hx, hy, trivial⟩ (fun cs => by simp [builtin, hrun, Sem.run_bind, Result.andThen])) (h A' c' w' hc1 hc2 (S.append i hi h3 h2 h4))
/-- A block that is known whole as a slice of all its cells. -/
theorem St.bld {b n s : Nat} {row : Array Value} {t : TypeId} {xs : List Value} (i : Nat) (S : St B w0 w fs) (hi : fs[i]? = some (.blk b row t)) (hx : row.toList = xs) (hl : xs.length = n * s) : Rd w w.heap.size s (some ⟨b, 0, none⟩) n xs :=
  ⟨hl, fun _ => ⟨b, 0, rfl, S.lt i hi, fun j u hu => by
    rw [Nat.zero_add]
    exact (S.blk i hi).cell (by rw [← hx] at hu; simpa using hu)⟩⟩
/-- Where a slice's cells lie. -/
theorem Rd.addr {B s n : Nat} {A : Option Addr} {xs : List Value} (h : Rd w B s A n xs) (hn : 0 < n) : ∃ b off, A = some ⟨b, off, none⟩ := by
  obtain ⟨b, off, e, _⟩ := h.2 hn
  exact ⟨b, off, e⟩
theorem Rd.cl {B s n b off j : Nat} {xs : List Value} (h : Rd w B s (some ⟨b, off, none⟩) n xs) (hx : xs[j]? = some v) : w.cell? ⟨b, off + j, none⟩ = some v := by
  have hl : j < xs.length := (List.getElem?_eq_some_iff.1 hx).1
  have hn : 0 < n := by
    rcases Nat.eq_zero_or_pos n with e | e
    · rw [h.1, e] at hl; omega
    · exact e
  obtain ⟨b', off', e, _, hc⟩ := h.2 hn
  simp only [Option.some.injEq, Addr.mk.injEq, and_true] at e
  obtain ⟨rfl, rfl⟩ := e
  exact hc j v hx
theorem Rd.rg {B s n b off j m : Nat} {xs cs : List Value} (h : Rd w B s (some ⟨b, off, none⟩) n xs) (hx : ∀ i u, cs[i]? = some u → xs[j + i]? = some u) : w.rangeAt b (off + j) cs := fun i u hu => by
  rw [Nat.add_assoc]
  exact h.cl (hx i u hu)
theorem St.rg {b off : Nat} {row : Array Value} {t : TypeId} {cs : List Value} (i : Nat) (S : St B w0 w fs) (hi : fs[i]? = some (.blk b row t)) (hx : ∀ j u, cs[j]? = some u → row[off + j]? = some u) : w.rangeAt b off cs := fun j u hu => (S.blk i hi).cell (hx j u hu)
theorem St.cl {b k : Nat} {row : Array Value} {t : TypeId} (i : Nat) (S : St B w0 w fs) (hi : fs[i]? = some (.blk b row t)) (hk : row[k]? = some v) : w.cell? ⟨b, k, none⟩ = some v := (S.blk i hi).cell hk
theorem setAll_all {row cs : Array Value} (h : row.size = cs.size) : setAll row 0 cs.toList = cs := by
  apply Array.toList_inj.1
  rw [setAll_list _ _ _ (by simp; omega)]
  simp only [List.take_zero, List.nil_append, Nat.zero_add, Array.length_toList]
  rw [List.drop_of_length_le (by simp; omega), List.append_nil]
theorem sub_get {L cs : List Value} {x m : Nat} (h : (L.drop x).take m = cs) : ∀ (j : Nat) (u : Value), cs[j]? = some u → L[x + j]? = some u := by
  intro j u hu
  subst h
  have hj : j < m := by
    have := (List.getElem?_eq_some_iff.1 hu).1
    rw [List.length_take] at this
    omega
  rw [List.getElem?_take_of_lt hj, List.getElem?_drop] at hu
  exact hu
theorem sub_row {row : Array Value} {cs : List Value} {x m : Nat} (h : (row.toList.drop x).take m = cs) : ∀ (j : Nat) (u : Value), cs[j]? = some u → row[x + j]? = some u := by
  intro j u hu
  have := sub_get h j u hu
  simpa using this
theorem Rd.cl2 {B s n b off j i : Nat} {xs : List Value} (h : Rd w B s (some ⟨b, off, none⟩) n xs) (hx : xs[j + i]? = some v) : w.cell? ⟨b, off + j + i, none⟩ = some v := by
  rw [Nat.add_assoc]
  exact h.cl hx
theorem Rd.rg2 {B s n b off j : Nat} {xs cs : List Value} (h : Rd w B s (some ⟨b, off, none⟩) n xs) (hx : ∀ i u, cs[i]? = some u → xs[j + i]? = some u) : w.rangeAt b (off + j) cs := h.rg (m := 0) hx
theorem Rd.rg3 {B s n b off j x m : Nat} {xs L cs : List Value} (h : Rd w B s (some ⟨b, off, none⟩) n xs) (hx : ∀ i u, L[i]? = some u → xs[j + i]? = some u) (hcs : (L.drop x).take m = cs) : w.rangeAt b (off + j + x) cs := fun i u hu => by
  rw [Nat.add_assoc, Nat.add_assoc]
  exact h.cl (hx _ _ (sub_get hcs i u hu))
theorem oneAll {cs : List Value} (h : cs.all (·.oneCell') = true) : ∀ u ∈ cs, u.oneCell' = true := by simpa using h
/-- One element's cells in a list of records. -/
theorem fm_get {α : Type} {enc : α → List Value} {sz : Nat} (hsz : ∀ x, (enc x).length = sz) : ∀ {l : List α} {k : Nat} {x : α} {j : Nat} {u : Value}, l[k]? = some x → (enc x)[j]? = some u → (l.flatMap enc)[k * sz + j]? = some u
  | [], k, x, j, u, h, _ => by simp at h
  | y :: l, 0, x, j, u, h, hj => by
    simp at h
    subst h
    rw [List.flatMap_cons, Nat.zero_mul, Nat.zero_add, List.getElem?_append_left (List.getElem?_eq_some_iff.1 hj).1]
    exact hj
  | y :: l, k + 1, x, j, u, h, hj => by
    have hj' : j < sz := by have := (List.getElem?_eq_some_iff.1 hj).1; rw [hsz] at this; exact this
    rw [List.flatMap_cons, List.getElem?_append_right (by rw [hsz, Nat.succ_mul]; omega), hsz, show (k + 1) * sz + j - sz = k * sz + j by rw [Nat.succ_mul]; omega]
    exact fm_get hsz (by simpa using h) hj
theorem fm_len {α : Type} {enc : α → List Value} {sz : Nat} (hsz : ∀ x, (enc x).length = sz) (l : List α) : (l.flatMap enc).length = l.length * sz := by
  induction l with
  | nil => simp
  | cons y l ih => rw [List.flatMap_cons, List.length_append, ih, hsz, List.length_cons, Nat.succ_mul]; omega
theorem r_indexAddr {t e : TypeId} {b off n c s : Nat} {i : Int} {kd : IntKind} (k : Nat) (hu : P.underlying t = some (.slice e)) (hz : (P.info? e).map (·.size) = some s) (hik : i = k) (hk : k < n) :
    (Instr.indexAt t (.slice (some ⟨b, off, none⟩) n c) (.int kd i)).run P w = .ok (.pointer (some ⟨b, off + k * s, none⟩)) w := by
  subst hik
  obtain ⟨q, hq, hs⟩ : ∃ q, P.info? e = some q ∧ q.size = s := by
    cases h : P.info? e with
    | none => simp [h] at hz
    | some q => exact ⟨q, rfl, by simpa [h] using hz⟩
  have hkk : (0 : Int) ≤ k ∧ (k : Int) < n := by omega
  simp [Instr.indexAt, asIntOf, Sem.run_bind, run_underlying hu, Result.andThen, hkk, hk, sizeOf, typeInfo, hq, hs, Go.WideShapes.add_plain]
theorem r_indexArr {t e : TypeId} {b off n s : Nat} {i : Int} {kd : IntKind} (k : Nat) (hu : P.underlying t = some (.array n e)) (hz : (P.info? e).map (·.size) = some s) (hik : i = k) (hk : k < n) :
    (Instr.indexAt t (.pointer (some ⟨b, off, none⟩)) (.int kd i)).run P w = .ok (.pointer (some ⟨b, off + k * s, none⟩)) w := by
  subst hik
  obtain ⟨q, hq, hs⟩ : ∃ q, P.info? e = some q ∧ q.size = s := by
    cases h : P.info? e with
    | none => simp [h] at hz
    | some q => exact ⟨q, rfl, by simpa [h] using hz⟩
  have hkk : (0 : Int) ≤ k ∧ (k : Int) < n := by omega
  simp [Instr.indexAt, asIntOf, Sem.run_bind, run_underlying hu, Result.andThen, hkk, hk, sizeOf, typeInfo, hq, hs, Go.WideShapes.add_plain, Instr.sureAddr]

/-! ### Regions that draw their order: reads and quiet calls -/
def wU (P : Program) (N : Nat) (ops : Array Oper) (C : World → Prop) (Qa : Act → Prop) (rest : List Oper) (l : Slots) : Prop := ∀ a, Fr N l a → wpQuiet P ops C Qa rest a
theorem wC_quiet {id : Nat} {os : List Oper} (S : St B w0 w fs) (hm : P.follows .mixedOrders = true) (hB : Region.lexB .any os.toArray = true)
    (h : wU P N os.toArray (fun w' => St B w0 w' fs) (fun a' => ∀ w', St B w0 w' fs → Q .normal a' w') os l) : wC P N (.region id os.toArray true) Q l w := fun a F =>
  wp_region_quiet (C := fun w' => St B w0 w' fs) hm hB S.drew (by simpa using h a F)
theorem wU_val {C : World → Prop} {Qa : Act → Prop} (hw : Wanted N ops l o true) (hd : o.dst = some d) (hN : Nat.blt d N = true) (hy : ∀ w, C w → Yld P N l o w v) (h : wU P N ops C Qa rest ((d, v) :: l)) : wU P N ops C Qa (o :: rest) l := fun a F => by
  unfold wpQuiet
  rw [if_pos (hw a F)]
  refine ⟨v, fun w hC => ?_, by rw [hd]; exact h _ (F.put hN v)⟩
  unfold Oper.quietAt
  rw [hy w hC a F]
  exact ⟨rfl, rfl⟩
theorem wU_skip {C : World → Prop} {Qa : Act → Prop} (hw : Wanted N ops l o false) (hd : o.dst = some d) (hN : Nat.blt d N = true) (h : wU P N ops C Qa rest ((d, undef) :: l)) : wU P N ops C Qa (o :: rest) l := fun a F => by
  unfold wpQuiet
  rw [if_neg (by rw [hw a F]; simp), hd]
  exact h _ (F.put hN undef)
theorem wU_call {C : World → Prop} {Qa : Act → Prop} {f : FuncId} {vs : List Value} (hw : Wanted N ops l o true) (hd : o.dst = some d) (hN : Nat.blt d N = true) (he : ∀ w, Enter P N l o w f vs) (hc : ∀ w, C w → Calls P f vs.toArray w fun e w' => e = .returned v ∧ C w')
    (h : wU P N ops C Qa rest ((d, v) :: l)) : wU P N ops C Qa (o :: rest) l := fun a F => by
  unfold wpQuiet
  rw [if_pos (hw a F)]
  refine ⟨v, fun w hC => ?_, by rw [hd]; exact h _ (F.put hN v)⟩
  unfold Oper.quietAt
  rw [he w a F]
  exact ⟨rfl, hc w hC⟩
theorem wU_nil (h : ∀ w', St B w0 w' fs → wQ N Q .normal l w') : wU P N ops (fun w' => St B w0 w' fs) (fun a' => ∀ w', St B w0 w' fs → Q .normal a' w') [] l := fun a F w' S => h w' S a F

/-! ### Regions that draw their order: any -/
def wA (P : Program) (N : Nat) (ops : Array Oper) (Q : Exit → Act → World → Prop) (C : World → Prop) (n : Nat) (listed : Array Bool) (l : Slots) (w : World) : Prop := ∀ a, Fr N l a → wpAnyH P .any ops (NoPanic Q) C n listed a w
theorem wC_any {id : Nat} {os : List Oper} {C : World → Prop} (hm : P.follows .mixedOrders = true) (h : wA P N os.toArray Q C os.toArray.size (Array.replicate os.toArray.size false) l w.drew) : wC P N (.region id os.toArray true) Q l w := fun a F =>
  wp_region_noPanic (wp_region_held hm (h a F))
theorem wA_take {C : World → Prop} {n i : Nat} {listed listed' : Array Bool} (hi : ops[i]? = some o) (hs : Region.noSelect ops = true) (hf : Region.free .any ops listed i = true) (hr : (Region.ready .any ops listed).contains i = true) (hS : C w)
    (hl : listed.setIfInBounds i true = listed') (hw : Wanted N ops l o true) (hd : o.dst = some d) (hN : Nat.blt d N = true) (hy : ∀ w, C w → Yld P N l o w v) (h : wA P N ops Q C n listed' ((d, v) :: l) w) : wA P N ops Q C (n + 1) listed l w := fun a F => by
  subst hl
  refine wpAnyH_take hi hs hf hr (fun c a w h => h) (.inl ⟨hw a F, fun w hC => hy w hC a F⟩) hS ?_
  rw [hd]
  exact h _ (F.put hN v)
/-- One operation comes up. -/
def wN (P : Program) (N : Nat) (ops : Array Oper) (Q : Exit → Act → World → Prop) (i : Nat) (l : Slots) (w : World) (K : Act → World → Prop) : Prop := ∀ a, Fr N l a → wpOp P ops (NoPanic Q) i K a w
theorem wA_done {C : World → Prop} {n : Nat} {listed : Array Bool} (hr : Region.ready .any ops listed = []) (h : wQ N Q .normal l w) : wA P N ops Q C n listed l w := fun a F => wpAnyH_done hr (NoPanic.normal (h a F)) n
theorem wN_to {C : World → Prop} {n i : Nat} {listed listed' : Array Bool} (hi : ops[i]? = some o) (hl : listed.setIfInBounds i true = listed') (hw : Wanted N ops l o true) (hd : o.dst = some d) (hN : Nat.blt d N = true) (hy : Does P N l o w v w') (hC : C w') (h : wA P N ops Q C n listed' ((d, v) :: l) w') :
    wN P N ops Q i l w (fun a' w' => C w' ∧ wpAnyH P .any ops (NoPanic Q) C n (listed.setIfInBounds i true) a' w') := fun a F => by
  subst hl
  unfold wpOp
  simp only [hi]
  rw [if_pos (hw a F)]
  refine .inl ?_
  unfold Oper.wp
  rw [hy a F]
  refine ⟨hC, ?_⟩
  rw [hd]
  exact h _ (F.put hN v)
theorem wN_eff {C : World → Prop} {n i : Nat} {listed listed' : Array Bool} (hi : ops[i]? = some o) (hl : listed.setIfInBounds i true = listed') (hw : Wanted N ops l o true) (hd : o.dst = none) (hy : Eff P N l o w w') (hC : C w') (h : wA P N ops Q C n listed' l w') :
    wN P N ops Q i l w (fun a' w' => C w' ∧ wpAnyH P .any ops (NoPanic Q) C n (listed.setIfInBounds i true) a' w') := fun a F => by
  subst hl
  unfold wpOp
  simp only [hi]
  rw [if_pos (hw a F)]
  refine .inl ?_
  unfold Oper.wp
  rw [hy a F]
  refine ⟨hC, ?_⟩
  rw [hd]
  exact h _ F
theorem wN_call {C : World → Prop} {n i : Nat} {listed listed' : Array Bool} {f : FuncId} {vs : List Value} {R : Ending → World → Prop} (hi : ops[i]? = some o) (hl : listed.setIfInBounds i true = listed') (hw : Wanted N ops l o true) (hd : o.dst = some d) (hN : Nat.blt d N = true) (he : Enter P N l o w f vs) (hc : Calls P f vs.toArray w R)
    (h : ∀ e w', R e w' → ∃ v, e = .returned v ∧ C w' ∧ wA P N ops Q C n listed' ((d, v) :: l) w') :
    wN P N ops Q i l w (fun a' w' => C w' ∧ wpAnyH P .any ops (NoPanic Q) C n (listed.setIfInBounds i true) a' w') := fun a F => by
  subst hl
  unfold wpOp
  simp only [hi]
  rw [if_pos (hw a F)]
  refine .inl ?_
  unfold Oper.wp
  rw [he a F]
  refine hc.mono fun e w' hr => ?_
  obtain ⟨v, rfl, hC, hv⟩ := h e w' hr
  refine ⟨hC, ?_⟩
  rw [hd]
  exact hv _ (F.put hN v)
theorem wC_any_ {id n : Nat} {os : List Oper} {C : World → Prop} {listed : Array Bool} (hm : P.follows .mixedOrders = true) (hn : os.length = n) (hl : Array.replicate n false = listed) (h : wA P N os.toArray Q C n listed l w.drew) : wC P N (.region id os.toArray true) Q l w := by
  subst hn
  subst hl
  exact wC_any hm (by simpa using h)
def wK (P : Program) (N : Nat) (ops : Array Oper) (Q : Exit → Act → World → Prop) (C : World → Prop) (n i : Nat) (listed : Array Bool) (l : Slots) (w : World) : Prop := wN P N ops Q i l w (fun a' w' => C w' ∧ wpAnyH P .any ops (NoPanic Q) C n (listed.setIfInBounds i true) a' w')
theorem wA_all_ {C : World → Prop} {n : Nat} {listed : Array Bool} {r : Nat} {rs : List Nat} (hr : Region.ready .any ops listed = r :: rs) (h : ∀ i ∈ r :: rs, wK P N ops Q C n i listed l w) : wA P N ops Q C (n + 1) listed l w := fun a F =>
  wpAnyH_all hr (by simp) fun i hi => h i hi a F
theorem wA_one {C : World → Prop} {n : Nat} {listed : Array Bool} {r : Nat} (hr : Region.ready .any ops listed = [r]) (h : wK P N ops Q C n r listed l w) : wA P N ops Q C (n + 1) listed l w := wA_all_ hr fun i hi => by
  rcases List.mem_singleton.1 hi with rfl
  exact h
theorem wA_two {C : World → Prop} {n : Nat} {listed : Array Bool} {r s : Nat} (hr : Region.ready .any ops listed = [r, s]) (h : wK P N ops Q C n r listed l w) (h' : wK P N ops Q C n s listed l w) : wA P N ops Q C (n + 1) listed l w := wA_all_ hr fun i hi => by
  rcases List.mem_cons.1 hi with rfl | hi
  · exact h
  · rcases List.mem_singleton.1 hi with rfl
    exact h'
section
variable {C : World → Prop} {n i : Nat} {listed listed' : Array Bool}
theorem wN_new {V : Nat → Value} {row : Array Value} {t : TypeId} (hi : ops[i]? = some o) (hl : listed.setIfInBounds i true = listed') (S : St B w0 w fs) (hw : Wanted N ops l o true) (hd : o.dst = some d) (hN : Nat.blt d N = true) (hy : Does P N l o w (V w.heap.size) (w.alloc (.cells row t)))
    (h : ∀ b w', St B w0 w' (.blk b row t :: fs) → C w' ∧ wA P N ops Q C n listed' ((d, V b) :: l) w') : wK P N ops Q C n i listed l w :=
  wN_to hi hl hw hd hN hy (h _ _ S.alloc).1 (h _ _ S.alloc).2
theorem wN_st {ty t : TypeId} {x y : Operand} {b off m : Nat} {cs row row' : Array Value} (hi' : ops[i]? = some o) (hl : listed.setIfInBounds i true = listed') (j : Nat) (S : St B w0 w fs) (hw : Wanted N ops l o true) (hd : o.dst = none) (ho : o.op = .store ty x y) (hx : ev l x = some (.pointer (some ⟨b, off, none⟩))) (hy : ev l y = some v)
    (hi : fs[j]? = some (.blk b row t)) (hv : v.cells = cs) (hz : (P.info? ty).map (·.size) = some m) (hm : cs.size = m) (h1 : ∀ u ∈ cs.toList, u.oneCell' = true) (hr : off + m ≤ row.size) (hrow : setAll row off cs.toList = row') (hfs : fs.set j (.blk b row' t) = fs')
    (h : ∀ w', St B w0 w' fs' → C w' ∧ wA P N ops Q C n listed' l w') : wK P N ops Q C n i listed l w := by
  subst hrow
  subst hfs
  have hk := h _ (S.set j hi (upd_setCells b cs.toList off w) (blk_setCells cs.toList off (S.blk j hi)))
  exact wN_eff hi' hl hw hd (f_store ho hx hy (r_store hv hz hm h1 (S.there j hi off m hr))) hk.1 hk.2
theorem wN_call_ {f : FuncId} {vs : List Value} {R : Ending → World → Prop} (hi : ops[i]? = some o) (hl : listed.setIfInBounds i true = listed') (hw : Wanted N ops l o true) (hd : o.dst = some d) (hN : Nat.blt d N = true) (he : Enter P N l o w f vs) (hc : Calls P f vs.toArray w R)
    (h : ∀ e w', R e w' → ∃ v, e = .returned v ∧ C w' ∧ wA P N ops Q C n listed' ((d, v) :: l) w') : wK P N ops Q C n i listed l w := wN_call hi hl hw hd hN he hc h
end
end
end Go.Proofs.Ytkjlafpafmihaaa

namespace Go.Proofs.Ytkjlafpafmihaaa
open Go.ChangeShapes Go.WideShapes Go.ChangeAt Go.RowKit

section
variable {P : Program} {ops : Array Oper} {Q : Exit → Act → World → Prop} {C : World → Prop} {n : Nat}

def wpAnyG (P : Program) (ops : Array Oper) (Q : Exit → Act → World → Prop) (C : World → Prop) (n : Nat) : Nat → Array Bool → Act → World → Prop
  | 0, listed, a, w => Region.ready .any ops listed = [] ∧ Q .normal a w
  | fuel + 1, listed, a, w =>
    (Region.ready .any ops listed = [] → Q .normal a w) ∧
    ∀ i ∈ Region.ready .any ops listed, wpOp P ops Q i (fun a' w' => ((listed.setIfInBounds i true).getD n true = false → C w') ∧ wpAnyG P ops Q C n fuel (listed.setIfInBounds i true) a' w') a w
theorem wpAny_of_G : ∀ (fuel : Nat) (listed : Array Bool) (a : Act) (w : World), wpAnyG P ops Q C n fuel listed a w → wpAny P .any ops Q fuel listed a w
  | 0, _, _, _, h => h
  | fuel + 1, _, _, _, h => ⟨h.1, fun i hi => wpOp_mono (fun a' w' h' => wpAny_of_G fuel _ a' w' h'.2) (h.2 i hi)⟩
/-- Number n waits for number i. -/
def waitsB (ops : Array Oper) (n i : Nat) : Bool := match ops[n]? with | none => false | some o => o.after.any fun e => Region.binds .any e && e.on == i
theorem not_ready_of_waits {i : Nat} {listed : Array Bool} (hw : waitsB ops n i = true) (hi : listed.getD i true = false) : n ∉ Region.ready .any ops listed := by
  intro hr
  obtain ⟨_, o, ho, hall⟩ := mem_ready.1 hr
  unfold waitsB at hw
  rw [ho] at hw
  obtain ⟨e, he, hb⟩ := Array.any_eq_true'.1 hw
  simp only [Bool.and_eq_true, beq_iff_eq] at hb
  have h1 := hall e he hb.1
  rw [hb.2] at h1
  rcases Nat.lt_or_ge i listed.size with h' | h'
  · simp [h'] at hi h1; rw [hi] at h1; cases h1
  · simp [Array.getElem?_eq_none h'] at hi
theorem wpAnyG_first {i : Nat} {oi : Oper} {v : Value} (hi : ops[i]? = some oi) (hsel : ∀ (j : Nat) (o : Oper) cs b, ops[j]? = some o → o.op ≠ .select cs b)
    (hQ : ∀ c a w, Q (.panic c) (a.put oi.dst v) w → Q (.panic c) a w) (hni : waitsB ops n i = true) (hne : n ≠ i) :
    ∀ (fuel : Nat) (listed : Array Bool) (a : Act) (w : World),
      (∀ j oj, ops[j]? = some oj → j ≠ i → listed.getD j true = false → (∀ e ∈ oj.after, Region.binds .any e = true → e.on ≠ i) → oi.apart ops oj = true) →
      i ∈ Region.ready .any ops listed → listed.getD n true = false → YieldsIf P ops C oi v a → C w →
      wpAnyG P ops Q C n fuel (listed.setIfInBounds i true) (a.put oi.dst v) w → wpAnyG P ops Q C n (fuel + 1) listed a w := by
  intro fuel
  induction fuel with
  | zero =>
    intro listed a w _ hr hnl hy hS H
    refine ⟨fun h => (by rw [h] at hr; cases hr), fun j hj => ?_⟩
    by_cases hji : j = i
    · subst hji; exact hy.wpOp hi hS ⟨fun _ => hS, H⟩
    · have := ready_mono hj hji
      rw [H.1] at this
      cases this
  | succ fuel ih =>
    intro listed a w hfree hr hnl hy hS H
    refine ⟨fun h => (by rw [h] at hr; cases hr), fun j hj => ?_⟩
    by_cases hji : j = i
    · subst hji; exact hy.wpOp hi hS ⟨fun _ => hS, H⟩
    · have h1 := H.2 j (ready_mono hj hji)
      obtain ⟨hjun, oj, hoj, hall⟩ := mem_ready.1 hj
      have hiun := (mem_ready.1 hr).1
      have hiun' : listed.getD i true = false := by
        rcases Nat.lt_or_ge i listed.size with h' | h'
        · simp [h'] at hiun ⊢; exact hiun
        · simp [Array.getElem?_eq_none h'] at hiun
      have hjn : j ≠ n := fun e => not_ready_of_waits hni hiun' (e ▸ hj)
      have hnot : ∀ e ∈ oj.after, Region.binds .any e = true → e.on ≠ i := fun e he hb heq => by
        have h1 := hall e he hb
        have h0 := (mem_ready.1 hr).1
        rw [heq] at h1
        rcases Nat.lt_or_ge i listed.size with h' | h'
        · simp [h'] at h0 h1; rw [h0] at h1; cases h1
        · simp [Array.getElem?_eq_none h'] at h0
      have h2 := wpOp_putIf hoj (hfree j oj hoj hji hjun hnot) (fun cs b => hsel i oi cs b hi) (fun cs b => hsel j oj cs b hoj) hQ hy h1
      have hfree' : ∀ k ok, ops[k]? = some ok → k ≠ i → (listed.setIfInBounds j true).getD k true = false →
          (∀ e ∈ ok.after, Region.binds .any e = true → e.on ≠ i) → oi.apart ops ok = true := fun k ok hk hki hun hno => by
        refine hfree k ok hk hki ?_ hno
        by_cases hjk : j = k
        · subst hjk; exact hjun
        · rw [getD_set_ne true hjk] at hun; exact hun
      have hnl2 : (listed.setIfInBounds j true).getD n true = false := by rw [getD_set_ne true hjn]; exact hnl
      refine wpOp_mono (fun a' w' h3 => ?_) h2
      have hC : C w' := h3.2.1 (by rw [Array.setIfInBounds_comm _ _ (Ne.symm hji), getD_set_ne true (Ne.symm hne)]; exact hnl2)
      refine ⟨fun _ => hC, ih (listed.setIfInBounds j true) a' w' hfree' (ready_mono hr (Ne.symm hji)) hnl2 h3.1 hC ?_⟩
      rw [Array.setIfInBounds_comm _ _ hji]
      exact h3.2.2
theorem wpAnyG_of_seq : ∀ (l : List Oper) (k : Nat) (listed : Array Bool) (a : Act) (w : World), (∀ j, l[j]? = ops[k + j]?) → (listed.setIfInBounds k true).getD n true = true ∨ l = [] → (listed.getD n true = true ∨ k = n) → n < listed.size → 
    Region.seqB .any ops l.length k listed = true → wpList P ops Q l a w → wpAnyG P ops Q C n l.length listed a w
  | [], _, _, _, _, _, _, _, _, hB, h => ⟨by simpa [Region.seqB] using hB, h⟩
  | o :: l, k, listed, a, w, hl, _, hk, hnz, hB, h => by
    have h0 : ops[k]? = some o := by simpa using (hl 0).symm
    simp only [List.length_cons, Region.seqB, Bool.and_eq_true, decide_eq_true_eq] at hB
    refine ⟨fun h1 => (by rw [hB.1] at h1; cases h1), fun i hi => ?_⟩
    rw [hB.1] at hi
    have hik : i = k := by simpa using hi
    subst hik
    have hw : wpOp P ops Q i (wpList P ops Q l) a w := by unfold wpOp; simp only [h0]; exact h
    have hn2 : (listed.setIfInBounds i true).getD n true = true := by
      rcases hk with hk | hk
      · by_cases e : i = n
        · subst e; simp [Array.getD_eq_getD_getElem?, hnz]
        · rw [getD_set_ne true e]; exact hk
      · subst hk; simp [Array.getD_eq_getD_getElem?, hnz]
    refine wpOp_mono (fun a' w' h' => ⟨fun h => (by rw [hn2] at h; cases h), wpAnyG_of_seq l (i + 1) _ a' w' (fun j => by have := hl (j + 1); simpa [Nat.add_assoc, Nat.add_comm 1 j] using this) ?_ (.inl hn2) (by simpa using hnz) hB.2 h'⟩) hw
    by_cases e : i + 1 = n
    · left; subst e; simp [Array.getD_eq_getD_getElem?] 
    · left; rw [getD_set_ne true e]; exact hn2
end
section
variable {P : Program} {N : Nat} {l l' : Slots} {a : Act} {w w' w0 : World} {B : Nat} {fs fs' : List Fact} {ops : Array Oper} {o : Oper} {Q : Exit → Act → World → Prop} {v : Value} {d : Nat} {C : World → Prop} {n m i : Nat} {listed listed' : Array Bool}
def wG (P : Program) (N : Nat) (ops : Array Oper) (Q : Exit → Act → World → Prop) (C : World → Prop) (n m : Nat) (listed : Array Bool) (l : Slots) (w : World) : Prop := ∀ a, Fr N l a → wpAnyG P ops (NoPanic Q) C n m listed a w
def wH (P : Program) (N : Nat) (ops : Array Oper) (Q : Exit → Act → World → Prop) (C : World → Prop) (n m i : Nat) (listed : Array Bool) (l : Slots) (w : World) : Prop :=
  wN P N ops Q i l w (fun a' w' => ((listed.setIfInBounds i true).getD n true = false → C w') ∧ wpAnyG P ops (NoPanic Q) C n m (listed.setIfInBounds i true) a' w')
theorem wC_head {id : Nat} {os : List Oper} (n : Nat) (hm : P.follows .mixedOrders = true) (hn : os.length = m) (hl : Array.replicate m false = listed) (h : wG P N os.toArray Q C n m listed l w.drew) : wC P N (.region id os.toArray true) Q l w := fun a F => by
  subst hn
  subst hl
  exact wp_region_noPanic (wp_region_any hm (wpAny_of_G _ _ _ _ (by simpa using h a F)))
theorem wG_take (hi : ops[i]? = some o) (hs : Region.noSelect ops = true) (hf : Region.free .any ops listed i = true) (hr : (Region.ready .any ops listed).contains i = true) (hnl : listed.getD n true = false) (hni : waitsB ops n i = true) (hne : Nat.beq n i = false) (hS : C w)
    (hl : listed.setIfInBounds i true = listed') (hw : Wanted N ops l o true) (hd : o.dst = some d) (hN : Nat.blt d N = true) (hy : ∀ w, C w → Yld P N l o w v) (h : wG P N ops Q C n m listed' ((d, v) :: l) w) : wG P N ops Q C n (m + 1) listed l w := fun a F => by
  subst hl
  refine wpAnyG_first hi (Region.noSelect_spec hs) (fun c a w h => h) hni (fun e => by subst e; simp at hne) m listed a w (Region.free_spec hi hf) (by simpa using hr) hnl (.inl ⟨hw a F, fun w hC => hy w hC a F⟩) hS ?_
  rw [hd]
  exact h _ (F.put hN v)
theorem wG_all {rs : List Nat} (hr : Region.ready .any ops listed = rs) (hne : rs.isEmpty = false) (h : ∀ i ∈ rs, wH P N ops Q C n m i listed l w) : wG P N ops Q C n (m + 1) listed l w := fun a F =>
  ⟨fun h0 => (by rw [hr] at h0; subst h0; cases hne), fun i hi => h i (hr ▸ hi) a F⟩
theorem wG_one {r : Nat} (hr : Region.ready .any ops listed = [r]) (h : wH P N ops Q C n m r listed l w) : wG P N ops Q C n (m + 1) listed l w := wG_all hr rfl fun i hi => by
  rcases List.mem_singleton.1 hi with rfl
  exact h
theorem wQ_np (h : wQ N Q .normal l w) : wQ N (NoPanic Q) .normal l w := fun a F => NoPanic.normal (h a F)
theorem wG_tail {rest : List Oper} {k : Nat} (hB : Region.seqB .any ops m n listed = true) (hz : Nat.blt n listed.size = true) (hrest : ops.toList.drop n = rest) (hm : rest.length = m) (h : wL P N ops (NoPanic Q) rest l w) (hk : k = m := by rfl) : wG P N ops Q C n m listed l w := fun a F => by
  subst hrest
  subst hm
  have hz' : n < listed.size := by simpa [Nat.blt_eq] using hz
  refine wpAnyG_of_seq _ n listed a w (fun j => by simp [List.getElem?_drop]) (.inl ?_) (.inr rfl) hz' hB (h a F)
  simp [Array.getD_eq_getD_getElem?, hz']
section
theorem wH_to (hi : ops[i]? = some o) (hl : listed.setIfInBounds i true = listed') (hw : Wanted N ops l o true) (hd : o.dst = some d) (hN : Nat.blt d N = true) (hy : Does P N l o w v w') (h : C w' ∧ wG P N ops Q C n m listed' ((d, v) :: l) w') : wH P N ops Q C n m i listed l w := fun a F => by
  subst hl
  unfold wpOp
  simp only [hi]
  rw [if_pos (hw a F)]
  refine .inl ?_
  unfold Oper.wp
  rw [hy a F]
  refine ⟨fun _ => h.1, ?_⟩
  rw [hd]
  exact h.2 _ (F.put hN v)
theorem wH_val (hi : ops[i]? = some o) (hl : listed.setIfInBounds i true = listed') (hw : Wanted N ops l o true) (hd : o.dst = some d) (hN : Nat.blt d N = true) (hy : Yld P N l o w v) (h : C w ∧ wG P N ops Q C n m listed' ((d, v) :: l) w) : wH P N ops Q C n m i listed l w := wH_to hi hl hw hd hN hy h
theorem wH_new {V : Nat → Value} {row : Array Value} {t : TypeId} (hi : ops[i]? = some o) (hl : listed.setIfInBounds i true = listed') (S : St B w0 w fs) (hw : Wanted N ops l o true) (hd : o.dst = some d) (hN : Nat.blt d N = true) (hy : Does P N l o w (V w.heap.size) (w.alloc (.cells row t)))
    (h : ∀ b w', St B w0 w' (.blk b row t :: fs) → C w' ∧ wG P N ops Q C n m listed' ((d, V b) :: l) w') : wH P N ops Q C n m i listed l w := wH_to hi hl hw hd hN hy (h _ _ S.alloc)
theorem wH_append {x y : Operand} {t e : TypeId} {z : Value} {size bytes k q c Br : Nat} {A : Option Addr} {xs news xs' : List Value} {sv : Value} (hi' : ops[i]? = some o) (hl : listed.setIfInBounds i true = listed') (j : Nat) (S : St B w0 w fs) (hw : Wanted N ops l o true) (hd : o.dst = some d) (hN : Nat.blt d N = true)
    (ho : o.op = .call { callee := .builtin .append, args := #[x, y], argTypes := #[t, t] }) (hx : ev l x = some sv) (hy : ev l y = some (.slice A q c)) (hi : fs[j]? = some (.own e size sv k xs)) (hr : Rd w Br size A q news)
    (ht : P.underlying t = some (.slice e)) (hinf : (P.info? e).map (fun i => (i.zero, i.size, i.bytes)) = some (some z, size, bytes)) (hzs : z.cells.size = size) (hsz : 0 < size) (h1 : ∀ u ∈ news, u.oneCell' = true) (h63 : k + q ≤ maxLen) (hbytes : (k + q) * bytes ≤ 140737488355328)
    (hxs : xs ++ news = xs') (h : ∀ A' c' w', k + q ≤ c' → c' ≤ maxLen → St B w0 w' (fs.set j (.own e size (.slice A' (k + q) c') (k + q) xs')) → C w' ∧ wG P N ops Q C n m listed' ((d, .slice A' (k + q) c') :: l) w') : wH P N ops Q C n m i listed l w := by
  subst hxs
  obtain ⟨j0, hj0, hz, hs, hb⟩ := info_parts hinf
  obtain ⟨v', w', hrun, h2, h3, h4⟩ := run_append_any (P := P) w B t o.type e j0 z size bytes ht hj0 hz hs hb hzs hsz sv k xs (S.own j hi) Br A q c news hr h1 h63 hbytes S.base
  obtain ⟨A', c', rfl, hc1, hc2⟩ := own_form h2
  exact wH_to hi' hl hw hd hN (d_builtin (xs := [x, y]) (vs := [sv, .slice A q c]) ho ⟨hx, hy, trivial⟩ (fun cs => by simp [builtin, hrun, Sem.run_bind, Result.andThen])) (h A' c' w' hc1 hc2 (S.append j hi h3 h2 h4))
theorem wH_call {f : FuncId} {vs : List Value} {R : Ending → World → Prop} (hi : ops[i]? = some o) (hl : listed.setIfInBounds i true = listed') (hw : Wanted N ops l o true) (hd : o.dst = some d) (hN : Nat.blt d N = true) (he : Enter P N l o w f vs) (hc : Calls P f vs.toArray w R)
    (h : ∀ e w', R e w' → ∃ v, e = .returned v ∧ C w' ∧ wG P N ops Q C n m listed' ((d, v) :: l) w') : wH P N ops Q C n m i listed l w := fun a F => by
  subst hl
  unfold wpOp
  simp only [hi]
  rw [if_pos (hw a F)]
  refine .inl ?_
  unfold Oper.wp
  rw [he a F]
  refine hc.mono fun e w' hr => ?_
  obtain ⟨v, rfl, hC, hv⟩ := h e w' hr
  refine ⟨fun _ => hC, ?_⟩
  rw [hd]
  exact hv _ (F.put hN v)
end
end
end Go.Proofs.Ytkjlafpafmihaaa

namespace Go.Proofs.Ytkjlafpafmihaaa

end Go.Proofs.Ytkjlafpafmihaaa

namespace Go.Proofs.Ytkjlafpafmihaaa
open Go.ChangeShapes Go.WideShapes Go.ChangeAt Go.RowKit

theorem evo_s {l : Slots} {x : Operand} {v : Value} (h : ev l x = some v) : EvO l (some x) (some v) := h
theorem evo_n {l : Slots} : EvO l none none := trivial
section
variable {P : Program} {w : World} {t e : TypeId} {A : Option Addr} {n c s B : Nat} {xs : List Value} {kd ke kf : IntKind}
theorem sb_bound {i : Int} (k y : Nat) (code : BoundsCode) (hik : i = k) (hy : k ≤ y) (w : World) : (Instr.sliceBound (.int kd i) y code).run P w = .ok k w := by
  subst hik
  have h1 : (0 : Int) ≤ k ∧ (k : Int) ≤ y := by omega
  simp [Instr.sliceBound, asIntOf, Sem.run_bind, Result.andThen, h1, hy]
theorem sb_l {i : Int} (l : Nat) (hi : i = l) (h : l ≤ n) (w : World) : (Instr.sliceBounds true n c (some (.int kd i)) none none).run P w = .ok (l, n, c) w := by
  simp [Instr.sliceBounds, Sem.run_bind, Result.andThen, sb_bound l n _ hi h]
theorem add_block (a : Addr) (k : Nat) : a.block = (a.add k).block := by
  unfold Addr.add
  split <;> rfl
theorem slice_exw {lo hi mx : Option Value} {l k q : Nat} (hu : P.underlying t = some (.slice e)) (hz : (P.info? e).map (·.size) = some s) (hb : ∀ w, (Instr.sliceBounds true n c lo hi mx).run P w = .ok (l, k, q) w) (hlk : l ≤ k) (hkn : k ≤ n) (hkq : k ≤ q) :
    ∃ A', (∀ w, (Instr.sliceAt t (.slice A n c) lo hi mx).run P w = .ok (.slice A' (k - l) (q - l)) w) ∧ (∀ (w : World) (B : Nat) (xs : List Value), Rd w B s A n xs → Rd w B s A' (k - l) ((xs.drop (l * s)).take ((k - l) * s))) ∧ ∀ a', A' = some a' → ∃ a, A = some a ∧ a.block = a'.block := by
  obtain ⟨z, hq, hs⟩ : ∃ z, P.info? e = some z ∧ z.size = s := by
    cases h : P.info? e with
    | none => simp [h] at hz
    | some z => exact ⟨z, rfl, by simpa [h] using hz⟩
  refine ⟨if q = l then A else A.map (·.add (l * s)), fun w => ?_, ?_, ?_⟩
  · have h1 : (sizeOf e).run P w = .ok s w := by simp [sizeOf, typeInfo, hq, hs, Sem.run_bind, Result.andThen]
    simp [Instr.sliceAt, Instr.slice, run_underlying hu, Sem.run_bind, Result.andThen, hb, h1]
  · intro w B xs hR
    refine ⟨?_, fun hn => ?_⟩
    · rw [List.length_take, List.length_drop, hR.1, ← Nat.sub_mul]
      exact Nat.min_eq_left (Nat.mul_le_mul_right _ (by omega))
    · obtain ⟨b, off, rfl, hb, hcell⟩ := hR.2 (by omega)
      rw [if_neg (by omega)]
      refine ⟨b, off + l * s, ?_, hb, fun j u hu => ?_⟩
      · simp only [Option.map_some, Option.some.injEq]
        rw [Go.WideShapes.add_plain]
      · rw [Nat.add_assoc]
        refine hcell _ u ?_
        have hj : j < (k - l) * s := by
          have := (List.getElem?_eq_some_iff.1 hu).1
          rw [List.length_take] at this
          omega
        rw [List.getElem?_take_of_lt hj, List.getElem?_drop] at hu
        exact hu
  · intro a' h
    split at h
    · exact ⟨a', h, rfl⟩
    · cases A with
      | none => cases h
      | some a => cases h; exact ⟨a, rfl, add_block a _⟩
theorem r_eqg {op : BinOp} {xo yo : Operand} {a b : Array Value} {v : Value} (hg : P.eqGuardType P.depth t = false) (h : (binOp op t (.agg a) (.agg b)).run P w = .ok v w) : (do eqGuard op t xo yo (.agg a) (.agg b); binOp op t (.agg a) (.agg b) : Sem Value).run P w = .ok v w := by
  have h1 : (eqGuard op t xo yo (.agg a) (.agg b)).run P w = .ok () w := by
    have hp : ∀ w, (program : Sem Program).run P w = .ok P w := fun _ => rfl
    unfold eqGuard
    cases op <;> first | rfl | simp [hp, Sem.run_bind, Result.andThen, hg]
  rw [Sem.run_bind, h1]
  exact h
end
end Go.Proofs.Ytkjlafpafmihaaa

namespace Go.Proofs.Ytkjlafpafmihaaa
open Go.ChangeShapes Go.WideShapes Go.RowKit

theorem inf3 : (Try.prog.info? 3).map (·.size) = some 1 := by kernel_rfl
theorem infz3 : (Try.prog.info? 3).map (fun i => (i.zero, i.size, i.bytes)) = some (some (.int .i64 0), 1, 8) := by kernel_rfl
theorem inf22 : (Try.prog.info? 22).map (·.size) = some 1 := by kernel_rfl
theorem inf23 : (Try.prog.info? 23).map (·.size) = some 1 := by kernel_rfl
theorem inf26 : (Try.prog.info? 26).map (·.size) = some 9 := by kernel_rfl
theorem inf27 : (Try.prog.info? 27).map (·.size) = some 36 := by kernel_rfl
theorem inf29 : (Try.prog.info? 29).map (·.size) = some 41 := by kernel_rfl
theorem fa29_0 (b o : Nat) (w : World) : (Instr.fieldAt 29 (.pointer (some ⟨b, o, none⟩)) 0).run Try.prog w = .ok (.pointer (some ⟨b, o, none⟩)) w := by kernel_rfl
theorem fa29_1 (b o : Nat) (w : World) : (Instr.fieldAt 29 (.pointer (some ⟨b, o, none⟩)) 1).run Try.prog w = .ok (.pointer (some ⟨b, o + 1, none⟩)) w := by kernel_rfl
theorem fa29_2 (b o : Nat) (w : World) : (Instr.fieldAt 29 (.pointer (some ⟨b, o, none⟩)) 2).run Try.prog w = .ok (.pointer (some ⟨b, o + 2, none⟩)) w := by kernel_rfl
theorem fa29_3 (b o : Nat) (w : World) : (Instr.fieldAt 29 (.pointer (some ⟨b, o, none⟩)) 3).run Try.prog w = .ok (.pointer (some ⟨b, o + 3, none⟩)) w := by kernel_rfl
theorem fa29_4 (b o : Nat) (w : World) : (Instr.fieldAt 29 (.pointer (some ⟨b, o, none⟩)) 4).run Try.prog w = .ok (.pointer (some ⟨b, o + 4, none⟩)) w := by kernel_rfl
theorem fa29_5 (b o : Nat) (w : World) : (Instr.fieldAt 29 (.pointer (some ⟨b, o, none⟩)) 5).run Try.prog w = .ok (.pointer (some ⟨b, o + 5, none⟩)) w := by kernel_rfl
theorem inf35 : (Try.prog.info? 35).map (·.size) = some 2 := by kernel_rfl
theorem fa35_0 (b o : Nat) (w : World) : (Instr.fieldAt 35 (.pointer (some ⟨b, o, none⟩)) 0).run Try.prog w = .ok (.pointer (some ⟨b, o, none⟩)) w := by kernel_rfl
theorem fa35_1 (b o : Nat) (w : World) : (Instr.fieldAt 35 (.pointer (some ⟨b, o, none⟩)) 1).run Try.prog w = .ok (.pointer (some ⟨b, o + 1, none⟩)) w := by kernel_rfl
theorem inf37 : (Try.prog.info? 37).map (·.size) = some 6 := by kernel_rfl
theorem fa37_0 (b o : Nat) (w : World) : (Instr.fieldAt 37 (.pointer (some ⟨b, o, none⟩)) 0).run Try.prog w = .ok (.pointer (some ⟨b, o, none⟩)) w := by kernel_rfl
theorem fa37_1 (b o : Nat) (w : World) : (Instr.fieldAt 37 (.pointer (some ⟨b, o, none⟩)) 1).run Try.prog w = .ok (.pointer (some ⟨b, o + 1, none⟩)) w := by kernel_rfl
theorem fa37_2 (b o : Nat) (w : World) : (Instr.fieldAt 37 (.pointer (some ⟨b, o, none⟩)) 2).run Try.prog w = .ok (.pointer (some ⟨b, o + 2, none⟩)) w := by kernel_rfl
theorem fa37_3 (b o : Nat) (w : World) : (Instr.fieldAt 37 (.pointer (some ⟨b, o, none⟩)) 3).run Try.prog w = .ok (.pointer (some ⟨b, o + 3, none⟩)) w := by kernel_rfl
theorem fa37_4 (b o : Nat) (w : World) : (Instr.fieldAt 37 (.pointer (some ⟨b, o, none⟩)) 4).run Try.prog w = .ok (.pointer (some ⟨b, o + 4, none⟩)) w := by kernel_rfl
theorem inf93 : (Try.prog.info? 93).map (·.size) = some 4 := by kernel_rfl
theorem inf137 : (Try.prog.info? 137).map (·.size) = some 2 := by kernel_rfl
theorem infz137 : (Try.prog.info? 137).map (fun i => (i.zero, i.size, i.bytes)) = some (some (.agg #[.int .i64 0, .int .i64 0]), 2, 16) := by kernel_rfl
theorem fa137_0 (b o : Nat) (w : World) : (Instr.fieldAt 137 (.pointer (some ⟨b, o, none⟩)) 0).run Try.prog w = .ok (.pointer (some ⟨b, o, none⟩)) w := by kernel_rfl
theorem fa137_1 (b o : Nat) (w : World) : (Instr.fieldAt 137 (.pointer (some ⟨b, o, none⟩)) 1).run Try.prog w = .ok (.pointer (some ⟨b, o + 1, none⟩)) w := by kernel_rfl
theorem inf141 : (Try.prog.info? 141).map (·.size) = some 4 := by kernel_rfl
theorem infz141 : (Try.prog.info? 141).map (fun i => (i.zero, i.size, i.bytes)) = some (some (.agg #[.int .i64 0, .int .i64 0, .int .i64 0, .int .i64 0]), 4, 32) := by kernel_rfl
theorem fa141_0 (b o : Nat) (w : World) : (Instr.fieldAt 141 (.pointer (some ⟨b, o, none⟩)) 0).run Try.prog w = .ok (.pointer (some ⟨b, o, none⟩)) w := by kernel_rfl
theorem fa141_1 (b o : Nat) (w : World) : (Instr.fieldAt 141 (.pointer (some ⟨b, o, none⟩)) 1).run Try.prog w = .ok (.pointer (some ⟨b, o + 2, none⟩)) w := by kernel_rfl
theorem fa190_0 (b o : Nat) (w : World) : (Instr.fieldAt 190 (.pointer (some ⟨b, o, none⟩)) 0).run Try.prog w = .ok (.pointer (some ⟨b, o, none⟩)) w := by kernel_rfl
theorem en30 (args : Array Value) (w : World) : (callFunc 30 args).run Try.prog w = .ok (.enter 30 args) w := enters_of_ Try.func30 (by kernel_rfl) rfl args w
theorem en31 (args : Array Value) (w : World) : (callFunc 31 args).run Try.prog w = .ok (.enter 31 args) w := enters_of_ Try.func31 (by kernel_rfl) rfl args w
theorem en32 (args : Array Value) (w : World) : (callFunc 32 args).run Try.prog w = .ok (.enter 32 args) w := enters_of_ Try.func32 (by kernel_rfl) rfl args w
theorem en66 (args : Array Value) (w : World) : (callFunc 66 args).run Try.prog w = .ok (.enter 66 args) w := enters_of_ Try.func66 (by kernel_rfl) rfl args w
theorem en67 (args : Array Value) (w : World) : (callFunc 67 args).run Try.prog w = .ok (.enter 67 args) w := enters_of_ Try.func67 (by kernel_rfl) rfl args w
theorem en68 (args : Array Value) (w : World) : (callFunc 68 args).run Try.prog w = .ok (.enter 68 args) w := enters_of_ Try.func68 (by kernel_rfl) rfl args w
theorem en104 (args : Array Value) (w : World) : (callFunc 104 args).run Try.prog w = .ok (.enter 104 args) w := enters_of_ Try.func104 (by kernel_rfl) rfl args w
theorem en105 (args : Array Value) (w : World) : (callFunc 105 args).run Try.prog w = .ok (.enter 105 args) w := enters_of_ Try.func105 (by kernel_rfl) rfl args w
theorem en106 (args : Array Value) (w : World) : (callFunc 106 args).run Try.prog w = .ok (.enter 106 args) w := enters_of_ Try.func106 (by kernel_rfl) rfl args w
theorem en107 (args : Array Value) (w : World) : (callFunc 107 args).run Try.prog w = .ok (.enter 107 args) w := enters_of_ Try.func107 (by kernel_rfl) rfl args w
theorem en108 (args : Array Value) (w : World) : (callFunc 108 args).run Try.prog w = .ok (.enter 108 args) w := enters_of_ Try.func108 (by kernel_rfl) rfl args w
theorem en142 (args : Array Value) (w : World) : (callFunc 142 args).run Try.prog w = .ok (.enter 142 args) w := enters_of_ Try.func142 (by kernel_rfl) rfl args w
theorem en143 (args : Array Value) (w : World) : (callFunc 143 args).run Try.prog w = .ok (.enter 143 args) w := enters_of_ Try.func143 (by kernel_rfl) rfl args w
theorem en144 (args : Array Value) (w : World) : (callFunc 144 args).run Try.prog w = .ok (.enter 144 args) w := enters_of_ Try.func144 (by kernel_rfl) rfl args w
theorem en145 (args : Array Value) (w : World) : (callFunc 145 args).run Try.prog w = .ok (.enter 145 args) w := enters_of_ Try.func145 (by kernel_rfl) rfl args w
theorem en146 (args : Array Value) (w : World) : (callFunc 146 args).run Try.prog w = .ok (.enter 146 args) w := enters_of_ Try.func146 (by kernel_rfl) rfl args w
theorem en147 (args : Array Value) (w : World) : (callFunc 147 args).run Try.prog w = .ok (.enter 147 args) w := enters_of_ Try.func147 (by kernel_rfl) rfl args w
theorem en148 (args : Array Value) (w : World) : (callFunc 148 args).run Try.prog w = .ok (.enter 148 args) w := enters_of_ Try.func148 (by kernel_rfl) rfl args w
theorem en149 (args : Array Value) (w : World) : (callFunc 149 args).run Try.prog w = .ok (.enter 149 args) w := enters_of_ Try.func149 (by kernel_rfl) rfl args w
theorem en150 (args : Array Value) (w : World) : (callFunc 150 args).run Try.prog w = .ok (.enter 150 args) w := enters_of_ Try.func150 (by kernel_rfl) rfl args w
theorem en151 (args : Array Value) (w : World) : (callFunc 151 args).run Try.prog w = .ok (.enter 151 args) w := enters_of_ Try.func151 (by kernel_rfl) rfl args w
theorem en174 (args : Array Value) (w : World) : (callFunc 174 args).run Try.prog w = .ok (.enter 174 args) w := enters_of_ Try.func174 (by kernel_rfl) rfl args w
theorem en175 (args : Array Value) (w : World) : (callFunc 175 args).run Try.prog w = .ok (.enter 175 args) w := enters_of_ Try.func175 (by kernel_rfl) rfl args w
theorem en176 (args : Array Value) (w : World) : (callFunc 176 args).run Try.prog w = .ok (.enter 176 args) w := enters_of_ Try.func176 (by kernel_rfl) rfl args w
theorem en177 (args : Array Value) (w : World) : (callFunc 177 args).run Try.prog w = .ok (.enter 177 args) w := enters_of_ Try.func177 (by kernel_rfl) rfl args w
theorem en178 (args : Array Value) (w : World) : (callFunc 178 args).run Try.prog w = .ok (.enter 178 args) w := enters_of_ Try.func178 (by kernel_rfl) rfl args w
theorem en179 (args : Array Value) (w : World) : (callFunc 179 args).run Try.prog w = .ok (.enter 179 args) w := enters_of_ Try.func179 (by kernel_rfl) rfl args w
theorem mixed : Try.prog.follows .mixedOrders = true := by kernel_rfl
end Go.Proofs.Ytkjlafpafmihaaa

namespace Go.Proofs.Ytkjlafpafmihaaa
open Go.RowKit

def inR (n lo hi : Int) : Bool := decide (lo ≤ n) && decide (n ≤ hi)
theorem inR_true {n lo hi : Int} : inR n lo hi = true ↔ lo ≤ n ∧ n ≤ hi := by simp [inR]
theorem inR_false {n lo hi : Int} : inR n lo hi = false ↔ n < lo ∨ hi < n := by
  rw [← Bool.not_eq_true, inR_true]; omega

set_option maxHeartbeats 400000 in
theorem In_calls (n lo hi : Int) (w : World) :
    Calls Try.prog 107 #[.int .i64 n, .int .i64 lo, .int .i64 hi] w fun e w' => e = .returned (.bool (inR n lo hi)) ∧ w = w' := by
  by_cases h1 : lo ≤ n <;> by_cases h2 : n ≤ hi
  all_goals
    go_enter Try.func107, Try.ntmps107
    go_wp2
    go_ret
    exact ⟨by simp [inR]; omega, rfl⟩

end Go.Proofs.Ytkjlafpafmihaaa

namespace Go.Proofs.Ytkjlafpafmihaaa
open Go.ChangeShapes Go.WideShapes Go.RowKit

/-- A window: Top, and which of the eight ids below it were taken. -/
structure Win where
  top : Int
  b0 : Bool
  b1 : Bool
  b2 : Bool
  b3 : Bool
  b4 : Bool
  b5 : Bool
  b6 : Bool
  b7 : Bool
  deriving DecidableEq

def Win.seen (x : Win) : List Bool := [x.b0, x.b1, x.b2, x.b3, x.b4, x.b5, x.b6, x.b7]
def Win.cells (x : Win) : List Value := [.int .i64 x.top, .bool x.b0, .bool x.b1, .bool x.b2, .bool x.b3, .bool x.b4, .bool x.b5, .bool x.b6, .bool x.b7]
def Win.val (x : Win) : Value := .agg #[.int .i64 x.top, .bool x.b0, .bool x.b1, .bool x.b2, .bool x.b3, .bool x.b4, .bool x.b5, .bool x.b6, .bool x.b7]
def Win.at (x : Win) (k : Nat) : Bool := x.seen.getD k false

def winAll (t : Int) (f : Nat → Bool) : Bool := (List.range 8).all fun k => !f k || decide (8 ≤ t + k)
theorem winAll_iff {t : Int} {f : Nat → Bool} : winAll t f = true ↔ ∀ k, k < 8 → f k = true → 8 ≤ t + k := by
  simp only [winAll, List.all_eq_true, List.mem_range, Bool.or_eq_true, Bool.not_eq_true', decide_eq_true_eq]
  constructor
  · intro h k hk hf
    rcases h k hk with h | h
    · rw [hf] at h; cases h
    · exact h
  · intro h k hk
    cases hf : f k
    · exact .inl rfl
    · exact .inr (h k hk hf)

/-- P3.1: 0, or 6. -/
def winFault (x : Win) : Int :=
  if (decide (0 ≤ x.top) && decide (x.top ≤ 1073741825) && winAll x.top x.at && (!decide (0 < x.top) || x.b7)) = true then 0 else 6

theorem win_index0 (b0 b1 b2 b3 b4 b5 b6 b7 : Bool) (w : World) : (Instr.index 24 (.agg #[.bool b0, .bool b1, .bool b2, .bool b3, .bool b4, .bool b5, .bool b6, .bool b7]) (.int .i64 0)).run Try.prog w = .ok (.bool b0) w := by kernel_rfl
theorem win_index1 (b0 b1 b2 b3 b4 b5 b6 b7 : Bool) (w : World) : (Instr.index 24 (.agg #[.bool b0, .bool b1, .bool b2, .bool b3, .bool b4, .bool b5, .bool b6, .bool b7]) (.int .i64 1)).run Try.prog w = .ok (.bool b1) w := by kernel_rfl
theorem win_index2 (b0 b1 b2 b3 b4 b5 b6 b7 : Bool) (w : World) : (Instr.index 24 (.agg #[.bool b0, .bool b1, .bool b2, .bool b3, .bool b4, .bool b5, .bool b6, .bool b7]) (.int .i64 2)).run Try.prog w = .ok (.bool b2) w := by kernel_rfl
theorem win_index3 (b0 b1 b2 b3 b4 b5 b6 b7 : Bool) (w : World) : (Instr.index 24 (.agg #[.bool b0, .bool b1, .bool b2, .bool b3, .bool b4, .bool b5, .bool b6, .bool b7]) (.int .i64 3)).run Try.prog w = .ok (.bool b3) w := by kernel_rfl
theorem win_index4 (b0 b1 b2 b3 b4 b5 b6 b7 : Bool) (w : World) : (Instr.index 24 (.agg #[.bool b0, .bool b1, .bool b2, .bool b3, .bool b4, .bool b5, .bool b6, .bool b7]) (.int .i64 4)).run Try.prog w = .ok (.bool b4) w := by kernel_rfl
theorem win_index5 (b0 b1 b2 b3 b4 b5 b6 b7 : Bool) (w : World) : (Instr.index 24 (.agg #[.bool b0, .bool b1, .bool b2, .bool b3, .bool b4, .bool b5, .bool b6, .bool b7]) (.int .i64 5)).run Try.prog w = .ok (.bool b5) w := by kernel_rfl
theorem win_index6 (b0 b1 b2 b3 b4 b5 b6 b7 : Bool) (w : World) : (Instr.index 24 (.agg #[.bool b0, .bool b1, .bool b2, .bool b3, .bool b4, .bool b5, .bool b6, .bool b7]) (.int .i64 6)).run Try.prog w = .ok (.bool b6) w := by kernel_rfl
theorem win_index7 (b0 b1 b2 b3 b4 b5 b6 b7 : Bool) (w : World) : (Instr.index 24 (.agg #[.bool b0, .bool b1, .bool b2, .bool b3, .bool b4, .bool b5, .bool b6, .bool b7]) (.int .i64 7)).run Try.prog w = .ok (.bool b7) w := by kernel_rfl
theorem win_index (x : Win) (k : Nat) (hk : k < 8) (w : World) :
    (Instr.index 24 (.agg #[.bool x.b0, .bool x.b1, .bool x.b2, .bool x.b3, .bool x.b4, .bool x.b5, .bool x.b6, .bool x.b7]) (.int .i64 k)).run Try.prog w = .ok (.bool (x.at k)) w := by
  have h : k = 0 ∨ k = 1 ∨ k = 2 ∨ k = 3 ∨ k = 4 ∨ k = 5 ∨ k = 6 ∨ k = 7 := by omega
  rcases h with rfl | rfl | rfl | rfl | rfl | rfl | rfl | rfl
  · exact win_index0 _ _ _ _ _ _ _ _ w
  · exact win_index1 _ _ _ _ _ _ _ _ w
  · exact win_index2 _ _ _ _ _ _ _ _ w
  · exact win_index3 _ _ _ _ _ _ _ _ w
  · exact win_index4 _ _ _ _ _ _ _ _ w
  · exact win_index5 _ _ _ _ _ _ _ _ w
  · exact win_index6 _ _ _ _ _ _ _ _ w
  · exact win_index7 _ _ _ _ _ _ _ _ w

set_option maxHeartbeats 400000 in
theorem lowest_calls (x : Win) (w : World) (h0 : 0 ≤ x.top) (h1 : x.top ≤ 1073741825) :
    Calls Try.prog 165 #[x.val] w fun e w' => e = .returned (.int .i64 (x.top - 8)) ∧ Below w.heap.size w w' := by
  obtain ⟨t, b0, b1, b2, b3, b4, b5, b6, b7⟩ := x
  unfold Win.val
  simp only at h0 h1 ⊢
  go_enter Try.func165, Try.ntmps165
  go_wp2
  go_ret
  exact ⟨rfl, by go_grown⟩

/-- An int's answer, and nothing below the old heap's end turned. -/
def IntPostW (w : World) (k : Int) (e : Ending) (w' : World) : Prop := e = .returned (.int .i64 k) ∧ Below w.heap.size w w'

set_option maxRecDepth 100000 in
set_option maxHeartbeats 4000000 in
theorem WCheck_range (x : Win) (w : World) (h : x.top < 0 ∨ 1073741825 < x.top) : Calls Try.prog 104 #[x.val] w (IntPostW w 6) := by
  obtain ⟨t, b0, b1, b2, b3, b4, b5, b6, b7⟩ := x
  unfold Win.val
  simp only at h ⊢
  by_cases h0 : t < 0
  · clear h
    go_enter Try.func104, Try.ntmps104
    go_wp2_with fail
    go_ret
    exact ⟨rfl, by go_grown⟩
  · have h1 : 1073741825 < t := by omega
    clear h
    go_enter Try.func104, Try.ntmps104
    go_wp2_with fail
    go_ret
    exact ⟨rfl, by go_grown⟩

theorem winFault_bad {x : Win} {k : Nat} (hk : k < 8) (h : x.at k = true) (h2 : x.top + k < 8) : winFault x = 6 := by
  refine if_neg (fun hh => ?_)
  simp only [Bool.and_eq_true] at hh
  have := winAll_iff.1 hh.1.2 k hk h
  omega

set_option maxRecDepth 100000 in
set_option maxHeartbeats 4000000 in
theorem WCheck_in (x : Win) (w : World) (h0 : 0 ≤ x.top) (h1 : x.top ≤ 1073741825) : Calls Try.prog 104 #[x.val] w (IntPostW w (winFault x)) := by
  have HF : Hid (∀ k, k < 8 → x.at k = true → x.top + k < 8 → winFault x = 6) := Lib.hid (fun k => winFault_bad)
  have HI := Lib.hid (win_index x)
  have HL := Lib.hid (lowest_calls x)
  have HE : Hid (winFault x = if (winAll x.top x.at && (!decide (0 < x.top) || x.b7)) = true then 0 else 6) := by
    unfold Hid winFault
    simp [h0, h1]
  generalize winFault x = z at HF HE
  have hat := Lib.hid (rfl : x.at = x.at)
  generalize x.at = f at HF HI HE hat
  clear hat
  obtain ⟨t, b0, b1, b2, b3, b4, b5, b6, b7⟩ := x
  unfold Win.val at *
  simp only at h0 h1
  go_enter Try.func104, Try.ntmps104
  go_wp2_with fail
  go_loopw [15] (fun i wr => ∃ k : Nat, k ≤ 8 ∧ i = .int .i64 k ∧ (∀ j, j < k → f j = true → 8 ≤ t + j) ∧ Below (w.heap.size + 1) (w.alloc (.cells #[.int .i64 t, .bool b0, .bool b1, .bool b2, .bool b3, .bool b4, .bool b5, .bool b6, .bool b7] 26)) wr) (fun i _ => 8 - (intOf i).toNat)
  case atStart => exact ⟨0, by omega, rfl, by simp, by go_grown⟩
  case round =>
    obtain ⟨k, hk, rfl, hall, hb⟩ := hrel
    have HA := Lib.hid hall
    have HB := Lib.hid hb
    have c0 := hb.cell (p := ⟨w.heap.size, 0, none⟩) (by simp)
    have c1 := hb.cell (p := ⟨w.heap.size, 1, none⟩) (by simp)
    have c2 := hb.cell (p := ⟨w.heap.size, 2, none⟩) (by simp)
    have c3 := hb.cell (p := ⟨w.heap.size, 3, none⟩) (by simp)
    have c4 := hb.cell (p := ⟨w.heap.size, 4, none⟩) (by simp)
    have c5 := hb.cell (p := ⟨w.heap.size, 5, none⟩) (by simp)
    have c6 := hb.cell (p := ⟨w.heap.size, 6, none⟩) (by simp)
    have c7 := hb.cell (p := ⟨w.heap.size, 7, none⟩) (by simp)
    have c8 := hb.cell (p := ⟨w.heap.size, 8, none⟩) (by simp)
    simp only [World.cell?_alloc_mark] at c0 c1 c2 c3 c4 c5 c6 c7 c8
    have hsz : w.heap.size + 1 ≤ wr.heap.size := by have := hb.size; simpa using this
    clear hall hb
    by_cases hlt : k < 8
    · have hi := HI.out k hlt
      cases hfk : f k
      · rw [hfk] at hi
        go_wp2_with fail
        go_roundw
        case rel => exact ⟨k + 1, by omega, by go_num, (fun j hj hfj => by
          rcases Nat.lt_or_ge j k with h | h
          · exact HA.out j h hfj
          · rw [show j = k by omega, hfk] at hfj; cases hfj), HB.out⟩
        case measure => simp [intOf]; omega
      · rw [hfk] at hi
        by_cases hneg : t - 8 + k < 0
        · have hz := HF.out k hlt hfk (by omega)
          subst hz
          clear hfk
          go_wp2_with fail
          refine (HL.out _ h0 h1).mono ?_
          rintro e w1 ⟨rfl, hb1⟩
          have HB1 := Lib.hid hb1
          clear hb1
          go_wp2_with fail
          go_ret
          exact ⟨rfl, ((Below.refl _ w).alloc (Nat.le_refl _) _).trans ((HB.out.mono (by omega)).trans (HB1.out.mono (by omega)))⟩
        · have hf2 := Lib.hid hfk
          clear hfk
          go_wp2_with fail
          refine (HL.out _ h0 h1).mono ?_
          rintro e w1 ⟨rfl, hb1⟩
          have HB1 := Lib.hid hb1
          clear hb1
          go_wp2_with fail
          go_roundw
          case rel => exact ⟨k + 1, by omega, by go_num, (fun j hj hfj => by
            rcases Nat.lt_or_ge j k with h | h
            · exact HA.out j h hfj
            · rw [show j = k by omega]; omega), HB.out.trans (HB1.out.mono (by omega))⟩
          case measure => simp [intOf]; omega
    · obtain rfl : k = 8 := by omega
      by_cases ht : 0 < t
      · cases b7
        · have hz : z = 6 := by rw [HE.out]; simp [ht]
          subst hz
          go_wp2_with fail
          go_ret
          exact ⟨rfl, ((Below.refl _ w).alloc (Nat.le_refl _) _).trans (HB.out.mono (by omega))⟩
        · have hz : z = 0 := by rw [HE.out, winAll_iff.2 HA.out]; simp
          subst hz
          go_wp2_with fail
          go_ret
          exact ⟨rfl, ((Below.refl _ w).alloc (Nat.le_refl _) _).trans (HB.out.mono (by omega))⟩
      · have hz : z = 0 := by rw [HE.out, winAll_iff.2 HA.out]; simp [ht]
        subst hz
        go_wp2_with fail
        go_ret
        exact ⟨rfl, ((Below.refl _ w).alloc (Nat.le_refl _) _).trans (HB.out.mono (by omega))⟩

theorem WCheck_calls (x : Win) (w : World) : Calls Try.prog 104 #[x.val] w (IntPostW w (winFault x)) := by
  by_cases h : 0 ≤ x.top ∧ x.top ≤ 1073741825
  · exact WCheck_in x w h.1 h.2
  · rw [show winFault x = 6 from if_neg (fun hh => by simp only [Bool.and_eq_true, decide_eq_true_eq] at hh; exact h ⟨hh.1.1.1, hh.1.1.2⟩)]
    exact WCheck_range x w (by omega)
end Go.Proofs.Ytkjlafpafmihaaa

namespace Go.Proofs.Ytkjlafpafmihaaa
open Go.ChangeShapes Go.WideShapes Go.RowKit

def intCells (l : List Int) : List Value := l.map (Value.int .i64)
theorem intCells_append (l k : List Int) : intCells (l ++ k) = intCells l ++ intCells k := by simp [intCells]
theorem intCells_one (l : List Int) : ∀ u ∈ intCells l, u.oneCell' = true := by
  intro u hu
  simp only [intCells, List.mem_map] at hu
  obtain ⟨b, _, rfl⟩ := hu
  rfl
theorem Rd.int_len {w : World} {B n : Nat} {A : Option Addr} {l : List Int} (h : Rd w B 1 A n (intCells l)) : l.length = n := by
  have := h.1
  simp [intCells] at this
  omega
theorem Rd.int_at {w : World} {B n k : Nat} {A : Option Addr} {l : List Int} (h : Rd w B 1 A n (intCells l)) (hk : k < n) : ∃ b off x, A = some ⟨b, off, none⟩ ∧ b < B ∧ l[k]? = some x ∧ w.cell? ⟨b, off + k, none⟩ = some (.int .i64 x) := by
  obtain ⟨b, off, u, e, hb, hx, hc⟩ := h.at_ hk
  simp only [intCells, List.getElem?_map, Option.map_eq_some_iff] at hx
  obtain ⟨x, hx, rfl⟩ := hx
  exact ⟨b, off, x, e, hb, hx, hc⟩
theorem int_new (w : World) (x : Int) (t : TypeId) : Rd (w.alloc (.cells #[.int .i64 x] t)) (w.heap.size + 1) 1 (some ⟨w.heap.size, 0, none⟩) 1 (intCells [x]) :=
  Rd.new_ w t (intCells [x]) 1 1 (by simp [intCells])

/-- The ids that a window remembers, of the first k places. -/
def idsTo (t : Int) (f : Nat → Bool) : Nat → List Int
  | 0 => []
  | k + 1 => if f k = true then idsTo t f k ++ [t - 8 + k] else idsTo t f k
theorem idsTo_len (t : Int) (f : Nat → Bool) (k : Nat) : (idsTo t f k).length ≤ k := by
  induction k with
  | zero => simp [idsTo]
  | succ k ih => unfold idsTo; split <;> (try simp) <;> omega

theorem i64_info : (Try.prog.info? 3).map (fun i => (i.zero, i.size, i.bytes)) = some (some (.int .i64 0), 1, 8) := by kernel_rfl

/-- A slice of numbers of the call's own. -/
def IdsPost (w : World) (l : List Int) (e : Ending) (w' : World) : Prop := ∃ A n c, e = .returned (.slice A n c) ∧ n = l.length ∧ Below w.heap.size w w' ∧ Rd w' w'.heap.size 1 A n (intCells l)

set_option maxRecDepth 100000 in
set_option maxHeartbeats 4000000 in
theorem idsOf_calls (x : Win) (w : World) (h0 : 0 ≤ x.top) (h1 : x.top ≤ 1073741825) : Calls Try.prog 166 #[x.val] w (IdsPost w (idsTo x.top x.at 8)) := by
  obtain ⟨i0, hi0, hz0, hz1, hz2⟩ := info_parts i64_info
  have HX : Hid (∀ k, k < 8 → (x.cells)[k + 1]? = some (.bool (x.at k))) := by
    intro k hk
    have h : k = 0 ∨ k = 1 ∨ k = 2 ∨ k = 3 ∨ k = 4 ∨ k = 5 ∨ k = 6 ∨ k = 7 := by omega
    rcases h with rfl | rfl | rfl | rfl | rfl | rfl | rfl | rfl <;> rfl
  have hat := Lib.hid (rfl : x.at = x.at)
  generalize x.at = f at HX hat ⊢
  clear hat
  obtain ⟨t, b0, b1, b2, b3, b4, b5, b6, b7⟩ := x
  unfold Win.val
  unfold Win.cells at HX
  simp only at h0 h1 HX ⊢
  go_enter Try.func166, Try.ntmps166
  go_wp2_with fail
  go_loopw [3, 4] (fun v i wr => ∃ k : Nat, k ≤ 8 ∧ i = .int .i64 k ∧ wr.ownsRow (w.heap.size + 1) 3 1 v (idsTo t f k).length (intCells (idsTo t f k)) ∧ Below (w.heap.size + 1) (w.alloc (.cells #[.int .i64 t, .bool b0, .bool b1, .bool b2, .bool b3, .bool b4, .bool b5, .bool b6, .bool b7] 26)) wr) (fun _ i _ => 8 - (intOf i).toNat)
  case atStart => exact ⟨0, by omega, rfl, ownsRow_nil_ _ _ _ _, by go_grown⟩
  case round =>
    obtain ⟨k, hk, rfl, hown, hb⟩ := hrel
    have HO := Lib.hid hown
    have HB := Lib.hid hb
    have hsz : w.heap.size + 1 ≤ wr.heap.size := by have := hb.size; simpa using this
    have c0 := hb.cell (p := ⟨w.heap.size, 0, none⟩) (by simp)
    simp only [World.cell?_alloc_mark] at c0
    by_cases hlt : k < 8
    · have ck := hb.cell (p := ⟨w.heap.size, k + 1, none⟩) (by simp)
      rw [World.cell?_alloc_mark] at ck
      have hx := HX.out k hlt
      simp only [List.getElem?_toArray] at ck
      rw [hx] at ck
      rw [Nat.add_comm] at ck
      have ck' := ck
      rw [Nat.add_comm] at ck'
      have HE : Hid (idsTo t f (k + 1) = if f k = true then idsTo t f k ++ [t - 8 + k] else idsTo t f k) := Lib.hid rfl
      have HN := Lib.hid (int_new wr (t - 8 + k) 3)
      have hlen := idsTo_len t f k
      clear hown hb hx
      generalize idsTo t f k = l at HO HE hlen
      cases hfk : f k
      · rw [hfk] at ck ck' HE
        simp only [Bool.false_eq_true, if_false] at HE
        go_wp2_with fail
        go_roundw
        case rel => exact ⟨k + 1, by omega, by go_num, by rw [HE.out]; exact HO.out, HB.out⟩
        case measure => simp [intOf]; omega
      · rw [hfk] at ck ck' HE
        simp only [if_true] at HE
        go_wp2_with (at_builtin; refine wpList_append_any _ rfl (.tmp 13) (.tmp 19) _ rfl (w.heap.size + 1) 3 i0 _ 1 8 Try.underlying143 hi0 hz0 hz1 hz2 rfl (by omega) _ l.length (intCells l) rfl (HO.out.alloc _) (wr.heap.size + 1) (some ⟨wr.heap.size, 0, none⟩) 1 1 (intCells [t - 8 + k]) rfl HN.out (intCells_one _) (by simp only [maxLen]; omega) (by omega) (by simp; omega) ?_; intro v1 w1 hown1 hg1 hat1)
        have hB1 : Below (w.heap.size + 1) _ w1 := (HB.out.alloc hsz _).grown hg1 (by simp; omega) (HO.out.own_lt ·)
        rw [← intCells_append] at hown1
        have HB1 := Lib.hid hB1
        have HO1 := Lib.hid hown1
        clear hB1 hown1 hg1 hat1
        go_wp2_with fail
        go_roundw
        case rel => exact ⟨k + 1, by omega, by go_num, by rw [HE.out]; simpa using HO1.out, HB1.out⟩
        case measure => simp [intOf]; omega
    · obtain rfl : k = 8 := by omega
      clear hown hb
      go_wp2_with fail
      go_ret
      have hown := HO.out
      obtain ⟨A1, c1, hv, _⟩ := own_form hown
      subst hv
      exact ⟨A1, _, c1, rfl, rfl, ((Below.refl _ w).alloc (Nat.le_refl _) _).trans (HB.out.mono (by omega)), Rd.of_own hown⟩
/-- Eight bools as a window's. -/
def winOn (t : Int) (bs : List Bool) : Win := ⟨t, bs.getD 0 false, bs.getD 1 false, bs.getD 2 false, bs.getD 3 false, bs.getD 4 false, bs.getD 5 false, bs.getD 6 false, bs.getD 7 false⟩
def setBit (bs : List Bool) (k : Int) : List Bool := if 0 ≤ k then bs.set k.toNat true else bs
def bitsTo (t : Int) (l : List Int) : List Bool := l.foldl (fun bs x => setBit bs (x - t + 8)) [false, false, false, false, false, false, false, false]
theorem bitsTo_snoc (t : Int) (l : List Int) (x : Int) : bitsTo t (l ++ [x]) = setBit (bitsTo t l) (x - t + 8) := by simp [bitsTo]
theorem setBit_len (bs : List Bool) (k : Int) : (setBit bs k).length = bs.length := by unfold setBit; split <;> simp
theorem bitsTo_len (t : Int) (l : List Int) : (bitsTo t l).length = 8 := by
  unfold bitsTo
  generalize hb : [false, false, false, false, false, false, false, false] = b
  have h8 : b.length = 8 := by rw [← hb]; rfl
  clear hb
  induction l generalizing b with
  | nil => simpa using h8
  | cons x l ih => exact ih _ (by rw [setBit_len]; exact h8)

/-- The window of ids, the last one of which is the greatest. -/
def winOf (l : List Int) : Win := if l = [] then ⟨0, false, false, false, false, false, false, false, false⟩ else winOn (l.getLastD 0 + 1) (bitsTo (l.getLastD 0 + 1) l)

def winRow (t : Int) (bs : List Bool) : Array Value := (.int .i64 t :: bs.map Value.bool).toArray
theorem eight {bs : List Bool} (h : bs.length = 8) : ∃ a0 a1 a2 a3 a4 a5 a6 a7, bs = [a0, a1, a2, a3, a4, a5, a6, a7] := by
  match bs, h with
  | [a0, a1, a2, a3, a4, a5, a6, a7], _ => exact ⟨a0, a1, a2, a3, a4, a5, a6, a7, rfl⟩

/-- A window, and nothing below the old heap's end turned. -/
def WinPost (w : World) (x : Win) (e : Ending) (w' : World) : Prop := e = .returned x.val ∧ Below w.heap.size w w'

set_option maxRecDepth 100000 in
set_option maxHeartbeats 4000000 in
theorem windowOf_nil (A : Option Addr) (c : Nat) (w : World) : Calls Try.prog 167 #[.slice A 0 c] w (WinPost w (winOf [])) := by
  go_enter Try.func167, Try.ntmps167
  go_wp2_with fail
  refine bodyPost_ret (v := (winOf []).val) (by simp [results, Try.results167, go_sem, winOf, Win.val]) rfl ?_
  exact ⟨rfl, by go_grown⟩

structure WB (w : World) (t : Int) (bs : List Bool) (wr : World) : Prop where
  below : Below w.heap.size w wr
  res : wr.heap[w.heap.size]? = some (.cells #[.int .i64 0, .bool false, .bool false, .bool false, .bool false, .bool false, .bool false, .bool false, .bool false] 26 (0, 0))
  row : wr.heap[w.heap.size + 1]? = some (.cells (winRow t bs) 26 (0, 0))

theorem WB.drewN {w wr : World} {t : Int} {bs : List Bool} (h : WB w t bs wr) (q : Nat) : WB w t bs (wr.drewN q) :=
  ⟨⟨h.below.os, h.below.tape, h.below.output, h.below.size, h.below.block⟩, h.res, h.row⟩
theorem WB.set_ {w wr : World} {t : Int} {bs : List Bool} (h : WB w t bs wr) (j : Nat) : WB w t (bs.set j true) (wr.setCell ⟨w.heap.size + 1, 1 + j, none⟩ (.bool true)) := by
  refine ⟨h.below.setCell (by simp) _, ?_, ?_⟩
  · rw [Below.heap_setCell _ _ _ _ (by simp)]
    exact h.res
  · have hr := h.row
    simp only [World.setCell, Array.getElem?_modify, hr]
    simp [winRow, Nat.add_comm 1 j, List.map_set]
theorem WB.cell0 {w wr : World} {t : Int} {bs : List Bool} (h : WB w t bs wr) : wr.cell? ⟨w.heap.size + 1, 0, none⟩ = some (.int .i64 t) := by
  rw [cell_of_row wr _ 0 _ _ (0, 0) h.row]
  simp [winRow]
theorem WB.cell {w wr : World} {t : Int} {bs : List Bool} (h : WB w t bs wr) {j : Nat} (hj : j < bs.length) : wr.cell? ⟨w.heap.size + 1, 1 + j, none⟩ = some (.bool (bs.getD j false)) := by
  rw [cell_of_row wr _ (1 + j) _ _ (0, 0) h.row, Nat.add_comm]
  simp [winRow, hj]
theorem WB.free {w wr : World} {t : Int} {bs : List Bool} (h : WB w t bs wr) (j : Nat) : wr.frozen? ⟨w.heap.size + 1, j, none⟩ = false := by
  have := h.row
  simp [World.frozen?, this]
theorem WB.mk_ (w : World) (t : Int) : WB w t [false, false, false, false, false, false, false, false] ((w.alloc (.cells #[.int .i64 0, .bool false, .bool false, .bool false, .bool false, .bool false, .bool false, .bool false, .bool false] 26)).alloc
    (.cells #[.int .i64 t, .bool false, .bool false, .bool false, .bool false, .bool false, .bool false, .bool false, .bool false] 26)) := by
  refine ⟨by go_grown, ?_, ?_⟩
  · show ((w.heap.push _).push _)[_]? = _
    rw [Array.getElem?_push, if_neg (by simp), Array.getElem?_push, if_pos rfl]
  · show ((w.heap.push _).push _)[_]? = _
    rw [Array.getElem?_push, if_pos (by simp)]
    rfl

set_option maxRecDepth 100000 in
set_option maxHeartbeats 4000000 in
theorem windowOf_cons (A : Option Addr) (n c : Nat) (l : List Int) (w : World) (h : Rd w w.heap.size 1 A n (intCells l)) (hn : 0 < n) (hn9 : n ≤ 9) (hle : ∀ x ∈ l, -8 ≤ x ∧ x ≤ l.getLastD 0) (hbig : l.getLastD 0 ≤ 1073741824) :
    Calls Try.prog 167 #[.slice A n c] w (WinPost w (winOf l)) := by
  have hl := h.int_len
  obtain ⟨b0, off0, z, hA, hb0, hz, hcz⟩ := h.int_at (show n - 1 < n by omega)
  have hlast : l.getLastD 0 = z := by
    rw [List.getLastD_eq_getLast?, List.getLast?_eq_getElem?, hl, hz]
    rfl
  have hne : l ≠ [] := by
    intro e
    rw [e] at hl
    simp at hl
    omega
  have hwin : winOf l = winOn (z + 1) (bitsTo (z + 1) l) := by
    unfold winOf
    rw [if_neg hne, hlast]
  rw [hlast] at hle hbig
  have hz8 : -8 ≤ z := (hle z (List.mem_of_getElem? hz)).1
  rw [hwin]
  have H := Lib.hid h
  have HL := Lib.hid hl
  have HLE := Lib.hid hle
  have HA := Lib.hid hA
  subst hA
  have e1 : ((n : Int) - 1).toNat = n - 1 := by omega
  have hn1 : (0 : Int) ≤ (n : Int) - 1 := by omega
  clear h hl hle hne hwin hlast hz
  go_enter Try.func167, Try.ntmps167
  go_wp2_with fail
  go_loopw [4] (fun i wr => ∃ k : Nat, k ≤ n ∧ i = .int .i64 k ∧ WB w (z + 1) (bitsTo (z + 1) (l.take k)) wr) (fun i _ => n - (intOf i).toNat)
  case atStart => exact ⟨0, by omega, rfl, WB.mk_ w (z + 1)⟩
  case round =>
    obtain ⟨k, hk, rfl, hw⟩ := hrel
    have HW := Lib.hid hw
    have hlen := bitsTo_len (z + 1) (l.take k)
    have f0 := hw.cell0
    by_cases hlt : k < n
    · obtain ⟨b1, off1, x, hA1, _, hx, hc⟩ := (H.out.below hw.below (Nat.le_refl _)).int_at hlt
      obtain ⟨hx8, hxz⟩ := HLE.out x (List.mem_of_getElem? hx)
      have HE : Hid (bitsTo (z + 1) (l.take (k + 1)) = setBit (bitsTo (z + 1) (l.take k)) (x - (z + 1) + 8)) := by
        have e := bitsTo_snoc (z + 1) (l.take k) x
        rw [show l.take k ++ [x] = l.take (k + 1) by rw [List.take_add_one, hx]; rfl] at e
        exact e
      simp only [Option.some.injEq, Addr.mk.injEq, and_true] at hA1
      obtain ⟨rfl, rfl⟩ := hA1
      clear hw hx hcz
      generalize bitsTo (z + 1) (l.take k) = bs at HW hlen HE
      by_cases hneg : x - (z + 1) + 8 < 0
      · rw [setBit, if_neg (by omega)] at HE
        go_wp2_with fail
        go_quiet (fail)
        go_wp2_with fail
        go_roundw
        case rel => exact ⟨k + 1, by omega, by go_num, by rw [HE.out]; exact HW.out.drewN _⟩
        case measure => simp [intOf]; omega
      · obtain ⟨j, hj⟩ := Int.eq_ofNat_of_zero_le (show 0 ≤ x - (z + 1) + 8 by omega)
        have hj8 : j < 8 := by omega
        rw [setBit, if_pos (by omega), hj, Int.toNat_natCast] at HE
        have cj := HW.out.cell (j := j) (by omega)
        have fj := HW.out.free (1 + j)
        have HJ := Lib.hid hj
        clear hj hneg
        go_wp2_with fail
        go_quiet (fail)
        rw [HJ.out]
        go_wp2_with fail
        go_roundw
        case rel => exact ⟨k + 1, by omega, by go_num, by rw [HE.out]; exact (HW.out.drewN _).set_ j⟩
        case measure => simp [intOf]; omega
    · obtain rfl : k = n := by omega
      rw [List.take_of_length_le (by have := HL.out; omega)] at HW hlen
      generalize hbs : bitsTo (z + 1) l = bs at HW hlen
      clear hw hcz
      obtain ⟨a0, a1, a2, a3, a4, a5, a6, a7, rfl⟩ := eight hlen
      have HS := Lib.hid hbs
      clear hbs
      have g0 := HW.out.cell (j := 0) (by simp)
      have g1 := HW.out.cell (j := 1) (by simp)
      have g2 := HW.out.cell (j := 2) (by simp)
      have g3 := HW.out.cell (j := 3) (by simp)
      have g4 := HW.out.cell (j := 4) (by simp)
      have g5 := HW.out.cell (j := 5) (by simp)
      have g6 := HW.out.cell (j := 6) (by simp)
      have g7 := HW.out.cell (j := 7) (by simp)
      simp at g0 g1 g2 g3 g4 g5 g6 g7
      have r0 := cell_of_row wr w.heap.size 0 _ _ (0, 0) HW.out.res
      have r1 := cell_of_row wr w.heap.size 1 _ _ (0, 0) HW.out.res
      have r2 := cell_of_row wr w.heap.size 2 _ _ (0, 0) HW.out.res
      have r3 := cell_of_row wr w.heap.size 3 _ _ (0, 0) HW.out.res
      have r4 := cell_of_row wr w.heap.size 4 _ _ (0, 0) HW.out.res
      have r5 := cell_of_row wr w.heap.size 5 _ _ (0, 0) HW.out.res
      have r6 := cell_of_row wr w.heap.size 6 _ _ (0, 0) HW.out.res
      have r7 := cell_of_row wr w.heap.size 7 _ _ (0, 0) HW.out.res
      have r8 := cell_of_row wr w.heap.size 8 _ _ (0, 0) HW.out.res
      simp at r0 r1 r2 r3 r4 r5 r6 r7 r8
      have fz : ∀ j, wr.frozen? ⟨w.heap.size, j, none⟩ = false := fun j => by
        have := HW.out.res
        simp [World.frozen?, this]
      go_wp2_with fail
      refine bodyPost_ret (v := .agg #[.int .i64 (z + 1), .bool a0, .bool a1, .bool a2, .bool a3, .bool a4, .bool a5, .bool a6, .bool a7]) (by simp [results, Try.results167, go_sem, r0, r1, r2, r3, r4, r5, r6, r7, r8]) rfl ?_
      have hB := HW.out.below
      exact ⟨by rw [HS.out]; rfl, by go_grown⟩
end Go.Proofs.Ytkjlafpafmihaaa

namespace Go.Proofs.Ytkjlafpafmihaaa

def headNeg : List Int → Bool
  | [] => false
  | a :: _ => decide (a < 0)

/-- P3.1 as the reference asks it. -/
def winFaultRef (x : Win) : Int :=
  if ¬ (0 ≤ x.top ∧ x.top ≤ 1073741825) then 6
  else if headNeg (idsTo x.top x.at 8) = true then 6
  else if x = winOf (idsTo x.top x.at 8) then 0 else 6

theorem idsTo_lt (t : Int) (f : Nat → Bool) (k : Nat) : ∀ x ∈ idsTo t f k, t - 8 ≤ x ∧ x < t - 8 + k := by
  induction k with
  | zero => simp [idsTo]
  | succ k ih =>
    intro x hx
    unfold idsTo at hx
    split at hx
    · rcases List.mem_append.1 hx with h | h
      · have := ih x h; omega
      · simp at h; omega
    · have := ih x hx; omega

theorem headNeg_append {l : List Int} {y : Int} (h : ∀ x ∈ l, x < y) : headNeg (l ++ [y]) = (headNeg l || decide (y < 0)) := by
  cases l with
  | nil => simp [headNeg]
  | cons a l =>
    have := h a (by simp)
    simp only [List.cons_append, headNeg]
    by_cases ha : a < 0
    · simp [ha]
    · have hy : ¬ y < 0 := by omega
      simp [ha, hy]

theorem headNeg_ids (t : Int) (f : Nat → Bool) (k : Nat) : headNeg (idsTo t f k) = true ↔ ∃ i, i < k ∧ f i = true ∧ t - 8 + i < 0 := by
  induction k with
  | zero => simp [idsTo, headNeg]
  | succ k ih =>
    unfold idsTo
    split
    · rename_i hf
      rw [headNeg_append (fun x hx => (idsTo_lt t f k x hx).2), Bool.or_eq_true, ih, decide_eq_true_eq]
      constructor
      · rintro (⟨i, h1, h2, h3⟩ | h)
        · exact ⟨i, by omega, h2, h3⟩
        · exact ⟨k, by omega, hf, h⟩
      · rintro ⟨i, h1, h2, h3⟩
        by_cases hik : i = k
        · subst hik; exact .inr h3
        · exact .inl ⟨i, by omega, h2, h3⟩
    · rename_i hf
      rw [ih]
      constructor
      · rintro ⟨i, h1, h2, h3⟩; exact ⟨i, by omega, h2, h3⟩
      · rintro ⟨i, h1, h2, h3⟩
        have : i ≠ k := by rintro rfl; exact hf h2
        exact ⟨i, by omega, h2, h3⟩

theorem headNeg_winAll (t : Int) (f : Nat → Bool) : headNeg (idsTo t f 8) = !winAll t f := by
  cases h : winAll t f
  · have h' : ¬ ∀ k, k < 8 → f k = true → 8 ≤ t + k := fun hh => by rw [winAll_iff.2 hh] at h; cases h
    rw [Bool.not_false, headNeg_ids]
    apply Classical.byContradiction
    intro hn
    exact h' (fun k hk hf => by
      apply Classical.byContradiction
      intro hlt
      exact hn ⟨k, hk, hf, by omega⟩)
  · have h' := winAll_iff.1 h
    rw [Bool.not_true, ← Bool.not_eq_true, headNeg_ids]
    rintro ⟨i, h1, h2, h3⟩
    have := h' i h1 h2
    omega

theorem getD_set (bs : List Bool) (k i : Nat) : (bs.set k true).getD i false = if i = k ∧ k < bs.length then true else bs.getD i false := by
  simp only [List.getD_eq_getElem?_getD, List.getElem?_set]
  by_cases h : k = i
  · subst h
    by_cases h2 : k < bs.length <;> simp [h2]
  · have h3 : ¬ i = k := fun e => h e.symm
    simp [h, h3]

theorem bits_ids (t : Int) (f : Nat → Bool) (k : Nat) (hk : k ≤ 8) (i : Nat) : (bitsTo t (idsTo t f k)).getD i false = (decide (i < k) && f i) := by
  induction k with
  | zero =>
    simp only [idsTo, bitsTo, List.foldl_nil, Nat.not_lt_zero, decide_false, Bool.false_and]
    match i with
    | 0 | 1 | 2 | 3 | 4 | 5 | 6 | 7 => rfl
    | n + 8 => rfl
  | succ k ih =>
    have ih := ih (by omega)
    unfold idsTo
    split
    · rename_i hf
      rw [bitsTo_snoc]
      unfold setBit
      rw [if_pos (by omega), show (t - 8 + (k : Int) - t + 8).toNat = k by omega, getD_set, ih, bitsTo_len]
      by_cases h : i = k
      · subst h
        have h8 : i < 8 := by omega
        simp [hf, h8]
      · have h2 : (i < k + 1) ↔ i < k := by omega
        simp [h, h2]
    · rename_i hf
      rw [ih]
      by_cases h : i = k
      · subst h
        simp [hf]
      · have h2 : (i < k + 1) ↔ i < k := by omega
        simp [h2]

theorem winOn_ids (x : Win) : winOn x.top (bitsTo x.top (idsTo x.top x.at 8)) = x := by
  obtain ⟨t, b0, b1, b2, b3, b4, b5, b6, b7⟩ := x
  unfold winOn
  simp only [bits_ids _ _ 8 (Nat.le_refl _)]
  simp [Win.at, Win.seen]

theorem ids_nil {t : Int} {f : Nat → Bool} : ∀ {k : Nat}, idsTo t f k = [] → ∀ i, i < k → f i = false
  | 0, _, i, hi => by omega
  | k + 1, h, i, hi => by
    unfold idsTo at h
    split at h
    · simp at h
    · rename_i hf
      by_cases hik : i = k
      · subst hik; simpa using hf
      · exact ids_nil h i (by omega)

theorem winFaultRef_eq (x : Win) : winFaultRef x = winFault x := by
  have hx := winOn_ids x
  by_cases h : 0 ≤ x.top ∧ x.top ≤ 1073741825
  · unfold winFaultRef winFault
    simp only [h, and_self, not_true_eq_false, if_false, decide_true, Bool.true_and]
    rw [headNeg_winAll]
    cases hw : winAll x.top x.at
    · simp
    · simp only [Bool.not_true, Bool.false_eq_true, if_false, Bool.true_and]
      have hall := winAll_iff.1 hw
      have h7 : x.at 7 = x.b7 := rfl
      cases hb : x.b7
      · have h8 : idsTo x.top x.at 8 = idsTo x.top x.at 7 := by
          show (if x.at 7 = true then _ else _) = _
          rw [h7, hb]
          rfl
        cases hi : idsTo x.top x.at 7 with
        | nil =>
          have hf := ids_nil hi
          rw [h8, hi]
          by_cases ht : 0 < x.top
          · rw [if_neg (fun e => by rw [e] at ht; simp [winOf] at ht)]
            simp [ht]
          · have ht0 : x.top = 0 := by omega
            have e : x = winOf [] := by
              obtain ⟨t, b0, b1, b2, b3, b4, b5, b6, b7⟩ := x
              have g0 := hf 0 (by omega)
              have g1 := hf 1 (by omega)
              have g2 := hf 2 (by omega)
              have g3 := hf 3 (by omega)
              have g4 := hf 4 (by omega)
              have g5 := hf 5 (by omega)
              have g6 := hf 6 (by omega)
              simp only [Win.at, Win.seen, List.getD_cons_zero, List.getD_cons_succ] at g0 g1 g2 g3 g4 g5 g6
              simp only at ht0 hb
              subst g0; subst g1; subst g2; subst g3; subst g4; subst g5; subst g6; subst ht0; subst hb
              rfl
            rw [if_pos e]
            simp [ht]
        | cons a l =>
          have hlast : (a :: l).getLastD 0 ∈ a :: l := by
            rw [List.getLastD_eq_getLast?, List.getLast?_eq_some_getLast (by simp)]
            exact List.getLast_mem _
          have hlt := idsTo_lt x.top x.at 7 _ (by rw [hi]; exact hlast)
          rw [h8, hi]
          have ne : x ≠ winOf (a :: l) := by
            intro e
            have e2 := congrArg Win.top e
            simp only [winOf, List.cons_ne_nil, if_false, winOn] at e2
            omega
          rw [if_neg ne]
          by_cases ht : 0 < x.top
          · simp [ht]
          · exfalso
            obtain ⟨i, h1, h2⟩ : ∃ i, i < 7 ∧ x.at i = true := by
              apply Classical.byContradiction
              intro hn
              have hz : ∀ k, k ≤ 7 → idsTo x.top x.at k = [] := by
                intro k
                induction k with
                | zero => intro _; rfl
                | succ k ih =>
                  intro hk
                  unfold idsTo
                  rw [if_neg (fun hh => hn ⟨k, by omega, hh⟩)]
                  exact ih (by omega)
              rw [hz 7 (Nat.le_refl _)] at hi
              cases hi
            have := hall i (by omega) h2
            omega
      · have h8 : idsTo x.top x.at 8 = idsTo x.top x.at 7 ++ [x.top - 1] := by
          show (if x.at 7 = true then _ else _) = _
          rw [h7, hb, if_pos rfl, show x.top - 8 + ((7 : Nat) : Int) = x.top - 1 by omega]
        have e : x = winOf (idsTo x.top x.at 8) := by
          unfold winOf
          rw [if_neg (by rw [h8]; simp)]
          have hl : (idsTo x.top x.at 8).getLastD 0 + 1 = x.top := by
            rw [h8]
            simp
          rw [hl]
          exact hx.symm
        rw [if_pos e]
        simp
  · unfold winFaultRef winFault
    simp only [h, not_false_eq_true, if_true]
    have : (decide (0 ≤ x.top) && decide (x.top ≤ 1073741825)) = false := by
      rw [Bool.eq_false_iff]
      intro hh
      simp at hh
      exact h hh
    simp [this]
end Go.Proofs.Ytkjlafpafmihaaa

namespace Go.Proofs.Ytkjlafpafmihaaa
open Go.ChangeShapes Go.WideShapes Go.RowKit

def winSh : List Sh := [.at_ (.int .i64), .at_ .bool, .at_ .bool, .at_ .bool, .at_ .bool, .at_ .bool, .at_ .bool, .at_ .bool, .at_ .bool]
theorem flat_win : flat Try.prog 30 26 = some winSh := by kernel_rfl
theorem eqOk_win : eqOk Try.prog 30 26 = true := by kernel_rfl
theorem mkV_win (xs : List Value) : mkV Try.prog 26 xs = .agg xs.toArray := by
  unfold mkV
  rw [Try.underlying26]
theorem Win.kd (a : Win) : All2 Kd a.cells winSh := ⟨⟨_, rfl⟩, ⟨_, rfl⟩, ⟨_, rfl⟩, ⟨_, rfl⟩, ⟨_, rfl⟩, ⟨_, rfl⟩, ⟨_, rfl⟩, ⟨_, rfl⟩, ⟨_, rfl⟩, trivial⟩
theorem Win.cellsEq_ (a b : Win) : cellsEq a.cells b.cells = decide (a = b) := by
  obtain ⟨a1, a2, a3, a4, a5, a6, a7, a8, a9⟩ := a
  obtain ⟨b1, b2, b3, b4, b5, b6, b7, b8, b9⟩ := b
  simp only [Win.cells, cellsEq, cellEq, Win.mk.injEq, Bool.and_true]
  rw [Bool.eq_iff_iff]
  simp
theorem run_neq_win (a b : Win) (w : World) : (binOp .neq 26 (.agg #[.int .i64 a.top, .bool a.b0, .bool a.b1, .bool a.b2, .bool a.b3, .bool a.b4, .bool a.b5, .bool a.b6, .bool a.b7])
    (.agg #[.int .i64 b.top, .bool b.b0, .bool b.b1, .bool b.b2, .bool b.b3, .bool b.b4, .bool b.b5, .bool b.b6, .bool b.b7])).run Try.prog w = .ok (.bool (!decide (a = b))) w := by
  rw [← Win.cellsEq_]
  exact run_neq_cells (P := Try.prog) w flat_win eqOk_win mkV_win a.kd b.kd
theorem ids_last {t : Int} {f : Nat → Bool} (k : Nat) : ∀ x ∈ idsTo t f k, x ≤ (idsTo t f k).getLastD 0 := by
  induction k with
  | zero => simp [idsTo]
  | succ k ih =>
    intro x hx
    unfold idsTo at hx ⊢
    split
    · rename_i hf
      rw [if_pos hf] at hx
      have e : (idsTo t f k ++ [t - 8 + (k : Int)]).getLastD 0 = t - 8 + k := by simp
      rw [e]
      rcases List.mem_append.1 hx with h | h
      · have := idsTo_lt t f k x h; omega
      · simp at h; omega
    · rename_i hf
      rw [if_neg hf] at hx
      exact ih x hx

theorem windowOf_ids (A : Option Addr) (n c : Nat) (t : Int) (f : Nat → Bool) (w : World) (h : Rd w w.heap.size 1 A n (intCells (idsTo t f 8))) (h0 : 0 ≤ t) (h1 : t ≤ 1073741825) :
    Calls Try.prog 167 #[.slice A n c] w (WinPost w (winOf (idsTo t f 8))) := by
  have hl := h.int_len
  have h8 := idsTo_len t f 8
  rcases Nat.eq_zero_or_pos n with hn | hn
  · subst hn
    have e : idsTo t f 8 = [] := List.eq_nil_of_length_eq_zero hl
    rw [e]
    exact windowOf_nil A c w
  · have hne : idsTo t f 8 ≠ [] := by
      intro e
      rw [e] at hl
      simp at hl
      omega
    have hmem : (idsTo t f 8).getLastD 0 ∈ idsTo t f 8 := by
      rw [List.getLastD_eq_getLast?, List.getLast?_eq_some_getLast hne]
      exact List.getLast_mem hne
    have hlast := idsTo_lt t f 8 _ hmem
    exact windowOf_cons A n c _ w h hn (by omega) (fun x hx => ⟨by have := idsTo_lt t f 8 x hx; omega, ids_last 8 x hx⟩) (by omega)

set_option maxRecDepth 100000 in
set_option maxHeartbeats 4000000 in
theorem WindowFault_range (x : Win) (w : World) (h : inR x.top 0 1073741825 = false) : Calls Try.prog 108 #[x.val] w (IntPostW w 6) := by
  obtain ⟨t, b0, b1, b2, b3, b4, b5, b6, b7⟩ := x
  unfold Win.val
  simp only at h
  go_enter Try.func108, Try.ntmps108
  go_wp2_with (go_at_call 107; refine (In_calls _ _ _ _).mono ?_; rintro e w' ⟨rfl, rfl⟩)
  go_ret
  exact ⟨rfl, by go_grown⟩

set_option maxRecDepth 100000 in
set_option maxHeartbeats 4000000 in
theorem WindowFault_in (x : Win) (w : World) (h : inR x.top 0 1073741825 = true) : Calls Try.prog 108 #[x.val] w
    (IntPostW w (if headNeg (idsTo x.top x.at 8) = true then 6 else if x = winOf (idsTo x.top x.at 8) then 0 else 6)) := by
  have hr := inR_true.1 h
  have HI := Lib.hid fun w => idsOf_calls x w hr.1 hr.2
  have HW := Lib.hid fun A n c w hh => windowOf_ids A n c x.top x.at w hh hr.1 hr.2
  generalize hids : idsTo x.top x.at 8 = l at HI HW ⊢
  generalize hwin : winOf l = y at HW ⊢
  clear hids hwin hr
  generalize hfin : (if headNeg l = true then (6 : Int) else if x = y then 0 else 6) = z
  have HZ := Lib.hid hfin
  clear hfin
  obtain ⟨t, b0, b1, b2, b3, b4, b5, b6, b7⟩ := x
  obtain ⟨t', d0, d1, d2, d3, d4, d5, d6, d7⟩ := y
  have hq := run_neq_win ⟨t, b0, b1, b2, b3, b4, b5, b6, b7⟩ ⟨t', d0, d1, d2, d3, d4, d5, d6, d7⟩
  simp only at hq
  generalize hd : decide ((⟨t, b0, b1, b2, b3, b4, b5, b6, b7⟩ : Win) = ⟨t', d0, d1, d2, d3, d4, d5, d6, d7⟩) = dq at hq
  have HD := Lib.hid hd
  clear hd
  unfold Win.val WinPost at *
  unfold Win.val at *
  simp only at h
  go_enter Try.func108, Try.ntmps108
  go_wp2_with fail
  refine (In_calls _ _ _ _).mono ?_
  rintro e w' ⟨rfl, rfl⟩
  go_wp2_with fail
  refine (HI.out _).mono ?_
  rintro e w1 ⟨A1, n1, c1, rfl, hn1, hb1, hr1⟩
  have HN := Lib.hid hn1
  have HR := Lib.hid hr1
  have HB : Hid (Below w.heap.size w w1) := Lib.hid (Below.trans (by go_grown) (hb1.mono (by simp)))
  have hz : w.heap.size < w1.heap.size := by have := hb1.size; simp at this; omega
  have c0 := hb1.cell (p := ⟨w.heap.size, 0, none⟩) (by simp)
  have c1' := hb1.cell (p := ⟨w.heap.size, 1, none⟩) (by simp)
  have c2 := hb1.cell (p := ⟨w.heap.size, 2, none⟩) (by simp)
  have c3 := hb1.cell (p := ⟨w.heap.size, 3, none⟩) (by simp)
  have c4 := hb1.cell (p := ⟨w.heap.size, 4, none⟩) (by simp)
  have c5 := hb1.cell (p := ⟨w.heap.size, 5, none⟩) (by simp)
  have c6 := hb1.cell (p := ⟨w.heap.size, 6, none⟩) (by simp)
  have c7 := hb1.cell (p := ⟨w.heap.size, 7, none⟩) (by simp)
  have c8 := hb1.cell (p := ⟨w.heap.size, 8, none⟩) (by simp)
  simp only [World.cell?_alloc_mark] at c0 c1' c2 c3 c4 c5 c6 c7 c8
  simp at c0 c1' c2 c3 c4 c5 c6 c7 c8
  clear hb1 hr1 hn1
  cases l with
  | nil =>
    have hn : n1 = 0 := HN.out
    have HZ' : Hid ((if (⟨t, b0, b1, b2, b3, b4, b5, b6, b7⟩ : Win) = ⟨t', d0, d1, d2, d3, d4, d5, d6, d7⟩ then (0 : Int) else 6) = z) := (if_neg (by simp [headNeg])).symm.trans HZ.out
    have hd0 : decide (0 < n1) = false := by simp; omega
    clear hn
    go_wp2_with fail
    refine wp_region_any (by kernel_rfl) ?_
    change wpAny _ _ _ _ _ _ _ (World.drew _)
    refine wpAny_take (i := 0) (v := ?_) rfl (by kernel_rfl) (by kernel_rfl) (by kernel_rfl) (fun _ _ _ h => h) (Or.inl ⟨by kernel_rfl, ?_⟩) ?_
    case refine_2 => intro w; go_simp; try (with_reducible rfl)
    refine wpAny_take (i := 1) (v := ?_) rfl (by kernel_rfl) (by kernel_rfl) (by kernel_rfl) (fun _ _ _ h => h) (Or.inl ⟨by kernel_rfl, ?_⟩) ?_
    case refine_2 => intro w; go_simp; try (with_reducible rfl)
    refine wpAny_take (i := 2) (v := ?_) rfl (by kernel_rfl) (by kernel_rfl) (by kernel_rfl) (fun _ _ _ h => h) (Or.inl ⟨by kernel_rfl, ?_⟩) ?_
    case refine_2 => intro w; go_simp; try (with_reducible rfl)
    refine wpAny_take (i := 3) (v := ?_) rfl (by kernel_rfl) (by kernel_rfl) (by kernel_rfl) (fun _ _ _ h => h) (Or.inl ⟨by kernel_rfl, ?_⟩) ?_
    case refine_2 => intro w; go_simp; try (with_reducible rfl)
    refine wpAny_take (i := 4) (v := undef) rfl (by kernel_rfl) (by kernel_rfl) (by kernel_rfl) (fun _ _ _ h => h) (Or.inr ⟨by kernel_rfl, rfl⟩) ?_
    refine wpAny_take (i := 5) (v := undef) rfl (by kernel_rfl) (by kernel_rfl) (by kernel_rfl) (fun _ _ _ h => h) (Or.inr ⟨by kernel_rfl, rfl⟩) ?_
    refine wpAny_take (i := 6) (v := undef) rfl (by kernel_rfl) (by kernel_rfl) (by kernel_rfl) (fun _ _ _ h => h) (Or.inr ⟨by kernel_rfl, rfl⟩) ?_
    refine wpAny_take (i := 7) (v := undef) rfl (by kernel_rfl) (by kernel_rfl) (by kernel_rfl) (fun _ _ _ h => h) (Or.inr ⟨by kernel_rfl, rfl⟩) ?_
    refine wpAny_take (i := 8) (v := ?_) rfl (by kernel_rfl) (by kernel_rfl) (by kernel_rfl) (fun _ _ _ h => h) (Or.inl ⟨by kernel_rfl, ?_⟩) ?_
    case refine_2 => intro w; go_simp; try (with_reducible rfl)
    refine wpAny_take (i := 9) (v := ?_) rfl (by kernel_rfl) (by kernel_rfl) (by kernel_rfl) (fun _ _ _ h => h) (Or.inl ⟨by kernel_rfl, ?_⟩) ?_
    case refine_2 => intro w; go_simp; try (with_reducible rfl)
    refine wpAny_take (i := 11) (v := ?_) rfl (by kernel_rfl) (by kernel_rfl) (by kernel_rfl) (fun _ _ _ h => h) (Or.inl ⟨by kernel_rfl, ?_⟩) ?_
    case refine_2 => intro w; go_simp; try (with_reducible rfl)
    refine wpAny_ready (rs := [10, 12]) (by kernel_rfl) (by simp) ?_
    refine AllReady.cons rfl (fun K hK => ?_) (AllReady.cons rfl (fun K hK => ?_) AllReady.nil)
    · go_simp
      refine hK _ _ ?_
      clear hK K
      refine wpAny_ready (rs := [12]) (by kernel_rfl) (by simp) ?_
      refine AllReady.cons rfl (fun K hK => ?_) AllReady.nil
      go_simp
      go_wp2_with (go_at_call 167; refine (HW.out A1 n1 c1 _ (by exact HR.out)).mono ?_; rintro e w2 ⟨rfl, hb2⟩; have hb2 : Below w1.heap.size w1 w2 := ⟨hb2.os, hb2.tape, hb2.output, hb2.size, hb2.block⟩; have x0 := hb2.cell (p := ⟨w.heap.size, 0, none⟩) hz; have x1 := hb2.cell (p := ⟨w.heap.size, 1, none⟩) hz; have x2 := hb2.cell (p := ⟨w.heap.size, 2, none⟩) hz; have x3 := hb2.cell (p := ⟨w.heap.size, 3, none⟩) hz; have x4 := hb2.cell (p := ⟨w.heap.size, 4, none⟩) hz; have x5 := hb2.cell (p := ⟨w.heap.size, 5, none⟩) hz; have x6 := hb2.cell (p := ⟨w.heap.size, 6, none⟩) hz; have x7 := hb2.cell (p := ⟨w.heap.size, 7, none⟩) hz; have x8 := hb2.cell (p := ⟨w.heap.size, 8, none⟩) hz; rw [c0] at x0; rw [c1'] at x1; rw [c2] at x2; rw [c3] at x3; rw [c4] at x4; rw [c5] at x5; rw [c6] at x6; rw [c7] at x7; rw [c8] at x8)
      refine wpAny_take (i := 13) (v := ?_) rfl (by kernel_rfl) (by kernel_rfl) (by kernel_rfl) (fun _ _ _ h => h) (Or.inl ⟨by kernel_rfl, ?_⟩) ?_
      case refine_2 => intro w; go_simp; try (with_reducible rfl)
      refine wpAny_take (i := 14) (v := ?_) rfl (by kernel_rfl) (by kernel_rfl) (by kernel_rfl) (fun _ _ _ h => h) (Or.inl ⟨by kernel_rfl, ?_⟩) ?_
      case refine_2 => intro w; go_simp; try (with_reducible rfl)
      refine wpAny_done (by kernel_rfl) ?_ _
      have HB2 : Hid (Below w1.heap.size w1 w2) := Lib.hid hb2
      clear hb2
      cases dq
      all_goals go_wp2_with fail
      all_goals go_ret
      all_goals (have e := HZ'.out)
      all_goals first | rw [if_neg (of_decide_eq_false HD.out)] at e | rw [if_pos (of_decide_eq_true HD.out)] at e
      all_goals subst e
      all_goals exact ⟨rfl, HB.out.trans (HB2.out.mono (by omega))⟩
    · go_simp
      go_wp2_with (go_at_call 167; refine (HW.out A1 n1 c1 _ (by exact HR.out)).mono ?_; rintro e w2 ⟨rfl, hb2⟩; have hb2 : Below w1.heap.size w1 w2 := ⟨hb2.os, hb2.tape, hb2.output, hb2.size, hb2.block⟩; have x0 := hb2.cell (p := ⟨w.heap.size, 0, none⟩) hz; have x1 := hb2.cell (p := ⟨w.heap.size, 1, none⟩) hz; have x2 := hb2.cell (p := ⟨w.heap.size, 2, none⟩) hz; have x3 := hb2.cell (p := ⟨w.heap.size, 3, none⟩) hz; have x4 := hb2.cell (p := ⟨w.heap.size, 4, none⟩) hz; have x5 := hb2.cell (p := ⟨w.heap.size, 5, none⟩) hz; have x6 := hb2.cell (p := ⟨w.heap.size, 6, none⟩) hz; have x7 := hb2.cell (p := ⟨w.heap.size, 7, none⟩) hz; have x8 := hb2.cell (p := ⟨w.heap.size, 8, none⟩) hz; rw [c0] at x0; rw [c1'] at x1; rw [c2] at x2; rw [c3] at x3; rw [c4] at x4; rw [c5] at x5; rw [c6] at x6; rw [c7] at x7; rw [c8] at x8)
      refine wpAny_ready (rs := [10]) (by kernel_rfl) (by simp) ?_
      refine AllReady.cons rfl (fun K hK => ?_) AllReady.nil
      go_simp
      refine hK _ _ ?_
      clear hK K
      refine wpAny_take (i := 13) (v := ?_) rfl (by kernel_rfl) (by kernel_rfl) (by kernel_rfl) (fun _ _ _ h => h) (Or.inl ⟨by kernel_rfl, ?_⟩) ?_
      case refine_2 => intro w; go_simp; try (with_reducible rfl)
      refine wpAny_take (i := 14) (v := ?_) rfl (by kernel_rfl) (by kernel_rfl) (by kernel_rfl) (fun _ _ _ h => h) (Or.inl ⟨by kernel_rfl, ?_⟩) ?_
      case refine_2 => intro w; go_simp; try (with_reducible rfl)
      refine wpAny_done (by kernel_rfl) ?_ _
      have HB2 : Hid (Below w1.heap.size w1 w2) := Lib.hid hb2
      clear hb2
      cases dq
      all_goals go_wp2_with fail
      all_goals go_ret
      all_goals (have e := HZ'.out)
      all_goals first | rw [if_neg (of_decide_eq_false HD.out)] at e | rw [if_pos (of_decide_eq_true HD.out)] at e
      all_goals subst e
      all_goals exact ⟨rfl, HB.out.trans (HB2.out.mono (by omega))⟩
  | cons a r =>
    have hlen : n1 = r.length + 1 := HN.out
    have hpos : 0 < n1 := by omega
    have hpos' : (0 : Int) < (n1 : Int) := by omega
    have hd0 : decide (0 < n1) = true := by simp; omega
    clear hlen
    obtain ⟨bA, offA, y, hA, hbA, hy, hcA⟩ := HR.out.int_at hpos
    simp at hy
    subst hy
    subst hA
    rw [Nat.add_zero] at hcA
    by_cases ha : a < 0
    · have e := HZ.out
      rw [if_pos (by simp [headNeg, ha])] at e
      subst e
      go_wp2_with fail
      go_quiet (fail)
      go_wp2_with fail
      go_ret
      exact ⟨rfl, HB.out.trans ⟨rfl, rfl, rfl, Nat.le_refl _, fun _ _ => rfl⟩⟩
    · have HZ' : Hid ((if (⟨t, b0, b1, b2, b3, b4, b5, b6, b7⟩ : Win) = ⟨t', d0, d1, d2, d3, d4, d5, d6, d7⟩ then (0 : Int) else 6) = z) := (if_neg (by simp [headNeg, ha])).symm.trans HZ.out
      have hda : decide (a < 0) = false := by simpa using ha
      go_wp2_with fail
      go_region_with (go_at_call 167; refine (HW.out (some ⟨bA, offA, none⟩) n1 c1 _ (by exact HR.out)).mono ?_; rintro e w2 ⟨rfl, hb2⟩; have hb2 : Below w1.heap.size w1 w2 := ⟨hb2.os, hb2.tape, hb2.output, hb2.size, hb2.block⟩; have x0 := hb2.cell (p := ⟨w.heap.size, 0, none⟩) hz; have x1 := hb2.cell (p := ⟨w.heap.size, 1, none⟩) hz; have x2 := hb2.cell (p := ⟨w.heap.size, 2, none⟩) hz; have x3 := hb2.cell (p := ⟨w.heap.size, 3, none⟩) hz; have x4 := hb2.cell (p := ⟨w.heap.size, 4, none⟩) hz; have x5 := hb2.cell (p := ⟨w.heap.size, 5, none⟩) hz; have x6 := hb2.cell (p := ⟨w.heap.size, 6, none⟩) hz; have x7 := hb2.cell (p := ⟨w.heap.size, 7, none⟩) hz; have x8 := hb2.cell (p := ⟨w.heap.size, 8, none⟩) hz; rw [c0] at x0; rw [c1'] at x1; rw [c2] at x2; rw [c3] at x3; rw [c4] at x4; rw [c5] at x5; rw [c6] at x6; rw [c7] at x7; rw [c8] at x8)
      all_goals (have HB2 : Hid (Below w1.heap.size w1 w2) := Lib.hid hb2)
      all_goals clear hb2
      all_goals cases dq
      all_goals go_wp2_with fail
      all_goals go_ret
      all_goals (have e := HZ'.out)
      all_goals first | rw [if_neg (of_decide_eq_false HD.out)] at e | rw [if_pos (of_decide_eq_true HD.out)] at e
      all_goals subst e
      all_goals exact ⟨rfl, HB.out.trans (HB2.out.mono (by omega))⟩
theorem WindowFault_calls (x : Win) (w : World) : Calls Try.prog 108 #[x.val] w (IntPostW w (winFault x)) := by
  rw [← winFaultRef_eq]
  unfold winFaultRef
  cases h : inR x.top 0 1073741825
  · rw [if_pos (by have := inR_false.1 h; omega)]
    exact WindowFault_range x w h
  · rw [if_neg (by have := inR_true.1 h; omega)]
    exact WindowFault_in x w h

end Go.Proofs.Ytkjlafpafmihaaa

namespace Go.Proofs.Ytkjlafpafmihaaa
open Go.ChangeShapes Go.WideShapes Go.RowKit

/-- P3.2. -/
def seenM (x : Win) (id : Int) : Bool × Int :=
  if winFault x ≠ 0 then (false, winFault x)
  else if id < 0 ∨ 1073741824 < id then (false, 2)
  else if x.top ≤ id then (false, 0)
  else if id < x.top - 8 then (false, 9)
  else (x.at (id - (x.top - 8)).toNat, 0)

def SeenPost (w : World) (r : Bool × Int) (e : Ending) (w' : World) : Prop := e = .returned (.tuple #[.bool r.1, .int .i64 r.2]) ∧ Below w.heap.size w w'

theorem winFault_zero {x : Win} (h : winFault x = 0) : 0 ≤ x.top ∧ x.top ≤ 1073741825 := by
  unfold winFault at h
  split at h
  · rename_i hh
    simp only [Bool.and_eq_true, decide_eq_true_eq] at hh
    exact ⟨hh.1.1.1, hh.1.1.2⟩
  · cases h

theorem win_cells (x : Win) : ∀ k, k < 8 → (x.cells)[k + 1]? = some (.bool (x.at k)) := by
  intro k hk
  have h : k = 0 ∨ k = 1 ∨ k = 2 ∨ k = 3 ∨ k = 4 ∨ k = 5 ∨ k = 6 ∨ k = 7 := by omega
  rcases h with rfl | rfl | rfl | rfl | rfl | rfl | rfl | rfl <;> rfl

set_option maxRecDepth 100000 in
set_option maxHeartbeats 4000000 in
theorem WSeen_calls (x : Win) (id : Int) (w : World) : Calls Try.prog 189 #[x.val, .int .i64 id] w (SeenPost w (seenM x id)) := by
  have HC := Lib.hid (WCheck_calls x)
  have HL := Lib.hid (lowest_calls x)
  have HX := Lib.hid (win_cells x)
  have HT := Lib.hid (winFault_zero (x := x))
  have HZ0 : Hid (∀ r, r = seenM x id → r = if winFault x ≠ 0 then (false, winFault x)
    else if id < 0 ∨ 1073741824 < id then (false, 2)
    else if x.top ≤ id then (false, 0)
    else if id < x.top - 8 then (false, 9)
    else (x.at (id - (x.top - 8)).toNat, 0)) := Lib.hid (fun r h => h)
  generalize hr : seenM x id = r
  have HZ := Lib.hid (HZ0.out r hr.symm)
  clear hr HZ0
  generalize winFault x = z at HC HT HZ
  have hat := Lib.hid (rfl : x.at = x.at)
  generalize x.at = f at HX HZ hat
  clear hat
  obtain ⟨t, b0, b1, b2, b3, b4, b5, b6, b7⟩ := x
  unfold Win.val at *
  unfold Win.cells at HX
  simp only at HT HX HZ HL
  go_enter Try.func189, Try.ntmps189
  go_wp2_with fail
  refine (HC.out _).mono ?_
  rintro e w1 ⟨rfl, hb1⟩
  have c0 := hb1.cell (p := ⟨w.heap.size, 0, none⟩) (by simp)
  have c1 := hb1.cell (p := ⟨w.heap.size, 1, none⟩) (by simp)
  have c2 := hb1.cell (p := ⟨w.heap.size, 2, none⟩) (by simp)
  have c3 := hb1.cell (p := ⟨w.heap.size, 3, none⟩) (by simp)
  have c4 := hb1.cell (p := ⟨w.heap.size, 4, none⟩) (by simp)
  have c5 := hb1.cell (p := ⟨w.heap.size, 5, none⟩) (by simp)
  have c6 := hb1.cell (p := ⟨w.heap.size, 6, none⟩) (by simp)
  have c7 := hb1.cell (p := ⟨w.heap.size, 7, none⟩) (by simp)
  have c8 := hb1.cell (p := ⟨w.heap.size, 8, none⟩) (by simp)
  simp only [World.cell?_alloc_mark] at c0 c1 c2 c3 c4 c5 c6 c7 c8
  have hsz : w.heap.size + 1 ≤ w1.heap.size := by have := hb1.size; simpa using this
  have HK : Hid (∀ k, k < 8 → w1.cell? ⟨w.heap.size, 1 + k, none⟩ = some (.bool (f k))) := by
    intro k hk
    have ck := hb1.cell (p := ⟨w.heap.size, 1 + k, none⟩) (by simp)
    rw [World.cell?_alloc_mark] at ck
    rw [ck, Nat.add_comm 1 k]
    simpa using HX.out k hk
  have HB : Hid (Below w.heap.size w w1) := Lib.hid (((Below.refl _ w).alloc (Nat.le_refl _) _).trans (hb1.mono (by simp)))
  clear hb1 HX HC
  by_cases hz : z = 0
  · obtain ⟨h0, h1⟩ := HT.out hz
    subst hz
    have HZ := Lib.hid (HZ.out.trans (if_neg (by simp)))
    clear HT
    by_cases i0 : id < 0
    · have e := HZ.out
      rw [if_pos (by omega)] at e
      subst e
      go_wp2_with fail
      go_ret2
      exact ⟨rfl, HB.out⟩
    · by_cases i1 : 1073741824 < id
      · have e := HZ.out
        rw [if_pos (by omega)] at e
        subst e
        go_wp2_with fail
        go_ret2
        exact ⟨rfl, HB.out⟩
      · have HZ := Lib.hid (HZ.out.trans (if_neg (by omega)))
        by_cases i2 : t ≤ id
        · have e := HZ.out
          rw [if_pos (by omega)] at e
          subst e
          go_wp2_with fail
          go_ret2
          exact ⟨rfl, HB.out⟩
        · have HZ := Lib.hid (HZ.out.trans (if_neg (by omega)))
          by_cases i3 : id < t - 8
          · have e := HZ.out
            rw [if_pos (by omega)] at e
            subst e
            go_wp2_with fail
            refine (HL.out _ h0 h1).mono ?_
            rintro e w2 ⟨rfl, hb2⟩
            have HB2 := Lib.hid hb2
            clear hb2
            go_wp2_with fail
            go_ret2
            exact ⟨rfl, HB.out.trans (HB2.out.mono (by omega))⟩
          · have e := HZ.out
            rw [if_neg (by omega)] at e
            subst e
            obtain ⟨k, hk⟩ := Int.eq_ofNat_of_zero_le (show 0 ≤ id - (t - 8) by omega)
            have hk8 : k < 8 := by omega
            rw [hk, Int.toNat_natCast]
            have HKK := Lib.hid hk
            have ck := HK.out k hk8
            go_wp2_with fail
            refine (HL.out _ h0 h1).mono ?_
            rintro e w2 ⟨rfl, hb2⟩
            have d0 := hb2.cell (p := ⟨w.heap.size, 0, none⟩) (by simp; omega)
            have d1 := hb2.cell (p := ⟨w.heap.size, 1, none⟩) (by simp; omega)
            have d2 := hb2.cell (p := ⟨w.heap.size, 2, none⟩) (by simp; omega)
            have d3 := hb2.cell (p := ⟨w.heap.size, 3, none⟩) (by simp; omega)
            have d4 := hb2.cell (p := ⟨w.heap.size, 4, none⟩) (by simp; omega)
            have d5 := hb2.cell (p := ⟨w.heap.size, 5, none⟩) (by simp; omega)
            have d6 := hb2.cell (p := ⟨w.heap.size, 6, none⟩) (by simp; omega)
            have d7 := hb2.cell (p := ⟨w.heap.size, 7, none⟩) (by simp; omega)
            have d8 := hb2.cell (p := ⟨w.heap.size, 8, none⟩) (by simp; omega)
            have dk := hb2.cell (p := ⟨w.heap.size, 1 + k, none⟩) (by simp; omega)
            rw [c0] at d0; rw [c1] at d1; rw [c2] at d2; rw [c3] at d3; rw [c4] at d4; rw [c5] at d5; rw [c6] at d6; rw [c7] at d7; rw [c8] at d8; rw [ck] at dk
            have HB2 := Lib.hid hb2
            clear hb2
            go_wp2_with fail
            refine (HL.out _ h0 h1).mono ?_
            rintro e w3 ⟨rfl, hb3⟩
            have HB3 := Lib.hid hb3
            have g0 := hb3.cell (p := ⟨w.heap.size, 1 + k, none⟩) (by simp; have := HB2.out.size; omega)
            rw [dk] at g0
            clear hb3
            go_wp2_with fail
            go_ret2
            exact ⟨by show Ending.returned (.tuple #[.bool (f k), .int .i64 0]) = _; rw [HKK.out, Int.toNat_natCast], (HB.out.trans (HB2.out.mono (by omega))).trans (HB3.out.mono (by have := HB2.out.size; omega))⟩
  · have e := HZ.out
    rw [if_pos hz] at e
    subst e
    go_wp2_with fail
    go_ret2
    exact ⟨rfl, HB.out⟩

theorem ids_mem {t : Int} {f : Nat → Bool} {k : Nat} {y : Int} : y ∈ idsTo t f k ↔ ∃ i, i < k ∧ f i = true ∧ y = t - 8 + i := by
  induction k with
  | zero => simp [idsTo]
  | succ k ih =>
    unfold idsTo
    split
    · rename_i hf
      rw [List.mem_append, ih, List.mem_singleton]
      constructor
      · rintro (⟨i, h1, h2, h3⟩ | h)
        · exact ⟨i, by omega, h2, h3⟩
        · exact ⟨k, by omega, hf, h⟩
      · rintro ⟨i, h1, h2, h3⟩
        by_cases hik : i = k
        · subst hik; exact .inr h3
        · exact .inl ⟨i, by omega, h2, h3⟩
    · rename_i hf
      rw [ih]
      constructor
      · rintro ⟨i, h1, h2, h3⟩; exact ⟨i, by omega, h2, h3⟩
      · rintro ⟨i, h1, h2, h3⟩
        have : i ≠ k := by rintro rfl; exact hf h2
        exact ⟨i, by omega, h2, h3⟩

/-- P3.2 as the reference asks it. -/
def seenRef (x : Win) (id : Int) : Bool × Int :=
  if winFault x ≠ 0 then (false, winFault x)
  else if inR id 0 1073741824 = false then (false, 2)
  else if id + 8 < x.top then (false, 9)
  else (decide (id ∈ idsTo x.top x.at 8), 0)

theorem seenRef_eq (x : Win) (id : Int) : seenRef x id = seenM x id := by
  unfold seenRef seenM
  split
  · rfl
  · by_cases h : id < 0 ∨ 1073741824 < id
    · rw [if_pos (inR_false.2 h), if_pos h]
    · rw [if_neg (by rw [inR_false]; exact h), if_neg h]
      by_cases h1 : x.top ≤ id
      · rw [if_neg (by omega), if_pos h1]
        have : ¬ id ∈ idsTo x.top x.at 8 := fun hm => by
          have := idsTo_lt x.top x.at 8 id hm
          omega
        simp [this]
      · rw [if_neg h1]
        by_cases h2 : id < x.top - 8
        · rw [if_pos (by omega), if_pos h2]
        · rw [if_neg (by omega), if_neg h2]
          obtain ⟨k, hk⟩ := Int.eq_ofNat_of_zero_le (show 0 ≤ id - (x.top - 8) by omega)
          rw [hk, Int.toNat_natCast]
          have : id ∈ idsTo x.top x.at 8 ↔ x.at k = true := by
            rw [ids_mem]
            constructor
            · rintro ⟨i, h1, h2, h3⟩
              rw [show k = i by omega]; exact h2
            · intro h; exact ⟨k, by omega, h, by omega⟩
          cases hx : x.at k
          · rw [hx] at this; simp [this]
          · rw [hx] at this; simp [this]

set_option maxRecDepth 100000 in
set_option maxHeartbeats 4000000 in
theorem IdSeen_calls (x : Win) (id : Int) (w : World) : Calls Try.prog 180 #[x.val, .int .i64 id] w (SeenPost w (seenM x id)) := by
  rw [← seenRef_eq]
  have HC := Lib.hid (WindowFault_calls x)
  have HI := Lib.hid (idsOf_calls x)
  have HT := Lib.hid (winFault_zero (x := x))
  have HZ0 : Hid (∀ r, r = seenRef x id → r = if winFault x ≠ 0 then (false, winFault x)
    else if inR id 0 1073741824 = false then (false, 2)
    else if id + 8 < x.top then (false, 9)
    else (decide (id ∈ idsTo x.top x.at 8), 0)) := Lib.hid (fun r h => h)
  generalize hr : seenRef x id = r
  have HZ := Lib.hid (HZ0.out r hr.symm)
  clear hr HZ0
  have hlen := idsTo_len x.top x.at 8
  generalize winFault x = z at HC HT HZ
  generalize idsTo x.top x.at 8 = l at HI HZ hlen
  obtain ⟨t, b0, b1, b2, b3, b4, b5, b6, b7⟩ := x
  unfold Win.val at *
  simp only at HT HZ HI
  go_enter Try.func180, Try.ntmps180
  go_wp2_with fail
  refine (HC.out _).mono ?_
  rintro e w1 ⟨rfl, hb1⟩
  have c0 := hb1.cell (p := ⟨w.heap.size, 0, none⟩) (by simp)
  have c1 := hb1.cell (p := ⟨w.heap.size, 1, none⟩) (by simp)
  have c2 := hb1.cell (p := ⟨w.heap.size, 2, none⟩) (by simp)
  have c3 := hb1.cell (p := ⟨w.heap.size, 3, none⟩) (by simp)
  have c4 := hb1.cell (p := ⟨w.heap.size, 4, none⟩) (by simp)
  have c5 := hb1.cell (p := ⟨w.heap.size, 5, none⟩) (by simp)
  have c6 := hb1.cell (p := ⟨w.heap.size, 6, none⟩) (by simp)
  have c7 := hb1.cell (p := ⟨w.heap.size, 7, none⟩) (by simp)
  have c8 := hb1.cell (p := ⟨w.heap.size, 8, none⟩) (by simp)
  simp only [World.cell?_alloc_mark] at c0 c1 c2 c3 c4 c5 c6 c7 c8
  have hsz : w.heap.size + 1 ≤ w1.heap.size := by have := hb1.size; simpa using this
  have HB : Hid (Below w.heap.size w w1) := Lib.hid (((Below.refl _ w).alloc (Nat.le_refl _) _).trans (hb1.mono (by simp)))
  clear hb1 HC
  by_cases hz : z = 0
  · obtain ⟨h0, h1⟩ := HT.out hz
    subst hz
    have HZ := Lib.hid (HZ.out.trans (if_neg (by simp)))
    clear HT
    go_wp2_with fail
    refine (In_calls _ _ _ _).mono ?_
    rintro e w2 ⟨rfl, rfl⟩
    cases hin : inR id 0 1073741824
    · have e := HZ.out
      rw [if_pos hin] at e
      subst e
      clear hin
      go_wp2_with fail
      go_ret2
      exact ⟨rfl, HB.out⟩
    · have HZ := Lib.hid (HZ.out.trans (if_neg (by simp [hin])))
      obtain ⟨i0, i1⟩ := inR_true.1 hin
      clear hin
      by_cases i2 : id + 8 < t
      · have e := HZ.out
        rw [if_pos i2] at e
        subst e
        go_wp2_with fail
        go_ret2
        exact ⟨rfl, HB.out⟩
      · have HZ := Lib.hid (HZ.out.trans (if_neg i2))
        go_wp2_with fail
        refine (HI.out _ h0 h1).mono ?_
        rintro e w2 ⟨A1, n1, d1, rfl, hn1, hb2, hr2⟩
        have HB2 := Lib.hid hb2
        have HR := Lib.hid hr2
        have HN := Lib.hid hn1
        have hn8 : n1 ≤ 8 := by omega
        clear hb2 hr2 hn1 c0 c1 c2 c3 c4 c5 c6 c7 c8
        go_wp2_with fail
        go_loopw [8] (fun i wr => ∃ k : Nat, k ≤ n1 ∧ i = .int .i64 k ∧ (∀ y ∈ l.take k, y ≠ id) ∧ ∃ q, wr = w2.drewN q) (fun i _ => n1 - (intOf i).toNat)
        case atStart => exact ⟨0, by omega, rfl, by simp, 0, rfl⟩
        case round =>
          obtain ⟨k, hk, rfl, hall, q, rfl⟩ := hrel
          have HA := Lib.hid hall
          clear hall
          by_cases hlt : k < n1
          · obtain ⟨b, off, y, hA, hb, hy, hc⟩ := HR.out.int_at hlt
            subst hA
            have HY := Lib.hid hy
            clear hy
            by_cases hyi : y = id
            · have e := HZ.out
              rw [show decide (id ∈ l) = true from by rw [decide_eq_true_eq, ← hyi]; exact List.mem_of_getElem? HY.out] at e
              subst e
              subst hyi
              go_wp2_with fail
              go_ret2
              exact ⟨rfl, (HB.out.trans (HB2.out.mono (by omega))).trans ⟨rfl, rfl, rfl, Nat.le_refl _, fun _ _ => rfl⟩⟩
            · go_wp2_with fail
              go_roundw
              case rel => exact ⟨k + 1, by omega, by go_num, (fun v hv => by
                rw [List.take_add_one, HY.out, List.mem_append] at hv
                rcases hv with h | h
                · exact HA.out v h
                · simp at h; subst h; exact hyi), q, rfl⟩
              case measure => simp [intOf]; omega
          · obtain rfl : k = n1 := by omega
            have e := HZ.out
            rw [show decide (id ∈ l) = false from by
              rw [decide_eq_false_iff_not]
              intro hm
              exact HA.out id (by rw [List.take_of_length_le (by have := HN.out; omega)]; exact hm) rfl] at e
            subst e
            go_wp2_with fail
            go_ret2
            exact ⟨rfl, (HB.out.trans (HB2.out.mono (by omega))).trans ⟨rfl, rfl, rfl, Nat.le_refl _, fun _ _ => rfl⟩⟩
  · have e := HZ.out
    rw [if_pos hz] at e
    subst e
    go_wp2_with fail
    go_ret2
    exact ⟨rfl, HB.out⟩
end Go.Proofs.Ytkjlafpafmihaaa

namespace Go.Proofs.Ytkjlafpafmihaaa

theorem foldBits (t : Int) (i : Nat) (hi : i < 8) : ∀ (l : List Int) (bs : List Bool), bs.length = 8 →
    (l.foldl (fun bs x => setBit bs (x - t + 8)) bs).getD i false = (bs.getD i false || decide (t - 8 + i ∈ l))
  | [], bs, _ => by simp
  | x :: l, bs, h => by
    rw [List.foldl_cons, foldBits t i hi l _ (by rw [setBit_len]; exact h)]
    have key : (setBit bs (x - t + 8)).getD i false = (bs.getD i false || decide (t - 8 + (i : Int) = x)) := by
      unfold setBit
      split
      · rename_i h0
        rw [getD_set, h]
        by_cases e : t - 8 + (i : Int) = x
        · rw [if_pos (by omega)]
          simp [e]
        · rw [if_neg (by omega)]
          simp [e]
      · rename_i h0
        have e : ¬ t - 8 + (i : Int) = x := by omega
        simp [e]
    rw [key, Bool.or_assoc]
    congr 1
    rw [Bool.eq_iff_iff]
    simp

theorem bitsTo_mem (t : Int) (l : List Int) (i : Nat) (hi : i < 8) : (bitsTo t l).getD i false = decide (t - 8 + i ∈ l) := by
  unfold bitsTo
  rw [foldBits t i hi l _ rfl]
  have : ([false, false, false, false, false, false, false, false] : List Bool).getD i false = false := by
    match i with
    | 0 | 1 | 2 | 3 | 4 | 5 | 6 | 7 => rfl
    | n + 8 => rfl
  rw [this, Bool.false_or]

theorem winOn_congr (t : Int) (l k : List Int) (h : ∀ z, z ∈ l ↔ z ∈ k) : winOn t (bitsTo t l) = winOn t (bitsTo t k) := by
  unfold winOn
  have e : ∀ i, i < 8 → (bitsTo t l).getD i false = (bitsTo t k).getD i false := fun i hi => by
    rw [bitsTo_mem _ _ _ hi, bitsTo_mem _ _ _ hi, Bool.eq_iff_iff]
    simp [h]
  rw [e 0 (by omega), e 1 (by omega), e 2 (by omega), e 3 (by omega), e 4 (by omega), e 5 (by omega), e 6 (by omega), e 7 (by omega)]

/-- The reference's loop: what is out, and whether the id is in it. -/
def insF (id : Int) (l : List Int) : List Int × Bool := l.foldl (fun s y => ((if s.2 = false ∧ id < y then s.1 ++ [id] else s.1) ++ [y], s.2 || decide (id < y))) ([], false)
def insM (id : Int) (l : List Int) : List Int := if (insF id l).2 = true then (insF id l).1 else (insF id l).1 ++ [id]
theorem insF_snoc (id : Int) (l : List Int) (y : Int) : insF id (l ++ [y]) = ((if (insF id l).2 = false ∧ id < y then (insF id l).1 ++ [id] else (insF id l).1) ++ [y], (insF id l).2 || decide (id < y)) := by
  unfold insF
  rw [List.foldl_append]
  rfl

theorem insF_facts (id : Int) (l : List Int) : ∀ k, k ≤ l.length →
    (∀ z, z ∈ (insF id (l.take k)).1 ↔ (z ∈ l.take k ∨ ((insF id (l.take k)).2 = true ∧ z = id))) ∧ ((insF id (l.take k)).2 = true ↔ ∃ y ∈ l.take k, id < y) ∧
    (l.take k ≠ [] → (insF id (l.take k)).1.getLastD 0 = (l.take k).getLastD 0) ∧ ((insF id (l.take k)).1.length ≤ k + 1) ∧ ((insF id (l.take k)).2 = false → (insF id (l.take k)).1.length ≤ k) := by
  intro k
  induction k with
  | zero => intro _; simp [insF]
  | succ k ih =>
    intro hk
    obtain ⟨h1, h2, h3, h4, h5⟩ := ih (by omega)
    have hx : l[k]? = some l[k] := List.getElem?_eq_getElem (by omega)
    have e : l.take (k + 1) = l.take k ++ [l[k]] := by rw [List.take_add_one, hx]; rfl
    rw [e, insF_snoc]
    generalize l[k] = y
    generalize l.take k = m at h1 h2 h3 h4 h5
    generalize insF id m = s at h1 h2 h3 h4 h5
    obtain ⟨o, d⟩ := s
    simp only at h1 h2 h3 h4 h5 ⊢
    cases d
    · have h2' : ¬ ∃ y ∈ m, id < y := fun h => by have := h2.2 h; cases this
      by_cases hy : id < y
      · simp only [hy, and_self, if_true, Bool.false_or, decide_true]
        refine ⟨fun z => ?_, ?_, fun _ => by simp, by have := h5 rfl; simp; omega, fun h => by cases h⟩
        · simp only [List.mem_append, List.mem_singleton, h1]
          simp
          constructor
          · rintro ((h | h) | h)
            · exact .inl (.inl h)
            · exact .inr h
            · exact .inl (.inr h)
          · rintro ((h | h) | h)
            · exact .inl (.inl h)
            · exact .inr h
            · exact .inl (.inr h)
        · simp only [true_iff]
          exact ⟨y, by simp, hy⟩
      · simp only [hy, and_false, if_false, Bool.false_or, decide_false]
        refine ⟨fun z => ?_, ?_, fun _ => by simp, by have := h5 rfl; simp; omega, fun _ => by have := h5 rfl; simp; omega⟩
        · simp only [List.mem_append, List.mem_singleton, h1]
          simp
        · simp only [Bool.false_eq_true, false_iff]
          rintro ⟨z, hz, hlt⟩
          rcases List.mem_append.1 hz with h | h
          · exact h2' ⟨z, h, hlt⟩
          · simp at h; subst h; exact hy hlt
    · have h2' := h2.1 rfl
      simp only [Bool.true_eq_false, false_and, if_false, Bool.true_or]
      refine ⟨fun z => ?_, ?_, fun _ => by simp, by simp; omega, fun h => by cases h⟩
      · simp only [List.mem_append, List.mem_singleton, h1]
        simp
        constructor
        · rintro ((h | h) | h)
          · exact .inl (.inl h)
          · exact .inr h
          · exact .inl (.inr h)
        · rintro ((h | h) | h)
          · exact .inl (.inl h)
          · exact .inr h
          · exact .inl (.inr h)
      · simp only [true_iff]
        obtain ⟨z, hz, hlt⟩ := h2'
        exact ⟨z, by simp [hz], hlt⟩

/-- The window behind the taking. -/
def outM (x : Win) (id : Int) : Win := winOn (max x.top (id + 1)) (bitsTo (max x.top (id + 1)) (idsTo x.top x.at 8 ++ [id]))

theorem winFault_ids {x : Win} (h : winFault x = 0) : (x.top = 0 ∧ idsTo x.top x.at 8 = []) ∨ (0 < x.top ∧ idsTo x.top x.at 8 ≠ [] ∧ (idsTo x.top x.at 8).getLastD 0 = x.top - 1) := by
  have h0 := winFault_zero h
  unfold winFault at h
  split at h
  · rename_i hh
    simp only [Bool.and_eq_true, decide_eq_true_eq, Bool.or_eq_true, Bool.not_eq_true', decide_eq_false_iff_not] at hh
    obtain ⟨⟨_, hw⟩, h7⟩ := hh
    by_cases ht : 0 < x.top
    · right
      have hb : x.at 7 = true := by
        rcases h7 with h | h
        · exact absurd ht h
        · exact h
      have e : idsTo x.top x.at 8 = idsTo x.top x.at 7 ++ [x.top - 1] := by
        show (if x.at 7 = true then _ else _) = _
        rw [hb, if_pos rfl, show x.top - 8 + ((7 : Nat) : Int) = x.top - 1 by omega]
      exact ⟨ht, by rw [e]; simp, by rw [e]; simp⟩
    · left
      have ht0 : x.top = 0 := by omega
      refine ⟨ht0, List.eq_nil_iff_forall_not_mem.2 fun y hy => ?_⟩
      obtain ⟨i, h1, h2, h3⟩ := ids_mem.1 hy
      have := winAll_iff.1 hw i h1 h2
      omega
  · cases h

theorem insM_eq (x : Win) (id : Int) (h : winFault x = 0) (h0 : 0 ≤ id) (hn : ¬ id ∈ idsTo x.top x.at 8) : winOf (insM id (idsTo x.top x.at 8)) = outM x id := by
  have hc := winFault_ids h
  have hlt : ∀ y ∈ idsTo x.top x.at 8, y < x.top := fun y hy => by have := idsTo_lt _ _ _ y hy; omega
  unfold outM
  generalize idsTo x.top x.at 8 = l at hc hn hlt
  obtain ⟨f1, f2, f3, _, _⟩ := insF_facts id l l.length (Nat.le_refl _)
  rw [List.take_length] at f1 f2 f3
  unfold insM
  generalize insF id l = s at f1 f2 f3
  obtain ⟨o, d⟩ := s
  simp only at f1 f2 f3 ⊢
  cases d
  · simp only [Bool.false_eq_true, if_false]
    have hge : ∀ y ∈ l, ¬ id < y := fun y hy hlt => by have := f2.2 ⟨y, hy, hlt⟩; cases this
    have hT : max x.top (id + 1) = id + 1 := by
      rcases hc with ⟨h1, _⟩ | ⟨h1, h2, h3⟩
      · omega
      · have hm : x.top - 1 ∈ l := by
          rw [← h3, List.getLastD_eq_getLast?, List.getLast?_eq_some_getLast h2]
          exact List.getLast_mem _
        have := hge _ hm
        omega
    unfold winOf
    rw [if_neg (by simp), hT, show (o ++ [id]).getLastD 0 = id by simp]
    refine winOn_congr _ _ _ fun z => ?_
    simp [f1]
  · simp only [if_true]
    obtain ⟨y, hy, hlt2⟩ := f2.1 rfl
    rcases hc with ⟨_, h2⟩ | ⟨h1, h2, h3⟩
    · rw [h2] at hy; cases hy
    · have := hlt y hy
      have hT : max x.top (id + 1) = x.top := by omega
      have hne : o ≠ [] := by
        intro e
        have := (f1 y).2 (.inl hy)
        rw [e] at this
        cases this
      unfold winOf
      rw [if_neg hne, f3 h2, h3, hT, show x.top - 1 + 1 = x.top by omega]
      refine winOn_congr _ _ _ fun z => ?_
      simp [f1]
end Go.Proofs.Ytkjlafpafmihaaa

