/-
  A REGION THAT DRAWS ITS ORDER: its head (reads, new memory, calls) in whatever order, under what is known at its beginning; its tail, from number n on, in the order of the text: the tail waits for all of the head.
  After Derived/OrdersHeld.lean, its law turned in one place: what holds of the world is asked only as long as number n has not come up. No program in sight.
-/
import Derived.Test.YtkjlafpafmihaaaWm
namespace Go.Proofs.Ytkjlafpafmihaaa
open Go.ChangeShapes Go.WideShapes Go.ChangeAt Go.RowKit

section
variable {P : Program} {ops : Array Oper} {Q : Exit → Act → World → Prop} {C : World → Prop} {n : Nat}

def wpAnyG (P : Program) (ops : Array Oper) (Q : Exit → Act → World → Prop) (C : World → Prop) (n : Nat) : Nat → Array Bool → Act → World → Prop
  | 0, listed, a, w => Region.ready .any ops listed = [] ∧ Q .normal a w
  | fuel + 1, listed, a, w =>
    (Region.ready .any ops listed = [] → Q .normal a w) ∧
    ∀ i ∈ Region.ready .any ops listed, wpOp P ops Q i (fun a' w' => ((listed.setIfInBounds i true).getD n true = false → C w') ∧ wpAnyG P ops Q C n fuel (listed.setIfInBounds i true) a' w') a w
theorem wpAny_of_G : ∀ (fuel : Nat) (listed : Array Bool) (a : Act) (w : World), wpAnyG P ops Q C n fuel listed a w → wpAny P .any ops Q fuel listed a w
  | 0, _, _, _, h => h
  | fuel + 1, _, _, _, h => ⟨h.1, fun i hi => wpOp_mono (fun a' w' h' => wpAny_of_G fuel _ a' w' h'.2) (h.2 i hi)⟩
/-- Number n waits for number i. -/
def waitsB (ops : Array Oper) (n i : Nat) : Bool := match ops[n]? with | none => false | some o => o.after.any fun e => Region.binds .any e && e.on == i
theorem not_ready_of_waits {i : Nat} {listed : Array Bool} (hw : waitsB ops n i = true) (hi : listed.getD i true = false) : n ∉ Region.ready .any ops listed := by
  intro hr
  obtain ⟨_, o, ho, hall⟩ := mem_ready.1 hr
  unfold waitsB at hw
  rw [ho] at hw
  obtain ⟨e, he, hb⟩ := Array.any_eq_true'.1 hw
  simp only [Bool.and_eq_true, beq_iff_eq] at hb
  have h1 := hall e he hb.1
  rw [hb.2] at h1
  rcases Nat.lt_or_ge i listed.size with h' | h'
  · simp [h'] at hi h1; rw [hi] at h1; cases h1
  · simp [Array.getElem?_eq_none h'] at hi
theorem wpAnyG_first {i : Nat} {oi : Oper} {v : Value} (hi : ops[i]? = some oi) (hsel : ∀ (j : Nat) (o : Oper) cs b, ops[j]? = some o → o.op ≠ .select cs b)
    (hQ : ∀ c a w, Q (.panic c) (a.put oi.dst v) w → Q (.panic c) a w) (hni : waitsB ops n i = true) (hne : n ≠ i) :
    ∀ (fuel : Nat) (listed : Array Bool) (a : Act) (w : World),
      (∀ j oj, ops[j]? = some oj → j ≠ i → listed.getD j true = false → (∀ e ∈ oj.after, Region.binds .any e = true → e.on ≠ i) → oi.apart ops oj = true) →
      i ∈ Region.ready .any ops listed → listed.getD n true = false → YieldsIf P ops C oi v a → C w →
      wpAnyG P ops Q C n fuel (listed.setIfInBounds i true) (a.put oi.dst v) w → wpAnyG P ops Q C n (fuel + 1) listed a w := by
  intro fuel
  induction fuel with
  | zero =>
    intro listed a w _ hr hnl hy hS H
    refine ⟨fun h => (by rw [h] at hr; cases hr), fun j hj => ?_⟩
    by_cases hji : j = i
    · subst hji; exact hy.wpOp hi hS ⟨fun _ => hS, H⟩
    · have := ready_mono hj hji
      rw [H.1] at this
      cases this
  | succ fuel ih =>
    intro listed a w hfree hr hnl hy hS H
    refine ⟨fun h => (by rw [h] at hr; cases hr), fun j hj => ?_⟩
    by_cases hji : j = i
    · subst hji; exact hy.wpOp hi hS ⟨fun _ => hS, H⟩
    · have h1 := H.2 j (ready_mono hj hji)
      obtain ⟨hjun, oj, hoj, hall⟩ := mem_ready.1 hj
      have hiun := (mem_ready.1 hr).1
      have hiun' : listed.getD i true = false := by
        rcases Nat.lt_or_ge i listed.size with h' | h'
        · simp [h'] at hiun ⊢; exact hiun
        · simp [Array.getElem?_eq_none h'] at hiun
      have hjn : j ≠ n := fun e => not_ready_of_waits hni hiun' (e ▸ hj)
      have hnot : ∀ e ∈ oj.after, Region.binds .any e = true → e.on ≠ i := fun e he hb heq => by
        have h1 := hall e he hb
        have h0 := (mem_ready.1 hr).1
        rw [heq] at h1
        rcases Nat.lt_or_ge i listed.size with h' | h'
        · simp [h'] at h0 h1; rw [h0] at h1; cases h1
        · simp [Array.getElem?_eq_none h'] at h0
      have h2 := wpOp_putIf hoj (hfree j oj hoj hji hjun hnot) (fun cs b => hsel i oi cs b hi) (fun cs b => hsel j oj cs b hoj) hQ hy h1
      have hfree' : ∀ k ok, ops[k]? = some ok → k ≠ i → (listed.setIfInBounds j true).getD k true = false →
          (∀ e ∈ ok.after, Region.binds .any e = true → e.on ≠ i) → oi.apart ops ok = true := fun k ok hk hki hun hno => by
        refine hfree k ok hk hki ?_ hno
        by_cases hjk : j = k
        · subst hjk; exact hjun
        · rw [getD_set_ne true hjk] at hun; exact hun
      have hnl2 : (listed.setIfInBounds j true).getD n true = false := by rw [getD_set_ne true hjn]; exact hnl
      refine wpOp_mono (fun a' w' h3 => ?_) h2
      have hC : C w' := h3.2.1 (by rw [Array.setIfInBounds_comm _ _ (Ne.symm hji), getD_set_ne true (Ne.symm hne)]; exact hnl2)
      refine ⟨fun _ => hC, ih (listed.setIfInBounds j true) a' w' hfree' (ready_mono hr (Ne.symm hji)) hnl2 h3.1 hC ?_⟩
      rw [Array.setIfInBounds_comm _ _ hji]
      exact h3.2.2
theorem wpAnyG_of_seq : ∀ (l : List Oper) (k : Nat) (listed : Array Bool) (a : Act) (w : World), (∀ j, l[j]? = ops[k + j]?) → (listed.setIfInBounds k true).getD n true = true ∨ l = [] → (listed.getD n true = true ∨ k = n) → n < listed.size → 
    Region.seqB .any ops l.length k listed = true → wpList P ops Q l a w → wpAnyG P ops Q C n l.length listed a w
  | [], _, _, _, _, _, _, _, _, hB, h => ⟨by simpa [Region.seqB] using hB, h⟩
  | o :: l, k, listed, a, w, hl, _, hk, hnz, hB, h => by
    have h0 : ops[k]? = some o := by simpa using (hl 0).symm
    simp only [List.length_cons, Region.seqB, Bool.and_eq_true, decide_eq_true_eq] at hB
    refine ⟨fun h1 => (by rw [hB.1] at h1; cases h1), fun i hi => ?_⟩
    rw [hB.1] at hi
    have hik : i = k := by simpa using hi
    subst hik
    have hw : wpOp P ops Q i (wpList P ops Q l) a w := by unfold wpOp; simp only [h0]; exact h
    have hn2 : (listed.setIfInBounds i true).getD n true = true := by
      rcases hk with hk | hk
      · by_cases e : i = n
        · subst e; simp [Array.getD_eq_getD_getElem?, hnz]
        · rw [getD_set_ne true e]; exact hk
      · subst hk; simp [Array.getD_eq_getD_getElem?, hnz]
    refine wpOp_mono (fun a' w' h' => ⟨fun h => (by rw [hn2] at h; cases h), wpAnyG_of_seq l (i + 1) _ a' w' (fun j => by have := hl (j + 1); simpa [Nat.add_assoc, Nat.add_comm 1 j] using this) ?_ (.inl hn2) (by simpa using hnz) hB.2 h'⟩) hw
    by_cases e : i + 1 = n
    · left; subst e; simp [Array.getD_eq_getD_getElem?] 
    · left; rw [getD_set_ne true e]; exact hn2
end
section
variable {P : Program} {N : Nat} {l l' : Slots} {a : Act} {w w' w0 : World} {B : Nat} {fs fs' : List Fact} {ops : Array Oper} {o : Oper} {Q : Exit → Act → World → Prop} {v : Value} {d : Nat} {C : World → Prop} {n m i : Nat} {listed listed' : Array Bool}
def wG (P : Program) (N : Nat) (ops : Array Oper) (Q : Exit → Act → World → Prop) (C : World → Prop) (n m : Nat) (listed : Array Bool) (l : Slots) (w : World) : Prop := ∀ a, Fr N l a → wpAnyG P ops (NoPanic Q) C n m listed a w
def wH (P : Program) (N : Nat) (ops : Array Oper) (Q : Exit → Act → World → Prop) (C : World → Prop) (n m i : Nat) (listed : Array Bool) (l : Slots) (w : World) : Prop :=
  wN P N ops Q i l w (fun a' w' => ((listed.setIfInBounds i true).getD n true = false → C w') ∧ wpAnyG P ops (NoPanic Q) C n m (listed.setIfInBounds i true) a' w')
theorem wC_head {id : Nat} {os : List Oper} (n : Nat) (hm : P.follows .mixedOrders = true) (hn : os.length = m) (hl : Array.replicate m false = listed) (h : wG P N os.toArray Q C n m listed l w.drew) : wC P N (.region id os.toArray true) Q l w := fun a F => by
  subst hn
  subst hl
  exact wp_region_noPanic (wp_region_any hm (wpAny_of_G _ _ _ _ (by simpa using h a F)))
theorem wG_take (hi : ops[i]? = some o) (hs : Region.noSelect ops = true) (hf : Region.free .any ops listed i = true) (hr : (Region.ready .any ops listed).contains i = true) (hnl : listed.getD n true = false) (hni : waitsB ops n i = true) (hne : Nat.beq n i = false) (hS : C w)
    (hl : listed.setIfInBounds i true = listed') (hw : Wanted N ops l o true) (hd : o.dst = some d) (hN : Nat.blt d N = true) (hy : ∀ w, C w → Yld P N l o w v) (h : wG P N ops Q C n m listed' ((d, v) :: l) w) : wG P N ops Q C n (m + 1) listed l w := fun a F => by
  subst hl
  refine wpAnyG_first hi (Region.noSelect_spec hs) (fun c a w h => h) hni (fun e => by subst e; simp at hne) m listed a w (Region.free_spec hi hf) (by simpa using hr) hnl (.inl ⟨hw a F, fun w hC => hy w hC a F⟩) hS ?_
  rw [hd]
  exact h _ (F.put hN v)
theorem wG_skip (hi : ops[i]? = some o) (hs : Region.noSelect ops = true) (hf : Region.free .any ops listed i = true) (hr : (Region.ready .any ops listed).contains i = true) (hnl : listed.getD n true = false) (hni : waitsB ops n i = true) (hne : Nat.beq n i = false) (hS : C w)
    (hl : listed.setIfInBounds i true = listed') (hw : Wanted N ops l o false) (hd : o.dst = some d) (hN : Nat.blt d N = true) (h : wG P N ops Q C n m listed' ((d, undef) :: l) w) : wG P N ops Q C n (m + 1) listed l w := fun a F => by
  subst hl
  refine wpAnyG_first (v := undef) hi (Region.noSelect_spec hs) (fun c a w h => h) hni (fun e => by subst e; simp at hne) m listed a w (Region.free_spec hi hf) (by simpa using hr) hnl (.inr ⟨hw a F, rfl⟩) hS ?_
  rw [hd]
  exact h _ (F.put hN undef)
theorem wG_all {rs : List Nat} (hr : Region.ready .any ops listed = rs) (hne : rs.isEmpty = false) (h : ∀ i ∈ rs, wH P N ops Q C n m i listed l w) : wG P N ops Q C n (m + 1) listed l w := fun a F =>
  ⟨fun h0 => (by rw [hr] at h0; subst h0; cases hne), fun i hi => h i (hr ▸ hi) a F⟩
theorem wG_one {r : Nat} (hr : Region.ready .any ops listed = [r]) (h : wH P N ops Q C n m r listed l w) : wG P N ops Q C n (m + 1) listed l w := wG_all hr rfl fun i hi => by
  rcases List.mem_singleton.1 hi with rfl
  exact h
theorem wG_two {r s : Nat} (hr : Region.ready .any ops listed = [r, s]) (h : wH P N ops Q C n m r listed l w) (h' : wH P N ops Q C n m s listed l w) : wG P N ops Q C n (m + 1) listed l w := wG_all hr rfl fun i hi => by
  rcases List.mem_cons.1 hi with rfl | hi
  · exact h
  · rcases List.mem_singleton.1 hi with rfl
    exact h'
theorem wG_three {r s t : Nat} (hr : Region.ready .any ops listed = [r, s, t]) (h : wH P N ops Q C n m r listed l w) (h' : wH P N ops Q C n m s listed l w) (h'' : wH P N ops Q C n m t listed l w) : wG P N ops Q C n (m + 1) listed l w := wG_all hr rfl fun i hi => by
  rcases List.mem_cons.1 hi with rfl | hi
  · exact h
  · rcases List.mem_cons.1 hi with rfl | hi
    · exact h'
    · rcases List.mem_singleton.1 hi with rfl
      exact h''
theorem wQ_np (h : wQ N Q .normal l w) : wQ N (NoPanic Q) .normal l w := fun a F => NoPanic.normal (h a F)
theorem wG_tail {rest : List Oper} {k : Nat} (hB : Region.seqB .any ops m n listed = true) (hz : Nat.blt n listed.size = true) (hrest : ops.toList.drop n = rest) (hm : rest.length = m) (h : wL P N ops (NoPanic Q) rest l w) (hk : k = m := by rfl) : wG P N ops Q C n m listed l w := fun a F => by
  subst hrest
  subst hm
  have hz' : n < listed.size := by simpa [Nat.blt_eq] using hz
  refine wpAnyG_of_seq _ n listed a w (fun j => by simp [List.getElem?_drop]) (.inl ?_) (.inr rfl) hz' hB (h a F)
  simp [Array.getD_eq_getD_getElem?, hz']
section
theorem wH_to (hi : ops[i]? = some o) (hl : listed.setIfInBounds i true = listed') (hw : Wanted N ops l o true) (hd : o.dst = some d) (hN : Nat.blt d N = true) (hy : Does P N l o w v w') (h : C w' ∧ wG P N ops Q C n m listed' ((d, v) :: l) w') : wH P N ops Q C n m i listed l w := fun a F => by
  subst hl
  unfold wpOp
  simp only [hi]
  rw [if_pos (hw a F)]
  refine .inl ?_
  unfold Oper.wp
  rw [hy a F]
  refine ⟨fun _ => h.1, ?_⟩
  rw [hd]
  exact h.2 _ (F.put hN v)
theorem wH_val (hi : ops[i]? = some o) (hl : listed.setIfInBounds i true = listed') (hw : Wanted N ops l o true) (hd : o.dst = some d) (hN : Nat.blt d N = true) (hy : Yld P N l o w v) (h : C w ∧ wG P N ops Q C n m listed' ((d, v) :: l) w) : wH P N ops Q C n m i listed l w := wH_to hi hl hw hd hN hy h
theorem wH_new {V : Nat → Value} {row : Array Value} {t : TypeId} (hi : ops[i]? = some o) (hl : listed.setIfInBounds i true = listed') (S : St B w0 w fs) (hw : Wanted N ops l o true) (hd : o.dst = some d) (hN : Nat.blt d N = true) (hy : Does P N l o w (V w.heap.size) (w.alloc (.cells row t)))
    (h : ∀ b w', St B w0 w' (.blk b row t :: fs) → C w' ∧ wG P N ops Q C n m listed' ((d, V b) :: l) w') : wH P N ops Q C n m i listed l w := wH_to hi hl hw hd hN hy (h _ _ S.alloc)
theorem wH_newOwn {V : Nat → Value} {row : Array Value} {t : TypeId} {k s : Nat} {xs : List Value} (hi : ops[i]? = some o) (hl : listed.setIfInBounds i true = listed') (S : St B w0 w fs) (hw : Wanted N ops l o true) (hd : o.dst = some d) (hN : Nat.blt d N = true) (hy : Does P N l o w (V w.heap.size) (w.alloc (.cells row t)))
    (hs : row.size = k * s) (hn : k ≤ maxLen) (hx : row.toList = xs) (h : ∀ b w', St B w0 w' (.own t s (.slice (some ⟨b, 0, none⟩) k k) k xs :: fs) → C w' ∧ wG P N ops Q C n m listed' ((d, V b) :: l) w') : wH P N ops Q C n m i listed l w := by
  subst hx
  exact wH_to hi hl hw hd hN hy (h _ _ (S.allocOwn hs hn))
theorem wH_append {x y : Operand} {t e : TypeId} {z : Value} {size bytes k q c Br : Nat} {A : Option Addr} {xs news xs' : List Value} {sv : Value} (hi' : ops[i]? = some o) (hl : listed.setIfInBounds i true = listed') (j : Nat) (S : St B w0 w fs) (hw : Wanted N ops l o true) (hd : o.dst = some d) (hN : Nat.blt d N = true)
    (ho : o.op = .call { callee := .builtin .append, args := #[x, y], argTypes := #[t, t] }) (hx : ev l x = some sv) (hy : ev l y = some (.slice A q c)) (hi : fs[j]? = some (.own e size sv k xs)) (hr : Rd w Br size A q news)
    (ht : P.underlying t = some (.slice e)) (hinf : (P.info? e).map (fun i => (i.zero, i.size, i.bytes)) = some (some z, size, bytes)) (hzs : z.cells.size = size) (hsz : 0 < size) (h1 : ∀ u ∈ news, u.oneCell' = true) (h63 : k + q ≤ maxLen) (hbytes : (k + q) * bytes ≤ 140737488355328)
    (hxs : xs ++ news = xs') (h : ∀ A' c' w', k + q ≤ c' → c' ≤ maxLen → St B w0 w' (fs.set j (.own e size (.slice A' (k + q) c') (k + q) xs')) → C w' ∧ wG P N ops Q C n m listed' ((d, .slice A' (k + q) c') :: l) w') : wH P N ops Q C n m i listed l w := by
  subst hxs
  obtain ⟨j0, hj0, hz, hs, hb⟩ := info_parts hinf
  obtain ⟨v', w', hrun, h2, h3, h4⟩ := run_append_any (P := P) w B t o.type e j0 z size bytes ht hj0 hz hs hb hzs hsz sv k xs (S.own j hi) Br A q c news hr h1 h63 hbytes S.base
  obtain ⟨A', c', rfl, hc1, hc2⟩ := own_form h2
  exact wH_to hi' hl hw hd hN (d_builtin (xs := [x, y]) (vs := [sv, .slice A q c]) ho ⟨hx, hy, trivial⟩ (fun cs => by simp [builtin, hrun, Sem.run_bind, Result.andThen])) (h A' c' w' hc1 hc2 (S.append j hi h3 h2 h4))
theorem wH_call {f : FuncId} {vs : List Value} {R : Ending → World → Prop} (hi : ops[i]? = some o) (hl : listed.setIfInBounds i true = listed') (hw : Wanted N ops l o true) (hd : o.dst = some d) (hN : Nat.blt d N = true) (he : Enter P N l o w f vs) (hc : Calls P f vs.toArray w R)
    (h : ∀ e w', R e w' → ∃ v, e = .returned v ∧ C w' ∧ wG P N ops Q C n m listed' ((d, v) :: l) w') : wH P N ops Q C n m i listed l w := fun a F => by
  subst hl
  unfold wpOp
  simp only [hi]
  rw [if_pos (hw a F)]
  refine .inl ?_
  unfold Oper.wp
  rw [he a F]
  refine hc.mono fun e w' hr => ?_
  obtain ⟨v, rfl, hC, hv⟩ := h e w' hr
  refine ⟨fun _ => hC, ?_⟩
  rw [hd]
  exact hv _ (F.put hN v)
end
end
end Go.Proofs.Ytkjlafpafmihaaa
