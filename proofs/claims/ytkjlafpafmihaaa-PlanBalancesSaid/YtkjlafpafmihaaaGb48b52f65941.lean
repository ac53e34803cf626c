/- Parts of proofs: lemmas on memory, on single functions and on the plain models; no condition of their own. -/
import Derived.Test.YtkjlafpafmihaaaRows
import Derived.WalkKit
import Derived.ProofKit
import Derived.OpenShut
import Derived.SizedLaws
import Derived.WalkSpells
import Derived.WalkLawsBesides
import Derived.Handy
import Derived.Deep.QuietTactic
import Derived.BigQuiet
import Derived.Lib.Hide
import Derived.Maps.AppendAt
import Derived.Deep.AppendLies
import Derived.RegionTactic
import Derived.OwnWalk
import Derived.ChangeKeysEq
import Derived.Laws.Tables
import Derived.Deep.MidRow
import Derived.StillTailTactics
import Derived.OrdersHeld
import Derived.Deep.RegionHeld3
import Derived.Laws.IdiomCopy
import Derived.Test.YtkjlafpafmihaaaG1b3f031f3838
import Derived.Test.YtkjlafpafmihaaaG3d3d00a3ec74
import Derived.Test.YtkjlafpafmihaaaG6e4e01390dbc
import Derived.Test.YtkjlafpafmihaaaGa09fbd9efb78
import Derived.Test.YtkjlafpafmihaaaGa90ca60c6bbf
import Derived.Test.YtkjlafpafmihaaaGc7e713607da7
import Derived.Test.YtkjlafpafmihaaaGf662d898f049
set_option linter.unusedVariables false
set_option linter.unusedSimpArgs false

namespace Go.Proofs.Ytkjlafpafmihaaa
open Go.ChangeShapes Go.WideShapes Go.ChangeAt Go.RowKit

section
variable {P : Program} {N : Nat} {l l' : Slots} {a : Act} {w w' w0 : World} {B : Nat} {fs fs' : List Fact} {ops : Array Oper} {o : Oper} {rest : List Oper} {Q : Exit → Act → World → Prop} {v u p : Value} {d : Nat}

/-- A new block of cells. -/
theorem wL_new {V : Nat → Value} {row : Array Value} {t : TypeId} (S : St B w0 w fs) (hw : Wanted N ops l o true) (hd : o.dst = some d) (hN : Nat.blt d N = true) (hy : Does P N l o w (V w.heap.size) (w.alloc (.cells row t)))
    (h : ∀ b w', St B w0 w' (.blk b row t :: fs) → wL P N ops Q rest ((d, V b) :: l) w') : wL P N ops Q (o :: rest) l w := wL_to hw hd hN hy (h _ _ S.alloc)
theorem St.nil (S : St B w0 w fs) (e : TypeId) (s : Nat) : St B w0 w (.own e s (.slice none 0 0) 0 [] :: fs) := S.cons (ownsRow_nil_ _ _ _ _) fun k hk => by cases hk
theorem St.there {b : Nat} {row : Array Value} {t : TypeId} (i : Nat) (S : St B w0 w fs) (hi : fs[i]? = some (.blk b row t)) (off m : Nat) (h : off + m ≤ row.size) : w.there b off m := fun j hj => by
  have hb := S.blk i hi
  exact ⟨by rw [hb.cell (k := off + j) (Array.getElem?_eq_getElem (by omega))]; rfl, hb.free _⟩
/-- A store into a block that is known whole. -/
theorem wL_st {ty t : TypeId} {x y : Operand} {b off m : Nat} {cs row row' : Array Value} (i : Nat) (S : St B w0 w fs) (hw : Wanted N ops l o true) (hd : o.dst = none) (ho : o.op = .store ty x y) (hx : ev l x = some (.pointer (some ⟨b, off, none⟩))) (hy : ev l y = some v)
    (hi : fs[i]? = some (.blk b row t)) (hv : v.cells = cs) (hz : (P.info? ty).map (·.size) = some m) (hm : cs.size = m) (h1 : ∀ u ∈ cs.toList, u.oneCell' = true) (hr : off + m ≤ row.size) (hrow : setAll row off cs.toList = row') (hfs : fs.set i (.blk b row' t) = fs')
    (h : ∀ w', St B w0 w' fs' → wL P N ops Q rest l w') : wL P N ops Q (o :: rest) l w := by
  subst hrow
  subst hfs
  exact wL_eff hw hd (f_store ho hx hy (r_store hv hz hm h1 (S.there i hi off m hr))) (h _ (S.set i hi (upd_setCells b cs.toList off w) (blk_setCells cs.toList off (S.blk i hi))))
/-- append onto a row of the call's own. -/
theorem wL_append {x y : Operand} {t e : TypeId} {z : Value} {size bytes n m c Br : Nat} {A : Option Addr} {xs news xs' : List Value} {sv : Value} (i : Nat) (S : St B w0 w fs) (hw : Wanted N ops l o true) (hd : o.dst = some d) (hN : Nat.blt d N = true)
    (ho : o.op = .call { callee := .builtin .append, args := #[x, y], argTypes := #[t, t] }) (hx : ev l x = some sv) (hy : ev l y = some (.slice A m c)) (hi : fs[i]? = some (.own e size sv n xs)) (hr : Rd w Br size A m news)
    (ht : P.underlying t = some (.slice e)) (hinf : (P.info? e).map (fun i => (i.zero, i.size, i.bytes)) = some (some z, size, bytes)) (hzs : z.cells.size = size) (hsz : 0 < size) (h1 : ∀ u ∈ news, u.oneCell' = true) (h63 : n + m ≤ maxLen) (hbytes : (n + m) * bytes ≤ 140737488355328)
    (hxs : xs ++ news = xs') (h : ∀ A' c' w', n + m ≤ c' → c' ≤ maxLen → St B w0 w' (fs.set i (.own e size (.slice A' (n + m) c') (n + m) xs')) → wL P N ops Q rest ((d, .slice A' (n + m) c') :: l) w') : wL P N ops Q (o :: rest) l w := by
  subst hxs
  obtain ⟨j0, hj0, hz, hs, hb⟩ := info_parts hinf
  obtain ⟨v', w', hrun, h2, h3, h4⟩ := run_append_any (P := P) w B t o.type e j0 z size bytes ht hj0 hz hs hb hzs hsz sv n xs (S.own i hi) Br A m c news hr h1 h63 hbytes S.base
  obtain ⟨A', c', rfl, hc1, hc2⟩ := own_form h2
  exact wL_to hw hd hN (d_builtin (xs := [x, y]) (vs := [sv, .slice A m c]) ho ⟨hx, hy, trivial⟩ (fun cs => by simp [builtin, hrun, Sem.run_bind, Result.andThen])) (h A' c' w' hc1 hc2 (S.append i hi h3 h2 h4))
/-- A block that is known whole as a slice of all its cells. -/
theorem St.bld {b n s : Nat} {row : Array Value} {t : TypeId} {xs : List Value} (i : Nat) (S : St B w0 w fs) (hi : fs[i]? = some (.blk b row t)) (hx : row.toList = xs) (hl : xs.length = n * s) : Rd w w.heap.size s (some ⟨b, 0, none⟩) n xs :=
  ⟨hl, fun _ => ⟨b, 0, rfl, S.lt i hi, fun j u hu => by
    rw [Nat.zero_add]
    exact (S.blk i hi).cell (by rw [← hx] at hu; simpa using hu)⟩⟩
/-- Where a slice's cells lie. -/
theorem Rd.addr {B s n : Nat} {A : Option Addr} {xs : List Value} (h : Rd w B s A n xs) (hn : 0 < n) : ∃ b off, A = some ⟨b, off, none⟩ := by
  obtain ⟨b, off, e, _⟩ := h.2 hn
  exact ⟨b, off, e⟩
theorem Rd.cl {B s n b off j : Nat} {xs : List Value} (h : Rd w B s (some ⟨b, off, none⟩) n xs) (hx : xs[j]? = some v) : w.cell? ⟨b, off + j, none⟩ = some v := by
  have hl : j < xs.length := (List.getElem?_eq_some_iff.1 hx).1
  have hn : 0 < n := by
    rcases Nat.eq_zero_or_pos n with e | e
    · rw [h.1, e] at hl; omega
    · exact e
  obtain ⟨b', off', e, _, hc⟩ := h.2 hn
  simp only [Option.some.injEq, Addr.mk.injEq, and_true] at e
  obtain ⟨rfl, rfl⟩ := e
  exact hc j v hx
theorem Rd.rg {B s n b off j m : Nat} {xs cs : List Value} (h : Rd w B s (some ⟨b, off, none⟩) n xs) (hx : ∀ i u, cs[i]? = some u → xs[j + i]? = some u) : w.rangeAt b (off + j) cs := fun i u hu => by
  rw [Nat.add_assoc]
  exact h.cl (hx i u hu)
theorem St.rg {b off : Nat} {row : Array Value} {t : TypeId} {cs : List Value} (i : Nat) (S : St B w0 w fs) (hi : fs[i]? = some (.blk b row t)) (hx : ∀ j u, cs[j]? = some u → row[off + j]? = some u) : w.rangeAt b off cs := fun j u hu => (S.blk i hi).cell (hx j u hu)
theorem St.cl {b k : Nat} {row : Array Value} {t : TypeId} (i : Nat) (S : St B w0 w fs) (hi : fs[i]? = some (.blk b row t)) (hk : row[k]? = some v) : w.cell? ⟨b, k, none⟩ = some v := (S.blk i hi).cell hk
theorem setAll_all {row cs : Array Value} (h : row.size = cs.size) : setAll row 0 cs.toList = cs := by
  apply Array.toList_inj.1
  rw [setAll_list _ _ _ (by simp; omega)]
  simp only [List.take_zero, List.nil_append, Nat.zero_add, Array.length_toList]
  rw [List.drop_of_length_le (by simp; omega), List.append_nil]
theorem Rd.cl2 {B s n b off j i : Nat} {xs : List Value} (h : Rd w B s (some ⟨b, off, none⟩) n xs) (hx : xs[j + i]? = some v) : w.cell? ⟨b, off + j + i, none⟩ = some v := by
  rw [Nat.add_assoc]
  exact h.cl hx
theorem Rd.rg2 {B s n b off j : Nat} {xs cs : List Value} (h : Rd w B s (some ⟨b, off, none⟩) n xs) (hx : ∀ i u, cs[i]? = some u → xs[j + i]? = some u) : w.rangeAt b (off + j) cs := h.rg (m := 0) hx
theorem oneAll {cs : List Value} (h : cs.all (·.oneCell') = true) : ∀ u ∈ cs, u.oneCell' = true := by simpa using h
/-- One element's cells in a list of records. -/
theorem fm_get {α : Type} {enc : α → List Value} {sz : Nat} (hsz : ∀ x, (enc x).length = sz) : ∀ {l : List α} {k : Nat} {x : α} {j : Nat} {u : Value}, l[k]? = some x → (enc x)[j]? = some u → (l.flatMap enc)[k * sz + j]? = some u
  | [], k, x, j, u, h, _ => by simp at h
  | y :: l, 0, x, j, u, h, hj => by
    simp at h
    subst h
    rw [List.flatMap_cons, Nat.zero_mul, Nat.zero_add, List.getElem?_append_left (List.getElem?_eq_some_iff.1 hj).1]
    exact hj
  | y :: l, k + 1, x, j, u, h, hj => by
    have hj' : j < sz := by have := (List.getElem?_eq_some_iff.1 hj).1; rw [hsz] at this; exact this
    rw [List.flatMap_cons, List.getElem?_append_right (by rw [hsz, Nat.succ_mul]; omega), hsz, show (k + 1) * sz + j - sz = k * sz + j by rw [Nat.succ_mul]; omega]
    exact fm_get hsz (by simpa using h) hj
theorem fm_len {α : Type} {enc : α → List Value} {sz : Nat} (hsz : ∀ x, (enc x).length = sz) (l : List α) : (l.flatMap enc).length = l.length * sz := by
  induction l with
  | nil => simp
  | cons y l ih => rw [List.flatMap_cons, List.length_append, ih, hsz, List.length_cons, Nat.succ_mul]; omega
theorem r_indexAddr {t e : TypeId} {b off n c s : Nat} {i : Int} {kd : IntKind} (k : Nat) (hu : P.underlying t = some (.slice e)) (hz : (P.info? e).map (·.size) = some s) (hik : i = k) (hk : k < n) :
    (Instr.indexAt t (.slice (some ⟨b, off, none⟩) n c) (.int kd i)).run P w = .ok (.pointer (some ⟨b, off + k * s, none⟩)) w := by
  subst hik
  obtain ⟨q, hq, hs⟩ : ∃ q, P.info? e = some q ∧ q.size = s := by
    cases h : P.info? e with
    | none => simp [h] at hz
    | some q => exact ⟨q, rfl, by simpa [h] using hz⟩
  have hkk : (0 : Int) ≤ k ∧ (k : Int) < n := by omega
  simp [Instr.indexAt, asIntOf, Sem.run_bind, run_underlying hu, Result.andThen, hkk, hk, sizeOf, typeInfo, hq, hs, Go.WideShapes.add_plain]
/-! ### Regions that draw their order: reads and quiet calls -/
def wU (P : Program) (N : Nat) (ops : Array Oper) (C : World → Prop) (Qa : Act → Prop) (rest : List Oper) (l : Slots) : Prop := ∀ a, Fr N l a → wpQuiet P ops C Qa rest a
theorem wC_quiet {id : Nat} {os : List Oper} (S : St B w0 w fs) (hm : P.follows .mixedOrders = true) (hB : Region.lexB .any os.toArray = true)
    (h : wU P N os.toArray (fun w' => St B w0 w' fs) (fun a' => ∀ w', St B w0 w' fs → Q .normal a' w') os l) : wC P N (.region id os.toArray true) Q l w := fun a F =>
  wp_region_quiet (C := fun w' => St B w0 w' fs) hm hB S.drew (by simpa using h a F)
theorem wU_val {C : World → Prop} {Qa : Act → Prop} (hw : Wanted N ops l o true) (hd : o.dst = some d) (hN : Nat.blt d N = true) (hy : ∀ w, C w → Yld P N l o w v) (h : wU P N ops C Qa rest ((d, v) :: l)) : wU P N ops C Qa (o :: rest) l := fun a F => by
  unfold wpQuiet
  rw [if_pos (hw a F)]
  refine ⟨v, fun w hC => ?_, by rw [hd]; exact h _ (F.put hN v)⟩
  unfold Oper.quietAt
  rw [hy w hC a F]
  exact ⟨rfl, rfl⟩
theorem wU_skip {C : World → Prop} {Qa : Act → Prop} (hw : Wanted N ops l o false) (hd : o.dst = some d) (hN : Nat.blt d N = true) (h : wU P N ops C Qa rest ((d, undef) :: l)) : wU P N ops C Qa (o :: rest) l := fun a F => by
  unfold wpQuiet
  rw [if_neg (by rw [hw a F]; simp), hd]
  exact h _ (F.put hN undef)
theorem wU_call {C : World → Prop} {Qa : Act → Prop} {f : FuncId} {vs : List Value} (hw : Wanted N ops l o true) (hd : o.dst = some d) (hN : Nat.blt d N = true) (he : ∀ w, Enter P N l o w f vs) (hc : ∀ w, C w → Calls P f vs.toArray w fun e w' => e = .returned v ∧ C w')
    (h : wU P N ops C Qa rest ((d, v) :: l)) : wU P N ops C Qa (o :: rest) l := fun a F => by
  unfold wpQuiet
  rw [if_pos (hw a F)]
  refine ⟨v, fun w hC => ?_, by rw [hd]; exact h _ (F.put hN v)⟩
  unfold Oper.quietAt
  rw [he w a F]
  exact ⟨rfl, hc w hC⟩
theorem wU_nil (h : ∀ w', St B w0 w' fs → wQ N Q .normal l w') : wU P N ops (fun w' => St B w0 w' fs) (fun a' => ∀ w', St B w0 w' fs → Q .normal a' w') [] l := fun a F w' S => h w' S a F

/-! ### Regions that draw their order: any -/
end
end Go.Proofs.Ytkjlafpafmihaaa

