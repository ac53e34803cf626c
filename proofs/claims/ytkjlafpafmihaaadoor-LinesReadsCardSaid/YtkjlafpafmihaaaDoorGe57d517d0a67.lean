/- Parts of proofs: lemmas on memory, on single functions and on the plain models; no condition of their own. -/
import Derived.Test.YtkjlafpafmihaaaDoorRows
import Derived.WalkKit
import Derived.ProofKit
import Derived.OpenShut
import Derived.SizedLaws
import Derived.WalkSpells
import Derived.WalkLawsBesides
import Derived.Handy
import Derived.Deep.QuietTactic
import Derived.BigQuiet
import Derived.Lib.Hide
import Derived.Maps.AppendAt
import Derived.Deep.AppendLies
import Derived.RegionTactic
import Derived.OwnWalk
import Derived.Laws.Tables
import Derived.Deep.MidRow
import Derived.StillTailTactics
import Derived.OrdersHeld
import Derived.Deep.RegionHeld3
import Derived.Laws.IdiomCopy
import Derived.ChangeKeysEq
import Derived.Laws.BitsAllLaws
import Derived.RangeFuncIn
import Derived.RangeFuncLeaves
import Derived.RangeFuncRecord
import Derived.RangeFuncCalls
import Derived.OrdersIn
import Derived.Test.YtkjlafpafmihaaaDoorG173045c9580a
import Derived.Test.YtkjlafpafmihaaaDoorG97f8767f7743
import Derived.Test.YtkjlafpafmihaaaDoorGa487125d06f9
import Derived.Test.YtkjlafpafmihaaaDoorGa6cfea583cdc
import Derived.Test.YtkjlafpafmihaaaDoorGab8ecdf11465
import Derived.Test.YtkjlafpafmihaaaDoorGd3cfdc1357eb
import Derived.Test.YtkjlafpafmihaaaDoorGedcf6e6df767
import Derived.Test.YtkjlafpafmihaaaDoorGfb0ccb768d7d
set_option linter.unusedVariables false
set_option linter.unusedSimpArgs false

namespace Go.Proofs.YtkjlafpafmihaaaDoor.In
open Go.ChangeShapes Go.WideShapes Go.ChangeAt Go.RowKit

/-- No fence but for the make of the frame: a round's, or a plain one's. -/
abbrev fen (r : Option Nat) : Fence := { Fence.wide with round := r }
structure FrD (ds : List Deferred) (N : Nat) (l : Slots) (a : Act) : Prop where
  defers : a.defers = ds
  size : a.tmps.size = N
  get : ∀ k v, lk l k = some v → a.tmps[k]? = some v
section
variable {r : Option Nat} {ds : List Deferred} {P : Program} {N : Nat} {l l' : Slots} {a : Act} {w w' w0 : World} {B : Nat} {fs fs' : List Fact} {ops : Array Oper} {o : Oper} {rest : List Oper} {Q : Exit → Act → World → Prop} {v u p : Value} {d : Nat}
theorem FrD.fr (F : FrD ds N l a) : Fr N l { a with defers := [] } := ⟨rfl, F.size, F.get⟩
theorem FrD.of (F : Fr N l a) (d : Deferred) : FrD [d] N l { a with defers := [d] } := ⟨rfl, F.size, F.get⟩
theorem FrD.sub (F : FrD ds N l a) (h : SubL l l') : FrD ds N l' a := ⟨F.defers, F.size, fun k v hk => F.get k v (lk_sub h k v hk)⟩
theorem FrD.put (F : FrD ds N l a) (hd : Nat.blt d N = true) (v : Value) : FrD ds N ((d, v) :: l) (a.put (some d) v) := by
  have h := F.fr.put hd v
  exact ⟨by show (a.put (some d) v).defers = ds; unfold Act.put; exact F.defers, h.size, h.get⟩
theorem FrD.ev {x : Operand} (F : FrD ds N l a) (h : Go.Proofs.YtkjlafpafmihaaaDoor.ev l x = some v) : a.eval x = v := by
  have := F.fr.ev h
  cases x <;> exact this
theorem eval_eq (a : Act) : ({ a with defers := [] } : Act).eval = a.eval := by
  funext x
  cases x <;> rfl

def wC (r : Option Nat) (ds : List Deferred) (P : Program) (N : Nat) (c : Code) (Q : Exit → Act → World → Prop) (l : Slots) (w : World) : Prop := ∀ a, FrD ds N l a → c.wpIn (fen r) 0 P Q a w
def wL (r : Option Nat) (ds : List Deferred) (P : Program) (N : Nat) (ops : Array Oper) (Q : Exit → Act → World → Prop) (rest : List Oper) (l : Slots) (w : World) : Prop := ∀ a, FrD ds N l a → wpListIn (fen r) 0 P ops Q rest a w
def wQ (ds : List Deferred) (N : Nat) (Q : Exit → Act → World → Prop) (e : Exit) (l : Slots) (w : World) : Prop := ∀ a, FrD ds N l a → Q e a w
theorem wC_seq {x y : Code} (h : wC r ds P N x (Exit.then (y.wpIn (fen r) 0 P Q) Q) l w) : wC r ds P N (.seq x y) Q l w := fun a F => wpIn_seq (h a F)
theorem wC_region {id : Nat} {os : List Oper} (h : wL r ds P N os.toArray Q os l w) : wC r ds P N (.region id os.toArray false) Q l w := fun a F => wpIn_region_lit (h a F)
theorem wC_cond_t {c : Operand} {x y : Code} (hc : Go.Proofs.YtkjlafpafmihaaaDoor.ev l c = some (.bool true)) (h : wC r ds P N x Q l w) : wC r ds P N (.cond c x y) Q l w := fun a F => wpIn_cond_true (F.ev hc) (h a F)
theorem wC_cond_f {c : Operand} {x y : Code} (hc : Go.Proofs.YtkjlafpafmihaaaDoor.ev l c = some (.bool false)) (h : wC r ds P N y Q l w) : wC r ds P N (.cond c x y) Q l w := fun a F => wpIn_cond_false (F.ev hc) (h a F)
theorem wC_block {id : Nat} {c : Code} (h : wC r ds P N c (Exit.inBlock id Q) l w) : wC r ds P N (.block id c) Q l w := fun a F => wpIn_block (h a F)
theorem wC_exit {id : Nat} (h : wQ ds N Q (.exit id) l w) : wC r ds P N (.exit id) Q l w := fun a F => wpIn_exit (h a F)
theorem wC_skip (h : wQ ds N Q .normal l w) : wC r ds P N .skip Q l w := fun a F => wpIn_skip (h a F)
theorem wC_ret (h : wQ ds N Q .ret l w) : wC r ds P N .ret Q l w := fun a F => wpIn_ret (h a F)
theorem wC_sub {c : Code} (hs : SubL l l') (h : wC r ds P N c Q l' w) : wC r ds P N c Q l w := fun a F => h a (F.sub hs)
theorem wQ_sub {e : Exit} (hs : SubL l l') (h : wQ ds N Q e l' w) : wQ ds N Q e l w := fun a F => h a (F.sub hs)
theorem wQ_then {y : Code} (h : wC r ds P N y Q l w) : wQ ds N (Exit.then (y.wpIn (fen r) 0 P Q) Q) .normal l w := h
theorem wQ_then_exit {K : Act → World → Prop} {id : Nat} (h : wQ ds N Q (.exit id) l w) : wQ ds N (Exit.then K Q) (.exit id) l w := h
theorem wQ_then_ret {K : Act → World → Prop} (h : wQ ds N Q .ret l w) : wQ ds N (Exit.then K Q) .ret l w := h
theorem wQ_blk_n {id : Nat} (h : wQ ds N Q .normal l w) : wQ ds N (Exit.inBlock id Q) .normal l w := h
theorem wQ_blk_ret {id : Nat} (h : wQ ds N Q .ret l w) : wQ ds N (Exit.inBlock id Q) .ret l w := h
theorem wQ_blk_same {id : Nat} (h : wQ ds N Q .normal l w) : wQ ds N (Exit.inBlock id Q) (.exit id) l w := fun a F => by
  show if id = id then _ else _
  rw [if_pos rfl]
  exact h a F
theorem wanted_in {b : Bool} (hw : Wanted N ops l o b) (F : FrD ds N l a) : Region.wanted o (yielded ops a.tmps) = b := hw { a with defers := [] } F.fr
theorem wL_nil (h : wQ ds N Q .normal l w) : wL r ds P N ops Q [] l w := h
theorem wL_val (hw : Wanted N ops l o true) (hd : o.dst = some d) (hN : Nat.blt d N = true) (hy : Yld P N l o w v) (h : wL r ds P N ops Q rest ((d, v) :: l) w) (hnd : ∀ c, o.op ≠ .defer c := by intro c h; cases h) : wL r ds P N ops Q (o :: rest) l w := fun a F => wpListIn_step fun K hK => by
  rw [if_pos (wanted_in hw F)]
  refine ⟨fun _ _ => trivial, ?_⟩
  have hr : (execOp a.eval o).run P w = .ok (.value v) w := by rw [← eval_eq]; exact hy _ F.fr
  rw [Oper.semAt_eq _ _ _ hnd, hr]
  show K (a.put o.dst v) w
  rw [hd]
  exact hK _ _ (h _ (F.put hN v))
theorem wL_to (hw : Wanted N ops l o true) (hd : o.dst = some d) (hN : Nat.blt d N = true) (hy : Does P N l o w v w') (h : wL r ds P N ops Q rest ((d, v) :: l) w') (hnd : ∀ c, o.op ≠ .defer c := by intro c h; cases h) : wL r ds P N ops Q (o :: rest) l w := fun a F => wpListIn_step fun K hK => by
  rw [if_pos (wanted_in hw F)]
  refine ⟨fun _ _ => trivial, ?_⟩
  have hr : (execOp a.eval o).run P w = .ok (.value v) w' := by rw [← eval_eq]; exact hy _ F.fr
  rw [Oper.semAt_eq _ _ _ hnd, hr]
  show K (a.put o.dst v) w'
  rw [hd]
  exact hK _ _ (h _ (F.put hN v))
theorem wL_eff (hw : Wanted N ops l o true) (hd : o.dst = none) (hy : Eff P N l o w w') (h : wL r ds P N ops Q rest l w') (hnd : ∀ c, o.op ≠ .defer c := by intro c h; cases h) : wL r ds P N ops Q (o :: rest) l w := fun a F => wpListIn_step fun K hK => by
  rw [if_pos (wanted_in hw F)]
  refine ⟨fun _ _ => trivial, ?_⟩
  have hr : (execOp a.eval o).run P w = .ok .skip w' := by rw [← eval_eq]; exact hy _ F.fr
  rw [Oper.semAt_eq _ _ _ hnd, hr]
  show K (a.put o.dst undef) w'
  rw [hd]
  exact hK _ _ (h _ F)
theorem wL_skip (hw : Wanted N ops l o false) (hd : o.dst = some d) (hN : Nat.blt d N = true) (h : wL r ds P N ops Q rest ((d, undef) :: l) w) : wL r ds P N ops Q (o :: rest) l w := fun a F => wpListIn_step fun K hK => by
  rw [if_neg (by rw [wanted_in hw F]; simp), hd]
  exact ⟨fun _ _ => trivial, hK _ _ (h _ (F.put hN undef))⟩
theorem calls_fen {f : FuncId} {args : Array Value} {R : Ending → World → Prop} (h : Calls P f args w R) : CallsIn (fen r) 0 P f args w R := by
  have h1 : CallsIn Fence.wide 0 P f args w R := callsIn_wide.2 h
  cases r with
  | none => exact h1
  | some k => exact CallsIn.inRound k h1
theorem wL_call {f : FuncId} {vs : List Value} {R : Ending → World → Prop} (hw : Wanted N ops l o true) (hd : o.dst = some d) (hN : Nat.blt d N = true) (he : Enter P N l o w f vs) (hc : Calls P f vs.toArray w R)
    (h : ∀ e w', R e w' → ∃ v, e = .returned v ∧ wL r ds P N ops Q rest ((d, v) :: l) w') (hnd : ∀ c, o.op ≠ .defer c := by intro c h; cases h) : wL r ds P N ops Q (o :: rest) l w := fun a F => wpListIn_step fun K hK => by
  rw [if_pos (wanted_in hw F)]
  refine ⟨fun _ _ => trivial, ?_⟩
  have hr : (execOp a.eval o).run P w = .ok (.enter f vs.toArray) w := by rw [← eval_eq]; exact he _ F.fr
  rw [Oper.semAt_eq _ _ _ hnd, hr]
  refine ⟨fun h => (by cases h), (calls_fen hc).mono fun e w' hr => ?_⟩
  obtain ⟨v, rfl, hv⟩ := h e w' hr
  show K (a.put o.dst v) w'
  rw [hd]
  exact hK _ _ (hv _ (F.put hN v))
theorem wL_new {V : Nat → Value} {row : Array Value} {t : TypeId} (S : St B w0 w fs) (hw : Wanted N ops l o true) (hd : o.dst = some d) (hN : Nat.blt d N = true) (hy : Does P N l o w (V w.heap.size) (w.alloc (.cells row t)))
    (h : ∀ b w', St B w0 w' (.blk b row t :: fs) → wL r ds P N ops Q rest ((d, V b) :: l) w') (hnd : ∀ c, o.op ≠ .defer c := by intro c h; cases h) : wL r ds P N ops Q (o :: rest) l w := wL_to hw hd hN hy (h _ _ S.alloc) hnd
theorem wL_st {ty t : TypeId} {x y : Operand} {b off m : Nat} {cs row row' : Array Value} (i : Nat) (S : St B w0 w fs) (hw : Wanted N ops l o true) (hd : o.dst = none) (ho : o.op = .store ty x y) (hx : ev l x = some (.pointer (some ⟨b, off, none⟩))) (hy : ev l y = some v)
    (hi : fs[i]? = some (.blk b row t)) (hv : v.cells = cs) (hz : (P.info? ty).map (·.size) = some m) (hm : cs.size = m) (h1 : ∀ u ∈ cs.toList, u.oneCell' = true) (hr : off + m ≤ row.size) (hrow : setAll row off cs.toList = row') (hfs : fs.set i (.blk b row' t) = fs')
    (h : ∀ w', St B w0 w' fs' → wL r ds P N ops Q rest l w') : wL r ds P N ops Q (o :: rest) l w := by
  subst hrow
  subst hfs
  exact wL_eff hw hd (f_store ho hx hy (r_store hv hz hm h1 (S.there i hi off m hr))) (h _ (S.set i hi (upd_setCells b cs.toList off w) (blk_setCells cs.toList off (S.blk i hi)))) (fun c e => by rw [ho] at e; cases e)
theorem wL_append {x y : Operand} {t e : TypeId} {z : Value} {size bytes n m c Br : Nat} {A : Option Addr} {xs news xs' : List Value} {sv : Value} (i : Nat) (S : St B w0 w fs) (hw : Wanted N ops l o true) (hd : o.dst = some d) (hN : Nat.blt d N = true)
    (ho : o.op = .call { callee := .builtin .append, args := #[x, y], argTypes := #[t, t] }) (hx : ev l x = some sv) (hy : ev l y = some (.slice A m c)) (hi : fs[i]? = some (.own e size sv n xs)) (hr : Rd w Br size A m news)
    (ht : P.underlying t = some (.slice e)) (hinf : (P.info? e).map (fun i => (i.zero, i.size, i.bytes)) = some (some z, size, bytes)) (hzs : z.cells.size = size) (hsz : 0 < size) (h1 : ∀ u ∈ news, u.oneCell' = true) (h63 : n + m ≤ maxLen) (hbytes : (n + m) * bytes ≤ 140737488355328)
    (hxs : xs ++ news = xs') (h : ∀ A' c' w', n + m ≤ c' → c' ≤ maxLen → St B w0 w' (fs.set i (.own e size (.slice A' (n + m) c') (n + m) xs')) → wL r ds P N ops Q rest ((d, .slice A' (n + m) c') :: l) w') : wL r ds P N ops Q (o :: rest) l w := by
  subst hxs
  obtain ⟨j0, hj0, hz, hs, hb⟩ := info_parts hinf
  obtain ⟨v', w', hrun, h2, h3, h4⟩ := run_append_any (P := P) w B t o.type e j0 z size bytes ht hj0 hz hs hb hzs hsz sv n xs (S.own i hi) Br A m c news hr h1 h63 hbytes S.base
  obtain ⟨A', c', rfl, hc1, hc2⟩ := own_form h2
  exact wL_to hw hd hN (d_builtin (xs := [x, y]) (vs := [sv, .slice A m c]) ho ⟨hx, hy, trivial⟩ (fun cs => by simp [builtin, hrun, Sem.run_bind, Result.andThen])) (h A' c' w' hc1 hc2 (S.append i hi h3 h2 h4)) (fun c e => by rw [ho] at e; cases e)
/-! ### A region of any order -/
theorem wpIn_then {K K' : Act → World → Prop} (h : o.wpIn (fen r) 0 P a w K (Exit.then K' Q)) : o.wpIn (fen r) 0 P a w K Q := by
  unfold Oper.wpIn at *
  refine ⟨h.1, ?_⟩
  have hh := h.2
  generalize (o.semAt (fen r).round a.eval).run P w = q at *
  cases q with
  | ok x w' => cases x <;> exact hh
  | halt x w' => cases x <;> exact hh
def wA (r : Option Nat) (ds : List Deferred) (P : Program) (N : Nat) (ops : Array Oper) (Q : Exit → Act → World → Prop) (n : Nat) (listed : Array Bool) (l : Slots) (w : World) : Prop := ∀ a, FrD ds N l a → wpAnyIn (fen r) 0 P .any ops Q n listed a w
/-- One of those that may come up comes up. -/
def wK (r : Option Nat) (ds : List Deferred) (P : Program) (N : Nat) (ops : Array Oper) (Q : Exit → Act → World → Prop) (n i : Nat) (listed : Array Bool) (l : Slots) (w : World) : Prop := ∀ a, FrD ds N l a → wpOpIn (fen r) 0 P ops Q i (wpAnyIn (fen r) 0 P .any ops Q n (listed.setIfInBounds i true)) a w
theorem wA_done {listed : Array Bool} (hr : Region.ready .any ops listed = []) (h : wQ ds N Q .normal l w) : wA r ds P N ops Q 0 listed l w := fun a F => ⟨hr, h a F⟩
theorem wA_one {n i : Nat} {listed : Array Bool} (hr : Region.ready .any ops listed = [i]) (h : wK r ds P N ops Q n i listed l w) : wA r ds P N ops Q (n + 1) listed l w := fun a F =>
  wpAnyIn_all hr (by simp) fun k hk => by rw [List.mem_singleton] at hk; subst hk; exact h a F
theorem wA_two {n i j : Nat} {listed : Array Bool} (hr : Region.ready .any ops listed = [i, j]) (h1 : wK r ds P N ops Q n i listed l w) (h2 : wK r ds P N ops Q n j listed l w) : wA r ds P N ops Q (n + 1) listed l w := fun a F =>
  wpAnyIn_all hr (by simp) fun k hk => by
    rcases List.mem_cons.1 hk with rfl | hk
    · exact h1 a F
    · rw [List.mem_singleton] at hk; subst hk; exact h2 a F
theorem wK_of {n i : Nat} {listed listed' : Array Bool} (hi : ops[i]? = some o) (hl : listed.setIfInBounds i true = listed') (h : wL r ds P N ops (Exit.then (wpAnyIn (fen r) 0 P .any ops Q n listed') Q) [o] l w) : wK r ds P N ops Q n i listed l w := fun a F => by
  subst hl
  have h1 := h a F
  refine wpOpIn_step hi fun K hK => ?_
  have h2 : if Region.wanted o (yielded ops a.tmps) then o.wpIn (fen r) 0 P a w (wpAnyIn (fen r) 0 P .any ops Q n (listed.setIfInBounds i true)) (Exit.then (wpAnyIn (fen r) 0 P .any ops Q n (listed.setIfInBounds i true)) Q) else (∀ f, o.about P w a.eval = some f → (fen r).fn f) ∧ wpAnyIn (fen r) 0 P .any ops Q n (listed.setIfInBounds i true) (a.put o.dst undef) w := h1
  split
  · rename_i hw
    rw [if_pos hw] at h2
    exact Oper.wpIn_mono hK (wpIn_then h2)
  · rename_i hw
    rw [if_neg hw] at h2
    exact ⟨h2.1, hK _ _ h2.2⟩
theorem wQ_A {n : Nat} {listed : Array Bool} (h : wA r ds P N ops Q n listed l w) : wQ ds N (Exit.then (wpAnyIn (fen r) 0 P .any ops Q n listed) Q) .normal l w := h
theorem wC_any {id : Nat} {os : List Oper} {n : Nat} {listed : Array Bool} (S : St B w0 w fs) (hm : P.follows .mixedOrders = true) (hn : os.toArray.size = n) (hl : Array.replicate n false = listed) (h : ∀ w', St B w0 w' fs → wA r ds P N os.toArray Q n listed l w') : wC r ds P N (.region id os.toArray true) Q l w := fun a F => by
  subst hn
  subst hl
  exact wpIn_region_any hm (h _ S.drew a F)
end
end Go.Proofs.YtkjlafpafmihaaaDoor.In

