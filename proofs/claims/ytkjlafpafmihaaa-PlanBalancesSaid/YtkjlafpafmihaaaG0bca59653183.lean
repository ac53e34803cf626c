/- Parts of proofs: lemmas on memory, on single functions and on the plain models; no condition of their own. -/
import Derived.Test.YtkjlafpafmihaaaRows
import Derived.WalkKit
import Derived.ProofKit
import Derived.OpenShut
import Derived.SizedLaws
import Derived.WalkSpells
import Derived.WalkLawsBesides
import Derived.Handy
import Derived.Deep.QuietTactic
import Derived.BigQuiet
import Derived.Lib.Hide
import Derived.Maps.AppendAt
import Derived.Deep.AppendLies
import Derived.RegionTactic
import Derived.OwnWalk
import Derived.ChangeKeysEq
import Derived.Laws.Tables
import Derived.Deep.MidRow
import Derived.StillTailTactics
import Derived.OrdersHeld
import Derived.Deep.RegionHeld3
import Derived.Laws.IdiomCopy
import Derived.Laws.BitsAllLaws
import Derived.Scope
import Derived.Test.YtkjlafpafmihaaaG1b3f031f3838
import Derived.Test.YtkjlafpafmihaaaG3d3d00a3ec74
import Derived.Test.YtkjlafpafmihaaaG6e4e01390dbc
import Derived.Test.YtkjlafpafmihaaaG7513e187c541
import Derived.Test.YtkjlafpafmihaaaGa09fbd9efb78
import Derived.Test.YtkjlafpafmihaaaGa90ca60c6bbf
import Derived.Test.YtkjlafpafmihaaaGb48b52f65941
import Derived.Test.YtkjlafpafmihaaaGc7b9dc944e44
import Derived.Test.YtkjlafpafmihaaaGc7e713607da7
import Derived.Test.YtkjlafpafmihaaaGf662d898f049
set_option linter.unusedVariables false
set_option linter.unusedSimpArgs false

namespace Go.Proofs.Ytkjlafpafmihaaa
open Go.ChangeShapes Go.WideShapes Go.ChangeAt Go.RowKit
section
variable {P : Program} {N : Nat} {l : Slots} {w w' w0 : World} {B : Nat} {fs fs' : List Fact} {ops : Array Oper} {o : Oper} {rest : List Oper} {Q : Exit → Act → World → Prop} {v : Value}
def setL : List Value → Nat → List Value → List Value
  | xs, _, [] => xs
  | xs, k, v :: vs => setL (xs.set k v) (k + 1) vs
theorem setAll_setL : ∀ (vs : List Value) (cur : Array Value) (k : Nat), (setAll cur k vs).toList = setL cur.toList k vs
  | [], _, _ => rfl
  | v :: vs, cur, k => by rw [setAll, setL, setAll_setL vs, Array.toList_setIfInBounds]
theorem setL_take (m : Nat) : ∀ (vs xs : List Value) (k : Nat), (setL xs k vs).take m = setL (xs.take m) k vs
  | [], _, _ => rfl
  | v :: vs, xs, k => by rw [setL, setL, setL_take m vs, List.take_set]
theorem setL_length : ∀ (vs xs : List Value) (k : Nat), (setL xs k vs).length = xs.length
  | [], _, _ => rfl
  | v :: vs, xs, k => by rw [setL, setL_length vs, List.length_set]
theorem own_put {e : TypeId} {s g n c k : Nat} {xs : List Value} (h : w.ownsRow B e s (.slice (some ⟨g, 0, none⟩) n c) n xs) (cs : List Value) : (w.setCells g k cs).ownsRow B e s (.slice (some ⟨g, 0, none⟩) n c) n (setL xs k cs) := by
  obtain ⟨hl, h | ⟨g', cap, cur, hv, hg, hh, hn, hc, hsz, ht⟩⟩ := h
  · exact absurd h.1 (by simp)
  injection hv with h1 h2 h3
  injection h1 with h1
  injection h1 with h1 h4 h5
  subst h1
  subst h3
  have hb : Blk w g cur e := ⟨hh⟩
  have hb' := blk_setCells cs k hb
  refine ⟨by rw [setL_length]; exact hl, .inr ⟨g, c, setAll cur k cs, rfl, hg, hb'.blk, hn, hc, by rw [setAll_size]; exact hsz, ?_⟩⟩
  rw [setAll_setL, setL_take, ht]
theorem St.ownPut {e : TypeId} {s g n c k : Nat} {xs : List Value} (i : Nat) (S : St B w0 w fs) (hi : fs[i]? = some (.own e s (.slice (some ⟨g, 0, none⟩) n c) n xs)) (cs : List Value) : St B w0 (w.setCells g k cs) (fs.set i (.own e s (.slice (some ⟨g, 0, none⟩) n c) n (setL xs k cs))) :=
  St.reown i S hi (upd_setCells g cs k w) (own_put (S.own i hi) cs)
theorem St.ownThere {e : TypeId} {s g n c k m : Nat} {xs : List Value} (i : Nat) (S : St B w0 w fs) (hi : fs[i]? = some (.own e s (.slice (some ⟨g, 0, none⟩) n c) n xs)) (hk : k + m ≤ n * s) : w.there g k m := fun j hj => by
  obtain ⟨hl, h | ⟨g', cap, cur, hv, hg, hh, hn, hc, hsz, ht⟩⟩ := S.own i hi
  · exact absurd h.1 (by simp)
  injection hv with h1 h2 h3
  injection h1 with h1
  injection h1 with h1 h4 h5
  subst h1
  subst h3
  have hle : n * s ≤ c * s := Nat.mul_le_mul_right s hn
  have hlt : k + j < cur.size := by rw [hsz]; omega
  have hb : Blk w g cur e := ⟨hh⟩
  exact ⟨by rw [hb.cell (k := k + j) (Array.getElem?_eq_getElem hlt)]; rfl, hb.free _⟩
/-- Cells of such a row are written. -/
theorem wL_stOwn {ty e : TypeId} {x y : Operand} {s g n c k m : Nat} {cs : Array Value} {xs xs' : List Value} (i : Nat) (S : St B w0 w fs) (hw : Wanted N ops l o true) (hd : o.dst = none) (ho : o.op = .store ty x y) (hx : ev l x = some (.pointer (some ⟨g, k, none⟩))) (hy : ev l y = some v)
    (hi : fs[i]? = some (.own e s (.slice (some ⟨g, 0, none⟩) n c) n xs)) (hv : v.cells = cs) (hz : (P.info? ty).map (·.size) = some m) (hm : cs.size = m) (h1 : ∀ u ∈ cs.toList, u.oneCell' = true) (hk : k + m ≤ n * s) (hxs : setL xs k cs.toList = xs')
    (h : ∀ w', St B w0 w' (fs.set i (.own e s (.slice (some ⟨g, 0, none⟩) n c) n xs')) → wL P N ops Q rest l w') : wL P N ops Q (o :: rest) l w := by
  subst hxs
  exact wL_eff hw hd (f_store ho hx hy (r_store hv hz hm h1 (S.ownThere i hi hk))) (h _ (S.ownPut i hi cs.toList))
/-- A cell of a row that is known as a function. -/
theorem wL_stAt {ty t : TypeId} {x y : Operand} {b k : Nat} {u : Value} {row row' : Array Value} (i : Nat) (S : St B w0 w fs) (hw : Wanted N ops l o true) (hd : o.dst = none) (ho : o.op = .store ty x y) (hx : ev l x = some (.pointer (some ⟨b, k, none⟩))) (hy : ev l y = some v)
    (hi : fs[i]? = some (.blk b row t)) (hv : v.cells = #[u]) (hz : (P.info? ty).map (·.size) = some 1) (h1 : u.oneCell' = true) (hk : k < row.size) (hrow : row.setIfInBounds k u = row')
    (h : ∀ w', St B w0 w' (fs.set i (.blk b row' t)) → wL P N ops Q rest l w') : wL P N ops Q (o :: rest) l w := by
  refine wL_st i S hw hd ho hx hy hi hv hz rfl (by simpa using h1) (by omega) (row' := row') ?_ rfl h
  subst hrow
  rfl
end
section
variable {P : Program} {N : Nat} {l : Slots} {w : World} {Q : Exit → Act → World → Prop}
theorem wC_scope {c : Code} (h : wC P N c (Exit.noGoto Q) l w) : wC P N (.scope c) Q l w := fun a F => wp_scope_straight (h a F)
theorem wQ_scope_ret (h : wQ N Q .ret l w) : wQ N (Exit.noGoto Q) .ret l w := h
end
/-- A row of truths. -/
def boRow (f : Nat → Bool) (m : Nat) : Array Value := ((List.range m).map fun j => Value.bool (f j)).toArray
theorem boRow_size (f : Nat → Bool) (m : Nat) : (boRow f m).size = m := by simp [boRow]
theorem boRow_get (f : Nat → Bool) {m j : Nat} (h : j < m) : (boRow f m)[j]? = some (.bool (f j)) := by simp [boRow, h]
theorem boRow_set (f : Nat → Bool) {m j : Nat} : (boRow f m).setIfInBounds j (.bool true) = boRow (fun i => decide (i = j) || f i) m := by
  apply Array.ext
  · simp [boRow]
  · intro i h1 h2
    rw [Array.getElem_setIfInBounds (by simpa using h1)]
    by_cases hij : j = i
    · subst hij; simp [boRow]
    · rw [if_neg hij]
      have hij' : ¬ i = j := fun h => hij h.symm
      simp [boRow, hij']
theorem boRow_made (m : Nat) : madeCells (Value.bool false).cells (m * 1) = boRow (fun _ => false) m := by
  apply Array.ext_getElem?
  intro i
  by_cases hi : i < m
  · simp [madeCells, boRow, hi, Value.cells, Nat.mod_one]
  · simp [madeCells, boRow, hi]
end Go.Proofs.Ytkjlafpafmihaaa

namespace Go.Proofs.Ytkjlafpafmihaaa

/-- What is known of the loads in every round. -/
structure NowOk (m : Nat) (now : List Ld) : Prop where
  len : now.length ≤ 4
  each : ∀ x ∈ now, (0 ≤ x.work ∧ x.work ≤ 1073741824) ∧ (0 ≤ x.node ∧ x.node < m) ∧ 0 ≤ x.queue ∧ x.queue < 4
  inj : ∀ (i j : Nat) (x y : Ld), now[i]? = some x → now[j]? = some y → x.queue = y.queue → i = j
theorem prevQ_mono {nodes : Int} {l : List Ld} (h : ldsOk nodes l) : ∀ (k : Nat) (i : Nat) (x y : Ld), i < k → l[i]? = some x → l[k]? = some y → x.queue < y.queue
  | 0, _, _, _, hi, _, _ => absurd hi (Nat.not_lt_zero _)
  | k + 1, i, x, y, hi, hx, hy => by
    have hk : k < l.length := by have := (List.getElem?_eq_some_iff.1 hy).1; omega
    have hz : l[k]? = some l[k] := List.getElem?_eq_getElem hk
    have h1 := (h (k + 1) y hy).1
    rw [prevQ_succ hz] at h1
    rcases Nat.lt_succ_iff_lt_or_eq.1 hi with h2 | h2
    · exact Int.lt_trans (prevQ_mono h k i x _ h2 hx hz) h1
    · subst h2
      rw [hz] at hx
      cases hx
      exact h1
theorem NowOk.start {nodes : Int} {l : List Ld} (h : ldsOk nodes l) (hn : 1 ≤ nodes) : NowOk nodes.toNat l where
  len := ldsOk_len h
  each := fun x hx => by
    obtain ⟨k, hk, rfl⟩ := List.getElem_of_mem hx
    have hz : l[k]? = some l[k] := List.getElem?_eq_getElem hk
    have h1 := ldsOk_queue h k _ hz
    have h2 := h k _ hz
    unfold ldOk at h2
    omega
  inj := fun i j x y hx hy e => by
    rcases Nat.lt_trichotomy i j with h1 | h1 | h1
    · have := prevQ_mono h j i x y h1 hx hy; omega
    · exact h1
    · have := prevQ_mono h i j y x h1 hy hx; omega
theorem moveLd_get {now : List Ld} {b to i : Nat} : (moveLd now b to)[i]? = (now[i]?).map fun x => if b = i then { x with node := (to : Int) } else x := by
  unfold moveLd
  rw [List.getElem?_modify]
  cases now[i]? with
  | none => rfl
  | some x => by_cases h : b = i <;> simp [h]
theorem moveLd_len {now : List Ld} {b to : Nat} : (moveLd now b to).length = now.length := by simp [moveLd]
theorem NowOk.move {m : Nat} {now : List Ld} {b to : Nat} (h : NowOk m now) (ht : to < m) : NowOk m (moveLd now b to) where
  len := by rw [moveLd_len]; exact h.len
  each := fun x hx => by
    obtain ⟨k, hk, rfl⟩ := List.getElem_of_mem hx
    have hz := List.getElem?_eq_getElem hk
    rw [moveLd_get] at hz
    rw [moveLd_len] at hk
    rw [List.getElem?_eq_getElem hk] at hz
    simp only [Option.map_some, Option.some.injEq] at hz
    have h1 := h.each _ (List.getElem_mem hk)
    rw [← hz]
    by_cases hb : b = k
    · rw [if_pos hb]
      refine ⟨h1.1, ⟨?_, ?_⟩, h1.2.2⟩ <;> dsimp only <;> omega
    · rw [if_neg hb]
      exact h1
  inj := fun i j x y hx hy e => by
    rw [moveLd_get] at hx hy
    obtain ⟨x0, hx0, rfl⟩ := Option.map_eq_some_iff.1 hx
    obtain ⟨y0, hy0, rfl⟩ := Option.map_eq_some_iff.1 hy
    refine h.inj i j x0 y0 hx0 hy0 ?_
    have : ∀ (z : Ld) (b i : Nat), (if b = i then ({ z with node := (to : Int) } : Ld) else z).queue = z.queue := fun z b i => by split <;> rfl
    rw [this, this] at e
    exact e
theorem moveLd_cells {now : List Ld} {b to : Nat} : setL (recCells now) (b * 3 + 1) [.int .i64 to] = recCells (moveLd now b to) := by
  show (recCells now).set (b * 3 + 1) _ = _
  unfold moveLd
  induction now generalizing b with
  | nil => simp [recCells]
  | cons x xs ih =>
    cases b with
    | zero => rfl
    | succ b =>
      have e : (b + 1) * 3 + 1 = b * 3 + 1 + 1 + 1 + 1 := by omega
      rw [e]
      show (_ :: _ :: _ :: (recCells xs)).set _ _ = _
      rw [List.set_cons_succ, List.set_cons_succ, List.set_cons_succ, ih]
      rfl
section
variable {m k : Nat} {now : List Ld} {gone : Nat → Bool} {b : Nat}
theorem bal_none (h : bestOf m now gone = none) : balGo m (k + 1) now gone = [] := by rw [balGo, h]
theorem bal_some (h : bestOf m now gone = some b) : balGo m (k + 1) now gone = ⟨queueOf now b, frOf m now, toOf m now⟩ :: balGo m k (moveLd now b (toOf m now)) (fun j => decide (j = b) || gone j) := by rw [balGo, h]
theorem best_lt (h : bestOf m now gone = some b) : b < now.length := by
  have := bestTo_spec (wants now gone (frOf m now) (gapOf m now)) (workOf now) now.length
  unfold bestOf at h
  rw [h] at this
  exact this.2.1
theorem workOf_at {x : Ld} {i : Nat} (h : now[i]? = some x) : workOf now i = x.work := by unfold workOf; rw [h]
theorem queueOf_at {x : Ld} {i : Nat} (h : now[i]? = some x) : queueOf now i = x.queue := by unfold queueOf; rw [h]
theorem wants_at {x : Ld} {i fr : Nat} {gap : Int} (h : now[i]? = some x) : wants now gone fr gap i = (!gone i && decide (x.node = fr ∧ x.work ≠ 0 ∧ x.work < gap)) := by unfold wants; rw [h]
theorem bestTo_no {C : Nat → Bool} {f : Nat → Int} {i : Nat} (h : C i = false) : bestTo C f (i + 1) = bestTo C f i := by rw [bestTo, if_neg (by simp [h])]
theorem bestTo_new {C : Nat → Bool} {f : Nat → Int} {i : Nat} (h : C i = true) (hb : bestTo C f i = none) : bestTo C f (i + 1) = some i := by rw [bestTo, if_pos h, hb]
theorem bestTo_more {C : Nat → Bool} {f : Nat → Int} {i : Nat} (h : C i = true) (hb : bestTo C f i = some b) (hf : f b < f i) : bestTo C f (i + 1) = some i := by rw [bestTo, if_pos h, hb]; exact if_pos hf
theorem bestTo_stay {C : Nat → Bool} {f : Nat → Int} {i : Nat} (h : C i = true) (hb : bestTo C f i = some b) (hf : ¬ f b < f i) : bestTo C f (i + 1) = some b := by rw [bestTo, if_pos h, hb]; exact if_neg hf
theorem bestTo_lt {C : Nat → Bool} {f : Nat → Int} {i : Nat} (hb : bestTo C f i = some b) : b < i := by have := bestTo_spec C f i; rw [hb] at this; exact this.2.1
end
/-- gone by the load's place, and by its queue. -/
def Both (now : List Ld) (gone moved : Nat → Bool) : Prop := ∀ (i : Nat) (x : Ld), now[i]? = some x → moved x.queue.toNat = gone i
theorem Both.move {m : Nat} {now : List Ld} {gone moved : Nat → Bool} {b to : Nat} {y : Ld} (h : Both now gone moved) (hk : NowOk m now) (hy : now[b]? = some y) : Both (moveLd now b to) (fun j => decide (j = b) || gone j) (fun j => decide (j = y.queue.toNat) || moved j) := fun i x hx => by
  rw [moveLd_get] at hx
  obtain ⟨x0, hx0, rfl⟩ := Option.map_eq_some_iff.1 hx
  have hq : ∀ (z : Ld) (b i : Nat), (if b = i then ({ z with node := (to : Int) } : Ld) else z).queue = z.queue := fun z b i => by split <;> rfl
  rw [hq]
  dsimp only
  rw [h i x0 hx0]
  congr 1
  have h1 := (hk.each x0 (List.mem_of_getElem? hx0)).2.2
  have h2 := (hk.each y (List.mem_of_getElem? hy)).2.2
  by_cases e : i = b
  · subst e
    rw [hy] at hx0
    cases hx0
    simp
  · have : x0.queue.toNat ≠ y.queue.toNat := fun e2 => e (hk.inj i b x0 y hx0 hy (by omega))
    simp [e, this]
end Go.Proofs.Ytkjlafpafmihaaa

namespace Go.Proofs.Ytkjlafpafmihaaa
open Go.ChangeShapes Go.WideShapes Go.RowKit

def Ld.cells (x : Ld) : List Value := [.int .i64 x.queue, .int .i64 x.node, .int .i64 x.work]
theorem lds_one (l : List Ld) : ∀ u ∈ l.flatMap Ld.cells, u.oneCell' = true := recCells_one l
section
variable {P : Program} {w w' w0 : World} {B : Nat} {fs : List Fact}
theorem St.onBlk {b : Nat} {row : Array Value} {t : TypeId} (S : St B w0 w fs) (hb : Below w.heap.size w w') (hge : w.heap.size ≤ b) (hk : Blk w' b row t) : St B w0 w' (.blk b row t :: fs) := by
  refine (S.on hb).cons ⟨Nat.le_trans S.base hge, hk⟩ fun k hk i g hg e => ?_
  cases hk
  have := (Fact.foot_lt (S.all i g hg) e).2
  omega
theorem r_index1 {t e : TypeId} {b n c : Nat} {i : Int} {kd : IntKind} (k : Nat) (hu : P.underlying t = some (.slice e)) (hz : (P.info? e).map (·.size) = some 1) (hik : i = k) (hk : k < n) :
    (Instr.indexAt t (.slice (some ⟨b, 0, none⟩) n c) (.int kd i)).run P w = .ok (.pointer (some ⟨b, k, none⟩)) w := by
  have := r_indexAddr (w := w) (b := b) (off := 0) (c := c) (kd := kd) k hu hz hik hk
  rwa [Nat.mul_one, Nat.zero_add] at this
end
def BalPost (w : World) (r : List Pln × Int) (e : Ending) (w' : World) : Prop := ∃ A c, e = .returned (.tuple #[.slice A r.1.length c, .int .i64 r.2]) ∧ St w.heap.size w w' [.rdo 3 A r.1.length (r.1.flatMap Pln.cells)]
theorem bools_make (n : Nat) (hn : n ≤ 4) (w : World) : (Instr.makeSlice 156 (.int .i64 (n : Int)) (.int .i64 (n : Int))).run Try.prog w = .ok (.slice (some ⟨w.heap.size, 0, none⟩) n n) (w.alloc (.cells (boRow (fun _ => false) n) 4)) := by
  obtain ⟨i0, hi0, hz0, hz1, hz2⟩ := info_parts (P := Try.prog) (e := 4) (z := .bool false) (size := 1) (bytes := 1) (by kernel_rfl)
  have := run_makeSlice (P := Try.prog) w 156 4 i0 _ Try.underlying156 hi0 hz0 .i64 .i64 (n : Int) (n : Int) (by omega) (by omega) (by rw [hz1]; omega) (by rw [hz2]; omega) (by omega)
  rw [this, hz1, Int.toNat_natCast, boRow_made]

theorem ld_info : (Try.prog.info? 162).map (fun i => (i.zero, i.size, i.bytes)) = some (some (.agg #[.int .i64 0, .int .i64 0, .int .i64 0]), 3, 24) := by kernel_rfl
set_option maxHeartbeats 400000 in
theorem loads_calls (A : Option Addr) (n c : Nat) (l : List Ld) (w : World) (h : Rd w w.heap.size 3 A n (recCells l)) (hc : n * 24 ≤ reachBytes) :
    Calls Try.prog 35 #[.slice A n c] w (OwnPost w 162 3 n (recCells l)) := by
  have hc' : n * 24 ≤ 140737488351232 := hc
  obtain ⟨i0, hi0, hz0, hz1, hz2⟩ := info_parts ld_info
  go_enter Try.func35, Try.ntmps35
  go_wp2_with (at_builtin; refine wpList_append_any _ rfl (.const (.slice none 0 0)) (.tmp 3) _ rfl w.heap.size 162 i0 _ 3 24 Try.underlying42 hi0 hz0 hz1 hz2 rfl (by omega) (.slice none 0 0) 0 [] rfl (ownsRow_nil_ _ _ _ _) w.heap.size A n c (recCells l) rfl h (recCells_one l) (by simp only [maxLen]; omega) (by omega) (Nat.le_refl _) ?_; intro v1 w1 hown1 hg1 hat1)
  go_ret
  obtain ⟨A1, c1, rfl, _⟩ := own_form hown1
  simp only [Nat.zero_add, List.nil_append] at hown1 ⊢
  exact ⟨A1, c1, rfl, (Below.refl _ _).grown hg1 (Nat.le_refl _) (by simp [Value.ownBlock]), hown1⟩

theorem flat_loads : flat Try.prog 30 42 = some [.sl 24 [.int .i64, .int .i64, .int .i64]] := by kernel_rfl
set_option maxRecDepth 100000 in
theorem arg_loads {W : World} {v : Value} (h : ArgOk Try.prog W v 42) : ∃ A n c, ∃ l : List Ld, v = .slice A n c ∧ Rd W W.heap.size 3 A n (recCells l) ∧ n ≤ c ∧ c ≤ maxLen ∧ c * 24 ≤ reachBytes ∧ (A = none → c = 0) := by
  obtain ⟨⟨base, hk⟩, l, hl, ha⟩ := h
  rw [flat_loads] at hl
  cases hl
  obtain ⟨A, n, c, rfl⟩ := okWide_slice Try.underlying42 hk
  obtain ⟨a, l1, e, h1, _⟩ := All2.cons_ ha
  simp [Value.cells] at e
  obtain ⟨rfl, _⟩ := e
  obtain ⟨A', n', c', l, e, hr, hn, hc, hb, h0⟩ := open_recs (α := Ld) h1
  simp only [Value.slice.injEq] at e
  obtain ⟨rfl, rfl, rfl⟩ := e
  exact ⟨A, n, c, l, rfl, hr, hn, hc, hb, h0⟩
end Go.Proofs.Ytkjlafpafmihaaa

