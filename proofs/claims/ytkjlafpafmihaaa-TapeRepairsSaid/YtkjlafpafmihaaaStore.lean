/- A WHOLE STRUCT STORED INTO A BLOCK THAT IS KNOWN WHOLE: one step, the world behind it a letter. No program in sight. -/
import Derived.Test.YtkjlafpafmihaaaBlk
import Derived.Test.YtkjlafpafmihaaaApp
import Derived.Laws.Tables
namespace Go.Proofs.Ytkjlafpafmihaaa
open Go.ChangeShapes Go.WideShapes Go.ChangeAt Go.RowKit

/-- To stand still at an operation: the walk stops at a hidden goal. -/
theorem stop_ {p : Prop} (h : Hid p) : p := h.out

/-- Block g alone was written; nothing is new. -/
structure Upd (w : World) (g : Nat) (w' : World) : Prop where
  os : w'.os = w.os
  tape : w'.tape = w.tape
  output : w'.output = w.output
  size : w'.heap.size = w.heap.size
  block : ∀ k, k ≠ g → w'.heap[k]? = w.heap[k]?

section
variable {w w' a : World} {g B : Nat}
theorem Upd.below (h : Upd w g w') (hB : B ≤ g) : Below B w w' := ⟨h.os, h.tape, h.output, Nat.le_of_eq h.size.symm, fun k hk => h.block k (by omega)⟩
theorem Upd.next (h : Upd w g w') (hb : Below B a w) (hB : B ≤ g) : Below B a w' := hb.trans (h.below hB)
theorem Upd.blk {b : Nat} {row : Array Value} {t : TypeId} (h : Upd w g w') (hb : Blk w b row t) (hne : b ≠ g) : Blk w' b row t := ⟨(h.block b hne).trans hb.blk⟩
theorem Upd.own {base : Nat} {e : TypeId} {size : Nat} {v : Value} {n : Nat} {xs : List Value} (h : Upd w g w') (ho : w.ownsRow base e size v n xs) (hne : ∀ k, v.ownBlock = some k → k ≠ g) : w'.ownsRow base e size v n xs := by
  obtain ⟨h1, h2⟩ := ho
  refine ⟨h1, ?_⟩
  rcases h2 with h2 | ⟨k, cap, cur, hv, hk, hh, r⟩
  · exact .inl h2
  · exact .inr ⟨k, cap, cur, hv, hk, (h.block k (hne k (by rw [hv]; rfl))).trans hh, r⟩
theorem Upd.ownBelow {base : Nat} {e : TypeId} {size : Nat} {v : Value} {n : Nat} {xs : List Value} (h : Upd w g w') (ho : w.ownsRow base e size v n xs) (hg : g < base) : w'.ownsRow base e size v n xs :=
  h.own ho (fun k hk => by have := ho.own_lt k hk; omega)
theorem Upd.rd {size n : Nat} {A : Option Addr} {xs : List Value} (h : Upd w g w') (hr : Rd w B size A n xs) (hB : B ≤ g) : Rd w' B size A n xs := hr.below (h.below hB) (Nat.le_refl _)
theorem own_size {base : Nat} {e : TypeId} {size : Nat} {v : Value} {n : Nat} {xs : List Value} (h : w.ownsRow base e size v n xs) (k : Nat) (hk : v.ownBlock = some k) : k < w.heap.size := by
  rcases h.2 with ⟨rfl, _⟩ | ⟨g', cap, cur, rfl, _, hh, _⟩
  · simp [Value.ownBlock] at hk
  · simp [Value.ownBlock] at hk
    subst hk
    rcases Nat.lt_or_ge g' w.heap.size with h | h
    · exact h
    · rw [Array.getElem?_eq_none h] at hh; cases hh
theorem own_drew {base : Nat} {e : TypeId} {size : Nat} {v : Value} {n : Nat} {xs : List Value} (h : w.ownsRow base e size v n xs) : w.drew.ownsRow base e size v n xs := h
theorem upd_setCell (w : World) (a : Addr) (u : Value) : Upd w a.block (w.setCell a u) := by
  refine ⟨rfl, rfl, rfl, by simp [World.setCell], fun k hk => ?_⟩
  exact Below.heap_setCell _ _ _ _ hk
theorem upd_cell (w : World) (g k : Nat) (u : Value) : Upd w g (w.setCell ⟨g, k, none⟩ u) := upd_setCell w ⟨g, k, none⟩ u
theorem upd_drew0 (w : World) (g : Nat) : Upd w g w.drew := ⟨rfl, rfl, rfl, rfl, fun _ _ => rfl⟩
theorem upd_drew {w w' : World} {g : Nat} (h : Upd w g w') : Upd w g w'.drew := ⟨h.os, h.tape, h.output, h.size, h.block⟩
theorem Upd.trans {w w' w'' : World} {g : Nat} (h : Upd w g w') (h' : Upd w' g w'') : Upd w g w'' := ⟨h'.os.trans h.os, h'.tape.trans h.tape, h'.output.trans h.output, h'.size.trans h.size, fun k hk => (h'.block k hk).trans (h.block k hk)⟩
theorem upd_setRow (w : World) (g : Nat) (cs : Array Value) : Upd w g (w.setRow g cs) := by
  refine ⟨rfl, rfl, rfl, by simp, fun k hk => ?_⟩
  simp only [World.setRow, Array.getElem?_modify]
  rw [if_neg (by omega)]
end

section
variable {P : Program}
theorem wp_store_row {o : Oper} {a : Act} {w : World} {K : Act → World → Prop} {Q : Exit → Act → World → Prop} (ty : TypeId) (x y : Operand) (ho : o.op = .store ty x y)
    (g : Nat) (hx : a.eval x = .pointer (some ⟨g, 0, none⟩)) (cs : Array Value) (hy : a.eval y = .agg cs) (t : TypeId) (cur : Array Value) (hg : Blk w g cur t)
    (hi : (P.info? ty).map (·.size) = some cs.size) (hs : cur.size = cs.size) (h1 : cs.toList.all (·.oneCell') = true)
    (h : ∀ w', Blk w' g cs t → Upd w g w' → K (a.put o.dst undef) w') : o.wp P a w K Q := by
  have h1 : cs.all (·.oneCell') = true := by simpa using h1
  have hk := h (w.setRow g cs) ⟨setRow_heap w g cur cs t (0, 0) hg.blk⟩ (upd_setRow w g cs)
  unfold Oper.wp execOp
  simp only [ho, hx, hy, Instr.storeAt, Instr.sureAddr, Sem.run_bind, Sem.run_pure, Result.andThen_ok, run_storeVar_row w g t ty cur cs hg.blk hi hs h1]
  exact hk
theorem step_store_row {ops : Array Oper} {o : Oper} {a : Act} {w : World} {K : Act → World → Prop} {Q : Exit → Act → World → Prop} {E : Prop} (hgd : o.guard = none) (ty : TypeId) (x y : Operand) (ho : o.op = .store ty x y)
    (g : Nat) (hx : a.eval x = .pointer (some ⟨g, 0, none⟩)) (cs : Array Value) (hy : a.eval y = .agg cs) (t : TypeId) (cur : Array Value) (hg : Blk w g cur t)
    (hi : (P.info? ty).map (·.size) = some cs.size) (hs : cur.size = cs.size) (h1 : cs.toList.all (·.oneCell') = true)
    (h : ∀ w', Blk w' g cs t → Upd w g w' → K (a.put o.dst undef) w') : if Region.wanted o (yielded ops a.tmps) = true then Oper.wp P o a w K Q else E := by
  rw [if_pos (by simp [Region.wanted, hgd])]
  exact wp_store_row ty x y ho g hx cs hy t cur hg hi hs h1 h
theorem wpList_store_row {ops : Array Oper} {rest : List Oper} {o : Oper} {a : Act} {w : World} {Q : Exit → Act → World → Prop} (hgd : o.guard = none) (ty : TypeId) (x y : Operand) (ho : o.op = .store ty x y)
    (g : Nat) (hx : a.eval x = .pointer (some ⟨g, 0, none⟩)) (cs : Array Value) (hy : a.eval y = .agg cs) (t : TypeId) (cur : Array Value) (hg : Blk w g cur t)
    (hi : (P.info? ty).map (·.size) = some cs.size) (hs : cur.size = cs.size) (h1 : cs.toList.all (·.oneCell') = true)
    (h : ∀ w', Blk w' g cs t → Upd w g w' → wpList P ops Q rest (a.put o.dst undef) w') : wpList P ops Q (o :: rest) a w :=
  wpList_plain hgd fun _ hK => wp_store_row ty x y ho g hx cs hy t cur hg hi hs h1 (fun w' hb hu => hK _ _ (h w' hb hu))
end
end Go.Proofs.Ytkjlafpafmihaaa
