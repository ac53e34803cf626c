/- Parts of proofs: lemmas on memory, on single functions and on the plain models; no condition of their own. -/
import Derived.Test.YtkjlafpafmihaaaRows
import Derived.WalkKit
import Derived.ProofKit
import Derived.OpenShut
import Derived.SizedLaws
import Derived.WalkSpells
import Derived.WalkLawsBesides
import Derived.Handy
import Derived.Deep.QuietTactic
import Derived.BigQuiet
import Derived.Lib.Hide
import Derived.Maps.AppendAt
import Derived.Deep.AppendLies
import Derived.RegionTactic
import Derived.OwnWalk
import Derived.Laws.Tables
import Derived.Deep.MidRow
import Derived.StillTailTactics
import Derived.OrdersHeld
import Derived.Deep.RegionHeld3
import Derived.Laws.IdiomCopy
import Derived.ChangeKeysEq
import Derived.Laws.BitsAllLaws
import Derived.Scope
import Derived.Test.YtkjlafpafmihaaaG411632d36699
import Derived.Test.YtkjlafpafmihaaaG48f6c12ab48d
import Derived.Test.YtkjlafpafmihaaaG4eaabf97d977
import Derived.Test.YtkjlafpafmihaaaG570539d87647
import Derived.Test.YtkjlafpafmihaaaG76ddf6bdedad
import Derived.Test.YtkjlafpafmihaaaG924ec51911fe
import Derived.Test.YtkjlafpafmihaaaGc8683f30ddc5
import Derived.Test.YtkjlafpafmihaaaGf03ab8b1ffd4
import Derived.Test.YtkjlafpafmihaaaGfa570c25a005
set_option linter.unusedVariables false
set_option linter.unusedSimpArgs false

namespace Go.Proofs.Ytkjlafpafmihaaa
open Go.ChangeShapes Go.WideShapes Go.ChangeAt Go.RowKit
section
variable {P : Program} {N : Nat} {l : Slots} {w w' w0 : World} {B : Nat} {fs fs' : List Fact} {ops : Array Oper} {o : Oper} {rest : List Oper} {Q : Exit → Act → World → Prop} {v : Value}
def setL : List Value → Nat → List Value → List Value
  | xs, _, [] => xs
  | xs, k, v :: vs => setL (xs.set k v) (k + 1) vs
theorem setAll_setL : ∀ (vs : List Value) (cur : Array Value) (k : Nat), (setAll cur k vs).toList = setL cur.toList k vs
  | [], _, _ => rfl
  | v :: vs, cur, k => by rw [setAll, setL, setAll_setL vs, Array.toList_setIfInBounds]
theorem setL_take (m : Nat) : ∀ (vs xs : List Value) (k : Nat), (setL xs k vs).take m = setL (xs.take m) k vs
  | [], _, _ => rfl
  | v :: vs, xs, k => by rw [setL, setL, setL_take m vs, List.take_set]
theorem setL_length : ∀ (vs xs : List Value) (k : Nat), (setL xs k vs).length = xs.length
  | [], _, _ => rfl
  | v :: vs, xs, k => by rw [setL, setL_length vs, List.length_set]
theorem own_put {e : TypeId} {s g n c k : Nat} {xs : List Value} (h : w.ownsRow B e s (.slice (some ⟨g, 0, none⟩) n c) n xs) (cs : List Value) : (w.setCells g k cs).ownsRow B e s (.slice (some ⟨g, 0, none⟩) n c) n (setL xs k cs) := by
  obtain ⟨hl, h | ⟨g', cap, cur, hv, hg, hh, hn, hc, hsz, ht⟩⟩ := h
  · exact absurd h.1 (by simp)
  injection hv with h1 h2 h3
  injection h1 with h1
  injection h1 with h1 h4 h5
  subst h1
  subst h3
  have hb : Blk w g cur e := ⟨hh⟩
  have hb' := blk_setCells cs k hb
  refine ⟨by rw [setL_length]; exact hl, .inr ⟨g, c, setAll cur k cs, rfl, hg, hb'.blk, hn, hc, by rw [setAll_size]; exact hsz, ?_⟩⟩
  rw [setAll_setL, setL_take, ht]
theorem St.ownPut {e : TypeId} {s g n c k : Nat} {xs : List Value} (i : Nat) (S : St B w0 w fs) (hi : fs[i]? = some (.own e s (.slice (some ⟨g, 0, none⟩) n c) n xs)) (cs : List Value) : St B w0 (w.setCells g k cs) (fs.set i (.own e s (.slice (some ⟨g, 0, none⟩) n c) n (setL xs k cs))) :=
  St.reown i S hi (upd_setCells g cs k w) (own_put (S.own i hi) cs)
theorem St.ownThere {e : TypeId} {s g n c k m : Nat} {xs : List Value} (i : Nat) (S : St B w0 w fs) (hi : fs[i]? = some (.own e s (.slice (some ⟨g, 0, none⟩) n c) n xs)) (hk : k + m ≤ n * s) : w.there g k m := fun j hj => by
  obtain ⟨hl, h | ⟨g', cap, cur, hv, hg, hh, hn, hc, hsz, ht⟩⟩ := S.own i hi
  · exact absurd h.1 (by simp)
  injection hv with h1 h2 h3
  injection h1 with h1
  injection h1 with h1 h4 h5
  subst h1
  subst h3
  have hle : n * s ≤ c * s := Nat.mul_le_mul_right s hn
  have hlt : k + j < cur.size := by rw [hsz]; omega
  have hb : Blk w g cur e := ⟨hh⟩
  exact ⟨by rw [hb.cell (k := k + j) (Array.getElem?_eq_getElem hlt)]; rfl, hb.free _⟩
/-- Cells of such a row are written. -/
theorem wL_stOwn {ty e : TypeId} {x y : Operand} {s g n c k m : Nat} {cs : Array Value} {xs xs' : List Value} (i : Nat) (S : St B w0 w fs) (hw : Wanted N ops l o true) (hd : o.dst = none) (ho : o.op = .store ty x y) (hx : ev l x = some (.pointer (some ⟨g, k, none⟩))) (hy : ev l y = some v)
    (hi : fs[i]? = some (.own e s (.slice (some ⟨g, 0, none⟩) n c) n xs)) (hv : v.cells = cs) (hz : (P.info? ty).map (·.size) = some m) (hm : cs.size = m) (h1 : ∀ u ∈ cs.toList, u.oneCell' = true) (hk : k + m ≤ n * s) (hxs : setL xs k cs.toList = xs')
    (h : ∀ w', St B w0 w' (fs.set i (.own e s (.slice (some ⟨g, 0, none⟩) n c) n xs')) → wL P N ops Q rest l w') : wL P N ops Q (o :: rest) l w := by
  subst hxs
  exact wL_eff hw hd (f_store ho hx hy (r_store hv hz hm h1 (S.ownThere i hi hk))) (h _ (S.ownPut i hi cs.toList))
end
end Go.Proofs.Ytkjlafpafmihaaa

