/- Parts of proofs: lemmas on memory, on single functions and on the plain models; no condition of their own. -/
import Derived.Test.YtkjlafpafmihaaaRows
import Derived.WalkKit
import Derived.ProofKit
import Derived.OpenShut
import Derived.SizedLaws
import Derived.WalkSpells
import Derived.WalkLawsBesides
import Derived.Handy
import Derived.Deep.QuietTactic
import Derived.BigQuiet
import Derived.Lib.Hide
import Derived.Maps.AppendAt
import Derived.Deep.AppendLies
import Derived.RegionTactic
import Derived.OwnWalk
import Derived.Laws.Tables
import Derived.Deep.MidRow
import Derived.StillTailTactics
import Derived.OrdersHeld
import Derived.Deep.RegionHeld3
import Derived.Laws.IdiomCopy
import Derived.ChangeKeysEq
import Derived.Test.YtkjlafpafmihaaaG012fdae3a27b
import Derived.Test.YtkjlafpafmihaaaG106a6d0673e2
import Derived.Test.YtkjlafpafmihaaaG191435b3f518
import Derived.Test.YtkjlafpafmihaaaG37e7b647d51a
import Derived.Test.YtkjlafpafmihaaaG460d813e1877
import Derived.Test.YtkjlafpafmihaaaG5048191d089e
import Derived.Test.YtkjlafpafmihaaaGa54395e311fb
import Derived.Test.YtkjlafpafmihaaaGaa2045d604a6
import Derived.Test.YtkjlafpafmihaaaGaa2c3092d2b5
import Derived.Test.YtkjlafpafmihaaaGe29d7414e059
set_option linter.unusedVariables false
set_option linter.unusedSimpArgs false

namespace Go.Proofs.Ytkjlafpafmihaaa
open Go.ChangeShapes Go.WideShapes Go.ChangeAt Go.RowKit

section
variable {P : Program} {N : Nat} {l l' : Slots} {a : Act} {w w' w0 : World} {B : Nat} {fs fs' : List Fact} {ops : Array Oper} {o : Oper} {rest : List Oper} {Q : Exit → Act → World → Prop} {v u p : Value} {d : Nat}

/-- append onto a row of the call's own. -/
theorem wL_append {x y : Operand} {t e : TypeId} {z : Value} {size bytes n m c Br : Nat} {A : Option Addr} {xs news xs' : List Value} {sv : Value} (i : Nat) (S : St B w0 w fs) (hw : Wanted N ops l o true) (hd : o.dst = some d) (hN : Nat.blt d N = true)
    (ho : o.op = .call { callee := .builtin .append, args := #[x, y], argTypes := #[t, t] }) (hx : ev l x = some sv) (hy : ev l y = some (.slice A m c)) (hi : fs[i]? = some (.own e size sv n xs)) (hr : Rd w Br size A m news)
    (ht : P.underlying t = some (.slice e)) (hinf : (P.info? e).map (fun i => (i.zero, i.size, i.bytes)) = some (some z, size, bytes)) (hzs : z.cells.size = size) (hsz : 0 < size) (h1 : ∀ u ∈ news, u.oneCell' = true) (h63 : n + m ≤ maxLen) (hbytes : (n + m) * bytes ≤ 140737488355328)
    (hxs : xs ++ news = xs') (h : ∀ A' c' w', n + m ≤ c' → c' ≤ maxLen → St B w0 w' (fs.set i (.own e size (.slice A' (n + m) c') (n + m) xs')) → wL P N ops Q rest ((d, .slice A' (n + m) c') :: l) w') : wL P N ops Q (o :: rest) l w := by
  subst hxs
  obtain ⟨j0, hj0, hz, hs, hb⟩ := info_parts hinf
  obtain ⟨v', w', hrun, h2, h3, h4⟩ := run_append_any (P := P) w B t o.type e j0 z size bytes ht hj0 hz hs hb hzs hsz sv n xs (S.own i hi) Br A m c news hr h1 h63 hbytes S.base
  obtain ⟨A', c', rfl, hc1, hc2⟩ := own_form h2
  exact wL_to hw hd hN (d_builtin (xs := [x, y]) (vs := [sv, .slice A m c]) ho ⟨hx, hy, trivial⟩ (fun cs => by simp [builtin, hrun, Sem.run_bind, Result.andThen])) (h A' c' w' hc1 hc2 (S.append i hi h3 h2 h4))
theorem sub_get {L cs : List Value} {x m : Nat} (h : (L.drop x).take m = cs) : ∀ (j : Nat) (u : Value), cs[j]? = some u → L[x + j]? = some u := by
  intro j u hu
  subst h
  have hj : j < m := by
    have := (List.getElem?_eq_some_iff.1 hu).1
    rw [List.length_take] at this
    omega
  rw [List.getElem?_take_of_lt hj, List.getElem?_drop] at hu
  exact hu
theorem sub_row {row : Array Value} {cs : List Value} {x m : Nat} (h : (row.toList.drop x).take m = cs) : ∀ (j : Nat) (u : Value), cs[j]? = some u → row[x + j]? = some u := by
  intro j u hu
  have := sub_get h j u hu
  simpa using this
end
end Go.Proofs.Ytkjlafpafmihaaa

