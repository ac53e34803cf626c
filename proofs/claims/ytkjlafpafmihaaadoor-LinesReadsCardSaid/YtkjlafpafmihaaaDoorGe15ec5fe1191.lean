/- Parts of proofs: lemmas on memory, on single functions and on the plain models; no condition of their own. -/
import Derived.Test.YtkjlafpafmihaaaDoorRows
import Derived.WalkKit
import Derived.ProofKit
import Derived.OpenShut
import Derived.SizedLaws
import Derived.WalkSpells
import Derived.WalkLawsBesides
import Derived.Handy
import Derived.Deep.QuietTactic
import Derived.BigQuiet
import Derived.Lib.Hide
import Derived.Maps.AppendAt
import Derived.Deep.AppendLies
import Derived.RegionTactic
import Derived.OwnWalk
import Derived.Laws.Tables
import Derived.Deep.MidRow
import Derived.StillTailTactics
import Derived.OrdersHeld
import Derived.Deep.RegionHeld3
import Derived.Laws.IdiomCopy
import Derived.ChangeKeysEq
import Derived.Laws.BitsAllLaws
import Derived.Scope
import Derived.Lib.AppendStr
import Derived.Lib.ItoaLen
import Derived.Lib.BufferRead
import Derived.Laws.IdiomStrings
import Derived.Lib.Builder
import Derived.Shelf.Strings.Builder1
import Derived.Shelf.LaysM
import Derived.Shelf.Strconv.Itoa3
import Derived.Lib.ItoaMem
import Derived.Lib.AppendIntMem
import Derived.Lib.QuietBelow
import Derived.Test.YtkjlafpafmihaaaDoorCards
import Derived.Test.YtkjlafpafmihaaaDoorTie
import Derived.Deep.DeepHandedRow
import Derived.Lib.LaidTab
import Derived.Stop.LaidErr
import Derived.Shelf.Strings.Search1
import Derived.Shelf.Small.Strs
import Derived.Shelf.Strings.Prefix
import Derived.Shelf.Strings.SplitShaped
import Derived.Shelf.Strconv.AtoiAll
import Derived.Shelf.LaysC
import Derived.Lib.SplitLaws
import Derived.Lib.AtoiAllCases
import Derived.Lib.IndexLaws
import Derived.Laws.Strings2
import Derived.Laws.Strings3
import Derived.Laws.Slices
import Derived.RangeFuncIn
import Derived.RangeFuncLeaves
import Derived.RangeFuncRecord
import Derived.RangeFuncCalls
import Derived.OrdersIn
import Derived.Test.YtkjlafpafmihaaaDoorG173045c9580a
import Derived.Test.YtkjlafpafmihaaaDoorG3606cc3ac865
import Derived.Test.YtkjlafpafmihaaaDoorG56c47c18b150
import Derived.Test.YtkjlafpafmihaaaDoorG8853775e7979
import Derived.Test.YtkjlafpafmihaaaDoorGa19a187f21d0
import Derived.Test.YtkjlafpafmihaaaDoorGa487125d06f9
import Derived.Test.YtkjlafpafmihaaaDoorGa57fdb9d3cfe
import Derived.Test.YtkjlafpafmihaaaDoorGa6cfea583cdc
import Derived.Test.YtkjlafpafmihaaaDoorGab8ecdf11465
import Derived.Test.YtkjlafpafmihaaaDoorGc7cbbf584d5a
import Derived.Test.YtkjlafpafmihaaaDoorGc80458afdb4f
import Derived.Test.YtkjlafpafmihaaaDoorGc8b71f3bd5a6
import Derived.Test.YtkjlafpafmihaaaDoorGd3cfdc1357eb
import Derived.Test.YtkjlafpafmihaaaDoorGe57d517d0a67
import Derived.Test.YtkjlafpafmihaaaDoorGea90f12dfe92
import Derived.Test.YtkjlafpafmihaaaDoorGedcf6e6df767
import Derived.Test.YtkjlafpafmihaaaDoorGfe753c0b6274
set_option linter.unusedVariables false
set_option linter.unusedSimpArgs false

namespace Go.Proofs.YtkjlafpafmihaaaDoor
open Go.ChangeShapes Go.WideShapes Go.ChangeAt Go.RowKit

theorem laid_tabR {W : World} (h : laidMet Tryd.prog Rows.linesReadsRow.laid W) : TabB W := by
  have h3 := (show laidMet Tryd.prog (_ :: _ :: (powN, Lib.tabData .u64 Lib.pow10Tab) :: _) W from h).tail.tail
  exact Lib.tabBelow_of_tabIs (Lib.tabIs_of_head gPow gPowType tPowU Tryd.underlying89 (by kernel_rfl) (by kernel_rfl) h3)
theorem laid_iface {P : Program} {n nm : String} {d : DataW Unit} {r : List (String × DataW Unit)} {W : World} {g : Nat} {ti : TypeId} {ms : Array (String × TypeId)} (h : laidMet P ((n, .iface nm d) :: r) W)
    (hg : P.globalNamed n = some g) (ht : (P.globals[g]?).map (·.type) = some ti) (hi : P.underlying ti = some (.interface ms)) : ∃ u v, W.cell? ⟨g, 0, none⟩ = some (.iface u v) := by
  obtain ⟨ps, ⟨g0, t0, cs0, f0, p0, q0, hg0, ht0, hv0, hd0, _, e0⟩, _, hrows⟩ := h
  obtain rfl := Option.some.inj (hg.symm.trans hg0)
  obtain rfl := Option.some.inj (ht.symm.trans ht0)
  obtain ⟨l0⟩ := cs0
  obtain ⟨f1, u, v, hl, _⟩ := iface_of_trod hi hd0
  have hl2 : l0 = [.iface u v] := hl
  subst hl2
  exact ⟨u, v, by rw [World.var?_cell hg0 hv0 0]; rfl⟩
theorem laid_errR {W : World} (h : laidMet Tryd.prog Rows.linesReadsRow.laid W) : ErrVars W := by
  have h5 := (show laidMet Tryd.prog (_ :: _ :: _ :: _ :: (_, Rows.laid_strconv_ErrRange) :: (_, Rows.laid_strconv_ErrSyntax) :: _) W from h).tail.tail.tail.tail
  obtain ⟨u2, v2, e2⟩ := laid_iface (g := laysC172R.g 16) h5 (by kernel_rfl) (by kernel_rfl) Tryd.underlying44
  obtain ⟨u1, v1, e1⟩ := laid_iface (g := laysC172R.g 15) h5.tail (by kernel_rfl) (by kernel_rfl) Tryd.underlying44
  exact ⟨_, _, e1, .inr ⟨_, _, rfl⟩, e2, .inr ⟨_, _, rfl⟩⟩
def litVs2 : DataW Unit → Array Value
  | .agg l => (l.flatMap fun
    | .lit (.int k n) => [Value.int k n]
    | .agg m => m.filterMap fun
      | .lit (.int k n) => some (Value.int k n)
      | _ => none
    | _ => []).toArray
  | _ => #[]
def relaid2 (d : DataW Unit) : Obj → Obj
  | .cells _ t frozen => .cells (litVs2 d) t frozen
  | o => o
def errText : DataW Unit → List UInt8
  | .iface _ (.ptr (.agg [.lit (.string t)])) => t
  | _ => []
def reErr (b : Nat) : Obj → Obj
  | .cells _ t frozen => .cells #[.iface 111 (.pointer (some ⟨b, 0, none⟩))] t frozen
  | o => o
noncomputable def lowR : Nat := (World.holding Tryd.prog default ⟨#[], #[], []⟩).heap.size
/-- A WORLD FOR THE WITNESS: the settled one, the variables holding what their initialisers lay. -/
noncomputable def laidWorldR (os : Os) : World :=
  { World.holding Tryd.prog os ⟨#[.cells #[str (errText Rows.laid_strconv_ErrRange)] 113, .cells #[str (errText Rows.laid_strconv_ErrSyntax)] 113], #[], []⟩ with
    heap := (((((((World.holding Tryd.prog os ⟨#[.cells #[str (errText Rows.laid_strconv_ErrRange)] 113, .cells #[str (errText Rows.laid_strconv_ErrSyntax)] 113], #[], []⟩).heap.modify 3 (relaid2 Rows.laid_internal_strconv_uint64pow10)).modify 6 (relaid2 Rows.laid_math_bits_deBruijn32tab)).modify 7 (relaid2 Rows.laid_math_bits_deBruijn64tab)).modify 5 (relaid2 Rows.laid_unicode_utf8_acceptRanges)).modify 4 (relaid2 Rows.laid_unicode_utf8_first)).modify 2 (reErr lowR)).modify 1 (reErr (lowR + 1)) }
end Go.Proofs.YtkjlafpafmihaaaDoor

