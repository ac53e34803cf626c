/- Parts of proofs: lemmas on memory, on single functions and on the plain models; no condition of their own. -/
import Derived.Test.YtkjlafpafmihaaaRows
import Derived.WalkKit
import Derived.ProofKit
import Derived.OpenShut
import Derived.SizedLaws
import Derived.WalkSpells
import Derived.WalkLawsBesides
import Derived.Handy
import Derived.Deep.QuietTactic
import Derived.BigQuiet
import Derived.Lib.Hide
import Derived.Maps.AppendAt
import Derived.Deep.AppendLies
import Derived.RegionTactic
import Derived.OwnWalk
import Derived.ChangeKeysEq
import Derived.Deep.RegionHeld3
import Derived.Deep.DeepCutAuto
import Derived.Deep.CutRange
import Derived.Test.YtkjlafpafmihaaaG37e7b647d51a
import Derived.Test.YtkjlafpafmihaaaGe8bce0846ba6
set_option linter.unusedVariables false
set_option linter.unusedSimpArgs false

namespace Go.Proofs.Ytkjlafpafmihaaa
open Go.ChangeShapes Go.WideShapes Go.RowKit

structure TB (w : World) (T : Int) (bs : List Bool) (row : Array Value) (b2 : Nat) (wr : World) : Prop where
  below : Below w.heap.size w wr
  arg : Blk wr w.heap.size row 26
  res : Blk wr (w.heap.size + 1) #[.int .i64 0, .bool false, .bool false, .bool false, .bool false, .bool false, .bool false, .bool false, .bool false] 26
  out : Blk wr b2 (winRow T bs) 26

theorem winRow_set (T : Int) (bs : List Bool) (j : Nat) : (winRow T bs).setIfInBounds (1 + j) (.bool true) = winRow T (bs.set j true) := by
  simp [winRow, Nat.add_comm 1 j, List.map_set]
theorem TB.on {w wr wx : World} {T : Int} {bs : List Bool} {row : Array Value} {b2 : Nat} (h : TB w T bs row b2 wr) (hb : Below wr.heap.size wr wx) : TB w T bs row b2 wx :=
  ⟨h.below.trans (hb.mono h.below.size), h.arg.on hb, h.res.on hb, h.out.on hb⟩
theorem TB.set_ {w wr : World} {T : Int} {bs : List Bool} {row : Array Value} {b2 : Nat} (h : TB w T bs row b2 wr) (hb : w.heap.size + 1 < b2) (j : Nat) : TB w T (bs.set j true) row b2 (wr.setCell ⟨b2, 1 + j, none⟩ (.bool true)) :=
  ⟨h.below.setCell (by simp; omega) _, h.arg.other _ (by simp; omega) _, h.res.other _ (by simp; omega) _, (h.out.set_ _ _).cast (winRow_set _ _ _)⟩

end Go.Proofs.Ytkjlafpafmihaaa

