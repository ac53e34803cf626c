/- Parts of proofs: lemmas on memory, on single functions and on the plain models; no condition of their own. -/
import Derived.Test.YtkjlafpafmihaaaRows
import Derived.WalkKit
import Derived.ProofKit
import Derived.OpenShut
import Derived.SizedLaws
import Derived.WalkSpells
import Derived.WalkLawsBesides
import Derived.Handy
import Derived.Deep.QuietTactic
import Derived.BigQuiet
import Derived.Lib.Hide
import Derived.Maps.AppendAt
import Derived.Deep.AppendLies
import Derived.RegionTactic
import Derived.OwnWalk
import Derived.Laws.Tables
import Derived.Deep.MidRow
import Derived.StillTailTactics
import Derived.OrdersHeld
import Derived.Deep.RegionHeld3
import Derived.Laws.IdiomCopy
import Derived.ChangeKeysEq
import Derived.Laws.BitsAllLaws
import Derived.Deep.DeepCutAuto
import Derived.Deep.CutRange
import Derived.Scope
import Derived.Test.YtkjlafpafmihaaaG106a6d0673e2
import Derived.Test.YtkjlafpafmihaaaG191435b3f518
import Derived.Test.YtkjlafpafmihaaaG2304bc9cabd8
import Derived.Test.YtkjlafpafmihaaaG2345edf4eaef
import Derived.Test.YtkjlafpafmihaaaG37e7b647d51a
import Derived.Test.YtkjlafpafmihaaaG5048191d089e
import Derived.Test.YtkjlafpafmihaaaG878ee676a6ad
import Derived.Test.YtkjlafpafmihaaaGa1b4b7d9fd42
import Derived.Test.YtkjlafpafmihaaaGa54395e311fb
import Derived.Test.YtkjlafpafmihaaaGaa2045d604a6
import Derived.Test.YtkjlafpafmihaaaGbd4cc4649efe
import Derived.Test.YtkjlafpafmihaaaGe8bce0846ba6
set_option linter.unusedVariables false
set_option linter.unusedSimpArgs false

namespace Go.Proofs.Ytkjlafpafmihaaa
open Go.ChangeShapes Go.WideShapes Go.RowKit

set_option maxRecDepth 100000 in
set_option maxHeartbeats 2000000 in
theorem linesChecks_calls (x : Ac) (w : World) :
    Calls Try.prog 4 #[.agg #[.int .i64 x.kd, .int .i64 x.nd, .int .i64 x.qu, .int .i64 x.at_, .int .i64 x.kp, .int .i64 x.ek, .int .i64 x.ep, .int .i64 x.ei, .int .i64 x.eb, .int .i64 x.eh, .int .i64 x.en]] w (fun e w' => e = .returned (.bool true) ∧ Below w.heap.size w w') := by
 have S := St.start w
 refine fnw 12 Try.func4 ?_
 refine cw [0] ?_
 refine x_sr (nb (row := #[.int .i64 x.kd, .int .i64 x.nd, .int .i64 x.qu, .int .i64 x.at_, .int .i64 x.kp, .int .i64 x.ek, .int .i64 x.ep, .int .i64 x.ei, .int .i64 x.eb, .int .i64 x.eh, .int .i64 x.en]) S ?_); intro b1 w2 S3; clear S
 refine va ?_
 refine qk [1, 2] ?_
 refine x_tsr (vv (ylr 0 S3 Try.underlying39 inf39) ?_)
 refine cab en33 S3 (LCheck_calls x _) ?_; intro w4 S5; clear S3
 refine va ?_
 refine qk [1, 2, 3] ?_
 refine x_tsr (vv (ylr 0 S5 Try.underlying39 inf39) ?_)
 refine cab en34 S5 (ActFault_calls x _) ?_; intro w7 S8; clear S5
 refine va ?_
 refine qk [2, 3, 4] ?_
 refine x_tsr (vm ?_)
 refine vm ?_
 refine vv (yeqlT rfl) ?_
 refine va ?_
 refine qk [2] ?_
 refine x_te (pt ?_)
 exact ⟨rfl, S8.low⟩

set_option maxRecDepth 100000 in
theorem arg_act {W : World} {v : Value} (h : ArgOk Try.prog W v 39) : ∃ x : Ac, v = .agg x.cells.toArray := by
  obtain ⟨⟨base, hk⟩, l, hl, ha⟩ := h
  rw [flat_ac] at hl
  cases hl
  obtain ⟨cs, rfl, _⟩ := okWide_struct Try.underlying39 hk
  obtain ⟨a1, l1, e, ⟨m1, rfl, _⟩, h2⟩ := All2.cons_ ha
  obtain ⟨a2, l2, rfl, ⟨m2, rfl, _⟩, h3⟩ := All2.cons_ h2
  obtain ⟨a3, l3, rfl, ⟨m3, rfl, _⟩, h4⟩ := All2.cons_ h3
  obtain ⟨a4, l4, rfl, ⟨m4, rfl, _⟩, h5⟩ := All2.cons_ h4
  obtain ⟨a5, l5, rfl, ⟨m5, rfl, _⟩, h6⟩ := All2.cons_ h5
  obtain ⟨a6, l6, rfl, ⟨m6, rfl, _⟩, h7⟩ := All2.cons_ h6
  obtain ⟨a7, l7, rfl, ⟨m7, rfl, _⟩, h8⟩ := All2.cons_ h7
  obtain ⟨a8, l8, rfl, ⟨m8, rfl, _⟩, h9⟩ := All2.cons_ h8
  obtain ⟨a9, l9, rfl, ⟨m9, rfl, _⟩, h10⟩ := All2.cons_ h9
  obtain ⟨a10, l10, rfl, ⟨m10, rfl, _⟩, h11⟩ := All2.cons_ h10
  obtain ⟨a11, l11, rfl, ⟨m11, rfl, _⟩, h12⟩ := All2.cons_ h11
  have h13 := All2.nil_ h12
  subst h13
  refine ⟨⟨m1, m2, m3, m4, m5, m6, m7, m8, m9, m10, m11⟩, ?_⟩
  simp only [Value.cells] at e
  congr 1
  exact Array.toList_inj.1 e
theorem linesChecks_walk (W : World) (args : Array Value) (h : All2 (ArgOk Try.prog W) args.toList Try.f4.params.toList) :
    Calls Try.prog 4 args W fun e W' => e = .returned (.bool true) ∧ Below W.heap.size W W' := by
  rw [Try.params4] at h
  obtain ⟨v, l1, hv, h1, h0⟩ := All2.cons_ h
  have h4 := All2.nil_ h0
  subst h4
  obtain rfl : args = #[v] := by cases args; simp_all
  obtain ⟨x, rfl⟩ := arg_act h1
  exact linesChecks_calls x W
end Go.Proofs.Ytkjlafpafmihaaa

