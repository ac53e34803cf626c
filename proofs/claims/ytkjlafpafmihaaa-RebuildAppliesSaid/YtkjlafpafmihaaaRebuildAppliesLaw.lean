/- THE LAW 'berthshiftlaw.RebuildApplies', CLOSED: for every argument that can be read the law returns true, and each argument reads behind the call as before. No condition. -/
import Derived.Test.YtkjlafpafmihaaaGa89c1a6f9966
import Derived.Test.YtkjlafpafmihaaaGbf5a28a4d639
import Derived.Test.YtkjlafpafmihaaaG51bc7a4c2f69
import Derived.Test.YtkjlafpafmihaaaG85a0215ba59f
import Derived.Test.YtkjlafpafmihaaaG8138349259ef
import Derived.Test.YtkjlafpafmihaaaG008eda5d140b
import Derived.Test.YtkjlafpafmihaaaG23f212047170
import Derived.Test.YtkjlafpafmihaaaGa9e5bd365df0
import Derived.Test.YtkjlafpafmihaaaG990d8978b6d7
import Derived.Test.YtkjlafpafmihaaaGbe1dc8af744f
import Derived.Test.YtkjlafpafmihaaaG2640f2d3e359
import Derived.Test.YtkjlafpafmihaaaG54e97f07cb45
import Derived.Test.YtkjlafpafmihaaaG0870bcdd5b8d
set_option linter.unusedVariables false
set_option linter.unusedSimpArgs false
namespace Go.Proofs.Ytkjlafpafmihaaa
open Go.ChangeShapes Go.WideShapes Go.ChangeAt Go.RowKit

theorem rebuildApplies_own : ownKnob Try.prog.godebug = none := by kernel_rfl

set_option maxRecDepth 100000 in
theorem rebuildApplies_lifted (os : Os) (started : os.Started) (H : Type) (enc : TypeId × Value → H) :
    ReturnsInHanded {} Try.checked os 28 .any (Rows.rebuildAppliesSpec.pre6 enc Try.prog Try.f28 Rows.rebuildAppliesRow.domain false) (Rows.rebuildAppliesSpec.post enc Try.prog Try.f28 false true false false) := by
  refine returnsInHanded_of_change_sized (C := Try.checked) rebuildApplies_own started (by kernel_rfl) Try.func28
    (ChangeSpec.witness6 (enc := enc) (C := Try.checked) false ⟨#[], #[.agg #[.int .i64 0, .int .i64 0, .int .i64 0, .int .i64 0, .int .i64 0, .slice none 0 0], .agg #[.int .i64 0, .int .i64 0, .int .i64 0, .int .i64 0, .int .i64 0, .int .i64 0, .int .i64 0, .int .i64 0, .int .i64 0, .int .i64 0]], []⟩ 8 (by kernel_rfl) (by kernel_rfl) (by kernel_rfl) (by kernel_rfl)) ?_
  intro W base args ds gs before hval hW _ hz _
  refine law_contract (bt := 4) (by kernel_rfl) rfl (by kernel_rfl) Try.underlying4 ?_ rebuildApplies_walk W base args ds gs before hval hW hz
  intro ds hd
  rw [show Try.f28.params.toList.length = 2 from by kernel_rfl] at hd
  match ds, hd with
  | [d1, d2], _ => rfl

theorem rebuildApplies_head : headFacts Try.prog 28 Try.f28 Rows.rebuildAppliesSpec Rows.rebuildAppliesRow = true := by kernel_rfl
theorem rebuildApplies_holds : Rows.RebuildAppliesSaid :=
  OpenClaim.holds_of_wide 28 Try.f28 rfl rfl rfl rfl rfl rfl rfl ⟨rfl, rfl, rfl, rfl, rfl⟩ rfl rfl rfl rfl rfl (by kernel_rfl) Try.func28 (joined_of rebuildApplies_head prog_enter prog_lifts prog_make (by kernel_rfl))
    (of_decide_eq_true (by kernel_rfl)) (by unfold Func.isWrapper; rw [if_neg (of_decide_eq_false (by kernel_rfl))]; exact ⟨rfl, rfl⟩)
    (fun os started H enc _ => rebuildApplies_lifted os started H enc)
#print axioms rebuildApplies_holds
end Go.Proofs.Ytkjlafpafmihaaa
