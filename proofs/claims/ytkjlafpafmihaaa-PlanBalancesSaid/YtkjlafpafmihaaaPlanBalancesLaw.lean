/- THE LAW 'berthshiftlaw.PlanBalances', CLOSED: for every argument that can be read the law returns true, and each argument reads behind the call as before. No condition. -/
import Derived.Test.YtkjlafpafmihaaaG3d3d00a3ec74
import Derived.Test.YtkjlafpafmihaaaGa09fbd9efb78
import Derived.Test.YtkjlafpafmihaaaG7513e187c541
import Derived.Test.YtkjlafpafmihaaaGc7e713607da7
import Derived.Test.YtkjlafpafmihaaaG94c6852e5657
import Derived.Test.YtkjlafpafmihaaaG1b3f031f3838
import Derived.Test.YtkjlafpafmihaaaGa90ca60c6bbf
import Derived.Test.YtkjlafpafmihaaaGb48b52f65941
import Derived.Test.YtkjlafpafmihaaaGc7b9dc944e44
import Derived.Test.YtkjlafpafmihaaaG0bca59653183
import Derived.Test.YtkjlafpafmihaaaGe0a7094eaa1d
import Derived.Test.YtkjlafpafmihaaaG0fbb77ee8a1f
import Derived.Test.YtkjlafpafmihaaaGdbb1fe0cffb8
set_option linter.unusedVariables false
set_option linter.unusedSimpArgs false
namespace Go.Proofs.Ytkjlafpafmihaaa
open Go.ChangeShapes Go.WideShapes Go.ChangeAt Go.RowKit

theorem planBalances_own : ownKnob Try.prog.godebug = none := by kernel_rfl

set_option maxRecDepth 100000 in
theorem planBalances_lifted (os : Os) (started : os.Started) (H : Type) (enc : TypeId × Value → H) :
    ReturnsInHanded {} Try.checked os 5 .any (Rows.planBalancesSpec.pre6 enc Try.prog Try.f5 Rows.planBalancesRow.domain false) (Rows.planBalancesSpec.post enc Try.prog Try.f5 false true false false) := by
  refine returnsInHanded_of_change_sized (C := Try.checked) planBalances_own started (by kernel_rfl) Try.func5
    (ChangeSpec.witness6 (enc := enc) (C := Try.checked) false ⟨#[], #[.slice none 0 0, .int .i64 0, .int .i64 0], []⟩ 8 (by kernel_rfl) (by kernel_rfl) (by kernel_rfl) (by kernel_rfl)) ?_
  intro W base args ds gs before hval hW _ hz _
  refine law_contract (bt := 4) (by kernel_rfl) rfl (by kernel_rfl) Try.underlying4 ?_ planBalances_walk W base args ds gs before hval hW hz
  intro ds hd
  rw [show Try.f5.params.toList.length = 3 from by kernel_rfl] at hd
  match ds, hd with
  | [d1, d2, d3], _ => rfl

theorem planBalances_head : headFacts Try.prog 5 Try.f5 Rows.planBalancesSpec Rows.planBalancesRow = true := by kernel_rfl
theorem planBalances_holds : Rows.PlanBalancesSaid :=
  OpenClaim.holds_of_wide 5 Try.f5 rfl rfl rfl rfl rfl rfl rfl ⟨rfl, rfl, rfl, rfl, rfl⟩ rfl rfl rfl rfl rfl (by kernel_rfl) Try.func5 (joined_of planBalances_head prog_enter prog_lifts prog_make (by kernel_rfl))
    (of_decide_eq_true (by kernel_rfl)) (by unfold Func.isWrapper; rw [if_neg (of_decide_eq_false (by kernel_rfl))]; exact ⟨rfl, rfl⟩)
    (fun os started H enc _ => planBalances_lifted os started H enc)
#print axioms planBalances_holds
end Go.Proofs.Ytkjlafpafmihaaa
