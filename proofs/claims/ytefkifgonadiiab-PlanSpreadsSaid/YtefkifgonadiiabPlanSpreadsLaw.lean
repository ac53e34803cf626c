/- THE LAW 'berthshiftlaw.PlanSpreads', CLOSED: for every argument that can be read the law returns true, and each argument reads behind the call as before. No condition. -/
import Derived.Test.YtefkifgonadiiabPlanSpreads
namespace Go.Proofs.Ytefkifgonadiiab
open Go.ChangeShapes Go.WideShapes Go.ChangeAt Go.RowKit

theorem planSpreads_own : ownKnob Try.prog.godebug = none := by kernel_rfl

set_option maxRecDepth 100000 in
theorem planSpreads_lifted (os : Os) (started : os.Started) (H : Type) (enc : TypeId × Value → H) :
    ReturnsInHanded {} Try.checked os 5 .any (Rows.planSpreadsSpec.pre6 enc Try.prog Try.f5 Rows.planSpreadsRow.domain false) (Rows.planSpreadsSpec.post enc Try.prog Try.f5 false true false false) := by
  refine returnsInHanded_of_change_sized (C := Try.checked) planSpreads_own started (by kernel_rfl) Try.func5
    (ChangeSpec.witness6 (enc := enc) (C := Try.checked) false ⟨#[], #[.slice none 0 0, .int .i64 0], []⟩ 8 (by kernel_rfl) (by kernel_rfl) (by kernel_rfl) (by kernel_rfl)) ?_
  intro W base args ds gs before hval hW _ hz _
  refine law_contract (bt := 4) (by kernel_rfl) rfl (by kernel_rfl) Try.underlying4 ?_ planSpreads_walk W base args ds gs before hval hW hz
  intro ds hd
  rw [show Try.f5.params.toList.length = 2 from by kernel_rfl] at hd
  match ds, hd with
  | [d1, d2], _ => rfl

theorem planSpreads_holds : Rows.PlanSpreadsSaid :=
  OpenClaim.holds_of_wide 5 Try.f5 rfl rfl rfl rfl rfl rfl rfl ⟨rfl, rfl, rfl, rfl, rfl⟩ rfl rfl rfl rfl rfl (by kernel_rfl) Try.func5 (by kernel_rfl)
    (of_decide_eq_true (by kernel_rfl)) (by unfold Func.isWrapper; rw [if_neg (of_decide_eq_false (by kernel_rfl))]; exact ⟨rfl, rfl⟩)
    (fun os started H enc _ => planSpreads_lifted os started H enc)
#print axioms planSpreads_holds
end Go.Proofs.Ytefkifgonadiiab
