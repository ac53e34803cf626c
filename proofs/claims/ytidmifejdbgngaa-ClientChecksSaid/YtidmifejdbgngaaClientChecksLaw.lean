/- THE LAW 'berthshiftlaw.ClientChecks', CLOSED: for every argument that can be read the law returns true, and each argument reads behind the call as before. No condition. -/
import Derived.Test.YtidmifejdbgngaaClientChecks
namespace Go.Proofs.Ytidmifejdbgngaa
open Go.ChangeShapes Go.WideShapes Go.ChangeAt Go.RowKit

theorem clientChecks_own : ownKnob Try.prog.godebug = none := by kernel_rfl

set_option maxRecDepth 100000 in
theorem clientChecks_lifted (os : Os) (started : os.Started) (H : Type) (enc : TypeId × Value → H) :
    ReturnsInHanded {} Try.checked os 3 .any (Rows.clientChecksSpec.pre6 enc Try.prog Try.f3 Rows.clientChecksRow.domain false) (Rows.clientChecksSpec.post enc Try.prog Try.f3 false true false false) := by
  refine returnsInHanded_of_change_sized (C := Try.checked) clientChecks_own started (by kernel_rfl) Try.func3
    (ChangeSpec.witness6 (enc := enc) (C := Try.checked) false ⟨#[], #[.agg #[.int .i64 0, .int .i64 0, .slice none 0 0, .int .i64 0, .int .i64 0, .int .i64 0, .int .i64 0]], []⟩ 8 (by kernel_rfl) (by kernel_rfl) (by kernel_rfl) (by kernel_rfl)) ?_
  intro W base args ds gs before hval hW _ hz _
  refine law_contract (bt := 4) (by kernel_rfl) rfl (by kernel_rfl) Try.underlying4 ?_ clientChecks_walk W base args ds gs before hval hW hz
  intro ds hd
  rw [show Try.f3.params.toList.length = 1 from by kernel_rfl] at hd
  match ds, hd with
  | [d1], _ => rfl

theorem clientChecks_holds : Rows.ClientChecksSaid :=
  OpenClaim.holds_of_wide 3 Try.f3 rfl rfl rfl rfl rfl rfl rfl ⟨rfl, rfl, rfl, rfl, rfl⟩ rfl rfl rfl rfl rfl (by kernel_rfl) Try.func3 (by kernel_rfl)
    (of_decide_eq_true (by kernel_rfl)) (by unfold Func.isWrapper; rw [if_neg (of_decide_eq_false (by kernel_rfl))]; exact ⟨rfl, rfl⟩)
    (fun os started H enc _ => clientChecks_lifted os started H enc)
#print axioms clientChecks_holds
end Go.Proofs.Ytidmifejdbgngaa
