/- THE LAW 'berthshiftlaw.PackChecks', CLOSED: for every argument that can be read the law returns true, and each argument reads behind the call as before. No condition. -/
import Derived.Test.YtefkifgonadiiaaPackChecks
namespace Go.Proofs.Ytefkifgonadiiaa
open Go.ChangeShapes Go.WideShapes Go.ChangeAt Go.RowKit

theorem packChecks_own : ownKnob Try.prog.godebug = none := by kernel_rfl

set_option maxRecDepth 100000 in
theorem packChecks_lifted (os : Os) (started : os.Started) (H : Type) (enc : TypeId × Value → H) :
    ReturnsInHanded {} Try.checked os 10 .any (Rows.packChecksSpec.pre6 enc Try.prog Try.f10 Rows.packChecksRow.domain false) (Rows.packChecksSpec.post enc Try.prog Try.f10 false true false false) := by
  refine returnsInHanded_of_change_sized (C := Try.checked) packChecks_own started (by kernel_rfl) Try.func10
    (ChangeSpec.witness6 (enc := enc) (C := Try.checked) false ⟨#[], #[.agg #[.int .i64 0, .int .i64 0, .int .i64 0, .int .i64 0, .int .i64 0, .int .i64 0]], []⟩ 8 (by kernel_rfl) (by kernel_rfl) (by kernel_rfl) (by kernel_rfl)) ?_
  intro W base args ds gs before hval hW _ hz _
  refine law_contract (bt := 4) (by kernel_rfl) rfl (by kernel_rfl) Try.underlying4 ?_ packChecks_walk W base args ds gs before hval hW hz
  intro ds hd
  rw [show Try.f10.params.toList.length = 1 from by kernel_rfl] at hd
  match ds, hd with
  | [d1], _ => rfl

theorem packChecks_holds : Rows.PackChecksSaid :=
  OpenClaim.holds_of_wide 10 Try.f10 rfl rfl rfl rfl rfl rfl rfl ⟨rfl, rfl, rfl, rfl, rfl⟩ rfl rfl rfl rfl rfl (by kernel_rfl) Try.func10 (by kernel_rfl)
    (of_decide_eq_true (by kernel_rfl)) (by unfold Func.isWrapper; rw [if_neg (of_decide_eq_false (by kernel_rfl))]; exact ⟨rfl, rfl⟩)
    (fun os started H enc _ => packChecks_lifted os started H enc)
#print axioms packChecks_holds
end Go.Proofs.Ytefkifgonadiiaa
