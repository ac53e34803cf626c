/- THE LAW 'berthshiftlaw.QueueChecks', CLOSED: for every argument that can be read the law returns true, and each argument reads behind the call as before. No condition. -/
import Derived.Test.YtkjlafpafmihaaaQueueChecks
import Derived.Test.YtkjlafpafmihaaaHead
namespace Go.Proofs.Ytkjlafpafmihaaa
open Go.ChangeShapes Go.WideShapes Go.ChangeAt Go.RowKit

theorem queueChecks_own : ownKnob Try.prog.godebug = none := by kernel_rfl

set_option maxRecDepth 100000 in
theorem queueChecks_lifted (os : Os) (started : os.Started) (H : Type) (enc : TypeId × Value → H) :
    ReturnsInHanded {} Try.checked os 3 .any (Rows.queueChecksSpec.pre6 enc Try.prog Try.f3 Rows.queueChecksRow.domain false) (Rows.queueChecksSpec.post enc Try.prog Try.f3 false true false false) := by
  refine returnsInHanded_of_change_sized (C := Try.checked) queueChecks_own started (by kernel_rfl) Try.func3
    (ChangeSpec.witness6 (enc := enc) (C := Try.checked) false ⟨#[], #[.agg #[.int .i64 0, .int .i64 0, .int .i64 0, .slice none 0 0, .slice none 0 0, .int .i64 0, .bool false, .bool false, .bool false, .bool false, .bool false, .bool false, .bool false, .bool false, .int .i64 0, .bool false, .bool false, .bool false, .bool false, .bool false, .bool false, .bool false, .bool false, .int .i64 0, .bool false, .bool false, .bool false, .bool false, .bool false, .bool false, .bool false, .bool false, .int .i64 0, .bool false, .bool false, .bool false, .bool false, .bool false, .bool false, .bool false, .bool false]], []⟩ 8 (by kernel_rfl) (by kernel_rfl) (by kernel_rfl) (by kernel_rfl)) ?_
  intro W base args ds gs before hval hW _ hz _
  refine law_contract (bt := 4) (by kernel_rfl) rfl (by kernel_rfl) Try.underlying4 ?_ queueChecks_walk W base args ds gs before hval hW hz
  intro ds hd
  rw [show Try.f3.params.toList.length = 1 from by kernel_rfl] at hd
  match ds, hd with
  | [d1], _ => rfl

theorem queueChecks_head : headFacts Try.prog 3 Try.f3 Rows.queueChecksSpec Rows.queueChecksRow = true := by kernel_rfl
theorem queueChecks_holds : Rows.QueueChecksSaid :=
  OpenClaim.holds_of_wide 3 Try.f3 rfl rfl rfl rfl rfl rfl rfl ⟨rfl, rfl, rfl, rfl, rfl⟩ rfl rfl rfl rfl rfl (by kernel_rfl) Try.func3 (joined_of queueChecks_head prog_enter prog_lifts prog_make (by kernel_rfl))
    (of_decide_eq_true (by kernel_rfl)) (by unfold Func.isWrapper; rw [if_neg (of_decide_eq_false (by kernel_rfl))]; exact ⟨rfl, rfl⟩)
    (fun os started H enc _ => queueChecks_lifted os started H enc)
#print axioms queueChecks_holds
end Go.Proofs.Ytkjlafpafmihaaa
