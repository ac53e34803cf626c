/- THE LAW 'berthshiftlaw.WindowTakes', CLOSED: for every argument that can be read the law returns true, and each argument reads behind the call as before. No condition. -/
import Derived.Test.YtidmifejdbgngaaWindowTakes
namespace Go.Proofs.Ytidmifejdbgngaa
open Go.ChangeShapes Go.WideShapes Go.ChangeAt Go.RowKit

theorem windowTakes_own : ownKnob Try.prog.godebug = none := by kernel_rfl

set_option maxRecDepth 100000 in
theorem windowTakes_lifted (os : Os) (started : os.Started) (H : Type) (enc : TypeId × Value → H) :
    ReturnsInHanded {} Try.checked os 4 .any (Rows.windowTakesSpec.pre6 enc Try.prog Try.f4 Rows.windowTakesRow.domain false) (Rows.windowTakesSpec.post enc Try.prog Try.f4 false true false false) := by
  refine returnsInHanded_of_change_sized (C := Try.checked) windowTakes_own started (by kernel_rfl) Try.func4
    (ChangeSpec.witness6 (enc := enc) (C := Try.checked) false ⟨#[], #[.agg #[.int .i64 0, .bool false, .bool false, .bool false, .bool false, .bool false, .bool false, .bool false, .bool false], .int .i64 0], []⟩ 8 (by kernel_rfl) (by kernel_rfl) (by kernel_rfl) (by kernel_rfl)) ?_
  intro W base args ds gs before hval hW _ hz _
  refine law_contract (bt := 4) (by kernel_rfl) rfl (by kernel_rfl) Try.underlying4 ?_ windowTakes_walk W base args ds gs before hval hW hz
  intro ds hd
  rw [show Try.f4.params.toList.length = 2 from by kernel_rfl] at hd
  match ds, hd with
  | [d1, d2], _ => rfl

theorem windowTakes_holds : Rows.WindowTakesSaid :=
  OpenClaim.holds_of_wide 4 Try.f4 rfl rfl rfl rfl rfl rfl rfl ⟨rfl, rfl, rfl, rfl, rfl⟩ rfl rfl rfl rfl rfl (by kernel_rfl) Try.func4 (by kernel_rfl)
    (of_decide_eq_true (by kernel_rfl)) (by unfold Func.isWrapper; rw [if_neg (of_decide_eq_false (by kernel_rfl))]; exact ⟨rfl, rfl⟩)
    (fun os started H enc _ => windowTakes_lifted os started H enc)
#print axioms windowTakes_holds
end Go.Proofs.Ytidmifejdbgngaa
