/- THE LAW 'berthshiftlaw.LinesChecks', CLOSED: for every argument that can be read the law returns true, and each argument reads behind the call as before. No condition. -/
import Derived.Test.YtkjlafpafmihaaaG37e7b647d51a
import Derived.Test.YtkjlafpafmihaaaGa54395e311fb
import Derived.Test.YtkjlafpafmihaaaG191435b3f518
import Derived.Test.YtkjlafpafmihaaaGe8bce0846ba6
import Derived.Test.YtkjlafpafmihaaaGbd4cc4649efe
import Derived.Test.YtkjlafpafmihaaaG5048191d089e
import Derived.Test.YtkjlafpafmihaaaG106a6d0673e2
import Derived.Test.YtkjlafpafmihaaaGaa2045d604a6
import Derived.Test.YtkjlafpafmihaaaG878ee676a6ad
import Derived.Test.YtkjlafpafmihaaaG2345edf4eaef
import Derived.Test.YtkjlafpafmihaaaG59b6b310a0fc
set_option linter.unusedVariables false
set_option linter.unusedSimpArgs false
namespace Go.Proofs.Ytkjlafpafmihaaa
open Go.ChangeShapes Go.WideShapes Go.ChangeAt Go.RowKit

theorem linesChecks_own : ownKnob Try.prog.godebug = none := by kernel_rfl

set_option maxRecDepth 100000 in
theorem linesChecks_lifted (os : Os) (started : os.Started) (H : Type) (enc : TypeId × Value → H) :
    ReturnsInHanded {} Try.checked os 4 .any (Rows.linesChecksSpec.pre6 enc Try.prog Try.f4 Rows.linesChecksRow.domain false) (Rows.linesChecksSpec.post enc Try.prog Try.f4 false true false false) := by
  refine returnsInHanded_of_change_sized (C := Try.checked) linesChecks_own started (by kernel_rfl) Try.func4
    (ChangeSpec.witness6 (enc := enc) (C := Try.checked) false ⟨#[], #[.agg #[.int .i64 0, .int .i64 0, .int .i64 0, .int .i64 0, .int .i64 0, .int .i64 0, .int .i64 0, .int .i64 0, .int .i64 0, .int .i64 0, .int .i64 0]], []⟩ 8 (by kernel_rfl) (by kernel_rfl) (by kernel_rfl) (by kernel_rfl)) ?_
  intro W base args ds gs before hval hW _ hz _
  refine law_contract (bt := 4) (by kernel_rfl) rfl (by kernel_rfl) Try.underlying4 ?_ linesChecks_walk W base args ds gs before hval hW hz
  intro ds hd
  rw [show Try.f4.params.toList.length = 1 from by kernel_rfl] at hd
  match ds, hd with
  | [d1], _ => rfl

theorem linesChecks_head : headFacts Try.prog 4 Try.f4 Rows.linesChecksSpec Rows.linesChecksRow = true := by kernel_rfl
theorem linesChecks_holds : Rows.LinesChecksSaid :=
  OpenClaim.holds_of_wide 4 Try.f4 rfl rfl rfl rfl rfl rfl rfl ⟨rfl, rfl, rfl, rfl, rfl⟩ rfl rfl rfl rfl rfl (by kernel_rfl) Try.func4 (joined_of linesChecks_head prog_enter prog_lifts prog_make (by kernel_rfl))
    (of_decide_eq_true (by kernel_rfl)) (by unfold Func.isWrapper; rw [if_neg (of_decide_eq_false (by kernel_rfl))]; exact ⟨rfl, rfl⟩)
    (fun os started H enc _ => linesChecks_lifted os started H enc)
#print axioms linesChecks_holds
end Go.Proofs.Ytkjlafpafmihaaa
