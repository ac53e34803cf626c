/- THE LAW 'berthshiftlaw.ClientSends', CLOSED: for every argument that can be read the law returns true, and each argument reads behind the call as before. No condition. -/
import Derived.Test.YtkjlafpafmihaaaClientSends
import Derived.Test.YtkjlafpafmihaaaHead
namespace Go.Proofs.Ytkjlafpafmihaaa
open Go.ChangeShapes Go.WideShapes Go.ChangeAt Go.RowKit

theorem clientSends_own : ownKnob Try.prog.godebug = none := by kernel_rfl

set_option maxRecDepth 100000 in
theorem clientSends_lifted (os : Os) (started : os.Started) (H : Type) (enc : TypeId × Value → H) :
    ReturnsInHanded {} Try.checked os 8 .any (Rows.clientSendsSpec.pre6 enc Try.prog Try.f8 Rows.clientSendsRow.domain false) (Rows.clientSendsSpec.post enc Try.prog Try.f8 false true false false) := by
  refine returnsInHanded_of_change_sized (C := Try.checked) clientSends_own started (by kernel_rfl) Try.func8
    (ChangeSpec.witness6 (enc := enc) (C := Try.checked) false ⟨#[], #[.agg #[.int .i64 0, .int .i64 0, .slice none 0 0, .int .i64 0, .int .i64 0, .int .i64 0, .int .i64 0], .int .i64 0], []⟩ 8 (by kernel_rfl) (by kernel_rfl) (by kernel_rfl) (by kernel_rfl)) ?_
  intro W base args ds gs before hval hW _ hz _
  refine law_contract (bt := 4) (by kernel_rfl) rfl (by kernel_rfl) Try.underlying4 ?_ clientSends_walk W base args ds gs before hval hW hz
  intro ds hd
  rw [show Try.f8.params.toList.length = 2 from by kernel_rfl] at hd
  match ds, hd with
  | [d1, d2], _ => rfl

theorem clientSends_head : headFacts Try.prog 8 Try.f8 Rows.clientSendsSpec Rows.clientSendsRow = true := by kernel_rfl
theorem clientSends_holds : Rows.ClientSendsSaid :=
  OpenClaim.holds_of_wide 8 Try.f8 rfl rfl rfl rfl rfl rfl rfl ⟨rfl, rfl, rfl, rfl, rfl⟩ rfl rfl rfl rfl rfl (by kernel_rfl) Try.func8 (joined_of clientSends_head prog_enter prog_lifts prog_make (by kernel_rfl))
    (of_decide_eq_true (by kernel_rfl)) (by unfold Func.isWrapper; rw [if_neg (of_decide_eq_false (by kernel_rfl))]; exact ⟨rfl, rfl⟩)
    (fun os started H enc _ => clientSends_lifted os started H enc)
#print axioms clientSends_holds
end Go.Proofs.Ytkjlafpafmihaaa
