/- THE LAW 'berthshiftlaw.PackDecodes', CLOSED: for every argument that can be read the law returns true, and each argument reads behind the call as before. No condition. -/
import Derived.Test.YtkjlafpafmihaaaPackDecodes
import Derived.Test.YtkjlafpafmihaaaHead
namespace Go.Proofs.Ytkjlafpafmihaaa
open Go.ChangeShapes Go.WideShapes Go.ChangeAt Go.RowKit

theorem packDecodes_own : ownKnob Try.prog.godebug = none := by kernel_rfl

set_option maxRecDepth 100000 in
theorem packDecodes_lifted (os : Os) (started : os.Started) (H : Type) (enc : TypeId × Value → H) :
    ReturnsInHanded {} Try.checked os 9 .any (Rows.packDecodesSpec.pre6 enc Try.prog Try.f9 Rows.packDecodesRow.domain false) (Rows.packDecodesSpec.post enc Try.prog Try.f9 false true false false) := by
  refine returnsInHanded_of_change_sized (C := Try.checked) packDecodes_own started (by kernel_rfl) Try.func9
    (ChangeSpec.witness6 (enc := enc) (C := Try.checked) false ⟨#[], #[.slice none 0 0], []⟩ 8 (by kernel_rfl) (by kernel_rfl) (by kernel_rfl) (by kernel_rfl)) ?_
  intro W base args ds gs before hval hW _ hz _
  refine law_contract (bt := 4) (by kernel_rfl) rfl (by kernel_rfl) Try.underlying4 ?_ packDecodes_walk W base args ds gs before hval hW hz
  intro ds hd
  rw [show Try.f9.params.toList.length = 1 from by kernel_rfl] at hd
  match ds, hd with
  | [d1], _ => rfl

theorem packDecodes_head : headFacts Try.prog 9 Try.f9 Rows.packDecodesSpec Rows.packDecodesRow = true := by kernel_rfl
theorem packDecodes_holds : Rows.PackDecodesSaid :=
  OpenClaim.holds_of_wide 9 Try.f9 rfl rfl rfl rfl rfl rfl rfl ⟨rfl, rfl, rfl, rfl, rfl⟩ rfl rfl rfl rfl rfl (by kernel_rfl) Try.func9 (joined_of packDecodes_head prog_enter prog_lifts prog_make (by kernel_rfl))
    (of_decide_eq_true (by kernel_rfl)) (by unfold Func.isWrapper; rw [if_neg (of_decide_eq_false (by kernel_rfl))]; exact ⟨rfl, rfl⟩)
    (fun os started H enc _ => packDecodes_lifted os started H enc)
#print axioms packDecodes_holds
end Go.Proofs.Ytkjlafpafmihaaa
