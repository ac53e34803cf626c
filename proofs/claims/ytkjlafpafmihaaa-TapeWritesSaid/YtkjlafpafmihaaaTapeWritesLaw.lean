/- THE LAW 'berthshiftlaw.TapeWrites', CLOSED: for every argument that can be read the law returns true, and each argument reads behind the call as before. No condition. -/
import Derived.Test.YtkjlafpafmihaaaTapeWrites
import Derived.Test.YtkjlafpafmihaaaHead
namespace Go.Proofs.Ytkjlafpafmihaaa
open Go.ChangeShapes Go.WideShapes Go.ChangeAt Go.RowKit

theorem tapeWrites_own : ownKnob Try.prog.godebug = none := by kernel_rfl

set_option maxRecDepth 100000 in
theorem tapeWrites_lifted (os : Os) (started : os.Started) (H : Type) (enc : TypeId × Value → H) :
    ReturnsInHanded {} Try.checked os 12 .any (Rows.tapeWritesSpec.pre6 enc Try.prog Try.f12 Rows.tapeWritesRow.domain false) (Rows.tapeWritesSpec.post enc Try.prog Try.f12 false true false false) := by
  refine returnsInHanded_of_change_sized (C := Try.checked) tapeWrites_own started (by kernel_rfl) Try.func12
    (ChangeSpec.witness6 (enc := enc) (C := Try.checked) false ⟨#[], #[.agg #[.slice none 0 0, .int .i64 0], .agg #[.int .i64 0, .int .i64 0, .int .i64 0, .int .i64 0, .int .i64 0, .int .i64 0, .int .i64 0, .int .i64 0, .int .i64 0, .int .i64 0]], []⟩ 8 (by kernel_rfl) (by kernel_rfl) (by kernel_rfl) (by kernel_rfl)) ?_
  intro W base args ds gs before hval hW _ hz _
  refine law_contract (bt := 4) (by kernel_rfl) rfl (by kernel_rfl) Try.underlying4 ?_ tapeWrites_walk W base args ds gs before hval hW hz
  intro ds hd
  rw [show Try.f12.params.toList.length = 2 from by kernel_rfl] at hd
  match ds, hd with
  | [d1, d2], _ => rfl

theorem tapeWrites_head : headFacts Try.prog 12 Try.f12 Rows.tapeWritesSpec Rows.tapeWritesRow = true := by kernel_rfl
theorem tapeWrites_holds : Rows.TapeWritesSaid :=
  OpenClaim.holds_of_wide 12 Try.f12 rfl rfl rfl rfl rfl rfl rfl ⟨rfl, rfl, rfl, rfl, rfl⟩ rfl rfl rfl rfl rfl (by kernel_rfl) Try.func12 (joined_of tapeWrites_head prog_enter prog_lifts prog_make (by kernel_rfl))
    (of_decide_eq_true (by kernel_rfl)) (by unfold Func.isWrapper; rw [if_neg (of_decide_eq_false (by kernel_rfl))]; exact ⟨rfl, rfl⟩)
    (fun os started H enc _ => tapeWrites_lifted os started H enc)
#print axioms tapeWrites_holds
end Go.Proofs.Ytkjlafpafmihaaa
