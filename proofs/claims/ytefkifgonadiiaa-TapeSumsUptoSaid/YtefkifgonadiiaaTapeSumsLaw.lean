/- THE LAW 'berthshiftlaw.TapeSums', CLOSED in its second form: for bytes of bulk at most 1048576 the law returns true, and its argument reads behind the call as before. -/
import Derived.Test.YtefkifgonadiiaaTapeSums
import Derived.Test.YtefkifgonadiiaaUpto
import Derived.WalkKit
import Derived.ProofKit
import Derived.OpenShut
namespace Go.Proofs.Ytefkifgonadiiaa
open Go.ChangeShapes Go.WideShapes Go.ChangeAt Go.RowKit

theorem tapeSums_own : ownKnob Try.prog.godebug = none := by kernel_rfl

set_option maxRecDepth 100000 in
theorem tapeSums_lifted (os : Os) (started : os.Started) (H : Type) (enc : TypeId × Value → H) (F : Stop.Interp) :
    ReturnsInHanded {} Try.checked os 6 .any ((Rows.OpenSpec.upto Rows.tapeSumsSpec).pre6 enc Try.prog Try.f6 Rows.tapeSumsUptoRow.domain false) (((Rows.OpenSpec.upto Rows.tapeSumsSpec).at F).post enc Try.prog Try.f6 false true false false) := by
  refine returnsInHanded_of_cond_sized (C := Try.checked) (s := Rows.OpenSpec.upto Rows.tapeSumsSpec) (k := Rows.uptoSmall) rfl tapeSums_own started (by kernel_rfl) Try.func6
    (OpenSpec.witness (enc := enc) (C := Try.checked) (s := Rows.OpenSpec.upto Rows.tapeSumsSpec) (k := Rows.uptoSmall) rfl false ⟨#[], #[.slice none 0 0], []⟩ 8 (by kernel_rfl) (by kernel_rfl) (by kernel_rfl)
      (x := ([.nil], [], [])) (by kernel_rfl) rfl (by kernel_rfl)) ?_
  intro W base args ds gs before hval hW _ hk hz _
  refine law_contract_at (s := Rows.tapeSumsSpec) (bt := 4) (by kernel_rfl) rfl (by kernel_rfl) Try.underlying4 ?_ W base args ds gs before ?_ hval hW hz
  · intro ds hd
    rw [show Try.f6.params.toList.length = 1 from by kernel_rfl] at hd
    match ds, hd with
    | [d1], _ => rfl
  · intro p hg hA ha
    subst hg
    refine tapeSums_walk W args ha (fun A n c hv => ?_)
    rw [Try.params6] at hA
    rw [List.append_nil] at hk
    exact slice_small Try.underlying26 hA (of_decide_eq_true hk) A n c hv

theorem tapeSumsUpto_holds : Rows.TapeSumsUptoSaid :=
  OpenClaim.holds_of_cond 6 Try.f6 rfl rfl rfl rfl rfl rfl rfl ⟨rfl, rfl, rfl, rfl, rfl⟩ rfl rfl rfl rfl rfl (by kernel_rfl) Try.func6 (by kernel_rfl)
    (of_decide_eq_true (by kernel_rfl)) (by unfold Func.isWrapper; first | (rw [if_pos (by decide +kernel)]; kernel_rfl) | (rw [if_neg (by decide +kernel)]; exact ⟨rfl, rfl⟩))
    (fun os started H enc _ F => tapeSums_lifted os started H enc F)
#print axioms tapeSumsUpto_holds
end Go.Proofs.Ytefkifgonadiiaa
