/- THE LAW 'berthshiftlaw.BerthImports', CLOSED in its second form: for arguments of bulk at most 1048576 the law returns true, and each argument reads behind the call as before. -/
import Derived.WalkKit
import Derived.ProofKit
import Derived.OpenShut
import Derived.Test.YtkjlafpafmihaaaG5a4470397ed8
import Derived.Test.YtkjlafpafmihaaaG53d9860cd554
import Derived.Test.YtkjlafpafmihaaaG90f7600ce72e
import Derived.Test.YtkjlafpafmihaaaGd7f7ec5356a9
import Derived.Test.YtkjlafpafmihaaaGdb62e807c2bc
import Derived.Test.YtkjlafpafmihaaaG6c7d926bdf1e
import Derived.Test.YtkjlafpafmihaaaGbea5e349a2aa
import Derived.Test.YtkjlafpafmihaaaG8c8ada4b342a
import Derived.Test.YtkjlafpafmihaaaG9b85a56455eb
import Derived.Test.YtkjlafpafmihaaaGcd1d2a0662d0
import Derived.Test.YtkjlafpafmihaaaGd5358a42e1a9
import Derived.Test.YtkjlafpafmihaaaGbd50cc92d178
import Derived.Test.YtkjlafpafmihaaaG278041bd426f
set_option linter.unusedVariables false
set_option linter.unusedSimpArgs false
namespace Go.Proofs.Ytkjlafpafmihaaa
open Go.ChangeShapes Go.WideShapes Go.ChangeAt Go.RowKit

theorem berthImports_own : ownKnob Try.prog.godebug = none := by kernel_rfl

set_option maxRecDepth 100000 in
theorem berthImports_lifted (os : Os) (started : os.Started) (H : Type) (enc : TypeId × Value → H) (F : Stop.Interp) :
    ReturnsInHanded {} Try.checked os 27 .any ((Rows.OpenSpec.upto Rows.berthImportsSpec).pre6 enc Try.prog Try.f27 Rows.berthImportsUptoRow.domain false) (((Rows.OpenSpec.upto Rows.berthImportsSpec).at F).post enc Try.prog Try.f27 false true false false) := by
  refine returnsInHanded_of_cond_sized (C := Try.checked) (s := Rows.OpenSpec.upto Rows.berthImportsSpec) (k := Rows.uptoSmall) rfl berthImports_own started (by kernel_rfl) Try.func27
    (OpenSpec.witness (enc := enc) (C := Try.checked) (s := Rows.OpenSpec.upto Rows.berthImportsSpec) (k := Rows.uptoSmall) rfl false ⟨#[], #[.agg #[.int .i64 0, .int .i64 0, .int .i64 0, .int .i64 0, .int .i64 0, .slice none 0 0], .int .i64 0, .int .i64 0, .slice none 0 0, .bool false], []⟩ 8 (by kernel_rfl) (by kernel_rfl) (by kernel_rfl)
      (x := ([.agg [.lit (.int .i64 0), .lit (.int .i64 0), .lit (.int .i64 0), .lit (.int .i64 0), .lit (.int .i64 0), .nil], .lit (.int .i64 0), .lit (.int .i64 0), .nil, .lit (.bool false)], [], [])) (by kernel_rfl) rfl (by kernel_rfl)) ?_
  intro W base args ds gs before hval hW _ hk hz _
  refine law_contract_at (s := Rows.berthImportsSpec) (bt := 4) (by kernel_rfl) rfl (by kernel_rfl) Try.underlying4 ?_ W base args ds gs before ?_ hval hW hz
  · intro ds hd
    rw [show Try.f27.params.toList.length = 5 from by kernel_rfl] at hd
    match ds, hd with
    | [d1, d2, d3, d4, d5], _ => rfl
  · intro p hg hA ha
    subst hg
    refine berthImports_walk W args ha (fun v0 v1 v2 A n c v4 hv => ?_)
    rw [Try.params27] at hA
    rw [List.append_nil] at hk
    replace hk : Rows.uptoBulkAll ds ≤ 1048576 := of_decide_eq_true hk
    rw [hv] at hA
    obtain ⟨u0, us0, d0, ds0, p0, q0, e0, rfl, rfl, _, hA⟩ := trodAll_cons hA
    obtain ⟨u1, us1, d1, ds1, p1, q1, e1, rfl, rfl, _, hA⟩ := trodAll_cons hA
    obtain ⟨u2, us2, d2, ds2, p2, q2, e2, rfl, rfl, _, hA⟩ := trodAll_cons hA
    simp only [List.cons.injEq] at e0
    obtain ⟨_, rfl⟩ := e0
    simp only [List.cons.injEq] at e1
    obtain ⟨_, rfl⟩ := e1
    simp only [List.cons.injEq] at e2
    obtain ⟨_, rfl⟩ := e2
    obtain ⟨u3, us3, d3, ds3, p3, q3, e3, rfl, rfl, h3, _⟩ := trodAll_cons hA
    simp only [List.cons.injEq] at e3
    obtain ⟨rfl, _⟩ := e3
    have hk3 : Rows.uptoBulkAll [d3] ≤ 1048576 := by simp only [Rows.uptoBulkAll] at hk ⊢; omega
    exact slice_small Try.underlying57 (trodAll_mk1 h3) hk3 A n c rfl

theorem berthImports_head : headFacts Try.prog 27 Try.f27 (Rows.OpenSpec.upto Rows.berthImportsSpec).bare Rows.berthImportsUptoRow = true := by kernel_rfl
theorem berthImportsUpto_holds : Rows.BerthImportsUptoSaid :=
  OpenClaim.holds_of_cond 27 Try.f27 rfl rfl rfl rfl rfl rfl rfl ⟨rfl, rfl, rfl, rfl, rfl⟩ rfl rfl rfl rfl rfl (by kernel_rfl) Try.func27 (joined_of berthImports_head prog_enter prog_lifts prog_make (by kernel_rfl))
    (of_decide_eq_true (by kernel_rfl)) (by unfold Func.isWrapper; rw [if_neg (of_decide_eq_false (by kernel_rfl))]; exact ⟨rfl, rfl⟩)
    (fun os started H enc _ F => berthImports_lifted os started H enc F)
#print axioms berthImportsUpto_holds
end Go.Proofs.Ytkjlafpafmihaaa
