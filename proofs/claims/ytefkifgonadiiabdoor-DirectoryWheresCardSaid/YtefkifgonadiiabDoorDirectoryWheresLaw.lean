/- THE LAW 'berthshiftlaw.DirectoryWheres', CLOSED AND TIED: for every argument that can be read the law returns true, and each argument reads behind the call as before; the package's variable is tied to the program's text. No condition. -/
import Derived.Test.YtefkifgonadiiabDoorDirectoryWheres
namespace Go.Proofs.YtefkifgonadiiabDoor
open Go.ChangeShapes Go.WideShapes Go.ChangeAt Go.RowKit

theorem directoryWheres_met (os : Os) : laidMet Tryd.prog Rows.directoryWheresRow.laid ((laidWorld os).forCall (fun _ _ => 0) ⟨#[], #[.agg #[.int .i64 0, .int .i64 0, .int .i64 0, .int .i64 0, .int .i64 0, .int .i64 0, .int .i64 0, .int .i64 0], .int .i64 0], []⟩).memory :=
  laidMet_of_run' 8 (by kernel_rfl) (by kernel_rfl)
theorem directoryWheres_reads (os : Os) {H : Type} (enc : TypeId × Value → H) : ∃ places, DataW.whole enc Tryd.prog ((laidWorld os).forCall (fun _ _ => 0) ⟨#[], #[.agg #[.int .i64 0, .int .i64 0, .int .i64 0, .int .i64 0, .int .i64 0, .int .i64 0, .int .i64 0, .int .i64 0], .int .i64 0], []⟩).memory Tryd.f3.params.toList Rows.directoryWheresSpec.vars false (#[.agg #[.int .i64 0, .int .i64 0, .int .i64 0, .int .i64 0, .int .i64 0, .int .i64 0, .int .i64 0, .int .i64 0], .int .i64 0] : Array Value).toList 8 = some ([.agg [.agg [.agg [.lit (.int .i64 0), .lit (.int .i64 0)], .agg [.lit (.int .i64 0), .lit (.int .i64 0)], .agg [.lit (.int .i64 0), .lit (.int .i64 0)], .agg [.lit (.int .i64 0), .lit (.int .i64 0)]]], .lit (.int .i64 0)], [], places) :=
  ⟨[], by kernel_rfl⟩

set_option maxRecDepth 100000 in
theorem directoryWheres_lifted (os : Os) (started : os.Started) (H : Type) (enc : TypeId × Value → H) (F : Stop.Interp) :
    ReturnsInHanded {} Tryd.checked os 3 .any ((OpenSpec.ofChange Rows.directoryWheresSpec).preRow enc Tryd.prog Tryd.f3 Rows.directoryWheresRow.domain false Rows.directoryWheresRow.laid) (((OpenSpec.ofChange Rows.directoryWheresSpec).at F).post enc Tryd.prog Tryd.f3 false true false false) := by
  obtain ⟨places, hx⟩ := directoryWheres_reads os enc
  refine returnsInHanded_of_row (C := Tryd.checked) (s := OpenSpec.ofChange Rows.directoryWheresSpec) dir_own started (by kernel_rfl) Tryd.func3
    (witness_row_at (enc := enc) (C := Tryd.checked) false (laidWorld os) #[.agg #[.int .i64 0, .int .i64 0, .int .i64 0, .int .i64 0, .int .i64 0, .int .i64 0, .int .i64 0, .int .i64 0], .int .i64 0] rfl (by kernel_rfl) (by kernel_rfl) (by kernel_rfl)
      (OpenSpec.preRow_of_cond 8 hx (by kernel_rfl) (fun k hk => by cases hk) (by kernel_rfl) (directoryWheres_met os))) ?_
  intro W base args ds gs before hval hW _ _ hz hL _ _
  refine law_contract_w (s := Rows.directoryWheresSpec) (bt := 4) (by kernel_rfl) rfl (by kernel_rfl) Tryd.underlying4 ?_ W base args ds gs before (fun h => directoryWheres_walk W (laid_nw hL) args h) hval hW hz
  intro ds hd
  rw [show Tryd.f3.params.toList.length = 2 from by kernel_rfl] at hd
  match ds, hd with
  | [d1, d2], _ => rfl

theorem directoryWheres_said : Rows.DirectoryWheresSaid :=
  OpenClaim.holds_of_cond 3 Tryd.f3 rfl rfl rfl rfl rfl rfl rfl ⟨rfl, rfl, rfl, rfl, rfl⟩ rfl rfl rfl rfl rfl (by kernel_rfl) Tryd.func3 (by kernel_rfl)
    (of_decide_eq_true (by kernel_rfl)) (by unfold Func.isWrapper; first | (rw [if_pos (by decide +kernel)]; kernel_rfl) | (rw [if_neg (by decide +kernel)]; exact ⟨rfl, rfl⟩))
    (fun os started H enc _ F => by rw [OpenClaim.pre_eq_preRow]; exact directoryWheres_lifted os started H enc F)

theorem directoryWheres_plain (f : FuncId) (fn : Func) (hf : Tryd.pinned.checked.prog.funcNamed "berthshift/berthshiftlaw.DirectoryWheres" = some f) (hfn : Tryd.pinned.checked.prog.funcs[f]? = some fn) :
    false = Tryd.pinned.checked.prog.looks [] ∧ ∀ (j : Nat) t, fn.params[j]? = some t → Tryd.pinned.checked.prog.wantsStandIn t = false := by
  obtain rfl : f = 3 := Option.some.inj ((show Tryd.prog.funcNamed "berthshift/berthshiftlaw.DirectoryWheres" = some 3 by kernel_rfl).symm.trans hf) |>.symm
  obtain rfl : fn = Tryd.f3 := (Option.some.inj (Tryd.func3.symm.trans hfn)).symm
  refine ⟨by kernel_rfl, fun j t ht => ?_⟩
  have hall : (Tryd.f3.params.toList.all fun t => !Tryd.prog.wantsStandIn t) = true := by kernel_rfl
  have hm : t ∈ Tryd.f3.params.toList := by simpa using Array.mem_of_getElem? ht
  have h9 : Tryd.prog.wantsStandIn t = false := by simpa using List.all_eq_true.1 hall t hm
  exact h9

theorem directoryWheres_holds : Rows.DirectoryWheresCardSaid :=
  Claim7.holds_tied_plain_at .later [] _ _ _ _ directoryWheres_said (fun _ h => by cases h) (by kernel_rfl) (fun _ h => by cases h) directoryWheres_row_tie rfl ⟨rfl, rfl⟩ (by kernel_rfl) rfl directoryWheres_plain (by kernel_rfl)
#print axioms directoryWheres_holds
end Go.Proofs.YtefkifgonadiiabDoor
