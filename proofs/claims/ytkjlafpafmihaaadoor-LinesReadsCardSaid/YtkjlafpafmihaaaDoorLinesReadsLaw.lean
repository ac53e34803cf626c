/- THE LAW 'berthshiftlaw.LinesReads', CLOSED AND TIED: for every argument that can be read the law returns true, and each argument reads behind the call as before; the package's variable is tied to the program's text. No condition. -/
import Derived.Test.YtkjlafpafmihaaaDoorGab8ecdf11465
import Derived.Test.YtkjlafpafmihaaaDoorGa487125d06f9
import Derived.Test.YtkjlafpafmihaaaDoorGd3cfdc1357eb
import Derived.Test.YtkjlafpafmihaaaDoorGea90f12dfe92
import Derived.Test.YtkjlafpafmihaaaDoorGa6cfea583cdc
import Derived.Test.YtkjlafpafmihaaaDoorG173045c9580a
import Derived.Test.YtkjlafpafmihaaaDoorGedcf6e6df767
import Derived.Test.YtkjlafpafmihaaaDoorG3606cc3ac865
import Derived.Test.YtkjlafpafmihaaaDoorGe57d517d0a67
import Derived.Test.YtkjlafpafmihaaaDoorGfe753c0b6274
import Derived.Test.YtkjlafpafmihaaaDoorGa57fdb9d3cfe
import Derived.Test.YtkjlafpafmihaaaDoorGa19a187f21d0
import Derived.Test.YtkjlafpafmihaaaDoorG8853775e7979
import Derived.Test.YtkjlafpafmihaaaDoorGc8b71f3bd5a6
import Derived.Test.YtkjlafpafmihaaaDoorGc7cbbf584d5a
import Derived.Test.YtkjlafpafmihaaaDoorGe15ec5fe1191
set_option linter.unusedVariables false
set_option linter.unusedSimpArgs false
namespace Go.Proofs.YtkjlafpafmihaaaDoor
open Go.ChangeShapes Go.WideShapes Go.ChangeAt Go.RowKit

theorem linesReads_met (os : Os) : laidMet Tryd.prog Rows.linesReadsRow.laid ((laidWorldR os).forCall (fun _ _ => 0) ⟨#[], #[.string ⟨#[]⟩], []⟩).memory :=
  laidMet_of_run' 8 (by kernel_rfl) (by kernel_rfl)
theorem linesReads_reads (os : Os) {H : Type} (enc : TypeId × Value → H) : ∃ places, DataW.whole enc Tryd.prog ((laidWorldR os).forCall (fun _ _ => 0) ⟨#[], #[.string ⟨#[]⟩], []⟩).memory Tryd.f4.params.toList Rows.linesReadsSpec.vars false (#[.string ⟨#[]⟩] : Array Value).toList 8 = some ([.lit (.string [])], [], places) :=
  ⟨[], by kernel_rfl⟩

set_option maxRecDepth 100000 in
theorem linesReads_lifted (os : Os) (started : os.Started) (H : Type) (enc : TypeId × Value → H) (F : Stop.Interp) :
    ReturnsInHanded {} Tryd.checked os 4 .any ((OpenSpec.ofChange Rows.linesReadsSpec).preRow enc Tryd.prog Tryd.f4 Rows.linesReadsRow.domain false Rows.linesReadsRow.laid) (((OpenSpec.ofChange Rows.linesReadsSpec).at F).post enc Tryd.prog Tryd.f4 false true false false) := by
  obtain ⟨places, hx⟩ := linesReads_reads os enc
  refine returnsInHanded_of_row (C := Tryd.checked) (s := OpenSpec.ofChange Rows.linesReadsSpec) door_own started (by kernel_rfl) Tryd.func4
    (witness_row_at (enc := enc) (C := Tryd.checked) false (laidWorldR os) #[.string ⟨#[]⟩] rfl (by kernel_rfl) (by kernel_rfl) (by kernel_rfl)
      (OpenSpec.preRow_of_cond 8 hx (by kernel_rfl) (fun k hk => by cases hk) (by kernel_rfl) (linesReads_met os))) ?_
  intro W base args ds gs before hval hW _ _ hz hL _ _
  refine law_contract_w (s := Rows.linesReadsSpec) (bt := 4) (by kernel_rfl) rfl (by kernel_rfl) Tryd.underlying4 ?_ W base args ds gs before (fun h => linesReads_walk W (laid_tabR hL) (laid_errR hL) args h) hval hW hz
  intro ds hd
  rw [show Tryd.f4.params.toList.length = 1 from by kernel_rfl] at hd
  match ds, hd with
  | [d1], _ => rfl

theorem linesReads_said : Rows.LinesReadsSaid :=
  OpenClaim.holds_of_cond 4 Tryd.f4 rfl rfl rfl rfl rfl rfl rfl ⟨rfl, rfl, rfl, rfl, rfl⟩ rfl rfl rfl rfl rfl (by kernel_rfl) Tryd.func4 (by kernel_rfl)
    (of_decide_eq_true (by kernel_rfl)) (by unfold Func.isWrapper; first | (rw [if_pos (by decide +kernel)]; kernel_rfl) | (rw [if_neg (by decide +kernel)]; exact ⟨rfl, rfl⟩))
    (fun os started H enc _ F => by rw [OpenClaim.pre_eq_preRow]; exact linesReads_lifted os started H enc F)

theorem linesReads_plain (f : FuncId) (fn : Func) (hf : Tryd.pinned.checked.prog.funcNamed "berthshift/berthshiftlaw.LinesReads" = some f) (hfn : Tryd.pinned.checked.prog.funcs[f]? = some fn) :
    true = Tryd.pinned.checked.prog.looks [] ∧ ∀ (j : Nat) t, fn.params[j]? = some t → Tryd.pinned.checked.prog.wantsStandIn t = false := by
  obtain rfl : f = 4 := Option.some.inj ((show Tryd.prog.funcNamed "berthshift/berthshiftlaw.LinesReads" = some 4 by kernel_rfl).symm.trans hf) |>.symm
  obtain rfl : fn = Tryd.f4 := (Option.some.inj (Tryd.func4.symm.trans hfn)).symm
  refine ⟨by kernel_rfl, fun j t ht => ?_⟩
  have hall : (Tryd.f4.params.toList.all fun t => !Tryd.prog.wantsStandIn t) = true := by kernel_rfl
  have hm : t ∈ Tryd.f4.params.toList := by simpa using Array.mem_of_getElem? ht
  have h9 : Tryd.prog.wantsStandIn t = false := by simpa using List.all_eq_true.1 hall t hm
  exact h9

theorem linesReads_holds : Rows.LinesReadsCardSaid :=
  Claim7.holds_tied_plain_at .later [] _ _ _ _ linesReads_said (fun _ h => by cases h) (by kernel_rfl) (fun _ h => by cases h) linesReads_row_tie rfl ⟨rfl, rfl⟩ (by kernel_rfl) rfl linesReads_plain (by kernel_rfl)
#print axioms linesReads_holds
end Go.Proofs.YtkjlafpafmihaaaDoor
