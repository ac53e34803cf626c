/- THE LAW 'berthshiftlaw.LinesShows', CLOSED AND TIED: for every argument that can be read the law returns true, and each argument reads behind the call as before; the package's variable is tied to the program's text. No condition. -/
import Derived.Test.YtkjlafpafmihaaaDoorG12ec74731733
import Derived.Test.YtkjlafpafmihaaaDoorG29a9d8cef57c
import Derived.Test.YtkjlafpafmihaaaDoorG536627dfcf89
import Derived.Test.YtkjlafpafmihaaaDoorGf145714c852a
import Derived.Test.YtkjlafpafmihaaaDoorG8c1733dd40c8
import Derived.Test.YtkjlafpafmihaaaDoorGa0ccebf5b30d
import Derived.Test.YtkjlafpafmihaaaDoorG5e893203608a
import Derived.Test.YtkjlafpafmihaaaDoorGcfafce0aa8d2
import Derived.Test.YtkjlafpafmihaaaDoorG85f99d501c23
import Derived.Test.YtkjlafpafmihaaaDoorG06cc6693aee7
import Derived.Test.YtkjlafpafmihaaaDoorG0fcdebadd80f
set_option linter.unusedVariables false
set_option linter.unusedSimpArgs false
namespace Go.Proofs.YtkjlafpafmihaaaDoor
open Go.ChangeShapes Go.WideShapes Go.ChangeAt Go.RowKit

theorem linesShows_met (os : Os) : laidMet Tryd.prog Rows.linesShowsRow.laid ((laidWorld os).forCall (fun _ _ => 0) ⟨#[], #[.slice none 0 0], []⟩).memory :=
  laidMet_of_run' 8 (by kernel_rfl) (by kernel_rfl)
theorem linesShows_reads (os : Os) {H : Type} (enc : TypeId × Value → H) : ∃ places, DataW.whole enc Tryd.prog ((laidWorld os).forCall (fun _ _ => 0) ⟨#[], #[.slice none 0 0], []⟩).memory Tryd.f3.params.toList Rows.linesShowsSpec.vars false (#[.slice none 0 0] : Array Value).toList 8 = some ([.nil], [], places) :=
  ⟨[], by kernel_rfl⟩

set_option maxRecDepth 100000 in
theorem linesShows_lifted (os : Os) (started : os.Started) (H : Type) (enc : TypeId × Value → H) (F : Stop.Interp) :
    ReturnsInHanded {} Tryd.checked os 3 .any ((OpenSpec.ofChange Rows.linesShowsSpec).preRow enc Tryd.prog Tryd.f3 Rows.linesShowsRow.domain false Rows.linesShowsRow.laid) (((OpenSpec.ofChange Rows.linesShowsSpec).at F).post enc Tryd.prog Tryd.f3 false true false false) := by
  obtain ⟨places, hx⟩ := linesShows_reads os enc
  refine returnsInHanded_of_row (C := Tryd.checked) (s := OpenSpec.ofChange Rows.linesShowsSpec) door_own started (by kernel_rfl) Tryd.func3
    (witness_row_at (enc := enc) (C := Tryd.checked) false (laidWorld os) #[.slice none 0 0] rfl (by kernel_rfl) (by kernel_rfl) (by kernel_rfl)
      (OpenSpec.preRow_of_cond 8 hx (by kernel_rfl) (fun k hk => by cases hk) (by kernel_rfl) (linesShows_met os))) ?_
  intro W base args ds gs before hval hW _ _ hz hL _ _
  refine law_contract_w (s := Rows.linesShowsSpec) (bt := 4) (by kernel_rfl) rfl (by kernel_rfl) Tryd.underlying4 ?_ W base args ds gs before (fun h => linesShows_walk W (laid_tab hL) args h) hval hW hz
  intro ds hd
  rw [show Tryd.f3.params.toList.length = 1 from by kernel_rfl] at hd
  match ds, hd with
  | [d1], _ => rfl

theorem linesShows_said : Rows.LinesShowsSaid :=
  OpenClaim.holds_of_cond 3 Tryd.f3 rfl rfl rfl rfl rfl rfl rfl ⟨rfl, rfl, rfl, rfl, rfl⟩ rfl rfl rfl rfl rfl (by kernel_rfl) Tryd.func3 (by kernel_rfl)
    (of_decide_eq_true (by kernel_rfl)) (by unfold Func.isWrapper; first | (rw [if_pos (by decide +kernel)]; kernel_rfl) | (rw [if_neg (by decide +kernel)]; exact ⟨rfl, rfl⟩))
    (fun os started H enc _ F => by rw [OpenClaim.pre_eq_preRow]; exact linesShows_lifted os started H enc F)

theorem linesShows_plain (f : FuncId) (fn : Func) (hf : Tryd.pinned.checked.prog.funcNamed "berthshift/berthshiftlaw.LinesShows" = some f) (hfn : Tryd.pinned.checked.prog.funcs[f]? = some fn) :
    true = Tryd.pinned.checked.prog.looks [] ∧ ∀ (j : Nat) t, fn.params[j]? = some t → Tryd.pinned.checked.prog.wantsStandIn t = false := by
  obtain rfl : f = 3 := Option.some.inj ((show Tryd.prog.funcNamed "berthshift/berthshiftlaw.LinesShows" = some 3 by kernel_rfl).symm.trans hf) |>.symm
  obtain rfl : fn = Tryd.f3 := (Option.some.inj (Tryd.func3.symm.trans hfn)).symm
  refine ⟨by kernel_rfl, fun j t ht => ?_⟩
  have hall : (Tryd.f3.params.toList.all fun t => !Tryd.prog.wantsStandIn t) = true := by kernel_rfl
  have hm : t ∈ Tryd.f3.params.toList := by simpa using Array.mem_of_getElem? ht
  have h9 : Tryd.prog.wantsStandIn t = false := by simpa using List.all_eq_true.1 hall t hm
  exact h9

theorem linesShows_holds : Rows.LinesShowsCardSaid :=
  Claim7.holds_tied_plain_at .later [] _ _ _ _ linesShows_said (fun _ h => by cases h) (by kernel_rfl) (fun _ h => by cases h) linesShows_row_tie rfl ⟨rfl, rfl⟩ (by kernel_rfl) rfl linesShows_plain (by kernel_rfl)
#print axioms linesShows_holds
end Go.Proofs.YtkjlafpafmihaaaDoor
