/- THE LAW 'berthshifttop.TopNever', CLOSED AND TIED: for every argument that can be read the law returns true, and each argument reads behind the call as before; the package's variable is tied to the program's text. No condition. -/
import Derived.Test.YtnhimdkpkmbhlaaGreatDoorG6ae33
set_option maxRecDepth 100000
set_option maxHeartbeats 8000000
set_option linter.unusedSimpArgs false
set_option linter.unusedVariables false
namespace Go.Proofs.YtnhimdkpkmbhlaaGreatDoor
open Go.ChangeShapes Go.WideShapes Go.ChangeAt Go.RowKit
theorem Tx (os:Os):laidMet Tryz.prog Rows.topNeverRow.laid ((eU os).forCall (λ_ _=>0) ⟨#[],#[.slice none 0 0],[]⟩).memory:=
 laidMet_of_run' 8 (by kernel_rfl) (by kernel_rfl)
theorem NS (os:Os) {H:Type} (enc:TypeId×Value->H): ∃ places,DataW.whole enc Tryz.prog ((eU os).forCall (λ_ _=>0) ⟨#[],#[.slice none 0 0],[]⟩).memory Tryz.f4.params.toList Rows.topNeverSpec.vars false (#[.slice none 0 0]:Array Value).toList 8=some ([.nil],[],places):=
 ⟨[],by kernel_rfl⟩
theorem K3 (os:Os) (started:os.Started) (H:Type) (enc:TypeId×Value->H) (F:Stop.Interp):
  ReturnsInHanded {} Tryz.checked os 4 .any ((OpenSpec.ofChange Rows.topNeverSpec).preRow enc Tryz.prog Tryz.f4 Rows.topNeverRow.domain false Rows.topNeverRow.laid) (((OpenSpec.ofChange Rows.topNeverSpec).at F).post enc Tryz.prog Tryz.f4 false true false false):=by
 obtain ⟨places,hx⟩:=NS os enc;refine returnsInHanded_of_row (C:=Tryz.checked) (s:=OpenSpec.ofChange Rows.topNeverSpec) yJ started (by kernel_rfl) Tryz.func4
  (witness_row_at (enc:=enc) (C:=Tryz.checked) false (eU os) #[.slice none 0 0] rfl (by kernel_rfl) (by kernel_rfl) (by kernel_rfl)
   (OpenSpec.preRow_of_cond 8 hx (by kernel_rfl) (λk hk=>by cases hk) (by kernel_rfl) (Tx os))) ?_
 intro W base args ds gs before hval hW _ _ hz hL _ _;refine jZ (s:=Rows.topNeverSpec) (bt:=4) (by kernel_rfl) rfl (by kernel_rfl) Tryz.underlying4 ?_ W base args ds gs before (λh=>OZ W (yQ hL) args h) hval hW hz;intro ds hd;rw [show Tryz.f4.params.toList.length=1 from by kernel_rfl] at hd
 match ds,hd with
 | [d1],_=>rfl
theorem Pf:uM Tryz.prog 4 Tryz.f4 (OpenSpec.ofChange Rows.topNeverSpec).bare Rows.topNeverRow=true:=by kernel_rfl
theorem Pg:Rows.TopNeverSaid:=
 OpenClaim.holds_of_cond 4 Tryz.f4 rfl rfl rfl rfl rfl rfl rfl ⟨rfl,rfl,rfl,rfl,rfl⟩ rfl rfl rfl rfl rfl (by kernel_rfl) Tryz.func4 (rY Pf oV oW rZ (by kernel_rfl))
  (of_decide_eq_true (by kernel_rfl)) (by unfold Func.isWrapper;first | (rw [if_pos (by decide+kernel)];kernel_rfl) | (rw [if_neg (by decide+kernel)];exact ⟨rfl,rfl⟩))
  (λos started H enc _ F=>by rw [OpenClaim.pre_eq_preRow];exact K3 os started H enc F)
theorem NT (f:FuncId) (fn:Func) (hf:Tryz.pinned.checked.prog.funcNamed "berthshift/berthshifttop.TopNever" =some f) (hfn:Tryz.pinned.checked.prog.funcs[f]? =some fn):
  true=Tryz.pinned.checked.prog.looks []/\ ∀ (j:Nat) t,fn.params[j]? =some t->Tryz.pinned.checked.prog.wantsStandIn t=false:=by
 obtain rfl:f=4:=Option.some.inj ((show Tryz.prog.funcNamed "berthshift/berthshifttop.TopNever" =some 4 by kernel_rfl).symm.trans hf) |>.symm
 obtain rfl:fn=Tryz.f4:=(Option.some.inj (Tryz.func4.symm.trans hfn)).symm;refine ⟨oZ,λj t ht=>?_⟩;have hall:(Tryz.f4.params.toList.all λt=> !Tryz.prog.wantsStandIn t)=true:=by kernel_rfl
 have hm:t∈Tryz.f4.params.toList:=by simpa using Array.mem_of_getElem? ht
 have h9:Tryz.prog.wantsStandIn t=false:=by simpa using List.all_eq_true.1 hall t hm
 exact h9
theorem Ph:false=Rows.topNeverRow.goesBy Tryz.pinned.checked.prog:=by kernel_rfl
theorem topNever_holds:Rows.TopNeverCardSaid:=
 Claim7.holds_tied_plain_at .later [] _ _ _ _ Pg (λ_ h=>by cases h) (by kernel_rfl) (λ_ h=>by cases h) topNever_row_tie rfl ⟨rfl,rfl⟩ r9 rfl NT Ph
#print axioms topNever_holds
end Go.Proofs.YtnhimdkpkmbhlaaGreatDoor
