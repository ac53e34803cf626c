/- THE LAW 'berthshifttop.TopUnsynced', CLOSED AND TIED: for every argument that can be read the law returns true, and each argument reads behind the call as before; the package's variable is tied to the program's text. No condition. -/
import Derived.Test.YtnhimdkpkmbhlaaGreatDoorG97bd6
import Derived.Test.YtnhimdkpkmbhlaaGreatDoorG45749
set_option maxRecDepth 100000
set_option maxHeartbeats 8000000
set_option linter.unusedSimpArgs false
set_option linter.unusedVariables false
namespace Go.Proofs.YtnhimdkpkmbhlaaGreatDoor
open Go.ChangeShapes Go.WideShapes Go.ChangeAt Go.RowKit
theorem K4 (os:Os):laidMet Tryz.prog Rows.topUnsyncedRow.laid ((eU os).forCall (λ_ _=>0) ⟨#[],#[.slice none 0 0,.int .i64 0],[]⟩).memory:=
 laidMet_of_run' 8 (by kernel_rfl) (by kernel_rfl)
theorem GY (os:Os) {H:Type} (enc:TypeId×Value->H): ∃ places,DataW.whole enc Tryz.prog ((eU os).forCall (λ_ _=>0) ⟨#[],#[.slice none 0 0,.int .i64 0],[]⟩).memory Tryz.f9.params.toList Rows.topUnsyncedSpec.vars false (#[.slice none 0 0,.int .i64 0]:Array Value).toList 8=some ([.nil,.lit (.int .i64 0)],[],places):=
 ⟨[],by kernel_rfl⟩
theorem ER (os:Os) (started:os.Started) (H:Type) (enc:TypeId×Value->H) (F:Stop.Interp):
  ReturnsInHanded {} Tryz.checked os 9 .any ((OpenSpec.ofChange Rows.topUnsyncedSpec).preRow enc Tryz.prog Tryz.f9 Rows.topUnsyncedRow.domain false Rows.topUnsyncedRow.laid) (((OpenSpec.ofChange Rows.topUnsyncedSpec).at F).post enc Tryz.prog Tryz.f9 false true false false):=by
 obtain ⟨places,hx⟩:=GY os enc;refine returnsInHanded_of_row (C:=Tryz.checked) (s:=OpenSpec.ofChange Rows.topUnsyncedSpec) yJ started (by kernel_rfl) Tryz.func9
  (witness_row_at (enc:=enc) (C:=Tryz.checked) false (eU os) #[.slice none 0 0,.int .i64 0] rfl (by kernel_rfl) (by kernel_rfl) (by kernel_rfl)
   (OpenSpec.preRow_of_cond 8 hx (by kernel_rfl) (λk hk=>by cases hk) (by kernel_rfl) (K4 os))) ?_
 intro W base args ds gs before hval hW _ _ hz hL _ _;refine jZ (s:=Rows.topUnsyncedSpec) (bt:=4) (by kernel_rfl) rfl (by kernel_rfl) Tryz.underlying4 ?_ W base args ds gs before (λh=>IB W (yQ hL) args h) hval hW hz;intro ds hd;rw [show Tryz.f9.params.toList.length=2 from by kernel_rfl] at hd
 match ds,hd with
 | [d1,d2],_=>rfl
theorem IJ:uM Tryz.prog 9 Tryz.f9 (OpenSpec.ofChange Rows.topUnsyncedSpec).bare Rows.topUnsyncedRow=true:=by kernel_rfl
theorem IK:Rows.TopUnsyncedSaid:=
 OpenClaim.holds_of_cond 9 Tryz.f9 rfl rfl rfl rfl rfl rfl rfl ⟨rfl,rfl,rfl,rfl,rfl⟩ rfl rfl rfl rfl rfl (by kernel_rfl) Tryz.func9 (rY IJ oV oW rZ (by kernel_rfl))
  (of_decide_eq_true (by kernel_rfl)) (by unfold Func.isWrapper;first | (rw [if_pos (by decide+kernel)];kernel_rfl) | (rw [if_neg (by decide+kernel)];exact ⟨rfl,rfl⟩))
  (λos started H enc _ F=>by rw [OpenClaim.pre_eq_preRow];exact ER os started H enc F)
theorem GZ (f:FuncId) (fn:Func) (hf:Tryz.pinned.checked.prog.funcNamed "berthshift/berthshifttop.TopUnsynced" =some f) (hfn:Tryz.pinned.checked.prog.funcs[f]? =some fn):
  true=Tryz.pinned.checked.prog.looks []/\ ∀ (j:Nat) t,fn.params[j]? =some t->Tryz.pinned.checked.prog.wantsStandIn t=false:=by
 obtain rfl:f=9:=Option.some.inj ((show Tryz.prog.funcNamed "berthshift/berthshifttop.TopUnsynced" =some 9 by kernel_rfl).symm.trans hf) |>.symm
 obtain rfl:fn=Tryz.f9:=(Option.some.inj (Tryz.func9.symm.trans hfn)).symm;refine ⟨oZ,λj t ht=>?_⟩;have hall:(Tryz.f9.params.toList.all λt=> !Tryz.prog.wantsStandIn t)=true:=by kernel_rfl
 have hm:t∈Tryz.f9.params.toList:=by simpa using Array.mem_of_getElem? ht
 have h9:Tryz.prog.wantsStandIn t=false:=by simpa using List.all_eq_true.1 hall t hm
 exact h9
theorem IL:false=Rows.topUnsyncedRow.goesBy Tryz.pinned.checked.prog:=by kernel_rfl
theorem topUnsynced_holds:Rows.TopUnsyncedCardSaid:=
 Claim7.holds_tied_plain_at .later [] _ _ _ _ IK (λ_ h=>by cases h) (by kernel_rfl) (λ_ h=>by cases h) topUnsynced_row_tie rfl ⟨rfl,rfl⟩ r9 rfl GZ IL
#print axioms topUnsynced_holds
end Go.Proofs.YtnhimdkpkmbhlaaGreatDoor
