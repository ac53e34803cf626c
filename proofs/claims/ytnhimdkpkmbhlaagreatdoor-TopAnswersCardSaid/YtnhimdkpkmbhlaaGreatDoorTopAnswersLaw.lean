/- THE LAW 'berthshifttop.TopAnswers', CLOSED AND TIED: for every argument that can be read the law returns true, and each argument reads behind the call as before; the package's variable is tied to the program's text. No condition. -/
import Derived.Test.YtnhimdkpkmbhlaaGreatDoorGd40c5
set_option maxRecDepth 100000
set_option maxHeartbeats 8000000
set_option linter.unusedSimpArgs false
set_option linter.unusedVariables false
namespace Go.Proofs.YtnhimdkpkmbhlaaGreatDoor
open Go.ChangeShapes Go.WideShapes Go.ChangeAt Go.RowKit
theorem Ke (os:Os):laidMet Tryz.prog Rows.topAnswersRow.laid ((BZ os).forCall (λ_ _=>0) ⟨#[],#[.slice none 0 0],[]⟩).memory:=
 laidMet_of_run' 8 (by kernel_rfl) (by kernel_rfl)
theorem Fe (os:Os) {H:Type} (enc:TypeId×Value->H): ∃ places,DataW.whole enc Tryz.prog ((BZ os).forCall (λ_ _=>0) ⟨#[],#[.slice none 0 0],[]⟩).memory Tryz.f10.params.toList Rows.topAnswersSpec.vars false (#[.slice none 0 0]:Array Value).toList 8=some ([.nil],[],places):=
 ⟨[],by kernel_rfl⟩
theorem Er (os:Os) (started:os.Started) (H:Type) (enc:TypeId×Value->H) (F:Stop.Interp):
  ReturnsInHanded {} Tryz.checked os 10 .any ((OpenSpec.ofChange Rows.topAnswersSpec).preRow enc Tryz.prog Tryz.f10 Rows.topAnswersRow.domain false Rows.topAnswersRow.laid) (((OpenSpec.ofChange Rows.topAnswersSpec).at F).post enc Tryz.prog Tryz.f10 false true false false):=by
 obtain ⟨places,hx⟩:=Fe os enc;refine returnsInHanded_of_row (C:=Tryz.checked) (s:=OpenSpec.ofChange Rows.topAnswersSpec) afC started (by kernel_rfl) Tryz.func10
  (witness_row_at (enc:=enc) (C:=Tryz.checked) false (BZ os) #[.slice none 0 0] rfl (by kernel_rfl) (by kernel_rfl) (by kernel_rfl)
   (OpenSpec.preRow_of_cond 8 hx (by kernel_rfl) (λk hk=>by cases hk) (by kernel_rfl) (Ke os))) ?_
 intro W base args ds gs before hval hW _ _ hz hL _ _;refine JU (s:=Rows.topAnswersSpec) (bt:=4) (by kernel_rfl) rfl (by kernel_rfl) Tryz.underlying4 ?_ W base args ds gs before (λh=>Ic W (ahR hL) args h) hval hW hz;intro ds hd;rw [show Tryz.f10.params.toList.length=1 from by kernel_rfl] at hd
 match ds,hd with
 | [d1],_=>rfl
theorem Ie:Nk Tryz.prog 10 Tryz.f10 (OpenSpec.ofChange Rows.topAnswersSpec).bare Rows.topAnswersRow=true:=by kernel_rfl
theorem Ig:Rows.TopAnswersSaid:=
 OpenClaim.holds_of_cond 10 Tryz.f10 rfl rfl rfl rfl rfl rfl rfl ⟨rfl,rfl,rfl,rfl,rfl⟩ rfl rfl rfl rfl rfl (by kernel_rfl) Tryz.func10 (aap Ie VA VB aar (by kernel_rfl))
  (of_decide_eq_true (by kernel_rfl)) (by unfold Func.isWrapper;first | (rw [if_pos (by decide+kernel)];kernel_rfl) | (rw [if_neg (by decide+kernel)];exact ⟨rfl,rfl⟩))
  (λos started H enc _ F=>by rw [OpenClaim.pre_eq_preRow];exact Er os started H enc F)
theorem Fg (f:FuncId) (fn:Func) (hf:Tryz.pinned.checked.prog.funcNamed "berthshift/berthshifttop.TopAnswers" =some f) (hfn:Tryz.pinned.checked.prog.funcs[f]? =some fn):
  true=Tryz.pinned.checked.prog.looks []/\ ∀ (j:Nat) t,fn.params[j]? =some t->Tryz.pinned.checked.prog.wantsStandIn t=false:=by
 obtain rfl:f=10:=Option.some.inj ((show Tryz.prog.funcNamed "berthshift/berthshifttop.TopAnswers" =some 10 by kernel_rfl).symm.trans hf) |>.symm
 obtain rfl:fn=Tryz.f10:=(Option.some.inj (Tryz.func10.symm.trans hfn)).symm;refine ⟨VD,λj t ht=>?_⟩;have hall:(Tryz.f10.params.toList.all λt=> !Tryz.prog.wantsStandIn t)=true:=by kernel_rfl
 have hm:t∈Tryz.f10.params.toList:=by simpa using Array.mem_of_getElem? ht
 have h9:Tryz.prog.wantsStandIn t=false:=by simpa using List.all_eq_true.1 hall t hm
 exact h9
theorem Ih:false=Rows.topAnswersRow.goesBy Tryz.pinned.checked.prog:=by kernel_rfl
theorem topAnswers_holds:Rows.TopAnswersCardSaid:=
 Claim7.holds_tied_plain_at .later [] _ _ _ _ Ig (λ_ h=>by cases h) (by kernel_rfl) (λ_ h=>by cases h) topAnswers_row_tie rfl ⟨rfl,rfl⟩ aas rfl Fg Ih
#print axioms topAnswers_holds
end Go.Proofs.YtnhimdkpkmbhlaaGreatDoor
