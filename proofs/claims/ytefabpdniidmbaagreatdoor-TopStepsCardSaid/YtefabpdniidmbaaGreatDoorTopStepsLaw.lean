/- THE LAW 'berthshifttop.TopSteps', CLOSED AND TIED: for every argument that can be read the law returns true, and each argument reads behind the call as before; the package's variable is tied to the program's text. No condition. -/
import Derived.Test.YtefabpdniidmbaaGreatDoorGa0856
set_option linter.all false
set_option maxRecDepth 100000
set_option maxHeartbeats 8000000
namespace Go.Proofs.YtefabpdniidmbaaGreatDoor
open Go.ChangeShapes Go.WideShapes Go.ChangeAt Go.RowKit
theorem R4 (os:Os):laidMet Tryz.prog Rows.topStepsRow.laid ((Eb os).forCall (λ_ _=>0) ⟨#[],#[.slice none 0 0,.int .i64 0],[]⟩).memory:=
 laidMet_of_run' 8 kQ kQ
theorem abf (os:Os) {H:Type} (enc:TypeId×Value->H): ∃ places,DataW.whole enc Tryz.prog ((Eb os).forCall (λ_ _=>0) ⟨#[],#[.slice none 0 0,.int .i64 0],[]⟩).memory Tryz.f5.params.toList Rows.topStepsSpec.vars false (#[.slice none 0 0,.int .i64 0]:Array Value).toList 8=some ([.nil,.lit (.int .i64 0)],[],places):=
 ⟨[],by kernel_rfl⟩
theorem aaC (os:Os) (started:os.Started) (H:Type) (enc:TypeId×Value->H) (F:Stop.Interp):
  ReturnsInHanded {} Tryz.checked os 5 .any ((OpenSpec.ofChange Rows.topStepsSpec).preRow enc Tryz.prog Tryz.f5 Rows.topStepsRow.domain false Rows.topStepsRow.laid) (((OpenSpec.ofChange Rows.topStepsSpec).at F).post enc Tryz.prog Tryz.f5 false true false false):=by
 obtain ⟨places,hx⟩:=abf os enc;refine returnsInHanded_of_row (C:=Tryz.checked) (s:=OpenSpec.ofChange Rows.topStepsSpec) akV started kQ Tryz.func5
  (witness_row_at (enc:=enc) (C:=Tryz.checked) false (Eb os) #[.slice none 0 0,.int .i64 0] rfl kQ kQ kQ
   (OpenSpec.preRow_of_cond 8 hx kQ (λk hk=>by cases hk) kQ (R4 os))) ?_
 intro W base args ds gs before hval hW _ _ hz hL _ _;refine aa4 (s:=Rows.topStepsSpec) (bt:=4) kQ rfl kQ Tryz.underlying4 ?_ W base args ds gs before (λh=>acE W (alF hL) args h) hval hW hz;intro ds hd;rw [show Tryz.f5.params.toList.length=2 from by kernel_rfl] at hd
 match ds,hd with
 | [d1,d2],_=>rfl
theorem ac6:Qe Tryz.prog 5 Tryz.f5 (OpenSpec.ofChange Rows.topStepsSpec).bare Rows.topStepsRow=true:=kQ
theorem adg:Rows.TopStepsSaid:=
 OpenClaim.holds_of_cond 5 Tryz.f5 rfl rfl rfl rfl rfl rfl rfl ⟨rfl,rfl,rfl,rfl,rfl⟩ rfl rfl rfl rfl rfl kQ Tryz.func5 (ach ac6 YH YI acj kQ)
  (of_decide_eq_true kQ) (by unfold Func.isWrapper;first | (rw [if_pos (by decide+kernel)];kernel_rfl) | (rw [if_neg (by decide+kernel)];exact ⟨rfl,rfl⟩))
  (λos started H enc _ F=>by rw [OpenClaim.pre_eq_preRow];exact aaC os started H enc F)
theorem abg (f:FuncId) (fn:Func) (hf:Tryz.pinned.checked.prog.funcNamed "berthshift/berthshifttop.TopSteps" =some f) (hfn:Tryz.pinned.checked.prog.funcs[f]? =some fn):
  true=Tryz.pinned.checked.prog.looks []/\ ∀ (j:Nat) t,fn.params[j]? =some t->Tryz.pinned.checked.prog.wantsStandIn t=false:=by
 obtain rfl:f=5:=Option.some.inj ((show Tryz.prog.funcNamed "berthshift/berthshifttop.TopSteps" =some 5 by kernel_rfl).symm.trans hf) |>.symm
 obtain rfl:fn=Tryz.f5:=(Option.some.inj (Tryz.func5.symm.trans hfn)).symm;refine ⟨YJ,λj t ht=>?_⟩;have hall:(Tryz.f5.params.toList.all λt=> !Tryz.prog.wantsStandIn t)=true:=kQ;have hm:t∈Tryz.f5.params.toList:=by simpa using Array.mem_of_getElem? ht
 have h9:Tryz.prog.wantsStandIn t=false:=by simpa using List.all_eq_true.1 hall t hm
 exact h9
theorem adi:false=Rows.topStepsRow.goesBy Tryz.pinned.checked.prog:=kQ
theorem topSteps_holds:Rows.TopStepsCardSaid:=
 Claim7.holds_tied_plain_at .later [] _ _ _ _ adg (λ_ h=>by cases h) kQ (λ_ h=>by cases h) topSteps_row_tie rfl ⟨rfl,rfl⟩ acn rfl abg adi
#print axioms topSteps_holds
end Go.Proofs.YtefabpdniidmbaaGreatDoor
