/- THE LAW 'berthshifttop.TopPlan', CLOSED AND TIED: for every argument that can be read the law returns true, and each argument reads behind the call as before; the package's variable is tied to the program's text. No condition. -/
import Derived.Test.YtceeleolddkibaaGreatDoorG91a3c
set_option linter.all false
set_option maxRecDepth 100000
set_option maxHeartbeats 8000000
namespace Go.Proofs.YtceeleolddkibaaGreatDoor
open Go.ChangeShapes Go.WideShapes Go.ChangeAt Go.RowKit
theorem Y0 (os:Os):laidMet Tryz.prog Rows.topPlanRow.laid ((Gy os).forCall (λ_ _=>0) ⟨#[],#[.slice none 0 0,.int .i64 0,.int .i64 0],[]⟩).memory:=
 laidMet_of_run' 8 kQ kQ
theorem aeR (os:Os) {H:Type} (enc:TypeId×Value->H): ∃ places,DataW.whole enc Tryz.prog ((Gy os).forCall (λ_ _=>0) ⟨#[],#[.slice none 0 0,.int .i64 0,.int .i64 0],[]⟩).memory Tryz.f3.params.toList Rows.topPlanSpec.vars false (#[.slice none 0 0,.int .i64 0,.int .i64 0]:Array Value).toList 8=some ([.nil,.lit (.int .i64 0),.lit (.int .i64 0)],[],places):=
 ⟨[],by kernel_rfl⟩
theorem ac0 (os:Os) (started:os.Started) (H:Type) (enc:TypeId×Value->H) (F:Stop.Interp):
  ReturnsInHanded {} Tryz.checked os 3 .any ((OpenSpec.ofChange Rows.topPlanSpec).preRow enc Tryz.prog Tryz.f3 Rows.topPlanRow.domain false Rows.topPlanRow.laid) (((OpenSpec.ofChange Rows.topPlanSpec).at F).post enc Tryz.prog Tryz.f3 false true false false):=by
 obtain ⟨places,hx⟩:=aeR os enc;refine returnsInHanded_of_row (C:=Tryz.checked) (s:=OpenSpec.ofChange Rows.topPlanSpec) anR started kQ Tryz.func3
  (witness_row_at (enc:=enc) (C:=Tryz.checked) false (Gy os) #[.slice none 0 0,.int .i64 0,.int .i64 0] rfl kQ kQ kQ
   (OpenSpec.preRow_of_cond 8 hx kQ (λk hk=>by cases hk) kQ (Y0 os))) ?_
 intro W base args ds gs before hval hW _ _ hz hL _ _;refine acT (s:=Rows.topPlanSpec) (bt:=4) kQ rfl kQ Tryz.underlying4 ?_ W base args ds gs before (λh=>VJ W (aoS hL) args h) hval hW hz;intro ds hd;rw [show Tryz.f3.params.toList.length=3 from by kernel_rfl] at hd
 match ds,hd with
 | [d1,d2,d3],_=>rfl
theorem VK:TR Tryz.prog 3 Tryz.f3 (OpenSpec.ofChange Rows.topPlanSpec).bare Rows.topPlanRow=true:=kQ
theorem VL:Rows.TopPlanSaid:=
 OpenClaim.holds_of_cond 3 Tryz.f3 rfl rfl rfl rfl rfl rfl rfl ⟨rfl,rfl,rfl,rfl,rfl⟩ rfl rfl rfl rfl rfl kQ Tryz.func3 (aeH VK aa3 aa4 aeJ kQ)
  (of_decide_eq_true kQ) (by unfold Func.isWrapper;first | (rw [if_pos (by decide+kernel)];kernel_rfl) | (rw [if_neg (by decide+kernel)];exact ⟨rfl,rfl⟩))
  (λos started H enc _ F=>by rw [OpenClaim.pre_eq_preRow];exact ac0 os started H enc F)
theorem aeT (f:FuncId) (fn:Func) (hf:Tryz.pinned.checked.prog.funcNamed "berthshift/berthshifttop.TopPlan" =some f) (hfn:Tryz.pinned.checked.prog.funcs[f]? =some fn):
  true=Tryz.pinned.checked.prog.looks []/\ ∀ (j:Nat) t,fn.params[j]? =some t->Tryz.pinned.checked.prog.wantsStandIn t=false:=by
 obtain rfl:f=3:=Option.some.inj ((show Tryz.prog.funcNamed "berthshift/berthshifttop.TopPlan" =some 3 by kernel_rfl).symm.trans hf) |>.symm
 obtain rfl:fn=Tryz.f3:=(Option.some.inj (Tryz.func3.symm.trans hfn)).symm;refine ⟨aa5,λj t ht=>?_⟩;have hall:(Tryz.f3.params.toList.all λt=> !Tryz.prog.wantsStandIn t)=true:=kQ;have hm:t∈Tryz.f3.params.toList:=by simpa using Array.mem_of_getElem? ht
 have h9:Tryz.prog.wantsStandIn t=false:=by simpa using List.all_eq_true.1 hall t hm
 exact h9
theorem VN:false=Rows.topPlanRow.goesBy Tryz.pinned.checked.prog:=kQ
theorem topPlan_holds:Rows.TopPlanCardSaid:=
 Claim7.holds_tied_plain_at .later [] _ _ _ _ VL (λ_ h=>by cases h) kQ (λ_ h=>by cases h) topPlan_row_tie rfl ⟨rfl,rfl⟩ aeK rfl aeT VN
#print axioms topPlan_holds
end Go.Proofs.YtceeleolddkibaaGreatDoor
