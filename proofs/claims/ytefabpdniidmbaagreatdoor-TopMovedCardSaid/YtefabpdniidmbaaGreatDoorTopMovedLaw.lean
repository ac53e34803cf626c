/- THE LAW 'berthshifttop.TopMoved', CLOSED AND TIED: for every argument that can be read the law returns true, and each argument reads behind the call as before; the package's variable is tied to the program's text. No condition. -/
import Derived.Test.YtefabpdniidmbaaGreatDoorG8edaf
set_option linter.all false
set_option maxRecDepth 100000
set_option maxHeartbeats 8000000
namespace Go.Proofs.YtefabpdniidmbaaGreatDoor
open Go.ChangeShapes Go.WideShapes Go.ChangeAt Go.RowKit
theorem Vh (os:Os):laidMet Tryz.prog Rows.topMovedRow.laid ((FT os).forCall (λ_ _=>0) ⟨#[],#[.slice none 0 0,.int .i64 0,.int .i64 0],[]⟩).memory:=
 laidMet_of_run' 8 kQ kQ
theorem acn (os:Os) {H:Type} (enc:TypeId×Value->H): ∃ places,DataW.whole enc Tryz.prog ((FT os).forCall (λ_ _=>0) ⟨#[],#[.slice none 0 0,.int .i64 0,.int .i64 0],[]⟩).memory Tryz.f4.params.toList Rows.topMovedSpec.vars false (#[.slice none 0 0,.int .i64 0,.int .i64 0]:Array Value).toList 8=some ([.nil,.lit (.int .i64 0),.lit (.int .i64 0)],[],places):=
 ⟨[],by kernel_rfl⟩
theorem abY (os:Os) (started:os.Started) (H:Type) (enc:TypeId×Value->H) (F:Stop.Interp):
  ReturnsInHanded {} Tryz.checked os 4 .any ((OpenSpec.ofChange Rows.topMovedSpec).preRow enc Tryz.prog Tryz.f4 Rows.topMovedRow.domain false Rows.topMovedRow.laid) (((OpenSpec.ofChange Rows.topMovedSpec).at F).post enc Tryz.prog Tryz.f4 false true false false):=by
 obtain ⟨places,hx⟩:=acn os enc;refine returnsInHanded_of_row (C:=Tryz.checked) (s:=OpenSpec.ofChange Rows.topMovedSpec) anJ started kQ Tryz.func4
  (witness_row_at (enc:=enc) (C:=Tryz.checked) false (FT os) #[.slice none 0 0,.int .i64 0,.int .i64 0] rfl kQ kQ kQ
   (OpenSpec.preRow_of_cond 8 hx kQ (λk hk=>by cases hk) kQ (Vh os))) ?_
 intro W base args ds gs before hval hW _ _ hz hL _ _;refine aci (s:=Rows.topMovedSpec) (bt:=4) kQ rfl kQ Tryz.underlying4 ?_ W base args ds gs before (λh=>aeg W (aon hL) args h) hval hW hz;intro ds hd;rw [show Tryz.f4.params.toList.length=3 from by kernel_rfl] at hd
 match ds,hd with
 | [d1,d2,d3],_=>rfl
theorem aen:SK Tryz.prog 4 Tryz.f4 (OpenSpec.ofChange Rows.topMovedSpec).bare Rows.topMovedRow=true:=kQ
theorem aeo:Rows.TopMovedSaid:=
 OpenClaim.holds_of_cond 4 Tryz.f4 rfl rfl rfl rfl rfl rfl rfl ⟨rfl,rfl,rfl,rfl,rfl⟩ rfl rfl rfl rfl rfl kQ Tryz.func4 (adK aen aav aaw adM kQ)
  (of_decide_eq_true kQ) (by unfold Func.isWrapper;first | (rw [if_pos (by decide+kernel)];kernel_rfl) | (rw [if_neg (by decide+kernel)];exact ⟨rfl,rfl⟩))
  (λos started H enc _ F=>by rw [OpenClaim.pre_eq_preRow];exact abY os started H enc F)
theorem acr (f:FuncId) (fn:Func) (hf:Tryz.pinned.checked.prog.funcNamed "berthshift/berthshifttop.TopMoved" =some f) (hfn:Tryz.pinned.checked.prog.funcs[f]? =some fn):
  true=Tryz.pinned.checked.prog.looks []/\ ∀ (j:Nat) t,fn.params[j]? =some t->Tryz.pinned.checked.prog.wantsStandIn t=false:=by
 obtain rfl:f=4:=Option.some.inj ((show Tryz.prog.funcNamed "berthshift/berthshifttop.TopMoved" =some 4 by kernel_rfl).symm.trans hf) |>.symm
 obtain rfl:fn=Tryz.f4:=(Option.some.inj (Tryz.func4.symm.trans hfn)).symm;refine ⟨aax,λj t ht=>?_⟩;have hall:(Tryz.f4.params.toList.all λt=> !Tryz.prog.wantsStandIn t)=true:=kQ;have hm:t∈Tryz.f4.params.toList:=by simpa using Array.mem_of_getElem? ht
 have h9:Tryz.prog.wantsStandIn t=false:=by simpa using List.all_eq_true.1 hall t hm
 exact h9
theorem aex:false=Rows.topMovedRow.goesBy Tryz.pinned.checked.prog:=kQ
theorem topMoved_holds:Rows.TopMovedCardSaid:=
 Claim7.holds_tied_plain_at .later [] _ _ _ _ aeo (λ_ h=>by cases h) kQ (λ_ h=>by cases h) topMoved_row_tie rfl ⟨rfl,rfl⟩ adN rfl acr aex
#print axioms topMoved_holds
end Go.Proofs.YtefabpdniidmbaaGreatDoor
