/- THE LAW 'berthshifttop.TopKept', CLOSED AND TIED: for every argument that can be read the law returns true, and each argument reads behind the call as before; the package's variable is tied to the program's text. No condition. -/
import Derived.Test.YtlfgjcahpppbbaaGreatDoorG59a0d
set_option maxRecDepth 100000
set_option maxHeartbeats 8000000
set_option linter.unusedSimpArgs false
set_option linter.unusedVariables false
namespace Go.Proofs.YtlfgjcahpppbbaaGreatDoor
open Go.ChangeShapes Go.WideShapes Go.ChangeAt Go.RowKit
theorem VA (os:Os):laidMet Tryz.prog Rows.topKeptRow.laid ((rF os).forCall (λ_ _=>0) ⟨#[],#[.slice none 0 0],[]⟩).memory:=
 laidMet_of_run' 8 kQ kQ
theorem ND (os:Os) {H:Type} (enc:TypeId×Value->H): ∃ places,DataW.whole enc Tryz.prog ((rF os).forCall (λ_ _=>0) ⟨#[],#[.slice none 0 0],[]⟩).memory Tryz.f4.params.toList Rows.topKeptSpec.vars false (#[.slice none 0 0]:Array Value).toList 8=some ([.nil],[],places):=
 ⟨[],by kernel_rfl⟩
theorem MC (os:Os) (started:os.Started) (H:Type) (enc:TypeId×Value->H) (F:Stop.Interp):
  ReturnsInHanded {} Tryz.checked os 4 .any ((OpenSpec.ofChange Rows.topKeptSpec).preRow enc Tryz.prog Tryz.f4 Rows.topKeptRow.domain false Rows.topKeptRow.laid) (((OpenSpec.ofChange Rows.topKeptSpec).at F).post enc Tryz.prog Tryz.f4 false true false false):=by
 obtain ⟨places,hx⟩:=ND os enc;refine returnsInHanded_of_row (C:=Tryz.checked) (s:=OpenSpec.ofChange Rows.topKeptSpec) Zr started kQ Tryz.func4
  (witness_row_at (enc:=enc) (C:=Tryz.checked) false (rF os) #[.slice none 0 0] rfl kQ kQ kQ
   (OpenSpec.preRow_of_cond 8 hx kQ (λk hk=>by cases hk) kQ (VA os))) ?_
 intro W base args ds gs before hval hW _ _ hz hL _ _;refine Ch (s:=Rows.topKeptSpec) (bt:=4) kQ rfl kQ Tryz.underlying4 ?_ W base args ds gs before (λh=>RP W (ZW hL) args h) hval hW hz;intro ds hd;rw [show Tryz.f4.params.toList.length=1 from by kernel_rfl] at hd
 match ds,hd with
 | [d1],_=>rfl
theorem RS:IX Tryz.prog 4 Tryz.f4 (OpenSpec.ofChange Rows.topKeptSpec).bare Rows.topKeptRow=true:=kQ
theorem RU:Rows.TopKeptSaid:=
 OpenClaim.holds_of_cond 4 Tryz.f4 rfl rfl rfl rfl rfl rfl rfl ⟨rfl,rfl,rfl,rfl,rfl⟩ rfl rfl rfl rfl rfl kQ Tryz.func4 (Ob RS K3 K4 Oc kQ)
  (of_decide_eq_true kQ) (by unfold Func.isWrapper;first | (rw [if_pos (by decide+kernel)];kernel_rfl) | (rw [if_neg (by decide+kernel)];exact ⟨rfl,rfl⟩))
  (λos started H enc _ F=>by rw [OpenClaim.pre_eq_preRow];exact MC os started H enc F)
theorem NH (f:FuncId) (fn:Func) (hf:Tryz.pinned.checked.prog.funcNamed "berthshift/berthshifttop.TopKept" =some f) (hfn:Tryz.pinned.checked.prog.funcs[f]? =some fn):
  true=Tryz.pinned.checked.prog.looks []/\ ∀ (j:Nat) t,fn.params[j]? =some t->Tryz.pinned.checked.prog.wantsStandIn t=false:=by
 obtain rfl:f=4:=Option.some.inj ((show Tryz.prog.funcNamed "berthshift/berthshifttop.TopKept" =some 4 by kernel_rfl).symm.trans hf) |>.symm
 obtain rfl:fn=Tryz.f4:=(Option.some.inj (Tryz.func4.symm.trans hfn)).symm;refine ⟨K5,λj t ht=>?_⟩;have hall:(Tryz.f4.params.toList.all λt=> !Tryz.prog.wantsStandIn t)=true:=kQ;have hm:t∈Tryz.f4.params.toList:=by simpa using Array.mem_of_getElem? ht
 have h9:Tryz.prog.wantsStandIn t=false:=by simpa using List.all_eq_true.1 hall t hm
 exact h9
theorem RV:false=Rows.topKeptRow.goesBy Tryz.pinned.checked.prog:=kQ
theorem topKept_holds:Rows.TopKeptCardSaid:=
 Claim7.holds_tied_plain_at .later [] _ _ _ _ RU (λ_ h=>by cases h) kQ (λ_ h=>by cases h) topKept_row_tie rfl ⟨rfl,rfl⟩ Od rfl NH RV
#print axioms topKept_holds
end Go.Proofs.YtlfgjcahpppbbaaGreatDoor
