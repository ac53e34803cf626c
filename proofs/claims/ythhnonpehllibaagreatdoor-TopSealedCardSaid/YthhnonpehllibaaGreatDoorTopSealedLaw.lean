/- THE LAW 'berthshifttop.TopSealed', CLOSED AND TIED: for every argument that can be read the law returns true, and each argument reads behind the call as before; the package's variable is tied to the program's text. No condition. -/
import Derived.Test.YthhnonpehllibaaGreatDoorG2155c
import Derived.Test.YthhnonpehllibaaGreatDoorG9e7df
set_option maxRecDepth 100000
set_option maxHeartbeats 8000000
namespace Go.Proofs.YthhnonpehllibaaGreatDoor
open Go.ChangeShapes Go.WideShapes Go.ChangeAt Go.RowKit
theorem MZ (os:Os):laidMet Tryz.prog Rows.topSealedRow.laid ((jm os).forCall (λ_ _=>0) ⟨#[],#[.slice none 0 0],[]⟩).memory:=
 laidMet_of_run' 8 (by kernel_rfl) (by kernel_rfl)
theorem JG (os:Os) {H:Type} (enc:TypeId×Value->H): ∃ places,DataW.whole enc Tryz.prog ((jm os).forCall (λ_ _=>0) ⟨#[],#[.slice none 0 0],[]⟩).memory Tryz.f4.params.toList Rows.topSealedSpec.vars false (#[.slice none 0 0]:Array Value).toList 8=some ([.nil],[],places):=
 ⟨[],by kernel_rfl⟩
theorem GA (os:Os) (started:os.Started) (H:Type) (enc:TypeId×Value->H) (F:Stop.Interp):
  ReturnsInHanded {} Tryz.checked os 4 .any ((OpenSpec.ofChange Rows.topSealedSpec).preRow enc Tryz.prog Tryz.f4 Rows.topSealedRow.domain false Rows.topSealedRow.laid) (((OpenSpec.ofChange Rows.topSealedSpec).at F).post enc Tryz.prog Tryz.f4 false true false false):=by
 obtain ⟨places,hx⟩:=JG os enc;refine returnsInHanded_of_row (C:=Tryz.checked) (s:=OpenSpec.ofChange Rows.topSealedSpec) Il started (by kernel_rfl) Tryz.func4
  (witness_row_at (enc:=enc) (C:=Tryz.checked) false (jm os) #[.slice none 0 0] rfl (by kernel_rfl) (by kernel_rfl) (by kernel_rfl)
   (OpenSpec.preRow_of_cond 8 hx (by kernel_rfl) (λk hk=>by cases hk) (by kernel_rfl) (MZ os))) ?_
 intro W base args ds gs before hval hW _ _ hz hL _ _;refine qj (s:=Rows.topSealedSpec) (bt:=4) (by kernel_rfl) rfl (by kernel_rfl) Tryz.underlying4 ?_ W base args ds gs before (λh=>LK W (Jg hL) args h) hval hW hz;intro ds hd;rw [show Tryz.f4.params.toList.length=1 from by kernel_rfl] at hd
 match ds,hd with
 | [d1],_=>rfl
theorem LP:AP Tryz.prog 4 Tryz.f4 (OpenSpec.ofChange Rows.topSealedSpec).bare Rows.topSealedRow=true:=by kernel_rfl
theorem LQ:Rows.TopSealedSaid:=
 OpenClaim.holds_of_cond 4 Tryz.f4 rfl rfl rfl rfl rfl rfl rfl ⟨rfl,rfl,rfl,rfl,rfl⟩ rfl rfl rfl rfl rfl (by kernel_rfl) Tryz.func4 (BM LP yP yQ BO (by kernel_rfl))
  (of_decide_eq_true (by kernel_rfl)) (by unfold Func.isWrapper;first | (rw [if_pos (by decide+kernel)];kernel_rfl) | (rw [if_neg (by decide+kernel)];exact ⟨rfl,rfl⟩))
  (λos started H enc _ F=>by rw [OpenClaim.pre_eq_preRow];exact GA os started H enc F)
theorem JH (f:FuncId) (fn:Func) (hf:Tryz.pinned.checked.prog.funcNamed "berthshift/berthshifttop.TopSealed" =some f) (hfn:Tryz.pinned.checked.prog.funcs[f]? =some fn):
  true=Tryz.pinned.checked.prog.looks []/\ ∀ (j:Nat) t,fn.params[j]? =some t->Tryz.pinned.checked.prog.wantsStandIn t=false:=by
 obtain rfl:f=4:=Option.some.inj ((show Tryz.prog.funcNamed "berthshift/berthshifttop.TopSealed" =some 4 by kernel_rfl).symm.trans hf) |>.symm
 obtain rfl:fn=Tryz.f4:=(Option.some.inj (Tryz.func4.symm.trans hfn)).symm;refine ⟨yR,λj t ht=>?_⟩;have hall:(Tryz.f4.params.toList.all λt=> !Tryz.prog.wantsStandIn t)=true:=by kernel_rfl
 have hm:t∈Tryz.f4.params.toList:=by simpa using Array.mem_of_getElem? ht
 have h9:Tryz.prog.wantsStandIn t=false:=by simpa using List.all_eq_true.1 hall t hm
 exact h9
theorem LU:false=Rows.topSealedRow.goesBy Tryz.pinned.checked.prog:=by kernel_rfl
theorem topSealed_holds:Rows.TopSealedCardSaid:=
 Claim7.holds_tied_plain_at .later [] _ _ _ _ LQ (λ_ h=>by cases h) (by kernel_rfl) (λ_ h=>by cases h) topSealed_row_tie rfl ⟨rfl,rfl⟩ BP rfl JH LU
#print axioms topSealed_holds
end Go.Proofs.YthhnonpehllibaaGreatDoor
