/- THE LAW 'berthshifttop.TopWhole', CLOSED AND TIED: for every argument that can be read the law returns true, and each argument reads behind the call as before; the package's variable is tied to the program's text. No condition. -/
import Derived.Test.YthhnonpehllibaaGreatDoorGfe0e2
set_option maxRecDepth 100000
set_option maxHeartbeats 8000000
set_option linter.unusedSimpArgs false
set_option linter.unusedVariables false
namespace Go.Proofs.YthhnonpehllibaaGreatDoor
open Go.ChangeShapes Go.WideShapes Go.ChangeAt Go.RowKit
theorem Qy (os:Os):laidMet Tryz.prog Rows.topWholeRow.laid ((kY os).forCall (λ_ _=>0) ⟨#[],#[.slice none 0 0],[]⟩).memory:=
 laidMet_of_run' 8 (by kernel_rfl) (by kernel_rfl)
theorem Lv (os:Os) {H:Type} (enc:TypeId×Value->H): ∃ places,DataW.whole enc Tryz.prog ((kY os).forCall (λ_ _=>0) ⟨#[],#[.slice none 0 0],[]⟩).memory Tryz.f6.params.toList Rows.topWholeSpec.vars false (#[.slice none 0 0]:Array Value).toList 8=some ([.nil],[],places):=
 ⟨[],by kernel_rfl⟩
theorem Jw (os:Os) (started:os.Started) (H:Type) (enc:TypeId×Value->H) (F:Stop.Interp):
  ReturnsInHanded {} Tryz.checked os 6 .any ((OpenSpec.ofChange Rows.topWholeSpec).preRow enc Tryz.prog Tryz.f6 Rows.topWholeRow.domain false Rows.topWholeRow.laid) (((OpenSpec.ofChange Rows.topWholeSpec).at F).post enc Tryz.prog Tryz.f6 false true false false):=by
 obtain ⟨places,hx⟩:=Lv os enc;refine returnsInHanded_of_row (C:=Tryz.checked) (s:=OpenSpec.ofChange Rows.topWholeSpec) Ov started (by kernel_rfl) Tryz.func6
  (witness_row_at (enc:=enc) (C:=Tryz.checked) false (kY os) #[.slice none 0 0] rfl (by kernel_rfl) (by kernel_rfl) (by kernel_rfl)
   (OpenSpec.preRow_of_cond 8 hx (by kernel_rfl) (λk hk=>by cases hk) (by kernel_rfl) (Qy os))) ?_
 intro W base args ds gs before hval hW _ _ hz hL _ _;refine uU (s:=Rows.topWholeSpec) (bt:=4) (by kernel_rfl) rfl (by kernel_rfl) Tryz.underlying4 ?_ W base args ds gs before (λh=>MH W (O8 hL) args h) hval hW hz;intro ds hd;rw [show Tryz.f6.params.toList.length=1 from by kernel_rfl] at hd
 match ds,hd with
 | [d1],_=>rfl
theorem MJ:DJ Tryz.prog 6 Tryz.f6 (OpenSpec.ofChange Rows.topWholeSpec).bare Rows.topWholeRow=true:=by kernel_rfl
theorem MK:Rows.TopWholeSaid:=
 OpenClaim.holds_of_cond 6 Tryz.f6 rfl rfl rfl rfl rfl rfl rfl ⟨rfl,rfl,rfl,rfl,rfl⟩ rfl rfl rfl rfl rfl (by kernel_rfl) Tryz.func6 (Gm MJ Df Dg Gn (by kernel_rfl))
  (of_decide_eq_true (by kernel_rfl)) (by unfold Func.isWrapper;first | (rw [if_pos (by decide+kernel)];kernel_rfl) | (rw [if_neg (by decide+kernel)];exact ⟨rfl,rfl⟩))
  (λos started H enc _ F=>by rw [OpenClaim.pre_eq_preRow];exact Jw os started H enc F)
theorem Lx (f:FuncId) (fn:Func) (hf:Tryz.pinned.checked.prog.funcNamed "berthshift/berthshifttop.TopWhole" =some f) (hfn:Tryz.pinned.checked.prog.funcs[f]? =some fn):
  true=Tryz.pinned.checked.prog.looks []/\ ∀ (j:Nat) t,fn.params[j]? =some t->Tryz.pinned.checked.prog.wantsStandIn t=false:=by
 obtain rfl:f=6:=Option.some.inj ((show Tryz.prog.funcNamed "berthshift/berthshifttop.TopWhole" =some 6 by kernel_rfl).symm.trans hf) |>.symm
 obtain rfl:fn=Tryz.f6:=(Option.some.inj (Tryz.func6.symm.trans hfn)).symm;refine ⟨Dh,λj t ht=>?_⟩;have hall:(Tryz.f6.params.toList.all λt=> !Tryz.prog.wantsStandIn t)=true:=by kernel_rfl
 have hm:t∈Tryz.f6.params.toList:=by simpa using Array.mem_of_getElem? ht
 have h9:Tryz.prog.wantsStandIn t=false:=by simpa using List.all_eq_true.1 hall t hm
 exact h9
theorem ML:false=Rows.topWholeRow.goesBy Tryz.pinned.checked.prog:=by kernel_rfl
theorem topWhole_holds:Rows.TopWholeCardSaid:=
 Claim7.holds_tied_plain_at .later [] _ _ _ _ MK (λ_ h=>by cases h) (by kernel_rfl) (λ_ h=>by cases h) topWhole_row_tie rfl ⟨rfl,rfl⟩ Gp rfl Lx ML
#print axioms topWhole_holds
end Go.Proofs.YthhnonpehllibaaGreatDoor
