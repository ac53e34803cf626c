/- THE LAW 'berthshifttop.TopScripts', CLOSED AND TIED: for every argument that can be read the law returns true, and each argument reads behind the call as before; the package's variable is tied to the program's text. No condition. -/
import Derived.Test.YtcomidffhiilcaaGreatDoorG9c2cf
set_option maxRecDepth 100000
set_option maxHeartbeats 8000000
set_option linter.unusedSimpArgs false
set_option linter.unusedVariables false
namespace Go.Proofs.YtcomidffhiilcaaGreatDoor
open Go.ChangeShapes Go.WideShapes Go.ChangeAt Go.RowKit
theorem Le (os:Os):laidMet Tryz.prog Rows.topScriptsRow.laid ((Dm os).forCall (λ_ _=>0) ⟨#[],#[.slice none 0 0],[]⟩).memory:=
 laidMet_of_run' 8 kQ kQ
theorem Gl (os:Os) {H:Type} (enc:TypeId×Value->H): ∃ places,DataW.whole enc Tryz.prog ((Dm os).forCall (λ_ _=>0) ⟨#[],#[.slice none 0 0],[]⟩).memory Tryz.f3.params.toList Rows.topScriptsSpec.vars false (#[.slice none 0 0]:Array Value).toList 8=some ([.nil],[],places):=
 ⟨[],by kernel_rfl⟩
theorem FB (os:Os) (started:os.Started) (H:Type) (enc:TypeId×Value->H) (F:Stop.Interp):
  ReturnsInHanded {} Tryz.checked os 3 .any ((OpenSpec.ofChange Rows.topScriptsSpec).preRow enc Tryz.prog Tryz.f3 Rows.topScriptsRow.domain false Rows.topScriptsRow.laid) (((OpenSpec.ofChange Rows.topScriptsSpec).at F).post enc Tryz.prog Tryz.f3 false true false false):=by
 obtain ⟨places,hx⟩:=Gl os enc;refine returnsInHanded_of_row (C:=Tryz.checked) (s:=OpenSpec.ofChange Rows.topScriptsSpec) ail started kQ Tryz.func3
  (witness_row_at (enc:=enc) (C:=Tryz.checked) false (Dm os) #[.slice none 0 0] rfl kQ kQ kQ
   (OpenSpec.preRow_of_cond 8 hx kQ (λk hk=>by cases hk) kQ (Le os))) ?_
 intro W base args ds gs before hval hW _ _ hz hL _ _;refine KW (s:=Rows.topScriptsSpec) (bt:=4) kQ rfl kQ Tryz.underlying4 ?_ W base args ds gs before (λh=>Ju W (afn hL) (aa6 hL) (aa7 hL) args h) hval hW hz;intro ds hd;rw [show Tryz.f3.params.toList.length=1 from by kernel_rfl] at hd
 match ds,hd with
 | [d1],_=>rfl
theorem Jv:Ot Tryz.prog 3 Tryz.f3 (OpenSpec.ofChange Rows.topScriptsSpec).bare Rows.topScriptsRow=true:=kQ
theorem Jw:Rows.TopScriptsSaid:=
 OpenClaim.holds_of_cond 3 Tryz.f3 rfl rfl rfl rfl rfl rfl rfl ⟨rfl,rfl,rfl,rfl,rfl⟩ rfl rfl rfl rfl rfl kQ Tryz.func3 (YC Jv VN VO YE kQ)
  (of_decide_eq_true kQ) (by unfold Func.isWrapper;first | (rw [if_pos (by decide+kernel)];kernel_rfl) | (rw [if_neg (by decide+kernel)];exact ⟨rfl,rfl⟩))
  (λos started H enc _ F=>by rw [OpenClaim.pre_eq_preRow];exact FB os started H enc F)
theorem Gm (f:FuncId) (fn:Func) (hf:Tryz.pinned.checked.prog.funcNamed "berthshift/berthshifttop.TopScripts" =some f) (hfn:Tryz.pinned.checked.prog.funcs[f]? =some fn):
  true=Tryz.pinned.checked.prog.looks []/\ ∀ (j:Nat) t,fn.params[j]? =some t->Tryz.pinned.checked.prog.wantsStandIn t=false:=by
 obtain rfl:f=3:=Option.some.inj ((show Tryz.prog.funcNamed "berthshift/berthshifttop.TopScripts" =some 3 by kernel_rfl).symm.trans hf) |>.symm
 obtain rfl:fn=Tryz.f3:=(Option.some.inj (Tryz.func3.symm.trans hfn)).symm;refine ⟨VP,λj t ht=>?_⟩;have hall:(Tryz.f3.params.toList.all λt=> !Tryz.prog.wantsStandIn t)=true:=kQ;have hm:t∈Tryz.f3.params.toList:=by simpa using Array.mem_of_getElem? ht
 have h9:Tryz.prog.wantsStandIn t=false:=by simpa using List.all_eq_true.1 hall t hm
 exact h9
theorem Jy:false=Rows.topScriptsRow.goesBy Tryz.pinned.checked.prog:=kQ
theorem topScripts_holds:Rows.TopScriptsCardSaid:=
 Claim7.holds_tied_plain_at .later [] _ _ _ _ Jw (λ_ h=>by cases h) kQ (λ_ h=>by cases h) topScripts_row_tie rfl ⟨rfl,rfl⟩ YF rfl Gm Jy
#print axioms topScripts_holds
end Go.Proofs.YtcomidffhiilcaaGreatDoor
