/- THE LAW 'berthshiftlaw.ClusterRefuses', CLOSED AND TIED: for every argument that can be read the law returns true, and each argument reads behind the call as before; the package's variable is tied to the program's text. No condition. -/
import Derived.Test.YtbffmhpkenoogaaGreatDoorG79e91a45a79b
import Derived.Test.YtbffmhpkenoogaaGreatDoorGfe12fa7339af
import Derived.Test.YtbffmhpkenoogaaGreatDoorGa2ef8a1cb790
set_option linter.unusedVariables false
set_option linter.unusedSimpArgs false
set_option linter.unnecessarySimpa false
set_option maxRecDepth 100000
set_option maxHeartbeats 8000000
namespace Go.Proofs.YtbffmhpkenoogaaGreatDoor
open Go.ChangeShapes Go.WideShapes Go.ChangeAt Go.RowKit
theorem Bu (os:Os):laidMet Tryz.prog Rows.clusterRefusesRow.laid ((AX os).forCall (fun _ _=>0) ⟨#[],#[.slice none 0 0],[]⟩).memory:=
 laidMet_of_run' 8 (by kernel_rfl) (by kernel_rfl)
theorem zx (os:Os) {H:Type} (enc:TypeId×Value→H): ∃ places,DataW.whole enc Tryz.prog ((AX os).forCall (fun _ _=>0) ⟨#[],#[.slice none 0 0],[]⟩).memory Tryz.f6.params.toList Rows.clusterRefusesSpec.vars false (#[.slice none 0 0]:Array Value).toList 8=some ([.nil],[],places):=
 ⟨[],by kernel_rfl⟩
theorem yj (os:Os) (started:os.Started) (H:Type) (enc:TypeId×Value→H) (F:Stop.Interp):
  ReturnsInHanded {} Tryz.checked os 6 .any ((OpenSpec.ofChange Rows.clusterRefusesSpec).preRow enc Tryz.prog Tryz.f6 Rows.clusterRefusesRow.domain false Rows.clusterRefusesRow.laid) (((OpenSpec.ofChange Rows.clusterRefusesSpec).at F).post enc Tryz.prog Tryz.f6 false true false false):=by
 obtain ⟨places,hx⟩:=zx os enc;refine returnsInHanded_of_row (C:=Tryz.checked) (s:=OpenSpec.ofChange Rows.clusterRefusesSpec) adF started (by kernel_rfl) Tryz.func6
  (witness_row_at (enc:=enc) (C:=Tryz.checked) false (AX os) #[.slice none 0 0] rfl (by kernel_rfl) (by kernel_rfl) (by kernel_rfl)
   (OpenSpec.preRow_of_cond 8 hx (by kernel_rfl) (fun k hk=>by cases hk) (by kernel_rfl) (Bu os))) ?_
 intro W base args ds gs before hval hW _ _ hz hL _ _;refine H9 (s:=Rows.clusterRefusesSpec) (bt:=4) (by kernel_rfl) rfl (by kernel_rfl) Tryz.underlying4 ?_ W base args ds gs before (fun h=>Af W (afU hL) args h) hval hW hz;intro ds hd;rw [show Tryz.f6.params.toList.length=1 from by kernel_rfl] at hd
 match ds,hd with
 | [d1],_=>rfl
theorem Ag:KJ Tryz.prog 6 Tryz.f6 (OpenSpec.ofChange Rows.clusterRefusesSpec).bare Rows.clusterRefusesRow=true:=by kernel_rfl
theorem Ah:Rows.ClusterRefusesSaid:=
 OpenClaim.holds_of_cond 6 Tryz.f6 rfl rfl rfl rfl rfl rfl rfl ⟨rfl,rfl,rfl,rfl,rfl⟩ rfl rfl rfl rfl rfl (by kernel_rfl) Tryz.func6 (Ve Ag RY RZ Vg (by kernel_rfl))
  (of_decide_eq_true (by kernel_rfl)) (by unfold Func.isWrapper;first | (rw [if_pos (by decide+kernel)];kernel_rfl) | (rw [if_neg (by decide+kernel)];exact ⟨rfl,rfl⟩))
  (fun os started H enc _ F=>by rw [OpenClaim.pre_eq_preRow];exact yj os started H enc F)
theorem zy (f:FuncId) (fn:Func) (hf:Tryz.pinned.checked.prog.funcNamed "berthshift/berthshiftlaw.ClusterRefuses" =some f) (hfn:Tryz.pinned.checked.prog.funcs[f]? =some fn):
  true=Tryz.pinned.checked.prog.looks []∧ ∀ (j:Nat) t,fn.params[j]? =some t→Tryz.pinned.checked.prog.wantsStandIn t=false:=by
 obtain rfl:f=6:=Option.some.inj ((show Tryz.prog.funcNamed "berthshift/berthshiftlaw.ClusterRefuses" =some 6 by kernel_rfl).symm.trans hf) |>.symm
 obtain rfl:fn=Tryz.f6:=(Option.some.inj (Tryz.func6.symm.trans hfn)).symm;refine ⟨R4,fun j t ht=>?_⟩;have hall:(Tryz.f6.params.toList.all fun t=> !Tryz.prog.wantsStandIn t)=true:=by kernel_rfl
 have hm:t∈Tryz.f6.params.toList:=by simpa using Array.mem_of_getElem? ht
 have h9:Tryz.prog.wantsStandIn t=false:=by simpa using List.all_eq_true.1 hall t hm
 exact h9
theorem Ai:false=Rows.clusterRefusesRow.goesBy Tryz.pinned.checked.prog:=by kernel_rfl
theorem clusterRefuses_holds:Rows.ClusterRefusesCardSaid:=
 Claim7.holds_tied_plain_at .later [] _ _ _ _ Ah (fun _ h=>by cases h) (by kernel_rfl) (fun _ h=>by cases h) clusterRefuses_row_tie rfl ⟨rfl,rfl⟩ Vh rfl zy Ai
#print axioms clusterRefuses_holds
end Go.Proofs.YtbffmhpkenoogaaGreatDoor
