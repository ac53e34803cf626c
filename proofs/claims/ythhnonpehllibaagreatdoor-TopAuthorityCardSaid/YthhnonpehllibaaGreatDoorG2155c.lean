import Derived.Test.YthhnonpehllibaaGreatDoorG68797
set_option maxRecDepth 100000
set_option maxHeartbeats 8000000
namespace Go.Proofs.YthhnonpehllibaaGreatDoor
open ChangeShapes WideShapes ChangeAt RowKit
theorem XF {l:List Char} (h1:l.take 8= "harness".toList++[oP]) (h2:((l.drop 8).take 64).all (λc=> !(c==oP))=true) (h3:(l.drop 72).take 5=[oP]++("cut".toList++[oP])):
  ∃ s rest,s=(l.drop 8).take 64/\wordsSigns l= "harness".toList::s:: "cut".toList::rest:=by
 refine ⟨_,wordsSigns (l.drop 77),rfl,?_⟩;generalize hs:(l.drop 8).take 64=s at h2;have e1:l= "harness".toList++oP::(s++oP::("cut".toList++oP::l.drop 77)):=by
  have a1:l.take 8++l.drop 8=l:=List.take_append_drop 8 l;have a2:(l.drop 8).take 64++(l.drop 8).drop 64=l.drop 8:=List.take_append_drop 64 _;have a3:(l.drop 72).take 5++(l.drop 72).drop 5=l.drop 72:=List.take_append_drop 5 _;rw [List.drop_drop] at a2 a3;rw [h3] at a3;rw [h1] at a1;rw [hs] at a2
  calc l=_:=a1.symm
   _=_:=by rw [<-a2,show 8+64=72 from rfl,<-a3];simp
 generalize l.drop 77=r at e1;rw [e1,yN _ _ (by decide),yN _ _ h2,yN _ _ (by decide)]
theorem OH (rest:List (List Char)):stripLifts liftWords ("cut".toList::rest)=([], "cut".toList::rest):=by
 unfold liftWords
 repeat (rw [stripLifts,if_neg (by decide)])
 rw [stripLifts]
section
variable {P:Program} {s:List Char} {rest:List (List Char)} (hw:wordsSigns P.initOrder.toList= "harness".toList::s:: "cut".toList::rest) (hs:isSumSigns s=true)
include hw hs
theorem yO:behindMainWord (wordsSigns P.initOrder.toList)= "cut".toList::rest:=by
 rw [hw,behindMainWord,if_pos (by rw [hs];decide)]
theorem QJ (h1:P.laysLater=false) (h2:P.bearsReflect=false) (h3:P.doorFits []=true):P.mayEnter=true:=by
 unfold Program.mayEnter;rw [yO hw hs];simp only;rw [OH];simp only [h1,h2];rw [h3];simp
theorem MV:P.headLifts=[]:=by
 unfold Program.headLifts;rw [yO hw hs,OH];rfl
theorem LH:P.liftsFinal=false:=by
 unfold Program.liftsFinal;rw [MV hw hs,yO hw hs];simp only [List.head?_cons];rw [show (some "cut".toList==some "carried".toList)=false by decide]
 rfl
theorem afh:P.make=some .cut:=by
 unfold Program.make;rw [yO hw hs];simp only;rw [if_neg (by decide),if_pos (by rw [show ("cut".toList== "cut".toList)=true by decide];rfl)]
end
theorem afi {P:Program} {s t:List Char} {rest:List (List Char)} (hw:wordsSigns P.initOrder.toList= "harness".toList::s::rest) (hs:isSumSigns s=true) (e:s=t):P.mainIs=some (true,t):=by
 subst e;unfold Program.mainIs;rw [hw];simp [hs]
def AP (P:Program) (f:FuncId) (fn:Func) (s:ChangeSpec) (c:OpenClaim):Bool:=
 c.wf (OpenSpec.ofChange s)&&laidOutB P&&mapsRowed P&&
 fn.params.all (P.readableRec ·)&&namedTie P c.named s.vars&&
 (c.stops==[])&&(P.stops==[])&&(c.knobs==[])&&(P.stopKnobs==[])&&
 (c.inPlace==P.inPlace f)&&(c.unfollowed==P.unfollowed f)&&(c.recurses==P.recurses f)&&(c.named==P.varsNamed f)&&
 (c.maps==(fn.params.toList++s.plain.varTypes P).any (P.mapsRec ·))&&(c.ifaces==(fn.params.toList++s.plain.varTypes P).any (P.ifacesRec ·))&&(c.mapsOut==P.mapsAmong fn.resultTypes.toList)&&
 (c.loops==(fn.params.toList++s.plain.varTypes P).any (P.loopsFrom ·))&&(c.wideKeys==(fn.params.toList++s.plain.varTypes P++fn.resultTypes.toList).any (P.wideKeysFrom ·))&&
 s.vars.all (P.varReadable ·)&&fn.resultTypes.all (λt=>P.readableRec t&&decide (t<P.types.size))&&(c.ifacesOut==fn.resultTypes.toList.any (P.ifacesRec ·))&&(c.loopsOut==fn.resultTypes.toList.any (P.loopsFrom ·))&&(c.plainKeys==P.plainKeys)&&c.shortTexts.isNone&&P.stopsHeard
theorem BM {P:Program} {f:FuncId} {fn:Func} {s:ChangeSpec} {c:OpenClaim} (h:AP P f fn s c=true) (h1:P.mayEnter=true) (h2:(c.lifted==P.liftsFinal)=true) (h3:(P.make==some c.make)=true)
  (h4:((c.kinds==(if c.domain.isEmpty then [] else fn.params.toList.map λt=>match P.underlying t with | some (.int k)=>some k | _=>none))&&(c.pinned==c.pinnedBy)&&
   (c.veiled==(fn.params.toList++s.plain.varTypes P++fn.resultTypes.toList).any (P.veiledRec ·))&&c.veiledFits P fn.params.toList (fn.params.toList++s.plain.varTypes P++fn.resultTypes.toList))=true):joinedFacts P f fn s c=true:=by
 have e:joinedFacts P f fn s c=(AP P f fn s c&&P.mayEnter&&(c.lifted==P.liftsFinal)&&(P.make==some c.make)&&(c.kinds==(if c.domain.isEmpty then [] else fn.params.toList.map λt=>match P.underlying t with | some (.int k)=>some k | _=>none))&&(c.pinned==c.pinnedBy)&&
   (c.veiled==(fn.params.toList++s.plain.varTypes P++fn.resultTypes.toList).any (P.veiledRec ·))&&c.veiledFits P fn.params.toList (fn.params.toList++s.plain.varTypes P++fn.resultTypes.toList)):=rfl
 rw [e,h,h1,h2,h3];simpa using h4
theorem abC: ∃ l:List Char,Tryz.prog.initOrder.toList=l/\l.take 8= "harness".toList++[oP]/\((l.drop 8).take 64).all (λc=> !(c==oP))=true/\(l.drop 72).take 5=[oP]++("cut".toList++[oP])/\isSumSigns ((l.drop 8).take 64)=true/\(l.drop 8).take 64= "7a44caa82cd64af4f9ae81448aa3717c86f948a1001f2fe238b98c5763730843".toList:=by
 rw [show Tryz.prog.initOrder=Tryz.tables.initOrder by kernel_rfl];unfold Tryz.tables;simp only [];exact ⟨_,String.toList_ofList,by kernel_rfl,by kernel_rfl,by kernel_rfl,by kernel_rfl,by kernel_rfl⟩
theorem BN: ∃ s rest,wordsSigns Tryz.prog.initOrder.toList= "harness".toList::s:: "cut".toList::rest/\isSumSigns s=true/\s= "7a44caa82cd64af4f9ae81448aa3717c86f948a1001f2fe238b98c5763730843".toList:=by
 obtain ⟨l,e,h1,h2,h3,h4,h5⟩:=abC;obtain ⟨s,rest,es,hw⟩:=XF h1 h2 h3;subst es;exact ⟨_,rest,by rw [e];exact hw,h4,h5⟩
theorem XG:Tryz.prog.laysLater=false:=by kernel_rfl
theorem QK:Tryz.prog.bearsReflect=false:=by kernel_rfl
theorem XH:Tryz.prog.doorFits []=true:=by kernel_rfl
theorem yP:Tryz.prog.mayEnter=true:=by
 obtain ⟨s,rest,hw,hs,_⟩:=BN;exact QJ hw hs XG QK XH
theorem yQ:(false==Tryz.prog.liftsFinal)=true:=by
 obtain ⟨s,rest,hw,hs,_⟩:=BN;rw [LH hw hs];rfl
theorem BO:(Tryz.prog.make==some .cut)=true:=by
 obtain ⟨s,rest,hw,hs,_⟩:=BN;rw [afh hw hs]
 decide
theorem BP:Tryz.prog.mainIs=some (true, "7a44caa82cd64af4f9ae81448aa3717c86f948a1001f2fe238b98c5763730843".toList):=by
 obtain ⟨s,rest,hw,hs,e⟩:=BN;exact afi hw hs e
theorem yR:true=Tryz.pinned.checked.prog.looks []:=by kernel_rfl
end Go.Proofs.YthhnonpehllibaaGreatDoor
