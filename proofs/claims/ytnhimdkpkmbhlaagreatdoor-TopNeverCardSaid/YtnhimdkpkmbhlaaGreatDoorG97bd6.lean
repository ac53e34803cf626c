import Derived.Stop.LaidErr
import Derived.Test.YtnhimdkpkmbhlaaGreatDoorGe3f7d
set_option maxRecDepth 100000
set_option maxHeartbeats 8000000
set_option linter.unusedSimpArgs false
set_option linter.unusedVariables false
namespace Go.Proofs.YtnhimdkpkmbhlaaGreatDoor
section
open ChangeShapes WideShapes RowKit
section
variable {Q Q2 Q3 y:Qd} {l:List dI} {i j k:Nat} {a b:dI} {e:Ev}
theorem LP:AO Q (stepM Q e).1/\(stepM Q e).1.ep<=Q.ep+1:=by
 have same: ∀ {Q':Qd},Q'.ep=Q.ep->Q.gv<=Q'.gv->AO Q Q'/\Q'.ep<=Q.ep+1:=λh1 h2=>⟨.inr ⟨h1.symm,h2⟩,by omega⟩;have s0:=same (Q':=Q) rfl (Int.le_refl _);unfold stepM
 split
 ·unfold yt
  split; · exact s0
  split; · exact s0
  split; · exact s0
  exact same rfl (Int.le_refl _)
 split
 ·unfold pz
  split; · exact s0
  split; · exact s0
  exact same rfl (by dsimp only;omega)
 split
 ·unfold za
  split; · exact s0
  split; · exact s0
  exact same rfl (Int.le_refl _)
 unfold Dn
 split; · exact s0
 exact ⟨.inl (by dsimp only;omega),Int.le_refl _⟩
theorem FW (h:rp bT l=some y) (ha:l[i]? =some a):(GN l i).fault=0/\bE a.op=0/\GN l (i+1)=(stepM (GN l i) a.op).1/\a.ans=(stepM (GN l i) a.op).2.1:=by
 have hi:=(List.getElem?_eq_some_iff.1 ha).1;obtain ⟨h1,h2,_⟩:=Kq (XE h i (by omega)) ha;obtain ⟨f1,f2,f3⟩:=Kr h1;rw [f3] at h2;exact ⟨f1,f2,by rw [Vu ha,f3],h2.symm⟩
theorem RI (h:rp bT l=some y) (j:Nat): ∀ d,j+d<=l.length->AO (GN l j) (GN l (j+d))
 | 0,_=>AO.refl
 | d+1,hd=>by
  have hx:l[j+d]? =some l[j+d]:=List.getElem?_eq_getElem (by omega);have h2:=RI h j d (by omega);rw [show j+(d+1)=j+d+1 by omega,(FW h hx).2.2.1];exact h2.trans LP.1
theorem LQ (hk:e.kind=2) (h:(stepM Q e).2.1.code=0):(stepM Q e).2.1.dK=Q.ep/\(stepM Q e).2.1.hno=Q.gv/\(stepM Q e).1.ep=Q.ep/\(stepM Q e).1.gv=Q.gv+1:=by
 have e1:stepM Q e=pz Q:=by unfold stepM;rw [if_neg (by omega),if_pos hk]
 rw [e1] at h⊢;obtain ⟨ep,nx,gv,rs,ls,W⟩:=Q
 cases rs with
 | nil=>exact absurd h (by simp [pz,nN])
 | cons m r=>
  by_cases hg:gv=1073741824
  ·exact absurd h (by simp [pz,hg,nN])
  simp [pz,hg]
theorem QX: ∀ (l:List Ev) {Q:Qd} {an:List iT} {r:Qd×List iT},gG Q an l=some r->r.1.ep<=Q.ep+(l.length:Int)
 | [],Q,an,r,h=>by
  simp only [gG,Option.some.injEq] at h;subst h;simp
 | e::l,Q,an,r,h=>by
  rw [gG] at h
  split at h
  ·rename_i hc
   have h1:=QX l h;rw [(Kr hc.1).2.2] at h1;have:=(LP (Q:=Q) (e:=e)).2;rw [List.length_cons];dsimp only at h1;omega
  cases h
theorem ah4 (l:List Ev):(aK l).1.ep<=(l.length:Int):=by
 have z:bT.ep=0:=rfl;by_cases h:2000<l.length
 ·rw [H6 h];dsimp only;omega
 cases hg:gG bT [] l with
 | none=>rw [Fp h hg];dsimp only;omega
 | some r=>rw [AX h hg];have:=QX l hg;dsimp only;omega
end
section
variable {gs:List Gr} {m r q:Nat} {cr:Bool}
theorem Kt (h:m+6*r<=520) (hq:q<2): ∃ y,rp bT (oN q (iX.run (jv (bG gs m cr) r)).aP)=some y/\y.ep<=540:=by
 obtain ⟨g,k,h1,h2⟩:=Vt (gs:=gs) (cr:=cr) h hq;refine ⟨_,h1.qi.rps,?_⟩;have a:=ah4 (g.G.take g.F);have b:=h1.aiK;rw [List.length_take] at a;omega
theorem Bh (gs:List Gr) (cr:Bool) (h:m+6*r<=520):(iX.run (jv (bG gs m cr) r)).aP.length<=1000000000:=by
 have:=(RH gs h cr).aP;omega
end
end
section
open ChangeShapes WideShapes ChangeAt RowKit
theorem aFb:Tryz.prog.globalNamed "berthshift/cluster.unknown" =some 1:=by kernel_rfl
theorem ah5:(Tryz.prog.globals[1]?).map (·.type)=some 27:=by kernel_rfl
theorem aa6 {W:World} {nm:String} {g:Nat} {d:DataW Unit} {r:List (String×DataW Unit)} (hn:Tryz.prog.globalNamed nm=some g) (ht:(Tryz.prog.globals[g]?).map (·.type)=some 27) (hdd:d= .agg [.lit (.int .i64 (-1)),.lit (.int .i64 0)]) (h:laidMet Tryz.prog ((nm,d)::r) W):
  W.cell? ⟨g,0,none⟩=some (.int .i64 (-1))/\W.cell? ⟨g,1,none⟩=some (.int .i64 0)/\g<W.heap.size:=by
 subst hdd;obtain ⟨ps,⟨g',t',cs,fuel,p,q,hg',ht',hvar,hd,_,_⟩,_⟩:=h;obtain rfl:=Option.some.inj (hn.symm.trans hg');obtain rfl:=Option.some.inj (ht.symm.trans ht');obtain ⟨y0,y1,n,e,hl,h0,h1⟩:=trod_struct2 Tryz.underlying27 hd;obtain ⟨m0,c0,rfl,_⟩:=DataW.trod_int Tryz.underlying3 h0;obtain ⟨m1,c1,rfl,_⟩:=DataW.trod_int Tryz.underlying3 h1;have e1:m0= -1/\m1=0:=by
  have:=congrArg Prod.fst e;simp at this;exact ⟨this.1.symm,this.2.symm⟩
 obtain ⟨rfl,rfl⟩:=e1;have hc1:Tryz.prog.cellsOf 3=1:=by kernel_rfl
 simp only [hc1] at c0 c1;have k0:cs[0]? =some (.int .i64 (-1)):=by
  have:=congrArg (·[0]?) c0;simpa [List.getElem?_take,List.getElem?_drop] using this
 have k1:cs[1]? =some (.int .i64 0):=by
  have:=congrArg (·[0]?) c1;simpa [List.getElem?_take,List.getElem?_drop] using this
 have a0:=(World.var?_cell hn hvar 0).trans k0;have a1:=(World.var?_cell hn hvar 1).trans k1;exact ⟨a0,a1,lt_of_cell a0⟩
theorem yQ {W:World} (h:laidMet Tryz.prog [("berthshift/directory.nowhere",Rows.laid_berthshift_directory_nowhere),("berthshift/cluster.unknown",Rows.laid_berthshift_cluster_unknown)] W):Uk W.heap.size W:=by
 obtain ⟨a,b,c⟩:=aa6 agm Sc rfl h;obtain ⟨a2,b2,c2⟩:=aa6 aFb ah5 rfl (laidMet.tail h);exact ⟨a2,b2,c2,a,b,c⟩
def avA:Obj->Obj
 | .cells _ t frozen=> .cells #[.int .i64 (-1),.int .i64 0] t frozen
 | o=>o
noncomputable def eU (os:Os):World:=
 { World.holding Tryz.prog os ⟨#[],#[],[]⟩ with heap:=((World.holding Tryz.prog os ⟨#[],#[],[]⟩).heap.modify 0 avA).modify 1 avA }
def pX:Char:=Char.ofNat 32
theorem WL (b:List Char):wordsSigns (pX::b)=[]::wordsSigns b:=rfl
theorem zD: ∀ (a b:List Char),a.all (λc=> !(c==pX))=true->wordsSigns (a++pX::b)=a::wordsSigns b
 | [],b,_=>WL b
 | c::a,b,h=>by
  simp only [List.all_cons,Bool.and_eq_true,Bool.not_eq_true',beq_eq_false_iff_ne] at h;have ih:=zD a b h.2;rw [List.cons_append,wordsSigns,ih];intro e;exact h.1 e
theorem ZO {l:List Char} (h1:l.take 8= "harness".toList++[pX]) (h2:((l.drop 8).take 64).all (λc=> !(c==pX))=true) (h3:(l.drop 72).take 5=[pX]++("cut".toList++[pX])):
  ∃ s rest,s=(l.drop 8).take 64/\wordsSigns l= "harness".toList::s:: "cut".toList::rest:=by
 refine ⟨_,wordsSigns (l.drop 77),rfl,?_⟩;generalize hs:(l.drop 8).take 64=s at h2;have e1:l= "harness".toList++pX::(s++pX::("cut".toList++pX::l.drop 77)):=by
  have a1:l.take 8++l.drop 8=l:=List.take_append_drop 8 l;have a2:(l.drop 8).take 64++(l.drop 8).drop 64=l.drop 8:=List.take_append_drop 64 _;have a3:(l.drop 72).take 5++(l.drop 72).drop 5=l.drop 72:=List.take_append_drop 5 _;rw [List.drop_drop] at a2 a3;rw [h3] at a3;rw [h1] at a1;rw [hs] at a2
  calc l=_:=a1.symm
   _=_:=by rw [<-a2,show 8+64=72 from rfl,<-a3];simp
 generalize l.drop 77=r at e1;rw [e1,zD _ _ (by decide),zD _ _ h2,zD _ _ (by decide)]
theorem QY (rest:List (List Char)):stripLifts liftWords ("cut".toList::rest)=([], "cut".toList::rest):=by
 unfold liftWords
 repeat (rw [stripLifts,if_neg (by decide)])
 rw [stripLifts]
section
variable {P:Program} {s:List Char} {rest:List (List Char)} (hw:wordsSigns P.initOrder.toList= "harness".toList::s:: "cut".toList::rest) (hs:isSumSigns s=true)
include hw hs
theorem zF:behindMainWord (wordsSigns P.initOrder.toList)= "cut".toList::rest:=by
 rw [hw,behindMainWord,if_pos (by rw [hs];decide)]
theorem Tm (h1:P.laysLater=false) (h2:P.bearsReflect=false) (h3:P.doorFits []=true):P.mayEnter=true:=by
 unfold Program.mayEnter;rw [zF hw hs];simp only;rw [QY];simp only [h1,h2];rw [h3];simp
theorem OY:P.headLifts=[]:=by
 unfold Program.headLifts;rw [zF hw hs,QY];rfl
theorem Nt:P.liftsFinal=false:=by
 unfold Program.liftsFinal;rw [OY hw hs,zF hw hs];simp only [List.head?_cons];rw [show (some "cut".toList==some "carried".toList)=false by decide]
 rfl
theorem ah6:P.make=some .cut:=by
 unfold Program.make;rw [zF hw hs];simp only;rw [if_neg (by decide),if_pos (by rw [show ("cut".toList== "cut".toList)=true by decide];rfl)]
end
theorem ah7 {P:Program} {s t:List Char} {rest:List (List Char)} (hw:wordsSigns P.initOrder.toList= "harness".toList::s::rest) (hs:isSumSigns s=true) (e:s=t):P.mainIs=some (true,t):=by
 subst e;unfold Program.mainIs;rw [hw];simp [hs]
def uM (P:Program) (f:FuncId) (fn:Func) (s:ChangeSpec) (c:OpenClaim):Bool:=
 c.wf (OpenSpec.ofChange s)&&laidOutB P&&mapsRowed P&&
 fn.params.all (P.readableRec ·)&&namedTie P c.named s.vars&&
 (c.stops==[])&&(P.stops==[])&&(c.knobs==[])&&(P.stopKnobs==[])&&
 (c.inPlace==P.inPlace f)&&(c.unfollowed==P.unfollowed f)&&(c.recurses==P.recurses f)&&(c.named==P.varsNamed f)&&
 (c.maps==(fn.params.toList++s.plain.varTypes P).any (P.mapsRec ·))&&(c.ifaces==(fn.params.toList++s.plain.varTypes P).any (P.ifacesRec ·))&&(c.mapsOut==P.mapsAmong fn.resultTypes.toList)&&
 (c.loops==(fn.params.toList++s.plain.varTypes P).any (P.loopsFrom ·))&&(c.wideKeys==(fn.params.toList++s.plain.varTypes P++fn.resultTypes.toList).any (P.wideKeysFrom ·))&&
 s.vars.all (P.varReadable ·)&&fn.resultTypes.all (λt=>P.readableRec t&&decide (t<P.types.size))&&(c.ifacesOut==fn.resultTypes.toList.any (P.ifacesRec ·))&&(c.loopsOut==fn.resultTypes.toList.any (P.loopsFrom ·))&&(c.plainKeys==P.plainKeys)&&c.shortTexts.isNone&&P.stopsHeard
theorem rY {P:Program} {f:FuncId} {fn:Func} {s:ChangeSpec} {c:OpenClaim} (h:uM P f fn s c=true) (h1:P.mayEnter=true) (h2:(c.lifted==P.liftsFinal)=true) (h3:(P.make==some c.make)=true)
  (h4:((c.kinds==(if c.domain.isEmpty then [] else fn.params.toList.map λt=>match P.underlying t with | some (.int k)=>some k | _=>none))&&(c.pinned==c.pinnedBy)&&
   (c.veiled==(fn.params.toList++s.plain.varTypes P++fn.resultTypes.toList).any (P.veiledRec ·))&&c.veiledFits P fn.params.toList (fn.params.toList++s.plain.varTypes P++fn.resultTypes.toList))=true):joinedFacts P f fn s c=true:=by
 have e:joinedFacts P f fn s c=(uM P f fn s c&&P.mayEnter&&(c.lifted==P.liftsFinal)&&(P.make==some c.make)&&(c.kinds==(if c.domain.isEmpty then [] else fn.params.toList.map λt=>match P.underlying t with | some (.int k)=>some k | _=>none))&&(c.pinned==c.pinnedBy)&&
   (c.veiled==(fn.params.toList++s.plain.varTypes P++fn.resultTypes.toList).any (P.veiledRec ·))&&c.veiledFits P fn.params.toList (fn.params.toList++s.plain.varTypes P++fn.resultTypes.toList)):=rfl
 rw [e,h,h1,h2,h3];simpa using h4
theorem ad5: ∃ l:List Char,Tryz.prog.initOrder.toList=l/\l.take 8= "harness".toList++[pX]/\((l.drop 8).take 64).all (λc=> !(c==pX))=true/\(l.drop 72).take 5=[pX]++("cut".toList++[pX])/\isSumSigns ((l.drop 8).take 64)=true/\(l.drop 8).take 64= "134e0c4ea25d1b98eeba68e0bf89e730a262668337034b200b75432ddc89f18d".toList:=by
 rw [show Tryz.prog.initOrder=Tryz.tables.initOrder by kernel_rfl];unfold Tryz.tables;simp only [];exact ⟨_,String.toList_ofList,by kernel_rfl,by kernel_rfl,by kernel_rfl,by kernel_rfl,by kernel_rfl⟩
theorem CP: ∃ s rest,wordsSigns Tryz.prog.initOrder.toList= "harness".toList::s:: "cut".toList::rest/\isSumSigns s=true/\s= "134e0c4ea25d1b98eeba68e0bf89e730a262668337034b200b75432ddc89f18d".toList:=by
 obtain ⟨l,e,h1,h2,h3,h4,h5⟩:=ad5;obtain ⟨s,rest,es,hw⟩:=ZO h1 h2 h3;subst es;exact ⟨_,rest,by rw [e];exact hw,h4,h5⟩
theorem ZP:Tryz.prog.laysLater=false:=by kernel_rfl
theorem Tn:Tryz.prog.bearsReflect=false:=by kernel_rfl
theorem ZQ:Tryz.prog.doorFits []=true:=by kernel_rfl
theorem oV:Tryz.prog.mayEnter=true:=by
 obtain ⟨s,rest,hw,hs,_⟩:=CP;exact Tm hw hs ZP Tn ZQ
theorem oW:(false==Tryz.prog.liftsFinal)=true:=by
 obtain ⟨s,rest,hw,hs,_⟩:=CP;rw [Nt hw hs];rfl
theorem rZ:(Tryz.prog.make==some .cut)=true:=by
 obtain ⟨s,rest,hw,hs,_⟩:=CP;rw [ah6 hw hs]
 decide
theorem r9:Tryz.prog.mainIs=some (true, "134e0c4ea25d1b98eeba68e0bf89e730a262668337034b200b75432ddc89f18d".toList):=by
 obtain ⟨s,rest,hw,hs,e⟩:=CP;exact ah7 hw hs e
theorem oZ:true=Tryz.pinned.checked.prog.looks []:=by kernel_rfl
end
end Go.Proofs.YtnhimdkpkmbhlaaGreatDoor
