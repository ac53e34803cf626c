import Derived.Test.YthhnonpehllibaaGreatDoorG86267
import Derived.Test.YthhnonpehllibaaGreatDoorGfb90c
set_option maxRecDepth 100000
set_option maxHeartbeats 8000000
set_option linter.unusedSimpArgs false
set_option linter.unusedVariables false
namespace Go.Proofs.YthhnonpehllibaaGreatDoor
section
open ChangeShapes WideShapes ChangeAt RowKit
def DJ (P:Program) (f:FuncId) (fn:Func) (s:ChangeSpec) (c:OpenClaim):Bool:=
 c.wf (OpenSpec.ofChange s)&&laidOutB P&&mapsRowed P&&
 fn.params.all (P.readableRec ·)&&namedTie P c.named s.vars&&
 (c.stops==[])&&(P.stops==[])&&(c.knobs==[])&&(P.stopKnobs==[])&&
 (c.inPlace==P.inPlace f)&&(c.unfollowed==P.unfollowed f)&&(c.recurses==P.recurses f)&&(c.named==P.varsNamed f)&&
 (c.maps==(fn.params.toList++s.plain.varTypes P).any (P.mapsRec ·))&&(c.ifaces==(fn.params.toList++s.plain.varTypes P).any (P.ifacesRec ·))&&(c.mapsOut==P.mapsAmong fn.resultTypes.toList)&&
 (c.loops==(fn.params.toList++s.plain.varTypes P).any (P.loopsFrom ·))&&(c.wideKeys==(fn.params.toList++s.plain.varTypes P++fn.resultTypes.toList).any (P.wideKeysFrom ·))&&
 s.vars.all (P.varReadable ·)&&fn.resultTypes.all (λt=>P.readableRec t&&decide (t<P.types.size))&&(c.ifacesOut==fn.resultTypes.toList.any (P.ifacesRec ·))&&(c.loopsOut==fn.resultTypes.toList.any (P.loopsFrom ·))&&(c.plainKeys==P.plainKeys)&&c.shortTexts.isNone&&P.stopsHeard
theorem Gm {P:Program} {f:FuncId} {fn:Func} {s:ChangeSpec} {c:OpenClaim} (h:DJ P f fn s c=true) (h1:P.mayEnter=true) (h2:(c.lifted==P.liftsFinal)=true) (h3:(P.make==some c.make)=true)
  (h4:((c.kinds==(if c.domain.isEmpty then [] else fn.params.toList.map λt=>match P.underlying t with | some (.int k)=>some k | _=>none))&&(c.pinned==c.pinnedBy)&&
   (c.veiled==(fn.params.toList++s.plain.varTypes P++fn.resultTypes.toList).any (P.veiledRec ·))&&c.veiledFits P fn.params.toList (fn.params.toList++s.plain.varTypes P++fn.resultTypes.toList))=true):joinedFacts P f fn s c=true:=by
 have e:joinedFacts P f fn s c=(DJ P f fn s c&&P.mayEnter&&(c.lifted==P.liftsFinal)&&(P.make==some c.make)&&(c.kinds==(if c.domain.isEmpty then [] else fn.params.toList.map λt=>match P.underlying t with | some (.int k)=>some k | _=>none))&&(c.pinned==c.pinnedBy)&&
   (c.veiled==(fn.params.toList++s.plain.varTypes P++fn.resultTypes.toList).any (P.veiledRec ·))&&c.veiledFits P fn.params.toList (fn.params.toList++s.plain.varTypes P++fn.resultTypes.toList)):=rfl
 rw [e,h,h1,h2,h3];simpa using h4
theorem abH: ∃ l:List Char,Tryz.prog.initOrder.toList=l/\l.take 8= "harness".toList++[oM]/\((l.drop 8).take 64).all (λc=> !(c==oM))=true/\(l.drop 72).take 5=[oM]++("cut".toList++[oM])/\isSumSigns ((l.drop 8).take 64)=true/\(l.drop 8).take 64= "7a44caa82cd64af4f9ae81448aa3717c86f948a1001f2fe238b98c5763730843".toList:=by
 rw [show Tryz.prog.initOrder=Tryz.tables.initOrder by kernel_rfl];unfold Tryz.tables;simp only [];exact ⟨_,String.toList_ofList,by kernel_rfl,by kernel_rfl,by kernel_rfl,by kernel_rfl,by kernel_rfl⟩
theorem Bw: ∃ s rest,wordsSigns Tryz.prog.initOrder.toList= "harness".toList::s:: "cut".toList::rest/\isSumSigns s=true/\s= "7a44caa82cd64af4f9ae81448aa3717c86f948a1001f2fe238b98c5763730843".toList:=by
 obtain ⟨l,e,h1,h2,h3,h4,h5⟩:=abH;obtain ⟨s,rest,es,hw⟩:=Xr h1 h2 h3;subst es;exact ⟨_,rest,by rw [e];exact hw,h4,h5⟩
theorem Xt:Tryz.prog.laysLater=false:=by kernel_rfl
theorem Qu:Tryz.prog.bearsReflect=false:=by kernel_rfl
theorem Xu:Tryz.prog.doorFits []=true:=by kernel_rfl
theorem Df:Tryz.prog.mayEnter=true:=by
 obtain ⟨s,rest,hw,hs,_⟩:=Bw;exact Qt hw hs Xt Qu Xu
theorem Dg:(false==Tryz.prog.liftsFinal)=true:=by
 obtain ⟨s,rest,hw,hs,_⟩:=Bw;rw [Ll hw hs];rfl
theorem Gn:(Tryz.prog.make==some .cut)=true:=by
 obtain ⟨s,rest,hw,hs,_⟩:=Bw;rw [afI hw hs]
 decide
theorem Gp:Tryz.prog.mainIs=some (true, "7a44caa82cd64af4f9ae81448aa3717c86f948a1001f2fe238b98c5763730843".toList):=by
 obtain ⟨s,rest,hw,hs,e⟩:=Bw;exact afJ hw hs e
theorem Dh:true=Tryz.pinned.checked.prog.looks []:=by kernel_rfl
end
section
open ChangeShapes WideShapes RowKit
theorem Ez (A A':Option Addr) (n c n' c':Nat) (l l':List Ev) (w:World) (h:Rd w w.heap.size 6 A n (aN l)) (h':Rd w w.heap.size 6 A' n' (aN l')) (hm:n<=2000) (hm':n'<=2000):
  Calls Tryz.prog 11 #[.slice A n c,.slice A' n' c'] w λe w'=>e= .returned (.int .i64 (iq l l':Nat))/\Below w.heap.size w w':=
 (Po A A' n c n' c' l l' w h h' (by unfold maxLen;omega) (by unfold maxLen;omega)).mono λ_ _ ⟨h1,q,h2⟩=>⟨h1,h2▸EB (Below.refl _ w) q⟩
theorem KU: ∀ (a b:List Ev),iq a (a++b)=a.length
 | [],_=>by simp [iq]
 | x::a,b=>by
  rw [List.cons_append,iq,if_pos rfl,KU a b,List.length_cons]
theorem wm {G:List Ev} {i j:Nat} (h:i<=j):iq (G.take i) (G.take j)=(G.take i).length:=by
 have e:G.take j=G.take i++(G.drop i).take (j-i):=by
  have:=List.take_add (l:=G) (i:=i) (j:=j-i);rwa [Nat.add_sub_cancel' h] at this
 rw [e];exact KU _ _
section
variable {m:Cl} {q n k:Nat} {g:Gh}
theorem LW.whole (h:LW m q g k) (hn:n<5) (h3:((m.ah n).view q).role=3): ∃ t:Nat,t<5/\((m.ah n).view q).tg=((t:Nat):Int)/\
  (og ((m.ah t).view q)->((m.ah t).view q).ep=((m.ah n).view q).ep+1->iq ((m.ah n).view q).evs ((m.ah t).view q).evs=((m.ah n).view q).evs.length/\((m.ah t).view q).evs[((m.ah n).view q).evs.length]? =some aM):=by
 have I:=h.qi;have hv: ∀ j,vw m q j=(m.ah j).view q:=λ_=>rfl;have ha:=I.zT;have hG:=I.KG;rw [hv] at ha hG;by_cases hno:n=g.o
 ·subst hno;obtain ⟨_,_,h4,h5⟩:=I.Uz (by rw [hv,h3];decide);rw [hv] at h4 h5;obtain ⟨t,ht⟩:=Int.eq_ofNat_of_zero_le h4;refine ⟨t,by omega,ht,λhc he=>?_⟩
  exfalso
  rcases hc with hc | hc
  ·have:=(h.aV (n:=t) (by omega) hc).2;omega
  have:=(h.ak1 (n:=t) (by omega) hc).1;omega
 have hO:=I.uN n hn hno;rw [hv] at hO
 rcases hO with ⟨r,_⟩ | ⟨j,r1,r2,r3,r4,r5,r6,r7⟩ | ⟨i,r,_⟩
 ·omega
 ·have ht5:=I.QV (j+1) (by omega) (by omega);refine ⟨g.own (j+1),ht5,r7,λhc he=>?_⟩;obtain ⟨b1,b2⟩:=I.brk j r3 r4;have hl:=I.LM r3 r4;have hln:(g.G.take (g.len j)).length=g.len j:=by rw [List.length_take];omega
  rcases Nat.lt_or_ge (j+1) g.m with hj | hj
  ·have asP:g.own (j+1)≠g.o:=λe=>by rw [e] at he;omega
   have hO2:=I.uN _ ht5 asP;rw [hv] at hO2
   rcases hc with hc | hc
   ·exact absurd (h.aV ht5 hc).1 asP
   rcases hO2 with ⟨r,_⟩ | ⟨i,s1,s2,s3,s4,s5,s6,s7⟩ | ⟨i,r,_⟩
   ·omega
   ·obtain rfl:i=j+1:=by omega
    rw [show g.bd (j+1)=g.len (j+1) from if_neg (by omega)] at b2;rw [s6,r6];refine ⟨wm (by omega),?_⟩;rw [hln,List.getElem?_take,if_pos b2];exact b1
   omega
  have e:g.own (j+1)=g.o:=by rw [show j+1=g.m by omega];rfl
  rw [e,hG,r6];refine ⟨?_,by rw [hln];exact b1⟩;have:=wm (G:=g.G) (i:=g.len j) (j:=g.G.length) (by omega);rwa [List.take_length] at this
 omega
end
theorem Oo {gs:List Gr} {m:Nat} {cr:Bool} (hm:m<=500) (i:Nat) {q:Nat} (hq:q<2):(∀ n,((fG.run ((bF gs m cr).take i)).ah n).view q=bG\/((fG.run ((bF gs m cr).take i)).ah n).view q=⟨1,1,0,0,0,[]⟩)\/ ∃ g k,LW (fG.run ((bF gs m cr).take i)) q g k:=by
 rcases Nat.lt_or_ge i 2 with h | h
 ·exact .inl λn=>Xq h n q
 obtain ⟨g,g',k,k',h1,h2,L⟩:=KT (gs:=gs) (cr:=cr) hm h (Nat.le_refl i) hq;exact .inr ⟨g',k',h2⟩
end
end Go.Proofs.YthhnonpehllibaaGreatDoor
