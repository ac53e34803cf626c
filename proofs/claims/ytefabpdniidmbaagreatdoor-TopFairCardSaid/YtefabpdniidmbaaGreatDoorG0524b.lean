import Derived.Test.YtefabpdniidmbaaGreatDoorG1895b
import Derived.Test.YtefabpdniidmbaaGreatDoorGa401c
set_option linter.all false
set_option maxRecDepth 100000
set_option maxHeartbeats 8000000
namespace Go.Proofs.YtefabpdniidmbaaGreatDoor
open List Nat Go.Proofs.Tryz
open ChangeShapes WideShapes RowKit
section
variable {m w m':Cl}{n q B k:Nat}{l:bG}{G G':Nat->Gh}{g g':Gh}{b b':aQ}{rs us:List cB}{V:Nat->aQ}{P:Nat->Option bO}{U:Nat->Bool}{Lt:bG->Prop}{pl:Pl}{sh:Nat->Int×Int}{sv:List jH}
def aal:∀ {k:Nat} {l:List Ev},l.length=k->good l->(ay l).1.ep<=k
 | 0,l,I,h=>by
  rw[length_eq_zero_iff.1 I];rw[yh (l:=[]) iQ (show gW dW [] []=some (dW,[])from E)];exact Int.le_refl _
 |k+1,l,I,h=>by
  have J:l=l.take k++[l[k]]:=by rw[<-nV Y,<-I,take_length]
  have M:good (l.take k++[l[k]]):=J▸h;obtain⟨h1,_,O⟩:=good_step M;have ih:=aal (k:=k) (l:=l.take k) (by rw[length_take];omega) (nU h);obtain⟨_,_,Z⟩:=ak6 h1;rw[J,O,Z];have:=(aho (Q:=(ay (l.take k)).1) (e:=l[k])).2
  show(stepM (ay (l.take k)).1 l[k]).1.ep<=((k+1:Nat):Int)
  omega
def Ui {l:List Ev}(h:good l)(J:l.length<2000):good (l++[aF]):=by
 have M:=ZQ E h;have he:=aal E h;have I:iK (ay l).1 aF=_:=zk M dQ;have hs:stepM (ay l).1 aF=Ey (ay l).1:=rfl;have O:(stepM (ay l).1 aF).2.2=true:=by
  rw[hs];unfold Ey;rw[if_neg Y]
 exact Ox h J (by rw[I]) (by rw[I];exact O)
def KD {s:Int}{f:Nat->aQ}:∀(J:List Nat) {d:List UInt8},(∀q∈J,(f q).role=1->(dK (f q)).2=0/\aG (fH 2 q (f q).ep 0 aF)=0)->0<=s->s<=d.length->d.length+46*J.length<=100000-> ∃d',eF s f J d=some d'
 |[],d,_,_,_,_=>⟨d,E⟩
 |q::r,d,h,M,h1,O=>by
  rw[length_cons]at O;rw[eF];by_cases c:(f q).role≠1
  ·rw[if_pos c];exact KD r (λx I=>h x (mem_cons_of_mem _ I)) M h1 Y
  rw[if_neg c];obtain⟨a1,a2⟩:=h q mem_cons_self (Classical.not_not.1 c);rw[if_neg (λe=>e a1),u7 (rs:=[fH 2 q (f q).ep 0 aF]) (λx I=>by rw[mem_singleton]at I;subst I;exact a2) M h1 (by rw[length_singleton];omega)];have Z:=xA [fH 2 q (f q).ep 0 aF];rw[length_singleton]at Z;exact KD r (λx I=>h x (mem_cons_of_mem _ I)) M (by rw[length_append];omega) (by rw[length_append];omega)
def Dy {q:Nat}{evs:List Ev}{an:List iR}:∀(il:List Nat) (w:Cl),(w.recovered n q evs an il).ah=w.ah
 |[],_=>rfl
 |i::r,w=>(Dy r (w.tell n q (evs.getD i aH) (an.getD i eT) (-1))).trans E
def wM (w:Cl)(q:Nat):(w.recover n q).ah=w.ah:=by
 unfold Cl.recover
 split
 ·rfl
 exact Dy _ _
def Ck {bs:Nat->aQ}:∀(h:List Nat) (w:Cl) (j:Nat),((Cl.woken n bs h w).ah j).up=(w.ah j).up
 |[],_,_=>rfl
 |q::r,w,j=>by
  rw[Cl.woken]
  split
  ·exact Ck r w j
  rw[Ck r]
  show(((w.recover n q).aA n q (dK (bs q)).1).ah j).up=_
  by_cases e:j=n
  ·subst e;rw[show((w.recover j q).aA j q (dK (bs q)).1).ah j=((w.recover j q).ah j).aA q (dK (bs q)).1 from aW _]
   show((w.recover j q).ah j).up=_
   rw[wM]
  rw[show((w.recover n q).aA n q (dK (bs q)).1).ah j=(w.recover n q).ah j from upd_ne e,wM]
def adD (j:Nat)(h:(m.ah j).up=true):((m.start n).ah j).up=true:=by
 unfold Cl.start
 split
 ·exact h
 split
 ·exact h
 rw[Ck];by_cases e:j=n
 ·subst e;rw[aW]
 rw[show ∀X,(m.put n X).ah j=m.ah j from λX=>upd_ne e];exact h
def adE {T S dV K:Nat}(hq:∀q,q<2-> ∃g,QI m q g/\g.G.length<2000)(hv:Vd m)(hb:bY m T S dV K)(hn:n<5)(hd:(m.ah n).data.length+184<=100000):((m.start n).ah n).up=true:=by
 cases Z:(m.ah n).up with
 |true=>unfold Cl.start;rw[if_pos Z];exact Z
 |false=>
  obtain⟨rs,t,f,M⟩:=(hb.iE n hn).at7 Z;obtain⟨r1,r2,r3⟩:=M.rd;have hdl:=congrArg length M.data;rw[length_append]at hdl;obtain⟨d',hw⟩:=KD (s:=(jA (m.ah n).data (m.ah n).syn).2.1) (f:=bg (m.ah n).data (m.ah n).syn) [0,1,2,3] (d:=(jA (m.ah n).data (m.ah n).syn).1) (λq hq4 hr=>by
   have O:q<4:=by simp only[mem_cons,not_mem_nil,or_false]at hq4;omega
   rw[r3 q O]at hr⊢;have J:=M.view Z O;have hq2:q<2:=by
    by_cases c:q<2
    ·exact c
    have:=hv.rol n hn q Y O;unfold vw at this;rw[J]at this;omega
   obtain⟨g,I,hG⟩:=hq q hq2;have hV:vw m q n=f q:=J;have ho:=I.oEp hn (by rw[hV];exact .inl hr);have hev:(f q).evs=g.G:=by rw[<-hV,ho];exact I.uJ
   have hs:=eH (M.kX q O).1;unfold aZ at hs;have hgd:=Ui I.gd hG;have hf:aj ⟨1,(f q).ep,0,0,0,(f q).evs++[aF]⟩=0:=lK (uK Y Y _) (by rw[hev];exact hgd);refine⟨?_,oG Y O Y Y dQ⟩;unfold dK;rw[if_neg (λh=>h (M.kX q O).1),if_neg Y,if_neg (λh=>h hf)]) (by rw[r1];dsimp only;have:=M.syn;omega) (by rw[r1];dsimp only;omega) (by rw[r1];dsimp only[length_cons,length_nil];omega)
  unfold Cl.start;rw[if_neg (by rw[Z];simp),hw];dsimp only;rw[Ck,aW]
def Inv.aff (I:Inv g V P U Lt pl sh sv):∀k,k+1<g.m->k<=g.len (k+1)
 | 0,_=>zero_le _
 |k+1,h=>by
  have J:=Inv.aff I k Y;have:=(I.brk (k+1) Y Y).2;unfold Gh.bd at this;rw[if_neg Y]at this;omega
def Inv.aia (I:Inv g V P U Lt pl sh sv):g.m<=g.G.length+1:=by
 by_cases c:g.m<=1
 ·omega
 have h1:=I.aff (g.m-2) Y;have h:=I.Mx (k:=g.m-2+1) Y Y;omega
def adF (o:Option bO):yD o<=Wj o:=by
 cases o with
 |none=>exact zero_le _
 |some p=>cases p<;>simp[yD,Wj]
def axk:m.c0<=m.cw:=by
 have h:∀a:List bG,dI bM a<=om a:=by
  intro a
  induction a with
  |nil=>exact zero_le _
  |cons l r I=>
   have:bM l<=FU l:=by
    unfold bM FU
    split
    ·rename_i h;rw[if_pos (.inl h)];exact Nat.le_refl _
    exact zero_le _
   rw[dI,om];omega
 have J:=h m.fly;have M:=h (m.ah 0).inbox;have O:=h (m.ah 1).inbox;have Z:=h (m.ah 2).inbox;have i3:=h (m.ah 3).inbox;have i4:=h (m.ah 4).inbox;have s0:=adF (m.ah 0).pend;have s1:=adF (m.ah 1).pend;have s2:=adF (m.ah 2).pend;have s3:=adF (m.ah 3).pend;have s4:=adF (m.ah 4).pend;unfold Cl.c0 Cl.ws Cl.cw qN;omega
def axl {F:Wy}(h:0<=b.ep)(I:F.R<=1):fi F n b<=46*(F.M+2)+92+13892:=by
 have h1:Wo b.role<=2:=by unfold Wo;split;omega;split<;>omega
 have J:Wp F n b<=13892:=by unfold Wp;split<;>omega
 unfold fi;omega
def am8:(Cg m q g).R<=1:=by unfold Cg;dsimp only;split<;>omega
def axn {kk:Nat}(I:∀q,q<2->LW m q (G q) k)(hv:Vd m){T S dV K:Nat}(hb:bY m T S dV K)(J:∀n,n<5->(m.ah n).up=true)(hk:k<=127)(hc:m.cw<=kk)(hkk:kk<=127):Rm m G 99954:=by
 refine⟨J,hv,λq h=>(I q h).qi,λn hn=>?_,λq h=>?_⟩
 ·obtain⟨rs,us,O⟩:=(hb.iE n hn).sG (J n hn);have hd:=(I 0 dQ).data n hn;have hw:=awQ (m:=m) (F:=FF m G);have Z:∀q,q<2->fi (FF m G q) n (qF (m.ah n) q)<=19964:=λq h=>by
   have hvb:aj (qF (m.ah n) q)=0:=by
    cases hp:(m.ah n).pend with
    |none=>rw[jO hp];exact O.kX q Y
    |some p=>
     obtain⟨_,h2,h3⟩:=O.FN p hp;by_cases e:p.q=q
     ·rw[oN hp e];exact(iL O.tape O.kX h2 h3).2
     rw[xY hp e];exact O.kX q Y
   have hs:=eH hvb;unfold aZ at hs;have h1:=axl (n:=n) (F:=FF m G q) (b:=qF (m.ah n) q) Y am8;have h2:=(I q h).qi.aia;have h3:=(I q h).Xh;have h4:(FF m G q).M=(G q).m:=rfl;omega
  have h0:=Z 0 dQ;have h1:=Z 1 dQ;unfold F5;omega
 have h1:=(I q h).Xh;have h2:=axk (m:=m);have h3:(FF m G q).R<=1:=am8;omega
end
def am9 (g:Gr)(cr:Bool):(fD g cr).qu<2:=by
 have p2:=oO (n:=g.b) (m:=2) dQ;unfold fD
 split
 ·unfold Rz;dsimp only;omega
 repeat' split
 all_goals first|omega|(dsimp only;omega)
def Ph:∀(j:Nat) {m:Cl} {k:Nat} {G:Nat->Gh},(∀q,q<2->LW m q (G q) k)->Vd m->Bs m k->j<=5->k+j<=540-> ∃G':Nat->Gh,(∀q,q<2->LW (m.run (starts j)) q (G' q) (k+j))/\Vd (m.run (starts j))/\Bs (m.run (starts j)) (k+j)/\(∀i,i<j->((m.run (starts j)).ah i).up=true)/\(m.run (starts j)).cw<=m.cw+j
 | 0,m,k,G,J,hv,M,_,_=>⟨G,J,hv,M,λi hi=>by omega,Nat.le_refl _⟩
 |j+1,m,k,G,J,hv,M,hj,hk=>by
  obtain⟨G1,h1,v1,b1,u1,c1⟩:=Ph j J hv M Y Y;have e:m.run (starts (j+1))=(m.run (starts j)).act (Il 9 (j:Int)):=by
   rw[Im];unfold Cl.run;rw[foldl_append];rfl
  rw[e];obtain⟨f1,Z⟩:=AO (k:=9) (n:=j) (.inl ⟨.inl E,by omega⟩);have I:=ME f1;obtain⟨G2,O⟩:=RJ (Q:=λq g'=>LW ((m.run (starts j)).act (Il 9 (j:Int))) q g' (k+j+1)) λq h=>by
   obtain⟨g',h2,_⟩:=Qg (h1 q h) b1 I Z Y Y;exact⟨g',h2⟩
  have es:(m.run (starts j)).act (Il 9 (j:Int))=(m.run (starts j)).start j:=rfl;refine⟨G2,λq h=>O q h,Wn v1 b1 I Z (by show(0:Int)<2;decide),(xW b1 I Y:Bs _ (k+j+1)),λi hi=>?_,?_⟩
  ·rw[es];by_cases ei:i=j
   ·subst ei;exact adE (λq h=>⟨_,(h1 q h).qi,by have:=(h1 q h).Xh;omega⟩) v1 b1 Y (by have:=(h1 0 dQ).data i Y;omega)
   exact adD i (u1 i Y)
  have:=ae3 b1 I;omega
def VD {gs:List Gr}{m:Nat}{cr:Bool}(h:m<=120):∃G k,Rm (kW.run (bZ gs m cr++starts 5)) G 99954/\Bs (kW.run (bZ gs m cr++starts 5)) k/\k<=127:=by
 have e:kW.run (bZ gs m cr++starts 5)=(kI.run ((gs.take m).map (fD · cr))).run (starts 5):=by
  unfold bZ
  show Cl.run ((kW.act (Si 0 0)).act (Si 1 1)) (((gs.take m).map (fD · cr))++starts 5)=_
  rw[Wh,Wi];unfold Cl.run;rw[foldl_append]
 have hl:((gs.take m).map (fD · cr)).length<=m:=by rw[length_map,length_take];omega
 have I:∀a∈(gs.take m).map (fD · cr),vG a/\a.kd≠1/\a.qu<2:=λa J=>by
  obtain⟨g,_,rfl⟩:=mem_map.1 J;exact⟨ME (JU g cr).1,(JU g cr).2,am9 g cr⟩
 obtain⟨G,M⟩:=RJ (Q:=λq g'=>LW (kI.run ((gs.take m).map (fD · cr))) q g' (2+((gs.take m).map (fD · cr)).length)) λq O=>by
  obtain⟨g',h1,_⟩:=ZU Y ((gs.take m).map (fD · cr)) (adY O) Rv (λa J=>⟨(I a J).1,(I a J).2.1⟩) Y;exact⟨g',h1⟩
 have hv:=ae6 ((gs.take m).map (fD · cr)) amR Rv I Y;have hc:=ae4 ((gs.take m).map (fD · cr)) Rv (λa J=>(I a J).1) Y;have Z:=aeY ((gs.take m).map (fD · cr)) Rv (λa J=>(I a J).1) Y;obtain⟨G',h1,v1,b1,u1,c1⟩:=Ph 5 M hv Z Y Y;have h0:kI.cw=0:=rfl;rw[e];exact⟨G',_,axn (kk:=127) h1 v1 b1 u1 Y Y (Nat.le_refl _),b1,by omega⟩
section
variable {m:Cl}{q:Nat}{g:Gh}{G:Nat->Gh}{B:Nat}
def QI.lw (I:QI m q g):∃k,LW m q g k:=by
 refine⟨g.G.length+((m.ah 0).data.length+((m.ah 1).data.length+((m.ah 2).data.length+((m.ah 3).data.length+(m.ah 4).data.length)))),I,by omega,λn hn=>?_⟩
 rcases five hn with rfl|rfl|rfl|rfl|rfl<;>omega
def QI.auth (I:QI m q g):MJ m q g.o:=by obtain⟨k,h⟩:=I.lw;exact h.auth
def Bq (m:Cl)(k:Nat):Prop:=bY m (3*k) (2*(k*k)+8010*k) (2*(k*k)+8010*k) k
def afg:∀(l:List Ac) {m:Cl} {k:Nat},Bq m k->(∀a∈l,vG a)->Bq (m.run l) (k+l.length)
 |[],m,k,h,_=>h
 |a::l,m,k,h,I=>by
  have h1:Bq (m.act a) (k+1):=by
   have:=TG h (I a iQ);have e:(k+1)*(k+1)=k*k+2*k+1:=by rw[Nat.add_mul,Nat.mul_add];omega
   unfold Bq;rw[e];exact this.mono Y Y Y Y
  have:=afg l h1 (λx J=>I x (by simp[J]));rw[length_cons,show k+(l.length+1)=k+1+l.length by omega];exact this
def aDU:Bq kW 0:=bY.mono aoc Y Y Y Y
def alD {l:List Ac}(h:∀a∈l,dz a=0)(I:l.length<=16000):(kW.run l).aV.length<=1000000000:=by
 have h1:=(afg l aDU λa J=>ME (h a J)).aV;have M:l.length*l.length<=16000*16000:=Nat.mul_le_mul I I;rw[Nat.zero_add]at h1;omega
def Rm.state (R:Rm m G B){q:Nat}(h:q<2):MJ m q (G q).o/\rp dW (aDP q m.aV)=some (ay (G q).G).1/\((m.ah (G q).o).view q).evs=(G q).G/\good (G q).G/\(G q).G.length<=300:=by
 have I:=R.qi q h;obtain⟨_,_,J⟩:=I.MF (R.up _ I.o5);exact⟨I.auth,J,I.uJ,I.gd,by have:=R.cap q h;omega⟩
end
section
variable {gs:List Gr}{s:List Ac}
def ana (gs:List Gr){m:Nat}(h:m<=120)(cr:Bool):vV (bZ gs m cr)<=2640:=by
 have h1:=Ws (bZ gs m cr);have I:=GV gs m cr;omega
def Pj (hs:s=bZ gs 120 true):∀a∈lN s (vV s),dz a=0:=by subst hs;exact adA gs 120 true _
def aam (hs:s=bZ gs 120 true):(lN s (vV s)).length<=16000:=by
 subst hs;have:=als gs 120 true (vV (bZ gs 120 true));have:=ana gs (m:=120) dQ true;omega
end
end Go.Proofs.YtefabpdniidmbaaGreatDoor
