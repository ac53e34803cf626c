import Derived.Test.YtceeleolddkibaaGreatDoorG6aee7
import Derived.Test.YtceeleolddkibaaGreatDoorG7c460
import Derived.Test.YtceeleolddkibaaGreatDoorGd16b0
set_option linter.all false
set_option maxRecDepth 100000
set_option maxHeartbeats 8000000
namespace Go.Proofs.YtceeleolddkibaaGreatDoor
open List Nat Go.Proofs.Tryz ChangeShapes WideShapes RowKit
def kM(b:bF):bF:=if b.GR=2 then⟨1,b.ep,0,0,0,b.JU⟩else b
def vB(f:Nat->bF):List bF:=[f 0,f 1,f 2,f 3]
section
variable {f:Nat->bF}{q:Nat}{b:bF}{rs:List dN}{r:dN}
def aio(I:q<4):Md (vB f) (q:Int)=f q:=by
 have h:q=0\/q=1\/q=2\/q=3:=Y
 rcases h with rfl|rfl|rfl|rfl<;>rfl
def Zj(I:q<4):(vB f).set q b=vB (Qv f q b):=by
 have h:q=0\/q=1\/q=2\/q=3:=Y
 rcases h with rfl|rfl|rfl|rfl<;>rfl
def Dq{f':Nat->bF}(h:∀q,q<4->f q=f' q):vB f=vB f':=by unfold vB;rw[h 0 Y,h 1 Y,h 2 Y,h 3 Y]
def jH(rs:List dN)(f:Nat->bF):Prop:=(∀r∈rs,aM r=0)/\(allM rs).1=some (vB f)
def OP:∀(a:List dN) (i:Nat) (T T':List bF),(qH a i T).1=some T'->qH (a++[r]) i T=qH [r] (i+a.length) T'
 |[],i,T,T',h=>by
  rw[qH]at h
  cases h;rfl
 |x::a,i,T,T',h=>by
  rw[wO,qH];rw[qH]at h
  split at h
  ·cases h
  rename_i h1
  rw[ah h1]
  split at h
  ·cases h
  rename_i I
  rw[ah I,OP a (i+1) _ T' h,mO,show i+1+a.length=i+(a.length+1) by omega]
def jH.nil:jH [] λ_=>bV:=⟨λr h=>by simp at h,E⟩
def jH.snoc(h:jH rs f)(M:aM r=0)(O:q<4)(J:r.Qu=q)(Z:fH (f q) r=(b,0)):jH (rs++[r]) (Qv f q b):=by
 refine⟨λx I=>?_,?_⟩
 ·rcases bD.1 I with I|I
  ·exact h.1 x I
  rw[aI]at I;subst I;exact M
 have h2:=h.2;unfold allM at h2⊢;rw[OP _ _ _ _ h2,qH,J,aio O,ah (by simpa using M),ah (by rw[Z];simp),Z,show((q:Int)).toNat=q from E,Zj O,qH]
def jH.congr{f':Nat->bF}(h:jH rs f)(he:∀q,q<4->f q=f' q):jH rs f':=⟨h.1,by rw[h.2,Dq he]⟩
def jH.read{t data:List UInt8}{Qr:Int}(h:jH rs f)(M:data=dn rs++t)(Z:(Qy t).2=0)(hz:data.length<=100000)(h0:0<=Qr)(h1:Qr<=data.length):
 lC data Qr=(dn rs,min Qr (dn rs).length,0)/\FQ data Qr=some (vB f)/\ ∀q,q<4->dH data Qr q=f q:=by
 have hm:dS data Qr=true:=by simp[dS];omega
 have O:dx data=(rs,(dn rs).length):=by rw[M];exact BZ h.1 Z
 have I:lC data Qr=(dn rs,min Qr (dn rs).length,0):=by
  unfold lC;rw[aj hm,O,M,GY]
 have hl:(dn rs).length<=data.length:=by rw[M,aY];omega
 have J:FQ data Qr=some (vB f):=by
  unfold FQ;rw[I];unfold xQ;rw[aj (by simp[dS];omega)];have:=BZ (t:=[]) h.1 AQ;rw[bI]at this;dsimp only;rw[this];exact h.2
 refine⟨I,J,λq hq=>?_⟩;unfold dH;rw[J];exact aio hq
def gH(h:aA b=0):bP b:=(gB h).1
def kL(h:aA b=0):UH b.JU:=(gB h).2
def p9(h:bP b)(I:b.GR≠0)(l:List Ev):bP ⟨b.GR,b.ep,b.fr,b.tg,b.rd,l⟩:=h.elim (λh=>av h.1 I) .inr
def AU{ep:Int}(h:1<=ep)(h1:ep<=1048576)(l:List Ev):bP ⟨1,ep,0,0,0,l⟩:=.inr ⟨h,h1,.inl ⟨E,E,E,E⟩⟩
def sj{k ep pe:Int}{e:Ev}(J:1<=k/\k<=7)(M:q<4)(iB:0<=ep/\ep<=1048576)(I:0<=pe/\pe<=4)(he:if mF k=true then bJ e=0 else e=aU):aM (gW k q ep pe e)=0:=by
 unfold aM gW;dsimp only;rw[ah (by simp[mo];omega),ah (by simp[mo];omega)];by_cases h:mF k=true
 ·rw[aj h]at he⊢;exact he
 rw[ah h]at he⊢;rw[aj he]
def Ua(h:aA b=0)(M:b.GR=0)(he:b.ep<1)(O:q<4):jR b 1=(⟨1,1,0,0,0,[]⟩,0)/\fH b (gW 1 q 1 0 aU)=(⟨1,1,0,0,0,[]⟩,0):=by
 have I:jR b 1=(⟨1,1,0,0,0,[]⟩,0):=by unfold jR;rw[ah (by simp[h]),ah Y,ah (by simp[M]),ah Y]
 have J:mD b (gW 1 q 1 0 aU)=(⟨1,1,0,0,0,[]⟩,0):=by unfold mD gW;simpa using I
 exact⟨I,by rw[l8 h (sj Y O Y Y dQ) (by simp[gW];omega) (by rw[J]),J]⟩
def W9{e:Ev}{ep:Int}(J:aA b=0)(Z:b.GR=1)(iB:b.ep=ep)(hq:q<4)(he:bJ e=0)(hg:UH (b.JU++[e])):fH b (gW 2 q ep 0 e)=({b with JU:=b.JU++[e]},0)/\aM (gW 2 q ep 0 e)=0:=by
 subst iB;have hs:=gH J;unfold bP at hs;have I:aM (gW 2 q b.ep 0 e)=0:=sj Y hq Y Y (by simpa[mF]using he);have M:aA ⟨b.GR,b.ep,b.fr,b.tg,b.rd,b.JU++[e]⟩=0:=oh (p9 (gH J) Y _) hg;have O:mD b (gW 2 q b.ep 0 e)=({b with JU:=b.JU++[e]},0):=by
  have h1:=ah5 (b:=b) (qu:=q) (e:=b.ep) (pe:=0) (x:=e);rw[ah (λh=>h ⟨Z,E⟩)]at h1;unfold FN at h1;rw[ah (λh=>h M)]at h1;exact h1
 exact⟨by rw[l8 J I (by simp[gW];omega) (by rw[O]),O],I⟩
def afK{e:Ev}{ep:Int}(M:aA b=0)(Z:b.GR=4)(iB:b.ep=ep)(hq:q<4)(he:bJ e=0)(hg:UH (b.JU++[e])):fH b (gW 5 q ep 0 e)=({b with JU:=b.JU++[e]},0)/\aM (gW 5 q ep 0 e)=0/\aA {b with JU:=b.JU++[e]}=0:=by
 subst iB;have hs:=gH M;unfold bP at hs;have I:aM (gW 5 q b.ep 0 e)=0:=sj Y hq Y Y (by simpa[mF]using he);have J:aA ⟨b.GR,b.ep,b.fr,b.tg,b.rd,b.JU++[e]⟩=0:=oh (p9 (gH M) Y _) hg;have O:mD b (gW 5 q b.ep 0 e)=({b with JU:=b.JU++[e]},0):=by
  have h1:=ah6 (b:=b) (qu:=q) (e:=b.ep) (pe:=0) (x:=e);rw[ah (λh=>h ⟨Z,E⟩)]at h1;unfold FN at h1;rw[ah (λh=>h J)]at h1;exact h1
 exact⟨by rw[l8 M I (by simp[gW];omega) (by rw[O]),O],I,J⟩
def aoJ{ep tg:Int}(I:aA b=0)(M:b.GR=1)(iB:b.ep=ep)(O:q<4)(ht:0<=tg/\tg<=4):fH b (gW 3 q ep tg aU)=(⟨3,b.ep,0,tg,0,b.JU⟩,0)/\aM (gW 3 q ep tg aU)=0:=by
 subst iB;have hs:=gH I;unfold bP at hs;have h:aM (gW 3 q b.ep tg aU)=0:=sj Y O Y Y dQ;have J:mD b (gW 3 q b.ep tg aU)=(⟨3,b.ep,0,tg,0,b.JU⟩,0):=by
  unfold mD gW ZV;have h1:b.fr=0:=Y;have Z:b.rd=0:=Y;simp[M,h1,Z]
 exact⟨by rw[l8 I h (by simp[gW];omega) (by rw[J]),J],h⟩
def akf{ep fr:Int}(I:aA b=0)(O:b.GR=0\/b.GR=4)(iB:b.ep<ep)(h1:1<=ep/\ep<=1048576)(M:q<4)(Z:0<=fr/\fr<=4):fH b (gW 4 q ep fr aU)=(⟨4,ep,fr,0,0,[]⟩,0)/\aM (gW 4 q ep fr aU)=0:=by
 have h:aM (gW 4 q ep fr aU)=0:=sj Y M Y Y dQ;have J:mD b (gW 4 q ep fr aU)=(⟨4,ep,fr,0,0,[]⟩,0):=by
  unfold mD gW dR;rw[ah iQ,aj E];dsimp only;rw[ah (by simp[I]),ah Y,ah Y,ah Y,ah Y]
 exact⟨by rw[l8 I h (by simp[gW];omega) (by rw[J]),J],h⟩
def ave{ep:Int}(I:aA b=0)(M:b.GR=4)(iB:b.ep=ep)(Z:q<4)(hg:UH (b.JU++[bC])):fH b (gW 6 q ep 0 aU)=(⟨1,b.ep,0,0,0,b.JU++[bC]⟩,0)/\aM (gW 6 q ep 0 aU)=0:=by
 subst iB;have hs:=gH I;unfold bP at hs;have h:aM (gW 6 q b.ep 0 aU)=0:=sj Y Z Y Y dQ;have J:aA ⟨1,b.ep,0,0,0,b.JU++[bC]⟩=0:=oh (AU Y Y _) hg;have hi:dM b b.ep b.JU.length [] true=(⟨1,b.ep,0,0,0,b.JU++[bC]⟩,0):=by
  unfold dM;rw[ah (by simp[I]),ah (by simp[M]),ah iQ,ah Y,ah iQ,ah iQ];simp only[if_pos,drop_nil,append_nil];rw[ah (by simpa using J)]
 have O:mD b (gW 6 q b.ep 0 aU)=(⟨1,b.ep,0,0,0,b.JU++[bC]⟩,0):=by
  unfold mD gW;simp[M,hi]
 exact⟨by rw[l8 I h (by simp[gW];omega) (by rw[O]),O],h⟩
def afL{ep:Int}(I:aA b=0)(M:b.GR=3)(iB:b.ep=ep)(O:q<4):fH b (gW 7 q ep 0 aU)=(⟨0,b.ep,0,0,0,[]⟩,0)/\aM (gW 7 q ep 0 aU)=0:=by
 subst iB;have hs:=gH I;unfold bP at hs;have h:aM (gW 7 q b.ep 0 aU)=0:=sj Y O Y Y dQ;have J:mD b (gW 7 q b.ep 0 aU)=(⟨0,b.ep,0,0,0,[]⟩,0):=by
  unfold mD gW gZ;simp[M,I];omega
 exact⟨by rw[l8 I h (by simp[gW];omega) (by rw[J]),J],h⟩
def xS(h:aA b=0):aA (kM b)=0:=by
 unfold kM
 split
 ·rename_i I
  have hs:=gH h;unfold bP at hs;exact oh (AU Y Y _) (kL (b:=b) h)
 exact h
def Zk:(kM b).ep=b.ep:=by unfold kM;split<;>rfl
def aoK:(kM b).JU=b.JU:=by unfold kM;split<;>rfl
def ND:(kM b).GR≠2:=by unfold kM;split<;>first|assumption|simp
def tK(h:b.GR≠2):kM b=b:=ah h
def Cc(h:QK b)(I:aA b=0):kM b=⟨1,b.ep,0,0,0,b.JU⟩:=by
 unfold kM
 split
 ·rfl
 have hs:=gH I;unfold bP at hs;unfold QK at h;obtain⟨ro,ep,fr,tg,rd,JU⟩:=b;dsimp only at*;simp only[bF.mk.injEq,and_true,true_and];omega
end
def cZ.q:cZ->Nat
 | .serve q .. =>q
 | .QL q _=>q
 | .UK q .. =>q
 | .gJ q .. =>q
 | .QE q _=>q
def cZ.b(bs:Nat->bF):cZ->bF
 | .serve q JU _ _ _=>{bs q with JU:=JU}
 | .QL _ b=>b
 | .UK _ b _=>b
 | .gJ _ b _=>b
 | .QE _ b=>b
def cZ.rs(bs:Nat->bF):cZ->List dN
 | .serve q _ op _ _=>[gW 2 q (bs q).ep 0 op]
 | .QL q b=>[gW 4 q b.ep b.fr aU]
 | .UK q b last=>sJ q b (bs q).JU.length (b.JU.length-if last=true then 1 else 0) last
 | .gJ q b _=>[gW 3 q b.ep b.tg aU]
 | .QE q _=>[gW 7 q (bs q).ep 0 aU]
def cZ.ok(bs:Nat->bF):cZ->Prop
 | .serve q JU op _ _=>QK (bs q)/\JU=(bs q).JU++[op]/\bJ op=0/\UH JU
 | .QL q b=>((bs q).GR=0\/(bs q).GR=4)/\ ∃e f,b=⟨4,e,f,0,0,[]⟩/\(bs q).ep<e/\1<=e/\e<=1048576/\0<=f/\f<=4
 | .UK q b last=>(bs q).GR=4/\UH b.JU/\(∀e∈b.JU,bJ e=0)/\(last=false->b={bs q with JU:=b.JU}/\(bs q).JU=b.JU.take (bs q).JU.length)/\
   (last=true-> ∃es,b=⟨1,(bs q).ep,0,0,0,es++[bC]⟩/\(bs q).JU=es.take (bs q).JU.length)
 | .gJ q b _=>(bs q).GR=2/\b={bs q with GR:=3,rd:=0}
 | .QE q b=>(bs q).GR=3/\b=⟨0,(bs q).ep,0,0,0,[]⟩
def bY.ok(l:bY):Prop:=l.q<4/\l.JU.length<=2000/\(l.kd=0\/l.kd=2\/l.kd=3\/l.kd=4\/l.kd=6)
def Eh{b:bF}{hv:Int}(h:aA b=0)(M:(bX b hv).2=0):aA (bX b hv).1=0:=by
 have O:=gB h;have hs:=O.1;unfold bP at hs;unfold bX at M⊢;rw[ah (λe=>e h)]at M⊢;by_cases c1:b.GR≠2/\b.GR≠3
 ·rw[aj c1]at M;exact av M dQ
 rw[ah c1]at M⊢;by_cases c2:¬(0<=hv/\hv<=b.JU.length)
 ·rw[aj c2]at M;exact av M dQ
 rw[ah c2]at M⊢;by_cases c3:b.GR=3
 ·rw[aj c3];exact h
 rw[ah c3];have I:∀r d,bP ⟨r,b.ep,b.fr,b.tg,d,b.JU⟩->aA ⟨r,b.ep,b.fr,b.tg,d,b.JU⟩=0:=λr d h=>oh h O.2;by_cases Z:hv=b.JU.length\/b.rd=4
 ·rw[aj Z];refine I 3 0 ?_;clear M I h O;unfold bP;dsimp only;omega
 rw[ah Z];have hr:b.GR=2:=by clear M I h O c2 Z;omega
 have hd:¬b.rd=4:=λe=>Z (.inr e);rw[hr]at hs;have J:1<=b.ep/\b.ep<=1048576/\b.fr=0/\0<=b.tg/\b.tg<5/\0<=b.rd/\b.rd<=4:=by clear M I h O c1 c2 c3 Z;omega
 refine I b.GR (b.rd+1) (.inr ⟨J.1,J.2.1,.inr (.inl ⟨hr,J.2.2.1,J.2.2.2.1,J.2.2.2.2.1,?_,?_⟩)⟩)
 ·show 0<=b.rd+1
  have:=J.2.2.2.2.2;clear M I h O c1 c2 c3 Z hs;omega
 show b.rd+1<=4
 have:=J.2.2.2.2.2;clear M I h O c1 c2 c3 Z hs;omega
structure Da (m m':Cl)(n:Nat):Prop where
 p8:∀j,j≠n->m'.au j=m.au j
 up:(m'.au n).up=(m.au n).up
 jC:(m'.au n).Pq=(m.au n).Pq
 Jw:(m'.au n).turn=(m.au n).turn
 nE:(∀q,q<4->aA ((m.au n).bs q)=0)-> ∀q,q<4->aA ((m'.au n).bs q)=0
 PI:m'.PI.length<=m.PI.length+1
 bH:m'.bH.length<=m.bH.length+1
section
variable {m m':Cl}{n:Nat}{l:bY}
def Dr(h:m'.au=m.au)(h1:m'.PI.length<=m.PI.length+1)(I:m'.bH.length<=m.bH.length+1):Da m m' n:=
 ⟨λj _=>by rw[h],by rw[h],by rw[h],by rw[h],λJ=>by rw[h];exact J,h1,I⟩
def tL:Da m m n:=Dr E (l6 _) (l6 _)
def H7{X:Nd}(h:m'.au=Qv m.au n X)(I:X.up=(m.au n).up)(J:X.Pq=(m.au n).Pq)(M:X.turn=(m.au n).turn)(O:(∀q,q<4->aA ((m.au n).bs q)=0)-> ∀q,q<4->aA (X.bs q)=0)(h1:m'.PI.length<=m.PI.length+1)(Z:m'.bH.length<=m.bH.length+1):Da m m' n:=by
 have e:m'.au n=X:=by rw[h];exact aj E
 exact⟨λj hj=>by rw[h];exact ah hj,by rw[e,I],by rw[e,J],by rw[e,M],λhb=>by rw[e];exact O hb,h1,Z⟩
def Xa{q:Nat}{op:Ev}{num:Int}{a:kg}:Da m (m.done n q op num a) n:=by
 unfold Cl.done
 split
 ·exact Dr E (by simp[Cl.send,Cl.UR]) (by simp[Cl.send,Cl.UR])
 exact Dr E (by simp[Cl.send]) (by simp[Cl.send])
def Xb{q:Nat}:Da m (m.UG n q) n:=Dr E (by simp[Cl.UG,Cl.send]) (by simp[Cl.UG,Cl.send])
def akg{q:Nat}{a:Int}:Da m (m.part n q a) n:=by
 unfold Cl.part
 split
 ·exact tL
 exact Dr E (by simp[Cl.send]) (by simp[Cl.send])
def Sb{X x:Nd}{rs:List dN}(h:X.write rs=some x):x.up=X.up/\x.Pq=X.Pq/\x.turn=X.turn/\x.bs=X.bs:=by
 unfold Nd.write at h;rw[wE]at h;obtain⟨d,_,rfl⟩:=h;exact⟨E,E,E,E⟩
def IU{x:Nd}{p:cZ}{rs:List dN}(h:(m.au n).write rs=some x):Da m (m.put n {x with PL:=some p}) n:=by
 obtain⟨h1,I,J,M⟩:=Sb h;exact H7 E h1 I J (λO q Z=>by show aA (x.bs q)=0;rw[M];exact O q Z) (l6 _) (l6 _)
def Da.avf{m2:Cl}(h:Da m m2 n)(h1:m2.PI.length<=m.PI.length)(O:m2.bH.length<=m.bH.length)(I:Da m2 m' n):Da m m' n:=
 ⟨λj J=>(I.p8 j J).trans (h.p8 j J),I.up.trans h.up,I.jC.trans h.jC,I.Jw.trans h.Jw,λM=>I.nE (h.nE M),by have:=I.PI;omega,by have:=I.bH;omega⟩
def kJ(J:l.q<4):Da m (m.QB n l) n:=by
 unfold Cl.QB
 split
 ·unfold Cl.serve
  split
  ·exact Xa
  split
  ·exact Xa
  exact IU ‹_›
 split
 ·unfold Cl.Uv
  split
  ·exact tL
  split
  ·exact Xb
  split
  ·exact tL
  exact IU ‹_›
 split
 ·unfold Cl.UL
  split
  ·exact tL
  split
  ·exact tL
  rename_i h1 O
  split
  ·refine Da.avf (m2:=m.aF n l.q (bX ((m.au n).bs l.q) l.at_).1) (H7 E E E E (λI q M=>?_) (l6 _) (l6 _)) aB aB akg
   show aA (Qv (m.au n).bs l.q (bX ((m.au n).bs l.q) l.at_).1 q)=0
   unfold Qv
   split
   ·exact Eh (I _ J) Y
   exact I q M
  split
  ·exact tL
  exact IU ‹_›
 split
 ·unfold Cl.UK
  split
  ·exact tL
  split
  ·exact Xb
  split
  ·exact tL
  split
  ·exact tL
  exact IU ‹_›
 unfold Cl.U1
 split
 ·exact H7 E E E E (λI=>I) (l6 _) (l6 _)
 split
 ·exact H7 E E E E (λI=>I) (l6 _) (l6 _)
 rename_i x h
 obtain⟨h1,O,Z,h4⟩:=Sb h;exact H7 E h1 O Z (λI q J=>by show aA (x.bs q)=0;rw[h4];exact I q J) (l6 _) (l6 _)
end
section
open ChangeAt
structure LX where
 l:bY
 A:Option Addr
 c:Nat
def akh(l:bY)(s:Value):List Value:=[D l.kd,D l.fr,D l.tg,D (l.q:Int),D l.ep,D l.at_,D l.nd,D l.op.kind,D l.op.Pv,D l.op.id,D l.op.body,D l.op.Qs,D l.op.Qz,s,.bool l.last,D l.num,
 D l.bZ.num,D l.bZ.Va.code,D l.bZ.Va.iB,D l.bZ.Va.Qz,D l.bZ.Va.body,D l.bZ.pl.node,D l.bZ.pl.Pf]
def LX.cells(x:LX):List Value:=akh x.l (.slice x.A x.l.JU.length x.c)
def LX.row(x:LX):Array Value:=x.cells.toArray
def zH.cells(t:zH):List Value:=[D t.num,D t.Va.code,D t.Va.iB,D t.Va.Qz,D t.Va.body,D t.pl.node,D t.pl.Pf]
def l5.cells(s:l5):List Value:=[D (s.nd:Int),D (s.q:Int),D s.ep,D s.op.kind,D s.op.Pv,D s.op.id,D s.op.body,D s.op.Qs,D s.op.Qz,D s.Va.code,D s.Va.iB,D s.Va.Qz,D s.Va.body,D s.num]
def H8(x:LX):∀u∈x.cells,u.oneCell'=true:=dh E
def aoL(l:List LX):∀u∈l.flatMap LX.cells,u.oneCell'=true:=by
 intro u h;rw[Dx]at h;obtain⟨z,_,I⟩:=h;exact H8 z u I
def eP(me:Nat)(up:Bool)(tv:Value)(Qr:Int)(bv:Value)(H:Nat->Pl)(U:Nat->Bool)(iv pv:Value)(turn:Nat):Array Value:=
 #[D (me:Int),.bool up,tv,D Qr,bv,D (H 0).node,D (H 0).Pf,D (H 1).node,D (H 1).Pf,D (H 2).node,D (H 2).Pf,D (H 3).node,D (H 3).Pf,.bool (U 0),.bool (U 1),.bool (U 2),.bool (U 3),iv,pv,D (turn:Int)]
def Vr(p:Int×Int):List Value:=[D p.1,D p.2]
def Vs(sh:Nat->Nat->Int×Int)(n:Nat):List Value:=Vr (sh n 0)++(Vr (sh n 1)++(Vr (sh n 2)++Vr (sh n 3)))
def aoM(sh:Nat->Nat->Int×Int):List Value:=Vs sh 0++(Vs sh 1++(Vs sh 2++(Vs sh 3++Vs sh 4)))
def Sd(nv:Value)(d:UE)(fv:Value)(sh:Nat->Nat->Int×Int)(sv tv:Value)(calls:Nat):List Value:=
 nv::(d.cells++(fv::(aoM sh++[D 0,.bool false,.bool false,.bool false,.bool false,.bool false,D 0,D 0,D 0,D 0,D 0,D 0,D 0,D 0,.slice none 0 0,sv,tv,D (calls:Int)])))
def nG(nv:Value)(d:UE)(fv:Value)(sh:Nat->Nat->Int×Int)(sv tv:Value)(calls:Nat):Array Value:=(Sd nv d fv sh sv tv calls).toArray
section
variable {me turn calls k:Nat}{up:Bool}{tv bv iv pv nv fv sv uv x:Value}{Qr:Int}{H:Nat->Pl}{U:Nat->Bool}{d:UE}{sh:Nat->Nat->Int×Int}{L L':List Nf}{s n:Nat}{A:Option Addr}{xs:List Value}{B:Nat}{w w0:World}{fs:List Nf}
def Db:(nG nv d fv sh sv tv calls)[0]? =some nv:=rfl
def V8:(nG nv d fv sh sv tv calls)[9]? =some fv:=rfl
def aAj:(nG nv d fv sh sv tv calls)[65]? =some sv:=rfl
def aAk:(nG nv d fv sh sv tv calls)[66]? =some tv:=rfl
def aqu:(nG nv d fv sh sv tv calls)[67]? =some (D (calls:Int)):=rfl
def Lc{J M O Z:Value}{d':UE}{sh':Nat->Nat->Int×Int}{I o:Nat}{vs:List Value}(h:o+vs.length<=68)(he:(Sd nv d fv sh sv tv calls).take o++vs++(Sd nv d fv sh sv tv calls).drop (o+vs.length)=Sd J d' M sh' O Z I):
 dP (nG nv d fv sh sv tv calls) o vs=nG J d' M sh' O Z I:=Array.ext' (by rw[jr _ _ _ h];exact he)
def ar8:dP (nG nv d fv sh sv tv calls) 9 [x]=nG nv d x sh sv tv calls:=Lc (fK E) E
def aAl:dP (nG nv d fv sh sv tv calls) 65 [x]=nG nv d fv sh x tv calls:=Lc (fK E) E
def aAm:dP (nG nv d fv sh sv tv calls) 66 [x]=nG nv d fv sh sv x calls:=Lc (fK E) E
def aAn{c':Nat}:dP (nG nv d fv sh sv tv calls) 67 [D (c':Int)]=nG nv d fv sh sv tv c':=Lc (fK E) E
def ar9{d':UE}:dP (nG nv d fv sh sv tv calls) 1 d'.cells=nG nv d' fv sh sv tv calls:=Lc (fK E) E
def AV:∀(j:Nat) (u:Value),d.cells[j]? =some u->(nG nv d fv sh sv tv calls)[1+j]? =some u:=by
 intro j u h;have I:j<8:=(cK.1 h).1;have:j=0\/j=1\/j=2\/j=3\/j=4\/j=5\/j=6\/j=7:=Y
 rcases this with rfl|rfl|rfl|rfl|rfl|rfl|rfl|rfl<;>exact h
def aip:(nG nv d fv sh sv tv calls).size=68:=rfl
def aqv{n q:Nat}(hn:n<5)(I:q<4){a b:Int}:dP (nG nv d fv sh sv tv calls) (10+n*8+q*2) [D a,D b]=nG nv d fv (kG sh n q (a,b)) sv tv calls:=by
 have h1:n=0\/n=1\/n=2\/n=3\/n=4:=Y;have h:q=0\/q=1\/q=2\/q=3:=Y
 rcases h1 with rfl|rfl|rfl|rfl|rfl<;>rcases h with rfl|rfl|rfl|rfl<;>exact Lc (fK E) E
def aAo{n q:Nat}(hn:n<5)(M:q<4):∀(j:Nat) (u:Value),(Vr (sh n q))[j]? =some u->(nG nv d fv sh sv tv calls)[10+n*8+q*2+j]? =some u:=by
 intro j u h;have O:j<2:=(cK.1 h).1;have I:j=0\/j=1:=Y;have h1:n=0\/n=1\/n=2\/n=3\/n=4:=Y;have J:q=0\/q=1\/q=2\/q=3:=Y
 rcases h1 with rfl|rfl|rfl|rfl|rfl<;>rcases J with rfl|rfl|rfl|rfl<;>rcases I with rfl|rfl<;>exact h
def H9{q:Nat}(I:q<4){p:Pl}:dP (eP me up tv Qr bv H U iv pv turn) (5+q*2) [D p.node,D p.Pf]=eP me up tv Qr bv (Qv H q p) U iv pv turn:=by
 have h:q=0\/q=1\/q=2\/q=3:=Y
 rcases h with rfl|rfl|rfl|rfl<;>rfl
def Ub{q:Nat}(I:q<4):(eP me up tv Qr bv H U iv pv turn)[5+q*2]? =some (D (H q).node)/\(eP me up tv Qr bv H U iv pv turn)[5+q*2+1]? =some (D (H q).Pf):=by
 have h:q=0\/q=1\/q=2\/q=3:=Y
 rcases h with rfl|rfl|rfl|rfl<;>exact⟨E,E⟩
def adh{q:Nat}(I:q<4){v:Bool}:dP (eP me up tv Qr bv H U iv pv turn) (13+q*1) [.bool v]=eP me up tv Qr bv H (Qv U q v) iv pv turn:=by
 have h:q=0\/q=1\/q=2\/q=3:=Y
 rcases h with rfl|rfl|rfl|rfl<;>rfl
def aoN{q:Nat}(I:q<4):(eP me up tv Qr bv H U iv pv turn)[13+q*1]? =some (.bool (U q)):=by
 have h:q=0\/q=1\/q=2\/q=3:=Y
 rcases h with rfl|rfl|rfl|rfl<;>rfl
def Ro(L:List Nf)(s:Nat)(A:Option Addr)(n:Nat)(xs:List Value):Prop:= ∀B w,(∀f∈L,f.holds B w)->Rd w w.heap.size s A n xs
def Ro.mono(h:Ro L s A n xs)(I:∀f∈L,f∈L'):Ro L' s A n xs:=λB w hw=>h B w λf J=>hw f (I f J)
def Ro.rd(h:Ro L s A n xs)(S:St B w0 w fs)(I:∀f∈L,f∈fs):Rd w w.heap.size s A n xs:=h B w λf J=>S.has (I f J)
def Ro.UZ:Ro L s none 0 []:=λ_ _ _=>Rd.UZ
def Ro.dB(h:Nf.dB s A n xs∈L):Ro L s A n xs:=λ_ _ hw=>(hw _ h).1
def Ro.own{e:TypeId}{c:Nat}(h:Nf.own e s (.slice A n c) n xs∈L):Ro L s A n xs:=λ_ _ hw=>Rd.wZ (hw _ h)
end
structure NX where
 bb:Nat
 tA:Option Addr
 tc:Nat
 bx:List BX
 iA:Option Addr
 ic:Nat
 ix:List LX
 pv:Value
structure CX where
 nx:Nat->NX
 fA:Option Addr
 fc:Nat
 fx:List LX
 sA:Option Addr
 sc:Nat
 tA:Option Addr
 tc:Nat
 nA:Option Addr
 nc:Nat
 L:List Nf
structure CK where
 wb:Nat
 nb:Nat->Nat
def je(b:Nat):Value:=.pointer (some ⟨b,0,none⟩)
def aoO(n:Nat)(X:Nd)(x:NX):Array Value:=eP n X.up (.slice x.tA X.data.length x.tc) X.Qr (.slice (some ⟨x.bb,0,none⟩) 4 4) X.QC X.QA (.slice x.iA x.ix.length x.ic) x.pv X.turn
def aAp(R:CX)(m:Cl):Array Value:=nG (.slice R.nA 5 R.nc) m.off (.slice R.fA R.fx.length R.fc) m.Qx (.slice R.sA m.bH.length R.sc) (.slice R.tA m.bZ.length R.tc) m.calls
def Gv(kn n:Nat)(X:Nd)(x:NX):List Nf:=
 [.Pj kn (aoO n X x) 95,.own 58 6 (.slice (some ⟨x.bb,0,none⟩) 4 4) 4 (x.bx.flatMap BX.cells),.off 113 23 x.iA x.ix.length x.ic (x.ix.flatMap LX.cells)]
def mh(K:CK)(n:Nat)(X:Nd)(x:NX):List Nf:=Gv (K.nb n) n X x
def Gw(kw:Nat)(R:CX)(m:Cl):List Nf:=
 [.Pj kw (aAp R m) 87,.own 113 23 (.slice R.fA R.fx.length R.fc) R.fx.length (R.fx.flatMap LX.cells),.own 159 14 (.slice R.sA m.bH.length R.sc) m.bH.length (m.bH.flatMap l5.cells),.own 111 7 (.slice R.tA m.bZ.length R.tc) m.bZ.length (m.bZ.flatMap zH.cells)]
def xU(K:CK)(R:CX)(m:Cl):List Nf:=Gw K.wb R m
def og(K:CK)(R:CX)(m:Cl)(n:Nat):List Nf:=((range 5).filter (· ≠n)).flatMap λj=>mh K j (m.au j) (R.nx j)
def iM(K:CK)(R:CX)(m:Cl)(fs:List Nf)(n:Nat):List Nf:=fs++(og K R m n++R.L)
def nN(K:CK)(R:CX)(m:Cl):List Nf:=xU K R m++(((range 5).flatMap λj=>mh K j (m.au j) (R.nx j))++R.L)
def Kj(L:List Nf)(A:Option Addr)(c:Nat)(l:List Ev):Prop:=Ro L 6 A l.length (bT l)/\l.length<=c
def Vt(L:List Nf)(x:LX):Prop:=Kj L x.A x.c x.l.JU
def EM(L:List Nf)(y:BX):Prop:=Kj L y.A y.c y.b.JU
def Kj.mono{L L':List Nf}{A:Option Addr}{c:Nat}{l:List Ev}(h:Kj L A c l)(I:∀f∈L,f∈L'):Kj L' A c l:=⟨h.1.mono I,h.2⟩
def sK(kn kw:Nat)(L:List Nf):Option cZ->Value->Prop
 |none,v=>v=.nilFunc
 |some (.serve q JU op num a),v=> ∃b1 b2 b3 b4 b5 b6 b7 y x,v=.func (.func 82) #[] #[je b1,je b2,je b3,je b4,je b5]/\ .Pj b1 (BX.cells y).toArray 58∈L/\y.b.JU=JU/\EM L y/\ .Pj b2 #[je kn] 88∈L/\ .Pj b3 #[.int .i64 (q:Int)] 3∈L/\
   .Pj b4 #[.func (.func 81) #[] #[je b6,je b2,je b3,je b7]] 185∈L/\ .Pj b5 (kg.cells a).toArray 109∈L/\ .Pj b6 (LX.row x) 113∈L/\x.l.op=op/\x.l.num=num/\ .Pj b7 #[je kw] 77∈L
 |some (.QL q b),v=> ∃b1 b2 b3 b4 y,v=.func (.func 85) #[] #[je b1,je b2,je b3,je b4]/\ .Pj b1 (BX.cells y).toArray 58∈L/\y.b=b/\EM L y/\ .Pj b2 #[je kn] 88∈L/\ .Pj b3 #[.int .i64 (q:Int)] 3∈L/\ .Pj b4 #[je kw] 77∈L
 |some (.UK q b last),v=> ∃b1 b2 b3 b4 b5 y x,v=.func (.func 90) #[] #[je b1,je b2,je b3,je b4,je b5]/\ .Pj b1 (BX.cells y).toArray 58∈L/\y.b=b/\EM L y/\ .Pj b2 #[je kn] 88∈L/\ .Pj b3 #[.int .i64 (q:Int)] 3∈L/\
   .Pj b4 (LX.row x) 113∈L/\x.l.last=last/\ .Pj b5 #[je kw] 77∈L
 |some (.gJ q b at_),v=> ∃b1 b2 b3 b4 b5 y x,v=.func (.func 88) #[] #[je b1,je b2,je b3,je b4,je b5]/\ .Pj b1 (BX.cells y).toArray 58∈L/\y.b=b/\EM L y/\ .Pj b2 #[je kn] 88∈L/\ .Pj b3 #[.int .i64 (q:Int)] 3∈L/\
   .Pj b4 #[je kw] 77∈L/\ .Pj b5 (LX.row x) 113∈L/\x.l.at_=at_
 |some (.QE q b),v=> ∃b1 b2 b3 y,v=.func (.func 92) #[] #[je b1,je b2,je b3]/\ .Pj b1 (BX.cells y).toArray 58∈L/\y.b=b/\EM L y/\ .Pj b2 #[je kn] 88∈L/\ .Pj b3 #[.int .i64 (q:Int)] 3∈L
def aFg(K:CK)(L:List Nf)(n:Nat)(p:Option cZ)(v:Value):Prop:=sK (K.nb n) K.wb L p v
structure fC (K:CK)(L:List Nf)(n:Nat)(X:Nd)(x:NX):Prop where
 Vu:x.bx.map BX.b=vB X.bs
 Xc:∀y∈x.bx,EM L y
 AX:Ro L 1 x.tA X.data.length (JV X.data)
 ixm:x.ix.map LX.l=X.Pq
 ixo:∀y∈x.ix,Vt L y
 nU:aFg K L n X.PL x.pv
structure Good (K:CK)(R:CX)(m:Cl)(H:List LX):Prop where
 PI:R.fx.map LX.l=m.PI
 flo:∀x∈R.fx,Vt R.L x
 jO:∀n,n<5->fC K R.L n (m.au n) (R.nx n)
 arr:Ro R.L 1 R.nA 5 ((range 5).map λj=>je (K.nb j))
 hld:∀x∈H,Vt R.L x
def Wd(K:CK)(B:Nat)(w0 w:World)(fs:List Nf)(m:Cl)(H:List LX):Prop:= ∃R,Good K R m H/\St B w0 w (fs++nN K R m)
section
variable {K:CK}{B n:Nat}{w0 w w':World}{fs N:List Nf}{m m':Cl}{H H':List LX}{R R':CX}
def sK.mono{kn kw:Nat}{L L':List Nf}{p:Option cZ}{v:Value}(h:sK kn kw L p v)(I:∀f∈L,f∈L'):sK kn kw L' p v:=by
 match p,h with
 |none,h=>exact h
 |some (.serve q JU op num a),⟨b1,b2,b3,b4,b5,b6,b7,y,x,h1,J,M,O,Z,h6,h7,h8,h9,h10,h11,h12⟩=>
  exact⟨b1,b2,b3,b4,b5,b6,b7,y,x,h1,I _ J,M,Kj.mono O I,I _ Z,I _ h6,I _ h7,I _ h8,I _ h9,h10,h11,I _ h12⟩
 |some (.QL q b),⟨b1,b2,b3,b4,y,h1,J,M,O,Z,h6,h7⟩=>exact⟨b1,b2,b3,b4,y,h1,I _ J,M,Kj.mono O I,I _ Z,I _ h6,I _ h7⟩
 |some (.UK q b last),⟨b1,b2,b3,b4,b5,y,x,h1,J,M,O,Z,h6,h7,h8,h9⟩=>exact⟨b1,b2,b3,b4,b5,y,x,h1,I _ J,M,Kj.mono O I,I _ Z,I _ h6,I _ h7,h8,I _ h9⟩
 |some (.gJ q b at_),⟨b1,b2,b3,b4,b5,y,x,h1,J,M,O,Z,h6,h7,h8,h9⟩=>exact⟨b1,b2,b3,b4,b5,y,x,h1,I _ J,M,Kj.mono O I,I _ Z,I _ h6,I _ h7,I _ h8,h9⟩
 |some (.QE q b),⟨b1,b2,b3,y,h1,J,M,O,Z,h6⟩=>exact⟨b1,b2,b3,y,h1,I _ J,M,Kj.mono O I,I _ Z,I _ h6⟩
def fC.mono{L L':List Nf}{X:Nd}{x:NX}(h:fC K L n X x)(I:∀f∈L,f∈L'):fC K L' n X x:=
 ⟨h.Vu,λy J=>(h.Xc y J).mono I,h.AX.mono I,h.ixm,λy J=>(h.ixo y J).mono I,sK.mono h.nU I⟩
def yC{α:Type}(f:Nat->List α)(hn:n<5):((range 5).flatMap f).Perm (f n++((range 5).filter (· ≠n)).flatMap f):=by
 have h:n=0\/n=1\/n=2\/n=3\/n=4:=Y;have I:∀l:List Nat,(range 5).Perm (n::l)->((range 5).flatMap f).Perm (f n++l.flatMap f):=λl J=>by
  have:=J.flatMap_right f;rwa [nK]at this
 refine I _ ?_
 rcases h with rfl|rfl|rfl|rfl|rfl<;>decide
open Classical in
def Wd.open(h:Wd K B w0 w fs m H)(hn:n<5):∃R,Good K R m H/\St B w0 w (mh K n (m.au n) (R.nx n)++(xU K R m++iM K R m fs n)):=by
 obtain⟨R,I,S⟩:=h;refine⟨R,I,S.perm (uJ.2 λa=>?_)⟩;have h1:=uJ.1 (yC (λj=>mh K j (m.au j) (R.nx j)) hn) a;unfold nN iM og;simp only[List.count_append]at h1⊢;omega
def afO(hs:∀j,j<5->j≠n->m'.au j=m.au j/\R'.nx j=R.nx j):og K R' m' n=og K R m n:=by
 unfold og;rw[flatMap_def,flatMap_def]
 congr 1
 refine map_congr_left λj h=>?_;rw[mem_filter,Lh]at h;obtain⟨h1,I⟩:=hs j h.1 (by simpa using h.2);rw[h1,I]
open Classical in
def Wd.close{Ls:List Nf}(G:Good K R' m' H')(S:St B w0 w' (mh K n (m'.au n) (R'.nx n)++(xU K R' m'++(Ls++(iM K R m fs n++N)))))(hn:n<5)(h:R'.L=R.L++(N++Ls))(hs:∀j,j<5->j≠n->m'.au j=m.au j/\R'.nx j=R.nx j):Wd K B w0 w' fs m' H':=by
 refine⟨R',G,S.perm (uJ.2 λa=>?_)⟩;have h1:=uJ.1 (yC (λj=>mh K j (m'.au j) (R'.nx j)) hn) a;unfold iM nN;rw[h,<-afO hs];unfold og;simp only[List.count_append]at h1⊢;omega
def Qw{L gs fs:List Nf}(k:Nat)(h:gs.drop k=fs)(I:∀f∈L,f∈fs):∀f∈L,f∈gs:=λf J=>TQ (h▸I f J)
def aac{L fs N:List Nf}(I:∀f∈L,f∈fs):∀f∈L++N,f∈fs++N:=λf J=>(bD.1 J).elim (λh=>bO _ (I f h)) (λh=>aL _ h)
def fD{fs:List Nf}:∀f∈fs,f∈fs:=λ_ h=>h
def air{L N:List Nf}{x:Nf}:x∈L++(N++[x]):=by simp
def St.toEnd{f:Nf}(i:Nat)(S:St B w0 w fs)(hi:fs[i]? =some f):St B w0 w (fs.eraseIdx i++[f]):=(S.bring i hi).perm (Bv (l₁:=[f]) (l₂:=fs.eraseIdx i))
def St.Vv{a b c d e f g:Nf}(S:St B w0 w (a::b::c::d::e::f::g::(fs++N))):St B w0 w (a::b::c::d::e::f::g::fs):=
 S.sub (((((((G8 fs N).cons_cons g).cons_cons f).cons_cons e).cons_cons d).cons_cons c).cons_cons b |>.cons_cons a)
def Ro.Pj{L:List Nf}{b n s:Nat}{row:Array Value}{t:TypeId}{xs:List Value}(h:Nf.Pj b row t∈L)(J:row.toList=xs)(M:xs.length=n*s):Ro L s (some ⟨b,0,none⟩) n xs:=λ_ _ hw=>
 ⟨M,λ_=>⟨b,0,E,(hw _ h).2.lt,λj u I=>by
  rw[fq];exact(hw _ h).2.cell (by rw[<-J]at I;simpa using I)⟩⟩
end
end
abbrev oL (a:Option Addr)(l:List LX)(c:Nat):Nf:=.own 113 23 (.slice a l.length c) l.length (l.flatMap LX.cells)
abbrev oS (a:Option Addr)(l:List l5)(c:Nat):Nf:=.own 159 14 (.slice a l.length c) l.length (l.flatMap l5.cells)
abbrev oT (a:Option Addr)(l:List zH)(c:Nat):Nf:=.own 111 7 (.slice a l.length c) l.length (l.flatMap zH.cells)
abbrev oB (b:Nat)(l:List BX):Nf:=.own 58 6 (.slice (some ⟨b,0,none⟩) 4 4) 4 (l.flatMap BX.cells)
abbrev fL (a:Option Addr)(l:List LX)(c:Nat):Nf:=.off 113 23 a l.length c (l.flatMap LX.cells)
abbrev bW (k:Nat)(n:Value)(d:UE)(fA:Option Addr)(fx:List LX)(fc:Nat)(sh:Nat->Nat->Int×Int)(sA:Option Addr)(sr:List l5)(sc:Nat)(tA:Option Addr)(tl:List zH)(tc cs:Nat):Nf:=.Pj k (nG n d (.slice fA fx.length fc) sh (.slice sA sr.length sc) (.slice tA tl.length tc) cs) 87
abbrev bN (k n:Nat)(u:Bool)(tA:Option Addr)(dd:List UInt8)(tc:Nat)(sy:Int)(b:Nat)(H:Nat->Pl)(U:Nat->Bool)(iA:Option Addr)(ix:List LX)(ic:Nat)(pv:Value)(tn:Nat):Nf:=.Pj k (eP n u (.slice tA dd.length tc) sy (.slice (some ⟨b,0,none⟩) 4 4) H U (.slice iA ix.length ic) pv tn) 95
abbrev wF (k:Nat)(n:Value)(d:UE)(fA:Option Addr)(fx:List LX)(fc:Nat)(sh:Nat->Nat->Int×Int)(sA:Option Addr)(sr:List l5)(sc:Nat)(tA:Option Addr)(tl:List zH)(tc cs:Nat)(r:List Nf):List Nf:=bW k n d fA fx fc sh sA sr sc tA tl tc cs::oL fA fx fc::oS sA sr sc::oT tA tl tc::r
abbrev nF (k n:Nat)(u:Bool)(tA:Option Addr)(dd:List UInt8)(tc:Nat)(sy:Int)(b:Nat)(H:Nat->Pl)(U:Nat->Bool)(iA:Option Addr)(ix:List LX)(ic:Nat)(pv:Value)(tn:Nat)(bs:List BX)(r:List Nf):List Nf:=bN k n u tA dd tc sy b H U iA ix ic pv tn::oB b bs::fL iA ix ic::r
abbrev cF (k:Nat)(R:CX)(m:Cl)(r:List Nf):List Nf:=wF k (.slice R.nA 5 R.nc) m.off R.fA R.fx R.fc m.Qx R.sA m.bH R.sc R.tA m.bZ R.tc m.calls r
abbrev cN (k n:Nat)(X:Nd)(z:NX)(pv:Value)(r:List Nf):List Nf:=nF k n X.up z.tA X.data z.tc X.Qr z.bb X.QC X.QA z.iA z.ix z.ic pv X.turn z.bx r
def aad{x:LX}:∀(j:Nat) (u:Value),[Value.int .i64 x.l.op.kind,D x.l.op.Pv,D x.l.op.id,D x.l.op.body,D x.l.op.Qs,D x.l.op.Qz][j]? =some u->(LX.row x)[7+j]? =some u:=by
 intro j u h;have I:j<6:=(cK.1 h).1;have:j=0\/j=1\/j=2\/j=3\/j=4\/j=5:=Y
 rcases this with rfl|rfl|rfl|rfl|rfl|rfl<;>exact h
def avg{x:LX}:∀(j:Nat) (u:Value),[Value.int .i64 x.l.bZ.num,D x.l.bZ.Va.code,D x.l.bZ.Va.iB,D x.l.bZ.Va.Qz,D x.l.bZ.Va.body,D x.l.bZ.pl.node,D x.l.bZ.pl.Pf][j]? =some u->(LX.row x)[16+j]? =some u:=by
 intro j u h;have I:j<7:=(cK.1 h).1;have:j=0\/j=1\/j=2\/j=3\/j=4\/j=5\/j=6:=Y
 rcases this with rfl|rfl|rfl|rfl|rfl|rfl|rfl<;>exact h
def vI{me turn:Nat}{up:Bool}{tv bv iv pv:Value}{Qr:Int}{H:Nat->Pl}{U:Nat->Bool}:∀(j:Nat) (u:Value),[tv,D Qr][j]? =some u->(eP me up tv Qr bv H U iv pv turn)[2+j]? =some u:=by
 intro j u h;have I:j<2:=(cK.1 h).1;have:j=0\/j=1:=Y
 rcases this with rfl|rfl<;>exact h
def yV(d:UE):∀u∈d.cells.toArray.toList,u.oneCell'=true:=dh E
def aoP{me turn q:Nat}{up:Bool}{tv bv iv pv:Value}{Qr:Int}{H:Nat->Pl}{U:Nat->Bool}(I:q<4):∀(j:Nat) (u:Value),[Value.int .i64 (H q).node,D (H q).Pf][j]? =some u->(eP me up tv Qr bv H U iv pv turn)[5+q*2+j]? =some u:=by
 intro j u h;have J:j<2:=(cK.1 h).1;have:j=0\/j=1:=Y
 rcases this with rfl|rfl
 ·rw[Nat.add_zero,(Ub I).1];exact h
 rw[(Ub I).2];exact h
def avh{bs:List BX}{q c:Nat}{y:BX}{A:Option Addr}{JU:List Ev}(J:bs[q]? =some y):uN (bs.flatMap BX.cells) (0+q*6+5) [.slice A JU.length c]=(bs.set q ⟨{y.b with JU:=JU},A,c⟩).flatMap BX.cells:=by
 obtain⟨M,he⟩:=cK.1 J;rw[<-uj (enc:=BX.cells) (sz:=6) (λ_=>E) ⟨{y.b with JU:=JU},A,c⟩ q bs M,fq];have I:∀j u,(BX.cells y)[j]? =some u->(bs.flatMap BX.cells)[q*6+j]? =some u:=λj u h=>dw (enc:=BX.cells) (sz:=6) (λ_=>E) J h;simp only[uN,BX.cells];have e:∀(l:List Value) (k:Nat) (u:Value),l[k]? =some u->l.set k u=l:=λl k u h=>by
  obtain⟨h1,O⟩:=cK.1 h;subst O;exact set_getElem_self h1
 rw[e _ (q*6) _ (I 0 _ E),e _ (q*6+1) _ (I 1 _ E),e _ (q*6+1+1) _ (I 2 _ E),e _ (q*6+1+1+1) _ (I 3 _ E),e _ (q*6+1+1+1+1) _ (I 4 _ E)]
def kD(k:Int)(q:Nat)(y:BX)(w:World):
 Calls tP 39 #[D k,D (q:Int),.agg (bR y.b y.A y.c)] w (λe w'=>e=.returned (.agg (dN.cells (gW k q y.b.ep 0 aU)).toArray)/\Below w.heap.size w w'):=by
 have S:=St.start w;refine iW 12 func39 ?_;refine cw [0,1,2] ?_;refine zN 2 ?_;refine jM S ?_;intro b1 M h;refine iL h zR ?_;intro b4 O I;refine zN 8 ?_;refine vv (v:=.agg #[D k,D (q:Int),D y.b.ep,D 0,D 0,D 0,D 0,D 0,D 0,D 0]) iE ?_;refine sa 0 I kQ ?_;intro Z J;refine zN 4 ?_;exact⟨E,J.QM⟩
def jg{B kw calls fc sc tc:Nat}{fA sA tA:Option Addr}{nv:Value}{d:UE}{sh:Nat->Nat->Int×Int}{fx:List LX}{bH:List l5}{tl:List zH}{w0 w:World}{fs:List Nf}{x:LX}(S:St B w0 w ((.Pj kw (nG (nv) d (.slice fA fx.length fc) sh (.slice sA bH.length sc) (.slice tA tl.length tc) calls) 87)::(.own 113 23 (.slice fA fx.length fc) fx.length ((fx).flatMap LX.cells))::fs))(hb:(fx.length+1)*200<=140737488355328):
 Calls tP 26 #[pV kw 0,.agg (LX.row x)] w (λe w'=>e=.returned (.tuple #[])/\ ∃A' c' h,h=fx++[x]/\St B w0 w' ((.Pj kw (nG (nv) d (.slice A' h.length c') sh (.slice sA bH.length sc) (.slice tA tl.length tc) calls) 87)::(.own 113 23 (.slice A' h.length c') h.length ((h).flatMap LX.cells))::fs)):=by
 refine iW 14 func26 ?_;refine cw [0,1] ?_;refine zN 2 ?_;refine jM S ?_;intro b1 w2 S3;refine zN 2 ?_;have J:=S3.drew;refine gT 11 8 J [2] ?_;iterate 4 refine jf ?_
 refine gk (v:=.slice fA fx.length fc) 4 E (St.del 2 J) (λ_ Sx9=>(ay E E (aV (St.cl 1 Sx9 E V8)))) ?_;refine jf ?_;refine gF (m:=4) (r:=6) kQ ?_;refine oV (i:=6) E E (V:=λb=>.slice (aD b 0) 1 1) (row:=LX.row x) (t:=113) J (wn E) E E (bq (vs:=[(0,.agg (LX.row x))]) E Aq kQ) ?_;intro b11 w12 I;refine jf ?_;refine gF (m:=3) (r:=7) kQ ?_;refine ny (i:=7) E E (news:=(LX.cells x)) (xs':=(fx++[x]).flatMap LX.cells) 3 I (wn E) E E E E E E (St.nO (xs:=(LX.cells x)) 0 I E E E) Tryz.underlying81 acv E dQ (H8 _) lQ Y (jV (enc:=LX.cells) E E) ?_;intro M O w16 hc18 aOf Z;refine jf ?_;refine gy kQ E E E ?_;refine zN 2 ?_;refine kU 2 Z kQ ?_ (hs:=by exact ar8);intro w20 yj;refine zQ ?_;refine jY ?_;refine dD (l':=[]) trivial (ru ?_);have lY:=yj.bg [1,0];refine⟨E,M,O,fx++[x],E,?_⟩;rw[aY];exact lY
def qp{B kn kw bb n turn calls dc ic fc sc tc:Nat}{up:Bool}{dA iA fA sA tA:Option Addr}{data:List UInt8}{Qr:Int}{Hh:Nat->Pl}{Us:Nat->Bool}{pv nv:Value}{d:UE}{sh:Nat->Nat->Int×Int}{bs:List BX}{ix fx:List LX}{bH:List l5}{tl:List zH}{w0 w:World}{fs:List Nf}{q:Nat}(hn:n<5)(hq:q<4){y:BX}(hy:bs[q]? =some y)(e:Ev)(a:kg)(num:Int)(S:St B w0 w ((.Pj kn (eP n up (.slice dA data.length dc) Qr (.slice (aD bb 0) 4 4) Hh Us (.slice iA ix.length ic) (pv) turn) 95)::(.own 58 6 (.slice (aD bb 0) 4 4) 4 ((bs).flatMap BX.cells))::(.off 113 23 iA ix.length ic ((ix).flatMap LX.cells))::(.Pj kw (nG (nv) d (.slice fA fx.length fc) sh (.slice sA bH.length sc) (.slice tA tl.length tc) calls) 87)::(.own 113 23 (.slice fA fx.length fc) fx.length ((fx).flatMap LX.cells))::(.own 159 14 (.slice sA bH.length sc) bH.length ((bH).flatMap l5.cells))::(.own 111 7 (.slice tA tl.length tc) tl.length ((tl).flatMap zH.cells))::fs))(hb:(bH.length+1)*112<=140737488355328):
 Calls tP 50 #[pV kw 0,pV kn 0,D (q:Int),.agg #[D e.kind,D e.Pv,D e.id,D e.body,D e.Qs,D e.Qz],.agg #[D a.code,D a.iB,D a.Qz,D a.body],D num] w (λe' w'=>e'=.returned (.tuple #[])/\ ∃A' c' I,I=bH++[(⟨n,q,y.b.ep,e,a,num⟩:l5)]/\St B w0 w' ((.Pj kn (eP n up (.slice dA data.length dc) Qr (.slice (aD bb 0) 4 4) Hh Us (.slice iA ix.length ic) (pv) turn) 95)::(.own 58 6 (.slice (aD bb 0) 4 4) 4 ((bs).flatMap BX.cells))::(.off 113 23 iA ix.length ic ((ix).flatMap LX.cells))::(.Pj kw (nG (nv) d (.slice fA fx.length fc) (kG sh n q (y.b.ep,(y.b.JU.length:Int))) (.slice A' I.length c') (.slice tA tl.length tc) calls) 87)::(.own 113 23 (.slice fA fx.length fc) fx.length ((fx).flatMap LX.cells))::(.own 159 14 (.slice A' I.length c') I.length ((I).flatMap l5.cells))::(.own 111 7 (.slice tA tl.length tc) tl.length ((tl).flatMap zH.cells))::fs)):=by
 have Z:=(S.own 1 E).1;rw[jF (sz:=6) (λ_=>E)]at Z;refine iW 68 func50 ?_;refine cw [0,1,2,3,4,5] ?_;refine zN 2 ?_;refine jM S ?_;intro b1 w2 S3;refine jM S3 ?_;intro b4 w5 S6;refine zN 3 ?_;have O:=S6.drew;refine gT 29 25 O [7] ?_;iterate 5 refine jf ?_
 refine gk (v:=.slice sA bH.length sc) 5 E (St.del 7 O) (λ_ VX=>(ay E E (aV (St.cl 5 VX E aAj)))) ?_;iterate 10 refine jf ?_
 refine gk 16 E (St.del 7 O) (λ_ _=>mY q) ?_;refine jf ?_;refine gk (v:=D y.b.ep) 18 E (St.del 7 O) (λ_ arv=>(ay E E (aV (Rd.Qg (i:=1) (St.Vj 3 arv E) (dw (enc:=BX.cells) (sz:=6) (λ_=>E) hy E))))) ?_;iterate 3 refine jf ?_
 refine gk (v:=.agg #[D (n:Int),D (q:Int),D y.b.ep,D e.kind,D e.Pv,D e.id,D e.body,D e.Qs,D e.Qz,D a.code,D a.iB,D a.Qz,D a.body,D num]) 22 E (St.del 7 O) (λ_ _=>iE) ?_;refine gF (m:=5) (r:=23) kQ ?_;refine oV (i:=23) E E (V:=λb=>.slice (aD b 0) 1 1) (row:= #[D (n:Int),D (q:Int),D y.b.ep,D e.kind,D e.Pv,D e.id,D e.body,D e.Qs,D e.Qz,D a.code,D a.iB,D a.Qz,D a.body,D num]) (t:=159) O (wn E) E E (bq (vs:=[(0,.agg #[D (n:Int),D (q:Int),D y.b.ep,D e.kind,D e.Pv,D e.id,D e.body,D e.Qs,D e.Qz,D a.code,D a.iB,D a.Qz,D a.body,D num])]) E Aq kQ) ?_;intro b31 w32 yS;refine jf ?_;refine gF (m:=4) (r:=24) kQ ?_;refine ny (i:=24) E E (news:=[D (n:Int),D (q:Int),D y.b.ep,D e.kind,D e.Pv,D e.id,D e.body,D e.Qs,D e.Qz,D a.code,D a.iB,D a.Qz,D a.body,D num]) (xs':=(bH++[(⟨n,q,y.b.ep,e,a,num⟩:l5)]).flatMap l5.cells) 8 yS (wn E) E E E E E E (St.nO (xs:=[D (n:Int),D (q:Int),D y.b.ep,D e.kind,D e.Pv,D e.id,D e.body,D e.Qs,D e.Qz,D a.code,D a.iB,D a.Qz,D a.body,D num]) 0 yS E E E) Tryz.underlying34 atQ E dQ (dh E) lQ Y (jV (enc:=l5.cells) E E) ?_;intro J M w36 hc38 aFh F9;refine jf ?_;refine gy kQ E E E ?_;refine zN 3 ?_;refine kU 6 F9 kQ ?_ (hs:=by exact aAl);intro w40 J5;refine zQ ?_;refine jY ?_;refine zQ ?_;have h:=J5.drew;refine aO 29 h [6] ?_;refine aP 11 ?_;refine ak 11 E (St.del 6 h) (λ_ _=>mY q) ?_;refine eH ?_;refine ak (v:=D y.b.ep) 13 E (St.del 6 h) (λ_ afP=>(ay E E (aV (Rd.Qg (i:=1) (St.Vj 4 afP E) (dw (enc:=BX.cells) (sz:=6) (λ_=>E) hy E))))) ?_;refine aP 5 ?_;refine ak 19 E (St.del 6 h) (λ_ _=>mY q) ?_;refine eH ?_;refine ak (v:=.slice y.A y.b.JU.length y.c) 21 E (St.del 6 h) (λ_ aeS=>(ay E E (aV (Rd.Qg (i:=5) (St.Vj 4 aeS E) (dw (enc:=BX.cells) (sz:=6) (λ_=>E) hy E))))) ?_;refine eH ?_;refine ak (v:=.agg #[D y.b.ep,D (y.b.JU.length:Int)]) 23 E (St.del 6 h) (λ_ _=>iE) ?_;refine aP 2 ?_;refine ak (v:=pV kw (10+n*8)) 26 E (St.del 6 h) (λ_ _=>(aQ E E E (fu n underlying85 kQ E hn))) ?_;refine ak (v:=pV kw (10+n*8+q*2)) 27 E (St.del 6 h) (λ_ _=>(aQ E E E (fu q Tryz.underlying84 kQ E hq))) ?_;refine bG 28 ?_;refine xC (i:=28) E E (cs:= #[D y.b.ep,D (y.b.JU.length:Int)]) (row':=nG (nv) d (.slice fA fx.length fc) (kG sh n q (y.b.ep,(y.b.JU.length:Int))) (.slice J (bH.length+1) M) (.slice tA tl.length tc) calls) (fs':=(_::_::_::_::_::_::(.Pj kw (nG (nv) d (.slice fA fx.length fc) (kG sh n q (y.b.ep,(y.b.JU.length:Int))) (.slice J (bH.length+1) M) (.slice tA tl.length tc) calls) 87)::_::_::_::fs)) 6 h (wn E) E E E E E E Y5 E (dh E) (by rw[aip];omega) (aqv hn hq (a:=y.b.ep) (b:=(y.b.JU.length:Int))) E ?_;intro w71 Jo;refine aP 2 ?_;refine dD (l':=[]) trivial (ru ?_);have xu:=Jo.bg [2,1,0];refine⟨E,J,M,bH++[(⟨n,q,y.b.ep,e,a,num⟩:l5)],E,?_⟩;rw[aY];exact xu
def Ce{B kn kw bb n turn calls dc ic fc sc tc:Nat}{up:Bool}{dA iA fA sA tA:Option Addr}{data:List UInt8}{Qr:Int}{Hh:Nat->Pl}{Us:Nat->Bool}{pv nv:Value}{d:UE}{sh:Nat->Nat->Int×Int}{bs:List BX}{ix fx:List LX}{bH:List l5}{tl:List zH}{w0 w:World}{fs:List Nf}{q:Nat}(hn:n<5)(hq:q<4){y:BX}(hy:bs[q]? =some y)(S:St B w0 w (nF kn n up dA data dc Qr bb Hh Us iA ix ic pv turn bs (wF kw nv d fA fx fc sh sA bH sc tA tl tc calls fs)))(hb:(fx.length+1)*200<=140737488355328):
 Calls prog 84 #[pV kw 0,pV kn 0,D (q:Int)] w (λe w'=>e=.returned (.tuple #[])/\ ∃A' c' I,I=fx++[⟨qI n q y.b,none,0⟩]/\St B w0 w' (nF kn n up dA data dc Qr bb Hh Us iA ix ic pv turn bs (wF kw nv d A' I c' sh sA bH sc tA tl tc calls fs))):=by
 have J:=(S.own 1 E).1;rw[jF (sz:=6) (λ_=>E)]at J;refine iW 29 func84 ?_;refine cw [0,1,2] ?_;refine zN 7 ?_;refine vv (mY q) ?_;refine vv (ay E E (eZ (cs:=BX.cells y) (Rd.Al (St.Vj 1 S E) (λ_ _ h=>dw (enc:=BX.cells) (sz:=6) (λ_=>E) hy h)))) ?_;refine iL S iI ?_;intro b1 w2 S3;refine sa 0 S3 kQ ?_;intro w4 S5;refine zN 2 ?_;have S6:=S5.fJ [5,5];have Z:=S6.drew;refine aO 15 Z [1,0] ?_;refine aP 13 ?_;refine ak (v:=.agg #[D 3,D (n:Int),D y.b.fr,D (q:Int),D y.b.ep,D (y.b.JU.length:Int),D 0,D 0,D 0,D 0,D 0,D 0,D 0,.slice none 0 0,.bool false,D 0,D 0,D 0,D 0,D 0,D 0,D 0,D 0]) 13 E (Z.sZ [1,0]) (λ_ _=>iE) ?_;refine bG 14 ?_;refine lN 14 E eQ (jg (x:=⟨qI n q y.b,none,0⟩) Z Y) ?_;rintro _ Rt ⟨rfl,A22,c23,M,O,xq⟩;refine⟨_,E,?_⟩;refine aP 2 ?_;refine dD (l':=[]) trivial (ru ?_);have wm:=xq.bg [2];have xL:=wm.fJ [6,6,3,3,6,6,6];exact⟨E,A22,c23,M,O,xL⟩
noncomputable def ni(n q:Nat)(b:bF)(at_:Int)(fl:List bY):List bY:=if (ji b at_).2.2≠0 then fl else fl++[Jv n q b at_]
def aFi{B:Nat}{w0 w:World}{a b c d e f g x:Nf}{fs:List Nf}(S:St B w0 w (a::b::c::d::e::f::g::x::fs)):St B w0 w (a::b::c::d::e::f::g::(fs++[x])):=
 S.perm (Perm.cons _ (Perm.cons _ (Perm.cons _ (Perm.cons _ (Perm.cons _ (Perm.cons _ (Perm.cons _ (Bv (l₁:=[x]) (l₂:=fs)))))))))
def OQ{B kn kw bb n turn calls dc ic fc sc tc:Nat}{up:Bool}{dA iA fA sA tA:Option Addr}{data:List UInt8}{Qr:Int}{Hh:Nat->Pl}{Us:Nat->Bool}{pv nv:Value}{d:UE}{sh:Nat->Nat->Int×Int}{bs:List BX}{ix fx:List LX}{bH:List l5}{tl:List zH}{w0 w:World}{fs:List Nf}{q:Nat}{L:List Nf}(hn:n<5)(hq:q<4){y:BX}(hy:bs[q]? =some y)(at_:Int)(Z:EM L y)(hL:∀f∈L,f∈fs)(aFj:y.b.JU.length*48<=reachBytes)(iB: -2<=y.b.ep/\y.b.ep<=2000000)(S:St B w0 w (nF kn n up dA data dc Qr bb Hh Us iA ix ic pv turn bs (wF kw nv d fA fx fc sh sA bH sc tA tl tc calls fs)))(hb:(fx.length+1)*200<=140737488355328):
 Calls prog 87 #[pV kw 0,pV kn 0,D (q:Int),D at_] w (λe w'=>e=.returned (.tuple #[])/\ ∃(A':Option Addr) (c':Nat) (O:List LX) (N:List Nf),O.map LX.l=ni n q y.b at_ (fx.map LX.l)/\(∀x∈O,x∈fx\/Vt N x)/\St B w0 w' (nF kn n up dA data dc Qr bb Hh Us iA ix ic pv turn bs (wF kw nv d A' O c' sh sA bH sc tA tl tc calls (fs++N)))):=by
 have hlen:=(S.own 1 E).1;rw[jF (sz:=6) (λ_=>E)]at hlen;refine iW 44 func87 ?_;refine cw [0,1,2,3] ?_;refine zN 7 ?_;refine vv (mY q) ?_;refine vv (ay E E (eZ (cs:=BX.cells y) (Rd.Al (St.Vj 1 S E) (λ_ _ h=>dw (enc:=BX.cells) (sz:=6) (λ_=>E) hy h)))) ?_;refine iL S iI ?_;intro b1 w2 S3;refine sa 0 S3 kQ ?_;intro w4 S5;refine zN 6 ?_;refine eB eQ ((show Calls _ _ _ _ (WI _ (ji y.b at_))from abC y.b.GR y.b.ep y.b.fr y.b.tg y.b.rd y.A y.c y.b.JU at_ Z.2 _ (Z.1.rd S5 (Qw 8 E hL)) aFj)) ?_;rintro _ w9 ⟨A6,c7,aFk,rfl,T11⟩;refine⟨_,E,?_⟩;have F8:=S5.ext T11 E;refine zN 13 ?_;by_cases h12:(ji y.b at_).2.2=0
 ·refine zN 6 ?_;have Rw:=F8.fJ [6,6];have I:=Rw.drew;refine aO 16 I [1,0] ?_;refine aP 10 ?_;refine ak (v:=D (y.b.ep+1)) 10 E (I.sZ [1,0]) (λ_ _=>jB) ?_;refine aP 3 ?_;refine ak (v:=.agg #[D 4,D (n:Int),D y.b.tg,D (q:Int),D (y.b.ep+1),D at_,D 0,D 0,D 0,D 0,D 0,D 0,D 0,.slice A6 ((ji y.b at_).1.length) c7,.bool ((ji y.b at_).2.1),D 0,D 0,D 0,D 0,D 0,D 0,D 0,D 0]) 14 E (I.sZ [1,0]) (λ_ _=>iE) ?_;refine bG 15 ?_;refine lN 15 E eQ (jg (x:=⟨Jv n q y.b at_,A6,c7⟩) I Y) ?_;rintro _ w34 ⟨rfl,A30,c31,aFl,M,Gc⟩;refine⟨_,E,?_⟩;refine aP 2 ?_;refine dD (l':=[]) trivial (ru ?_);have wu:=Gc.bg [3];have F9:=wu.fJ [7,7,3,3,7,7,7];refine⟨E,A30,c31,aFl,[.dB 6 A6 ((ji y.b at_).1.length) (((ji y.b at_).1).flatMap Ev.cells)],?_,?_,?_⟩
  · rw[ni,ah (λh=>h h12),M,gX];rfl
  · intro x J;rw[M]at J;rcases bD.1 J with J|J;exact .inl J;rw[aI]at J;subst J;exact .inr ⟨Ro.dB (aI.2 E),aFk⟩
  · exact aFi F9
 refine zN 7 ?_;have Dg:=F8.bg [1];have Ey:=Dg.fJ [7,7,7,7,7,7,7];have zG:=Ey.bg [7];refine⟨E,fA,fc,fx,[],?_,?_,?_⟩
 · rw[ni,aj h12]
 · exact λx J=>.inl J
 · rw[bI];exact zG
def aFm(w:World)(r:List UInt8×Int×Int)(e:Ending)(w':World):Prop:=
 ∃A c,e=.returned (.tuple #[.agg #[.slice A r.1.length c,D r.2.1],D r.2.2])/\St w.heap.size w w' [.dB 1 A r.1.length (JV r.1)]
def D5{P:Program}{f:FuncId}{vs:Array Value}{w:World}{r:List UInt8×Int×Int}(h:Calls P f vs w (vG w r)):Calls P f vs w (aFm w r):=h.mono λe w' ⟨A,c,h1,I,J,M⟩=>
 ⟨A,c,h1,((St.start w).on I).cons ⟨J,M⟩ λk _ i g O=>by simp at O⟩
def Mh{d:List UInt8}{s:Int}{rs:List dN}{k:Nat}{r:dN}(h:rs[k]? =some r):gD d s (rs.drop k)=if (jS d s r).2.2≠0 then none else gD (jS d s r).1 s (rs.drop (k+1)):=by rw[U2 h,gD]
def ais{d:List UInt8}{s:Int}{r:dN}(h:(jS d s r).2.2=0):(jS d s r).2.1=s:=by rw[(R6 h).1]
def sM{B kn kw bb n turn calls dc ic fc sc tc:Nat}{up:Bool}{dA iA fA sA tA:Option Addr}{data:List UInt8}{Qr:Int}{Hh:Nat->Pl}{Us:Nat->Bool}{pv nv:Value}{d:UE}{sh:Nat->Nat->Int×Int}{bs:List BX}{ix fx:List LX}{bH:List l5}{tl:List zH}{w0 w:World}{fs:List Nf}{L:List Nf}{rs:List dN}{RA:Option Addr}{rc:Nat}(hrs:Ro fs 10 RA rs.length (rs.flatMap dN.cells))(htp:Ro L 1 dA data.length (JV data))(hL:∀f∈L,f∈fs)(hrl:rs.length<=1000000)(S:St B w0 w (nF kn n up dA data dc Qr bb Hh Us iA ix ic pv turn bs (wF kw nv d fA fx fc sh sA bH sc tA tl tc calls fs))):
 Calls prog 38 #[pV kn 0,.slice RA rs.length rc] w (λe w'=>(gD data Qr rs=none/\e=.returned (.bool false)/\St B w0 w' (nF kn n up dA data dc Qr bb Hh Us iA ix ic pv turn bs (wF kw nv d fA fx fc sh sA bH sc tA tl tc calls fs)))\/ ∃d' A' c' N,gD data Qr rs=some d'/\e=.returned (.bool true)/\Ro (L++N) 1 A' d'.length (JV d')/\St B w0 w' (nF kn n up A' d' c' Qr bb Hh Us iA ix ic pv turn bs (wF kw nv d fA fx fc sh sA bH sc tA tl tc calls (fs++N)))):=by
 refine iW 34 func38 ?_;refine cw [0,1] ?_;refine zN 10 ?_;refine vv (ay E E (eZ (cs:=[.slice dA data.length dc,D Qr]) (St.rg 0 S E (vI)))) ?_;refine iL S Ck ?_;intro b1 w2 S3;refine sa 0 S3 kQ ?_;intro w4 S5;refine zN 11 ?_;refine fV (X:=Nat×(Option Addr)×Nat×(List UInt8)×(List Nf)) (λI=>[(0,pV kn 0),(5,pV b1 0),(14,.slice RA rs.length rc),(15,D (rs.length:Int)),(16,D (I.1:Int))]) (λI wr=>(I.1<=rs.length)/\(gD data Qr rs=gD I.2.2.2.1 Qr (rs.drop I.1))/\(Ro (L++I.2.2.2.2) 1 I.2.1 I.2.2.2.1.length (JV I.2.2.2.1))/\St B w0 wr ((.Pj b1 #[.slice I.2.1 I.2.2.2.1.length I.2.2.1,D Qr] 91)::(nF kn n up dA data dc Qr bb Hh Us iA ix ic pv turn bs (wF kw nv d fA fx fc sh sA bH sc tA tl tc calls (fs++I.2.2.2.2))))) (λI=>rs.length-I.1) (0,dA,dc,data,[]) ?_ ?_ ?_
 ·exact⟨aC _,E,by rw[bI];exact htp,by rw[bI];exact S5⟩
 ·exact Dc
 rintro⟨k,A1,c1,M,N1⟩ w6 ⟨hi8,O,J,S7⟩
 try dsimp only at hi8 O J S7
 refine bK (l':=[(0,pV kn 0),(5,pV b1 0),(14,.slice RA rs.length rc),(15,D (rs.length:Int)),(16,D (k:Int))]) Dc (aX (aH ?_));by_cases h11:(k:Int)< (rs.length:Int)
 ·refine zN 10 ?_;obtain⟨x,hx⟩:∃x,rs[k]? =some x:=⟨_,dJ Y⟩;refine zQ ?_;obtain⟨rb,ro,hra,_,hrc⟩:=(hrs.rd S7 (Qw 8 E (λf hf=>bO _ hf))).2 Y;subst hra;refine vv (mY k) ?_;refine vv (v:=.agg #[D x.kind,D x.Qu,D x.Pf,D x.Vk,D x.ev.kind,D x.ev.Pv,D x.ev.id,D x.ev.body,D x.ev.Qs,D x.ev.Qz]) (ay E E (eZ (cs:=dN.cells x) (λj u hu=>by rw[jT];exact hrc (k*10+j) u (dw (enc:=dN.cells) (sz:=10) (λ_=>E) hx hu)))) ?_;refine iL S7 zR ?_;intro b12 Hq oJ;refine stA 0 oJ kQ ?_;intro OI rX;refine zN 6 ?_;refine eB eQ (D5 (KW A1 M.length c1 M Qr x _ (J.rd rX (Qw 9 E (aac hL))))) ?_;rintro _ J4 ⟨Z,c18,rfl,T21⟩;refine⟨_,E,?_⟩;have sU:=rX.ext T21 E;refine zN 3 ?_;refine iL sU Ck ?_;intro b22 Oz mG;refine stA 0 mG kQ ?_;intro w25 uE;refine zN 7 ?_;by_cases h27:(jS M Qr x).2.2=0
  ·have hsy:=ais h27;rw[hsy]at uE;refine zN 8 ?_;refine stA 3 uE kQ ?_;intro w28 xL;refine zN 4 ?_;refine vv (v:=D ((k+1:Nat):Int)) jB ?_;refine zN 2 ?_;have Ew:=xL.bg [2,0];have tN:=Ew.fJ [8,8,8,8,8,8,8,8];have uh:St B w0 w28 (_::_::_::_::_::_::_::_::((fs++N1)++[.dB 1 Z ((jS M Qr x).1.length) (JV ((jS M Qr x).1))])):=tN.toEnd 8 E;have yS:=uh;rw[gq]at yS;refine bQ (k+1,Z,c18,(jS M Qr x).1,N1++[.dB 1 Z ((jS M Qr x).1.length) (JV ((jS M Qr x).1))]) ?_ Dc (by first|omega|(dsimp only;omega));exact⟨uQ,(by dsimp only;rw[O,Mh hx,ah (λh=>h h27)]),(Ro.dB air),yS⟩
  refine zN 17 ?_;have uO:=uE.bg [3,2,1,0];exact .inl ⟨by rw[O,Mh hx,aj h27],E,uO.Vv⟩
 refine zN 16 ?_;refine kU (row':=eP n up (.slice A1 M.length c1) Qr (.slice (aD bb 0) 4 4) Hh Us (.slice iA ix.length ic) (pv) turn) 1 S7 kQ ?_;intro w35 wu;refine zQ ?_;refine dD (l':=[]) trivial (iY (aX (aH (va ?_))));refine zN 4 ?_;have F9:=wu.bg [0];exact .inr ⟨M,A1,c1,N1,by rw[O,sS Y];rfl,E,J,F9⟩
structure Uk (B:Nat)(w0:World):Prop where
 u0:w0.cell? ⟨1,0,none⟩=some (D (-1))
 u1:w0.cell? ⟨1,1,none⟩=some (D 0)
 ul:1<B
 n0:w0.cell? ⟨0,0,none⟩=some (D (-1))
 n1:w0.cell? ⟨0,1,none⟩=some (D 0)
 nl:0<B
def Uk.rg{B:Nat}{w0 w:World}{fs:List Nf}(h:Uk B w0)(S:St B w0 w fs):w.rangeAt 1 0 [D (-1),D 0]:=λj u I=>by
 have J:j<2:=(cK.1 I).1;have:j=0\/j=1:=Y
 rcases this with rfl|rfl
 ·rw[<-I];exact(S.QM.cell (p:=⟨1,0,none⟩) h.ul).trans h.u0
 rw[<-I];exact(S.QM.cell (p:=⟨1,1,none⟩) h.ul).trans h.u1
def Uk.nw{B:Nat}{w0 w:World}{fs:List Nf}(h:Uk B w0)(S:St B w0 w fs):Nw w:=
 ⟨(S.QM.cell (p:=⟨0,0,none⟩) h.nl).trans h.n0,(S.QM.cell (p:=⟨0,1,none⟩) h.nl).trans h.n1,TG h.nl S.base⟩
def vW{P:Program}{t:TypeId}{w:World}{b m:Nat}{row:Array Value}{tt:TypeId}{ds:TypeDesc}(I:iq w b row tt)(J:P.underlying t=some ds)(M:ds.isRow=true)(O:(P.info? t).map (·.size)=some m)(Z:row.size=m):(Instr.loadAt t (pV b 0)).run P w=.ok (.agg row) w:=by
 have:=Gm (P:=P) (w:=w) (t:=t) (b:=b) (off:=0) (cs:=row.toList) J M O (by simpa using Z) (λj u h=>by rw[fq];exact I.cell (by simpa using h));simpa using this
def Gx{B kn kw bb n turn calls dc ic fc sc tc:Nat}{up:Bool}{dA iA fA sA tA:Option Addr}{data:List UInt8}{Qr:Int}{Hh:Nat->Pl}{Us:Nat->Bool}{pv nv:Value}{d:UE}{sh:Nat->Nat->Int×Int}{bs:List BX}{ix fx:List LX}{bH:List l5}{tl:List zH}{w0 w:World}{fs:List Nf}{q b6 b2 b3 b7:Nat}(hn:n<5)(hq:q<4){y:BX}(hy:bs[q]? =some y)(x:LX)(a:kg)(S:St B w0 w (nF kn n up dA data dc Qr bb Hh Us iA ix ic pv turn bs (wF kw nv d fA fx fc sh sA bH sc tA tl tc calls fs)))(O:Nf.Pj b6 (LX.row x) 113∈fs)(J:Nf.Pj b2 #[je kn] 88∈fs)(Kk:Nf.Pj b3 #[D (q:Int)] 3∈fs)(Z:Nf.Pj b7 #[je kw] 77∈fs)(hu:Uk B w0)(hb:(fx.length+1)*200<=140737488355328)(hb2:(bH.length+1)*112<=140737488355328):
 Calls prog 81 #[.agg #[D a.code,D a.iB,D a.Qz,D a.body],pV b6 0,pV b2 0,pV b3 0,pV b7 0] w (λe w'=>e=.returned (.tuple #[])/\(QK y.b-> ∃sA' sc' afS M0 M4 Sg,afS=bH++[(⟨n,q,y.b.ep,x.l.op,a,x.l.num⟩:l5)]/\Sg=fx++[⟨nS n x.l.num a nowhere,none,0⟩]/\St B w0 w' (nF kn n up dA data dc Qr bb Hh Us iA ix ic pv turn bs (wF kw nv d M0 Sg M4 (kG sh n q (y.b.ep,(y.b.JU.length:Int))) sA' afS sc' tA tl tc calls fs)))/\(¬QK y.b-> ∃M0 M4 Sg,Sg=fx++[⟨nS n x.l.num a (Hh q),none,0⟩]/\St B w0 w' (nF kn n up dA data dc Qr bb Hh Us iA ix ic pv turn bs (wF kw nv d M0 Sg M4 sh sA bH sc tA tl tc calls fs)))):=by
 have hlen:=(S.own 1 E).1;rw[jF (sz:=6) (λ_=>E)]at hlen;refine iW 51 func81 ?_;refine cw [0,1,2,3,4] ?_;refine zN 2 ?_;refine jM S ?_;intro b1 w2 S3;refine zN 5 ?_;refine vv (ay E E (aV ((St.QO S3 (Qw 8 E fD _ O)).cell E))) ?_;refine zQ ?_;refine vv (ay E E (eZ (cs:=[D (-1),D 0]) (Uk.rg hu S3))) ?_;refine vv (v:=.agg #[D x.l.num,D a.code,D a.iB,D a.Qz,D a.body,D (-1),D 0]) iE ?_;refine iL S3 aDg ?_;intro b4 w5 S6;refine sa 0 S6 kQ ?_;intro w7 S8;refine zN 4 ?_;refine iN S8 mixed kQ ?_;refine uv (v:=pV kn 0) (λ_ Sx9=>(ay E E (aV ((St.QO Sx9 (Qw 9 E fD _ J)).cell E)))) ?_;refine zN 3 ?_;refine uv (v:=D (q:Int)) (λ_ VX=>(ay E E (aV ((St.QO VX (Qw 9 E fD _ Kk)).cell E)))) ?_;refine uv (λ_ _=>mY q) ?_;refine zQ ?_;refine uv (v:=D y.b.GR) (λ_ aFo=>(ay E E (aV (Rd.Qg (i:=0) (St.Vj 3 aFo E) (dw (enc:=BX.cells) (sz:=6) (λ_=>E) hy E))))) ?_;refine zQ ?_;refine iw λQi I=>?_;refine zN 4 ?_;by_cases h20:y.b.GR=1
 ·refine zN 9 ?_;refine vv (ay E E (aV ((St.QO I (Qw 9 E fD _ Z)).cell E))) ?_;refine vv (ay E E (aV ((St.QO I (Qw 9 E fD _ J)).cell E))) ?_;refine vv (ay E E (aV ((St.QO I (Qw 9 E fD _ Kk)).cell E))) ?_;refine zQ ?_;refine vv (ay E E (eZ (cs:=[D x.l.op.kind,D x.l.op.Pv,D x.l.op.id,D x.l.op.body,D x.l.op.Qs,D x.l.op.Qz]) (λj u hj=>(St.QO I (Qw 9 E fD _ O)).cell (aad j u hj)))) ?_;refine zN 2 ?_;refine vv (ay E E (aV ((St.QO I (Qw 9 E fD _ O)).cell E))) ?_;have yj:=I.fJ [8,8,8,8,8,8,8];refine eB eQ (qp hn hq hy x.l.op a x.l.num yj Y) ?_;rintro _ Rt ⟨rfl,A22,c23,aFp,aFq,xq⟩;refine⟨_,E,?_⟩;refine zN 2 ?_;have wm:=xq.fJ [4,4];have xL:=wm.drew;refine aO 8 xL [1,0] ?_;refine ak (v:=pV kw 0) 0 E (xL.sZ [1,0]) (λ_ afT=>(ay E E (aV ((St.QO afT (Qw 7 E fD _ Z)).cell E)))) ?_;refine ak (v:=pV kn 0) 1 E (xL.sZ [1,0]) (λ_ ae0=>(ay E E (aV ((St.QO ae0 (Qw 7 E fD _ J)).cell E)))) ?_;refine aP 4 ?_;refine ak (v:=.agg #[D 1,D (n:Int),D (-1),D 0,D 0,D 0,D 0,D 0,D 0,D 0,D 0,D 0,D 0,.slice none 0 0,.bool false,D 0,D x.l.num,D a.code,D a.iB,D a.Qz,D a.body,D (-1),D 0]) 6 E (xL.sZ [1,0]) (λ_ _=>iE) ?_;refine bG 7 ?_;refine lN 7 E eQ (jg (x:=⟨nS n x.l.num a nowhere,none,0⟩) xL Y) ?_;rintro _ w41 ⟨rfl,A37,c38,ax5,asa,Hr⟩;refine⟨_,E,?_⟩;refine aP 2 ?_;refine dD (l':=[]) trivial (ru ?_);have vU:=Hr.bg [8,7];have Fq:=vU.fJ [6,6,3,3,6,6,6];exact⟨E,λ_=>⟨A22,c23,aFp,A37,c38,ax5,aFq,asa,Fq⟩,λh=>av (by unfold QK;omega) h⟩
 refine zN 3 ?_;by_cases h45:y.b.GR=2
 ·refine zN 6 ?_;refine vv (ay E E (aV ((St.QO I (Qw 9 E fD _ Z)).cell E))) ?_;refine vv (ay E E (aV ((St.QO I (Qw 9 E fD _ J)).cell E))) ?_;refine vv (ay E E (aV ((St.QO I (Qw 9 E fD _ Kk)).cell E))) ?_;refine zQ ?_;refine vv (ay E E (eZ (cs:=[D x.l.op.kind,D x.l.op.Pv,D x.l.op.id,D x.l.op.body,D x.l.op.Qs,D x.l.op.Qz]) (λj u hj=>(St.QO I (Qw 9 E fD _ O)).cell (aad j u hj)))) ?_;refine zN 2 ?_;refine vv (ay E E (aV ((St.QO I (Qw 9 E fD _ O)).cell E))) ?_;have zF:=I.fJ [8,8,8,8,8,8,8];refine eB eQ (qp hn hq hy x.l.op a x.l.num zF Y) ?_;rintro _ w51 ⟨rfl,Qm,c48,asb,alJ,rH⟩;refine⟨_,E,?_⟩;refine zN 2 ?_;have Az:=rH.fJ [4,4];have xP:=Az.drew;refine aO 8 xP [1,0] ?_;refine ak (v:=pV kw 0) 0 E (xP.sZ [1,0]) (λ_ asc=>(ay E E (aV ((St.QO asc (Qw 7 E fD _ Z)).cell E)))) ?_;refine ak (v:=pV kn 0) 1 E (xP.sZ [1,0]) (λ_ afP=>(ay E E (aV ((St.QO afP (Qw 7 E fD _ J)).cell E)))) ?_;refine aP 4 ?_;refine ak (v:=.agg #[D 1,D (n:Int),D (-1),D 0,D 0,D 0,D 0,D 0,D 0,D 0,D 0,D 0,D 0,.slice none 0 0,.bool false,D 0,D x.l.num,D a.code,D a.iB,D a.Qz,D a.body,D (-1),D 0]) 6 E (xP.sZ [1,0]) (λ_ _=>iE) ?_;refine bG 7 ?_;refine lN 7 E eQ (jg (x:=⟨nS n x.l.num a nowhere,none,0⟩) xP Y) ?_;rintro _ Zc ⟨rfl,A62,c63,aFr,aFs,xI⟩;refine⟨_,E,?_⟩;refine aP 2 ?_;refine dD (l':=[]) trivial (ru ?_);have Fu:=xI.bg [8,7];have Df:=Fu.fJ [6,6,3,3,6,6,6];exact⟨E,λ_=>⟨Qm,c48,asb,A62,c63,aFr,alJ,aFs,Df⟩,λh=>av (by unfold QK;omega) h⟩
 refine zN 5 ?_;have M:=I.drew;refine gT 8 6 M [] ?_;refine gk (v:=pV kn 0) 0 E M (λ_ aFt=>(ay E E (aV ((St.QO aFt (Qw 9 E fD _ J)).cell E)))) ?_;refine gk (v:=D (q:Int)) 1 E M (λ_ aFu=>(ay E E (aV ((St.QO aFu (Qw 9 E fD _ Kk)).cell E)))) ?_;iterate 2 refine jf ?_
 refine gk (v:=pV kn (5+q*2)) 4 E M (λ_ _=>(aQ E E E (fu q underlying30 kQ E hq))) ?_;refine gk (v:=.agg #[D ((Hh q).node),D ((Hh q).Pf)]) 5 E M (λ_ ase=>(ay E E (eZ (cs:=[D ((Hh q).node),D ((Hh q).Pf)]) (St.rg 2 ase E (aoP hq))))) ?_;refine gy kQ E E E ?_;refine zQ ?_;refine kU (row':= #[D x.l.num,D a.code,D a.iB,D a.Qz,D a.body,D ((Hh q).node),D ((Hh q).Pf)]) 0 M kQ ?_;intro w77 MV;refine zQ ?_;refine jY ?_;refine zQ ?_;have F4:=MV.fJ [6,6];have EF:=F4.drew;refine aO 8 EF [1,0] ?_;refine ak (v:=pV kw 0) 0 E (EF.sZ [1,0]) (λ_ aFv=>(ay E E (aV ((St.QO aFv (Qw 7 E fD _ Z)).cell E)))) ?_;refine ak (v:=pV kn 0) 1 E (EF.sZ [1,0]) (λ_ aFw=>(ay E E (aV ((St.QO aFw (Qw 7 E fD _ J)).cell E)))) ?_;refine aP 4 ?_;refine ak (v:=.agg #[D 1,D (n:Int),D (-1),D 0,D 0,D 0,D 0,D 0,D 0,D 0,D 0,D 0,D 0,.slice none 0 0,.bool false,D 0,D x.l.num,D a.code,D a.iB,D a.Qz,D a.body,D ((Hh q).node),D ((Hh q).Pf)]) 6 E (EF.sZ [1,0]) (λ_ _=>iE) ?_;refine bG 7 ?_;refine lN 7 E eQ (jg (x:=⟨nS n x.l.num a (Hh q),none,0⟩) EF Y) ?_;rintro _ w92 ⟨rfl,A88,c89,aFx,aFy,F6⟩;refine⟨_,E,?_⟩;refine aP 2 ?_;refine dD (l':=[]) trivial (ru ?_);have KN:=F6.bg [3,2];have KV:=KN.fJ [6,6,3,3,6,6,6];exact⟨E,λh=>av h (by unfold QK;omega),λ_=>⟨A88,c89,aFx,aFy,KV⟩⟩
section
open ChangeAt
section
variable {K:CK}{B n q:Nat}{w0 w w':World}{fs N Ls L:List Nf}{m m':Cl}{H H':List LX}{R:CX}{X X':Nd}{z z':NX}
def zV{b:bF}(h:aA b=0): -2<=b.ep/\b.ep<=2000000:=by
 have h1:=(gB h).1;unfold bP at h1;omega
def fC.at_(h:fC K L n X z)(J:q<4):∃y,z.bx[q]? =some y/\y.b=X.bs q/\EM L y:=by
 have M:z.bx.length=4:=by have:=bM length h.Vu;simpa[vB]using this
 refine⟨z.bx[q],dJ Y,?_,h.Xc _ (Bb _)⟩;have h1:(z.bx.map BX.b)[q]? =some (z.bx[q]).b:=by rw[qX,dJ Y];rfl
 rw[h.Vu]at h1;have I:q=0\/q=1\/q=2\/q=3:=Y
 rcases I with rfl|rfl|rfl|rfl<;>(simp only[vB]at h1;exact(wT h1).symm)
def Mi{bx:List BX}{f:Nat->bF}{y:BX}(h:bx.map BX.b=vB f)(I:q<4):(bx.set q y).map BX.b=vB (Qv f q y.b):=by rw[map_set,h,Zj I]
def Ia{bx:List BX}{y:BX}(h:∀u∈bx,EM L u)(I:EM L y):∀u∈bx.set q y,EM L u:=λu J=>by
 rcases mem_or_eq_of_mem_set J with h1|h1
 ·exact h u h1
 rw[h1];exact I
def CX.go(R:CX)(n:Nat)(z':NX)(fA:Option Addr)(fc:Nat)(fx:List LX)(sA:Option Addr)(sc:Nat)(tA:Option Addr)(tc:Nat)(N:List Nf):CX:=
 {R with nx:=Qv R.nx n z',fA:=fA,fc:=fc,fx:=fx,sA:=sA,sc:=sc,tA:=tA,tc:=tc,L:=R.L++N}
def Wd.fin{fA sA tA:Option Addr}{fc sc tc kn kw:Nat}{fx:List LX}{rr:List Nf}(M:K.nb n=kn)(O:K.wb=kw)(Z:iM K R m fs n=rr)(G:Good K R m H)(hn:n<5)
  (S:St B w0 w' (Gv kn n X' z'++(Gw kw (R.go n z' fA fc fx sA sc tA tc (N++Ls)) m'++(Ls++(rr++N)))))
  (hX:fC K (R.L++(N++Ls)) n X' z') (hf:∀u∈fx,u∈R.fx\/Vt (R.L++(N++Ls)) u) (h1:m'.au=Qv m.au n X') (h2:m'.PI=fx.map LX.l) (hH:∀u∈H',u∈H\/Vt (R.L++(N++Ls)) u):Wd K B w0 w' fs m' H':=by
 subst M;subst O;subst Z;have I:∀f∈R.L,f∈R.L++(N++Ls):=λf h=>bO _ h;have ez:(R.go n z' fA fc fx sA sc tA tc (N++Ls)).nx n=z':=JR _ _ _;have eX:m'.au n=X':=by rw[h1];exact JR _ _ _
 refine Wd.close (n:=n) (R:=R) (m:=m) (N:=N) (Ls:=Ls) (R':=R.go n z' fA fc fx sA sc tA tc (N++Ls)) ?_ (by rw[ez,eX];exact S) hn E ?_
 ·refine⟨h2.symm,λu hu=>(hf u hu).elim (λh=>(G.flo u h).mono I) id,λj J=>?_,G.arr.mono I,λu hu=>(hH u hu).elim (λh=>(G.hld u h).mono I) id⟩;by_cases e:j=n
  ·subst e;rw[ez,eX];exact hX
  rw[h1,Ph e]
  show fC K _ j _ (Qv R.nx n z' j)
  rw[Ph e];exact(G.jO j J).mono I
 intro j _ J;exact⟨by rw[h1,Ph J],Ph J⟩
def Wd.eU{fA sA tA:Option Addr}{fc sc tc kn kw:Nat}{fx:List LX}{rr:List Nf}(h:K.nb n=kn)(I:K.wb=kw)(J:iM K R m fs n=rr)(G:Good K R m H)(hn:n<5)
  (S:St B w0 w' (Gv kn n X' z'++(Gw kw (R.go n z' fA fc fx sA sc tA tc Ls) m'++(Ls++rr))))
  (M:fC K (R.L++Ls) n X' z') (O:∀u∈fx,u∈R.fx\/Vt (R.L++Ls) u) (h1:m'.au=Qv m.au n X') (Z:m'.PI=fx.map LX.l) (hH:∀u∈H',u∈H\/Vt (R.L++Ls) u):Wd K B w0 w' fs m' H':=
 Wd.fin (N:=[]) h I J G hn (by rw[bI];exact S) M O h1 Z hH
def fC.more(h:fC K L n X z):fC K (L++N) n X z:=h.mono λ_ I=>bO _ I
def fC.Uz{hs:Nat->Pl}{su:Nat->Bool}(h:fC K L n X z):fC K L n {X with QC:=hs,QA:=su} z:=⟨h.Vu,h.Xc,h.AX,h.ixm,h.ixo,h.nU⟩
def mH{x:LX}{P:LX->Prop}:∀u∈H,u∈x::H\/P u:=λ_ h=>.inl (dZ _ h)
def rE{fx:List LX}{x:LX}{P:LX->Prop}(I:P x):∀u∈fx++[x],u∈fx\/P u:=λu J=>(bD.1 J).elim .inl λh=>by rw[aI]at h;subst h;exact .inr I
def jW{l:bY}{c:Nat}(h:l.JU=[]):Vt L ⟨l,none,c⟩:=by
 unfold Vt Kj;dsimp only;rw[h];exact⟨Ro.UZ,aC _⟩
def vJ{f:Nf}(h:f∈Ls):f∈L++(N++Ls):=aL _ (aL _ h)
def mLN:∀f∈L++N,f∈L++(N++Ls):=λf h=>by rw[<-gq];exact bO _ h
end
section
variable {m:Cl}{n q:Nat}{X:Nd}{b:bF}{op:Ev}{num:Int}{a:kg}{l:bY}{d:List UInt8}
def IV(I:m.au n=X)(J:X.bs q=b)(h:QK b):m.done n q op num a={m with bH:=m.bH++[⟨n,q,b.ep,op,a,num⟩],Qx:=kG m.Qx n q (b.ep,b.JU.length),PI:=m.PI++[nS n num a nowhere]}:=by
 subst I;subst J;unfold Cl.done;rw[aj h];rfl
def Mj(I:m.au n=X)(J:X.bs q=b)(h:¬QK b):m.done n q op num a={m with PI:=m.PI++[nS n num a (X.QC q)]}:=by
 subst I;subst J;unfold Cl.done;rw[ah h];rfl
def aki{SR:bF×kg×Bool×Int}(I:m.au n=X)(J:X.bs l.q=b)(M:jd b l.op=SR)(h:SR.2.2.1=false):m.serve n l=m.done n l.q l.op l.num SR.2.1:=by
 subst I;subst J;subst M;unfold Cl.serve;rw[aj h]
def abD{SR:bF×kg×Bool×Int}(I:m.au n=X)(J:X.bs l.q=b)(M:jd b l.op=SR)(h:SR.2.2.1=true)(hw:gD X.data X.Qr [gW 2 l.q SR.1.ep 0 l.op]=none):m.serve n l=m.done n l.q l.op l.num (vQ 14):=by
 subst I;subst J;subst M;unfold Cl.serve Nd.write;rw[ah (by rw[h];simp),hw];rfl
def akj{SR:bF×kg×Bool×Int}(I:m.au n=X)(J:X.bs l.q=b)(M:jd b l.op=SR)(h:SR.2.2.1=true)(hw:gD X.data X.Qr [gW 2 l.q SR.1.ep 0 l.op]=some d):
 m.serve n l=m.put n {X with data:=d,PL:=some (.serve l.q SR.1.JU l.op l.num SR.2.1)}:=by
 subst I;subst J;subst M;unfold Cl.serve Nd.write;rw[ah (by rw[h];simp),hw];rfl
def abE{BR:bF×Int}(I:m.au n=X)(J:X.bs l.q=b)(M:dR b l.ep l.fr=BR)(h:BR.2≠0):m.Uv n l=m:=by
 subst I;subst J;subst M;unfold Cl.Uv;rw[aj h]
def aiq{BR:bF×Int}(I:m.au n=X)(J:X.bs l.q=b)(M:dR b l.ep l.fr=BR)(h:BR.2=0)(O:BR.1.ep=b.ep):m.Uv n l={m with PI:=m.PI++[qI n l.q b]}:=by
 subst I;subst J;subst M;unfold Cl.Uv;rw[ah (λe=>e h),aj O];rfl
def aiv{BR:bF×Int}(I:m.au n=X)(J:X.bs l.q=b)(M:dR b l.ep l.fr=BR)(h:BR.2=0)(O:BR.1.ep≠b.ep)(hw:gD X.data X.Qr [gW 4 l.q BR.1.ep l.fr aU]=none):m.Uv n l=m:=by
 subst I;subst J;subst M;unfold Cl.Uv Nd.write;rw[ah (λe=>e h),ah O,hw];rfl
def abF{BR:bF×Int}(I:m.au n=X)(J:X.bs l.q=b)(M:dR b l.ep l.fr=BR)(h:BR.2=0)(O:BR.1.ep≠b.ep)(hw:gD X.data X.Qr [gW 4 l.q BR.1.ep l.fr aU]=some d):
 m.Uv n l=m.put n {X with data:=d,PL:=some (.QL l.q BR.1)}:=by
 subst I;subst J;subst M;unfold Cl.Uv Nd.write;rw[ah (λe=>e h),ah O,hw];rfl
def Si(I:m.au n=X)(J:X.bs l.q=b)(h:b.tg≠l.fr\/b.ep+1≠l.ep):m.UL n l=m:=by
 subst I;subst J;unfold Cl.UL;rw[aj h]
def abG{BR:bF×Int}(I:m.au n=X)(J:X.bs l.q=b)(M:bX b l.at_=BR)(h1:¬(b.tg≠l.fr\/b.ep+1≠l.ep))(h:BR.2≠0):m.UL n l=m:=by
 subst I;subst J;subst M;unfold Cl.UL;rw[ah h1,aj h]
def YH{BR:bF×Int}(I:m.au n=X)(J:X.bs l.q=b)(M:bX b l.at_=BR)(h1:¬(b.tg≠l.fr\/b.ep+1≠l.ep))(h:BR.2=0)(O:BR.1.GR=b.GR):
 m.UL n l={ (m.put n {X with bs:=Qv X.bs l.q BR.1})with PI:=ni n l.q BR.1 l.at_ m.PI}:=by
 subst I;subst J;subst M;unfold Cl.UL;rw[ah h1,ah (λe=>e h),aj O];have e:((m.aF n l.q (bX ((m.au n).bs l.q) l.at_).1).au n).bs l.q=(bX ((m.au n).bs l.q) l.at_).1:=by
  unfold Cl.aF Cl.put;dsimp only;rw[JR];exact JR _ _ _
 unfold Cl.part ni;rw[e]
 split
 ·rfl
 rfl
def YI{BR:bF×Int}(I:m.au n=X)(J:X.bs l.q=b)(M:bX b l.at_=BR)(h1:¬(b.tg≠l.fr\/b.ep+1≠l.ep))(h:BR.2=0)(O:BR.1.GR≠b.GR)(hw:gD X.data X.Qr [gW 3 l.q BR.1.ep BR.1.tg aU]=none):m.UL n l=m:=by
 subst I;subst J;subst M;unfold Cl.UL Nd.write;rw[ah h1,ah (λe=>e h),ah O,hw];rfl
def afV{BR:bF×Int}(I:m.au n=X)(J:X.bs l.q=b)(M:bX b l.at_=BR)(h1:¬(b.tg≠l.fr\/b.ep+1≠l.ep))(h:BR.2=0)(O:BR.1.GR≠b.GR)(hw:gD X.data X.Qr [gW 3 l.q BR.1.ep BR.1.tg aU]=some d):
 m.UL n l=m.put n {X with data:=d,PL:=some (.gJ l.q BR.1 l.at_)}:=by
 subst I;subst J;subst M;unfold Cl.UL Nd.write;rw[ah h1,ah (λe=>e h),ah O,hw];rfl
def ait(I:m.au n=X)(J:X.bs l.q=b)(h:b.GR≠4\/b.fr≠l.fr):m.UK n l=m:=by
 subst I;subst J;unfold Cl.UK;rw[aj h]
def akk{BR:bF×Int}(I:m.au n=X)(J:X.bs l.q=b)(M:dM b l.ep l.at_ l.JU l.last=BR)(h1:¬(b.GR≠4\/b.fr≠l.fr))(h:BR.2=2):m.UK n l={m with PI:=m.PI++[qI n l.q b]}:=by
 subst I;subst J;subst M;unfold Cl.UK;rw[ah h1,aj h];rfl
def Xd{BR:bF×Int}(I:m.au n=X)(J:X.bs l.q=b)(M:dM b l.ep l.at_ l.JU l.last=BR)(h1:¬(b.GR≠4\/b.fr≠l.fr))(h:BR.2≠2)(O:BR.2≠0\/BR.1.JU.length=b.JU.length):m.UK n l=m:=by
 subst I;subst J;subst M;unfold Cl.UK;rw[ah h1,ah h,aj O]
def Xe{BR:bF×Int}(I:m.au n=X)(J:X.bs l.q=b)(M:dM b l.ep l.at_ l.JU l.last=BR)(h1:¬(b.GR≠4\/b.fr≠l.fr))(h:BR.2≠2)(O:¬(BR.2≠0\/BR.1.JU.length=b.JU.length))
  (hw:gD X.data X.Qr (sJ l.q BR.1 b.JU.length (l.at_.toNat+l.JU.length) l.last)=none):m.UK n l=m:=by
 subst I;subst J;subst M;unfold Cl.UK Nd.write;rw[ah h1,ah h,ah O,hw];rfl
def aiu{BR:bF×Int}(I:m.au n=X)(J:X.bs l.q=b)(M:dM b l.ep l.at_ l.JU l.last=BR)(h1:¬(b.GR≠4\/b.fr≠l.fr))(h:BR.2≠2)(O:¬(BR.2≠0\/BR.1.JU.length=b.JU.length))
  (hw:gD X.data X.Qr (sJ l.q BR.1 b.JU.length (l.at_.toNat+l.JU.length) l.last)=some d):m.UK n l=m.put n {X with data:=d,PL:=some (.UK l.q BR.1 l.last)}:=by
 subst I;subst J;subst M;unfold Cl.UK Nd.write;rw[ah h1,ah h,ah O,hw];rfl
def afW{BR:bF×Int}(I:m.au n=X)(J:X.bs l.q=b)(M:gZ b l.ep=BR)(h:BR.2≠0):m.U1 n l=m.put n (X.Uz n l):=by
 subst I;subst J;subst M;unfold Cl.U1;rw[aj h]
def YJ{BR:bF×Int}(J:m.au n=X)(M:X.bs l.q=b)(O:gZ b l.ep=BR)(h:BR.2=0)(hw:gD X.data X.Qr [gW 7 l.q b.ep 0 aU]=none):m.U1 n l=m.put n (X.Uz n l):=by
 subst J;subst M;subst O;unfold Cl.U1 Nd.write;rw[ah (λe=>e h)];have I:gD ((m.au n).Uz n l).data ((m.au n).Uz n l).Qr [gW 7 l.q ((m.au n).bs l.q).ep 0 aU]=none:=hw;rw[I];rfl
def afX{BR:bF×Int}(J:m.au n=X)(M:X.bs l.q=b)(O:gZ b l.ep=BR)(h:BR.2=0)(hw:gD X.data X.Qr [gW 7 l.q b.ep 0 aU]=some d):
 m.U1 n l=m.put n { (X.Uz n l)with data:=d,PL:=some (.QE l.q BR.1)}:=by
 subst J;subst M;subst O;unfold Cl.U1 Nd.write;rw[ah (λe=>e h)];have I:gD ((m.au n).Uz n l).data ((m.au n).Uz n l).Qr [gW 7 l.q ((m.au n).bs l.q).ep 0 aU]=some d:=hw;rw[I];rfl
end
end
section
variable {xo yo:Operand}{w:World}{f:Fn}{xs ys:Array Value}
def aqx{d:Nat}:(Op.equalIn (d+1) 93 (.func f xs ys) .nilFunc).run prog w=.ok false w:=by
 unfold Op.equalIn;simp[underlying93]
def aqy{d:Nat}:(Op.equalIn (d+1) 93 .nilFunc .nilFunc).run prog w=.ok true w:=by
 unfold Op.equalIn;simp[underlying93]
def zW:(do eqGuard .neq 93 xo yo (.func f xs ys) .nilFunc;binOp .neq 93 (.func f xs ys) .nilFunc:Sem Value).run prog w=.ok (.bool true) w:=by
 have h1:(eqGuard .neq 93 xo yo (.func f xs ys) .nilFunc)=pure ():=by unfold eqGuard;rfl
 have h:binOp .neq 93 (.func f xs ys) .nilFunc=(do let b<-Op.equalIn (9999+1) 93 (.func f xs ys) .nilFunc;pure (.bool (!b))):=by unfold binOp;rfl
 rw[h1,h];simp[aqx]
def NH:(do eqGuard .neq 93 xo yo .nilFunc .nilFunc;binOp .neq 93 .nilFunc .nilFunc:Sem Value).run prog w=.ok (.bool false) w:=by
 have h1:(eqGuard .neq 93 xo yo .nilFunc .nilFunc)=pure ():=by unfold eqGuard;rfl
 have h:binOp .neq 93 .nilFunc .nilFunc=(do let b<-Op.equalIn (9999+1) 93 .nilFunc .nilFunc;pure (.bool (!b))):=by unfold binOp;rfl
 rw[h1,h];simp[aqy]
def NI:(do eqGuard .eql 93 xo yo (.func f xs ys) .nilFunc;binOp .eql 93 (.func f xs ys) .nilFunc:Sem Value).run prog w=.ok (.bool false) w:=by
 have h1:(eqGuard .eql 93 xo yo (.func f xs ys) .nilFunc)=pure ():=by unfold eqGuard;rfl
 have h:binOp .eql 93 (.func f xs ys) .nilFunc=(do let b<-Op.equalIn (9999+1) 93 (.func f xs ys) .nilFunc;pure (.bool b)):=by unfold binOp;rfl
 rw[h1,h];simp[aqx]
def Xf:(do eqGuard .eql 93 xo yo .nilFunc .nilFunc;binOp .eql 93 .nilFunc .nilFunc:Sem Value).run prog w=.ok (.bool true) w:=by
 have h1:(eqGuard .eql 93 xo yo .nilFunc .nilFunc)=pure ():=by unfold eqGuard;rfl
 have h:binOp .eql 93 .nilFunc .nilFunc=(do let b<-Op.equalIn (9999+1) 93 .nilFunc .nilFunc;pure (.bool b)):=by unfold binOp;rfl
 rw[h1,h];simp[aqy]
end
def cZ.fit:cZ->Prop
 | .serve q JU _ _ _=>q<4/\JU.length<=2000
 | .QL q _=>q<4
 | .UK q _ _=>q<4
 | .gJ q b _=>q<4/\aA b=0
 | .QE q _=>q<4
noncomputable def Cl.more(w:Cl)(n:Nat):Cl:=if (w.au n).PL=none then Cl.drain n (w.au n).Pq w else w
def Nd.box(X:Nd)(r:List bY):Nd:={X with Pq:=r}
section
variable {m:Cl}{n q:Nat}{X:Nd}{b b':bF}
def D6{α:Type}(f:Nat->α)(k:Nat)(u v:α):Qv (Qv f k u) k v=Qv f k v:=by
 funext j
 unfold Qv
 split<;>rfl
def EN(h:(m.au n).PL≠none):m.more n=m:=ah h
def NJ(h:(m.au n).Pq=[]):m.more n=m:=by
 unfold Cl.more;rw[h]
 split<;>rfl
def Kl{l:bY}{r:List bY}(h:(m.au n).PL=none)(h1:(m.au n).Pq=l::r)(I:l.q<4):m.more n=((m.put n ((m.au n).box r)).QB n l).more n:=by
 show m.more n=((m.put n {m.au n with Pq:=r}).QB n l).more n
 have e:=(kJ (m:=m.put n {m.au n with Pq:=r}) (n:=n) (l:=l) I).jC;rw[show(m.put n {m.au n with Pq:=r}).au n={m.au n with Pq:=r}from JR _ _ _]at e;unfold Cl.more;rw[aj h,h1,Cl.drain,e]
def oN(h:(m.au n).up=false):m.step n=m:=aj h
def jX(h:(m.au n).up=true)(h1:(m.au n).PL=none):m.step n=if ((m.more n).au n).PL=none then(m.more n).lM n else m.more n:=by
 unfold Cl.step;rw[ah (by rw[h];simp),h1];unfold Cl.more;rw[aj h1]
def Nd.kN(X:Nd):Nd:={X with Qr:=X.data.length,PL:=none}
def Nd.aF(X:Nd)(q:Nat)(b:bF):Nd:={X with bs:=Qv X.bs q b}
def yc(X:Nd)(q:Nat)(b:bF):(m.put n X).aF n q b=m.put n (X.aF q b):=by
 unfold Cl.aF Cl.put;dsimp only;rw[JR,D6];rfl
def uT{p:cZ}(h:m.au n=X)(I:X.up=true)(J:X.PL=some p):m.step n=(m.put n X.kN).AP n p:=by
 subst h;unfold Cl.step;rw[ah (by rw[I];simp),J];rfl
def bL(X:Nd):(m.put n X).au n=X:=JR _ _ _
def kH{JU:List Ev}{op:Ev}{num:Int}{a:kg}(h:m.au n=X)(I:X.up=true)(J:X.PL=some (.serve q JU op num a))(M:X.bs q=b)(hs:QK b):
 m.step n={ (m.put n (X.kN.aF q {b with JU:=JU}))with bH:=m.bH++[⟨n,q,b.ep,op,a,num⟩],Qx:=kG m.Qx n q (b.ep,JU.length),PI:=m.PI++[nS n num a nowhere]}:=by
 rw[uT h I J]
 show((m.put n X.kN).aF n q { ((m.put n X.kN).au n).bs q with JU:=JU}).done n q op num a=_
 rw[bL,yc,show X.kN.bs q=b from M];rw[IV (b:={b with JU:=JU}) (bL _) (JR _ _ _) hs];rfl
def aek{JU:List Ev}{op:Ev}{num:Int}{a:kg}(h:m.au n=X)(I:X.up=true)(J:X.PL=some (.serve q JU op num a))(M:X.bs q=b)(hs:¬QK b):
 m.step n={ (m.put n (X.kN.aF q {b with JU:=JU}))with PI:=m.PI++[nS n num a (X.QC q)]}:=by
 rw[uT h I J]
 show((m.put n X.kN).aF n q { ((m.put n X.kN).au n).bs q with JU:=JU}).done n q op num a=_
 rw[bL,yc,show X.kN.bs q=b from M];rw[Mj (b:={b with JU:=JU}) (bL _) (JR _ _ _) hs];rfl
def qb(h:m.au n=X)(I:X.up=true)(J:X.PL=some (.QL q b)):m.step n={ (m.put n (X.kN.aF q b))with PI:=m.PI++[qI n q b]}:=by
 rw[uT h I J]
 show((m.put n X.kN).aF n q b).UG n q=_
 rw[yc];unfold Cl.UG Cl.send;rw[bL,show(X.kN.aF q b).bs q=b from JR _ _ _];rfl
def lK(h:m.au n=X)(I:X.up=true)(J:X.PL=some (.UK q b true)):
 m.step n={ (m.put n { (X.kN.aF q b)with QA:=Qv X.QA q false})with bH:=m.bH++[⟨n,q,b.ep,bC,iP,-1⟩],Qx:=kG m.Qx n q (b.ep,b.JU.length)}:=by
 rw[uT h I J];unfold Cl.AP;dsimp only;rw[aj E,yc];simp only[bL];unfold Cl.UR Cl.put;dsimp only;rw[D6,JR]
 show({m with au:=_,bH:=m.bH++[⟨n,q,((X.kN.aF q b).bs q).ep,bC,iP,-1⟩],Qx:=kG m.Qx n q (((X.kN.aF q b).bs q).ep,((X.kN.aF q b).bs q).JU.length)}:Cl)=_
 rw[show(X.kN.aF q b).bs q=b from JR _ _ _];rfl
def vK(h:m.au n=X)(I:X.up=true)(J:X.PL=some (.UK q b false)):m.step n={ (m.put n (X.kN.aF q b))with PI:=m.PI++[qI n q b]}:=by
 rw[uT h I J];unfold Cl.AP;dsimp only;rw[ah iQ,yc];unfold Cl.UG Cl.send;rw[bL,show(X.kN.aF q b).bs q=b from JR _ _ _];rfl
def sw{at_:Int}(h:m.au n=X)(I:X.up=true)(J:X.PL=some (.gJ q b at_)):m.step n={ (m.put n (X.kN.aF q b))with PI:=ni n q b at_ m.PI}:=by
 rw[uT h I J]
 show((m.put n X.kN).aF n q b).part n q at_=_
 rw[yc];unfold Cl.part Cl.send ni;rw[bL,show(X.kN.aF q b).bs q=b from JR _ _ _]
 split
 ·rfl
 rfl
def nW(h:m.au n=X)(I:X.up=true)(J:X.PL=some (.QE q b)):m.step n=m.put n (X.kN.aF q b):=by
 rw[uT h I J]
 show(m.put n X.kN).aF n q b=_
 rw[yc]
end
def aoQ{P:Program}{t e:TypeId}{A:Option Addr}{n c s:Nat}(k:Nat)(J:P.underlying t=some (.slice e))(I:(P.info? e).map (·.size)=some s)(M:k<=n)(w:World):
 (Instr.sliceAt t (.slice A n c) (some (.int .i64 (k:Int))) none none).run P w=.ok (.slice (if c=k then A else A.map (·.add (k*s))) (n-k) (c-k)) w:=by
 obtain⟨z,O,hs⟩:∃z,P.info? e=some z/\z.size=s:=by
  cases h:P.info? e with
  |none=>simp[h]at I
  |some z=>exact⟨z,E,by simpa[h]using I⟩
 have h1:(sizeOf e).run P w=.ok s w:=by simp[sizeOf,typeInfo,O,hs,Sem.run_bind,Result.andThen]
 have Z:=λw=>ali (P:=P) (n:=n) (c:=c) (kd:=.i64) k E M w;simp[Instr.sliceAt,Instr.slice,run_underlying J,Sem.run_bind,Result.andThen,Z,h1]
section
variable {K:CK}{B n:Nat}{w0 w w':World}{fs gs:List Nf}{m:Cl}{H:List LX}
def Wd.on(h:Wd K B w0 w fs m H)(I:Below w.heap.size w w'):Wd K B w0 w' fs m H:=by
 obtain⟨R,G,S⟩:=h;exact⟨R,G,S.on I⟩
def Wd.ext(h:Wd K B w0 w fs m H)(T:St w.heap.size w w' gs)(I:gs.all Nf.K8=true):Wd K B w0 w' (gs++fs) m H:=by
 obtain⟨R,G,S⟩:=h;refine⟨R,G,?_⟩;have:=S.ext T I;rwa [<-gq]at this
def Wd.KZ(h:Wd K B w0 w (gs++fs) m H):St B w0 w gs:=by
 obtain⟨R,_,S⟩:=h;exact S.sub (by rw[gq];exact G8 _ _)
def Wd.less(h:Wd K B w0 w (gs++fs) m H):Wd K B w0 w fs m H:=by
 obtain⟨R,G,S⟩:=h;exact⟨R,G,S.sub (by rw[gq];exact sublist_append_right _ _)⟩
def Wd.drew(h:Wd K B w0 w fs m H):Wd K B w0 w.drew fs m H:=by
 obtain⟨R,G,S⟩:=h;exact⟨R,G,S.drew⟩
end
def aix{B kn kw bb n turn calls dc ic fc sc tc:Nat}{up:Bool}{dA iA fA sA tA:Option Addr}{data:List UInt8}{Qr:Int}{Hh:Nat->Pl}{Us:Nat->Bool}{pv nv:Value}{d:UE}{sh:Nat->Nat->Int×Int}{bs:List BX}{ix fx:List LX}{bH:List l5}{tl:List zH}{w0 w:World}{fs:List Nf}{q b1 b2 b3 b4 b5 b6 b7:Nat}{h:BX}{x:LX}{a:kg}(hn:n<5)(hq:q<4){y:BX}(hy:bs[q]? =some y)(S:St B w0 w (nF kn n up dA data dc Qr bb Hh Us iA ix ic pv turn bs (wF kw nv d fA fx fc sh sA bH sc tA tl tc calls fs)))(hm1:Nf.Pj b1 (BX.cells h).toArray 58∈fs)(hm2:Nf.Pj b2 #[je kn] 88∈fs)(Kk:Nf.Pj b3 #[D (q:Int)] 3∈fs)(Qn:Nf.Pj b4 #[.func (.func 81) #[] #[je b6,je b2,je b3,je b7]] 185∈fs)(Rh:Nf.Pj b5 (kg.cells a).toArray 109∈fs)(hm6:Nf.Pj b6 (LX.row x) 113∈fs)(hm7:Nf.Pj b7 #[je kw] 77∈fs)(hu:Uk B w0)(hb:(fx.length+1)*200<=140737488355328)(hb2:(bH.length+1)*112<=140737488355328):
 Calls prog 82 #[pV b1 0,pV b2 0,pV b3 0,pV b4 0,pV b5 0] w (λe w'=>e=.returned (.tuple #[])/\(QK y.b-> ∃sA' sc' J M O I,J=bH++[(⟨n,q,y.b.ep,x.l.op,a,x.l.num⟩:l5)]/\I=fx++[⟨nS n x.l.num a nowhere,none,0⟩]/\St B w0 w' (nF kn n up dA data dc Qr bb Hh Us iA ix ic pv turn (bs.set q ⟨{y.b with JU:=h.b.JU},h.A,h.c⟩) (wF kw nv d M I O (kG sh n q (y.b.ep,(h.b.JU.length:Int))) sA' J sc' tA tl tc calls fs)))/\(¬QK y.b-> ∃M O I,I=fx++[⟨nS n x.l.num a (Hh q),none,0⟩]/\St B w0 w' (nF kn n up dA data dc Qr bb Hh Us iA ix ic pv turn (bs.set q ⟨{y.b with JU:=h.b.JU},h.A,h.c⟩) (wF kw nv d M I O sh sA bH sc tA tl tc calls fs)))):=by
 have hlen:=(S.own 1 E).1;rw[jF (sz:=6) (λ_=>E)]at hlen;refine iW 17 func82 ?_;refine cw [0,1,2,3,4] ?_;refine zQ ?_;have S1:=S.drew;refine DJ (C:=λw'=>St B w0 w' (nF kn n up dA data dc Qr bb Hh Us iA ix ic pv turn bs (wF kw nv d fA fx fc sh sA bH sc tA tl tc calls fs))) (m:=10) (listed:= #[false,false,false,false,false,false,false,false,false,false]) 7 mixed E E ?_;refine gk (v:=pV kn 0) 0 E S1 (λ_ Sx2=>(ay E E (aV ((St.QO Sx2 (Qw 7 E fD _ hm2)).cell E)))) ?_;iterate 3 refine jf ?_
 refine gk (v:=D (q:Int)) 4 E S1 (λ_ Sx6=>(ay E E (aV ((St.QO Sx6 (Qw 7 E fD _ Kk)).cell E)))) ?_;refine jf ?_;refine gk (v:=.slice h.A h.b.JU.length h.c) 6 E S1 (λ_ Sx8=>(ay E E (aV ((St.QO Sx8 (Qw 7 E fD _ hm1)).cell E)))) ?_;refine gy kQ E E E ?_;refine vv (mY q) ?_;refine zQ ?_;refine mZ (xs':=(bs.set q ⟨{y.b with JU:=h.b.JU},h.A,h.c⟩).flatMap BX.cells) 1 S1 (wn E) E E E E E E apR E (dh E) (by omega) (avh hy) ?_;intro w9 Z;have aFz:(bs.set q ⟨{y.b with JU:=h.b.JU},h.A,h.c⟩)[q]? =some ⟨{y.b with JU:=h.b.JU},h.A,h.c⟩:=qV Y;refine zQ ?_;refine jY ?_;refine zN 2 ?_;refine vv (ay E E (aV ((St.QO Z (Qw 7 E fD _ Qn)).cell E))) ?_;refine vv (ay E E (vW (St.QO Z (Qw 7 E fD _ Rh)) Tryz.underlying109 E kQ E)) ?_;refine zn eQ (Gx hn hq aFz x a Z hm6 hm2 Kk hm7 hu hb hb2) ?_;rintro _ w12 ⟨rfl,aFA⟩;refine⟨_,E,?_⟩;refine zQ ?_;refine dD (l':=[]) trivial (ru ?_);exact⟨E,aFA⟩
def aiy{B kn kw bb n turn calls dc ic fc sc tc:Nat}{up:Bool}{dA iA fA sA tA:Option Addr}{data:List UInt8}{Qr:Int}{Hh:Nat->Pl}{Us:Nat->Bool}{pv nv:Value}{d:UE}{sh:Nat->Nat->Int×Int}{bs:List BX}{ix fx:List LX}{bH:List l5}{tl:List zH}{w0 w:World}{fs:List Nf}{q b1 b2 b3 b4:Nat}{h:BX}(hn:n<5)(hq:q<4){y:BX}(hy:bs[q]? =some y)(S:St B w0 w (nF kn n up dA data dc Qr bb Hh Us iA ix ic pv turn bs (wF kw nv d fA fx fc sh sA bH sc tA tl tc calls fs)))(hm1:Nf.Pj b1 (BX.cells h).toArray 58∈fs)(I:Nf.Pj b2 #[je kn] 88∈fs)(J:Nf.Pj b3 #[D (q:Int)] 3∈fs)(Qn:Nf.Pj b4 #[je kw] 77∈fs)(hb:(fx.length+1)*200<=140737488355328):
 Calls prog 85 #[pV b1 0,pV b2 0,pV b3 0,pV b4 0] w (λe w'=>e=.returned (.tuple #[])/\ ∃(M0:Option Addr) (M4:Nat) (M:List LX),M=fx++[⟨qI n q h.b,none,0⟩]/\St B w0 w' (nF kn n up dA data dc Qr bb Hh Us iA ix ic pv turn (bs.set q h) (wF kw nv d M0 M M4 sh sA bH sc tA tl tc calls fs))):=by
 have O:=(S.own 1 E).1;rw[jF (sz:=6) (λ_=>E)]at O;refine iW 15 func85 ?_;refine cw [0,1,2,3] ?_;refine zQ ?_;have S1:=S.drew;refine DJ (C:=λw'=>St B w0 w' (nF kn n up dA data dc Qr bb Hh Us iA ix ic pv turn bs (wF kw nv d fA fx fc sh sA bH sc tA tl tc calls fs))) (m:=8) (listed:= #[false,false,false,false,false,false,false,false]) 6 mixed E E ?_;refine gk (v:=pV kn 0) 0 E S1 (λ_ Sx2=>(ay E E (aV ((St.QO Sx2 (Qw 7 E fD _ I)).cell E)))) ?_;iterate 3 refine jf ?_
 refine gk (v:=D (q:Int)) 4 E S1 (λ_ Sx6=>(ay E E (aV ((St.QO Sx6 (Qw 7 E fD _ J)).cell E)))) ?_;refine gk (v:=.agg ((BX.cells h).toArray)) 5 E S1 (λ_ Sx7=>(ay E E (vW (St.QO Sx7 (Qw 7 E fD _ hm1)) Tryz.underlying58 E kQ E))) ?_;refine gy kQ E E E ?_;refine vv (mY q) ?_;refine mZ (xs':=(bs.set q h).flatMap BX.cells) 1 S1 (wn E) E E E E E E zP E (dh E) (by omega) (by rw[fq];exact uj (enc:=BX.cells) (sz:=6) (λ_=>E) h _ _ (by omega)) ?_;intro w8 S9;have Z:(bs.set q h)[q]? =some h:=qV Y;refine zQ ?_;refine jY ?_;refine zN 2 ?_;refine vv (ay E E (aV ((St.QO S9 (Qw 7 E fD _ Qn)).cell E))) ?_;refine vv (ay E E (aV ((St.QO S9 (Qw 7 E fD _ I)).cell E))) ?_;refine vv (ay E E (aV ((St.QO S9 (Qw 7 E fD _ J)).cell E))) ?_;refine eB eQ (Ce hn hq Z S9 Y) ?_;rintro _ OI ⟨rfl,A11,c12,asf,aFB,rX⟩;refine⟨_,E,?_⟩;refine zQ ?_;refine dD (l':=[]) trivial (ru ?_);exact⟨E,A11,c12,asf,aFB,rX⟩
def abH{B kn kw bb n turn calls dc ic fc sc tc:Nat}{up:Bool}{dA iA fA sA tA:Option Addr}{data:List UInt8}{Qr:Int}{Hh:Nat->Pl}{Us:Nat->Bool}{pv nv:Value}{d:UE}{sh:Nat->Nat->Int×Int}{bs:List BX}{ix fx:List LX}{bH:List l5}{tl:List zH}{w0 w:World}{fs:List Nf}{q b1 b2 b3 b4 b5:Nat}{I:BX}{x:LX}(hn:n<5)(hq:q<4){y:BX}(hy:bs[q]? =some y)(S:St B w0 w (nF kn n up dA data dc Qr bb Hh Us iA ix ic pv turn bs (wF kw nv d fA fx fc sh sA bH sc tA tl tc calls fs)))(hm1:Nf.Pj b1 (BX.cells I).toArray 58∈fs)(M:Nf.Pj b2 #[je kn] 88∈fs)(O:Nf.Pj b3 #[D (q:Int)] 3∈fs)(Qn:Nf.Pj b4 (LX.row x) 113∈fs)(Rh:Nf.Pj b5 #[je kw] 77∈fs)(hb:(fx.length+1)*200<=140737488355328)(hb2:(bH.length+1)*112<=140737488355328):
 Calls prog 90 #[pV b1 0,pV b2 0,pV b3 0,pV b4 0,pV b5 0] w (λe w'=>e=.returned (.tuple #[])/\(x.l.last=true-> ∃(sA':Option Addr) (sc':Nat) (afS:List l5),afS=bH++[(⟨n,q,I.b.ep,bC,iP,-1⟩:l5)]/\St B w0 w' (nF kn n up dA data dc Qr bb Hh (Qv Us q false) iA ix ic pv turn (bs.set q I) (wF kw nv d fA fx fc (kG sh n q (I.b.ep,(I.b.JU.length:Int))) sA' afS sc' tA tl tc calls fs)))/\(x.l.last=false-> ∃(M0:Option Addr) (M4:Nat) (Sg:List LX),Sg=fx++[⟨qI n q I.b,none,0⟩]/\St B w0 w' (nF kn n up dA data dc Qr bb Hh Us iA ix ic pv turn (bs.set q I) (wF kw nv d M0 Sg M4 sh sA bH sc tA tl tc calls fs)))):=by
 have hlen:=(S.own 1 E).1;rw[jF (sz:=6) (λ_=>E)]at hlen;refine iW 29 func90 ?_;refine cw [0,1,2,3,4] ?_;refine zQ ?_;have S1:=S.drew;refine DJ (C:=λw'=>St B w0 w' (nF kn n up dA data dc Qr bb Hh Us iA ix ic pv turn bs (wF kw nv d fA fx fc sh sA bH sc tA tl tc calls fs))) (m:=8) (listed:= #[false,false,false,false,false,false,false,false]) 6 mixed E E ?_;refine gk (v:=pV kn 0) 0 E S1 (λ_ Sx2=>(ay E E (aV ((St.QO Sx2 (Qw 7 E fD _ M)).cell E)))) ?_;iterate 3 refine jf ?_
 refine gk (v:=D (q:Int)) 4 E S1 (λ_ Sx6=>(ay E E (aV ((St.QO Sx6 (Qw 7 E fD _ O)).cell E)))) ?_;refine gk (v:=.agg ((BX.cells I).toArray)) 5 E S1 (λ_ Sx7=>(ay E E (vW (St.QO Sx7 (Qw 7 E fD _ hm1)) Tryz.underlying58 E kQ E))) ?_;refine gy kQ E E E ?_;refine vv (mY q) ?_;refine mZ (xs':=(bs.set q I).flatMap BX.cells) 1 S1 (wn E) E E E E E E zP E (dh E) (by omega) (by rw[fq];exact uj (enc:=BX.cells) (sz:=6) (λ_=>E) I _ _ (by omega)) ?_;intro w8 S9;have af0:(bs.set q I)[q]? =some I:=qV Y;refine zQ ?_;refine jY ?_;refine zN 5 ?_;refine vv (v:=.bool x.l.last) (ay E E (aV ((St.QO S9 (Qw 7 E fD _ Qn)).cell E))) ?_;refine zN 2 ?_
 cases aOg:(x.l.last)
 ·refine bK (l':=[(1,pV b2 0),(2,pV b3 0),(4,pV b5 0),(13,.bool false)]) lS (oD E (uH (iY (aH (vv (ay E E (aV ((St.QO S9 (Qw 7 E fD _ Rh)).cell E))) ?_)))));refine vv (ay E E (aV ((St.QO S9 (Qw 7 E fD _ M)).cell E))) ?_;refine vv (ay E E (aV ((St.QO S9 (Qw 7 E fD _ O)).cell E))) ?_;refine eB eQ (Ce hn hq af0 S9 Y) ?_;rintro _ w16 ⟨rfl,A12,c13,aFC,asg,zi⟩;refine⟨_,E,?_⟩;refine zQ ?_;refine dD (l':=[]) trivial (ru ?_);exact⟨E,λh=>by simp_all,λ_=>⟨A12,c13,aFC,asg,zi⟩⟩
 refine bK (l':=[(1,pV b2 0),(2,pV b3 0),(4,pV b5 0),(13,.bool true)]) lS (oC E (aX ?_));have J:=S9.drew;refine aO 6 J [0] ?_;refine ak (v:=pV kn 0) 0 E (St.del 0 J) (λ_ aFD=>(ay E E (aV ((St.QO aFD (Qw 6 E fD _ M)).cell E)))) ?_;refine ak (v:=D (q:Int)) 1 E (St.del 0 J) (λ_ af2=>(ay E E (aV ((St.QO af2 (Qw 6 E fD _ O)).cell E)))) ?_;refine aP 2 ?_;refine ak (v:=pV kn (13+q*1)) 4 E (St.del 0 J) (λ_ _=>(aQ E E E (fu q Tryz.underlying92 kQ E hq))) ?_;refine bG 5 ?_;refine xC (i:=5) E E (cs:= #[.bool false]) (row':=eP n up (.slice dA data.length dc) Qr (.slice (aD bb 0) 4 4) Hh (Qv Us q false) (.slice iA ix.length ic) (pv) turn) (fs':=((bN kn n up dA data dc Qr bb Hh (Qv Us q false) iA ix ic pv turn)::_::_::_::_::_::_::fs)) 0 J (wn E) E E E E E E arf E (dh E) (by rw[show Array.size (eP _ _ _ _ _ _ _ _ _ _)=20 from E];omega) (adh hq (v:=false)) E ?_;intro RD Z;refine aP 2 ?_;refine zN 3 ?_;refine vv (ay E E (aV ((St.QO Z (Qw 7 E fD _ Rh)).cell E))) ?_;refine vv (ay E E (aV ((St.QO Z (Qw 7 E fD _ M)).cell E))) ?_;refine vv (ay E E (aV ((St.QO Z (Qw 7 E fD _ O)).cell E))) ?_;refine vv (v:=.agg #[D 4,D 0,D 0,D 0,D 0,D 0]) iE ?_;refine zQ ?_;refine eB eQ (qp hn hq af0 bC iP (-1) Z Y) ?_;rintro _ Za ⟨rfl,A26,c27,aFE,aFF,tN⟩;refine⟨_,E,?_⟩;refine zQ ?_;refine dD (l':=[]) trivial (iY (rT (jq (fB (rs:=[]) (vs:=[]) E trivial ?_))));exact⟨E,λ_=>⟨A26,c27,aFE,aFF,tN⟩,λh=>by simp_all⟩
def YK{B kn kw bb n turn calls dc ic fc sc tc:Nat}{up:Bool}{dA iA fA sA tA:Option Addr}{data:List UInt8}{Qr:Int}{Hh:Nat->Pl}{Us:Nat->Bool}{pv nv:Value}{d:UE}{sh:Nat->Nat->Int×Int}{bs:List BX}{ix fx:List LX}{bH:List l5}{tl:List zH}{w0 w:World}{fs:List Nf}{L:List Nf}{q b1 b2 b3 b4 b5:Nat}{h:BX}{x:LX}(hn:n<5)(hq:q<4){y:BX}(hy:bs[q]? =some y)(S:St B w0 w (nF kn n up dA data dc Qr bb Hh Us iA ix ic pv turn bs (wF kw nv d fA fx fc sh sA bH sc tA tl tc calls fs)))(hm1:Nf.Pj b1 (BX.cells h).toArray 58∈fs)(J:Nf.Pj b2 #[je kn] 88∈fs)(M:Nf.Pj b3 #[D (q:Int)] 3∈fs)(Qn:Nf.Pj b4 #[je kw] 77∈fs)(Rh:Nf.Pj b5 (LX.row x) 113∈fs)(hev:EM L h)(hL:∀f∈L,f∈fs)(O:h.b.JU.length*48<=reachBytes)(iB: -2<=h.b.ep/\h.b.ep<=2000000)(hb:(fx.length+1)*200<=140737488355328):
 Calls prog 88 #[pV b1 0,pV b2 0,pV b3 0,pV b4 0,pV b5 0] w (λe w'=>e=.returned (.tuple #[])/\ ∃(A':Option Addr) (c':Nat) (I:List LX) (N:List Nf),I.map LX.l=ni n q h.b x.l.at_ (fx.map LX.l)/\(∀x∈I,x∈fx\/Vt N x)/\St B w0 w' (nF kn n up dA data dc Qr bb Hh Us iA ix ic pv turn (bs.set q h) (wF kw nv d A' I c' sh sA bH sc tA tl tc calls (fs++N)))):=by
 have Z:=(S.own 1 E).1;rw[jF (sz:=6) (λ_=>E)]at Z;refine iW 18 func88 ?_;refine cw [0,1,2,3,4] ?_;refine zQ ?_;have S1:=S.drew;refine DJ (C:=λw'=>St B w0 w' (nF kn n up dA data dc Qr bb Hh Us iA ix ic pv turn bs (wF kw nv d fA fx fc sh sA bH sc tA tl tc calls fs))) (m:=8) (listed:= #[false,false,false,false,false,false,false,false]) 6 mixed E E ?_;refine gk (v:=pV kn 0) 0 E S1 (λ_ Sx2=>(ay E E (aV ((St.QO Sx2 (Qw 7 E fD _ J)).cell E)))) ?_;iterate 3 refine jf ?_
 refine gk (v:=D (q:Int)) 4 E S1 (λ_ Sx6=>(ay E E (aV ((St.QO Sx6 (Qw 7 E fD _ M)).cell E)))) ?_;refine gk (v:=.agg ((BX.cells h).toArray)) 5 E S1 (λ_ Sx7=>(ay E E (vW (St.QO Sx7 (Qw 7 E fD _ hm1)) Tryz.underlying58 E kQ E))) ?_;refine gy kQ E E E ?_;refine vv (mY q) ?_;refine mZ (xs':=(bs.set q h).flatMap BX.cells) 1 S1 (wn E) E E E E E E zP E (dh E) (by omega) (by rw[fq];exact uj (enc:=BX.cells) (sz:=6) (λ_=>E) h _ _ (by omega)) ?_;intro w8 S9;have af0:(bs.set q h)[q]? =some h:=qV Y;refine zQ ?_;refine jY ?_;refine zN 2 ?_;refine vv (ay E E (aV ((St.QO S9 (Qw 7 E fD _ Qn)).cell E))) ?_;refine vv (ay E E (aV ((St.QO S9 (Qw 7 E fD _ J)).cell E))) ?_;refine vv (ay E E (aV ((St.QO S9 (Qw 7 E fD _ M)).cell E))) ?_;refine zQ ?_;refine vv (ay E E (aV ((St.QO S9 (Qw 7 E fD _ Rh)).cell E))) ?_;refine eB eQ (OQ (L:=L) hn hq af0 x.l.at_ hev (Qw 0 E hL) O iB S9 Y) ?_;rintro _ Qh ⟨rfl,A11,c12,asf,N14,asg,hx16,uD⟩;refine⟨_,E,?_⟩;refine zQ ?_;refine dD (l':=[]) trivial (ru ?_);exact⟨E,A11,c12,asf,N14,asg,hx16,uD⟩
def aen{B kn kw bb n turn calls M ic fc sc tc:Nat}{up:Bool}{O iA fA sA tA:Option Addr}{data:List UInt8}{Qr:Int}{Hh:Nat->Pl}{Us:Nat->Bool}{pv nv:Value}{d:UE}{sh:Nat->Nat->Int×Int}{bs:List BX}{ix fx:List LX}{bH:List l5}{tl:List zH}{w0 w:World}{fs:List Nf}{q b1 b2 b3:Nat}{h:BX}(hn:n<5)(hq:q<4){y:BX}(hy:bs[q]? =some y)(S:St B w0 w (nF kn n up O data M Qr bb Hh Us iA ix ic pv turn bs (wF kw nv d fA fx fc sh sA bH sc tA tl tc calls fs)))(Z:Nf.Pj b1 (BX.cells h).toArray 58∈fs)(hm2:Nf.Pj b2 #[je kn] 88∈fs)(Kk:Nf.Pj b3 #[D (q:Int)] 3∈fs):
 Calls prog 92 #[pV b1 0,pV b2 0,pV b3 0] w (λe w'=>e=.returned (.tuple #[])/\St B w0 w' (nF kn n up O data M Qr bb Hh Us iA ix ic pv turn (bs.set q h) (wF kw nv d fA fx fc sh sA bH sc tA tl tc calls fs))):=by
 have I:=(S.own 1 E).1;rw[jF (sz:=6) (λ_=>E)]at I;refine iW 10 func92 ?_;refine bK (l':=[(0,pV b1 0),(1,pV b2 0),(2,pV b3 0)]) Jh ?_;have J:=S.drew;refine DJ (C:=λw'=>St B w0 w' (nF kn n up O data M Qr bb Hh Us iA ix ic pv turn bs (wF kw nv d fA fx fc sh sA bH sc tA tl tc calls fs))) (m:=8) (listed:= #[false,false,false,false,false,false,false,false]) 6 mixed E E ?_;refine gk (v:=pV kn 0) 0 E J (λ_ Sx2=>(ay E E (aV ((St.QO Sx2 (Qw 7 E fD _ hm2)).cell E)))) ?_;iterate 3 refine jf ?_
 refine gk (v:=D (q:Int)) 4 E J (λ_ Sx6=>(ay E E (aV ((St.QO Sx6 (Qw 7 E fD _ Kk)).cell E)))) ?_;refine gk (v:=.agg ((BX.cells h).toArray)) 5 E J (λ_ Sx7=>(ay E E (vW (St.QO Sx7 (Qw 7 E fD _ Z)) Tryz.underlying58 E kQ E))) ?_;refine gy kQ E E E ?_;refine vv (mY q) ?_;refine mZ (xs':=(bs.set q h).flatMap BX.cells) 1 J (wn E) E E E E E E zP E (dh E) (by omega) (by rw[fq];exact uj (enc:=BX.cells) (sz:=6) (λ_=>E) h _ _ (by omega)) ?_;intro w8 S9;have af0:(bs.set q h)[q]? =some h:=qV Y;refine zQ ?_;refine jY ?_;refine dD (l':=[]) trivial (ru ?_);exact⟨E,S9⟩
def Jy{B kn kw bb n turn calls Z ic fc sc tc:Nat}{up:Bool}{h iA fA sA tA:Option Addr}{data:List UInt8}{Qr:Int}{Hh:Nat->Pl}{Us:Nat->Bool}{pv nv:Value}{d:UE}{sh:Nat->Nat->Int×Int}{bs:List BX}{ix fx:List LX}{bH:List l5}{tl:List zH}{w0 w:World}{fs:List Nf}{L:List Nf}{rs:List dN}{RA:Option Addr}{rc nn:Nat}(I:nn=rs.length)(J:Ro fs 10 RA nn (rs.flatMap dN.cells))(M:Ro L 1 h data.length (JV data))(hL:∀f∈L,f∈fs)(O:nn<=1000000)(S:St B w0 w (nF kn n up h data Z Qr bb Hh Us iA ix ic pv turn bs (wF kw nv d fA fx fc sh sA bH sc tA tl tc calls fs))):
 Calls tP 38 #[pV kn 0,.slice RA nn rc] w (λe w'=>(gD data Qr rs=none/\e=.returned (.bool false)/\St B w0 w' (nF kn n up h data Z Qr bb Hh Us iA ix ic pv turn bs (wF kw nv d fA fx fc sh sA bH sc tA tl tc calls fs)))\/ ∃d' A' c' N,gD data Qr rs=some d'/\e=.returned (.bool true)/\Ro (L++N) 1 A' d'.length (JV d')/\St B w0 w' (nF kn n up A' d' c' Qr bb Hh Us iA ix ic pv turn bs (wF kw nv d fA fx fc sh sA bH sc tA tl tc calls (fs++N)))):=by
 subst I;exact sM J M hL O S
def af3{b:bF}{ep at_:Int}{l:List Ev}{last:Bool}{BR:bF×Int}(hR:dM b ep at_ l last=BR)(h:aA b=0)(h1:BR.2=0)(I:¬BR.1.JU.length=b.JU.length):0<=at_/\b.JU.length<=at_.toNat+l.length/\at_.toNat+l.length<=BR.1.JU.length/\at_<=2000:=by
 have hl:=mg (kL h);subst hR;unfold dM at h1 I⊢;rw[ah (λe=>e h)]at h1 I⊢;by_cases c0:b.GR≠4
 ·rw[aj c0]at h1;exact av h1 dQ
 rw[ah c0]at h1 I⊢;by_cases c1:b.ep≠ep
 ·rw[aj c1]at h1;exact av h1 dQ
 rw[ah c1]at h1 I⊢;by_cases c2:¬(0<=at_/\at_<=b.JU.length)
 ·rw[aj c2]at h1;exact av h1 dQ
 rw[ah c2]at h1 I⊢;by_cases c3:¬(b.JU.drop at_.toNat).take l.length=l.take (b.JU.length-at_.toNat)
 ·rw[aj c3]at h1;exact av h1 dQ
 rw[ah c3]at h1 I⊢;by_cases M:last=true/\at_.toNat+l.length<b.JU.length
 ·rw[aj M]at h1;exact av h1 dQ
 rw[ah M]at h1 I⊢;by_cases O:aA (if last=true then(⟨1,ep,0,0,0,b.JU++l.drop (b.JU.length-at_.toNat)++[bC]⟩:bF)else{b with JU:=b.JU++l.drop (b.JU.length-at_.toNat)})≠0
 ·rw[aj O]at h1;exact av h1 dQ
 rw[ah O]at I⊢;have Z:(l.drop (b.JU.length-at_.toNat)).length=l.length-(b.JU.length-at_.toNat):=dL;by_cases J:last=true
 ·rw[aj J]at I⊢;have:¬(at_.toNat+l.length<b.JU.length):=λe=>M ⟨J,e⟩;simp only[length_append,Z,length_singleton]at I⊢;omega
 rw[ah J]at I⊢;simp only[length_append,Z]at I⊢;omega
def IW{q:Nat}{b:bF}{k m m0 kk:Nat}{last:Bool}{G:List Ev}{h:List dN}(J:G=(b.JU.drop k).take m0)(M:m0=m-k)(I:h=(G.take kk).map (λx=>gW 5 q b.ep 0 x))(O:G.length<=kk):sJ q b k m last=h++(if last=true then[gW 6 q b.ep 0 aU]else[]):=by
 subst M;subst I;unfold sJ;rw[jE O,J,Bg]
def abI{K:CK}{B n kn kw:Nat}{w0 w:World}{fs:List Nf}{m:Cl}{H:List LX}{x:LX}(hn:n<5)(hkn:K.nb n=kn)(jw:K.wb=kw)(hu:Uk B w0)(hB1:m.PI.length<=1000000000)(hB2:m.bH.length<=1000000000000)(HW:Wd K B w0 w fs m (x::H))(hq:x.l.q<4)(hv:∀q,q<4->aA ((m.au n).bs q)=0)(hxe:x.l.JU.length<=2000):
 Calls tP 61 #[pV kw 0,pV kn 0,.agg (LX.row x)] w (λe w'=>e=.returned (.tuple #[])/\Wd K B w0 w' fs (m.UK n x.l) H):=by
 obtain⟨R,G,S0⟩:=HW.open hn;have hfl:R.fx.length=m.PI.length:=by rw[<-G.PI,gK]
 have NG:=G.jO n hn;obtain⟨X,hX⟩:∃X,m.au n=X:=⟨_,E⟩;obtain⟨z,hz⟩:∃z,R.nx n=z:=⟨_,E⟩;rw[hX,hz]at S0 NG;have hL:∀f∈R.L,f∈iM K R m fs n:=λf h=>aL _ (aL _ h);obtain⟨rr,hrr⟩:∃r,iM K R m fs n=r:=⟨_,E⟩;rw[hrr]at S0 hL;have S:St B w0 w (cN kn n X z z.pv (cF kw R m rr)):=by subst hkn;subst jw;exact S0
 clear S0 HW;have hlen:=(S.own 1 E).1;rw[jF (sz:=6) (λ_=>E)]at hlen;rw[hX]at hv;obtain⟨y,hy,hyb,tQ⟩:=NG.at_ hq;have hln:=mg (kL (hyb▸hv _ hq));have Cg:y.b.JU.length*48<=reachBytes:=by unfold reachBytes;omega
 have PE:=zV (hyb▸hv _ hq);have hxo:=G.hld x (iT ..);have hbK:(x.l.JU.length+2001)*48<=reachBytes:=by unfold reachBytes;omega
 refine iW 108 func61 ?_;refine cw [0,1,2] ?_;refine zN 2 ?_;refine Y7 S ?_;intro b1 w2 S3;refine Y7 S3 ?_;intro b4 w5 S6;refine jM S6 ?_;intro b7 w8 S9;refine zN 6 ?_;refine iL S9 zr3 ?_;intro J KM rA;refine kU (row':= #[D (x.l.q:Int)]) 0 rA kQ ?_;intro Hq oJ;refine zN 3 ?_;have ku:=oJ.drew;refine gT 9 8 ku [] ?_;iterate 5 refine jf ?_
 refine gk 5 E ku (λ_ _=>mY x.l.q) ?_;refine gk (v:=.agg (bR y.b y.A y.c)) 6 E ku (λ_ J8=>(ay E E (eZ (cs:=BX.cells y) (Rd.Al (St.Vj 5 J8 E) (λ_ _ h=>dw (enc:=BX.cells) (sz:=6) (λ_=>E) hy h))))) ?_;refine gF (m:=1) (r:=7) kQ ?_;refine oV (i:=7) E E (V:=λb=>pV b 0) (row:=zB) (t:=58) ku (wn E) E E (jJ E (Tryz.zeroValue58 _) E) ?_;intro Dj RD nC;refine jf ?_;refine gy kQ E E E ?_;refine sa 0 nC kQ ?_;intro Rt xq;refine zQ ?_;refine jY ?_;refine zN 6 ?_;by_cases h28:y.b.GR=4
 ·refine zN 6 ?_;by_cases h29:y.b.fr=x.l.fr
  ·refine zN 8 ?_;obtain⟨BR,tT⟩:∃r,dM y.b x.l.ep x.l.at_ x.l.JU x.l.last=r:=⟨_,E⟩;have HP:=λw hK h=>Ju y.b.GR y.b.ep y.b.fr y.b.tg y.b.rd y.A y.c y.b.JU x.l.ep x.l.at_ x.A x.c x.l.JU x.l.last tQ.2 hxo.2 w hK h Cg hbK;rw[show dM ⟨y.b.GR,y.b.ep,y.b.fr,y.b.tg,y.b.rd,y.b.JU⟩ x.l.ep x.l.at_ x.l.JU x.l.last=BR from tT]at HP;refine zN 10 ?_;refine eB eQ (HP _ (hxo.1.rd xq (Qw 12 E hL)) (tQ.1.rd xq (Qw 12 E hL))) ?_;rintro _ w33 ⟨I,O,P6,rfl,T35⟩;refine⟨_,E,?_⟩;have uO:=xq.ext T35 E;refine zN 3 ?_;refine iL uO iI ?_;intro Z w37 Dg;refine sa 0 Dg kQ ?_;intro w39 zG;refine zN 7 ?_;by_cases h41:BR.2=2
   ·refine zN 9 ?_;have Hr:=zG.fJ [13,13,13,13,13,13,13];refine eB eQ (Ce hn hq hy Hr Y) ?_;rintro _ w47 ⟨rfl,A43,c44,aFG,ax7,Dh⟩;refine⟨_,E,?_⟩;refine zQ ?_;refine dD (l':=[]) trivial (iY (rT (jq (fB (rs:=[]) (vs:=[]) E trivial ?_))));rw[akk hX hyb.symm tT Y Y];exact⟨E,Wd.eU (X':=X) (z':=z) (Ls:=[.Pj Z (bR BR.1 I O) 58,.dB 6 I BR.1.JU.length ((BR.1.JU).flatMap Ev.cells),.Pj Dj (bR y.b y.A y.c) 58,.Pj J #[D (x.l.q:Int)] 3,.Pj b7 (LX.row x) 113,.Pj b4 #[pV kn 0] 88,.Pj b1 #[pV kw 0] 77]) (fA:=A43) (fc:=c44) (fx:=aFG) (sA:=R.sA) (sc:=R.sc) (tA:=R.tA) (tc:=R.tc) hkn jw hrr G hn Dh NG.more (by rw[ax7];exact rE (jW E)) (aJ hX).symm (by rw[ax7,gX,G.PI];rfl) mH⟩
   refine zN 10 ?_;by_cases h49:BR.2=0
   ·refine zN 8 ?_;by_cases h50:(BR.1.JU.length:Int)=(y.b.JU.length:Int)
    ·refine zN 8 ?_;have yh:=zG.fJ [13,13,13,13,13,13,13];rw[Xd hX hyb.symm tT Y Y Y];exact⟨E,Wd.eU (X':=X) (z':=z) (Ls:=[.Pj Z (bR BR.1 I O) 58,.dB 6 I BR.1.JU.length ((BR.1.JU).flatMap Ev.cells),.Pj Dj (bR y.b y.A y.c) 58,.Pj J #[D (x.l.q:Int)] 3,.Pj b7 (LX.row x) 113,.Pj b4 #[pV kn 0] 88,.Pj b1 #[pV kw 0] 77]) (fA:=R.fA) (fc:=R.fc) (fx:=R.fx) (sA:=R.sA) (sc:=R.sc) (tA:=R.tA) (tc:=R.tc) hkn jw hrr G hn yh NG.more (λu hu=>.inl hu) (aJ hX).symm G.PI.symm mH⟩
    refine zN 8 ?_;obtain⟨ha0,ha1,ha2,ha3⟩:=af3 tT (hyb▸hv _ hq) Y Y;obtain⟨M,hM⟩:∃k,k=x.l.at_.toNat+x.l.JU.length:=⟨_,E⟩;rw[<-hM]at ha1 ha2;obtain⟨m0,hm0⟩:∃k,k=M-y.b.JU.length:=⟨_,E⟩;refine zQ ?_;have rH:=zG.nil 132 10;refine zN 10 ?_;refine vv (v:=D (M:Int)) (cO E E E (ag8 (z:=(M:Int)) Y Y)) ?_;refine zN 12 ?_;obtain⟨A2,hs2,hr2,_⟩:=Jk (P:=tP) (t:=56) (enc:=Ev.cells) (s:=6) (λ_=>E) (A:=I) (b:=BR.1.JU) (n:=BR.1.JU.length) (c:=O) (lo:=(some (D (y.b.JU.length:Int)))) (hi:=(some (D (M:Int)))) (mx:=none) (l:=y.b.JU.length) (k:=M) (q:=O) (m:=m0) (c':=O-y.b.JU.length) underlying56 kQ (ZK (y.b.JU.length) M E E Y Y) Y Y Y hm0.symm E;obtain⟨GE,hG⟩:∃g,g=(BR.1.JU.drop y.b.JU.length).take m0:=⟨_,E⟩;rw[<-hG]at hr2;have hGl:GE.length=m0:=by rw[hG,dV,dL];omega
    refine vv (v:=.slice A2 m0 (O-y.b.JU.length)) (lU E E (kI E) (kI E) qD (hs2 _)) ?_;refine zN 5 ?_;refine fV (X:=(List dN)×Nat×(Option Addr)×Nat) (λxv=>[(3,pV b1 0),(4,pV b4 0),(5,pV b7 0),(6,pV J 0),(8,pV Z 0),(76,.slice A2 m0 (O-y.b.JU.length)),(77,D (m0:Int)),(10,.slice xv.2.2.1 xv.2.1 xv.2.2.2),(78,D (xv.2.1:Int))]) (λxv wr=>(xv.1=(GE.take xv.2.1).map (λu=>gW 5 x.l.q BR.1.ep 0 u))/\(xv.2.1<=m0)/\(xv.2.1=xv.1.length)/\St B w0 wr ((.own 132 10 (.slice xv.2.2.1 xv.2.1 xv.2.2.2) xv.2.1 ((xv.1).flatMap dN.cells))::(.Pj Z (bR BR.1 I O) 58)::(.dB 6 I BR.1.JU.length ((BR.1.JU).flatMap Ev.cells))::(.Pj Dj (bR y.b y.A y.c) 58)::(.Pj J #[D (x.l.q:Int)] 3)::(.Pj b7 (LX.row x) 113)::(.Pj b4 #[pV kn 0] 88)::(.Pj b1 #[pV kw 0] 77)::(cN kn n X z z.pv (cF kw R m rr)))) (λxv=>m0-xv.2.1) ([],0,none,0) ?_ ?_ ?_
    ·exact⟨iQ,aC _,E,rH⟩
    ·exact tU9
    rintro⟨acc,k,A9,c9⟩ w53 ⟨Mg,af4,alK,xP⟩
    try dsimp only at Mg af4 alK xP
    refine bK (l':=[(3,pV b1 0),(4,pV b4 0),(5,pV b7 0),(6,pV J 0),(8,pV Z 0),(76,.slice A2 m0 (O-y.b.JU.length)),(77,D (m0:Int)),(10,.slice A9 k c9),(78,D ((k:Nat):Int))]) tU9 (aX (aH ?_));by_cases h58:((k:Nat):Int)< (m0:Int)
    ·refine zN 10 ?_;obtain⟨e,he⟩:∃e,GE[k]? =some e:=⟨_,dJ Y⟩;refine zQ ?_;obtain⟨rb,ro,hra,_,hrc⟩:=(hr2 _ _ (St.dB 2 xP E)).2 Y;subst hra;refine vv (mY k) ?_;refine vv (v:=.agg #[D e.kind,D e.Pv,D e.id,D e.body,D e.Qs,D e.Qz]) (ay E E (eZ (cs:=Ev.cells e) (λj u hu=>by rw[jT];exact hrc (k*6+j) u (dw (enc:=Ev.cells) (sz:=6) (λ_=>E) he hu)))) ?_;refine iL xP aem ?_;intro b59 w60 KO;refine sa 0 KO kQ ?_;intro w62 zD;refine zN 6 ?_;refine Vm eQ zD (kD 5 x.l.q ⟨BR.1,I,O⟩ _) ?_;intro w64 Hu;refine iL Hu zR ?_;intro b67 w68 Df;refine sa 0 Df kQ ?_;intro w70 wo;refine zN 6 ?_;refine kU (row':= #[D 5,D (x.l.q:Int),D BR.1.ep,D 0,D e.kind,D e.Pv,D e.id,D e.body,D e.Qs,D e.Qz]) 0 wo kQ ?_;intro w72 xu;refine zN 5 ?_;refine Wp xu ?_;intro b74 w75 Qj;refine eu (news:=[D 5,D (x.l.q:Int),D BR.1.ep,D 0,D e.kind,D e.Pv,D e.id,D e.body,D e.Qs,D e.Qz]) (xs':=(acc++[gW 5 x.l.q BR.1.ep 0 e]).flatMap dN.cells) 3 Qj (wn E) E E E E E E (St.nO (xs:=[D 5,D (x.l.q:Int),D BR.1.ep,D 0,D e.kind,D e.Pv,D e.id,D e.body,D e.Qs,D e.Qz]) 0 Qj E E E) Tryz.underlying120 TK E dQ (dh E) lQ Y (jV (enc:=dN.cells) E E) ?_;intro A77 c78 w79 aOh aOi EF;change St _ _ _ (_::_::_::(.own 132 10 (.slice A77 (k+1) c78) (k+1) ((acc++[gW 5 x.l.q BR.1.ep 0 e]).flatMap dN.cells))::_::_::_::_::_::_::_::_::_::_::_::_::_::_::rr)at EF;refine zN 5 ?_;refine vv (v:=D ((k+1:Nat):Int)) jB ?_;refine zN 2 ?_;have F5:=EF.bg [2,1,0];refine bQ (acc++[gW 5 x.l.q BR.1.ep 0 e],k+1,A77,c78) ?_ tU9 (by first|omega|(dsimp only;omega));exact⟨(by dsimp only;rw[Mg,mQ,he];simp),uQ,(by dsimp only;simp[alK]),F5⟩
    refine zN 14 ?_;refine vv (v:=.bool x.l.last) (ay E E (aV (St.cl 5 xP E E))) ?_;refine qk [3,4,5,6,8,10,93] ?_;refine iY ?_
    cases aOj:(x.l.last)
    ·refine bK (l':=[(3,pV b1 0),(4,pV b4 0),(5,pV b7 0),(6,pV J 0),(8,pV Z 0),(10,.slice A9 k c9),(93,.bool false)]) FX (oD E (uH (iY (aX (aX (aH (vv (ay E E (aV (St.cl 6 xP E E))) ?_)))))));refine zQ ?_;have Hw:=xP.fJ [14,14,14,14,14,14,14];refine eB eQ (Jy (nn:=k) (rs:=acc) (by simp[<-alK]) (Ro.own (bS.2 ⟨0,E⟩)) NG.AX (by exact Qw 8 E hL) Y Hw) ?_;rintro _ w92 (⟨ash,rfl,F6⟩|⟨ax8,A87,c88,N89,ash,rfl,aAq,F6⟩)
     ·refine⟨_,E,?_⟩;refine zN 7 ?_;have hgr:sJ x.l.q BR.1 y.b.JU.length (x.l.at_.toNat+x.l.JU.length) x.l.last=acc:=by
       rw[<-hM,IW hG hm0 Mg Y,ah (by simp[*])];exact bI _
      rw[Xe hX hyb.symm tT Y Y Y (by rw[hgr];exact ash)];exact⟨E,Wd.eU (X':=X) (z':=z) (Ls:=[.own 132 10 (.slice A9 k c9) k ((acc).flatMap dN.cells),.Pj Z (bR BR.1 I O) 58,.dB 6 I BR.1.JU.length ((BR.1.JU).flatMap Ev.cells),.Pj Dj (bR y.b y.A y.c) 58,.Pj J #[D (x.l.q:Int)] 3,.Pj b7 (LX.row x) 113,.Pj b4 #[pV kn 0] 88,.Pj b1 #[pV kw 0] 77]) (fA:=R.fA) (fc:=R.fc) (fx:=R.fx) (sA:=R.sA) (sc:=R.sc) (tA:=R.tA) (tc:=R.tc) hkn jw hrr G hn F6 NG.more (λu hu=>.inl hu) (aJ hX).symm G.PI.symm mH⟩
     refine⟨_,E,?_⟩;refine zN 8 ?_;refine vv MQ ?_;refine zN 2 ?_;refine kU (row':=eP n X.up (.slice A87 ax8.length c88) X.Qr (.slice (aD z.bb 0) 4 4) X.QC X.QA (.slice z.iA z.ix.length z.ic) (.func (.func 90) #[] #[pV Z 0,pV b4 0,pV J 0,pV b7 0,pV b1 0]) X.turn) 0 F6 kQ ?_;intro w94 KV;refine zQ ?_;refine dD (l':=[]) trivial (ru ?_);have hgr:sJ x.l.q BR.1 y.b.JU.length (x.l.at_.toNat+x.l.JU.length) x.l.last=acc:=by
      rw[<-hM,IW hG hm0 Mg Y,ah (by simp[*])];exact bI _
     rw[aiu hX hyb.symm tT Y Y Y (by rw[hgr];exact ash)];refine⟨E,Wd.fin (X':={X with data:=ax8,PL:=some (.UK x.l.q BR.1 x.l.last)}) (z':={z with tA:=A87,tc:=c88,pv:=.func (.func 90) #[] #[pV Z 0,pV b4 0,pV J 0,pV b7 0,pV b1 0]}) (N:=N89) (Ls:=[.own 132 10 (.slice A9 k c9) k ((acc).flatMap dN.cells),.Pj Z (bR BR.1 I O) 58,.dB 6 I BR.1.JU.length ((BR.1.JU).flatMap Ev.cells),.Pj Dj (bR y.b y.A y.c) 58,.Pj J #[D (x.l.q:Int)] 3,.Pj b7 (LX.row x) 113,.Pj b4 #[pV kn 0] 88,.Pj b1 #[pV kw 0] 77]) (fA:=R.fA) (fc:=R.fc) (fx:=R.fx) (sA:=R.sA) (sc:=R.sc) (tA:=R.tA) (tc:=R.tc) hkn jw hrr G hn KV ?_ (λu hu=>.inl hu) E G.PI.symm mH⟩;refine{ (NG.more:fC K _ n X z)with AX:=aAq.mono mLN,nU:=?_ }
     show sK (K.nb n) K.wb _ _ _
     rw[hkn,jw];exact⟨Z,b4,J,b7,b1,⟨BR.1,I,O⟩,x,E,(vJ (bS.2 ⟨1,E⟩)),E,⟨(Ro.dB (vJ (bS.2 ⟨2,E⟩))),P6⟩,(vJ (bS.2 ⟨6,E⟩)),(vJ (bS.2 ⟨4,E⟩)),(vJ (bS.2 ⟨5,E⟩)),E,(vJ (bS.2 ⟨7,E⟩))⟩
    refine bK (l':=[(3,pV b1 0),(4,pV b4 0),(5,pV b7 0),(6,pV J 0),(8,pV Z 0),(10,.slice A9 k c9),(93,.bool true)]) FX (oC E (aH (vm ?_)));refine zN 2 ?_;refine Vm eQ xP (kD 6 x.l.q ⟨BR.1,I,O⟩ _) ?_;intro w96 Gb;refine Wp Gb ?_;intro b99 alp zw;refine eu (news:=[D 6,D (x.l.q:Int),D BR.1.ep,D 0,D 0,D 0,D 0,D 0,D 0,D 0]) (xs':=(acc++[gW 6 x.l.q BR.1.ep 0 aU]).flatMap dN.cells) 1 zw (wn E) E E E E E E (St.nO (xs:=[D 6,D (x.l.q:Int),D BR.1.ep,D 0,D 0,D 0,D 0,D 0,D 0,D 0]) 0 zw E E E) Tryz.underlying120 TK E dQ (dh E) lQ Y (jV (enc:=dN.cells) E E) ?_;intro ar4 ar5 arJ aJX aJY rD;refine zN 8 ?_;have yG:=rD.fJ [15,15,15,15,15,15,15];refine eB eQ (Jy (nn:=k+1) (rs:=acc++[gW 6 x.l.q BR.1.ep 0 aU]) (by simp[<-alK]) (Ro.own (bS.2 ⟨1,E⟩)) NG.AX (by exact Qw 9 E hL) Y yG) ?_;rintro _ ar7 (⟨ahm,rfl,Ca⟩|⟨aqz,alr,als,aFH,ahm,rfl,avj,Ca⟩)
    ·refine⟨_,E,?_⟩;refine zN 7 ?_;have hgr:sJ x.l.q BR.1 y.b.JU.length (x.l.at_.toNat+x.l.JU.length) x.l.last=acc++[gW 6 x.l.q BR.1.ep 0 aU]:=by
      rw[<-hM,IW hG hm0 Mg Y,aj ‹_›]
     rw[Xe hX hyb.symm tT Y Y Y (by rw[hgr];exact ahm)];exact⟨E,Wd.eU (X':=X) (z':=z) (Ls:=[.Pj b99 #[D 6,D (x.l.q:Int),D BR.1.ep,D 0,D 0,D 0,D 0,D 0,D 0,D 0] 132,.own 132 10 (.slice ar4 (k+1) ar5) (k+1) ((acc++[gW 6 x.l.q BR.1.ep 0 aU]).flatMap dN.cells),.Pj Z (bR BR.1 I O) 58,.dB 6 I BR.1.JU.length ((BR.1.JU).flatMap Ev.cells),.Pj Dj (bR y.b y.A y.c) 58,.Pj J #[D (x.l.q:Int)] 3,.Pj b7 (LX.row x) 113,.Pj b4 #[pV kn 0] 88,.Pj b1 #[pV kw 0] 77]) (fA:=R.fA) (fc:=R.fc) (fx:=R.fx) (sA:=R.sA) (sc:=R.sc) (tA:=R.tA) (tc:=R.tc) hkn jw hrr G hn Ca NG.more (λu hu=>.inl hu) (aJ hX).symm G.PI.symm mH⟩
    refine⟨_,E,?_⟩;refine zN 8 ?_;refine vv MQ ?_;refine zN 2 ?_;refine kU (row':=eP n X.up (.slice alr aqz.length als) X.Qr (.slice (aD z.bb 0) 4 4) X.QC X.QA (.slice z.iA z.ix.length z.ic) (.func (.func 90) #[] #[pV Z 0,pV b4 0,pV J 0,pV b7 0,pV b1 0]) X.turn) 0 Ca kQ ?_;intro afo zu;refine zQ ?_;refine dD (l':=[]) trivial (ru ?_);have hgr:sJ x.l.q BR.1 y.b.JU.length (x.l.at_.toNat+x.l.JU.length) x.l.last=acc++[gW 6 x.l.q BR.1.ep 0 aU]:=by
     rw[<-hM,IW hG hm0 Mg Y,aj ‹_›]
    rw[aiu hX hyb.symm tT Y Y Y (by rw[hgr];exact ahm)];refine⟨E,Wd.fin (X':={X with data:=aqz,PL:=some (.UK x.l.q BR.1 x.l.last)}) (z':={z with tA:=alr,tc:=als,pv:=.func (.func 90) #[] #[pV Z 0,pV b4 0,pV J 0,pV b7 0,pV b1 0]}) (N:=aFH) (Ls:=[.Pj b99 #[D 6,D (x.l.q:Int),D BR.1.ep,D 0,D 0,D 0,D 0,D 0,D 0,D 0] 132,.own 132 10 (.slice ar4 (k+1) ar5) (k+1) ((acc++[gW 6 x.l.q BR.1.ep 0 aU]).flatMap dN.cells),.Pj Z (bR BR.1 I O) 58,.dB 6 I BR.1.JU.length ((BR.1.JU).flatMap Ev.cells),.Pj Dj (bR y.b y.A y.c) 58,.Pj J #[D (x.l.q:Int)] 3,.Pj b7 (LX.row x) 113,.Pj b4 #[pV kn 0] 88,.Pj b1 #[pV kw 0] 77]) (fA:=R.fA) (fc:=R.fc) (fx:=R.fx) (sA:=R.sA) (sc:=R.sc) (tA:=R.tA) (tc:=R.tc) hkn jw hrr G hn zu ?_ (λu hu=>.inl hu) E G.PI.symm mH⟩;refine{ (NG.more:fC K _ n X z)with AX:=avj.mono mLN,nU:=?_ }
    show sK (K.nb n) K.wb _ _ _
    rw[hkn,jw];exact⟨Z,b4,J,b7,b1,⟨BR.1,I,O⟩,x,E,(vJ (bS.2 ⟨2,E⟩)),E,⟨(Ro.dB (vJ (bS.2 ⟨3,E⟩))),P6⟩,(vJ (bS.2 ⟨7,E⟩)),(vJ (bS.2 ⟨5,E⟩)),(vJ (bS.2 ⟨6,E⟩)),E,(vJ (bS.2 ⟨8,E⟩))⟩
   refine zN 16 ?_;have yI:=zG.fJ [13,13,13,13,13,13,13];rw[Xd hX hyb.symm tT Y Y Y];exact⟨E,Wd.eU (X':=X) (z':=z) (Ls:=[.Pj Z (bR BR.1 I O) 58,.dB 6 I BR.1.JU.length ((BR.1.JU).flatMap Ev.cells),.Pj Dj (bR y.b y.A y.c) 58,.Pj J #[D (x.l.q:Int)] 3,.Pj b7 (LX.row x) 113,.Pj b4 #[pV kn 0] 88,.Pj b1 #[pV kw 0] 77]) (fA:=R.fA) (fc:=R.fc) (fx:=R.fx) (sA:=R.sA) (sc:=R.sc) (tA:=R.tA) (tc:=R.tc) hkn jw hrr G hn yI NG.more (λu hu=>.inl hu) (aJ hX).symm G.PI.symm mH⟩
  refine zN 8 ?_;have vR:=xq.fJ [11,11,11,11,11,11,11];rw[ait hX hyb.symm Y];exact⟨E,Wd.eU (X':=X) (z':=z) (Ls:=[.Pj Dj (bR y.b y.A y.c) 58,.Pj J #[D (x.l.q:Int)] 3,.Pj b7 (LX.row x) 113,.Pj b4 #[pV kn 0] 88,.Pj b1 #[pV kw 0] 77]) (fA:=R.fA) (fc:=R.fc) (fx:=R.fx) (sA:=R.sA) (sc:=R.sc) (tA:=R.tA) (tc:=R.tc) hkn jw hrr G hn vR NG.more (λu hu=>.inl hu) (aJ hX).symm G.PI.symm mH⟩
 refine zN 14 ?_;have Ki:=xq.fJ [11,11,11,11,11,11,11];rw[ait hX hyb.symm Y];exact⟨E,Wd.eU (X':=X) (z':=z) (Ls:=[.Pj Dj (bR y.b y.A y.c) 58,.Pj J #[D (x.l.q:Int)] 3,.Pj b7 (LX.row x) 113,.Pj b4 #[pV kn 0] 88,.Pj b1 #[pV kw 0] 77]) (fA:=R.fA) (fc:=R.fc) (fx:=R.fx) (sA:=R.sA) (sc:=R.sc) (tA:=R.tA) (tc:=R.tc) hkn jw hrr G hn Ki NG.more (λu hu=>.inl hu) (aJ hX).symm G.PI.symm mH⟩
end Go.Proofs.YtceeleolddkibaaGreatDoor
