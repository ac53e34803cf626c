import Derived.Test.YtceeleolddkibaaGreatDoorG1aee5
import Derived.Test.YtceeleolddkibaaGreatDoorG74672
import Derived.Test.YtceeleolddkibaaGreatDoorGdd1cc
set_option linter.all false
set_option maxRecDepth 100000
set_option maxHeartbeats 8000000
namespace Go.Proofs.YtceeleolddkibaaGreatDoor
open List Nat Go.Proofs.Tryz ChangeShapes WideShapes RowKit
structure zH where
 num:Int
 Va:kg
 pl:Pl
structure bY where
 kd:Int:=0
 fr:Int:=0
 tg:Int:=0
 q:Nat:=0
 ep:Int:=0
 at_:Int:=0
 nd:Int:=0
 op:Ev:=aU
 JU:List Ev:=[]
 last:Bool:=false
 num:Int:=0
 bZ:zH:=⟨0,iP,pY⟩
structure l5 where
 nd:Nat
 q:Nat
 ep:Int
 op:Ev
 Va:kg
 num:Int
inductive cZ
 |serve (q:Nat) (JU:List Ev) (op:Ev) (num:Int) (a:kg)
 |QL (q:Nat) (b:bF)
 |UK (q:Nat) (b:bF) (last:Bool)
 |gJ (q:Nat) (b:bF) (at_:Int)
 |QE (q:Nat) (b:bF)
structure Nd where
 up:Bool
 data:List UInt8
 Qr:Int
 bs:Nat->bF
 QC:Nat->Pl
 QA:Nat->Bool
 Pq:List bY
 PL:Option cZ
 turn:Nat
structure Cl where
 au:Nat->Nd
 off:UE
 PI:List bY
 Qx:Nat->Nat->Int×Int
 bH:List l5
 bZ:List zH
 calls:Nat
def Qv{α:Type}(f:Nat->α)(k:Nat)(v:α):Nat->α:=λj=>if j=k then v else f j
def kG{α:Type}(f:Nat->Nat->α)(n q:Nat)(v:α):Nat->Nat->α:=λi j=>if i=n/\j=q then v else f i j
def Cl.put(w:Cl)(n:Nat)(x:Nd):Cl:={w with au:=Qv w.au n x}
def Cl.aF(w:Cl)(n q:Nat)(b:bF):Cl:=w.put n {w.au n with bs:=Qv (w.au n).bs q b}
def Cl.send(w:Cl)(l:bY):Cl:={w with PI:=w.PI++[l]}
def Nd.blank(x:Nd):Nd:={x with bs:=λ_=>bV,QA:=λ_=>false,QC:=λ_=>nowhere,Pq:=[],PL:=none}
def nd0:Nd:=⟨true,[],0,λ_=>bV,λ_=>nowhere,λ_=>false,[],none,0⟩
def l9:Cl:=⟨λ_=>nd0,⟨nowhere,nowhere,nowhere,nowhere⟩,[],λ_ _=>(0,0),[],[],0⟩
def gD(l:List UInt8)(s:Int):List dN->Option (List UInt8)
 |[]=>some l
 |r::rs=>if (jS l s r).2.2≠0 then none else gD (jS l s r).1 s rs
def Nd.write(x:Nd)(rs:List dN):Option Nd:=(gD x.data x.Qr rs).map λd=>{x with data:=d}
def gW(k:Int)(q:Nat)(ep pe:Int)(e:Ev):dN:=⟨k,q,ep,pe,e⟩
def Cl.UR(w:Cl)(n q:Nat)(e:Ev)(a:kg)(num:Int):Cl:=
 {w with bH:=w.bH++[⟨n,q,((w.au n).bs q).ep,e,a,num⟩],Qx:=kG w.Qx n q (((w.au n).bs q).ep,((w.au n).bs q).JU.length)}
def QK(b:bF):Prop:=b.GR=1\/b.GR=2
instance (b:bF):Decidable (QK b):=by unfold QK;exact inferInstance
def nS(n:Nat)(num:Int)(a:kg)(p:Pl):bY:={kd:=1,fr:=n,tg:= -1,bZ:=⟨num,a,p⟩}
def Cl.done(w:Cl)(n q:Nat)(op:Ev)(num:Int)(a:kg):Cl:=
 if QK ((w.au n).bs q)then(w.UR n q op a num).send (nS n num a nowhere)else w.send (nS n num a ((w.au n).QC q))
noncomputable def Cl.serve(w:Cl)(n:Nat)(l:bY):Cl:=
 if (jd ((w.au n).bs l.q) l.op).2.2.1=false then w.done n l.q l.op l.num (jd ((w.au n).bs l.q) l.op).2.1
 else match (w.au n).write [gW 2 l.q (jd ((w.au n).bs l.q) l.op).1.ep 0 l.op]with
  |none=>w.done n l.q l.op l.num (vQ 14)
  |some x=>w.put n {x with PL:=some (.serve l.q (jd ((w.au n).bs l.q) l.op).1.JU l.op l.num (jd ((w.au n).bs l.q) l.op).2.1)}
def qI(n q:Nat)(b:bF):bY:={kd:=3,fr:=n,tg:=b.fr,q:=q,ep:=b.ep,at_:=b.JU.length}
def Cl.UG(w:Cl)(n q:Nat):Cl:=w.send (qI n q ((w.au n).bs q))
noncomputable def Cl.Uv(w:Cl)(n:Nat)(l:bY):Cl:=
 if (dR ((w.au n).bs l.q) l.ep l.fr).2≠0 then w
 else if (dR ((w.au n).bs l.q) l.ep l.fr).1.ep=((w.au n).bs l.q).ep then w.UG n l.q
 else match (w.au n).write [gW 4 l.q (dR ((w.au n).bs l.q) l.ep l.fr).1.ep l.fr aU]with
  |none=>w
  |some x=>w.put n {x with PL:=some (.QL l.q (dR ((w.au n).bs l.q) l.ep l.fr).1)}
def sJ(q:Nat)(b:bF)(k m:Nat)(last:Bool):List dN:=
 ((b.JU.take m).drop k).map (λx=>gW 5 q b.ep 0 x)++if last=true then[gW 6 q b.ep 0 aU]else[]
noncomputable def Cl.UK(w:Cl)(n:Nat)(l:bY):Cl:=
 if ((w.au n).bs l.q).GR≠4\/((w.au n).bs l.q).fr≠l.fr then w
 else if (dM ((w.au n).bs l.q) l.ep l.at_ l.JU l.last).2=2 then w.UG n l.q
 else if (dM ((w.au n).bs l.q) l.ep l.at_ l.JU l.last).2≠0\/(dM ((w.au n).bs l.q) l.ep l.at_ l.JU l.last).1.JU.length=((w.au n).bs l.q).JU.length then w
 else match (w.au n).write (sJ l.q (dM ((w.au n).bs l.q) l.ep l.at_ l.JU l.last).1 ((w.au n).bs l.q).JU.length (l.at_.toNat+l.JU.length) l.last)with
  |none=>w
  |some x=>w.put n {x with PL:=some (.UK l.q (dM ((w.au n).bs l.q) l.ep l.at_ l.JU l.last).1 l.last)}
noncomputable def Jv(n q:Nat)(b:bF)(at_:Int):bY:={kd:=4,fr:=n,tg:=b.tg,q:=q,ep:=b.ep+1,at_:=at_,JU:=(ji b at_).1,last:=(ji b at_).2.1}
noncomputable def Cl.part(w:Cl)(n q:Nat)(at_:Int):Cl:=if (ji ((w.au n).bs q) at_).2.2≠0 then w else w.send (Jv n q ((w.au n).bs q) at_)
noncomputable def Cl.UL(w:Cl)(n:Nat)(l:bY):Cl:=
 if ((w.au n).bs l.q).tg≠l.fr\/((w.au n).bs l.q).ep+1≠l.ep then w
 else if (bX ((w.au n).bs l.q) l.at_).2≠0 then w
 else if (bX ((w.au n).bs l.q) l.at_).1.GR=((w.au n).bs l.q).GR then(w.aF n l.q (bX ((w.au n).bs l.q) l.at_).1).part n l.q l.at_
 else match (w.au n).write [gW 3 l.q (bX ((w.au n).bs l.q) l.at_).1.ep (bX ((w.au n).bs l.q) l.at_).1.tg aU]with
  |none=>w
  |some x=>w.put n {x with PL:=some (.gJ l.q (bX ((w.au n).bs l.q) l.at_).1 l.at_)}
def Nd.Uz(x:Nd)(n:Nat)(l:bY):Nd:=
 {x with QC:=if (x.QC l.q).Pf<l.ep then Qv x.QC l.q ⟨l.nd,l.ep⟩else x.QC,QA:=if l.nd=n/\(x.bs l.q).ep=l.ep then Qv x.QA l.q true else x.QA}
noncomputable def Cl.U1(w:Cl)(n:Nat)(l:bY):Cl:=
 if (gZ ((w.au n).bs l.q) l.ep).2≠0 then w.put n ((w.au n).Uz n l)
 else match ((w.au n).Uz n l).write [gW 7 l.q ((w.au n).bs l.q).ep 0 aU]with
  |none=>w.put n ((w.au n).Uz n l)
  |some x=>w.put n {x with PL:=some (.QE l.q (gZ ((w.au n).bs l.q) l.ep).1)}
def yU(n q:Nat)(b:bF):bY:={kd:=2,fr:=n,tg:=b.tg,q:=q,ep:=b.ep+1}
def RV(n q:Nat):bY:={kd:=5,fr:=n,tg:= -2,q:=q,nd:= -1}
def PZ(n q:Nat)(b:bF):bY:={kd:=5,fr:=n,tg:= -2,q:=q,ep:=b.ep-1,nd:=n}
def iG(n q:Nat)(b:bF)(QA:Bool):List bY:=
 (if b.GR=2\/b.GR=3 then[yU n q b]else[])++(if b.GR=3 then[RV n q]else[])++if b.GR=1/\1<b.ep/\QA=false then[PZ n q b]else[]
def Cl.lM(w:Cl)(n:Nat):Cl:=
 let q:=(w.au n).turn % 4
 { (w.put n {w.au n with turn:=(w.au n).turn+1})with PI:=w.PI++iG n q ((w.au n).bs q) ((w.au n).QA q)}
noncomputable def Cl.AP(w:Cl)(n:Nat):cZ->Cl
 | .serve q JU op num a=>(w.aF n q { (w.au n).bs q with JU:=JU}).done n q op num a
 | .QL q b=>(w.aF n q b).UG n q
 | .UK q b last=>if last=true then((w.aF n q b).put n { (w.aF n q b).au n with QA:=Qv (w.au n).QA q false}).UR n q bC iP (-1)else(w.aF n q b).UG n q
 | .gJ q b at_=>(w.aF n q b).part n q at_
 | .QE q b=>w.aF n q b
noncomputable def Cl.QB(w:Cl)(n:Nat)(l:bY):Cl:=
 if l.kd=0 then w.serve n l else if l.kd=2 then w.Uv n l else if l.kd=3 then w.UL n l else if l.kd=4 then w.UK n l else w.U1 n l
noncomputable def Cl.drain(n:Nat):List bY->Cl->Cl
 |[],w=>w
 |l::r,w=>if ((w.put n {w.au n with Pq:=r}).QB n l |>.au n).PL=none then Cl.drain n r ((w.put n {w.au n with Pq:=r}).QB n l)else(w.put n {w.au n with Pq:=r}).QB n l
noncomputable def Cl.step(w:Cl)(n:Nat):Cl:=
 if (w.au n).up=false then w else match (w.au n).PL with
  |some p=>(w.put n {w.au n with Qr:=(w.au n).data.length,PL:=none}).AP n p
  |none=>if ((Cl.drain n (w.au n).Pq w).au n).PL=none then(Cl.drain n (w.au n).Pq w).lM n else Cl.drain n (w.au n).Pq w
def ng(tg:Int)(q:Nat)(p:Pl):bY:={kd:=6,fr:= -2,tg:=tg,q:=q,ep:=p.Pf,nd:=p.node}
noncomputable def dY(d:UE)(l:bY):UE:=if 0<=l.nd/\(za d l.q l.ep l.nd).2=0 then(za d l.q l.ep l.nd).1 else d
noncomputable def Cl.QG(w:Cl)(l:bY):Cl:=
 if l.tg= -1 then{w with bZ:=w.bZ++[l.bZ]}
 else if l.tg= -2 then
  if (aN (dY w.off l) l.q).2=0 then{w with off:=dY w.off l,PI:=w.PI++[ng l.fr l.q (aN (dY w.off l) l.q).1]}else{w with off:=dY w.off l}
 else if (w.au l.tg.toNat).up=true then w.put l.tg.toNat {w.au l.tg.toNat with Pq:=(w.au l.tg.toNat).Pq++[l]}else w
noncomputable def Cl.pick(w:Cl)(at_:Nat)(comes stays:Bool):Cl:=
 match w.PI[at_ % w.PI.length]? with
 |none=>w
 |some l=>
  let w1:=if stays=true then w else{w with PI:=w.PI.eraseIdx (at_ % w.PI.length)}
  if comes=true then w1.QG l else w1
noncomputable def Cl.make(w:Cl)(n q:Nat):Cl:=
 if (w.au n).up=false\/(w.au n).PL.isSome=true\/(vF w.off q n).2≠0 then w
 else if (jR ((w.au n).bs q) 1).2≠0 then w
 else match (w.au n).write [gW 1 q (jR ((w.au n).bs q) 1).1.ep 0 aU]with
  |none=>w
  |some x=>{w.put n {x with Qr:=x.data.length,bs:=Qv x.bs q (jR ((w.au n).bs q) 1).1}with off:=(vF w.off q n).1,Qx:=kG w.Qx n q (1,0)}
noncomputable def Cl.move(w:Cl)(q:Nat)(tg:Int):Cl:=
 if (aN w.off q).2≠0\/(aN w.off q).1.node=tg\/(w.au (aN w.off q).1.node.toNat).up=false then w
 else if (wh ((w.au (aN w.off q).1.node.toNat).bs q) tg).2=0/\(wh ((w.au (aN w.off q).1.node.toNat).bs q) tg).1.ep=(aN w.off q).1.Pf then
  w.aF (aN w.off q).1.node.toNat q (wh ((w.au (aN w.off q).1.node.toNat).bs q) tg).1
 else w
noncomputable def FQ(data:List UInt8)(Qr:Int):Option (List bF):=(allM (xQ (lC data Qr).1 (lC data Qr).2.1).1).1
noncomputable def dH(data:List UInt8)(Qr:Int):Nat->bF:=λq=>Md ((FQ data Qr).getD []) q
def Cl.recovered(w:Cl)(n q:Nat)(JU:List Ev)(an:List kg):List Nat->Cl
 |[]=>w
 |i::r=>Cl.recovered (w.UR n q (JU.getD i aU) (an.getD i iP) (-1)) n q JU an r
noncomputable def Cl.recover(w:Cl)(n q:Nat):Cl:=
 if (w.Qx n q).1≠((w.au n).bs q).ep then w.UR n q bC iP (-1)
 else w.recovered n q ((w.au n).bs q).JU (aK ((w.au n).bs q).JU).2.1 ((range ((w.au n).bs q).JU.length).drop (w.Qx n q).2.toNat)
noncomputable def gP(Qr:Int)(bs:Nat->bF):List Nat->List UInt8->Option (List UInt8)
 |[],d=>some d
 |q::r,d=>if (bs q).GR≠1 then gP Qr bs r d else if (gU (bs q)).2≠0 then none else
  match gD d Qr [gW 2 q (bs q).ep 0 bC]with
  |none=>none
  |some d'=>gP Qr bs r d'
noncomputable def Cl.UF(n:Nat)(bs:Nat->bF):List Nat->Cl->Cl
 |[],w=>w
 |q::r,w=>if (bs q).GR≠1 then Cl.UF n bs r w else Cl.UF n bs r (((w.recover n q).aF n q (gU (bs q)).1).UR n q bC iP (-1))
noncomputable def Cl.start(w:Cl)(n:Nat):Cl:=
 if (w.au n).up=true then w else
 match gP (lC (w.au n).data (w.au n).Qr).2.1 (dH (w.au n).data (w.au n).Qr) [0,1,2,3] (lC (w.au n).data (w.au n).Qr).1 with
 |none=>w
 |some d=>Cl.UF n (dH (w.au n).data (w.au n).Qr) [0,1,2,3] (w.put n { (w.au n).blank with up:=true,data:=d,Qr:=d.length,bs:=dH (w.au n).data (w.au n).Qr})
def Cl.Vz(w:Cl)(n:Nat)(keep:Int):Cl:=
 if (w.au n).up=true then w.put n { (w.au n).blank with up:=false,data:=(rY (w.au n).data (w.au n).Qr keep).1,Qr:=(rY (w.au n).data (w.au n).Qr keep).2.1}else w
def Ac.op(a:Ac):Ev:=⟨a.ek,a.ep,a.ei,a.eb,a.eh,a.en⟩
def ze(n:Int)(q:Nat)(op:Ev)(num:Int):bY:={kd:=0,fr:= -1,tg:=n,q:=q,op:=op,num:=num}
noncomputable def Cl.all(w:Cl):Cl:=w.PI.foldl Cl.QG {w with PI:=[]}
noncomputable def Cl.UN(w:Cl)(a:Ac):Cl:=
 if a.kd=1 then w.make a.nd.toNat a.qu.toNat
 else if a.kd=2 then{w with PI:=w.PI++[ze a.nd a.qu.toNat a.op w.calls],calls:=w.calls+1}
 else if a.kd=3 then w.step a.nd.toNat
 else if a.kd=4\/a.kd=5\/a.kd=6 then w.pick a.at_.toNat (decide (a.kd≠5)) (decide (a.kd=6))
 else if a.kd=7 then w.all
 else if a.kd=8 then w.Vz a.nd.toNat a.kp
 else if a.kd=9 then w.start a.nd.toNat
 else w.move a.qu.toNat a.nd
noncomputable def Cl.run(w:Cl)(l:List Ac):Cl:=l.foldl Cl.UN w
noncomputable def Nd.view(x:Nd):Nat->bF:=if x.up=true then x.bs else dH x.data x.Qr
def yB:∀(a b:List Ev) (Q:Qd) (an:List kg),jh Q an (a++b)=(jh Q an a).bind λr=>jh r.1 r.2 b
 |[],b,Q,an=>rfl
 |e::a,b,Q,an=>by
  simp only[cons_append,jh]
  split
  ·exact yB a b _ _
  rfl
def UH(l:List Ev):Prop:=(aK l).2.2=0
section
variable {l:List Ev}{e:Ev}{k:Nat}
def x9:UH l↔l.length<=2000/\ ∃r,jh fU [] l=some r:=by
 unfold UH
 constructor
 ·intro h;refine⟨iX h,?_⟩;have J:¬ 2000<l.length:=by have:=iX h;omega
  cases I:jh fU [] l with
  |none=>rw[Nt J I]at h;cases h
  |some r=>exact⟨r,E⟩
 rintro⟨h,r,I⟩;rw[Iu Y I]
def Bw{r:Qd×List kg}(h:l.length<=2000)(I:jh fU [] l=some r):aK l=(r.1,r.2,0):=Iu Y I
def zU:UH []:=x9.2 ⟨by simp,_,E⟩
def WY{a b:List Ev}(h:UH (a++b)):UH a:=by
 obtain⟨h1,r,I⟩:=x9.1 h;rw[yB]at I;rw[aY]at h1
 cases J:jh fU [] a with
 |none=>rw[J]at I;cases I
 |some s=>exact x9.2 ⟨by omega,s,J⟩
def xR(h:UH l):UH (l.take k):=WY (b:=l.drop k) (by rwa [yN])
def mg(h:UH l):l.length<=2000:=iX h
def Vw(h:UH (l++[e])):(jN (aK l).1 e).2.2.2=0/\(jN (aK l).1 e).2.2.1=true/\aK (l++[e])=((jN (aK l).1 e).1,(aK l).2.1++[(jN (aK l).1 e).2.1],0):=by
 obtain⟨h1,r,I⟩:=x9.1 h;rw[aY]at h1;rw[yB]at I
 cases J:jh fU [] l with
 |none=>rw[J]at I;cases I
 |some s=>
  have hs:=Bw Y J;rw[J]at I;simp only[Option.bind_some,jh]at I
  split at I
  ·rename_i M
   rw[hs];refine⟨M.1,M.2,?_⟩
   cases I;refine Bw (r:=((jN s.1 e).1,s.2++[(jN s.1 e).2.1])) (by rw[aY];exact h1) ?_;rw[yB,J];simp only[Option.bind_some,jh];rw[aj M]
  cases I
def RX(h:UH l)(O:l.length<2000)(I:(jN (aK l).1 e).2.2.2=0)(J:(jN (aK l).1 e).2.2.1=true):UH (l++[e]):=by
 obtain⟨h1,s,M⟩:=x9.1 h;have hs:=Bw h1 M;rw[hs]at I J;refine x9.2 ⟨by simp;omega,((jN s.1 e).1,s.2++[(jN s.1 e).2.1]),?_⟩;rw[yB,M];simp only[Option.bind_some,jh];rw[aj ⟨I,J⟩]
def afG(h:UH l):(aK l).2.1.length=l.length:=by
 obtain⟨h1,s,I⟩:=x9.1 h;rw[Bw h1 I];have:=(Gp (by simp[fU]) I).2;simpa using this
def uS(h:k<l.length):l.take (k+1)=l.take k++[l[k]]:=by rw[mQ,dJ h];rfl
def au5{Q:Qd}(h:(jN Q bC).2.2.1=true):(jN Q bC).2.1=iP:=by
 by_cases I:Q.Vg=0
 ·have he:bJ bC=0:=by decide
  rw[Cr I he]at h⊢
  show(QT Q bC).2.1=iP
  have h1:(QT Q bC).2.2=true:=h;unfold QT at h1⊢;simp only[bC,Int.reduceEq,if_false]at h1⊢;unfold Iq at h1⊢
  split at h1
  ·cases h1
  rename_i J;rw[ah J]
 rw[PY I]at h
 cases h
def aoD{Q:Qd}{e:Ev}(J:(jN Q e).2.2.2=0)(h:(jN Q e).2.2.1=false):(jN Q e).1=Q:=by
 by_cases M:Q.Vg=0
 ·by_cases h1:bJ e=0
  ·rw[Cr M h1]at h⊢
   show(QT Q e).1=Q
   have I:(QT Q e).2.2=false:=h;unfold QT at I⊢
   split at I
   ·rename_i g;rw[aj g]
    unfold Et at I⊢
    repeat' split at I
    all_goals first
     |(cases I;done)
     |(simp_all)
   rename_i g;rw[ah g]
   split at I
   ·rename_i O;rw[aj O]
    unfold J2 at I⊢
    split at I
    ·simp_all
    split at I
    ·simp_all
    cases I
   rename_i O;rw[ah O]
   split at I
   ·rename_i g2;rw[aj g2]
    unfold Ip at I⊢
    repeat' split at I
    all_goals first
     |(cases I;done)
     |(simp_all)
   rename_i g2;rw[ah g2]
   unfold Iq at I⊢
   split at I
   ·simp_all
   cases I
  rw[UY M h1]at J;exact av J h1
 rw[PY M]at J;exact av J M
end
noncomputable def rp:Qd->List l5->Option Qd
 |x,[]=>some x
 |x,s::r=>if (jN x s.op).2.2.2=0/\(jN x s.op).2.1=s.Va then rp (jN x s.op).1 r else none
def aic:∀(a b:List l5) (x:Qd),rp x (a++b)=(rp x a).bind λy=>rp y b
 |[],b,x=>rfl
 |s::a,b,x=>by
  simp only[cons_append,rp]
  split
  ·exact aic a b _
  rfl
def T9{x y:Qd}{a:List l5}{s:l5}(h:rp x a=some y)(I:(jN y s.op).2.2.2=0)(J:(jN y s.op).2.1=s.Va):rp x (a++[s])=some (jN y s.op).1:=by
 rw[aic,h];simp only[Option.bind_some,rp];rw[aj ⟨I,J⟩]
structure Gh where
 m:Nat
 own:Nat->Nat
 len:Nat->Nat
 G:List Ev
 F:Nat
 t:Nat
def Gh.bd(g:Gh)(k:Nat):Nat:=if k=g.m then g.G.length else g.len k
def Gh.o(g:Gh):Nat:=g.own g.m
def Oth(g:Gh)(n:Nat)(b:bF):Prop:=
 (b.GR=0/\0<=b.ep/\b.ep<g.m)\/
 (∃k:Nat,b.GR=3/\b.ep=k/\1<=k/\k<g.m/\g.own k=n/\b.JU=g.G.take (g.len k)/\b.tg=g.own (k+1))\/
 (∃k:Nat,b.GR=4/\b.ep=(k:Int)+1/\1<=k/\k<=g.m/\b.fr=g.own k/\b.JU=g.G.take b.JU.length/\b.JU.length<=g.bd k/\(k<g.m->g.own (k+1)≠n))
def Hz(g:Gh)(V:Nat->bF)(pl:Pl)(l:bY):Prop:=
 (l.kd=2-> ∃k:Nat,l.ep=(k:Int)+1/\1<=k/\k<=g.m/\l.fr=g.own k)/\
 (l.kd=4-> ∃k:Nat,l.ep=(k:Int)+1/\1<=k/\k<=g.m/\l.fr=g.own k/\0<=l.at_/\l.JU=(g.G.drop l.at_.toNat).take l.JU.length/\l.at_.toNat+l.JU.length<=g.bd k/\
  (l.last=true->(k<g.m/\(g.own (k+1):Int)=l.tg)\/(k=g.m/\(V g.o).GR=3/\(V g.o).tg=l.tg/\l.at_.toNat+l.JU.length=g.G.length)))/\
 (l.kd=5->0<=l.nd-> ∃k:Nat,l.ep=k/\1<=k/\k<g.m/\(g.own (k+1):Int)=l.nd)/\
 (l.kd=6-> ∃k:Nat,l.ep=k/\1<=k/\(k:Int)<=pl.Pf/\(g.own k:Int)=l.nd)
def HY(g:Gh)(V:Nat->bF)(n:Nat):cZ->Prop
 | .serve _ JU op _ a=>n=g.o/\QK (V n)/\JU=g.G++[op]/\(jN (aK g.G).1 op).2.1=a/\UH JU
 | .QL _ b=> ∃k:Nat,b=⟨4,(k:Int)+1,g.own k,0,0,[]⟩/\1<=k/\k<=g.m/\((V n).GR=0\/(V n).GR=4)/\(V n).ep< (k:Int)+1
 | .UK _ b last=>(V n).GR=4/\(last=false-> ∃j,b={V n with JU:=g.G.take j}/\(V n).JU.length<=j/\ ∀k:Nat,(V n).ep=(k:Int)+1->j<=g.bd k)/\
   (last=true->(V n).ep=(g.m:Int)+1/\(V g.o).GR=3/\(V g.o).tg=n/\b=⟨1,(g.m:Int)+1,0,0,0,g.G++[bC]⟩/\UH (g.G++[bC]))
 | .gJ _ b _=>n=g.o/\(V n).GR=2/\b={V n with GR:=3,rd:=0}
 | .QE _ b=>(V n).GR=3/\b=⟨0,(V n).ep,0,0,0,[]⟩/\(V n).ep<g.m
structure Vo (own:Nat->Nat)(t:Nat)(sv:List l5):Prop where
 each:∀s∈sv,∃k:Nat,s.ep=k/\1<=k/\k<=t/\s.nd=own k
 two:∀i a b,sv[i]? =some a->sv[i+1]? =some b->b.ep=a.ep\/(b.ep=a.ep+1/\b.op=bC)
 last:∀s,sv.getLast?=some s->s.ep=t
 nil:sv=[]->t=1
structure UD (g:Gh)(V:Nat->bF)(P:Nat->Option cZ)(U:Nat->Bool)(Lt:bY->Prop)(pl:Pl)(sh:Nat->Int×Int)(sv:List l5):Prop where
 m1:1<=g.m
 Z5:∀k,1<=k->k<=g.m->g.own k<5
 adj:∀k,1<=k->k<g.m->g.own k≠g.own (k+1)
 dir:∃d:Nat,pl=⟨g.own d,d⟩/\1<=d/\(d=g.m\/d+1=g.m)
 wz:(V g.o).ep=g.m
 zk:(V g.o).JU=g.G
 Fy:(V g.o).GR=1\/(V g.o).GR=2\/(V g.o).GR=3
 Vp:(V g.o).GR≠1->pl.Pf=g.m/\(V g.o).tg≠g.o/\0<=(V g.o).tg/\(V g.o).tg<5
 gd:UH g.G
 p8:∀n,n<5->n≠g.o->Oth g n (V n)
 ge:∀k,1<=k->k<=g.m->(k:Int)<=(V (g.own k)).ep
 brk:∀k,1<=k->k<g.m->g.G[g.len k]? =some bC/\g.len k<g.bd (k+1)
 nT:∀l,Lt l->Hz g V pl l
 nU:∀n,n<5-> ∀p,P n=some p->U n=true/\HY g V n p
 Vq:(g.t=g.m/\sh g.o=((g.m:Int),(g.F:Int))/\g.F<=g.G.length)\/(g.t+1=g.m/\(sh g.o).1<g.m/\U g.o=false/\g.F+1=g.G.length/\g.G[g.F]? =some bC)
 upF:U g.o=true->g.F=g.G.length
 slF:(V g.o).GR=3->g.F=g.G.length
 sho:∀n,n<5->n≠g.o->(sh n).1<g.m
 rps:rp fU sv=some (aK (g.G.take g.F)).1
 svs:Vo g.own g.t sv
section
variable {g:Gh}{V:Nat->bF}{P:Nat->Option cZ}{U:Nat->Bool}{Lt:bY->Prop}{pl:Pl}{sh:Nat->Int×Int}{sv:List l5}{n:Nat}{l:bY}{b:bF}
def UD.o5(I:UD g V P U Lt pl sh sv):g.o<5:=I.Z5 _ I.m1 aB
def UD.Z6(I:UD g V P U Lt pl sh sv){k:Nat}(h:1<=k)(h1:k<=g.m):g.bd k<=g.G.length:=by
 unfold Gh.bd
 split
 ·exact aB
 have:=(I.brk k h Y).1;exact H6 (cK.1 this).1
def UD.P5(I:UD g V P U Lt pl sh sv){k:Nat}(h:1<=k)(h1:k<g.m):g.len k<g.G.length:=(cK.1 (I.brk k h h1).1).1
def UD.who(I:UD g V P U Lt pl sh sv)(hn:n<5)(h:QK (V n)):n=g.o:=by
 by_cases e:n=g.o
 ·exact e
 have:=I.p8 n hn e;unfold QK at h
 rcases this with⟨h1,_⟩|⟨k,h1,_⟩|⟨k,h1,_⟩<;>omega
def JR{α:Type}(f:Nat->α)(k:Nat)(v:α):Qv f k v k=v:=aj E
def Ph{α:Type}{f:Nat->α}{k j:Nat}{v:α}(h:j≠k):Qv f k v j=f j:=ah h
def aJ{α:Type}{f:Nat->α}{k:Nat}{v:α}(h:f k=v):Qv f k v=f:=by
 funext j
 unfold Qv
 split
 ·rename_i e;rw[e,h]
 rfl
def UD.EL{Lt':bY->Prop}(I:UD g V P U Lt pl sh sv)(h:∀l,Lt' l->Lt l\/Hz g V pl l):UD g V P U Lt' pl sh sv:=
 {I with nT:=λl J=>(h l J).elim (I.nT l) id}
def UD.axQ{P':Nat->Option cZ}(I:UD g V P U Lt pl sh sv)(h:∀n p,n<5->P' n=some p->P n=some p\/(U n=true/\HY g V n p)):UD g V P' U Lt pl sh sv:=
 {I with nU:=λn hn p J=>(h n p hn J).elim (I.nU n hn p) id}
def UD.down(I:UD g V P U Lt pl sh sv)(n:Nat):UD g V (Qv P n none) (Qv U n false) Lt pl sh sv:=
 {I with
  nU:=λk M p J=>by
   by_cases e:k=n
   ·subst e;rw[JR]at J;cases J
   rw[Ph e]at J⊢;exact I.nU k M p J
  Vq:=by
   rcases I.Vq with h|⟨h1,O,Z,h4⟩
   ·exact .inl h
   refine .inr ⟨h1,O,?_,h4⟩;by_cases e:g.o=n
   ·rw[e,JR]
   rw[Ph e];exact Z
  upF:=λh=>by
   by_cases e:g.o=n
   ·rw[e,JR]at h;cases h
   rw[Ph e]at h;exact I.upF h}
def UD.up(I:UD g V P U Lt pl sh sv)(n:Nat)(h:n=g.o->g.t=g.m/\g.F=g.G.length):UD g V P (Qv U n true) Lt pl sh sv:=
 {I with
  nU:=λk O p Z=>by
   obtain⟨h1,J⟩:=I.nU k O p Z;refine⟨?_,J⟩;by_cases e:k=n
   ·rw[e,JR]
   rw[Ph e];exact h1
  Vq:=by
   by_cases e:g.o=n
   ·obtain⟨h1,J⟩:=h e.symm
    rcases I.Vq with h|⟨h3,_⟩
    ·exact .inl h
    omega
   rw[Ph e];exact I.Vq
  upF:=λM=>by
   by_cases e:g.o=n
   ·exact(h e.symm).2
   rw[Ph e]at M;exact I.upF M}
def HY.mono{V':Nat->bF}{p:cZ}(h:HY g V n p)(hv:V' n=V n)(I:(V g.o).GR=3->(V' g.o).GR=3/\(V' g.o).tg=(V g.o).tg):HY g V' n p:=by
 cases p with
 |serve q JU op num a=>unfold HY at h⊢;rw[hv];exact h
 |QL q b=>unfold HY at h⊢;rw[hv];exact h
 |UK q b last=>
  unfold HY at h⊢;rw[hv];refine⟨h.1,h.2.1,λJ=>?_⟩;obtain⟨h1,M,O,Z⟩:=h.2.2 J;obtain⟨h5,h6⟩:=I M;exact⟨h1,h5,h6.trans O,Z⟩
 |gJ q b at_=>unfold HY at h⊢;rw[hv];exact h
 |QE q b=>unfold HY at h⊢;rw[hv];exact h
def Hz.mono{V':Nat->bF}(h:Hz g V pl l)(I:(V g.o).GR=3->(V' g.o).GR=3/\(V' g.o).tg=(V g.o).tg):Hz g V' pl l:=by
 obtain⟨h1,J,M⟩:=h;refine⟨h1,λO=>?_,M⟩;obtain⟨k,a,b,c,d,e,f,i,j⟩:=J O;refine⟨k,a,b,c,d,e,f,i,λZ=>?_⟩
 rcases j Z with j|⟨j1,j2,j3,j4⟩
 ·exact .inl j
 obtain⟨h5,h6⟩:=I j2;exact .inr ⟨j1,h5,h6.trans j3,j4⟩
def UD.V6(I:UD g V P U Lt pl sh sv)(hn:n<5)(Qz:n≠g.o)(hp:P n=none)(hb:Oth g n b)(hge:(V n).ep<=b.ep):UD g (Qv V n b) P U Lt pl sh sv:=by
 have J:Qv V n b g.o=V g.o:=Ph (λe=>Qz e.symm);exact{I with
  wz:=by rw[J];exact I.wz
  zk:=by rw[J];exact I.zk
  Fy:=by rw[J];exact I.Fy
  Vp:=by rw[J];exact I.Vp
  slF:=by rw[J];exact I.slF
  p8:=λk O Z=>by
   by_cases e:k=n
   ·subst e;rw[JR];exact hb
   rw[Ph e];exact I.p8 k O Z
  ge:=λk h1 h2=>by
   have:=I.ge k h1 h2;by_cases e:g.own k=n
   ·rw[e]at this⊢;rw[JR];omega
   rw[Ph e];exact this
  nT:=λl hl=>(I.nT l hl).mono λh=>by rw[J];exact⟨h,E⟩
  nU:=λk O p M=>by
   obtain⟨h1,h2⟩:=I.nU k O p M;refine⟨h1,h2.mono (Ph λe=>?_) λh=>by rw[J];exact⟨h,E⟩⟩;subst e;rw[hp]at M;cases M}
def UD.afH(I:UD g V P U Lt pl sh sv)(hp:∀p,P g.o=some p->HY g (Qv V g.o b) g.o p)(h1:b.ep=g.m)(h2:b.JU=g.G)(h3:b.GR=1\/b.GR=2\/b.GR=3)(h4:b.GR≠1->pl.Pf=g.m/\b.tg≠g.o/\0<=b.tg/\b.tg<5)
  (h5:(V g.o).GR=3->b.GR=3/\b.tg=(V g.o).tg) (h6:b.GR=3->g.F=g.G.length):UD g (Qv V g.o b) P U Lt pl sh sv:=by
 have J:Qv V g.o b g.o=b:=JR _ _ _;exact{I with
  wz:=by rw[J];exact h1
  zk:=by rw[J];exact h2
  Fy:=by rw[J];exact h3
  Vp:=by rw[J];exact h4
  slF:=by rw[J];exact h6
  p8:=λk Z M=>by rw[Ph M];exact I.p8 k Z M
  ge:=λk j1 j2=>by
   have:=I.ge k j1 j2;by_cases e:g.own k=g.o
   ·rw[e]at this⊢;rw[J,h1];rw[I.wz]at this;exact this
   rw[Ph e];exact this
  nT:=λl hl=>(I.nT l hl).mono λh=>by rw[J];exact h5 h
  nU:=λk Z p O=>by
   obtain⟨j1,j2⟩:=I.nU k Z p O;refine⟨j1,?_⟩;by_cases e:k=g.o
   ·subst e;exact hp p O
   exact j2.mono (Ph e) λh=>by rw[J];exact h5 h}
def tJ{l x:List Ev}{k:Nat}(h:k<=l.length):(l++x).take k=l.take k:=Bp h
def Gi{l x:List Ev}{a k:Nat}(h:a+k<=l.length):((l++x).drop a).take k=(l.drop a).take k:=by
 rw[drop_append_of_le_length Y,Bp (by rw[dL];omega)]
def Gh.app(g:Gh)(e:Ev):Gh:={g with G:=g.G++[e]}
def Gh.RY{g:Gh}{e:Ev}{k:Nat}(h:g.bd k<=g.G.length):g.bd k<=(g.app e).bd k:=by
 unfold Gh.bd Gh.app at*;dsimp only
 split
 ·rw[aY];omega
 exact iJ _
def UD.append{e:Ev}(I:UD g V P U Lt pl sh sv)(hp:P g.o=none)(hu:U g.o=false)(hr:(V g.o).GR≠3)(ht:g.t=g.m)(hg:UH (g.G++[e]))(hb:b.ep=(V g.o).ep)(hb1:b.GR=(V g.o).GR)(hb2:b.tg=(V g.o).tg)(hb3:b.JU=g.G++[e]):
 UD (g.app e) (Qv V g.o b) P U Lt pl sh sv:=by
 have ho:Qv V g.o b g.o=b:=JR _ _ _;have M:(g.app e).o=g.o:=rfl;have hle:=λk h1 J=>I.Z6 (k:=k) h1 J;have hF:g.F<=g.G.length:=by rcases I.Vq with⟨_,_,h⟩|⟨h,_⟩<;>omega
 refine⟨I.m1,I.Z5,I.adj,I.dir,?_,?_,?_,?_,hg,?_,?_,?_,?_,?_,?_,?_,?_,I.sho,?_,I.svs⟩
 ·rw[M,ho,hb];exact I.wz
 ·rw[M,ho,hb3];rfl
 ·rw[M,ho,hb1];exact I.Fy
 ·rw[M,ho,hb1,hb2];exact I.Vp
 ·intro n hn Qz;rw[M]at Qz;rw[Ph Qz]
  rcases I.p8 n hn Qz with h|⟨k,h1,J,O,h4,h5,h6,h7⟩|⟨k,h1,J,O,h4,h5,h6,h7,h8⟩
  ·exact .inl h
  ·refine .inr (.inl ⟨k,h1,J,O,h4,h5,?_,h7⟩)
   show _=(g.G++[e]).take _
   have:=I.P5 O h4;rw[h6];exact(tJ (H6 this)).symm
  refine .inr (.inr ⟨k,h1,J,O,h4,h5,?_,fG h7 (Gh.RY (hle k O h4)),h8⟩)
  show _=(g.G++[e]).take _
  have:=hle k O h4;rw[tJ Y];exact h6
 ·intro k h1 J;have:=I.ge k h1 J;by_cases e:g.own k=g.o
  ·show(k:Int)<=(Qv V g.o b (g.own k)).ep
   rw[e]at this⊢;rw[ho,hb];exact this
  show(k:Int)<=(Qv V g.o b (g.own k)).ep
  rw[Ph e];exact this
 ·intro k h1 J;obtain⟨O,h4⟩:=I.brk k h1 J;refine⟨?_,TG h4 (Gh.RY (hle (k+1) Y J))⟩
  show(g.G++[e])[g.len k]? =_
  rw[oz (I.P5 h1 J)];exact O
 ·intro l hl;obtain⟨h1,J,O⟩:=I.nT l hl;refine⟨h1,λhk=>?_,O⟩;obtain⟨k,a,b',c,d,e',f,i,j⟩:=J hk;have hbd:=hle k b' c;refine⟨k,a,b',c,d,e',?_,fG i (Gh.RY hbd),λhlast=>?_⟩
  ·show _=((g.G++[e]).drop _).take _
   rw[Gi Y];exact f
  rcases j hlast with j|⟨_,Z,_⟩
  ·exact .inl j
  exact av Z hr
 ·intro k hk p hk';obtain⟨j1,Z⟩:=I.nU k hk p hk';refine⟨j1,?_⟩;by_cases e':k=g.o
  ·subst e';rw[hp]at hk';cases hk'
  cases p with
  |serve q JU op num a=>exact av Z.1 e'
  |QL q b'=>unfold HY at Z⊢;rw[Ph e'];exact Z
  |UK q b' last=>
   unfold HY at Z⊢;rw[Ph e'];refine⟨Z.1,λhl=>?_,λhl=>?_⟩
   ·obtain⟨j,a1,a2,a3⟩:=Z.2.1 hl
    rcases I.p8 k hk e' with h|⟨k',h,_⟩|⟨k',h,h1,J,O,_⟩
    ·omega
    ·omega
    have hj:=a3 k' h1;have hbd:=hle k' J O;refine⟨j,?_,a2,λk2 hk2=>?_⟩
    ·show _={V k with JU:=(g.G++[e]).take j}
     rw[tJ Y];exact a1
    have:k2=k':=Y;subst this;exact fG hj (Gh.RY hbd)
   exact av (Z.2.2 hl).2.1 hr
  |gJ q b' at_=>exact av Z.1 e'
  |QE q b'=>unfold HY at Z⊢;rw[Ph e'];exact Z
 ·rcases I.Vq with⟨h1,J,O⟩|⟨h1,_⟩
  ·exact .inl ⟨h1,J,by show g.F<=(g.G++[e]).length;rw[aY];omega⟩
  omega
 ·intro h;rw[M,hu]at h;cases h
 ·intro h;rw[M,ho,hb1]at h;exact av h hr
 show rp fU sv=some (aK ((g.G++[e]).take g.F)).1
 rw[tJ hF];exact I.rps
def Vo.app{own:Nat->Nat}{t:Nat}(Z:1<=t):∀ {sv2 sv:List l5},Vo own t sv->(∀s∈sv2,s.ep=t/\s.nd=own t)->Vo own t (sv++sv2)
 |[],sv,h,_=>by rw[bI];exact h
 |s::r,sv,h,h2=>by
  have hs:=h2 s iQ;have h1:Vo own t (sv++[s]):=by
   refine⟨λx I=>?_,λi a b M J=>?_,λx I=>?_,λhn=>by simp at hn⟩
   ·rcases bD.1 I with I|I
    ·exact h.each x I
    rw[aI]at I;subst I;exact⟨t,hs.1,Z,aB,hs.2⟩
   ·by_cases hi:i+1<sv.length
    ·rw[oz Y]at M;rw[oz hi]at J;exact h.two i a b M J
    have O:i+1< (sv++[s]).length:=(cK.1 J).1;rw[aY,lZ]at O;rw[oz Y]at M;rw[pK Y,show i+1-sv.length=0 by omega]at J
    cases J;refine .inl ?_;rw[hs.1];refine(h.last a ?_).symm;rw[getLast?_eq_getElem?,show sv.length-1=i by omega];exact M
   rw[getLast?_concat]at I
   cases I;exact hs.1
  have:=Vo.app Z (sv2:=r) h1 λx I=>h2 x (by simp[I]);rwa [gq]at this
def Vo.brk{own:Nat->Nat}{t:Nat}{s:l5}(h:Vo own t sv)(iB:s.ep=(t:Int)+1)(hnd:s.nd=own (t+1))(O:s.op=bC):Vo own (t+1) (sv++[s]):=by
 refine⟨λx I=>?_,λi a b M J=>?_,λx I=>?_,λhn=>by simp at hn⟩
 ·rcases bD.1 I with I|I
  ·obtain⟨k,a,b,c,d⟩:=h.each x I;exact⟨k,a,b,by omega,d⟩
  rw[aI]at I;subst I;exact⟨t+1,by rw[iB];rfl,by omega,aB,hnd⟩
 ·by_cases hi:i+1<sv.length
  ·rw[oz Y]at M;rw[oz hi]at J;exact h.two i a b M J
  have Z:i+1< (sv++[s]).length:=(cK.1 J).1;rw[aY,lZ]at Z;rw[oz Y]at M;rw[pK Y,show i+1-sv.length=0 by omega]at J
  cases J;refine .inr ⟨?_,O⟩;rw[iB,h.last a (by rw[getLast?_eq_getElem?,show sv.length-1=i by omega];exact M)]
 rw[getLast?_concat]at I
 cases I;rw[iB];rfl
def Vo.own{own I:Nat->Nat}{t:Nat}(h:Vo own t sv)(he:∀k,k<=t->I k=own k):Vo I t sv:=
 ⟨λs hs=>by obtain⟨k,a,b,c,d⟩:=h.each s hs;exact⟨k,a,b,c,by rw[he k c];exact d⟩,h.two,h.last,h.nil⟩
def Gh.all(g:Gh):Gh:={g with F:=g.G.length,t:=g.m}
def UD.told(I:UD g V P U Lt pl sh sv)(M:g.t=g.m){sv2:List l5}(J:rp fU (sv++sv2)=some (aK g.G).1)(he:∀s∈sv2,s.ep=g.m/\s.nd=g.o):UD g.all V P U Lt pl (Qv sh g.o ((g.m:Int),(g.G.length:Int))) (sv++sv2):=
 {I with
  Vq:=.inl ⟨E,JR _ _ _,aB⟩
  upF:=λ_=>E
  slF:=λ_=>E
  sho:=λn hn Qz=>by
   have:n≠g.o:=Qz;rw[Ph this];exact I.sho n hn Qz
  rps:=by show rp _ _=some (aK (g.G.take g.G.length)).1;rw[jy];exact J
  svs:=by
   have h:=I.svs;rw[M]at h;exact Vo.app I.m1 h he}
def UD.aoE(I:UD g V P U Lt pl sh sv)(Z:¬g.t=g.m){s:l5}(J:s.op=bC)(ha:s.Va=iP)(iB:s.ep=g.m)(hnd:s.nd=g.o):UD g.all V P U Lt pl (Qv sh g.o ((g.m:Int),(g.G.length:Int))) (sv++[s]):=by
 rcases I.Vq with⟨h,_⟩|⟨h1,h2,h3,h4,h5⟩
 ·exact av h Z
 have O:g.F<g.G.length:=Y;have e:g.G=g.G.take g.F++[bC]:=by
  have:=uS O;rw[h4,jy]at this;have h6:g.G[g.F]=bC:=by
   have:=dJ O;rw[h5]at this;exact(wT this).symm
  rw[h6]at this;exact this
 have M:=I.gd;rw[e]at M;obtain⟨s1,s2,s3⟩:=Vw M;exact{I with
  Vq:=.inl ⟨E,JR _ _ _,aB⟩
  upF:=λ_=>E
  slF:=λ_=>E
  sho:=λn hn Qz=>by
   have:n≠g.o:=Qz;rw[Ph this];exact I.sho n hn Qz
  rps:=by
   show rp _ _=some (aK (g.G.take g.G.length)).1
   rw[jy,T9 I.rps (by rw[J];exact s1) (by rw[J,ha];exact au5 s2),J,e,s3,<-e]
  svs:=by
   have h:=I.svs.brk (s:=s) (by rw[iB,<-h1];rfl) (by rw[hnd,h1];rfl) J;rw[h1]at h;exact h}
def UD.az5(I:UD g V P U Lt pl sh sv){p':Pl}(h:p'=⟨g.own g.m,g.m⟩):UD g V P U Lt p' sh sv:=by
 subst h;exact{I with
  dir:=⟨g.m,E,I.m1,.inl E⟩
  Vp:=λJ=>⟨E,(I.Vp J).2⟩
  nT:=λl M=>by
   obtain⟨h1,O,Z,h4⟩:=I.nT l M;refine⟨h1,O,Z,λhk=>?_⟩;obtain⟨k,a,b,c,d⟩:=h4 hk;refine⟨k,a,b,?_,d⟩;obtain⟨d',hd,_,hd2⟩:=I.dir;rw[hd]at c;dsimp only at c⊢;omega}
def Gh.UN(g:Gh)(T:Nat):Gh:={g with m:=g.m+1,own:=Qv g.own (g.m+1) T,len:=Qv g.len g.m g.G.length,G:=g.G++[bC]}
def UD.activate{T:Nat}(I:UD g V P U Lt pl sh sv)(hr:(V g.o).GR=3)(Fz:(V g.o).tg=T)(hp:P T=none)(hu:U T=false)(hg:UH (g.G++[bC]))(hge:(V T).ep<=(g.m:Int)+1):
 UD (g.UN T) (Qv V T ⟨1,(g.m:Int)+1,0,0,0,g.G++[bC]⟩) P U Lt pl sh sv:=by
 obtain⟨ha1,ha2,ha3,ha4⟩:=I.Vp Y;rw[Fz]at ha2 ha4;have hT5:T<5:=Y;have hTo:T≠g.o:=Y;have hF:=I.slF hr;have htm:g.t=g.m/\sh g.o=((g.m:Int),(g.F:Int)):=by
  rcases I.Vq with h|⟨_,_,_,h,_⟩
  ·exact⟨h.1,h.2.1⟩
  omega
 have Qz:(g.UN T).o=T:=JR _ _ _;have J:∀k,k<=g.m->(g.UN T).own k=g.own k:=λk hk=>Ph Y;have M:(g.UN T).own (g.m+1)=T:=JR _ _ _;have O:(g.UN T).m=g.m+1:=rfl;have hG:(g.UN T).G=g.G++[bC]:=rfl;have hlen:∀k,k<g.m->(g.UN T).len k=g.len k:=λk hk=>Ph Y;have hbd:∀k,k<=g.m->(g.UN T).bd k=g.bd k:=λk hk=>by
  unfold Gh.bd;rw[ah (by rw[O];omega)];by_cases e:k=g.m
  ·rw[aj e];subst e;exact JR _ _ _
  rw[ah e];exact hlen k Y
 have hvT:Qv V T (⟨1,(g.m:Int)+1,0,0,0,g.G++[bC]⟩:bF) (g.UN T).o=⟨1,(g.m:Int)+1,0,0,0,g.G++[bC]⟩:=by rw[Qz];exact JR _ _ _
 have hle:=λk h1 Z=>I.Z6 (k:=k) h1 Z;refine⟨by rw[O];omega,?_,?_,?_,by rw[hvT,O];rfl,by rw[hvT,hG],by rw[hvT];exact .inl E,λh=>by rw[hvT]at h;exact av E h,by rw[hG];exact hg,?_,?_,?_,?_,?_,?_,?_,λh=>by rw[hvT]at h;exact av h iQ,?_,?_,?_⟩
 ·intro k h1 Z;rw[O]at Z;by_cases e:k=g.m+1
  ·rw[e,M];exact hT5
  rw[J k Y];exact I.Z5 k h1 Y
 ·intro k h1 Z;rw[O]at Z;by_cases e:k=g.m
  ·rw[J k Y,e,M];exact λh=>hTo h.symm
  rw[J k Y,J (k+1) Y];exact I.adj k h1 Y
 ·obtain⟨d,h1,Z,h3⟩:=I.dir;have:d=g.m:=by rw[h1]at ha1;dsimp only at ha1;omega
  refine⟨d,?_,Z,.inr (by rw[O,this])⟩;rw[h1,J d Y]
 ·intro n hn hn2;rw[Qz]at hn2;rw[Ph hn2];by_cases e:n=g.o
  ·subst e;refine .inr (.inl ⟨g.m,hr,I.wz,I.m1,by rw[O];omega,J _ aB,?_,?_⟩)
   ·rw[hG,show(g.UN T).len g.m=g.G.length from JR _ _ _,GY];exact I.zk
   rw[M];exact Fz
  rcases I.p8 n hn e with h|⟨k,h1,Z,h3,h4,h5,h6,h7⟩|⟨k,h1,Z,h3,h4,h5,h6,h7,h8⟩
  ·exact .inl ⟨h.1,h.2.1,by rw[O];have:=h.2.2;omega⟩
  ·refine .inr (.inl ⟨k,h1,Z,h3,by rw[O];omega,by rw[J k Y];exact h5,?_,by rw[J (k+1) Y];exact h7⟩);rw[hlen k h4,hG,tJ (H6 (I.P5 h3 h4))];exact h6
  refine .inr (.inr ⟨k,h1,Z,h3,by rw[O];omega,by rw[J k h4];exact h5,?_,by rw[hbd k h4];exact h7,λhk=>?_⟩)
  ·have:=hle k h3 h4;rw[hG,tJ Y];exact h6
  by_cases e2:k=g.m
  ·rw[e2,M];exact λh=>hn2 h.symm
  rw[J (k+1) Y];exact h8 Y
 ·intro k h1 Z;rw[O]at Z;by_cases e:k=g.m+1
  ·rw[e,M,JR];dsimp only;omega
  rw[J k Y];have:=I.ge k h1 Y;by_cases e2:g.own k=T
  ·rw[e2,JR];dsimp only;omega
  rw[Ph e2];exact this
 ·intro k h1 Z;rw[O]at Z;by_cases e:k=g.m
  ·subst e;rw[show(g.UN T).len g.m=g.G.length from JR _ _ _,hG];refine⟨by rw[pK aB,TH];rfl,?_⟩;unfold Gh.bd;rw[aj O.symm,hG,aY];exact lt_succ_self _
  obtain⟨h3,h4⟩:=I.brk k h1 Y;rw[hlen k Y,hbd (k+1) Y,hG,oz (I.P5 h1 Y)];exact⟨h3,h4⟩
 ·intro l hl;obtain⟨h1,Z,h3,h4⟩:=I.nT l hl;refine⟨λhk=>?_,λhk=>?_,λhk hd=>?_,λhk=>?_⟩
  ·obtain⟨k,a,b,c,d⟩:=h1 hk;exact⟨k,a,b,by rw[O];omega,by rw[J k c];exact d⟩
  ·obtain⟨k,a,b,c,d,e,f,i,j⟩:=Z hk;have:=hle k b c;refine⟨k,a,b,by rw[O];omega,by rw[J k c];exact d,e,by rw[hG,Gi Y];exact f,by rw[hbd k c];exact i,λhlast=>.inl ?_⟩
   rcases j hlast with⟨j1,j2⟩|⟨j1,j2,j3,j4⟩
   ·exact⟨by rw[O];omega,by rw[J (k+1) Y];exact j2⟩
   subst j1;exact⟨by rw[O];omega,by rw[M,<-Fz];exact j3⟩
  ·obtain⟨k,a,b,c,d⟩:=h3 hk hd;exact⟨k,a,b,by rw[O];omega,by rw[J (k+1) Y];exact d⟩
  obtain⟨k,a,b,c,d⟩:=h4 hk;exact⟨k,a,b,c,by rw[J k Y];exact d⟩
 ·intro n hn p hp';have hnT:n≠T:=λe=>by subst e;rw[hp]at hp';cases hp'
  obtain⟨j1,j2⟩:=I.nU n hn p hp';refine⟨j1,?_⟩
  cases p with
  |serve q JU op num a=>
   obtain⟨k1,k2,_⟩:=j2;subst k1;unfold QK at k2;omega
  |QL q b=>
   unfold HY at j2⊢;obtain⟨k,k1,k2,k3,k4⟩:=j2;rw[Ph hnT];exact⟨k,by rw[J k k3];exact k1,k2,by rw[O];omega,k4⟩
  |UK q b last=>
   unfold HY at j2⊢;rw[Ph hnT];refine⟨j2.1,λhl=>?_,λhl=>?_⟩
   ·obtain⟨j,a1,a2,a3⟩:=j2.2.1 hl
    rcases I.p8 n hn (λe=>by subst e;omega)with h|⟨k',h,_⟩|⟨k',h,h1,Z,h3,_⟩
    ·omega
    ·omega
    have hj:=a3 k' h1;have:=hle k' Z h3;refine⟨j,by rw[hG,tJ Y];exact a1,a2,λk2 hk2=>?_⟩;have:k2=k':=Y;subst this;rw[hbd k2 h3];exact hj
   have:=(j2.2.2 hl).2.2.1;omega
  |gJ q b at_=>
   obtain⟨k1,k2,_⟩:=j2;subst k1;omega
  |QE q b=>
   unfold HY at j2⊢;rw[Ph hnT];exact⟨j2.1,j2.2.1,by rw[O];have:=j2.2.2;omega⟩
 ·refine .inr ⟨by show g.t+1=g.m+1;omega,?_,?_,?_,?_⟩
  ·rw[Qz,O];have:=I.sho T hT5 hTo;omega
  ·rw[Qz];exact hu
  ·show g.F+1=(g.G++[bC]).length;rw[aY,hF];rfl
  show(g.G++[bC])[g.F]? =_
  rw[hF,pK aB,TH];rfl
 ·intro h;rw[Qz,hu]at h;cases h
 ·intro n hn hn2;rw[Qz]at hn2;rw[O];by_cases e:n=g.o
  ·subst e;rw[htm.2];dsimp only;omega
  have:=I.sho n hn e;omega
 ·show rp fU sv=some (aK ((g.G++[bC]).take g.F)).1
  rw[tJ Y];exact I.rps
 exact I.svs.own λk hk=>J k (by show k<=g.m;have:k<=g.t:=hk;omega)
end
section
variable {Q y:Qd}{l:List l5}{k i:Nat}{s:l5}{e:Ev}
def aoF(h:(jN Q e).2.2.2=0):Q.Vg=0/\bJ e=0/\jN Q e=((QT Q e).1,(QT Q e).2.1,(QT Q e).2.2,0):=by
 by_cases I:Q.Vg=0
 ·by_cases h1:bJ e=0
  ·exact⟨I,h1,Cr I h1⟩
  rw[UY I h1]at h;exact av h h1
 rw[PY I]at h;exact av h I
end
end Go.Proofs.YtceeleolddkibaaGreatDoor
