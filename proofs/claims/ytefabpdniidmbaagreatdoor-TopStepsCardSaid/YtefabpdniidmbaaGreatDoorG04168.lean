import Derived.Test.YtefabpdniidmbaaGreatDoorG14626
import Derived.Test.YtefabpdniidmbaaGreatDoorG1cff8
set_option linter.all false
set_option maxRecDepth 100000
set_option maxHeartbeats 8000000
namespace Go.Proofs.YtefabpdniidmbaaGreatDoor
open List Nat Go.Proofs.Tryz ChangeShapes WideShapes RowKit
structure xq where
 num:Int
 Rf:iW
 pl:Pl
structure bH where
 kd:Int:=0
 fr:Int:=0
 tg:Int:=0
 q:Nat:=0
 ep:Int:=0
 at_:Int:=0
 nd:Int:=0
 op:Ev:=aI
 Gs:List Ev:=[]
 last:Bool:=false
 num:Int:=0
 bL:xq:=⟨0,eU,nH⟩
structure jJ where
 nd:Nat
 q:Nat
 ep:Int
 op:Ev
 Rf:iW
 num:Int
inductive bS
 |serve (q:Nat) (Gs:List Ev) (op:Ev) (num:Int) (a:iW)
 |Ns (q:Nat) (b:aU)
 |QU (q:Nat) (b:aU) (last:Bool)
 |fG (q:Nat) (b:aU) (at_:Int)
 |Ni (q:Nat) (b:aU)
structure Nd where
 up:Bool
 data:List UInt8
 MC:Int
 bs:Nat->aU
 Nh:Nat->Pl
 Nf:Nat->Bool
 Md:List bH
 Mw:Option bS
 turn:Nat
structure Cl where
 ah:Nat->Nd
 off:QK
 Ms:List bH
 MG:Nat->Nat->Int×Int
 aP:List jJ
 bL:List xq
 calls:Nat
def Na{α:Type}(f:Nat->α)(k:Nat)(v:α):Nat->α:=λj=>if j=k then v else f j
def iD{α:Type}(f:Nat->Nat->α)(n q:Nat)(v:α):Nat->Nat->α:=λi j=>if i=n/\j=q then v else f i j
def Cl.put(w:Cl)(n:Nat)(x:Nd):Cl:={w with ah:=Na w.ah n x}
def Cl.ay(w:Cl)(n q:Nat)(b:aU):Cl:=w.put n {w.ah n with bs:=Na (w.ah n).bs q b}
def Cl.send(w:Cl)(l:bH):Cl:={w with Ms:=w.Ms++[l]}
def Nd.blank(x:Nd):Nd:={x with bs:=λ_=>bF,Nf:=λ_=>false,Nh:=λ_=>nowhere,Md:=[],Mw:=none}
def nd0:Nd:=⟨true,[],0,λ_=>bF,λ_=>nowhere,λ_=>false,[],none,0⟩
def kM:Cl:=⟨λ_=>nd0,⟨nowhere,nowhere,nowhere,nowhere⟩,[],λ_ _=>(0,0),[],[],0⟩
def fD(l:List UInt8)(s:Int):List cO->Option (List UInt8)
 |[]=>some l
 |r::rs=>if (jc l s r).2.2≠0 then none else fD (jc l s r).1 s rs
def Nd.write(x:Nd)(rs:List cO):Option Nd:=(fD x.data x.MC rs).map λd=>{x with data:=d}
def fH(k:Int)(q:Nat)(ep pe:Int)(e:Ev):cO:=⟨k,q,ep,pe,e⟩
def Cl.QL(w:Cl)(n q:Nat)(e:Ev)(a:iW)(num:Int):Cl:=
 {w with aP:=w.aP++[⟨n,q,((w.ah n).bs q).ep,e,a,num⟩],MG:=iD w.MG n q (((w.ah n).bs q).ep,((w.ah n).bs q).Gs.length)}
def Nl(b:aU):Prop:=b.Gq=1\/b.Gq=2
instance (b:aU):Decidable (Nl b):=by unfold Nl;exact inferInstance
def lZ(n:Nat)(num:Int)(a:iW)(p:Pl):bH:={kd:=1,fr:=n,tg:= -1,bL:=⟨num,a,p⟩}
def Cl.done(w:Cl)(n q:Nat)(op:Ev)(num:Int)(a:iW):Cl:=
 if Nl ((w.ah n).bs q)then(w.QL n q op a num).send (lZ n num a nowhere)else w.send (lZ n num a ((w.ah n).Nh q))
noncomputable def Cl.serve(w:Cl)(n:Nat)(l:bH):Cl:=
 if (gU ((w.ah n).bs l.q) l.op).2.2.1=false then w.done n l.q l.op l.num (gU ((w.ah n).bs l.q) l.op).2.1
 else match (w.ah n).write [fH 2 l.q (gU ((w.ah n).bs l.q) l.op).1.ep 0 l.op]with
  |none=>w.done n l.q l.op l.num (sK 14)
  |some x=>w.put n {x with Mw:=some (.serve l.q (gU ((w.ah n).bs l.q) l.op).1.Gs l.op l.num (gU ((w.ah n).bs l.q) l.op).2.1)}
def ou(n q:Nat)(b:aU):bH:={kd:=3,fr:=n,tg:=b.fr,q:=q,ep:=b.ep,at_:=b.Gs.length}
def Cl.QM(w:Cl)(n q:Nat):Cl:=w.send (ou n q ((w.ah n).bs q))
noncomputable def Cl.Qz(w:Cl)(n:Nat)(l:bH):Cl:=
 if (dw ((w.ah n).bs l.q) l.ep l.fr).2≠0 then w
 else if (dw ((w.ah n).bs l.q) l.ep l.fr).1.ep=((w.ah n).bs l.q).ep then w.QM n l.q
 else match (w.ah n).write [fH 4 l.q (dw ((w.ah n).bs l.q) l.ep l.fr).1.ep l.fr aI]with
  |none=>w
  |some x=>w.put n {x with Mw:=some (.Ns l.q (dw ((w.ah n).bs l.q) l.ep l.fr).1)}
def qb(q:Nat)(b:aU)(k m:Nat)(last:Bool):List cO:=
 ((b.Gs.take m).drop k).map (λx=>fH 5 q b.ep 0 x)++if last=true then[fH 6 q b.ep 0 aI]else[]
noncomputable def Cl.QU(w:Cl)(n:Nat)(l:bH):Cl:=
 if ((w.ah n).bs l.q).Gq≠4\/((w.ah n).bs l.q).fr≠l.fr then w
 else if (cK ((w.ah n).bs l.q) l.ep l.at_ l.Gs l.last).2=2 then w.QM n l.q
 else if (cK ((w.ah n).bs l.q) l.ep l.at_ l.Gs l.last).2≠0\/(cK ((w.ah n).bs l.q) l.ep l.at_ l.Gs l.last).1.Gs.length=((w.ah n).bs l.q).Gs.length then w
 else match (w.ah n).write (qb l.q (cK ((w.ah n).bs l.q) l.ep l.at_ l.Gs l.last).1 ((w.ah n).bs l.q).Gs.length (l.at_.toNat+l.Gs.length) l.last)with
  |none=>w
  |some x=>w.put n {x with Mw:=some (.QU l.q (cK ((w.ah n).bs l.q) l.ep l.at_ l.Gs l.last).1 l.last)}
noncomputable def FY(n q:Nat)(b:aU)(at_:Int):bH:={kd:=4,fr:=n,tg:=b.tg,q:=q,ep:=b.ep+1,at_:=at_,Gs:=(ig b at_).1,last:=(ig b at_).2.1}
noncomputable def Cl.part(w:Cl)(n q:Nat)(at_:Int):Cl:=if (ig ((w.ah n).bs q) at_).2.2≠0 then w else w.send (FY n q ((w.ah n).bs q) at_)
noncomputable def Cl.QV(w:Cl)(n:Nat)(l:bH):Cl:=
 if ((w.ah n).bs l.q).tg≠l.fr\/((w.ah n).bs l.q).ep+1≠l.ep then w
 else if (bG ((w.ah n).bs l.q) l.at_).2≠0 then w
 else if (bG ((w.ah n).bs l.q) l.at_).1.Gq=((w.ah n).bs l.q).Gq then(w.ay n l.q (bG ((w.ah n).bs l.q) l.at_).1).part n l.q l.at_
 else match (w.ah n).write [fH 3 l.q (bG ((w.ah n).bs l.q) l.at_).1.ep (bG ((w.ah n).bs l.q) l.at_).1.tg aI]with
  |none=>w
  |some x=>w.put n {x with Mw:=some (.fG l.q (bG ((w.ah n).bs l.q) l.at_).1 l.at_)}
def Nd.Ny(x:Nd)(n:Nat)(l:bH):Nd:=
 {x with Nh:=if (x.Nh l.q).Mc<l.ep then Na x.Nh l.q ⟨l.nd,l.ep⟩else x.Nh,Nf:=if l.nd=n/\(x.bs l.q).ep=l.ep then Na x.Nf l.q true else x.Nf}
noncomputable def Cl.Q9(w:Cl)(n:Nat)(l:bH):Cl:=
 if (fT ((w.ah n).bs l.q) l.ep).2≠0 then w.put n ((w.ah n).Ny n l)
 else match ((w.ah n).Ny n l).write [fH 7 l.q ((w.ah n).bs l.q).ep 0 aI]with
  |none=>w.put n ((w.ah n).Ny n l)
  |some x=>w.put n {x with Mw:=some (.Ni l.q (fT ((w.ah n).bs l.q) l.ep).1)}
def vT(n q:Nat)(b:aU):bH:={kd:=2,fr:=n,tg:=b.tg,q:=q,ep:=b.ep+1}
def OI(n q:Nat):bH:={kd:=5,fr:=n,tg:= -2,q:=q,nd:= -1}
def MO(n q:Nat)(b:aU):bH:={kd:=5,fr:=n,tg:= -2,q:=q,ep:=b.ep-1,nd:=n}
def gu(n q:Nat)(b:aU)(Nf:Bool):List bH:=
 (if b.Gq=2\/b.Gq=3 then[vT n q b]else[])++(if b.Gq=3 then[OI n q]else[])++if b.Gq=1/\1<b.ep/\Nf=false then[MO n q b]else[]
def Cl.jV(w:Cl)(n:Nat):Cl:=
 let q:=(w.ah n).turn % 4
 { (w.put n {w.ah n with turn:=(w.ah n).turn+1})with Ms:=w.Ms++gu n q ((w.ah n).bs q) ((w.ah n).Nf q)}
noncomputable def Cl.yc(w:Cl)(n:Nat):bS->Cl
 | .serve q Gs op num a=>(w.ay n q { (w.ah n).bs q with Gs:=Gs}).done n q op num a
 | .Ns q b=>(w.ay n q b).QM n q
 | .QU q b last=>if last=true then((w.ay n q b).put n { (w.ay n q b).ah n with Nf:=Na (w.ah n).Nf q false}).QL n q aF eU (-1)else(w.ay n q b).QM n q
 | .fG q b at_=>(w.ay n q b).part n q at_
 | .Ni q b=>w.ay n q b
noncomputable def Cl.Ng(w:Cl)(n:Nat)(l:bH):Cl:=
 if l.kd=0 then w.serve n l else if l.kd=2 then w.Qz n l else if l.kd=3 then w.QV n l else if l.kd=4 then w.QU n l else w.Q9 n l
noncomputable def Cl.drain(n:Nat):List bH->Cl->Cl
 |[],w=>w
 |l::r,w=>if ((w.put n {w.ah n with Md:=r}).Ng n l |>.ah n).Mw=none then Cl.drain n r ((w.put n {w.ah n with Md:=r}).Ng n l)else(w.put n {w.ah n with Md:=r}).Ng n l
noncomputable def Cl.step(w:Cl)(n:Nat):Cl:=
 if (w.ah n).up=false then w else match (w.ah n).Mw with
  |some p=>(w.put n {w.ah n with MC:=(w.ah n).data.length,Mw:=none}).yc n p
  |none=>if ((Cl.drain n (w.ah n).Md w).ah n).Mw=none then(Cl.drain n (w.ah n).Md w).jV n else Cl.drain n (w.ah n).Md w
def lC(tg:Int)(q:Nat)(p:Pl):bH:={kd:=6,fr:= -2,tg:=tg,q:=q,ep:=p.Mc,nd:=p.node}
noncomputable def dH(d:QK)(l:bH):QK:=if 0<=l.nd/\(vX d l.q l.ep l.nd).2=0 then(vX d l.q l.ep l.nd).1 else d
noncomputable def Cl.Nk(w:Cl)(l:bH):Cl:=
 if l.tg= -1 then{w with bL:=w.bL++[l.bL]}
 else if l.tg= -2 then
  if (aJ (dH w.off l) l.q).2=0 then{w with off:=dH w.off l,Ms:=w.Ms++[lC l.fr l.q (aJ (dH w.off l) l.q).1]}else{w with off:=dH w.off l}
 else if (w.ah l.tg.toNat).up=true then w.put l.tg.toNat {w.ah l.tg.toNat with Md:=(w.ah l.tg.toNat).Md++[l]}else w
noncomputable def Cl.pick(w:Cl)(at_:Nat)(comes stays:Bool):Cl:=
 match w.Ms[at_ % w.Ms.length]? with
 |none=>w
 |some l=>
  let w1:=if stays=true then w else{w with Ms:=w.Ms.eraseIdx (at_ % w.Ms.length)}
  if comes=true then w1.Nk l else w1
noncomputable def Cl.make(w:Cl)(n q:Nat):Cl:=
 if (w.ah n).up=false\/(w.ah n).Mw.isSome=true\/(r9 w.off q n).2≠0 then w
 else if (iX ((w.ah n).bs q) 1).2≠0 then w
 else match (w.ah n).write [fH 1 q (iX ((w.ah n).bs q) 1).1.ep 0 aI]with
  |none=>w
  |some x=>{w.put n {x with MC:=x.data.length,bs:=Na x.bs q (iX ((w.ah n).bs q) 1).1}with off:=(r9 w.off q n).1,MG:=iD w.MG n q (1,0)}
noncomputable def Cl.move(w:Cl)(q:Nat)(tg:Int):Cl:=
 if (aJ w.off q).2≠0\/(aJ w.off q).1.node=tg\/(w.ah (aJ w.off q).1.node.toNat).up=false then w
 else if (uK ((w.ah (aJ w.off q).1.node.toNat).bs q) tg).2=0/\(uK ((w.ah (aJ w.off q).1.node.toNat).bs q) tg).1.ep=(aJ w.off q).1.Mc then
  w.ay (aJ w.off q).1.node.toNat q (uK ((w.ah (aJ w.off q).1.node.toNat).bs q) tg).1
 else w
noncomputable def Dn(data:List UInt8)(MC:Int):Option (List aU):=(allM (uP (jC data MC).1 (jC data MC).2.1).1).1
noncomputable def bD(data:List UInt8)(MC:Int):Nat->aU:=λq=>Jg ((Dn data MC).getD []) q
def Cl.recovered(w:Cl)(n q:Nat)(Gs:List Ev)(an:List iW):List Nat->Cl
 |[]=>w
 |i::r=>Cl.recovered (w.QL n q (Gs.getD i aI) (an.getD i eU) (-1)) n q Gs an r
noncomputable def Cl.recover(w:Cl)(n q:Nat):Cl:=
 if (w.MG n q).1≠((w.ah n).bs q).ep then w.QL n q aF eU (-1)
 else w.recovered n q ((w.ah n).bs q).Gs (av ((w.ah n).bs q).Gs).2.1 ((range ((w.ah n).bs q).Gs.length).drop (w.MG n q).2.toNat)
noncomputable def eG(MC:Int)(bs:Nat->aU):List Nat->List UInt8->Option (List UInt8)
 |[],d=>some d
 |q::r,d=>if (bs q).Gq≠1 then eG MC bs r d else if (dL (bs q)).2≠0 then none else
  match fD d MC [fH 2 q (bs q).ep 0 aF]with
  |none=>none
  |some d'=>eG MC bs r d'
noncomputable def Cl.QG(n:Nat)(bs:Nat->aU):List Nat->Cl->Cl
 |[],w=>w
 |q::r,w=>if (bs q).Gq≠1 then Cl.QG n bs r w else Cl.QG n bs r (((w.recover n q).ay n q (dL (bs q)).1).QL n q aF eU (-1))
noncomputable def Cl.start(w:Cl)(n:Nat):Cl:=
 if (w.ah n).up=true then w else
 match eG (jC (w.ah n).data (w.ah n).MC).2.1 (bD (w.ah n).data (w.ah n).MC) [0,1,2,3] (jC (w.ah n).data (w.ah n).MC).1 with
 |none=>w
 |some d=>Cl.QG n (bD (w.ah n).data (w.ah n).MC) [0,1,2,3] (w.put n { (w.ah n).blank with up:=true,data:=d,MC:=d.length,bs:=bD (w.ah n).data (w.ah n).MC})
def Cl.Q0(w:Cl)(n:Nat)(keep:Int):Cl:=
 if (w.ah n).up=true then w.put n { (w.ah n).blank with up:=false,data:=(nG (w.ah n).data (w.ah n).MC keep).1,MC:=(nG (w.ah n).data (w.ah n).MC keep).2.1}else w
def Ac.op(a:Ac):Ev:=⟨a.ek,a.ep,a.ei,a.eb,a.eh,a.en⟩
def vY(n:Int)(q:Nat)(op:Ev)(num:Int):bH:={kd:=0,fr:= -1,tg:=n,q:=q,op:=op,num:=num}
noncomputable def Cl.all(w:Cl):Cl:=w.Ms.foldl Cl.Nk {w with Ms:=[]}
noncomputable def Cl.QT(w:Cl)(a:Ac):Cl:=
 if a.kd=1 then w.make a.nd.toNat a.qu.toNat
 else if a.kd=2 then{w with Ms:=w.Ms++[vY a.nd a.qu.toNat a.op w.calls],calls:=w.calls+1}
 else if a.kd=3 then w.step a.nd.toNat
 else if a.kd=4\/a.kd=5\/a.kd=6 then w.pick a.at_.toNat (decide (a.kd≠5)) (decide (a.kd=6))
 else if a.kd=7 then w.all
 else if a.kd=8 then w.Q0 a.nd.toNat a.kp
 else if a.kd=9 then w.start a.nd.toNat
 else w.move a.qu.toNat a.nd
noncomputable def Cl.run(w:Cl)(l:List Ac):Cl:=l.foldl Cl.QT w
noncomputable def Nd.view(x:Nd):Nat->aU:=if x.up=true then x.bs else bD x.data x.MC
def vF:∀(a b:List Ev) (Q:Qd) (an:List iW),gZ Q an (a++b)=(gZ Q an a).bind λr=>gZ r.1 r.2 b
 |[],b,Q,an=>rfl
 |e::a,b,Q,an=>by
  simp only[cons_append,gZ]
  split
  ·exact vF a b _ _
  rfl
def QJ(l:List Ev):Prop:=(av l).2.2=0
section
variable {l:List Ev}{e:Ev}{k:Nat}
def uZ:QJ l↔l.length<=2000/\ ∃r,gZ dV [] l=some r:=by
 unfold QJ
 constructor
 ·intro h;refine⟨gT h,?_⟩;have J:¬ 2000<l.length:=by have:=gT h;omega
  cases I:gZ dV [] l with
  |none=>rw[Kr J I]at h;cases h
  |some r=>exact⟨r,E⟩
 rintro⟨h,r,I⟩;rw[EO Y I]
def yE{r:Qd×List iW}(h:l.length<=2000)(I:gZ dV [] l=some r):av l=(r.1,r.2,0):=EO Y I
def xG:QJ []:=uZ.2 ⟨by simp,_,E⟩
def Tw{a b:List Ev}(h:QJ (a++b)):QJ a:=by
 obtain⟨h1,r,I⟩:=uZ.1 h;rw[vF]at I;rw[length_append]at h1
 cases J:gZ dV [] a with
 |none=>rw[J]at I;cases I
 |some s=>exact uZ.2 ⟨by omega,s,J⟩
def nX(h:QJ l):QJ (l.take k):=Tw (b:=l.drop k) (by rwa [take_append_drop])
def kH(h:QJ l):l.length<=2000:=gT h
def Ra(h:QJ (l++[e])):(iO (av l).1 e).2.2.2=0/\(iO (av l).1 e).2.2.1=true/\av (l++[e])=((iO (av l).1 e).1,(av l).2.1++[(iO (av l).1 e).2.1],0):=by
 obtain⟨h1,r,I⟩:=uZ.1 h;rw[length_append]at h1;rw[vF]at I
 cases J:gZ dV [] l with
 |none=>rw[J]at I;cases I
 |some s=>
  have hs:=yE Y J;rw[J]at I;simp only[Option.bind_some,gZ]at I
  split at I
  ·rename_i M
   rw[hs];refine⟨M.1,M.2,?_⟩
   cases I;refine yE (r:=((iO s.1 e).1,s.2++[(iO s.1 e).2.1])) (by rw[length_append];exact h1) ?_;rw[vF,J];simp only[Option.bind_some,gZ];rw[if_pos M]
  cases I
def OJ(h:QJ l)(O:l.length<2000)(I:(iO (av l).1 e).2.2.2=0)(J:(iO (av l).1 e).2.2.1=true):QJ (l++[e]):=by
 obtain⟨h1,s,M⟩:=uZ.1 h;have hs:=yE h1 M;rw[hs]at I J;refine uZ.2 ⟨by simp;omega,((iO s.1 e).1,s.2++[(iO s.1 e).2.1]),?_⟩;rw[vF,M];simp only[Option.bind_some,gZ];rw[if_pos ⟨I,J⟩]
def OL(h:QJ l):(av l).2.1.length=l.length:=by
 obtain⟨h1,s,I⟩:=uZ.1 h;rw[yE h1 I];have:=(DW (by simp[dV]) I).2;simpa using this
def nY(h:k<l.length):l.take (k+1)=l.take k++[l[k]]:=by rw[take_add_one,getElem?_eq_getElem h];rfl
def Tx:∀(n:Nat) {l:List Ev},l.length=n->QJ l-> ∀k (J:k<l.length),(av l).2.1[k]? =some (iO (av (l.take k)).1 l[k]).2.1
 | 0,l,hn,_,k,J=>absurd J Y
 |n+1,l,hn,h,k,J=>by
  have e:l=l.take n++[l[n]]:=by rw[<-nY Y,<-hn,take_length]
  have Z:QJ (l.take n++[l[n]]):=e▸h;obtain⟨h1,h2,h3⟩:=Ra Z;have I:(av (l.take n)).2.1.length=n:=by rw[OL (nX h),length_take];omega
  have hm:(av l).2.1=(av (l.take n)).2.1++[(iO (av (l.take n)).1 l[n]).2.1]:=by
   have:=congrArg (λx=>x.2.1) h3;rw[<-e]at this;exact this
  rw[hm];by_cases M:k=n
  ·subst M;rw[getElem?_append_right Y,I,Nat.sub_self];rfl
  rw[getElem?_append_left Y];have O:k< (l.take n).length:=by rw[length_take];omega
  have:=Tx n (l:=l.take n) (by rw[length_take];omega) (nX h) k O;rw[this,take_take,Nat.min_eq_left Y];simp
def ae7{Q:Qd}(h:(iO Q aF).2.2.1=true):(iO Q aF).2.1=eU:=by
 by_cases I:Q.Rj=0
 ·have he:aZ aF=0:=by decide
  rw[zq I he]at h⊢
  show(Nu Q aF).2.1=eU
  have h1:(Nu Q aF).2.2=true:=h;unfold Nu at h1⊢;simp only[aF,Int.reduceEq,if_false]at h1⊢;unfold EM at h1⊢
  split at h1
  ·cases h1
  rename_i J;rw[if_neg J]
 rw[ML I]at h
 cases h
def alc{Q:Qd}{e:Ev}(J:(iO Q e).2.2.2=0)(h:(iO Q e).2.2.1=false):(iO Q e).1=Q:=by
 by_cases M:Q.Rj=0
 ·by_cases h1:aZ e=0
  ·rw[zq M h1]at h⊢
   show(Nu Q e).1=Q
   have I:(Nu Q e).2.2=false:=h;unfold Nu at I⊢
   split at I
   ·rename_i g;rw[if_pos g]
    unfold BU at I⊢
    repeat' split at I
    all_goals first
     |(cases I;done)
     |(simp_all)
   rename_i g;rw[if_neg g]
   split at I
   ·rename_i O;rw[if_pos O]
    unfold GA at I⊢
    split at I
    ·simp_all
    split at I
    ·simp_all
    cases I
   rename_i O;rw[if_neg O]
   split at I
   ·rename_i g2;rw[if_pos g2]
    unfold EL at I⊢
    repeat' split at I
    all_goals first
     |(cases I;done)
     |(simp_all)
   rename_i g2;rw[if_neg g2]
   unfold EM at I⊢
   split at I
   ·simp_all
   cases I
  rw[QO M h1]at J;exact absurd J h1
 rw[ML M]at J;exact absurd J M
end
noncomputable def rp:Qd->List jJ->Option Qd
 |x,[]=>some x
 |x,s::r=>if (iO x s.op).2.2.2=0/\(iO x s.op).2.1=s.Rf then rp (iO x s.op).1 r else none
def ae8:∀(a b:List jJ) (x:Qd),rp x (a++b)=(rp x a).bind λy=>rp y b
 |[],b,x=>rfl
 |s::a,b,x=>by
  simp only[cons_append,rp]
  split
  ·exact ae8 a b _
  rfl
def Er{x y:Qd}{a:List jJ}{s:jJ}(h:rp x a=some y)(I:(iO y s.op).2.2.2=0)(J:(iO y s.op).2.1=s.Rf):rp x (a++[s])=some (iO y s.op).1:=by
 rw[ae8,h];simp only[Option.bind_some,rp];rw[if_pos ⟨I,J⟩]
structure Gh where
 m:Nat
 own:Nat->Nat
 len:Nat->Nat
 G:List Ev
 F:Nat
 t:Nat
def Gh.bd(g:Gh)(k:Nat):Nat:=if k=g.m then g.G.length else g.len k
def Gh.o(g:Gh):Nat:=g.own g.m
def Oth(g:Gh)(n:Nat)(b:aU):Prop:=
 (b.Gq=0/\0<=b.ep/\b.ep<g.m)\/
 (∃k:Nat,b.Gq=3/\b.ep=k/\1<=k/\k<g.m/\g.own k=n/\b.Gs=g.G.take (g.len k)/\b.tg=g.own (k+1))\/
 (∃k:Nat,b.Gq=4/\b.ep=(k:Int)+1/\1<=k/\k<=g.m/\b.fr=g.own k/\b.Gs=g.G.take b.Gs.length/\b.Gs.length<=g.bd k/\(k<g.m->g.own (k+1)≠n))
def Es(g:Gh)(V:Nat->aU)(pl:Pl)(l:bH):Prop:=
 (l.kd=2-> ∃k:Nat,l.ep=(k:Int)+1/\1<=k/\k<=g.m/\l.fr=g.own k)/\
 (l.kd=4-> ∃k:Nat,l.ep=(k:Int)+1/\1<=k/\k<=g.m/\l.fr=g.own k/\0<=l.at_/\l.Gs=(g.G.drop l.at_.toNat).take l.Gs.length/\l.at_.toNat+l.Gs.length<=g.bd k/\
  (l.last=true->(k<g.m/\(g.own (k+1):Int)=l.tg)\/(k=g.m/\(V g.o).Gq=3/\(V g.o).tg=l.tg/\l.at_.toNat+l.Gs.length=g.G.length)))/\
 (l.kd=5->0<=l.nd-> ∃k:Nat,l.ep=k/\1<=k/\k<g.m/\(g.own (k+1):Int)=l.nd)/\
 (l.kd=6-> ∃k:Nat,l.ep=k/\1<=k/\(k:Int)<=pl.Mc/\(g.own k:Int)=l.nd)
def Et(g:Gh)(V:Nat->aU)(n:Nat):bS->Prop
 | .serve _ Gs op _ a=>n=g.o/\Nl (V n)/\Gs=g.G++[op]/\(iO (av g.G).1 op).2.1=a/\QJ Gs
 | .Ns _ b=> ∃k:Nat,b=⟨4,(k:Int)+1,g.own k,0,0,[]⟩/\1<=k/\k<=g.m/\((V n).Gq=0\/(V n).Gq=4)/\(V n).ep< (k:Int)+1
 | .QU _ b last=>(V n).Gq=4/\(last=false-> ∃j,b={V n with Gs:=g.G.take j}/\(V n).Gs.length<=j/\ ∀k:Nat,(V n).ep=(k:Int)+1->j<=g.bd k)/\
   (last=true->(V n).ep=(g.m:Int)+1/\(V g.o).Gq=3/\(V g.o).tg=n/\b=⟨1,(g.m:Int)+1,0,0,0,g.G++[aF]⟩/\QJ (g.G++[aF]))
 | .fG _ b _=>n=g.o/\(V n).Gq=2/\b={V n with Gq:=3,rd:=0}
 | .Ni _ b=>(V n).Gq=3/\b=⟨0,(V n).ep,0,0,0,[]⟩/\(V n).ep<g.m
structure Rt (own:Nat->Nat)(t:Nat)(sv:List jJ):Prop where
 each:∀s∈sv,∃k:Nat,s.ep=k/\1<=k/\k<=t/\s.nd=own k
 two:∀i a b,sv[i]? =some a->sv[i+1]? =some b->b.ep=a.ep\/(b.ep=a.ep+1/\b.op=aF)
 last:∀s,sv.getLast?=some s->s.ep=t
 nil:sv=[]->t=1
structure QC (g:Gh)(V:Nat->aU)(P:Nat->Option bS)(U:Nat->Bool)(Lt:bH->Prop)(pl:Pl)(sh:Nat->Int×Int)(sv:List jJ):Prop where
 m1:1<=g.m
 aco:∀k,1<=k->k<=g.m->g.own k<5
 adj:∀k,1<=k->k<g.m->g.own k≠g.own (k+1)
 dir:∃d:Nat,pl=⟨g.own d,d⟩/\1<=d/\(d=g.m\/d+1=g.m)
 ru:(V g.o).ep=g.m
 uy:(V g.o).Gs=g.G
 zS:(V g.o).Gq=1\/(V g.o).Gq=2\/(V g.o).Gq=3
 Ru:(V g.o).Gq≠1->pl.Mc=g.m/\(V g.o).tg≠g.o/\0<=(V g.o).tg/\(V g.o).tg<5
 gd:QJ g.G
 mK:∀n,n<5->n≠g.o->Oth g n (V n)
 ge:∀k,1<=k->k<=g.m->(k:Int)<=(V (g.own k)).ep
 brk:∀k,1<=k->k<g.m->g.G[g.len k]? =some aF/\g.len k<g.bd (k+1)
 mX:∀l,Lt l->Es g V pl l
 lu:∀n,n<5-> ∀p,P n=some p->U n=true/\Et g V n p
 LB:(g.t=g.m/\sh g.o=((g.m:Int),(g.F:Int))/\g.F<=g.G.length)\/(g.t+1=g.m/\(sh g.o).1<g.m/\U g.o=false/\g.F+1=g.G.length/\g.G[g.F]? =some aF)
 upF:U g.o=true->g.F=g.G.length
 slF:(V g.o).Gq=3->g.F=g.G.length
 sho:∀n,n<5->n≠g.o->(sh n).1<g.m
 rps:rp dV sv=some (av (g.G.take g.F)).1
 svs:Rt g.own g.t sv
section
variable {g:Gh}{V:Nat->aU}{P:Nat->Option bS}{U:Nat->Bool}{Lt:bH->Prop}{pl:Pl}{sh:Nat->Int×Int}{sv:List jJ}{n:Nat}{l:bH}{b:aU}
def QC.o5(I:QC g V P U Lt pl sh sv):g.o<5:=I.aco _ I.m1 (Nat.le_refl _)
def QC.Xk(I:QC g V P U Lt pl sh sv){k:Nat}(h:1<=k)(h1:k<=g.m):g.bd k<=g.G.length:=by
 unfold Gh.bd
 split
 ·exact Nat.le_refl _
 have:=(I.brk k h Y).1;exact Nat.le_of_lt (List.getElem?_eq_some_iff.1 this).1
def QC.MP(I:QC g V P U Lt pl sh sv){k:Nat}(h:1<=k)(h1:k<g.m):g.len k<g.G.length:=(List.getElem?_eq_some_iff.1 (I.brk k h h1).1).1
def QC.who(I:QC g V P U Lt pl sh sv)(hn:n<5)(h:Nl (V n)):n=g.o:=by
 by_cases e:n=g.o
 ·exact e
 have:=I.mK n hn e;unfold Nl at h
 rcases this with⟨h1,_⟩|⟨k,h1,_⟩|⟨k,h1,_⟩<;>omega
def Ee{α:Type}(f:Nat->α)(k:Nat)(v:α):Na f k v k=v:=if_pos E
def Kg{α:Type}{f:Nat->α}{k j:Nat}{v:α}(h:j≠k):Na f k v j=f j:=if_neg h
def aB{α:Type}{f:Nat->α}{k:Nat}{v:α}(h:f k=v):Na f k v=f:=by
 funext j
 unfold Na
 split
 ·rename_i e;rw[e,h]
 rfl
def QC.ze{Lt':bH->Prop}(I:QC g V P U Lt pl sh sv)(h:∀l,Lt' l->Lt l\/Es g V pl l):QC g V P U Lt' pl sh sv:=
 {I with mX:=λl J=>(h l J).elim (I.mX l) id}
def QC.aur{P':Nat->Option bS}(I:QC g V P U Lt pl sh sv)(h:∀n p,n<5->P' n=some p->P n=some p\/(U n=true/\Et g V n p)):QC g V P' U Lt pl sh sv:=
 {I with lu:=λn hn p J=>(h n p hn J).elim (I.lu n hn p) id}
def QC.down(I:QC g V P U Lt pl sh sv)(n:Nat):QC g V (Na P n none) (Na U n false) Lt pl sh sv:=
 {I with
  lu:=λk M p J=>by
   by_cases e:k=n
   ·subst e;rw[Ee]at J;cases J
   rw[Kg e]at J⊢;exact I.lu k M p J
  LB:=by
   rcases I.LB with h|⟨h1,O,Z,h4⟩
   ·exact .inl h
   refine .inr ⟨h1,O,?_,h4⟩;by_cases e:g.o=n
   ·rw[e,Ee]
   rw[Kg e];exact Z
  upF:=λh=>by
   by_cases e:g.o=n
   ·rw[e,Ee]at h;cases h
   rw[Kg e]at h;exact I.upF h}
def QC.up(I:QC g V P U Lt pl sh sv)(n:Nat)(h:n=g.o->g.t=g.m/\g.F=g.G.length):QC g V P (Na U n true) Lt pl sh sv:=
 {I with
  lu:=λk O p Z=>by
   obtain⟨h1,J⟩:=I.lu k O p Z;refine⟨?_,J⟩;by_cases e:k=n
   ·rw[e,Ee]
   rw[Kg e];exact h1
  LB:=by
   by_cases e:g.o=n
   ·obtain⟨h1,J⟩:=h e.symm
    rcases I.LB with h|⟨h3,_⟩
    ·exact .inl h
    omega
   rw[Kg e];exact I.LB
  upF:=λM=>by
   by_cases e:g.o=n
   ·exact(h e.symm).2
   rw[Kg e]at M;exact I.upF M}
def Et.mono{V':Nat->aU}{p:bS}(h:Et g V n p)(hv:V' n=V n)(I:(V g.o).Gq=3->(V' g.o).Gq=3/\(V' g.o).tg=(V g.o).tg):Et g V' n p:=by
 cases p with
 |serve q Gs op num a=>unfold Et at h⊢;rw[hv];exact h
 |Ns q b=>unfold Et at h⊢;rw[hv];exact h
 |QU q b last=>
  unfold Et at h⊢;rw[hv];refine⟨h.1,h.2.1,λJ=>?_⟩;obtain⟨h1,M,O,Z⟩:=h.2.2 J;obtain⟨h5,h6⟩:=I M;exact⟨h1,h5,h6.trans O,Z⟩
 |fG q b at_=>unfold Et at h⊢;rw[hv];exact h
 |Ni q b=>unfold Et at h⊢;rw[hv];exact h
def Es.mono{V':Nat->aU}(h:Es g V pl l)(I:(V g.o).Gq=3->(V' g.o).Gq=3/\(V' g.o).tg=(V g.o).tg):Es g V' pl l:=by
 obtain⟨h1,J,M⟩:=h;refine⟨h1,λO=>?_,M⟩;obtain⟨k,a,b,c,d,e,f,i,j⟩:=J O;refine⟨k,a,b,c,d,e,f,i,λZ=>?_⟩
 rcases j Z with j|⟨j1,j2,j3,j4⟩
 ·exact .inl j
 obtain⟨h5,h6⟩:=I j2;exact .inr ⟨j1,h5,h6.trans j3,j4⟩
def QC.Sq(I:QC g V P U Lt pl sh sv)(hn:n<5)(Nc:n≠g.o)(hp:P n=none)(hb:Oth g n b)(hge:(V n).ep<=b.ep):QC g (Na V n b) P U Lt pl sh sv:=by
 have J:Na V n b g.o=V g.o:=Kg (λe=>Nc e.symm);exact{I with
  ru:=by rw[J];exact I.ru
  uy:=by rw[J];exact I.uy
  zS:=by rw[J];exact I.zS
  Ru:=by rw[J];exact I.Ru
  slF:=by rw[J];exact I.slF
  mK:=λk O Z=>by
   by_cases e:k=n
   ·subst e;rw[Ee];exact hb
   rw[Kg e];exact I.mK k O Z
  ge:=λk h1 h2=>by
   have:=I.ge k h1 h2;by_cases e:g.own k=n
   ·rw[e]at this⊢;rw[Ee];omega
   rw[Kg e];exact this
  mX:=λl hl=>(I.mX l hl).mono λh=>by rw[J];exact⟨h,E⟩
  lu:=λk O p M=>by
   obtain⟨h1,h2⟩:=I.lu k O p M;refine⟨h1,h2.mono (Kg λe=>?_) λh=>by rw[J];exact⟨h,E⟩⟩;subst e;rw[hp]at M;cases M}
def QC.acp(I:QC g V P U Lt pl sh sv)(hp:∀p,P g.o=some p->Et g (Na V g.o b) g.o p)(h1:b.ep=g.m)(h2:b.Gs=g.G)(h3:b.Gq=1\/b.Gq=2\/b.Gq=3)(h4:b.Gq≠1->pl.Mc=g.m/\b.tg≠g.o/\0<=b.tg/\b.tg<5)
  (h5:(V g.o).Gq=3->b.Gq=3/\b.tg=(V g.o).tg) (h6:b.Gq=3->g.F=g.G.length):QC g (Na V g.o b) P U Lt pl sh sv:=by
 have J:Na V g.o b g.o=b:=Ee _ _ _;exact{I with
  ru:=by rw[J];exact h1
  uy:=by rw[J];exact h2
  zS:=by rw[J];exact h3
  Ru:=by rw[J];exact h4
  slF:=by rw[J];exact h6
  mK:=λk Z M=>by rw[Kg M];exact I.mK k Z M
  ge:=λk j1 j2=>by
   have:=I.ge k j1 j2;by_cases e:g.own k=g.o
   ·rw[e]at this⊢;rw[J,h1];rw[I.ru]at this;exact this
   rw[Kg e];exact this
  mX:=λl hl=>(I.mX l hl).mono λh=>by rw[J];exact h5 h
  lu:=λk Z p O=>by
   obtain⟨j1,j2⟩:=I.lu k Z p O;refine⟨j1,?_⟩;by_cases e:k=g.o
   ·subst e;exact hp p O
   exact j2.mono (Kg e) λh=>by rw[J];exact h5 h}
def qA{l x:List Ev}{k:Nat}(h:k<=l.length):(l++x).take k=l.take k:=take_append_of_le_length h
def DU{l x:List Ev}{a k:Nat}(h:a+k<=l.length):((l++x).drop a).take k=(l.drop a).take k:=by
 rw[drop_append_of_le_length Y,take_append_of_le_length (by rw[length_drop];omega)]
def Gh.app(g:Gh)(e:Ev):Gh:={g with G:=g.G++[e]}
def Gh.OM{g:Gh}{e:Ev}{k:Nat}(h:g.bd k<=g.G.length):g.bd k<=(g.app e).bd k:=by
 unfold Gh.bd Gh.app at*;dsimp only
 split
 ·rw[length_append];omega
 exact Nat.le_refl _
def QC.append{e:Ev}(I:QC g V P U Lt pl sh sv)(hp:P g.o=none)(hu:U g.o=false)(hr:(V g.o).Gq≠3)(ht:g.t=g.m)(hg:QJ (g.G++[e]))(hb:b.ep=(V g.o).ep)(hb1:b.Gq=(V g.o).Gq)(hb2:b.tg=(V g.o).tg)(hb3:b.Gs=g.G++[e]):
 QC (g.app e) (Na V g.o b) P U Lt pl sh sv:=by
 have ho:Na V g.o b g.o=b:=Ee _ _ _;have M:(g.app e).o=g.o:=rfl;have hle:=λk h1 J=>I.Xk (k:=k) h1 J;have hF:g.F<=g.G.length:=by rcases I.LB with⟨_,_,h⟩|⟨h,_⟩<;>omega
 refine⟨I.m1,I.aco,I.adj,I.dir,?_,?_,?_,?_,hg,?_,?_,?_,?_,?_,?_,?_,?_,I.sho,?_,I.svs⟩
 ·rw[M,ho,hb];exact I.ru
 ·rw[M,ho,hb3];rfl
 ·rw[M,ho,hb1];exact I.zS
 ·rw[M,ho,hb1,hb2];exact I.Ru
 ·intro n hn Nc;rw[M]at Nc;rw[Kg Nc]
  rcases I.mK n hn Nc with h|⟨k,h1,J,O,h4,h5,h6,h7⟩|⟨k,h1,J,O,h4,h5,h6,h7,h8⟩
  ·exact .inl h
  ·refine .inr (.inl ⟨k,h1,J,O,h4,h5,?_,h7⟩)
   show _=(g.G++[e]).take _
   have:=I.MP O h4;rw[h6];exact(qA (Nat.le_of_lt this)).symm
  refine .inr (.inr ⟨k,h1,J,O,h4,h5,?_,Nat.le_trans h7 (Gh.OM (hle k O h4)),h8⟩)
  show _=(g.G++[e]).take _
  have:=hle k O h4;rw[qA Y];exact h6
 ·intro k h1 J;have:=I.ge k h1 J;by_cases e:g.own k=g.o
  ·show(k:Int)<=(Na V g.o b (g.own k)).ep
   rw[e]at this⊢;rw[ho,hb];exact this
  show(k:Int)<=(Na V g.o b (g.own k)).ep
  rw[Kg e];exact this
 ·intro k h1 J;obtain⟨O,h4⟩:=I.brk k h1 J;refine⟨?_,Nat.lt_of_lt_of_le h4 (Gh.OM (hle (k+1) Y J))⟩
  show(g.G++[e])[g.len k]? =_
  rw[getElem?_append_left (I.MP h1 J)];exact O
 ·intro l hl;obtain⟨h1,J,O⟩:=I.mX l hl;refine⟨h1,λhk=>?_,O⟩;obtain⟨k,a,b',c,d,e',f,i,j⟩:=J hk;have hbd:=hle k b' c;refine⟨k,a,b',c,d,e',?_,Nat.le_trans i (Gh.OM hbd),λhlast=>?_⟩
  ·show _=((g.G++[e]).drop _).take _
   rw[DU Y];exact f
  rcases j hlast with j|⟨_,Z,_⟩
  ·exact .inl j
  exact absurd Z hr
 ·intro k hk p hk';obtain⟨j1,Z⟩:=I.lu k hk p hk';refine⟨j1,?_⟩;by_cases e':k=g.o
  ·subst e';rw[hp]at hk';cases hk'
  cases p with
  |serve q Gs op num a=>exact absurd Z.1 e'
  |Ns q b'=>unfold Et at Z⊢;rw[Kg e'];exact Z
  |QU q b' last=>
   unfold Et at Z⊢;rw[Kg e'];refine⟨Z.1,λhl=>?_,λhl=>?_⟩
   ·obtain⟨j,a1,a2,a3⟩:=Z.2.1 hl
    rcases I.mK k hk e' with h|⟨k',h,_⟩|⟨k',h,h1,J,O,_⟩
    ·omega
    ·omega
    have hj:=a3 k' h1;have hbd:=hle k' J O;refine⟨j,?_,a2,λk2 hk2=>?_⟩
    ·show _={V k with Gs:=(g.G++[e]).take j}
     rw[qA Y];exact a1
    have:k2=k':=Y;subst this;exact Nat.le_trans hj (Gh.OM hbd)
   exact absurd (Z.2.2 hl).2.1 hr
  |fG q b' at_=>exact absurd Z.1 e'
  |Ni q b'=>unfold Et at Z⊢;rw[Kg e'];exact Z
 ·rcases I.LB with⟨h1,J,O⟩|⟨h1,_⟩
  ·exact .inl ⟨h1,J,by show g.F<=(g.G++[e]).length;rw[length_append];omega⟩
  omega
 ·intro h;rw[M,hu]at h;cases h
 ·intro h;rw[M,ho,hb1]at h;exact absurd h hr
 show rp dV sv=some (av ((g.G++[e]).take g.F)).1
 rw[qA hF];exact I.rps
def Rt.app{own:Nat->Nat}{t:Nat}(Z:1<=t):∀ {sv2 sv:List jJ},Rt own t sv->(∀s∈sv2,s.ep=t/\s.nd=own t)->Rt own t (sv++sv2)
 |[],sv,h,_=>by rw[append_nil];exact h
 |s::r,sv,h,h2=>by
  have hs:=h2 s iQ;have h1:Rt own t (sv++[s]):=by
   refine⟨λx I=>?_,λi a b M J=>?_,λx I=>?_,λhn=>by simp at hn⟩
   ·rcases mem_append.1 I with I|I
    ·exact h.each x I
    rw[mem_singleton]at I;subst I;exact⟨t,hs.1,Z,Nat.le_refl _,hs.2⟩
   ·by_cases hi:i+1<sv.length
    ·rw[getElem?_append_left Y]at M;rw[getElem?_append_left hi]at J;exact h.two i a b M J
    have O:i+1< (sv++[s]).length:=(List.getElem?_eq_some_iff.1 J).1;rw[length_append,length_singleton]at O;rw[getElem?_append_left Y]at M;rw[getElem?_append_right Y,show i+1-sv.length=0 by omega]at J
    cases J;refine .inl ?_;rw[hs.1];refine(h.last a ?_).symm;rw[getLast?_eq_getElem?,show sv.length-1=i by omega];exact M
   rw[getLast?_concat]at I
   cases I;exact hs.1
  have:=Rt.app Z (sv2:=r) h1 λx I=>h2 x (by simp[I]);rwa [append_assoc]at this
def Rt.brk{own:Nat->Nat}{t:Nat}{s:jJ}(h:Rt own t sv)(fO:s.ep=(t:Int)+1)(hnd:s.nd=own (t+1))(O:s.op=aF):Rt own (t+1) (sv++[s]):=by
 refine⟨λx I=>?_,λi a b M J=>?_,λx I=>?_,λhn=>by simp at hn⟩
 ·rcases mem_append.1 I with I|I
  ·obtain⟨k,a,b,c,d⟩:=h.each x I;exact⟨k,a,b,by omega,d⟩
  rw[mem_singleton]at I;subst I;exact⟨t+1,by rw[fO];rfl,by omega,Nat.le_refl _,hnd⟩
 ·by_cases hi:i+1<sv.length
  ·rw[getElem?_append_left Y]at M;rw[getElem?_append_left hi]at J;exact h.two i a b M J
  have Z:i+1< (sv++[s]).length:=(List.getElem?_eq_some_iff.1 J).1;rw[length_append,length_singleton]at Z;rw[getElem?_append_left Y]at M;rw[getElem?_append_right Y,show i+1-sv.length=0 by omega]at J
  cases J;refine .inr ⟨?_,O⟩;rw[fO,h.last a (by rw[getLast?_eq_getElem?,show sv.length-1=i by omega];exact M)]
 rw[getLast?_concat]at I
 cases I;rw[fO];rfl
def Rt.own{own I:Nat->Nat}{t:Nat}(h:Rt own t sv)(he:∀k,k<=t->I k=own k):Rt I t sv:=
 ⟨λs hs=>by obtain⟨k,a,b,c,d⟩:=h.each s hs;exact⟨k,a,b,c,by rw[he k c];exact d⟩,h.two,h.last,h.nil⟩
def Gh.all(g:Gh):Gh:={g with F:=g.G.length,t:=g.m}
def QC.told(I:QC g V P U Lt pl sh sv)(M:g.t=g.m){sv2:List jJ}(J:rp dV (sv++sv2)=some (av g.G).1)(he:∀s∈sv2,s.ep=g.m/\s.nd=g.o):QC g.all V P U Lt pl (Na sh g.o ((g.m:Int),(g.G.length:Int))) (sv++sv2):=
 {I with
  LB:=.inl ⟨E,Ee _ _ _,Nat.le_refl _⟩
  upF:=λ_=>E
  slF:=λ_=>E
  sho:=λn hn Nc=>by
   have:n≠g.o:=Nc;rw[Kg this];exact I.sho n hn Nc
  rps:=by show rp _ _=some (av (g.G.take g.G.length)).1;rw[take_length];exact J
  svs:=by
   have h:=I.svs;rw[M]at h;exact Rt.app I.m1 h he}
def QC.Z4(I:QC g V P U Lt pl sh sv)(Z:¬g.t=g.m){s:jJ}(J:s.op=aF)(ha:s.Rf=eU)(fO:s.ep=g.m)(hnd:s.nd=g.o):QC g.all V P U Lt pl (Na sh g.o ((g.m:Int),(g.G.length:Int))) (sv++[s]):=by
 rcases I.LB with⟨h,_⟩|⟨h1,h2,h3,h4,h5⟩
 ·exact absurd h Z
 have O:g.F<g.G.length:=Y;have e:g.G=g.G.take g.F++[aF]:=by
  have:=nY O;rw[h4,take_length]at this;have h6:g.G[g.F]=aF:=by
   have:=getElem?_eq_getElem O;rw[h5]at this;exact(Option.some.inj this).symm
  rw[h6]at this;exact this
 have M:=I.gd;rw[e]at M;obtain⟨s1,s2,s3⟩:=Ra M;exact{I with
  LB:=.inl ⟨E,Ee _ _ _,Nat.le_refl _⟩
  upF:=λ_=>E
  slF:=λ_=>E
  sho:=λn hn Nc=>by
   have:n≠g.o:=Nc;rw[Kg this];exact I.sho n hn Nc
  rps:=by
   show rp _ _=some (av (g.G.take g.G.length)).1
   rw[take_length,Er I.rps (by rw[J];exact s1) (by rw[J,ha];exact ae7 s2),J,e,s3,<-e]
  svs:=by
   have h:=I.svs.brk (s:=s) (by rw[fO,<-h1];rfl) (by rw[hnd,h1];rfl) J;rw[h1]at h;exact h}
def QC.awE(I:QC g V P U Lt pl sh sv){p':Pl}(h:p'=⟨g.own g.m,g.m⟩):QC g V P U Lt p' sh sv:=by
 subst h;exact{I with
  dir:=⟨g.m,E,I.m1,.inl E⟩
  Ru:=λJ=>⟨E,(I.Ru J).2⟩
  mX:=λl M=>by
   obtain⟨h1,O,Z,h4⟩:=I.mX l M;refine⟨h1,O,Z,λhk=>?_⟩;obtain⟨k,a,b,c,d⟩:=h4 hk;refine⟨k,a,b,?_,d⟩;obtain⟨d',hd,_,hd2⟩:=I.dir;rw[hd]at c;dsimp only at c⊢;omega}
def Gh.QT(g:Gh)(T:Nat):Gh:={g with m:=g.m+1,own:=Na g.own (g.m+1) T,len:=Na g.len g.m g.G.length,G:=g.G++[aF]}
def QC.activate{T:Nat}(I:QC g V P U Lt pl sh sv)(hr:(V g.o).Gq=3)(AU:(V g.o).tg=T)(hp:P T=none)(hu:U T=false)(hg:QJ (g.G++[aF]))(hge:(V T).ep<=(g.m:Int)+1):
 QC (g.QT T) (Na V T ⟨1,(g.m:Int)+1,0,0,0,g.G++[aF]⟩) P U Lt pl sh sv:=by
 obtain⟨ha1,ha2,ha3,ha4⟩:=I.Ru Y;rw[AU]at ha2 ha4;have hT5:T<5:=Y;have hTo:T≠g.o:=Y;have hF:=I.slF hr;have htm:g.t=g.m/\sh g.o=((g.m:Int),(g.F:Int)):=by
  rcases I.LB with h|⟨_,_,_,h,_⟩
  ·exact⟨h.1,h.2.1⟩
  omega
 have Nc:(g.QT T).o=T:=Ee _ _ _;have J:∀k,k<=g.m->(g.QT T).own k=g.own k:=λk hk=>Kg Y;have M:(g.QT T).own (g.m+1)=T:=Ee _ _ _;have O:(g.QT T).m=g.m+1:=rfl;have hG:(g.QT T).G=g.G++[aF]:=rfl;have hlen:∀k,k<g.m->(g.QT T).len k=g.len k:=λk hk=>Kg Y;have hbd:∀k,k<=g.m->(g.QT T).bd k=g.bd k:=λk hk=>by
  unfold Gh.bd;rw[if_neg (by rw[O];omega)];by_cases e:k=g.m
  ·rw[if_pos e];subst e;exact Ee _ _ _
  rw[if_neg e];exact hlen k Y
 have hvT:Na V T (⟨1,(g.m:Int)+1,0,0,0,g.G++[aF]⟩:aU) (g.QT T).o=⟨1,(g.m:Int)+1,0,0,0,g.G++[aF]⟩:=by rw[Nc];exact Ee _ _ _
 have hle:=λk h1 Z=>I.Xk (k:=k) h1 Z;refine⟨by rw[O];omega,?_,?_,?_,by rw[hvT,O];rfl,by rw[hvT,hG],by rw[hvT];exact .inl E,λh=>by rw[hvT]at h;exact absurd E h,by rw[hG];exact hg,?_,?_,?_,?_,?_,?_,?_,λh=>by rw[hvT]at h;exact absurd h iQ,?_,?_,?_⟩
 ·intro k h1 Z;rw[O]at Z;by_cases e:k=g.m+1
  ·rw[e,M];exact hT5
  rw[J k Y];exact I.aco k h1 Y
 ·intro k h1 Z;rw[O]at Z;by_cases e:k=g.m
  ·rw[J k Y,e,M];exact λh=>hTo h.symm
  rw[J k Y,J (k+1) Y];exact I.adj k h1 Y
 ·obtain⟨d,h1,Z,h3⟩:=I.dir;have:d=g.m:=by rw[h1]at ha1;dsimp only at ha1;omega
  refine⟨d,?_,Z,.inr (by rw[O,this])⟩;rw[h1,J d Y]
 ·intro n hn hn2;rw[Nc]at hn2;rw[Kg hn2];by_cases e:n=g.o
  ·subst e;refine .inr (.inl ⟨g.m,hr,I.ru,I.m1,by rw[O];omega,J _ (Nat.le_refl _),?_,?_⟩)
   ·rw[hG,show(g.QT T).len g.m=g.G.length from Ee _ _ _,take_left];exact I.uy
   rw[M];exact AU
  rcases I.mK n hn e with h|⟨k,h1,Z,h3,h4,h5,h6,h7⟩|⟨k,h1,Z,h3,h4,h5,h6,h7,h8⟩
  ·exact .inl ⟨h.1,h.2.1,by rw[O];have:=h.2.2;omega⟩
  ·refine .inr (.inl ⟨k,h1,Z,h3,by rw[O];omega,by rw[J k Y];exact h5,?_,by rw[J (k+1) Y];exact h7⟩);rw[hlen k h4,hG,qA (Nat.le_of_lt (I.MP h3 h4))];exact h6
  refine .inr (.inr ⟨k,h1,Z,h3,by rw[O];omega,by rw[J k h4];exact h5,?_,by rw[hbd k h4];exact h7,λhk=>?_⟩)
  ·have:=hle k h3 h4;rw[hG,qA Y];exact h6
  by_cases e2:k=g.m
  ·rw[e2,M];exact λh=>hn2 h.symm
  rw[J (k+1) Y];exact h8 Y
 ·intro k h1 Z;rw[O]at Z;by_cases e:k=g.m+1
  ·rw[e,M,Ee];dsimp only;omega
  rw[J k Y];have:=I.ge k h1 Y;by_cases e2:g.own k=T
  ·rw[e2,Ee];dsimp only;omega
  rw[Kg e2];exact this
 ·intro k h1 Z;rw[O]at Z;by_cases e:k=g.m
  ·subst e;rw[show(g.QT T).len g.m=g.G.length from Ee _ _ _,hG];refine⟨by rw[getElem?_append_right (Nat.le_refl _),Nat.sub_self];rfl,?_⟩;unfold Gh.bd;rw[if_pos O.symm,hG,length_append];exact lt_succ_self _
  obtain⟨h3,h4⟩:=I.brk k h1 Y;rw[hlen k Y,hbd (k+1) Y,hG,getElem?_append_left (I.MP h1 Y)];exact⟨h3,h4⟩
 ·intro l hl;obtain⟨h1,Z,h3,h4⟩:=I.mX l hl;refine⟨λhk=>?_,λhk=>?_,λhk hd=>?_,λhk=>?_⟩
  ·obtain⟨k,a,b,c,d⟩:=h1 hk;exact⟨k,a,b,by rw[O];omega,by rw[J k c];exact d⟩
  ·obtain⟨k,a,b,c,d,e,f,i,j⟩:=Z hk;have:=hle k b c;refine⟨k,a,b,by rw[O];omega,by rw[J k c];exact d,e,by rw[hG,DU Y];exact f,by rw[hbd k c];exact i,λhlast=>.inl ?_⟩
   rcases j hlast with⟨j1,j2⟩|⟨j1,j2,j3,j4⟩
   ·exact⟨by rw[O];omega,by rw[J (k+1) Y];exact j2⟩
   subst j1;exact⟨by rw[O];omega,by rw[M,<-AU];exact j3⟩
  ·obtain⟨k,a,b,c,d⟩:=h3 hk hd;exact⟨k,a,b,by rw[O];omega,by rw[J (k+1) Y];exact d⟩
  obtain⟨k,a,b,c,d⟩:=h4 hk;exact⟨k,a,b,c,by rw[J k Y];exact d⟩
 ·intro n hn p hp';have hnT:n≠T:=λe=>by subst e;rw[hp]at hp';cases hp'
  obtain⟨j1,j2⟩:=I.lu n hn p hp';refine⟨j1,?_⟩
  cases p with
  |serve q Gs op num a=>
   obtain⟨k1,k2,_⟩:=j2;subst k1;unfold Nl at k2;omega
  |Ns q b=>
   unfold Et at j2⊢;obtain⟨k,k1,k2,k3,k4⟩:=j2;rw[Kg hnT];exact⟨k,by rw[J k k3];exact k1,k2,by rw[O];omega,k4⟩
  |QU q b last=>
   unfold Et at j2⊢;rw[Kg hnT];refine⟨j2.1,λhl=>?_,λhl=>?_⟩
   ·obtain⟨j,a1,a2,a3⟩:=j2.2.1 hl
    rcases I.mK n hn (λe=>by subst e;omega)with h|⟨k',h,_⟩|⟨k',h,h1,Z,h3,_⟩
    ·omega
    ·omega
    have hj:=a3 k' h1;have:=hle k' Z h3;refine⟨j,by rw[hG,qA Y];exact a1,a2,λk2 hk2=>?_⟩;have:k2=k':=Y;subst this;rw[hbd k2 h3];exact hj
   have:=(j2.2.2 hl).2.2.1;omega
  |fG q b at_=>
   obtain⟨k1,k2,_⟩:=j2;subst k1;omega
  |Ni q b=>
   unfold Et at j2⊢;rw[Kg hnT];exact⟨j2.1,j2.2.1,by rw[O];have:=j2.2.2;omega⟩
 ·refine .inr ⟨by show g.t+1=g.m+1;omega,?_,?_,?_,?_⟩
  ·rw[Nc,O];have:=I.sho T hT5 hTo;omega
  ·rw[Nc];exact hu
  ·show g.F+1=(g.G++[aF]).length;rw[length_append,hF];rfl
  show(g.G++[aF])[g.F]? =_
  rw[hF,getElem?_append_right (Nat.le_refl _),Nat.sub_self];rfl
 ·intro h;rw[Nc,hu]at h;cases h
 ·intro n hn hn2;rw[Nc]at hn2;rw[O];by_cases e:n=g.o
  ·subst e;rw[htm.2];dsimp only;omega
  have:=I.sho n hn e;omega
 ·show rp dV sv=some (av ((g.G++[aF]).take g.F)).1
  rw[qA Y];exact I.rps
 exact I.svs.own λk hk=>J k (by show k<=g.m;have:k<=g.t:=hk;omega)
end
def jq(b:aU):aU:=if b.Gq=2 then⟨1,b.ep,0,0,0,b.Gs⟩else b
def vB(f:Nat->aU):List aU:=[f 0,f 1,f 2,f 3]
section
variable {f:Nat->aU}{q:Nat}{b:aU}{rs:List cO}{r:cO}
def afb(I:q<4):Jg (vB f) (q:Int)=f q:=by
 have h:q=0\/q=1\/q=2\/q=3:=Y
 rcases h with rfl|rfl|rfl|rfl<;>rfl
def V9(I:q<4):(vB f).set q b=vB (Na f q b):=by
 have h:q=0\/q=1\/q=2\/q=3:=Y
 rcases h with rfl|rfl|rfl|rfl<;>rfl
def AV{f':Nat->aU}(h:∀q,q<4->f q=f' q):vB f=vB f':=by unfold vB;rw[h 0 Y,h 1 Y,h 2 Y,h 3 Y]
def iN(rs:List cO)(f:Nat->aU):Prop:=(∀r∈rs,aH r=0)/\(allM rs).1=some (vB f)
def LD:∀(a:List cO) (i:Nat) (T T':List aU),(oq a i T).1=some T'->oq (a++[r]) i T=oq [r] (i+a.length) T'
 |[],i,T,T',h=>by
  rw[oq]at h
  cases h;rfl
 |x::a,i,T,T',h=>by
  rw[cons_append,oq];rw[oq]at h
  split at h
  ·cases h
  rename_i h1
  rw[if_neg h1]
  split at h
  ·cases h
  rename_i I
  rw[if_neg I,LD a (i+1) _ T' h,length_cons,show i+1+a.length=i+(a.length+1) by omega]
def iN.nil:iN [] λ_=>bF:=⟨λr h=>by simp at h,E⟩
def iN.snoc(h:iN rs f)(M:aH r=0)(O:q<4)(J:r.Nt=q)(Z:eF (f q) r=(b,0)):iN (rs++[r]) (Na f q b):=by
 refine⟨λx I=>?_,?_⟩
 ·rcases mem_append.1 I with I|I
  ·exact h.1 x I
  rw[mem_singleton]at I;subst I;exact M
 have h2:=h.2;unfold allM at h2⊢;rw[LD _ _ _ _ h2,oq,J,afb O,if_neg (by simpa using M),if_neg (by rw[Z];simp),Z,show((q:Int)).toNat=q from E,V9 O,oq]
def iN.congr{f':Nat->aU}(h:iN rs f)(he:∀q,q<4->f q=f' q):iN rs f':=⟨h.1,by rw[h.2,AV he]⟩
def iN.read{t data:List UInt8}{MC:Int}(h:iN rs f)(M:data=bK rs++t)(Z:(Nb t).2=0)(hz:data.length<=100000)(h0:0<=MC)(h1:MC<=data.length):
 jC data MC=(bK rs,min MC (bK rs).length,0)/\Dn data MC=some (vB f)/\ ∀q,q<4->bD data MC q=f q:=by
 have hm:dx data MC=true:=by simp[dx];omega
 have O:bT data=(rs,(bK rs).length):=by rw[M];exact yY h.1 Z
 have I:jC data MC=(bK rs,min MC (bK rs).length,0):=by
  unfold jC;rw[if_pos hm,O,M,take_left]
 have hl:(bK rs).length<=data.length:=by rw[M,length_append];omega
 have J:Dn data MC=some (vB f):=by
  unfold Dn;rw[I];unfold uP;rw[if_pos (by simp[dx];omega)];have:=yY (t:=[]) h.1 x9;rw[append_nil]at this;dsimp only;rw[this];exact h.2
 refine⟨I,J,λq hq=>?_⟩;unfold bD;rw[J];exact afb hq
def eO(h:au b=0):bq b:=(eT h).1
def jD(h:au b=0):QJ b.Gs:=(eT h).2
def nI(h:bq b)(I:b.Gq≠0)(l:List Ev):bq ⟨b.Gq,b.ep,b.fr,b.tg,b.rd,l⟩:=h.elim (λh=>absurd h.1 I) .inr
def uR{ep:Int}(h:1<=ep)(h1:ep<=1048576)(l:List Ev):bq ⟨1,ep,0,0,0,l⟩:=.inr ⟨h,h1,.inl ⟨E,E,E,E⟩⟩
def oI{k ep pe:Int}{e:Ev}(J:1<=k/\k<=7)(M:q<4)(fO:0<=ep/\ep<=1048576)(I:0<=pe/\pe<=4)(he:if kR k=true then aZ e=0 else e=aI):aH (fH k q ep pe e)=0:=by
 unfold aH fH;dsimp only;rw[if_neg (by simp[kL];omega),if_neg (by simp[kL];omega)];by_cases h:kR k=true
 ·rw[if_pos h]at he⊢;exact he
 rw[if_neg h]at he⊢;rw[if_pos he]
def Qf(h:au b=0)(M:b.Gq=0)(he:b.ep<1)(O:q<4):iX b 1=(⟨1,1,0,0,0,[]⟩,0)/\eF b (fH 1 q 1 0 aI)=(⟨1,1,0,0,0,[]⟩,0):=by
 have I:iX b 1=(⟨1,1,0,0,0,[]⟩,0):=by unfold iX;rw[if_neg (by simp[h]),if_neg Y,if_neg (by simp[M]),if_neg Y]
 have J:kP b (fH 1 q 1 0 aI)=(⟨1,1,0,0,0,[]⟩,0):=by unfold kP fH;simpa using I
 exact⟨I,by rw[kG h (oI Y O Y Y dQ) (by simp[fH];omega) (by rw[J]),J]⟩
def Tz{e:Ev}{ep:Int}(J:au b=0)(Z:b.Gq=1)(fO:b.ep=ep)(hq:q<4)(he:aZ e=0)(hg:QJ (b.Gs++[e])):eF b (fH 2 q ep 0 e)=({b with Gs:=b.Gs++[e]},0)/\aH (fH 2 q ep 0 e)=0:=by
 subst fO;have hs:=eO J;unfold bq at hs;have I:aH (fH 2 q b.ep 0 e)=0:=oI Y hq Y Y (by simpa[kR]using he);have M:au ⟨b.Gq,b.ep,b.fr,b.tg,b.rd,b.Gs++[e]⟩=0:=lS (nI (eO J) Y _) hg;have O:kP b (fH 2 q b.ep 0 e)=({b with Gs:=b.Gs++[e]},0):=by
  have h1:=aeY (b:=b) (qu:=q) (e:=b.ep) (pe:=0) (x:=e);rw[if_neg (λh=>h ⟨Z,E⟩)]at h1;unfold Dj at h1;rw[if_neg (λh=>h M)]at h1;exact h1
 exact⟨by rw[kG J I (by simp[fH];omega) (by rw[O]),O],I⟩
def acs{e:Ev}{ep:Int}(M:au b=0)(Z:b.Gq=4)(fO:b.ep=ep)(hq:q<4)(he:aZ e=0)(hg:QJ (b.Gs++[e])):eF b (fH 5 q ep 0 e)=({b with Gs:=b.Gs++[e]},0)/\aH (fH 5 q ep 0 e)=0/\au {b with Gs:=b.Gs++[e]}=0:=by
 subst fO;have hs:=eO M;unfold bq at hs;have I:aH (fH 5 q b.ep 0 e)=0:=oI Y hq Y Y (by simpa[kR]using he);have J:au ⟨b.Gq,b.ep,b.fr,b.tg,b.rd,b.Gs++[e]⟩=0:=lS (nI (eO M) Y _) hg;have O:kP b (fH 5 q b.ep 0 e)=({b with Gs:=b.Gs++[e]},0):=by
  have h1:=aeZ (b:=b) (qu:=q) (e:=b.ep) (pe:=0) (x:=e);rw[if_neg (λh=>h ⟨Z,E⟩)]at h1;unfold Dj at h1;rw[if_neg (λh=>h J)]at h1;exact h1
 exact⟨by rw[kG M I (by simp[fH];omega) (by rw[O]),O],I,J⟩
def ald{ep tg:Int}(I:au b=0)(M:b.Gq=1)(fO:b.ep=ep)(O:q<4)(ht:0<=tg/\tg<=4):eF b (fH 3 q ep tg aI)=(⟨3,b.ep,0,tg,0,b.Gs⟩,0)/\aH (fH 3 q ep tg aI)=0:=by
 subst fO;have hs:=eO I;unfold bq at hs;have h:aH (fH 3 q b.ep tg aI)=0:=oI Y O Y Y dQ;have J:kP b (fH 3 q b.ep tg aI)=(⟨3,b.ep,0,tg,0,b.Gs⟩,0):=by
  unfold kP fH Xd;have h1:b.fr=0:=Y;have Z:b.rd=0:=Y;simp[M,h1,Z]
 exact⟨by rw[kG I h (by simp[fH];omega) (by rw[J]),J],h⟩
def ag2{ep fr:Int}(I:au b=0)(O:b.Gq=0\/b.Gq=4)(fO:b.ep<ep)(h1:1<=ep/\ep<=1048576)(M:q<4)(Z:0<=fr/\fr<=4):eF b (fH 4 q ep fr aI)=(⟨4,ep,fr,0,0,[]⟩,0)/\aH (fH 4 q ep fr aI)=0:=by
 have h:aH (fH 4 q ep fr aI)=0:=oI Y M Y Y dQ;have J:kP b (fH 4 q ep fr aI)=(⟨4,ep,fr,0,0,[]⟩,0):=by
  unfold kP fH dw;rw[if_neg iQ,if_pos E];dsimp only;rw[if_neg (by simp[I]),if_neg Y,if_neg Y,if_neg Y,if_neg Y]
 exact⟨by rw[kG I h (by simp[fH];omega) (by rw[J]),J],h⟩
def arw{ep:Int}(I:au b=0)(M:b.Gq=4)(fO:b.ep=ep)(Z:q<4)(hg:QJ (b.Gs++[aF])):eF b (fH 6 q ep 0 aI)=(⟨1,b.ep,0,0,0,b.Gs++[aF]⟩,0)/\aH (fH 6 q ep 0 aI)=0:=by
 subst fO;have hs:=eO I;unfold bq at hs;have h:aH (fH 6 q b.ep 0 aI)=0:=oI Y Z Y Y dQ;have J:au ⟨1,b.ep,0,0,0,b.Gs++[aF]⟩=0:=lS (uR Y Y _) hg;have hi:cK b b.ep b.Gs.length [] true=(⟨1,b.ep,0,0,0,b.Gs++[aF]⟩,0):=by
  unfold cK;rw[if_neg (by simp[I]),if_neg (by simp[M]),if_neg iQ,if_neg Y,if_neg iQ,if_neg iQ];simp only[if_pos,drop_nil,append_nil];rw[if_neg (by simpa using J)]
 have O:kP b (fH 6 q b.ep 0 aI)=(⟨1,b.ep,0,0,0,b.Gs++[aF]⟩,0):=by
  unfold kP fH;simp[M,hi]
 exact⟨by rw[kG I h (by simp[fH];omega) (by rw[O]),O],h⟩
def acu{ep:Int}(I:au b=0)(M:b.Gq=3)(fO:b.ep=ep)(O:q<4):eF b (fH 7 q ep 0 aI)=(⟨0,b.ep,0,0,0,[]⟩,0)/\aH (fH 7 q ep 0 aI)=0:=by
 subst fO;have hs:=eO I;unfold bq at hs;have h:aH (fH 7 q b.ep 0 aI)=0:=oI Y O Y Y dQ;have J:kP b (fH 7 q b.ep 0 aI)=(⟨0,b.ep,0,0,0,[]⟩,0):=by
  unfold kP fH fT;simp[M,I];omega
 exact⟨by rw[kG I h (by simp[fH];omega) (by rw[J]),J],h⟩
def uS(h:au b=0):au (jq b)=0:=by
 unfold jq
 split
 ·rename_i I
  have hs:=eO h;unfold bq at hs;exact lS (uR Y Y _) (jD (b:=b) h)
 exact h
def Wh:(jq b).ep=b.ep:=by unfold jq;split<;>rfl
def ale:(jq b).Gs=b.Gs:=by unfold jq;split<;>rfl
def KA:(jq b).Gq≠2:=by unfold jq;split<;>first|assumption|simp
def kI(h:b.Gq≠2):jq b=b:=if_neg h
def zf(h:Nl b)(I:au b=0):jq b=⟨1,b.ep,0,0,0,b.Gs⟩:=by
 unfold jq
 split
 ·rfl
 have hs:=eO I;unfold bq at hs;unfold Nl at h;obtain⟨ro,ep,fr,tg,rd,Gs⟩:=b;dsimp only at*;simp only[aU.mk.injEq,and_true,true_and];omega
end
def bS.q:bS->Nat
 | .serve q .. =>q
 | .Ns q _=>q
 | .QU q .. =>q
 | .fG q .. =>q
 | .Ni q _=>q
def bS.b(bs:Nat->aU):bS->aU
 | .serve q Gs _ _ _=>{bs q with Gs:=Gs}
 | .Ns _ b=>b
 | .QU _ b _=>b
 | .fG _ b _=>b
 | .Ni _ b=>b
def bS.rs(bs:Nat->aU):bS->List cO
 | .serve q _ op _ _=>[fH 2 q (bs q).ep 0 op]
 | .Ns q b=>[fH 4 q b.ep b.fr aI]
 | .QU q b last=>qb q b (bs q).Gs.length (b.Gs.length-if last=true then 1 else 0) last
 | .fG q b _=>[fH 3 q b.ep b.tg aI]
 | .Ni q _=>[fH 7 q (bs q).ep 0 aI]
def bS.ok(bs:Nat->aU):bS->Prop
 | .serve q Gs op _ _=>Nl (bs q)/\Gs=(bs q).Gs++[op]/\aZ op=0/\QJ Gs
 | .Ns q b=>((bs q).Gq=0\/(bs q).Gq=4)/\ ∃e f,b=⟨4,e,f,0,0,[]⟩/\(bs q).ep<e/\1<=e/\e<=1048576/\0<=f/\f<=4
 | .QU q b last=>(bs q).Gq=4/\QJ b.Gs/\(∀e∈b.Gs,aZ e=0)/\(last=false->b={bs q with Gs:=b.Gs}/\(bs q).Gs=b.Gs.take (bs q).Gs.length)/\
   (last=true-> ∃es,b=⟨1,(bs q).ep,0,0,0,es++[aF]⟩/\(bs q).Gs=es.take (bs q).Gs.length)
 | .fG q b _=>(bs q).Gq=2/\b={bs q with Gq:=3,rd:=0}
 | .Ni q b=>(bs q).Gq=3/\b=⟨0,(bs q).ep,0,0,0,[]⟩
def bH.ok(l:bH):Prop:=l.q<4/\l.Gs.length<=2000/\(l.kd=0\/l.kd=2\/l.kd=3\/l.kd=4\/l.kd=6)
def BM{b:aU}{hv:Int}(h:au b=0)(M:(bG b hv).2=0):au (bG b hv).1=0:=by
 have O:=eT h;have hs:=O.1;unfold bq at hs;unfold bG at M⊢;rw[if_neg (λe=>e h)]at M⊢;by_cases c1:b.Gq≠2/\b.Gq≠3
 ·rw[if_pos c1]at M;exact absurd M dQ
 rw[if_neg c1]at M⊢;by_cases c2:¬(0<=hv/\hv<=b.Gs.length)
 ·rw[if_pos c2]at M;exact absurd M dQ
 rw[if_neg c2]at M⊢;by_cases c3:b.Gq=3
 ·rw[if_pos c3];exact h
 rw[if_neg c3];have I:∀r d,bq ⟨r,b.ep,b.fr,b.tg,d,b.Gs⟩->au ⟨r,b.ep,b.fr,b.tg,d,b.Gs⟩=0:=λr d h=>lS h O.2;by_cases Z:hv=b.Gs.length\/b.rd=4
 ·rw[if_pos Z];refine I 3 0 ?_;clear M I h O;unfold bq;dsimp only;omega
 rw[if_neg Z];have hr:b.Gq=2:=by clear M I h O c2 Z;omega
 have hd:¬b.rd=4:=λe=>Z (.inr e);rw[hr]at hs;have J:1<=b.ep/\b.ep<=1048576/\b.fr=0/\0<=b.tg/\b.tg<5/\0<=b.rd/\b.rd<=4:=by clear M I h O c1 c2 c3 Z;omega
 refine I b.Gq (b.rd+1) (.inr ⟨J.1,J.2.1,.inr (.inl ⟨hr,J.2.2.1,J.2.2.2.1,J.2.2.2.2.1,?_,?_⟩)⟩)
 ·show 0<=b.rd+1
  have:=J.2.2.2.2.2;clear M I h O c1 c2 c3 Z hs;omega
 show b.rd+1<=4
 have:=J.2.2.2.2.2;clear M I h O c1 c2 c3 Z hs;omega
structure Ap (m m':Cl)(n:Nat):Prop where
 mK:∀j,j≠n->m'.ah j=m.ah j
 up:(m'.ah n).up=(m.ah n).up
 iP:(m'.ah n).Md=(m.ah n).Md
 FZ:(m'.ah n).turn=(m.ah n).turn
 lg:(∀q,q<4->au ((m.ah n).bs q)=0)-> ∀q,q<4->au ((m'.ah n).bs q)=0
 Ms:m'.Ms.length<=m.Ms.length+1
 aP:m'.aP.length<=m.aP.length+1
section
variable {m m':Cl}{n:Nat}{l:bH}
def AX(h:m'.ah=m.ah)(h1:m'.Ms.length<=m.Ms.length+1)(I:m'.aP.length<=m.aP.length+1):Ap m m' n:=
 ⟨λj _=>by rw[h],by rw[h],by rw[h],by rw[h],λJ=>by rw[h];exact J,h1,I⟩
def qB:Ap m m n:=AX E (le_succ _) (le_succ _)
def Eu{X:Nd}(h:m'.ah=Na m.ah n X)(I:X.up=(m.ah n).up)(J:X.Md=(m.ah n).Md)(M:X.turn=(m.ah n).turn)(O:(∀q,q<4->au ((m.ah n).bs q)=0)-> ∀q,q<4->au (X.bs q)=0)(h1:m'.Ms.length<=m.Ms.length+1)(Z:m'.aP.length<=m.aP.length+1):Ap m m' n:=by
 have e:m'.ah n=X:=by rw[h];exact if_pos E
 exact⟨λj hj=>by rw[h];exact if_neg hj,by rw[e,I],by rw[e,J],by rw[e,M],λhb=>by rw[e];exact O hb,h1,Z⟩
def TA{q:Nat}{op:Ev}{num:Int}{a:iW}:Ap m (m.done n q op num a) n:=by
 unfold Cl.done
 split
 ·exact AX E (by simp[Cl.send,Cl.QL]) (by simp[Cl.send,Cl.QL])
 exact AX E (by simp[Cl.send]) (by simp[Cl.send])
def TD{q:Nat}:Ap m (m.QM n q) n:=AX E (by simp[Cl.QM,Cl.send]) (by simp[Cl.QM,Cl.send])
def ag3{q:Nat}{a:Int}:Ap m (m.part n q a) n:=by
 unfold Cl.part
 split
 ·exact qB
 exact AX E (by simp[Cl.send]) (by simp[Cl.send])
def OO{X x:Nd}{rs:List cO}(h:X.write rs=some x):x.up=X.up/\x.Md=X.Md/\x.turn=X.turn/\x.bs=X.bs:=by
 unfold Nd.write at h;rw[Option.map_eq_some_iff]at h;obtain⟨d,_,rfl⟩:=h;exact⟨E,E,E,E⟩
def E9{x:Nd}{p:bS}{rs:List cO}(h:(m.ah n).write rs=some x):Ap m (m.put n {x with Mw:=some p}) n:=by
 obtain⟨h1,I,J,M⟩:=OO h;exact Eu E h1 I J (λO q Z=>by show au (x.bs q)=0;rw[M];exact O q Z) (le_succ _) (le_succ _)
def Ap.arx{m2:Cl}(h:Ap m m2 n)(h1:m2.Ms.length<=m.Ms.length)(O:m2.aP.length<=m.aP.length)(I:Ap m2 m' n):Ap m m' n:=
 ⟨λj J=>(I.mK j J).trans (h.mK j J),I.up.trans h.up,I.iP.trans h.iP,I.FZ.trans h.FZ,λM=>I.lg (h.lg M),by have:=I.Ms;omega,by have:=I.aP;omega⟩
def jW(J:l.q<4):Ap m (m.Ng n l) n:=by
 unfold Cl.Ng
 split
 ·unfold Cl.serve
  split
  ·exact TA
  split
  ·exact TA
  exact E9 ‹_›
 split
 ·unfold Cl.Qz
  split
  ·exact qB
  split
  ·exact TD
  split
  ·exact qB
  exact E9 ‹_›
 split
 ·unfold Cl.QV
  split
  ·exact qB
  split
  ·exact qB
  rename_i h1 O
  split
  ·refine Ap.arx (m2:=m.ay n l.q (bG ((m.ah n).bs l.q) l.at_).1) (Eu E E E E (λI q M=>?_) (le_succ _) (le_succ _)) (Nat.le_refl _) (Nat.le_refl _) ag3
   show au (Na (m.ah n).bs l.q (bG ((m.ah n).bs l.q) l.at_).1 q)=0
   unfold Na
   split
   ·exact BM (I _ J) Y
   exact I q M
  split
  ·exact qB
  exact E9 ‹_›
 split
 ·unfold Cl.QU
  split
  ·exact qB
  split
  ·exact TD
  split
  ·exact qB
  split
  ·exact qB
  exact E9 ‹_›
 unfold Cl.Q9
 split
 ·exact Eu E E E E (λI=>I) (le_succ _) (le_succ _)
 split
 ·exact Eu E E E E (λI=>I) (le_succ _) (le_succ _)
 rename_i x h
 obtain⟨h1,O,Z,h4⟩:=OO h;exact Eu E h1 O Z (λI q J=>by show au (x.bs q)=0;rw[h4];exact I q J) (le_succ _) (le_succ _)
end
section
open ChangeAt
structure LX where
 l:bH
 A:Option Addr
 c:Nat
def ag4(l:bH)(s:Value):List Value:=[D l.kd,D l.fr,D l.tg,D (l.q:Int),D l.ep,D l.at_,D l.nd,D l.op.kind,D l.op.Mr,D l.op.id,D l.op.body,D l.op.MF,D l.op.Nc,s,.bool l.last,D l.num,
 D l.bL.num,D l.bL.Rf.code,D l.bL.Rf.fO,D l.bL.Rf.Nc,D l.bL.Rf.body,D l.bL.pl.node,D l.bL.pl.Mc]
def LX.cells(x:LX):List Value:=ag4 x.l (.slice x.A x.l.Gs.length x.c)
def LX.row(x:LX):Array Value:=x.cells.toArray
def xq.cells(t:xq):List Value:=[D t.num,D t.Rf.code,D t.Rf.fO,D t.Rf.Nc,D t.Rf.body,D t.pl.node,D t.pl.Mc]
def jJ.cells(s:jJ):List Value:=[D (s.nd:Int),D (s.q:Int),D s.ep,D s.op.kind,D s.op.Mr,D s.op.id,D s.op.body,D s.op.MF,D s.op.Nc,D s.Rf.code,D s.Rf.fO,D s.Rf.Nc,D s.Rf.body,D s.num]
def Ew(x:LX):∀u∈x.cells,u.oneCell'=true:=bY E
def alf(l:List LX):∀u∈l.flatMap LX.cells,u.oneCell'=true:=by
 intro u h;rw[mem_flatMap]at h;obtain⟨z,_,I⟩:=h;exact Ew z u I
def dN(me:Nat)(up:Bool)(tv:Value)(MC:Int)(bv:Value)(H:Nat->Pl)(U:Nat->Bool)(iv pv:Value)(turn:Nat):Array Value:=
 #[D (me:Int),.bool up,tv,D MC,bv,D (H 0).node,D (H 0).Mc,D (H 1).node,D (H 1).Mc,D (H 2).node,D (H 2).Mc,D (H 3).node,D (H 3).Mc,.bool (U 0),.bool (U 1),.bool (U 2),.bool (U 3),iv,pv,D (turn:Int)]
def Rv(p:Int×Int):List Value:=[D p.1,D p.2]
def Rw(sh:Nat->Nat->Int×Int)(n:Nat):List Value:=Rv (sh n 0)++(Rv (sh n 1)++(Rv (sh n 2)++Rv (sh n 3)))
def alg(sh:Nat->Nat->Int×Int):List Value:=Rw sh 0++(Rw sh 1++(Rw sh 2++(Rw sh 3++Rw sh 4)))
def OP(nv:Value)(d:QK)(fv:Value)(sh:Nat->Nat->Int×Int)(sv tv:Value)(calls:Nat):List Value:=
 nv::(d.cells++(fv::(alg sh++[D 0,.bool false,.bool false,.bool false,.bool false,.bool false,D 0,D 0,D 0,D 0,D 0,D 0,D 0,D 0,.slice none 0 0,sv,tv,D (calls:Int)])))
def lJ(nv:Value)(d:QK)(fv:Value)(sh:Nat->Nat->Int×Int)(sv tv:Value)(calls:Nat):Array Value:=(OP nv d fv sh sv tv calls).toArray
section
variable {me turn calls k:Nat}{up:Bool}{tv bv iv pv nv fv sv uv x:Value}{MC:Int}{H:Nat->Pl}{U:Nat->Bool}{d:QK}{sh:Nat->Nat->Int×Int}
def Aq:(lJ nv d fv sh sv tv calls)[0]? =some nv:=rfl
def Sr:(lJ nv d fv sh sv tv calls)[9]? =some fv:=rfl
def awF:(lJ nv d fv sh sv tv calls)[65]? =some sv:=rfl
def awG:(lJ nv d fv sh sv tv calls)[66]? =some tv:=rfl
def am1:(lJ nv d fv sh sv tv calls)[67]? =some (D (calls:Int)):=rfl
def IJ{J M O Z:Value}{d':QK}{sh':Nat->Nat->Int×Int}{I o:Nat}{vs:List Value}(h:o+vs.length<=68)(he:(OP nv d fv sh sv tv calls).take o++vs++(OP nv d fv sh sv tv calls).drop (o+vs.length)=OP J d' M sh' O Z I):
 dn (lJ nv d fv sh sv tv calls) o vs=lJ J d' M sh' O Z I:=Array.ext' (by rw[iC _ _ _ h];exact he)
def aox:dn (lJ nv d fv sh sv tv calls) 9 [x]=lJ nv d x sh sv tv calls:=IJ (le_of_ble_eq_true E) E
def awH:dn (lJ nv d fv sh sv tv calls) 65 [x]=lJ nv d fv sh x tv calls:=IJ (le_of_ble_eq_true E) E
def awI:dn (lJ nv d fv sh sv tv calls) 66 [x]=lJ nv d fv sh sv x calls:=IJ (le_of_ble_eq_true E) E
def awJ{c':Nat}:dn (lJ nv d fv sh sv tv calls) 67 [D (c':Int)]=lJ nv d fv sh sv tv c':=IJ (le_of_ble_eq_true E) E
def aoy{d':QK}:dn (lJ nv d fv sh sv tv calls) 1 d'.cells=lJ nv d' fv sh sv tv calls:=IJ (le_of_ble_eq_true E) E
def yg:∀(j:Nat) (u:Value),d.cells[j]? =some u->(lJ nv d fv sh sv tv calls)[1+j]? =some u:=by
 intro j u h;have I:j<8:=(List.getElem?_eq_some_iff.1 h).1;have:j=0\/j=1\/j=2\/j=3\/j=4\/j=5\/j=6\/j=7:=Y
 rcases this with rfl|rfl|rfl|rfl|rfl|rfl|rfl|rfl<;>exact h
def afc:(lJ nv d fv sh sv tv calls).size=68:=rfl
def am2{n q:Nat}(hn:n<5)(I:q<4){a b:Int}:dn (lJ nv d fv sh sv tv calls) (10+n*8+q*2) [D a,D b]=lJ nv d fv (iD sh n q (a,b)) sv tv calls:=by
 have h1:n=0\/n=1\/n=2\/n=3\/n=4:=Y;have h:q=0\/q=1\/q=2\/q=3:=Y
 rcases h1 with rfl|rfl|rfl|rfl|rfl<;>rcases h with rfl|rfl|rfl|rfl<;>exact IJ (le_of_ble_eq_true E) E
def awK{n q:Nat}(hn:n<5)(M:q<4):∀(j:Nat) (u:Value),(Rv (sh n q))[j]? =some u->(lJ nv d fv sh sv tv calls)[10+n*8+q*2+j]? =some u:=by
 intro j u h;have O:j<2:=(List.getElem?_eq_some_iff.1 h).1;have I:j=0\/j=1:=Y;have h1:n=0\/n=1\/n=2\/n=3\/n=4:=Y;have J:q=0\/q=1\/q=2\/q=3:=Y
 rcases h1 with rfl|rfl|rfl|rfl|rfl<;>rcases J with rfl|rfl|rfl|rfl<;>rcases I with rfl|rfl<;>exact h
def Ey{q:Nat}(I:q<4){p:Pl}:dn (dN me up tv MC bv H U iv pv turn) (5+q*2) [D p.node,D p.Mc]=dN me up tv MC bv (Na H q p) U iv pv turn:=by
 have h:q=0\/q=1\/q=2\/q=3:=Y
 rcases h with rfl|rfl|rfl|rfl<;>rfl
def Qg{q:Nat}(I:q<4):(dN me up tv MC bv H U iv pv turn)[5+q*2]? =some (D (H q).node)/\(dN me up tv MC bv H U iv pv turn)[5+q*2+1]? =some (D (H q).Mc):=by
 have h:q=0\/q=1\/q=2\/q=3:=Y
 rcases h with rfl|rfl|rfl|rfl<;>exact⟨E,E⟩
def Z5{q:Nat}(I:q<4){v:Bool}:dn (dN me up tv MC bv H U iv pv turn) (13+q*1) [.bool v]=dN me up tv MC bv H (Na U q v) iv pv turn:=by
 have h:q=0\/q=1\/q=2\/q=3:=Y
 rcases h with rfl|rfl|rfl|rfl<;>rfl
def alh{q:Nat}(I:q<4):(dN me up tv MC bv H U iv pv turn)[13+q*1]? =some (.bool (U q)):=by
 have h:q=0\/q=1\/q=2\/q=3:=Y
 rcases h with rfl|rfl|rfl|rfl<;>rfl
end
def Ro(L:List J8)(s:Nat)(A:Option Addr)(n:Nat)(xs:List Value):Prop:= ∀B w,(∀f∈L,f.holds B w)->Rd w w.heap.size s A n xs
section
variable {L L':List J8}{s n:Nat}{A:Option Addr}{xs:List Value}{B:Nat}{w w0:World}{fs:List J8}
def Ro.mono(h:Ro L s A n xs)(I:∀f∈L,f∈L'):Ro L' s A n xs:=λB w hw=>h B w λf J=>hw f (I f J)
def Ro.rd(h:Ro L s A n xs)(S:St B w0 w fs)(I:∀f∈L,f∈fs):Rd w w.heap.size s A n xs:=h B w λf J=>S.has (I f J)
def Ro.Q8:Ro L s none 0 []:=λ_ _ _=>Rd.Q8
def Ro.cZ(h:J8.cZ s A n xs∈L):Ro L s A n xs:=λ_ _ hw=>(hw _ h).1
def Ro.own{e:TypeId}{c:Nat}(h:J8.own e s (.slice A n c) n xs∈L):Ro L s A n xs:=λ_ _ hw=>Rd.uf (hw _ h)
end
structure NX where
 bb:Nat
 tA:Option Addr
 tc:Nat
 bx:List BX
 iA:Option Addr
 ic:Nat
 ix:List LX
 pv:Value
structure CX where
 nx:Nat->NX
 fA:Option Addr
 fc:Nat
 fx:List LX
 sA:Option Addr
 sc:Nat
 tA:Option Addr
 tc:Nat
 nA:Option Addr
 nc:Nat
 L:List J8
structure CK where
 wb:Nat
 nb:Nat->Nat
def gV(b:Nat):Value:=.pointer (some ⟨b,0,none⟩)
def ali(n:Nat)(X:Nd)(x:NX):Array Value:=dN n X.up (.slice x.tA X.data.length x.tc) X.MC (.slice (some ⟨x.bb,0,none⟩) 4 4) X.Nh X.Nf (.slice x.iA x.ix.length x.ic) x.pv X.turn
def awL(R:CX)(m:Cl):Array Value:=lJ (.slice R.nA 5 R.nc) m.off (.slice R.fA R.fx.length R.fc) m.MG (.slice R.sA m.aP.length R.sc) (.slice R.tA m.bL.length R.tc) m.calls
def DZ(kn n:Nat)(X:Nd)(x:NX):List J8:=
 [.Mg kn (ali n X x) 105,.own 42 6 (.slice (some ⟨x.bb,0,none⟩) 4 4) 4 (x.bx.flatMap BX.cells),.off 119 23 x.iA x.ix.length x.ic (x.ix.flatMap LX.cells)]
def kJ(K:CK)(n:Nat)(X:Nd)(x:NX):List J8:=DZ (K.nb n) n X x
def D5(kw:Nat)(R:CX)(m:Cl):List J8:=
 [.Mg kw (awL R m) 97,.own 119 23 (.slice R.fA R.fx.length R.fc) R.fx.length (R.fx.flatMap LX.cells),.own 164 14 (.slice R.sA m.aP.length R.sc) m.aP.length (m.aP.flatMap jJ.cells),.own 56 7 (.slice R.tA m.bL.length R.tc) m.bL.length (m.bL.flatMap xq.cells)]
def uT(K:CK)(R:CX)(m:Cl):List J8:=D5 K.wb R m
def mg(K:CK)(R:CX)(m:Cl)(n:Nat):List J8:=((range 5).filter (· ≠n)).flatMap λj=>kJ K j (m.ah j) (R.nx j)
def gG(K:CK)(R:CX)(m:Cl)(fs:List J8)(n:Nat):List J8:=fs++(mg K R m n++R.L)
def lN(K:CK)(R:CX)(m:Cl):List J8:=uT K R m++(((range 5).flatMap λj=>kJ K j (m.ah j) (R.nx j))++R.L)
def GX(L:List J8)(A:Option Addr)(c:Nat)(l:List Ev):Prop:=Ro L 6 A l.length (aY l)/\l.length<=c
def Rx(L:List J8)(x:LX):Prop:=GX L x.A x.c x.l.Gs
def Cn(L:List J8)(y:BX):Prop:=GX L y.A y.c y.b.Gs
def GX.mono{L L':List J8}{A:Option Addr}{c:Nat}{l:List Ev}(h:GX L A c l)(I:∀f∈L,f∈L'):GX L' A c l:=⟨h.1.mono I,h.2⟩
def qc(kn kw:Nat)(L:List J8):Option bS->Value->Prop
 |none,v=>v=.nilFunc
 |some (.serve q Gs op num a),v=> ∃b1 b2 b3 b4 b5 b6 b7 y x,v=.func (.func 88) #[] #[gV b1,gV b2,gV b3,gV b4,gV b5]/\ .Mg b1 (BX.cells y).toArray 42∈L/\y.b.Gs=Gs/\Cn L y/\ .Mg b2 #[gV kn] 98∈L/\ .Mg b3 #[.int .i64 (q:Int)] 3∈L/\
   .Mg b4 #[.func (.func 87) #[] #[gV b6,gV b2,gV b3,gV b7]] 190∈L/\ .Mg b5 (iW.cells a).toArray 54∈L/\ .Mg b6 (LX.row x) 119∈L/\x.l.op=op/\x.l.num=num/\ .Mg b7 #[gV kw] 87∈L
 |some (.Ns q b),v=> ∃b1 b2 b3 b4 y,v=.func (.func 91) #[] #[gV b1,gV b2,gV b3,gV b4]/\ .Mg b1 (BX.cells y).toArray 42∈L/\y.b=b/\Cn L y/\ .Mg b2 #[gV kn] 98∈L/\ .Mg b3 #[.int .i64 (q:Int)] 3∈L/\ .Mg b4 #[gV kw] 87∈L
 |some (.QU q b last),v=> ∃b1 b2 b3 b4 b5 y x,v=.func (.func 96) #[] #[gV b1,gV b2,gV b3,gV b4,gV b5]/\ .Mg b1 (BX.cells y).toArray 42∈L/\y.b=b/\Cn L y/\ .Mg b2 #[gV kn] 98∈L/\ .Mg b3 #[.int .i64 (q:Int)] 3∈L/\
   .Mg b4 (LX.row x) 119∈L/\x.l.last=last/\ .Mg b5 #[gV kw] 87∈L
 |some (.fG q b at_),v=> ∃b1 b2 b3 b4 b5 y x,v=.func (.func 94) #[] #[gV b1,gV b2,gV b3,gV b4,gV b5]/\ .Mg b1 (BX.cells y).toArray 42∈L/\y.b=b/\Cn L y/\ .Mg b2 #[gV kn] 98∈L/\ .Mg b3 #[.int .i64 (q:Int)] 3∈L/\
   .Mg b4 #[gV kw] 87∈L/\ .Mg b5 (LX.row x) 119∈L/\x.l.at_=at_
 |some (.Ni q b),v=> ∃b1 b2 b3 y,v=.func (.func 98) #[] #[gV b1,gV b2,gV b3]/\ .Mg b1 (BX.cells y).toArray 42∈L/\y.b=b/\Cn L y/\ .Mg b2 #[gV kn] 98∈L/\ .Mg b3 #[.int .i64 (q:Int)] 3∈L
def aBN(K:CK)(L:List J8)(n:Nat)(p:Option bS)(v:Value):Prop:=qc (K.nb n) K.wb L p v
structure dX (K:CK)(L:List J8)(n:Nat)(X:Nd)(x:NX):Prop where
 Ry:x.bx.map BX.b=vB X.bs
 TF:∀y∈x.bx,Cn L y
 yh:Ro L 1 x.tA X.data.length (Gt X.data)
 ixm:x.ix.map LX.l=X.Md
 ixo:∀y∈x.ix,Rx L y
 lu:aBN K L n X.Mw x.pv
structure Good (K:CK)(R:CX)(m:Cl)(H:List LX):Prop where
 Ms:R.fx.map LX.l=m.Ms
 flo:∀x∈R.fx,Rx R.L x
 iK:∀n,n<5->dX K R.L n (m.ah n) (R.nx n)
 arr:Ro R.L 1 R.nA 5 ((range 5).map λj=>gV (K.nb j))
 hld:∀x∈H,Rx R.L x
def Wd(K:CK)(B:Nat)(w0 w:World)(fs:List J8)(m:Cl)(H:List LX):Prop:= ∃R,Good K R m H/\St B w0 w (fs++lN K R m)
section
variable {K:CK}{B n:Nat}{w0 w w':World}{fs N:List J8}{m m':Cl}{H H':List LX}{R R':CX}
def qc.mono{kn kw:Nat}{L L':List J8}{p:Option bS}{v:Value}(h:qc kn kw L p v)(I:∀f∈L,f∈L'):qc kn kw L' p v:=by
 match p,h with
 |none,h=>exact h
 |some (.serve q Gs op num a),⟨b1,b2,b3,b4,b5,b6,b7,y,x,h1,J,M,O,Z,h6,h7,h8,h9,h10,h11,h12⟩=>
  exact⟨b1,b2,b3,b4,b5,b6,b7,y,x,h1,I _ J,M,GX.mono O I,I _ Z,I _ h6,I _ h7,I _ h8,I _ h9,h10,h11,I _ h12⟩
 |some (.Ns q b),⟨b1,b2,b3,b4,y,h1,J,M,O,Z,h6,h7⟩=>exact⟨b1,b2,b3,b4,y,h1,I _ J,M,GX.mono O I,I _ Z,I _ h6,I _ h7⟩
 |some (.QU q b last),⟨b1,b2,b3,b4,b5,y,x,h1,J,M,O,Z,h6,h7,h8,h9⟩=>exact⟨b1,b2,b3,b4,b5,y,x,h1,I _ J,M,GX.mono O I,I _ Z,I _ h6,I _ h7,h8,I _ h9⟩
 |some (.fG q b at_),⟨b1,b2,b3,b4,b5,y,x,h1,J,M,O,Z,h6,h7,h8,h9⟩=>exact⟨b1,b2,b3,b4,b5,y,x,h1,I _ J,M,GX.mono O I,I _ Z,I _ h6,I _ h7,I _ h8,h9⟩
 |some (.Ni q b),⟨b1,b2,b3,y,h1,J,M,O,Z,h6⟩=>exact⟨b1,b2,b3,y,h1,I _ J,M,GX.mono O I,I _ Z,I _ h6⟩
def dX.mono{L L':List J8}{X:Nd}{x:NX}(h:dX K L n X x)(I:∀f∈L,f∈L'):dX K L' n X x:=
 ⟨h.Ry,λy J=>(h.TF y J).mono I,h.yh.mono I,h.ixm,λy J=>(h.ixo y J).mono I,qc.mono h.lu I⟩
def vG{α:Type}(f:Nat->List α)(hn:n<5):((range 5).flatMap f).Perm (f n++((range 5).filter (· ≠n)).flatMap f):=by
 have h:n=0\/n=1\/n=2\/n=3\/n=4:=Y;have I:∀l:List Nat,(range 5).Perm (n::l)->((range 5).flatMap f).Perm (f n++l.flatMap f):=λl J=>by
  have:=J.flatMap_right f;rwa [flatMap_cons]at this
 refine I _ ?_
 rcases h with rfl|rfl|rfl|rfl|rfl<;>decide
open Classical in
def Wd.open(h:Wd K B w0 w fs m H)(hn:n<5):∃R,Good K R m H/\St B w0 w (kJ K n (m.ah n) (R.nx n)++(uT K R m++gG K R m fs n)):=by
 obtain⟨R,I,S⟩:=h;refine⟨R,I,S.perm (List.perm_iff_count.2 λa=>?_)⟩;have h1:=List.perm_iff_count.1 (vG (λj=>kJ K j (m.ah j) (R.nx j)) hn) a;unfold lN gG mg;simp only[List.count_append]at h1⊢;omega
def acy(hs:∀j,j<5->j≠n->m'.ah j=m.ah j/\R'.nx j=R.nx j):mg K R' m' n=mg K R m n:=by
 unfold mg;rw[flatMap_def,flatMap_def]
 congr 1
 refine map_congr_left λj h=>?_;rw[mem_filter,mem_range]at h;obtain⟨h1,I⟩:=hs j h.1 (by simpa using h.2);rw[h1,I]
open Classical in
def Wd.close{Ls:List J8}(G:Good K R' m' H')(S:St B w0 w' (kJ K n (m'.ah n) (R'.nx n)++(uT K R' m'++(Ls++(gG K R m fs n++N)))))(hn:n<5)(h:R'.L=R.L++(N++Ls))(hs:∀j,j<5->j≠n->m'.ah j=m.ah j/\R'.nx j=R.nx j):Wd K B w0 w' fs m' H':=by
 refine⟨R',G,S.perm (List.perm_iff_count.2 λa=>?_)⟩;have h1:=List.perm_iff_count.1 (vG (λj=>kJ K j (m'.ah j) (R'.nx j)) hn) a;unfold gG lN;rw[h,<-acy hs];unfold mg;simp only[List.count_append]at h1⊢;omega
def M9{L gs fs:List J8}(k:Nat)(h:gs.drop k=fs)(I:∀f∈L,f∈fs):∀f∈L,f∈gs:=λf J=>mem_of_mem_drop (h▸I f J)
def Xl{L fs N:List J8}(I:∀f∈L,f∈fs):∀f∈L++N,f∈fs++N:=λf J=>(mem_append.1 J).elim (λh=>mem_append_left _ (I f h)) (λh=>mem_append_right _ h)
def dY{fs:List J8}:∀f∈fs,f∈fs:=λ_ h=>h
def afe{L N:List J8}{x:J8}:x∈L++(N++[x]):=by simp
def St.toEnd{f:J8}(i:Nat)(S:St B w0 w fs)(hi:fs[i]? =some f):St B w0 w (fs.eraseIdx i++[f]):=(S.bring i hi).perm (perm_append_comm (l₁:=[f]) (l₂:=fs.eraseIdx i))
def St.Rz{a b c d e f g:J8}(S:St B w0 w (a::b::c::d::e::f::g::(fs++N))):St B w0 w (a::b::c::d::e::f::g::fs):=
 S.sub (((((((sublist_append_left fs N).cons_cons g).cons_cons f).cons_cons e).cons_cons d).cons_cons c).cons_cons b |>.cons_cons a)
def Ro.Mg{L:List J8}{b n s:Nat}{row:Array Value}{t:TypeId}{xs:List Value}(h:J8.Mg b row t∈L)(J:row.toList=xs)(M:xs.length=n*s):Ro L s (some ⟨b,0,none⟩) n xs:=λ_ _ hw=>
 ⟨M,λ_=>⟨b,0,E,(hw _ h).2.lt,λj u I=>by
  rw[Nat.zero_add];exact(hw _ h).2.cell (by rw[<-J]at I;simpa using I)⟩⟩
end
end
abbrev oL (a:Option Addr)(l:List LX)(c:Nat):J8:=.own 119 23 (.slice a l.length c) l.length (l.flatMap LX.cells)
abbrev oS (a:Option Addr)(l:List jJ)(c:Nat):J8:=.own 164 14 (.slice a l.length c) l.length (l.flatMap jJ.cells)
abbrev oT (a:Option Addr)(l:List xq)(c:Nat):J8:=.own 56 7 (.slice a l.length c) l.length (l.flatMap xq.cells)
abbrev oB (b:Nat)(l:List BX):J8:=.own 42 6 (.slice (some ⟨b,0,none⟩) 4 4) 4 (l.flatMap BX.cells)
abbrev fL (a:Option Addr)(l:List LX)(c:Nat):J8:=.off 119 23 a l.length c (l.flatMap LX.cells)
abbrev bW (k:Nat)(n:Value)(d:QK)(fA:Option Addr)(fx:List LX)(fc:Nat)(sh:Nat->Nat->Int×Int)(sA:Option Addr)(sr:List jJ)(sc:Nat)(tA:Option Addr)(tl:List xq)(tc cs:Nat):J8:=.Mg k (lJ n d (.slice fA fx.length fc) sh (.slice sA sr.length sc) (.slice tA tl.length tc) cs) 97
abbrev bN (k n:Nat)(u:Bool)(tA:Option Addr)(dd:List UInt8)(tc:Nat)(sy:Int)(b:Nat)(H:Nat->Pl)(U:Nat->Bool)(iA:Option Addr)(ix:List LX)(ic:Nat)(pv:Value)(tn:Nat):J8:=.Mg k (dN n u (.slice tA dd.length tc) sy (.slice (some ⟨b,0,none⟩) 4 4) H U (.slice iA ix.length ic) pv tn) 105
abbrev wF (k:Nat)(n:Value)(d:QK)(fA:Option Addr)(fx:List LX)(fc:Nat)(sh:Nat->Nat->Int×Int)(sA:Option Addr)(sr:List jJ)(sc:Nat)(tA:Option Addr)(tl:List xq)(tc cs:Nat)(r:List J8):List J8:=bW k n d fA fx fc sh sA sr sc tA tl tc cs::oL fA fx fc::oS sA sr sc::oT tA tl tc::r
abbrev nF (k n:Nat)(u:Bool)(tA:Option Addr)(dd:List UInt8)(tc:Nat)(sy:Int)(b:Nat)(H:Nat->Pl)(U:Nat->Bool)(iA:Option Addr)(ix:List LX)(ic:Nat)(pv:Value)(tn:Nat)(bs:List BX)(r:List J8):List J8:=bN k n u tA dd tc sy b H U iA ix ic pv tn::oB b bs::fL iA ix ic::r
abbrev cF (k:Nat)(R:CX)(m:Cl)(r:List J8):List J8:=wF k (.slice R.nA 5 R.nc) m.off R.fA R.fx R.fc m.MG R.sA m.aP R.sc R.tA m.bL R.tc m.calls r
abbrev cN (k n:Nat)(X:Nd)(z:NX)(pv:Value)(r:List J8):List J8:=nF k n X.up z.tA X.data z.tc X.MC z.bb X.Nh X.Nf z.iA z.ix z.ic pv X.turn z.bx r
def Xm{x:LX}:∀(j:Nat) (u:Value),[Value.int .i64 x.l.op.kind,D x.l.op.Mr,D x.l.op.id,D x.l.op.body,D x.l.op.MF,D x.l.op.Nc][j]? =some u->(LX.row x)[7+j]? =some u:=by
 intro j u h;have I:j<6:=(List.getElem?_eq_some_iff.1 h).1;have:j=0\/j=1\/j=2\/j=3\/j=4\/j=5:=Y
 rcases this with rfl|rfl|rfl|rfl|rfl|rfl<;>exact h
def arz{x:LX}:∀(j:Nat) (u:Value),[Value.int .i64 x.l.bL.num,D x.l.bL.Rf.code,D x.l.bL.Rf.fO,D x.l.bL.Rf.Nc,D x.l.bL.Rf.body,D x.l.bL.pl.node,D x.l.bL.pl.Mc][j]? =some u->(LX.row x)[16+j]? =some u:=by
 intro j u h;have I:j<7:=(List.getElem?_eq_some_iff.1 h).1;have:j=0\/j=1\/j=2\/j=3\/j=4\/j=5\/j=6:=Y
 rcases this with rfl|rfl|rfl|rfl|rfl|rfl|rfl<;>exact h
def sj{me turn:Nat}{up:Bool}{tv bv iv pv:Value}{MC:Int}{H:Nat->Pl}{U:Nat->Bool}:∀(j:Nat) (u:Value),[tv,D MC][j]? =some u->(dN me up tv MC bv H U iv pv turn)[2+j]? =some u:=by
 intro j u h;have I:j<2:=(List.getElem?_eq_some_iff.1 h).1;have:j=0\/j=1:=Y
 rcases this with rfl|rfl<;>exact h
def vU(d:QK):∀u∈d.cells.toArray.toList,u.oneCell'=true:=bY E
def alj{me turn q:Nat}{up:Bool}{tv bv iv pv:Value}{MC:Int}{H:Nat->Pl}{U:Nat->Bool}(I:q<4):∀(j:Nat) (u:Value),[Value.int .i64 (H q).node,D (H q).Mc][j]? =some u->(dN me up tv MC bv H U iv pv turn)[5+q*2+j]? =some u:=by
 intro j u h;have J:j<2:=(List.getElem?_eq_some_iff.1 h).1;have:j=0\/j=1:=Y
 rcases this with rfl|rfl
 ·rw[Nat.add_zero,(Qg I).1];exact h
 rw[(Qg I).2];exact h
def arA{bs:List BX}{q c:Nat}{y:BX}{A:Option Addr}{Gs:List Ev}(J:bs[q]? =some y):sN (bs.flatMap BX.cells) (0+q*6+5) [.slice A Gs.length c]=(bs.set q ⟨{y.b with Gs:=Gs},A,c⟩).flatMap BX.cells:=by
 obtain⟨M,he⟩:=List.getElem?_eq_some_iff.1 J;rw[<-qK (enc:=BX.cells) (sz:=6) (λ_=>E) ⟨{y.b with Gs:=Gs},A,c⟩ q bs M,Nat.zero_add];have I:∀j u,(BX.cells y)[j]? =some u->(bs.flatMap BX.cells)[q*6+j]? =some u:=λj u h=>bE (enc:=BX.cells) (sz:=6) (λ_=>E) J h;simp only[sN,BX.cells];have e:∀(l:List Value) (k:Nat) (u:Value),l[k]? =some u->l.set k u=l:=λl k u h=>by
  obtain⟨h1,O⟩:=List.getElem?_eq_some_iff.1 h;subst O;exact set_getElem_self h1
 rw[e _ (q*6) _ (I 0 _ E),e _ (q*6+1) _ (I 1 _ E),e _ (q*6+1+1) _ (I 2 _ E),e _ (q*6+1+1+1) _ (I 3 _ E),e _ (q*6+1+1+1+1) _ (I 4 _ E)]
def jl(k:Int)(q:Nat)(y:BX)(w:World):
 Calls tP 45 #[D k,D (q:Int),.agg (bR y.b y.A y.c)] w (λe w'=>e=.returned (.agg (cO.cells (fH k q y.b.ep 0 aI)).toArray)/\Below w.heap.size w w'):=by
 have S:=St.start w;refine gP 12 func45 ?_;refine cw [0,1,2] ?_;refine zN 2 ?_;refine iU S ?_;intro b1 M h;refine gD h xC ?_;intro b4 O I;refine zN 8 ?_;refine vv (v:=.agg #[D k,D (q:Int),D y.b.ep,D 0,D 0,D 0,D 0,D 0,D 0,D 0]) gH ?_;refine sa 0 I kQ ?_;intro Z J;refine zN 4 ?_;exact⟨E,J.Nr⟩
def gX{B kw calls fc sc tc:Nat}{fA sA tA:Option Addr}{nv:Value}{d:QK}{sh:Nat->Nat->Int×Int}{fx:List LX}{aP:List jJ}{tl:List xq}{w0 w:World}{fs:List J8}{x:LX}(S:St B w0 w ((.Mg kw (lJ (nv) d (.slice fA fx.length fc) sh (.slice sA aP.length sc) (.slice tA tl.length tc) calls) 97)::(.own 119 23 (.slice fA fx.length fc) fx.length ((fx).flatMap LX.cells))::fs))(hb:(fx.length+1)*200<=140737488355328):
 Calls tP 32 #[pV kw 0,.agg (LX.row x)] w (λe w'=>e=.returned (.tuple #[])/\ ∃A' c' h,h=fx++[x]/\St B w0 w' ((.Mg kw (lJ (nv) d (.slice A' h.length c') sh (.slice sA aP.length sc) (.slice tA tl.length tc) calls) 97)::(.own 119 23 (.slice A' h.length c') h.length ((h).flatMap LX.cells))::fs)):=by
 refine gP 14 func32 ?_;refine cw [0,1] ?_;refine zN 2 ?_;refine iU S ?_;intro b1 w2 S3;refine zN 2 ?_;have J:=S3.drew;refine fM 11 8 J [2] ?_;iterate 4 refine gW ?_
 refine gk (v:=.slice fA fx.length fc) 4 E (St.del 2 J) (λ_ Sx9=>(aj E E (aG (St.cl 1 Sx9 E Sr)))) ?_;refine gW ?_;refine fE (m:=4) (r:=6) kQ ?_;refine mW (i:=6) E E (V:=λb=>.slice (aD b 0) 1 1) (row:=LX.row x) (t:=119) J (wn E) E E (aV (vs:=[(0,.agg (LX.row x))]) E xR kQ) ?_;intro b11 w12 I;refine gW ?_;refine fE (m:=3) (r:=7) kQ ?_;refine lG (i:=7) E E (news:=(LX.cells x)) (xs':=(fx++[x]).flatMap LX.cells) 3 I (wn E) E E E E E E (St.mD (xs:=(LX.cells x)) 0 I E E E) underlying91 Zp E dQ (Ew _) lQ Y (jB (enc:=LX.cells) E E) ?_;intro M O w16 hc18 aKB Z;refine gW ?_;refine fC kQ E E E ?_;refine zN 2 ?_;refine jH 2 Z kQ ?_ (hs:=by exact aox);intro ZN vC;refine zQ ?_;refine jg ?_;refine bX (l':=[]) trivial (oV ?_);have jY:=vC.aO [1,0];refine⟨E,M,O,fx++[x],E,?_⟩;rw[length_append];exact jY
def nR{B kn kw bb n turn calls dc ic fc sc tc:Nat}{up:Bool}{dA iA fA sA tA:Option Addr}{data:List UInt8}{MC:Int}{Hh:Nat->Pl}{Us:Nat->Bool}{pv nv:Value}{d:QK}{sh:Nat->Nat->Int×Int}{bs:List BX}{ix fx:List LX}{aP:List jJ}{tl:List xq}{w0 w:World}{fs:List J8}{q:Nat}(hn:n<5)(hq:q<4){y:BX}(hy:bs[q]? =some y)(e:Ev)(a:iW)(num:Int)(S:St B w0 w ((.Mg kn (dN n up (.slice dA data.length dc) MC (.slice (aD bb 0) 4 4) Hh Us (.slice iA ix.length ic) (pv) turn) 105)::(.own 42 6 (.slice (aD bb 0) 4 4) 4 ((bs).flatMap BX.cells))::(.off 119 23 iA ix.length ic ((ix).flatMap LX.cells))::(.Mg kw (lJ (nv) d (.slice fA fx.length fc) sh (.slice sA aP.length sc) (.slice tA tl.length tc) calls) 97)::(.own 119 23 (.slice fA fx.length fc) fx.length ((fx).flatMap LX.cells))::(.own 164 14 (.slice sA aP.length sc) aP.length ((aP).flatMap jJ.cells))::(.own 56 7 (.slice tA tl.length tc) tl.length ((tl).flatMap xq.cells))::fs))(hb:(aP.length+1)*112<=140737488355328):
 Calls tP 56 #[pV kw 0,pV kn 0,D (q:Int),.agg #[D e.kind,D e.Mr,D e.id,D e.body,D e.MF,D e.Nc],.agg #[D a.code,D a.fO,D a.Nc,D a.body],D num] w (λe' w'=>e'=.returned (.tuple #[])/\ ∃A' c' I,I=aP++[(⟨n,q,y.b.ep,e,a,num⟩:jJ)]/\St B w0 w' ((.Mg kn (dN n up (.slice dA data.length dc) MC (.slice (aD bb 0) 4 4) Hh Us (.slice iA ix.length ic) (pv) turn) 105)::(.own 42 6 (.slice (aD bb 0) 4 4) 4 ((bs).flatMap BX.cells))::(.off 119 23 iA ix.length ic ((ix).flatMap LX.cells))::(.Mg kw (lJ (nv) d (.slice fA fx.length fc) (iD sh n q (y.b.ep,(y.b.Gs.length:Int))) (.slice A' I.length c') (.slice tA tl.length tc) calls) 97)::(.own 119 23 (.slice fA fx.length fc) fx.length ((fx).flatMap LX.cells))::(.own 164 14 (.slice A' I.length c') I.length ((I).flatMap jJ.cells))::(.own 56 7 (.slice tA tl.length tc) tl.length ((tl).flatMap xq.cells))::fs)):=by
 have Z:=(S.own 1 E).1;rw[iL (sz:=6) (λ_=>E)]at Z;refine gP 68 func56 ?_;refine cw [0,1,2,3,4,5] ?_;refine zN 2 ?_;refine iU S ?_;intro b1 w2 S3;refine iU S3 ?_;intro b4 w5 S6;refine zN 3 ?_;have O:=S6.drew;refine fM 29 25 O [7] ?_;iterate 5 refine gW ?_
 refine gk (v:=.slice sA aP.length sc) 5 E (St.del 7 O) (λ_ Si=>(aj E E (aG (St.cl 5 Si E awF)))) ?_;iterate 10 refine gW ?_
 refine gk 16 E (St.del 7 O) (λ_ _=>ko q) ?_;refine gW ?_;refine gk (v:=D y.b.ep) 18 E (St.del 7 O) (λ_ anW=>(aj E E (aG (Rd.cl2 (i:=1) (St.Rn 3 anW E) (bE (enc:=BX.cells) (sz:=6) (λ_=>E) hy E))))) ?_;iterate 3 refine gW ?_
 refine gk (v:=.agg #[D (n:Int),D (q:Int),D y.b.ep,D e.kind,D e.Mr,D e.id,D e.body,D e.MF,D e.Nc,D a.code,D a.fO,D a.Nc,D a.body,D num]) 22 E (St.del 7 O) (λ_ _=>gH) ?_;refine fE (m:=5) (r:=23) kQ ?_;refine mW (i:=23) E E (V:=λb=>.slice (aD b 0) 1 1) (row:= #[D (n:Int),D (q:Int),D y.b.ep,D e.kind,D e.Mr,D e.id,D e.body,D e.MF,D e.Nc,D a.code,D a.fO,D a.Nc,D a.body,D num]) (t:=164) O (wn E) E E (aV (vs:=[(0,.agg #[D (n:Int),D (q:Int),D y.b.ep,D e.kind,D e.Mr,D e.id,D e.body,D e.MF,D e.Nc,D a.code,D a.fO,D a.Nc,D a.body,D num])]) E xR kQ) ?_;intro b31 w32 vR;refine gW ?_;refine fE (m:=4) (r:=24) kQ ?_;refine lG (i:=24) E E (news:=[D (n:Int),D (q:Int),D y.b.ep,D e.kind,D e.Mr,D e.id,D e.body,D e.MF,D e.Nc,D a.code,D a.fO,D a.Nc,D a.body,D num]) (xs':=(aP++[(⟨n,q,y.b.ep,e,a,num⟩:jJ)]).flatMap jJ.cells) 8 vR (wn E) E E E E E E (St.mD (xs:=[D (n:Int),D (q:Int),D y.b.ep,D e.kind,D e.Mr,D e.id,D e.body,D e.MF,D e.Nc,D a.code,D a.fO,D a.Nc,D a.body,D num]) 0 vR E E E) underlying32 aqb E dQ (bY E) lQ Y (jB (enc:=jJ.cells) E E) ?_;intro J M w36 hc38 aBO yJ;refine gW ?_;refine fC kQ E E E ?_;refine zN 3 ?_;refine jH 6 yJ kQ ?_ (hs:=by exact awH);intro w40 JL;refine zQ ?_;refine jg ?_;refine zQ ?_;have h:=JL.drew;refine aK 29 h [6] ?_;refine aL 11 ?_;refine ak 11 E (St.del 6 h) (λ_ _=>ko q) ?_;refine dG ?_;refine ak (v:=D y.b.ep) 13 E (St.del 6 h) (λ_ acz=>(aj E E (aG (Rd.cl2 (i:=1) (St.Rn 4 acz E) (bE (enc:=BX.cells) (sz:=6) (λ_=>E) hy E))))) ?_;refine aL 5 ?_;refine ak 19 E (St.del 6 h) (λ_ _=>ko q) ?_;refine dG ?_;refine ak (v:=.slice y.A y.b.Gs.length y.c) 21 E (St.del 6 h) (λ_ abh=>(aj E E (aG (Rd.cl2 (i:=5) (St.Rn 4 abh E) (bE (enc:=BX.cells) (sz:=6) (λ_=>E) hy E))))) ?_;refine dG ?_;refine ak (v:=.agg #[D y.b.ep,D (y.b.Gs.length:Int)]) 23 E (St.del 6 h) (λ_ _=>gH) ?_;refine aL 2 ?_;refine ak (v:=pV kw (10+n*8)) 26 E (St.del 6 h) (λ_ _=>(aM E E E (fU n underlying95 kQ E hn))) ?_;refine ak (v:=pV kw (10+n*8+q*2)) 27 E (St.del 6 h) (λ_ _=>(aM E E E (fU q underlying94 kQ E hq))) ?_;refine bg 28 ?_;refine uH (i:=28) E E (cs:= #[D y.b.ep,D (y.b.Gs.length:Int)]) (row':=lJ (nv) d (.slice fA fx.length fc) (iD sh n q (y.b.ep,(y.b.Gs.length:Int))) (.slice J (aP.length+1) M) (.slice tA tl.length tc) calls) (fs':=(_::_::_::_::_::_::(.Mg kw (lJ (nv) d (.slice fA fx.length fc) (iD sh n q (y.b.ep,(y.b.Gs.length:Int))) (.slice J (aP.length+1) M) (.slice tA tl.length tc) calls) 97)::_::_::_::fs)) 6 h (wn E) E E E E E E VR E (bY E) (by rw[afc];omega) (am2 hn hq (a:=y.b.ep) (b:=(y.b.Gs.length:Int))) E ?_;intro w71 FP;refine aL 2 ?_;refine bX (l':=[]) trivial (oV ?_);have uq:=FP.aO [2,1,0];refine⟨E,J,M,aP++[(⟨n,q,y.b.ep,e,a,num⟩:jJ)],E,?_⟩;rw[length_append];exact uq
def zh{B kn kw bb n turn calls dc ic fc sc tc:Nat}{up:Bool}{dA iA fA sA tA:Option Addr}{data:List UInt8}{MC:Int}{Hh:Nat->Pl}{Us:Nat->Bool}{pv nv:Value}{d:QK}{sh:Nat->Nat->Int×Int}{bs:List BX}{ix fx:List LX}{aP:List jJ}{tl:List xq}{w0 w:World}{fs:List J8}{q:Nat}(hn:n<5)(hq:q<4){y:BX}(hy:bs[q]? =some y)(S:St B w0 w (nF kn n up dA data dc MC bb Hh Us iA ix ic pv turn bs (wF kw nv d fA fx fc sh sA aP sc tA tl tc calls fs)))(hb:(fx.length+1)*200<=140737488355328):
 Calls prog 90 #[pV kw 0,pV kn 0,D (q:Int)] w (λe w'=>e=.returned (.tuple #[])/\ ∃A' c' I,I=fx++[⟨ou n q y.b,none,0⟩]/\St B w0 w' (nF kn n up dA data dc MC bb Hh Us iA ix ic pv turn bs (wF kw nv d A' I c' sh sA aP sc tA tl tc calls fs))):=by
 have J:=(S.own 1 E).1;rw[iL (sz:=6) (λ_=>E)]at J;refine gP 29 func90 ?_;refine cw [0,1,2] ?_;refine zN 7 ?_;refine vv (ko q) ?_;refine vv (aj E E (dP (cs:=BX.cells y) (Rd.wZ (St.Rn 1 S E) (λ_ _ h=>bE (enc:=BX.cells) (sz:=6) (λ_=>E) hy h)))) ?_;refine gD S fZ ?_;intro b1 w2 S3;refine sa 0 S3 kQ ?_;intro w4 S5;refine zN 2 ?_;have S6:=S5.eH [5,5];have Z:=S6.drew;refine aK 15 Z [1,0] ?_;refine aL 13 ?_;refine ak (v:=.agg #[D 3,D (n:Int),D y.b.fr,D (q:Int),D y.b.ep,D (y.b.Gs.length:Int),D 0,D 0,D 0,D 0,D 0,D 0,D 0,.slice none 0 0,.bool false,D 0,D 0,D 0,D 0,D 0,D 0,D 0,D 0]) 13 E (Z.qp [1,0]) (λ_ _=>gH) ?_;refine bg 14 ?_;refine kE 14 E eQ (gX (x:=⟨ou n q y.b,none,0⟩) Z Y) ?_;rintro _ M4 ⟨rfl,A22,c23,M,O,sS⟩;refine⟨_,E,?_⟩;refine aL 2 ?_;refine bX (l':=[]) trivial (oV ?_);have tC:=sS.aO [2];have tF:=tC.eH [6,6,3,3,6,6,6];exact⟨E,A22,c23,M,O,tF⟩
noncomputable def lD(n q:Nat)(b:aU)(at_:Int)(fl:List bH):List bH:=if (ig b at_).2.2≠0 then fl else fl++[FY n q b at_]
def aBP{B:Nat}{w0 w:World}{a b c d e f g x:J8}{fs:List J8}(S:St B w0 w (a::b::c::d::e::f::g::x::fs)):St B w0 w (a::b::c::d::e::f::g::(fs++[x])):=
 S.perm (Perm.cons _ (Perm.cons _ (Perm.cons _ (Perm.cons _ (Perm.cons _ (Perm.cons _ (Perm.cons _ (perm_append_comm (l₁:=[x]) (l₂:=fs)))))))))
def LG{B kn kw bb n turn calls dc ic fc sc tc:Nat}{up:Bool}{dA iA fA sA tA:Option Addr}{data:List UInt8}{MC:Int}{Hh:Nat->Pl}{Us:Nat->Bool}{pv nv:Value}{d:QK}{sh:Nat->Nat->Int×Int}{bs:List BX}{ix fx:List LX}{aP:List jJ}{tl:List xq}{w0 w:World}{fs:List J8}{q:Nat}{L:List J8}(hn:n<5)(hq:q<4){y:BX}(hy:bs[q]? =some y)(at_:Int)(Z:Cn L y)(hL:∀f∈L,f∈fs)(aBQ:y.b.Gs.length*48<=reachBytes)(fO: -2<=y.b.ep/\y.b.ep<=2000000)(S:St B w0 w (nF kn n up dA data dc MC bb Hh Us iA ix ic pv turn bs (wF kw nv d fA fx fc sh sA aP sc tA tl tc calls fs)))(hb:(fx.length+1)*200<=140737488355328):
 Calls prog 93 #[pV kw 0,pV kn 0,D (q:Int),D at_] w (λe w'=>e=.returned (.tuple #[])/\ ∃(A':Option Addr) (c':Nat) (O:List LX) (N:List J8),O.map LX.l=lD n q y.b at_ (fx.map LX.l)/\(∀x∈O,x∈fx\/Rx N x)/\St B w0 w' (nF kn n up dA data dc MC bb Hh Us iA ix ic pv turn bs (wF kw nv d A' O c' sh sA aP sc tA tl tc calls (fs++N)))):=by
 have hlen:=(S.own 1 E).1;rw[iL (sz:=6) (λ_=>E)]at hlen;refine gP 44 func93 ?_;refine cw [0,1,2,3] ?_;refine zN 7 ?_;refine vv (ko q) ?_;refine vv (aj E E (dP (cs:=BX.cells y) (Rd.wZ (St.Rn 1 S E) (λ_ _ h=>bE (enc:=BX.cells) (sz:=6) (λ_=>E) hy h)))) ?_;refine gD S fZ ?_;intro b1 w2 S3;refine sa 0 S3 kQ ?_;intro w4 S5;refine zN 6 ?_;refine dJ eQ ((show Calls _ _ _ _ (Ta _ (ig y.b at_))from Yv y.b.Gq y.b.ep y.b.fr y.b.tg y.b.rd y.A y.c y.b.Gs at_ Z.2 _ (Z.1.rd S5 (M9 8 E hL)) aBQ)) ?_;rintro _ w9 ⟨A6,c7,aBR,rfl,T11⟩;refine⟨_,E,?_⟩;have DI:=S5.ext T11 E;refine zN 13 ?_;by_cases h12:(ig y.b at_).2.2=0
 ·refine zN 6 ?_;have Ld:=DI.eH [6,6];have I:=Ld.drew;refine aK 16 I [1,0] ?_;refine aL 10 ?_;refine ak (v:=D (y.b.ep+1)) 10 E (I.qp [1,0]) (λ_ _=>iI) ?_;refine aL 3 ?_;refine ak (v:=.agg #[D 4,D (n:Int),D y.b.tg,D (q:Int),D (y.b.ep+1),D at_,D 0,D 0,D 0,D 0,D 0,D 0,D 0,.slice A6 ((ig y.b at_).1.length) c7,.bool ((ig y.b at_).2.1),D 0,D 0,D 0,D 0,D 0,D 0,D 0,D 0]) 14 E (I.qp [1,0]) (λ_ _=>gH) ?_;refine bg 15 ?_;refine kE 15 E eQ (gX (x:=⟨FY n q y.b at_,A6,c7⟩) I Y) ?_;rintro _ ZQ ⟨rfl,A30,c31,aBS,M,Cc⟩;refine⟨_,E,?_⟩;refine aL 2 ?_;refine bX (l':=[]) trivial (oV ?_);have tH:=Cc.aO [3];have yJ:=tH.eH [7,7,3,3,7,7,7];refine⟨E,A30,c31,aBS,[.cZ 6 A6 ((ig y.b at_).1.length) (((ig y.b at_).1).flatMap Ev.cells)],?_,?_,?_⟩
  · rw[lD,if_neg (λh=>h h12),M,map_append];rfl
  · intro x J;rw[M]at J;rcases mem_append.1 J with J|J;exact .inl J;rw[mem_singleton]at J;subst J;exact .inr ⟨Ro.cZ (mem_singleton.2 E),aBR⟩
  · exact aBP yJ
 refine zN 7 ?_;have Az:=DI.aO [1];have xV:=Az.eH [7,7,7,7,7,7,7];have vS:=xV.aO [7];refine⟨E,fA,fc,fx,[],?_,?_,?_⟩
 · rw[lD,if_pos h12]
 · exact λx J=>.inl J
 · rw[append_nil];exact vS
def aBT(w:World)(r:List UInt8×Int×Int)(e:Ending)(w':World):Prop:=
 ∃A c,e=.returned (.tuple #[.agg #[.slice A r.1.length c,D r.2.1],D r.2.2])/\St w.heap.size w w' [.cZ 1 A r.1.length (Gt r.1)]
def BD{P:Program}{f:FuncId}{vs:Array Value}{w:World}{r:List UInt8×Int×Int}(h:Calls P f vs w (rY w r)):Calls P f vs w (aBT w r):=h.mono λe w' ⟨A,c,h1,I,J,M⟩=>
 ⟨A,c,h1,((St.start w).on I).cons ⟨J,M⟩ λk _ i g O=>by simp at O⟩
def Jj{d:List UInt8}{s:Int}{rs:List cO}{k:Nat}{r:cO}(h:rs[k]? =some r):fD d s (rs.drop k)=if (jc d s r).2.2≠0 then none else fD (jc d s r).1 s (rs.drop (k+1)):=by rw[Rc h,fD]
def aff{d:List UInt8}{s:Int}{r:cO}(h:(jc d s r).2.2=0):(jc d s r).2.1=s:=by rw[(OE h).1]
def qd{B kn kw bb n turn calls dc ic fc sc tc:Nat}{up:Bool}{dA iA fA sA tA:Option Addr}{data:List UInt8}{MC:Int}{Hh:Nat->Pl}{Us:Nat->Bool}{pv nv:Value}{d:QK}{sh:Nat->Nat->Int×Int}{bs:List BX}{ix fx:List LX}{aP:List jJ}{tl:List xq}{w0 w:World}{fs:List J8}{L:List J8}{rs:List cO}{RA:Option Addr}{rc:Nat}(hrs:Ro fs 10 RA rs.length (rs.flatMap cO.cells))(htp:Ro L 1 dA data.length (Gt data))(hL:∀f∈L,f∈fs)(hrl:rs.length<=1000000)(S:St B w0 w (nF kn n up dA data dc MC bb Hh Us iA ix ic pv turn bs (wF kw nv d fA fx fc sh sA aP sc tA tl tc calls fs))):
 Calls prog 44 #[pV kn 0,.slice RA rs.length rc] w (λe w'=>(fD data MC rs=none/\e=.returned (.bool false)/\St B w0 w' (nF kn n up dA data dc MC bb Hh Us iA ix ic pv turn bs (wF kw nv d fA fx fc sh sA aP sc tA tl tc calls fs)))\/ ∃d' A' c' N,fD data MC rs=some d'/\e=.returned (.bool true)/\Ro (L++N) 1 A' d'.length (Gt d')/\St B w0 w' (nF kn n up A' d' c' MC bb Hh Us iA ix ic pv turn bs (wF kw nv d fA fx fc sh sA aP sc tA tl tc calls (fs++N)))):=by
 refine gP 34 func44 ?_;refine cw [0,1] ?_;refine zN 10 ?_;refine vv (aj E E (dP (cs:=[.slice dA data.length dc,D MC]) (St.rg 0 S E (sj)))) ?_;refine gD S zn ?_;intro b1 w2 S3;refine sa 0 S3 kQ ?_;intro w4 S5;refine zN 11 ?_;refine fJ (X:=Nat×(Option Addr)×Nat×(List UInt8)×(List J8)) (λI=>[(0,pV kn 0),(5,pV b1 0),(14,.slice RA rs.length rc),(15,D (rs.length:Int)),(16,D (I.1:Int))]) (λI wr=>(I.1<=rs.length)/\(fD data MC rs=fD I.2.2.2.1 MC (rs.drop I.1))/\(Ro (L++I.2.2.2.2) 1 I.2.1 I.2.2.2.1.length (Gt I.2.2.2.1))/\St B w0 wr ((.Mg b1 #[.slice I.2.1 I.2.2.2.1.length I.2.2.1,D MC] 101)::(nF kn n up dA data dc MC bb Hh Us iA ix ic pv turn bs (wF kw nv d fA fx fc sh sA aP sc tA tl tc calls (fs++I.2.2.2.2))))) (λI=>rs.length-I.1) (0,dA,dc,data,[]) ?_ ?_ ?_
 ·exact⟨zero_le _,E,by rw[append_nil];exact htp,by rw[append_nil];exact S5⟩
 ·exact Av
 rintro⟨k,A1,c1,M,N1⟩ w6 ⟨hi8,O,J,S7⟩
 try dsimp only at hi8 O J S7
 refine bI (l':=[(0,pV kn 0),(5,pV b1 0),(14,.slice RA rs.length rc),(15,D (rs.length:Int)),(16,D (k:Int))]) Av (aQ (aC ?_));by_cases h11:(k:Int)< (rs.length:Int)
 ·refine zN 10 ?_;obtain⟨x,hx⟩:∃x,rs[k]? =some x:=⟨_,getElem?_eq_getElem Y⟩;refine zQ ?_;obtain⟨rb,ro,hra,_,hrc⟩:=(hrs.rd S7 (M9 8 E (λf hf=>mem_append_left _ hf))).2 Y;subst hra;refine vv (ko k) ?_;refine vv (v:=.agg #[D x.kind,D x.Nt,D x.Mc,D x.Rl,D x.ev.kind,D x.ev.Mr,D x.ev.id,D x.ev.body,D x.ev.MF,D x.ev.Nc]) (aj E E (dP (cs:=cO.cells x) (λj u hu=>by rw[Nat.add_assoc];exact hrc (k*10+j) u (bE (enc:=cO.cells) (sz:=10) (λ_=>E) hx hu)))) ?_;refine gD S7 xC ?_;intro b12 En mZ;refine stA 0 mZ kQ ?_;intro JR o8;refine zN 6 ?_;refine dJ eQ (BD (Io A1 M.length c1 M MC x _ (J.rd o8 (M9 9 E (Xl hL))))) ?_;rintro _ GH ⟨Z,c18,rfl,T21⟩;refine⟨_,E,?_⟩;have qj:=o8.ext T21 E;refine zN 3 ?_;refine gD qj zn ?_;intro b22 JN kF;refine stA 0 kF kQ ?_;intro w25 sU;refine zN 7 ?_;by_cases h27:(jc M MC x).2.2=0
  ·have hsy:=aff h27;rw[hsy]at sU;refine zN 8 ?_;refine stA 3 sU kQ ?_;intro V3 tF;refine zN 4 ?_;refine vv (v:=D ((k+1:Nat):Int)) iI ?_;refine zN 2 ?_;have zP:=tF.aO [2,0];have oW:=zP.eH [8,8,8,8,8,8,8,8];have uw:St B w0 V3 (_::_::_::_::_::_::_::_::((fs++N1)++[.cZ 1 Z ((jc M MC x).1.length) (Gt ((jc M MC x).1))])):=oW.toEnd 8 E;have vR:=uw;rw[append_assoc]at vR;refine bC (k+1,Z,c18,(jc M MC x).1,N1++[.cZ 1 Z ((jc M MC x).1.length) (Gt ((jc M MC x).1))]) ?_ Av (by first|omega|(dsimp only;omega));exact⟨uQ,(by dsimp only;rw[O,Jj hx,if_neg (λh=>h h27)]),(Ro.cZ afe),vR⟩
  refine zN 17 ?_;have qY:=sU.aO [3,2,1,0];exact .inl ⟨by rw[O,Jj hx,if_pos h27],E,qY.Rz⟩
 refine zN 16 ?_;refine jH (row':=dN n up (.slice A1 M.length c1) MC (.slice (aD bb 0) 4 4) Hh Us (.slice iA ix.length ic) (pv) turn) 1 S7 kQ ?_;intro ZI tH;refine zQ ?_;refine bX (l':=[]) trivial (iw (aQ (aC (va ?_))));refine zN 4 ?_;have yJ:=tH.aO [0];exact .inr ⟨M,A1,c1,N1,by rw[O,drop_eq_nil_of_le Y];rfl,E,J,yJ⟩
structure Uk (B:Nat)(w0:World):Prop where
 u0:w0.cell? ⟨1,0,none⟩=some (D (-1))
 u1:w0.cell? ⟨1,1,none⟩=some (D 0)
 ul:1<B
 n0:w0.cell? ⟨0,0,none⟩=some (D (-1))
 n1:w0.cell? ⟨0,1,none⟩=some (D 0)
 nl:0<B
def Uk.rg{B:Nat}{w0 w:World}{fs:List J8}(h:Uk B w0)(S:St B w0 w fs):w.rangeAt 1 0 [D (-1),D 0]:=λj u I=>by
 have J:j<2:=(List.getElem?_eq_some_iff.1 I).1;have:j=0\/j=1:=Y
 rcases this with rfl|rfl
 ·rw[<-I];exact(S.Nr.cell (p:=⟨1,0,none⟩) h.ul).trans h.u0
 rw[<-I];exact(S.Nr.cell (p:=⟨1,1,none⟩) h.ul).trans h.u1
def Uk.nw{B:Nat}{w0 w:World}{fs:List J8}(h:Uk B w0)(S:St B w0 w fs):Nw w:=
 ⟨(S.Nr.cell (p:=⟨0,0,none⟩) h.nl).trans h.n0,(S.Nr.cell (p:=⟨0,1,none⟩) h.nl).trans h.n1,Nat.lt_of_lt_of_le h.nl S.base⟩
def sW{P:Program}{t:TypeId}{w:World}{b m:Nat}{row:Array Value}{tt:TypeId}{ds:TypeDesc}(I:gB w b row tt)(J:P.underlying t=some ds)(M:ds.isRow=true)(O:(P.info? t).map (·.size)=some m)(Z:row.size=m):(Instr.loadAt t (pV b 0)).run P w=.ok (.agg row) w:=by
 have:=rD (P:=P) (w:=w) (t:=t) (b:=b) (off:=0) (cs:=row.toList) J M O (by simpa using Z) (λj u h=>by rw[Nat.zero_add];exact I.cell (by simpa using h));simpa using this
def D6{B kn kw bb n turn calls dc ic fc sc tc:Nat}{up:Bool}{dA iA fA sA tA:Option Addr}{data:List UInt8}{MC:Int}{Hh:Nat->Pl}{Us:Nat->Bool}{pv nv:Value}{d:QK}{sh:Nat->Nat->Int×Int}{bs:List BX}{ix fx:List LX}{aP:List jJ}{tl:List xq}{w0 w:World}{fs:List J8}{q b6 b2 b3 b7:Nat}(hn:n<5)(hq:q<4){y:BX}(hy:bs[q]? =some y)(x:LX)(a:iW)(S:St B w0 w (nF kn n up dA data dc MC bb Hh Us iA ix ic pv turn bs (wF kw nv d fA fx fc sh sA aP sc tA tl tc calls fs)))(O:J8.Mg b6 (LX.row x) 119∈fs)(J:J8.Mg b2 #[gV kn] 98∈fs)(GY:J8.Mg b3 #[D (q:Int)] 3∈fs)(Z:J8.Mg b7 #[gV kw] 87∈fs)(hu:Uk B w0)(hb:(fx.length+1)*200<=140737488355328)(hb2:(aP.length+1)*112<=140737488355328):
 Calls prog 87 #[.agg #[D a.code,D a.fO,D a.Nc,D a.body],pV b6 0,pV b2 0,pV b3 0,pV b7 0] w (λe w'=>e=.returned (.tuple #[])/\(Nl y.b-> ∃sA' sc' acC J2 J3 OQ,acC=aP++[(⟨n,q,y.b.ep,x.l.op,a,x.l.num⟩:jJ)]/\OQ=fx++[⟨lZ n x.l.num a nowhere,none,0⟩]/\St B w0 w' (nF kn n up dA data dc MC bb Hh Us iA ix ic pv turn bs (wF kw nv d J2 OQ J3 (iD sh n q (y.b.ep,(y.b.Gs.length:Int))) sA' acC sc' tA tl tc calls fs)))/\(¬Nl y.b-> ∃J2 J3 OQ,OQ=fx++[⟨lZ n x.l.num a (Hh q),none,0⟩]/\St B w0 w' (nF kn n up dA data dc MC bb Hh Us iA ix ic pv turn bs (wF kw nv d J2 OQ J3 sh sA aP sc tA tl tc calls fs)))):=by
 have hlen:=(S.own 1 E).1;rw[iL (sz:=6) (λ_=>E)]at hlen;refine gP 51 func87 ?_;refine cw [0,1,2,3,4] ?_;refine zN 2 ?_;refine iU S ?_;intro b1 w2 S3;refine zN 5 ?_;refine vv (aj E E (aG ((St.Nv S3 (M9 8 E dY _ O)).cell E))) ?_;refine zQ ?_;refine vv (aj E E (dP (cs:=[D (-1),D 0]) (Uk.rg hu S3))) ?_;refine vv (v:=.agg #[D x.l.num,D a.code,D a.fO,D a.Nc,D a.body,D (-1),D 0]) gH ?_;refine gD S3 azV ?_;intro b4 w5 S6;refine sa 0 S6 kQ ?_;intro w7 S8;refine zN 4 ?_;refine fu S8 mixed kQ ?_;refine uv (v:=pV kn 0) (λ_ Sx9=>(aj E E (aG ((St.Nv Sx9 (M9 9 E dY _ J)).cell E)))) ?_;refine zN 3 ?_;refine uv (v:=D (q:Int)) (λ_ Si=>(aj E E (aG ((St.Nv Si (M9 9 E dY _ GY)).cell E)))) ?_;refine uv (λ_ _=>ko q) ?_;refine zQ ?_;refine uv (v:=D y.b.Gq) (λ_ aBU=>(aj E E (aG (Rd.cl2 (i:=0) (St.Rn 3 aBU E) (bE (enc:=BX.cells) (sz:=6) (λ_=>E) hy E))))) ?_;refine zQ ?_;refine eP λM0 I=>?_;refine zN 4 ?_;by_cases h20:y.b.Gq=1
 ·refine zN 9 ?_;refine vv (aj E E (aG ((St.Nv I (M9 9 E dY _ Z)).cell E))) ?_;refine vv (aj E E (aG ((St.Nv I (M9 9 E dY _ J)).cell E))) ?_;refine vv (aj E E (aG ((St.Nv I (M9 9 E dY _ GY)).cell E))) ?_;refine zQ ?_;refine vv (aj E E (dP (cs:=[D x.l.op.kind,D x.l.op.Mr,D x.l.op.id,D x.l.op.body,D x.l.op.MF,D x.l.op.Nc]) (λj u hj=>(St.Nv I (M9 9 E dY _ O)).cell (Xm j u hj)))) ?_;refine zN 2 ?_;refine vv (aj E E (aG ((St.Nv I (M9 9 E dY _ O)).cell E))) ?_;have vC:=I.eH [8,8,8,8,8,8,8];refine dJ eQ (nR hn hq hy x.l.op a x.l.num vC Y) ?_;rintro _ M4 ⟨rfl,A22,c23,aBV,aBW,sS⟩;refine⟨_,E,?_⟩;refine zN 2 ?_;have tC:=sS.eH [4,4];have tF:=tC.drew;refine aK 8 tF [1,0] ?_;refine ak (v:=pV kw 0) 0 E (tF.qp [1,0]) (λ_ acD=>(aj E E (aG ((St.Nv acD (M9 7 E dY _ Z)).cell E)))) ?_;refine ak (v:=pV kn 0) 1 E (tF.qp [1,0]) (λ_ abr=>(aj E E (aG ((St.Nv abr (M9 7 E dY _ J)).cell E)))) ?_;refine aL 4 ?_;refine ak (v:=.agg #[D 1,D (n:Int),D (-1),D 0,D 0,D 0,D 0,D 0,D 0,D 0,D 0,D 0,D 0,.slice none 0 0,.bool false,D 0,D x.l.num,D a.code,D a.fO,D a.Nc,D a.body,D (-1),D 0]) 6 E (tF.qp [1,0]) (λ_ _=>gH) ?_;refine bg 7 ?_;refine kE 7 E eQ (gX (x:=⟨lZ n x.l.num a nowhere,none,0⟩) tF Y) ?_;rintro _ w41 ⟨rfl,A37,c38,aus,aoz,Eo⟩;refine⟨_,E,?_⟩;refine aL 2 ?_;refine bX (l':=[]) trivial (oV ?_);have rW:=Eo.aO [8,7];have FQ:=rW.eH [6,6,3,3,6,6,6];exact⟨E,λ_=>⟨A22,c23,aBV,A37,c38,aus,aBW,aoz,FQ⟩,λh=>absurd (by unfold Nl;omega) h⟩
 refine zN 3 ?_;by_cases h45:y.b.Gq=2
 ·refine zN 6 ?_;refine vv (aj E E (aG ((St.Nv I (M9 9 E dY _ Z)).cell E))) ?_;refine vv (aj E E (aG ((St.Nv I (M9 9 E dY _ J)).cell E))) ?_;refine vv (aj E E (aG ((St.Nv I (M9 9 E dY _ GY)).cell E))) ?_;refine zQ ?_;refine vv (aj E E (dP (cs:=[D x.l.op.kind,D x.l.op.Mr,D x.l.op.id,D x.l.op.body,D x.l.op.MF,D x.l.op.Nc]) (λj u hj=>(St.Nv I (M9 9 E dY _ O)).cell (Xm j u hj)))) ?_;refine zN 2 ?_;refine vv (aj E E (aG ((St.Nv I (M9 9 E dY _ O)).cell E))) ?_;have xk:=I.eH [8,8,8,8,8,8,8];refine dJ eQ (nR hn hq hy x.l.op a x.l.num xk Y) ?_;rintro _ w51 ⟨rfl,M6,c48,aoA,aiw,pG⟩;refine⟨_,E,?_⟩;refine zN 2 ?_;have CS:=pG.eH [4,4];have uO:=CS.drew;refine aK 8 uO [1,0] ?_;refine ak (v:=pV kw 0) 0 E (uO.qp [1,0]) (λ_ aoB=>(aj E E (aG ((St.Nv aoB (M9 7 E dY _ Z)).cell E)))) ?_;refine ak (v:=pV kn 0) 1 E (uO.qp [1,0]) (λ_ acz=>(aj E E (aG ((St.Nv acz (M9 7 E dY _ J)).cell E)))) ?_;refine aL 4 ?_;refine ak (v:=.agg #[D 1,D (n:Int),D (-1),D 0,D 0,D 0,D 0,D 0,D 0,D 0,D 0,D 0,D 0,.slice none 0 0,.bool false,D 0,D x.l.num,D a.code,D a.fO,D a.Nc,D a.body,D (-1),D 0]) 6 E (uO.qp [1,0]) (λ_ _=>gH) ?_;refine bg 7 ?_;refine kE 7 E eQ (gX (x:=⟨lZ n x.l.num a nowhere,none,0⟩) uO Y) ?_;rintro _ VZ ⟨rfl,A62,c63,aBX,aBY,uL⟩;refine⟨_,E,?_⟩;refine aL 2 ?_;refine bX (l':=[]) trivial (oV ?_);have CU:=uL.aO [8,7];have Aw:=CU.eH [6,6,3,3,6,6,6];exact⟨E,λ_=>⟨M6,c48,aoA,A62,c63,aBX,aiw,aBY,Aw⟩,λh=>absurd (by unfold Nl;omega) h⟩
 refine zN 5 ?_;have M:=I.drew;refine fM 8 6 M [] ?_;refine gk (v:=pV kn 0) 0 E M (λ_ aoC=>(aj E E (aG ((St.Nv aoC (M9 9 E dY _ J)).cell E)))) ?_;refine gk (v:=D (q:Int)) 1 E M (λ_ aBZ=>(aj E E (aG ((St.Nv aBZ (M9 9 E dY _ GY)).cell E)))) ?_;iterate 2 refine gW ?_
 refine gk (v:=pV kn (5+q*2)) 4 E M (λ_ _=>(aM E E E (fU q underlying28 kQ E hq))) ?_;refine gk (v:=.agg #[D ((Hh q).node),D ((Hh q).Mc)]) 5 E M (λ_ acF=>(aj E E (dP (cs:=[D ((Hh q).node),D ((Hh q).Mc)]) (St.rg 2 acF E (alj hq))))) ?_;refine fC kQ E E E ?_;refine zQ ?_;refine jH (row':= #[D x.l.num,D a.code,D a.fO,D a.Nc,D a.body,D ((Hh q).node),D ((Hh q).Mc)]) 0 M kQ ?_;intro w77 JU;refine zQ ?_;refine jg ?_;refine zQ ?_;have BZ:=JU.eH [6,6];have Cb:=BZ.drew;refine aK 8 Cb [1,0] ?_;refine ak (v:=pV kw 0) 0 E (Cb.qp [1,0]) (λ_ aB0=>(aj E E (aG ((St.Nv aB0 (M9 7 E dY _ Z)).cell E)))) ?_;refine ak (v:=pV kn 0) 1 E (Cb.qp [1,0]) (λ_ aB1=>(aj E E (aG ((St.Nv aB1 (M9 7 E dY _ J)).cell E)))) ?_;refine aL 4 ?_;refine ak (v:=.agg #[D 1,D (n:Int),D (-1),D 0,D 0,D 0,D 0,D 0,D 0,D 0,D 0,D 0,D 0,.slice none 0 0,.bool false,D 0,D x.l.num,D a.code,D a.fO,D a.Nc,D a.body,D ((Hh q).node),D ((Hh q).Mc)]) 6 E (Cb.qp [1,0]) (λ_ _=>gH) ?_;refine bg 7 ?_;refine kE 7 E eQ (gX (x:=⟨lZ n x.l.num a (Hh q),none,0⟩) Cb Y) ?_;rintro _ w92 ⟨rfl,A88,c89,aB2,aB3,DF⟩;refine⟨_,E,?_⟩;refine aL 2 ?_;refine bX (l':=[]) trivial (oV ?_);have Ic:=DF.aO [3,2];have Lp:=Ic.eH [6,6,3,3,6,6,6];exact⟨E,λh=>absurd h (by unfold Nl;omega),λ_=>⟨A88,c89,aB2,aB3,Lp⟩⟩
section
open ChangeAt
section
variable {K:CK}{B n q:Nat}{w0 w w':World}{fs N Ls L:List J8}{m m':Cl}{H H':List LX}{R:CX}{X X':Nd}{z z':NX}
def xH{b:aU}(h:au b=0): -2<=b.ep/\b.ep<=2000000:=by
 have h1:=(eT h).1;unfold bq at h1;omega
def dX.at_(h:dX K L n X z)(J:q<4):∃y,z.bx[q]? =some y/\y.b=X.bs q/\Cn L y:=by
 have M:z.bx.length=4:=by have:=congrArg length h.Ry;simpa[vB]using this
 refine⟨z.bx[q],getElem?_eq_getElem Y,?_,h.TF _ (getElem_mem _)⟩;have h1:(z.bx.map BX.b)[q]? =some (z.bx[q]).b:=by rw[getElem?_map,getElem?_eq_getElem Y];rfl
 rw[h.Ry]at h1;have I:q=0\/q=1\/q=2\/q=3:=Y
 rcases I with rfl|rfl|rfl|rfl<;>(simp only[vB]at h1;exact(Option.some.inj h1).symm)
def Jk{bx:List BX}{f:Nat->aU}{y:BX}(h:bx.map BX.b=vB f)(I:q<4):(bx.set q y).map BX.b=vB (Na f q y.b):=by rw[map_set,h,V9 I]
def Ez{bx:List BX}{y:BX}(h:∀u∈bx,Cn L u)(I:Cn L y):∀u∈bx.set q y,Cn L u:=λu J=>by
 rcases mem_or_eq_of_mem_set J with h1|h1
 ·exact h u h1
 rw[h1];exact I
def CX.go(R:CX)(n:Nat)(z':NX)(fA:Option Addr)(fc:Nat)(fx:List LX)(sA:Option Addr)(sc:Nat)(tA:Option Addr)(tc:Nat)(N:List J8):CX:=
 {R with nx:=Na R.nx n z',fA:=fA,fc:=fc,fx:=fx,sA:=sA,sc:=sc,tA:=tA,tc:=tc,L:=R.L++N}
def Wd.fin{fA sA tA:Option Addr}{fc sc tc kn kw:Nat}{fx:List LX}{rr:List J8}(M:K.nb n=kn)(O:K.wb=kw)(Z:gG K R m fs n=rr)(G:Good K R m H)(hn:n<5)
  (S:St B w0 w' (DZ kn n X' z'++(D5 kw (R.go n z' fA fc fx sA sc tA tc (N++Ls)) m'++(Ls++(rr++N)))))
  (hX:dX K (R.L++(N++Ls)) n X' z') (hf:∀u∈fx,u∈R.fx\/Rx (R.L++(N++Ls)) u) (h1:m'.ah=Na m.ah n X') (h2:m'.Ms=fx.map LX.l) (hH:∀u∈H',u∈H\/Rx (R.L++(N++Ls)) u):Wd K B w0 w' fs m' H':=by
 subst M;subst O;subst Z;have I:∀f∈R.L,f∈R.L++(N++Ls):=λf h=>mem_append_left _ h;have ez:(R.go n z' fA fc fx sA sc tA tc (N++Ls)).nx n=z':=Ee _ _ _;have eX:m'.ah n=X':=by rw[h1];exact Ee _ _ _
 refine Wd.close (n:=n) (R:=R) (m:=m) (N:=N) (Ls:=Ls) (R':=R.go n z' fA fc fx sA sc tA tc (N++Ls)) ?_ (by rw[ez,eX];exact S) hn E ?_
 ·refine⟨h2.symm,λu hu=>(hf u hu).elim (λh=>(G.flo u h).mono I) id,λj J=>?_,G.arr.mono I,λu hu=>(hH u hu).elim (λh=>(G.hld u h).mono I) id⟩;by_cases e:j=n
  ·subst e;rw[ez,eX];exact hX
  rw[h1,Kg e]
  show dX K _ j _ (Na R.nx n z' j)
  rw[Kg e];exact(G.iK j J).mono I
 intro j _ J;exact⟨by rw[h1,Kg J],Kg J⟩
def Wd.dR{fA sA tA:Option Addr}{fc sc tc kn kw:Nat}{fx:List LX}{rr:List J8}(h:K.nb n=kn)(I:K.wb=kw)(J:gG K R m fs n=rr)(G:Good K R m H)(hn:n<5)
  (S:St B w0 w' (DZ kn n X' z'++(D5 kw (R.go n z' fA fc fx sA sc tA tc Ls) m'++(Ls++rr))))
  (M:dX K (R.L++Ls) n X' z') (O:∀u∈fx,u∈R.fx\/Rx (R.L++Ls) u) (h1:m'.ah=Na m.ah n X') (Z:m'.Ms=fx.map LX.l) (hH:∀u∈H',u∈H\/Rx (R.L++Ls) u):Wd K B w0 w' fs m' H':=
 Wd.fin (N:=[]) h I J G hn (by rw[append_nil];exact S) M O h1 Z hH
def dX.more(h:dX K L n X z):dX K (L++N) n X z:=h.mono λ_ I=>mem_append_left _ I
def dX.Ny{hs:Nat->Pl}{su:Nat->Bool}(h:dX K L n X z):dX K L n {X with Nh:=hs,Nf:=su} z:=⟨h.Ry,h.TF,h.yh,h.ixm,h.ixo,h.lu⟩
def mH{x:LX}{P:LX->Prop}:∀u∈H,u∈x::H\/P u:=λ_ h=>.inl (mem_cons_of_mem _ h)
def pE{fx:List LX}{x:LX}{P:LX->Prop}(I:P x):∀u∈fx++[x],u∈fx\/P u:=λu J=>(mem_append.1 J).elim .inl λh=>by rw[mem_singleton]at h;subst h;exact .inr I
def je{l:bH}{c:Nat}(h:l.Gs=[]):Rx L ⟨l,none,c⟩:=by
 unfold Rx GX;dsimp only;rw[h];exact⟨Ro.Q8,zero_le _⟩
def sw{f:J8}(h:f∈Ls):f∈L++(N++Ls):=mem_append_right _ (mem_append_right _ h)
def mLN:∀f∈L++N,f∈L++(N++Ls):=λf h=>by rw[<-append_assoc];exact mem_append_left _ h
end
section
variable {m:Cl}{n q:Nat}{X:Nd}{b:aU}{op:Ev}{num:Int}{a:iW}{l:bH}{d:List UInt8}
def Fa(I:m.ah n=X)(J:X.bs q=b)(h:Nl b):m.done n q op num a={m with aP:=m.aP++[⟨n,q,b.ep,op,a,num⟩],MG:=iD m.MG n q (b.ep,b.Gs.length),Ms:=m.Ms++[lZ n num a nowhere]}:=by
 subst I;subst J;unfold Cl.done;rw[if_pos h];rfl
def Jl(I:m.ah n=X)(J:X.bs q=b)(h:¬Nl b):m.done n q op num a={m with Ms:=m.Ms++[lZ n num a (X.Nh q)]}:=by
 subst I;subst J;unfold Cl.done;rw[if_neg h];rfl
def ag5{SR:aU×iW×Bool×Int}(I:m.ah n=X)(J:X.bs l.q=b)(M:gU b l.op=SR)(h:SR.2.2.1=false):m.serve n l=m.done n l.q l.op l.num SR.2.1:=by
 subst I;subst J;subst M;unfold Cl.serve;rw[if_pos h]
def YK{SR:aU×iW×Bool×Int}(I:m.ah n=X)(J:X.bs l.q=b)(M:gU b l.op=SR)(h:SR.2.2.1=true)(hw:fD X.data X.MC [fH 2 l.q SR.1.ep 0 l.op]=none):m.serve n l=m.done n l.q l.op l.num (sK 14):=by
 subst I;subst J;subst M;unfold Cl.serve Nd.write;rw[if_neg (by rw[h];simp),hw];rfl
def ag6{SR:aU×iW×Bool×Int}(I:m.ah n=X)(J:X.bs l.q=b)(M:gU b l.op=SR)(h:SR.2.2.1=true)(hw:fD X.data X.MC [fH 2 l.q SR.1.ep 0 l.op]=some d):
 m.serve n l=m.put n {X with data:=d,Mw:=some (.serve l.q SR.1.Gs l.op l.num SR.2.1)}:=by
 subst I;subst J;subst M;unfold Cl.serve Nd.write;rw[if_neg (by rw[h];simp),hw];rfl
def YL{BR:aU×Int}(I:m.ah n=X)(J:X.bs l.q=b)(M:dw b l.ep l.fr=BR)(h:BR.2≠0):m.Qz n l=m:=by
 subst I;subst J;subst M;unfold Cl.Qz;rw[if_pos h]
def afH{BR:aU×Int}(I:m.ah n=X)(J:X.bs l.q=b)(M:dw b l.ep l.fr=BR)(h:BR.2=0)(O:BR.1.ep=b.ep):m.Qz n l={m with Ms:=m.Ms++[ou n l.q b]}:=by
 subst I;subst J;subst M;unfold Cl.Qz;rw[if_neg (λe=>e h),if_pos O];rfl
def aiN{BR:aU×Int}(I:m.ah n=X)(J:X.bs l.q=b)(M:dw b l.ep l.fr=BR)(h:BR.2=0)(O:BR.1.ep≠b.ep)(hw:fD X.data X.MC [fH 4 l.q BR.1.ep l.fr aI]=none):m.Qz n l=m:=by
 subst I;subst J;subst M;unfold Cl.Qz Nd.write;rw[if_neg (λe=>e h),if_neg O,hw];rfl
def YM{BR:aU×Int}(I:m.ah n=X)(J:X.bs l.q=b)(M:dw b l.ep l.fr=BR)(h:BR.2=0)(O:BR.1.ep≠b.ep)(hw:fD X.data X.MC [fH 4 l.q BR.1.ep l.fr aI]=some d):
 m.Qz n l=m.put n {X with data:=d,Mw:=some (.Ns l.q BR.1)}:=by
 subst I;subst J;subst M;unfold Cl.Qz Nd.write;rw[if_neg (λe=>e h),if_neg O,hw];rfl
def OT(I:m.ah n=X)(J:X.bs l.q=b)(h:b.tg≠l.fr\/b.ep+1≠l.ep):m.QV n l=m:=by
 subst I;subst J;unfold Cl.QV;rw[if_pos h]
def YN{BR:aU×Int}(I:m.ah n=X)(J:X.bs l.q=b)(M:bG b l.at_=BR)(h1:¬(b.tg≠l.fr\/b.ep+1≠l.ep))(h:BR.2≠0):m.QV n l=m:=by
 subst I;subst J;subst M;unfold Cl.QV;rw[if_neg h1,if_pos h]
def Vs{BR:aU×Int}(I:m.ah n=X)(J:X.bs l.q=b)(M:bG b l.at_=BR)(h1:¬(b.tg≠l.fr\/b.ep+1≠l.ep))(h:BR.2=0)(O:BR.1.Gq=b.Gq):
 m.QV n l={ (m.put n {X with bs:=Na X.bs l.q BR.1})with Ms:=lD n l.q BR.1 l.at_ m.Ms}:=by
 subst I;subst J;subst M;unfold Cl.QV;rw[if_neg h1,if_neg (λe=>e h),if_pos O];have e:((m.ay n l.q (bG ((m.ah n).bs l.q) l.at_).1).ah n).bs l.q=(bG ((m.ah n).bs l.q) l.at_).1:=by
  unfold Cl.ay Cl.put;dsimp only;rw[Ee];exact Ee _ _ _
 unfold Cl.part lD;rw[e]
 split
 ·rfl
 rfl
def Vt{BR:aU×Int}(I:m.ah n=X)(J:X.bs l.q=b)(M:bG b l.at_=BR)(h1:¬(b.tg≠l.fr\/b.ep+1≠l.ep))(h:BR.2=0)(O:BR.1.Gq≠b.Gq)(hw:fD X.data X.MC [fH 3 l.q BR.1.ep BR.1.tg aI]=none):m.QV n l=m:=by
 subst I;subst J;subst M;unfold Cl.QV Nd.write;rw[if_neg h1,if_neg (λe=>e h),if_neg O,hw];rfl
def acG{BR:aU×Int}(I:m.ah n=X)(J:X.bs l.q=b)(M:bG b l.at_=BR)(h1:¬(b.tg≠l.fr\/b.ep+1≠l.ep))(h:BR.2=0)(O:BR.1.Gq≠b.Gq)(hw:fD X.data X.MC [fH 3 l.q BR.1.ep BR.1.tg aI]=some d):
 m.QV n l=m.put n {X with data:=d,Mw:=some (.fG l.q BR.1 l.at_)}:=by
 subst I;subst J;subst M;unfold Cl.QV Nd.write;rw[if_neg h1,if_neg (λe=>e h),if_neg O,hw];rfl
def afg(I:m.ah n=X)(J:X.bs l.q=b)(h:b.Gq≠4\/b.fr≠l.fr):m.QU n l=m:=by
 subst I;subst J;unfold Cl.QU;rw[if_pos h]
def ag7{BR:aU×Int}(I:m.ah n=X)(J:X.bs l.q=b)(M:cK b l.ep l.at_ l.Gs l.last=BR)(h1:¬(b.Gq≠4\/b.fr≠l.fr))(h:BR.2=2):m.QU n l={m with Ms:=m.Ms++[ou n l.q b]}:=by
 subst I;subst J;subst M;unfold Cl.QU;rw[if_neg h1,if_pos h];rfl
def TG{BR:aU×Int}(I:m.ah n=X)(J:X.bs l.q=b)(M:cK b l.ep l.at_ l.Gs l.last=BR)(h1:¬(b.Gq≠4\/b.fr≠l.fr))(h:BR.2≠2)(O:BR.2≠0\/BR.1.Gs.length=b.Gs.length):m.QU n l=m:=by
 subst I;subst J;subst M;unfold Cl.QU;rw[if_neg h1,if_neg h,if_pos O]
def TH{BR:aU×Int}(I:m.ah n=X)(J:X.bs l.q=b)(M:cK b l.ep l.at_ l.Gs l.last=BR)(h1:¬(b.Gq≠4\/b.fr≠l.fr))(h:BR.2≠2)(O:¬(BR.2≠0\/BR.1.Gs.length=b.Gs.length))
  (hw:fD X.data X.MC (qb l.q BR.1 b.Gs.length (l.at_.toNat+l.Gs.length) l.last)=none):m.QU n l=m:=by
 subst I;subst J;subst M;unfold Cl.QU Nd.write;rw[if_neg h1,if_neg h,if_neg O,hw];rfl
def afh{BR:aU×Int}(I:m.ah n=X)(J:X.bs l.q=b)(M:cK b l.ep l.at_ l.Gs l.last=BR)(h1:¬(b.Gq≠4\/b.fr≠l.fr))(h:BR.2≠2)(O:¬(BR.2≠0\/BR.1.Gs.length=b.Gs.length))
  (hw:fD X.data X.MC (qb l.q BR.1 b.Gs.length (l.at_.toNat+l.Gs.length) l.last)=some d):m.QU n l=m.put n {X with data:=d,Mw:=some (.QU l.q BR.1 l.last)}:=by
 subst I;subst J;subst M;unfold Cl.QU Nd.write;rw[if_neg h1,if_neg h,if_neg O,hw];rfl
def acH{BR:aU×Int}(I:m.ah n=X)(J:X.bs l.q=b)(M:fT b l.ep=BR)(h:BR.2≠0):m.Q9 n l=m.put n (X.Ny n l):=by
 subst I;subst J;subst M;unfold Cl.Q9;rw[if_pos h]
def Vu{BR:aU×Int}(J:m.ah n=X)(M:X.bs l.q=b)(O:fT b l.ep=BR)(h:BR.2=0)(hw:fD X.data X.MC [fH 7 l.q b.ep 0 aI]=none):m.Q9 n l=m.put n (X.Ny n l):=by
 subst J;subst M;subst O;unfold Cl.Q9 Nd.write;rw[if_neg (λe=>e h)];have I:fD ((m.ah n).Ny n l).data ((m.ah n).Ny n l).MC [fH 7 l.q ((m.ah n).bs l.q).ep 0 aI]=none:=hw;rw[I];rfl
def acI{BR:aU×Int}(J:m.ah n=X)(M:X.bs l.q=b)(O:fT b l.ep=BR)(h:BR.2=0)(hw:fD X.data X.MC [fH 7 l.q b.ep 0 aI]=some d):
 m.Q9 n l=m.put n { (X.Ny n l)with data:=d,Mw:=some (.Ni l.q BR.1)}:=by
 subst J;subst M;subst O;unfold Cl.Q9 Nd.write;rw[if_neg (λe=>e h)];have I:fD ((m.ah n).Ny n l).data ((m.ah n).Ny n l).MC [fH 7 l.q ((m.ah n).bs l.q).ep 0 aI]=some d:=hw;rw[I];rfl
end
end
section
variable {xo yo:Operand}{w:World}{f:Fn}{xs ys:Array Value}
def am4{d:Nat}:(Op.equalIn (d+1) 103 (.func f xs ys) .nilFunc).run prog w=.ok false w:=by
 unfold Op.equalIn;simp[underlying103]
def am5{d:Nat}:(Op.equalIn (d+1) 103 .nilFunc .nilFunc).run prog w=.ok true w:=by
 unfold Op.equalIn;simp[underlying103]
def xI:(do eqGuard .neq 103 xo yo (.func f xs ys) .nilFunc;binOp .neq 103 (.func f xs ys) .nilFunc:Sem Value).run prog w=.ok (.bool true) w:=by
 have h1:(eqGuard .neq 103 xo yo (.func f xs ys) .nilFunc)=pure ():=by unfold eqGuard;rfl
 have h:binOp .neq 103 (.func f xs ys) .nilFunc=(do let b<-Op.equalIn (9999+1) 103 (.func f xs ys) .nilFunc;pure (.bool (!b))):=by unfold binOp;rfl
 rw[h1,h];simp[am4]
def KC:(do eqGuard .neq 103 xo yo .nilFunc .nilFunc;binOp .neq 103 .nilFunc .nilFunc:Sem Value).run prog w=.ok (.bool false) w:=by
 have h1:(eqGuard .neq 103 xo yo .nilFunc .nilFunc)=pure ():=by unfold eqGuard;rfl
 have h:binOp .neq 103 .nilFunc .nilFunc=(do let b<-Op.equalIn (9999+1) 103 .nilFunc .nilFunc;pure (.bool (!b))):=by unfold binOp;rfl
 rw[h1,h];simp[am5]
def KD:(do eqGuard .eql 103 xo yo (.func f xs ys) .nilFunc;binOp .eql 103 (.func f xs ys) .nilFunc:Sem Value).run prog w=.ok (.bool false) w:=by
 have h1:(eqGuard .eql 103 xo yo (.func f xs ys) .nilFunc)=pure ():=by unfold eqGuard;rfl
 have h:binOp .eql 103 (.func f xs ys) .nilFunc=(do let b<-Op.equalIn (9999+1) 103 (.func f xs ys) .nilFunc;pure (.bool b)):=by unfold binOp;rfl
 rw[h1,h];simp[am4]
def TI:(do eqGuard .eql 103 xo yo .nilFunc .nilFunc;binOp .eql 103 .nilFunc .nilFunc:Sem Value).run prog w=.ok (.bool true) w:=by
 have h1:(eqGuard .eql 103 xo yo .nilFunc .nilFunc)=pure ():=by unfold eqGuard;rfl
 have h:binOp .eql 103 .nilFunc .nilFunc=(do let b<-Op.equalIn (9999+1) 103 .nilFunc .nilFunc;pure (.bool b)):=by unfold binOp;rfl
 rw[h1,h];simp[am5]
end
def bS.fit:bS->Prop
 | .serve q Gs _ _ _=>q<4/\Gs.length<=2000
 | .Ns q _=>q<4
 | .QU q _ _=>q<4
 | .fG q b _=>q<4/\au b=0
 | .Ni q _=>q<4
noncomputable def Cl.more(w:Cl)(n:Nat):Cl:=if (w.ah n).Mw=none then Cl.drain n (w.ah n).Md w else w
def Nd.box(X:Nd)(r:List bH):Nd:={X with Md:=r}
section
variable {m:Cl}{n q:Nat}{X:Nd}{b b':aU}
def qU{α:Type}(f:Nat->α)(k:Nat)(u v:α):Na (Na f k u) k v=Na f k v:=by
 funext j
 unfold Na
 split<;>rfl
def Co(h:(m.ah n).Mw≠none):m.more n=m:=if_neg h
def KE(h:(m.ah n).Md=[]):m.more n=m:=by
 unfold Cl.more;rw[h]
 split<;>rfl
def GZ{l:bH}{r:List bH}(h:(m.ah n).Mw=none)(h1:(m.ah n).Md=l::r)(I:l.q<4):m.more n=((m.put n ((m.ah n).box r)).Ng n l).more n:=by
 show m.more n=((m.put n {m.ah n with Md:=r}).Ng n l).more n
 have e:=(jW (m:=m.put n {m.ah n with Md:=r}) (n:=n) (l:=l) I).iP;rw[show(m.put n {m.ah n with Md:=r}).ah n={m.ah n with Md:=r}from Ee _ _ _]at e;unfold Cl.more;rw[if_pos h,h1,Cl.drain,e]
def mM(h:(m.ah n).up=false):m.step n=m:=if_pos h
def jf(h:(m.ah n).up=true)(h1:(m.ah n).Mw=none):m.step n=if ((m.more n).ah n).Mw=none then(m.more n).jV n else m.more n:=by
 unfold Cl.step;rw[if_neg (by rw[h];simp),h1];unfold Cl.more;rw[if_pos h1]
def Nd.jE(X:Nd):Nd:={X with MC:=X.data.length,Mw:=none}
def Nd.ay(X:Nd)(q:Nat)(b:aU):Nd:={X with bs:=Na X.bs q b}
def u6(X:Nd)(q:Nat)(b:aU):(m.put n X).ay n q b=m.put n (X.ay q b):=by
 unfold Cl.ay Cl.put;dsimp only;rw[Ee,qU];rfl
def rz{p:bS}(h:m.ah n=X)(I:X.up=true)(J:X.Mw=some p):m.step n=(m.put n X.jE).yc n p:=by
 subst h;unfold Cl.step;rw[if_neg (by rw[I];simp),J];rfl
def aX(X:Nd):(m.put n X).ah n=X:=Ee _ _ _
def jw{Gs:List Ev}{op:Ev}{num:Int}{a:iW}(h:m.ah n=X)(I:X.up=true)(J:X.Mw=some (.serve q Gs op num a))(M:X.bs q=b)(hs:Nl b):
 m.step n={ (m.put n (X.jE.ay q {b with Gs:=Gs}))with aP:=m.aP++[⟨n,q,b.ep,op,a,num⟩],MG:=iD m.MG n q (b.ep,Gs.length),Ms:=m.Ms++[lZ n num a nowhere]}:=by
 rw[rz h I J]
 show((m.put n X.jE).ay n q { ((m.put n X.jE).ah n).bs q with Gs:=Gs}).done n q op num a=_
 rw[aX,u6,show X.jE.bs q=b from M];rw[Fa (b:={b with Gs:=Gs}) (aX _) (Ee _ _ _) hs];rfl
def abL{Gs:List Ev}{op:Ev}{num:Int}{a:iW}(h:m.ah n=X)(I:X.up=true)(J:X.Mw=some (.serve q Gs op num a))(M:X.bs q=b)(hs:¬Nl b):
 m.step n={ (m.put n (X.jE.ay q {b with Gs:=Gs}))with Ms:=m.Ms++[lZ n num a (X.Nh q)]}:=by
 rw[rz h I J]
 show((m.put n X.jE).ay n q { ((m.put n X.jE).ah n).bs q with Gs:=Gs}).done n q op num a=_
 rw[aX,u6,show X.jE.bs q=b from M];rw[Jl (b:={b with Gs:=Gs}) (aX _) (Ee _ _ _) hs];rfl
def nJ(h:m.ah n=X)(I:X.up=true)(J:X.Mw=some (.Ns q b)):m.step n={ (m.put n (X.jE.ay q b))with Ms:=m.Ms++[ou n q b]}:=by
 rw[rz h I J]
 show((m.put n X.jE).ay n q b).QM n q=_
 rw[u6];unfold Cl.QM Cl.send;rw[aX,show(X.jE.ay q b).bs q=b from Ee _ _ _];rfl
def jU(h:m.ah n=X)(I:X.up=true)(J:X.Mw=some (.QU q b true)):
 m.step n={ (m.put n { (X.jE.ay q b)with Nf:=Na X.Nf q false})with aP:=m.aP++[⟨n,q,b.ep,aF,eU,-1⟩],MG:=iD m.MG n q (b.ep,b.Gs.length)}:=by
 rw[rz h I J];unfold Cl.yc;dsimp only;rw[if_pos E,u6];simp only[aX];unfold Cl.QL Cl.put;dsimp only;rw[qU,Ee]
 show({m with ah:=_,aP:=m.aP++[⟨n,q,((X.jE.ay q b).bs q).ep,aF,eU,-1⟩],MG:=iD m.MG n q (((X.jE.ay q b).bs q).ep,((X.jE.ay q b).bs q).Gs.length)}:Cl)=_
 rw[show(X.jE.ay q b).bs q=b from Ee _ _ _];rfl
def sD(h:m.ah n=X)(I:X.up=true)(J:X.Mw=some (.QU q b false)):m.step n={ (m.put n (X.jE.ay q b))with Ms:=m.Ms++[ou n q b]}:=by
 rw[rz h I J];unfold Cl.yc;dsimp only;rw[if_neg iQ,u6];unfold Cl.QM Cl.send;rw[aX,show(X.jE.ay q b).bs q=b from Ee _ _ _];rfl
def pX{at_:Int}(h:m.ah n=X)(I:X.up=true)(J:X.Mw=some (.fG q b at_)):m.step n={ (m.put n (X.jE.ay q b))with Ms:=lD n q b at_ m.Ms}:=by
 rw[rz h I J]
 show((m.put n X.jE).ay n q b).part n q at_=_
 rw[u6];unfold Cl.part Cl.send lD;rw[aX,show(X.jE.ay q b).bs q=b from Ee _ _ _]
 split
 ·rfl
 rfl
def l5(h:m.ah n=X)(I:X.up=true)(J:X.Mw=some (.Ni q b)):m.step n=m.put n (X.jE.ay q b):=by
 rw[rz h I J]
 show(m.put n X.jE).ay n q b=_
 rw[u6]
end
def alk{P:Program}{t e:TypeId}{A:Option Addr}{n c s:Nat}(k:Nat)(J:P.underlying t=some (.slice e))(I:(P.info? e).map (·.size)=some s)(M:k<=n)(w:World):
 (Instr.sliceAt t (.slice A n c) (some (.int .i64 (k:Int))) none none).run P w=.ok (.slice (if c=k then A else A.map (·.add (k*s))) (n-k) (c-k)) w:=by
 obtain⟨z,O,hs⟩:∃z,P.info? e=some z/\z.size=s:=by
  cases h:P.info? e with
  |none=>simp[h]at I
  |some z=>exact⟨z,E,by simpa[h]using I⟩
 have h1:(sizeOf e).run P w=.ok s w:=by simp[sizeOf,typeInfo,O,hs,Sem.run_bind,Result.andThen]
 have Z:=λw=>ah5 (P:=P) (n:=n) (c:=c) (kd:=.i64) k E M w;simp[Instr.sliceAt,Instr.slice,run_underlying J,Sem.run_bind,Result.andThen,Z,h1]
section
variable {K:CK}{B n:Nat}{w0 w w':World}{fs gs:List J8}{m:Cl}{H:List LX}
def Wd.on(h:Wd K B w0 w fs m H)(I:Below w.heap.size w w'):Wd K B w0 w' fs m H:=by
 obtain⟨R,G,S⟩:=h;exact⟨R,G,S.on I⟩
def Wd.ext(h:Wd K B w0 w fs m H)(T:St w.heap.size w w' gs)(I:gs.all J8.IE=true):Wd K B w0 w' (gs++fs) m H:=by
 obtain⟨R,G,S⟩:=h;refine⟨R,G,?_⟩;have:=S.ext T I;rwa [<-append_assoc]at this
def Wd.Iy(h:Wd K B w0 w (gs++fs) m H):St B w0 w gs:=by
 obtain⟨R,_,S⟩:=h;exact S.sub (by rw[append_assoc];exact sublist_append_left _ _)
def Wd.less(h:Wd K B w0 w (gs++fs) m H):Wd K B w0 w fs m H:=by
 obtain⟨R,G,S⟩:=h;exact⟨R,G,S.sub (by rw[append_assoc];exact sublist_append_right _ _)⟩
def Wd.drew(h:Wd K B w0 w fs m H):Wd K B w0 w.drew fs m H:=by
 obtain⟨R,G,S⟩:=h;exact⟨R,G,S.drew⟩
end
def Vv{K:CK}{B n kn kw:Nat}{w0 w:World}{fs:List J8}{m:Cl}{H:List LX}{x:LX}(hn:n<5)(hkn:K.nb n=kn)(iH:K.wb=kw)(hu:Uk B w0)(hB1:m.Ms.length<=1000000000)(hB2:m.aP.length<=1000000000000)(HW:Wd K B w0 w fs m (x::H))(hq:x.l.q<4)(hv:∀q,q<4->au ((m.ah n).bs q)=0):
 Calls tP 64 #[pV kw 0,pV kn 0,.agg (LX.row x)] w (λe w'=>e=.returned (.tuple #[])/\Wd K B w0 w' fs (m.serve n x.l) H):=by
 obtain⟨R,G,S0⟩:=HW.open hn;have hfl:R.fx.length=m.Ms.length:=by rw[<-G.Ms,length_map]
 have NG:=G.iK n hn;obtain⟨X,hX⟩:∃X,m.ah n=X:=⟨_,E⟩;obtain⟨z,hz⟩:∃z,R.nx n=z:=⟨_,E⟩;rw[hX,hz]at S0 NG;have hL:∀f∈R.L,f∈gG K R m fs n:=λf h=>mem_append_right _ (mem_append_right _ h);obtain⟨rr,hrr⟩:∃r,gG K R m fs n=r:=⟨_,E⟩;rw[hrr]at S0 hL;have S:St B w0 w (cN kn n X z z.pv (cF kw R m rr)):=by subst hkn;subst iH;exact S0
 clear S0 HW;have hlen:=(S.own 1 E).1;rw[iL (sz:=6) (λ_=>E)]at hlen;rw[hX]at hv;obtain⟨y,hy,hyb,qE⟩:=NG.at_ hq;have hln:=kH (jD (hyb▸hv _ hq));have zi:y.b.Gs.length*48<=reachBytes:=by unfold reachBytes;omega
 have Mx:=xH (hyb▸hv _ hq);refine gP 54 func64 ?_;refine cw [0,1,2] ?_;refine zN 2 ?_;refine VW S ?_;intro b1 w2 S3;refine VW S3 ?_;intro b4 w5 S6;refine iU S6 ?_;intro b7 w8 S9;refine zN 6 ?_;refine gD S9 zr3 ?_;intro I Ib pF;refine jH (row':= #[D (x.l.q:Int)]) 0 pF kQ ?_;intro En mZ;refine zN 2 ?_;obtain⟨SR,hSR⟩:∃r,gU y.b x.l.op=r:=⟨_,E⟩;have HP:=λw h=>Vg y.b.Gq y.b.ep y.b.fr y.b.tg y.b.rd y.A y.c y.b.Gs x.l.op w h zi;rw[show gU ⟨y.b.Gq,y.b.ep,y.b.fr,y.b.tg,y.b.rd,y.b.Gs⟩ x.l.op=SR from hSR]at HP;refine nD (X:=Nat×Nat×(Option Addr)×Nat) (λxv=>[(3,pV b1 0),(4,pV b4 0),(5,pV b7 0),(6,pV I 0),(7,pV xv.1 0),(8,pV xv.2.1 0),(9,.bool SR.2.2.1)]) (λxv wr=>(SR.1.Gs.length<=xv.2.2.2)/\St B w0 wr ((.Mg xv.2.1 #[D SR.2.1.code,D SR.2.1.fO,D SR.2.1.Nc,D SR.2.1.body] 54)::(.Mg xv.1 (bR SR.1 xv.2.2.1 xv.2.2.2) 42)::(.cZ 6 xv.2.2.1 SR.1.Gs.length ((SR.1.Gs).flatMap Ev.cells))::(.Mg I #[D (x.l.q:Int)] 3)::(.Mg b7 (LX.row x) 119)::(.Mg b4 #[pV kn 0] 98)::(.Mg b1 #[pV kw 0] 87)::(cN kn n X z z.pv (cF kw R m rr)))) ?_ ?_
 ·have jm:=mZ.drew;refine aK 21 jm [] ?_;refine aL 5 ?_;refine ak 5 E jm (λ_ _=>ko x.l.q) ?_;refine ak (v:=.agg (bR y.b y.A y.c)) 6 E jm (λ_ GI=>(aj E E (dP (cs:=BX.cells y) (Rd.wZ (St.Rn 5 GI E) (λ_ _ h=>bE (enc:=BX.cells) (sz:=6) (λ_=>E) hy h))))) ?_;refine dG ?_;refine ak (v:=.agg #[D x.l.op.kind,D x.l.op.Mr,D x.l.op.id,D x.l.op.body,D x.l.op.MF,D x.l.op.Nc]) 8 E jm (λ_ aB4=>(aj E E (dP (cs:=[D x.l.op.kind,D x.l.op.Mr,D x.l.op.id,D x.l.op.body,D x.l.op.MF,D x.l.op.Nc]) (St.rg 1 aB4 E (Xm))))) ?_;refine SC (n:=11) (r:=9) (s:=15) (t:=16) kQ ?_ ?_ ?_
  ·refine kE 9 E eQ (HP _ (qE.1.rd jm (M9 11 E hL))) ?_;rintro _ V3 ⟨A25,c26,am6,rfl,T30⟩;refine⟨_,E,?_⟩;have tF:=jm.ext T30 E;refine aL 6 ?_;refine iG (n:=5) (r:=15) (s:=16) kQ ?_ ?_
   ·refine lW 15 E tF fZ ?_;intro Oj w37 Az;refine dG ?_;refine bg 16 ?_;refine lW 16 E Az tK ?_;intro b39 w40 JL;refine dG ?_;refine bg 17 ?_;refine sn 17 E 1 JL kQ ?_;intro SX rW;refine dG ?_;refine bg 18 ?_;refine sn 18 E 0 rW kQ ?_;intro N7 pQ;refine aL 4 ?_;refine dM (Oj,b39,A25,c26) ?_ uj;exact⟨am6,pQ⟩
   refine lW 16 E tF tK ?_;intro ZW w49 wu;refine dG ?_;refine bg 15 ?_;refine lW 15 E wu fZ ?_;intro b51 w52 CS;refine dG ?_;refine bg 17 ?_;refine sn 17 E 0 CS kQ ?_;intro w54 vo;refine dG ?_;refine bg 18 ?_;refine sn 18 E 1 vo kQ ?_;intro w56 vQ;refine aL 4 ?_;have V5:=vQ.eH [13,13,13,13,13,13,13,13,13,13,13,13,12,13];refine dM (b51,ZW,A25,c26) ?_ uj;exact⟨am6,V5⟩
  ·refine lW 15 E jm fZ ?_;intro b61 ZK xg;refine dG ?_;refine iG (n:=10) (r:=9) (s:=16) kQ ?_ ?_
   ·refine kE 9 E eQ (HP _ (qE.1.rd xg (M9 12 E hL))) ?_;rintro _ w67 ⟨A64,c65,awM,rfl,T69⟩;refine⟨_,E,?_⟩;have CU:=xg.ext T69 E;refine aL 6 ?_;refine bg 16 ?_;refine lW 16 E CU tK ?_;intro b75 w76 DC;refine dG ?_;refine bg 17 ?_;refine sn 17 E 2 DC kQ ?_;intro w78 BZ;refine dG ?_;refine bg 18 ?_;refine sn 18 E 0 BZ kQ ?_;intro w80 uo;refine aL 4 ?_;have FR:=uo.eH [13,13,13,13,13,13,13,13,13,13,13,12,13,13];refine dM (b61,b75,A64,c65) ?_ uj;exact⟨awM,FR⟩
   refine lW 16 E xg tK ?_;intro b85 w86 GK;refine dG ?_;refine bg 9 ?_;refine kE 9 E eQ (HP _ (qE.1.rd GK (M9 13 E hL))) ?_;rintro _ w91 ⟨A88,c89,amZ,rfl,T93⟩;refine⟨_,E,?_⟩;have zw:=GK.ext T93 E;refine aL 6 ?_;refine bg 17 ?_;refine sn 17 E 2 zw kQ ?_;intro w99 wM;refine dG ?_;refine bg 18 ?_;refine sn 18 E 1 wM kQ ?_;intro atc tO;refine aL 4 ?_;have sO:=tO.eH [13,13,13,13,13,13,13,13,13,13,13,11,13,13];refine dM (b61,b85,A88,c89) ?_ uj;exact⟨amZ,sO⟩
  refine lW 16 E jm tK ?_;intro ain aAm vL;refine dG ?_;refine iG (n:=10) (r:=9) (s:=15) kQ ?_ ?_
  ·refine kE 9 E eQ (HP _ (qE.1.rd vL (M9 12 E hL))) ?_;rintro _ abE ⟨Oo,Sl,arB,rfl,aB5⟩;refine⟨_,E,?_⟩;have vM:=vL.ext aB5 E;refine aL 6 ?_;refine bg 15 ?_;refine lW 15 E vM fZ ?_;intro aB6 ab1 Di;refine dG ?_;refine bg 17 ?_;refine sn 17 E 0 Di kQ ?_;intro aBi Oq;refine dG ?_;refine bg 18 ?_;refine sn 18 E 2 Oq kQ ?_;intro aoa xW;refine aL 4 ?_;have Am:=xW.eH [13,13,13,13,13,13,13,13,13,13,13,12,12,13];refine dM (aB6,ain,Oo,Sl) ?_ uj;exact⟨arB,Am⟩
  refine lW 15 E vL fZ ?_;intro aix aia yP;refine dG ?_;refine bg 9 ?_;refine kE 9 E eQ (HP _ (qE.1.rd yP (M9 13 E hL))) ?_;rintro _ abF ⟨aB7,aB8,arC,rfl,aoD⟩;refine⟨_,E,?_⟩;have ES:=yP.ext aoD E;refine aL 6 ?_;refine bg 17 ?_;refine sn 17 E 1 ES kQ ?_;intro aib Mj;refine dG ?_;refine bg 18 ?_;refine sn 18 E 2 Mj kQ ?_;intro aKC Sb;refine aL 4 ?_;have acJ:=Sb.eH [13,13,13,13,13,13,13,13,13,13,13,11,12,13];refine dM (aix,ain,aB7,aB8) ?_ uj;exact⟨arC,acJ⟩
 rintro⟨M,O,J,c154⟩ aB9 ⟨hx157,abY⟩
 try dsimp only at hx157 abY
 refine bI (l':=[(3,pV b1 0),(4,pV b4 0),(5,pV b7 0),(6,pV I 0),(7,pV M 0),(8,pV O 0),(9,.bool SR.2.2.1)]) uj (aQ (aC (vv (v:=.func (.func 87) #[] #[pV b7 0,pV b4 0,pV I 0,pV b1 0]) (K8 (vs:=[]) (us:=[pV b7 0,pV b4 0,pV I 0,pV b1 0]) E trivial jX) ?_)));refine gD abY awh ?_;intro Z as5 Ob;refine jH (row':= #[.func (.func 87) #[] #[pV b7 0,pV b4 0,pV I 0,pV b1 0]]) 0 Ob kQ ?_;intro aAq Ja;refine zN 6 ?_
 cases aGy:(SR.2.2.1)
 ·refine zN 8 ?_;have Xn:=Ja.eH [14,14,14,14,14,14,14];refine wJ eQ (D6 (b6:=b7) (b2:=b4) (b3:=I) (b7:=b1) hn hq hy x SR.2.1 Xn (mem_iff_getElem?.2 ⟨5,E⟩) (mem_iff_getElem?.2 ⟨6,E⟩) (mem_iff_getElem?.2 ⟨4,E⟩) (mem_iff_getElem?.2 ⟨7,E⟩) hu Y Y) ?_;rintro _ aKD ⟨rfl,awN,hd167⟩;refine⟨_,E,?_⟩;refine zQ ?_;refine bX (l':=[]) trivial (iw (oH (iB (dW (rs:=[]) (vs:=[]) E trivial ?_))));have hch:SR.2.2.1=false:=by assumption
  rw[ag5 hX hyb.symm hSR hch];by_cases hs:Nl y.b
  ·obtain⟨sA,sc,sv,fA,fc,fx,h1,h2,S9⟩:=awN hs;subst h1;subst h2;rw[Fa hX hyb.symm hs];exact⟨E,Wd.dR (X':=X) (z':=z) (Ls:=[.Mg Z #[.func (.func 87) #[] #[pV b7 0,pV b4 0,pV I 0,pV b1 0]] 190,.Mg O #[D SR.2.1.code,D SR.2.1.fO,D SR.2.1.Nc,D SR.2.1.body] 54,.Mg M (bR SR.1 J c154) 42,.cZ 6 J SR.1.Gs.length ((SR.1.Gs).flatMap Ev.cells),.Mg I #[D (x.l.q:Int)] 3,.Mg b7 (LX.row x) 119,.Mg b4 #[pV kn 0] 98,.Mg b1 #[pV kw 0] 87]) (sA:=sA) (sc:=sc) (tA:=R.tA) (tc:=R.tc) hkn iH hrr G hn S9 NG.more (pE (je E)) (aB hX).symm (by rw[map_append,G.Ms];rfl) mH⟩
  obtain⟨fA,fc,fx,h2,S9⟩:=hd167 hs;subst h2;rw[Jl hX hyb.symm hs];exact⟨E,Wd.dR (X':=X) (z':=z) (Ls:=[.Mg Z #[.func (.func 87) #[] #[pV b7 0,pV b4 0,pV I 0,pV b1 0]] 190,.Mg O #[D SR.2.1.code,D SR.2.1.fO,D SR.2.1.Nc,D SR.2.1.body] 54,.Mg M (bR SR.1 J c154) 42,.cZ 6 J SR.1.Gs.length ((SR.1.Gs).flatMap Ev.cells),.Mg I #[D (x.l.q:Int)] 3,.Mg b7 (LX.row x) 119,.Mg b4 #[pV kn 0] 98,.Mg b1 #[pV kw 0] 87]) (sA:=R.sA) (sc:=R.sc) (tA:=R.tA) (tc:=R.tc) hkn iH hrr G hn S9 NG.more (pE (je E)) (aB hX).symm (by rw[map_append,G.Ms];rfl) mH⟩
 refine zN 10 ?_;refine Rq eQ Ja (jl 2 x.l.q ⟨SR.1,J,c154⟩ _) ?_;intro an0 Mk;refine gD Mk xC ?_;intro aoE aol Xg;refine sa 0 Xg kQ ?_;intro aBb Xa;refine zN 5 ?_;refine vv (aj E E (dP (cs:=[D x.l.op.kind,D x.l.op.Mr,D x.l.op.id,D x.l.op.body,D x.l.op.MF,D x.l.op.Nc]) (St.rg 6 Xa E (Xm)))) ?_;refine zQ ?_;refine jH (row':= #[D 2,D (x.l.q:Int),D SR.1.ep,D 0,D x.l.op.kind,D x.l.op.Mr,D x.l.op.id,D x.l.op.body,D x.l.op.MF,D x.l.op.Nc]) 0 Xa kQ ?_;intro aKE aCa;refine zN 7 ?_;refine SG aCa ?_;intro acL aCb abZ;have ab0:=abZ.eH [16,16,16,16,16,16,16];refine dJ eQ (qd (rs:=[fH 2 x.l.q SR.1.ep 0 x.l.op]) (Ro.Mg (mem_iff_getElem?.2 ⟨0,E⟩) E E) NG.yh (by exact M9 10 E hL) (le_of_ble_eq_true E) ab0) ?_;rintro _ aKF (⟨aed,rfl,aoF⟩|⟨am7,aut,auu,aCc,aed,rfl,arD,aoF⟩)
 ·refine⟨_,E,?_⟩;refine zN 7 ?_;refine vv (v:=.agg #[D 14,D 0,D 0,D 0]) gH ?_;refine wJ eQ (D6 (b6:=b7) (b2:=b4) (b3:=I) (b7:=b1) hn hq hy x (sK 14) aoF (mem_iff_getElem?.2 ⟨7,E⟩) (mem_iff_getElem?.2 ⟨8,E⟩) (mem_iff_getElem?.2 ⟨6,E⟩) (mem_iff_getElem?.2 ⟨9,E⟩) hu Y Y) ?_;rintro _ aBk ⟨rfl,awO,awP⟩;refine⟨_,E,?_⟩;refine zQ ?_;refine bX (l':=[]) trivial (iw (oH (iB (dW (rs:=[]) (vs:=[]) E trivial ?_))));have hch:SR.2.2.1=true:=by assumption
  rw[YK hX hyb.symm hSR hch aed];by_cases hs:Nl y.b
  ·obtain⟨sA,sc,sv,fA,fc,fx,h1,h2,S9⟩:=awO hs;subst h1;subst h2;rw[Fa hX hyb.symm hs];exact⟨E,Wd.dR (X':=X) (z':=z) (Ls:=[.Mg acL #[D 2,D (x.l.q:Int),D SR.1.ep,D 0,D x.l.op.kind,D x.l.op.Mr,D x.l.op.id,D x.l.op.body,D x.l.op.MF,D x.l.op.Nc] 138,.Mg aoE #[D 2,D (x.l.q:Int),D SR.1.ep,D 0,D x.l.op.kind,D x.l.op.Mr,D x.l.op.id,D x.l.op.body,D x.l.op.MF,D x.l.op.Nc] 138,.Mg Z #[.func (.func 87) #[] #[pV b7 0,pV b4 0,pV I 0,pV b1 0]] 190,.Mg O #[D SR.2.1.code,D SR.2.1.fO,D SR.2.1.Nc,D SR.2.1.body] 54,.Mg M (bR SR.1 J c154) 42,.cZ 6 J SR.1.Gs.length ((SR.1.Gs).flatMap Ev.cells),.Mg I #[D (x.l.q:Int)] 3,.Mg b7 (LX.row x) 119,.Mg b4 #[pV kn 0] 98,.Mg b1 #[pV kw 0] 87]) (sA:=sA) (sc:=sc) (tA:=R.tA) (tc:=R.tc) hkn iH hrr G hn S9 NG.more (pE (je E)) (aB hX).symm (by rw[map_append,G.Ms];rfl) mH⟩
  obtain⟨fA,fc,fx,h2,S9⟩:=awP hs;subst h2;rw[Jl hX hyb.symm hs];exact⟨E,Wd.dR (X':=X) (z':=z) (Ls:=[.Mg acL #[D 2,D (x.l.q:Int),D SR.1.ep,D 0,D x.l.op.kind,D x.l.op.Mr,D x.l.op.id,D x.l.op.body,D x.l.op.MF,D x.l.op.Nc] 138,.Mg aoE #[D 2,D (x.l.q:Int),D SR.1.ep,D 0,D x.l.op.kind,D x.l.op.Mr,D x.l.op.id,D x.l.op.body,D x.l.op.MF,D x.l.op.Nc] 138,.Mg Z #[.func (.func 87) #[] #[pV b7 0,pV b4 0,pV I 0,pV b1 0]] 190,.Mg O #[D SR.2.1.code,D SR.2.1.fO,D SR.2.1.Nc,D SR.2.1.body] 54,.Mg M (bR SR.1 J c154) 42,.cZ 6 J SR.1.Gs.length ((SR.1.Gs).flatMap Ev.cells),.Mg I #[D (x.l.q:Int)] 3,.Mg b7 (LX.row x) 119,.Mg b4 #[pV kn 0] 98,.Mg b1 #[pV kw 0] 87]) (sA:=R.sA) (sc:=R.sc) (tA:=R.tA) (tc:=R.tc) hkn iH hrr G hn S9 NG.more (pE (je E)) (aB hX).symm (by rw[map_append,G.Ms];rfl) mH⟩
 refine⟨_,E,?_⟩;refine zN 8 ?_;refine vv JJ ?_;refine zN 2 ?_;refine jH (row':=dN n X.up (.slice aut am7.length auu) X.MC (.slice (aD z.bb 0) 4 4) X.Nh X.Nf (.slice z.iA z.ix.length z.ic) (.func (.func 88) #[] #[pV M 0,pV b4 0,pV I 0,pV Z 0,pV O 0]) X.turn) 0 aoF kQ ?_;intro aCd Sk;refine zQ ?_;refine bX (l':=[]) trivial (oV ?_);have hch:SR.2.2.1=true:=by assumption
 rw[ag6 hX hyb.symm hSR hch aed];refine⟨E,Wd.fin (X':={X with data:=am7,Mw:=some (.serve x.l.q SR.1.Gs x.l.op x.l.num SR.2.1)}) (z':={z with tA:=aut,tc:=auu,pv:=.func (.func 88) #[] #[pV M 0,pV b4 0,pV I 0,pV Z 0,pV O 0]}) (N:=aCc) (Ls:=[.Mg acL #[D 2,D (x.l.q:Int),D SR.1.ep,D 0,D x.l.op.kind,D x.l.op.Mr,D x.l.op.id,D x.l.op.body,D x.l.op.MF,D x.l.op.Nc] 138,.Mg aoE #[D 2,D (x.l.q:Int),D SR.1.ep,D 0,D x.l.op.kind,D x.l.op.Mr,D x.l.op.id,D x.l.op.body,D x.l.op.MF,D x.l.op.Nc] 138,.Mg Z #[.func (.func 87) #[] #[pV b7 0,pV b4 0,pV I 0,pV b1 0]] 190,.Mg O #[D SR.2.1.code,D SR.2.1.fO,D SR.2.1.Nc,D SR.2.1.body] 54,.Mg M (bR SR.1 J c154) 42,.cZ 6 J SR.1.Gs.length ((SR.1.Gs).flatMap Ev.cells),.Mg I #[D (x.l.q:Int)] 3,.Mg b7 (LX.row x) 119,.Mg b4 #[pV kn 0] 98,.Mg b1 #[pV kw 0] 87]) (fA:=R.fA) (fc:=R.fc) (fx:=R.fx) (sA:=R.sA) (sc:=R.sc) (tA:=R.tA) (tc:=R.tc) hkn iH hrr G hn Sk ?_ (λu hu=>.inl hu) E G.Ms.symm mH⟩;refine{ (NG.more:dX K _ n X z)with yh:=arD.mono mLN,lu:=?_ }
 show qc (K.nb n) K.wb _ _ _
 rw[hkn,iH];exact⟨M,b4,I,Z,O,b7,b1,⟨SR.1,J,c154⟩,x,E,(sw (mem_iff_getElem?.2 ⟨4,E⟩)),E,⟨Ro.cZ (sw (mem_iff_getElem?.2 ⟨5,E⟩)),hx157⟩,(sw (mem_iff_getElem?.2 ⟨8,E⟩)),(sw (mem_iff_getElem?.2 ⟨6,E⟩)),(sw (mem_iff_getElem?.2 ⟨2,E⟩)),(sw (mem_iff_getElem?.2 ⟨3,E⟩)),(sw (mem_iff_getElem?.2 ⟨7,E⟩)),E,E,(sw (mem_iff_getElem?.2 ⟨9,E⟩))⟩
def F3{B kn kw bb n turn calls Z ic fc sc tc:Nat}{up:Bool}{I iA fA sA tA:Option Addr}{data:List UInt8}{MC:Int}{Hh:Nat->Pl}{Us:Nat->Bool}{pv nv:Value}{d:QK}{sh:Nat->Nat->Int×Int}{bs:List BX}{ix fx:List LX}{aP:List jJ}{tl:List xq}{w0 w:World}{fs:List J8}{L:List J8}{rs:List cO}{RA:Option Addr}{rc:Nat}(hw:fD data MC rs=none)(J:Ro fs 10 RA rs.length (rs.flatMap cO.cells))(M:Ro L 1 I data.length (Gt data))(hL:∀f∈L,f∈fs)(O:rs.length<=1000000)(S:St B w0 w (nF kn n up I data Z MC bb Hh Us iA ix ic pv turn bs (wF kw nv d fA fx fc sh sA aP sc tA tl tc calls fs))):
 Calls tP 44 #[pV kn 0,.slice RA rs.length rc] w (λe w'=>e=.returned (.bool false)/\St B w0 w' (nF kn n up I data Z MC bb Hh Us iA ix ic pv turn bs (wF kw nv d fA fx fc sh sA aP sc tA tl tc calls fs))):=(qd (rc:=rc) J M hL O S).mono λe w' h=>h.elim (λh=>h.2) λ⟨_,_,_,_,h,_⟩=>by rw[hw]at h;cases h
def F4{B kn kw bb n turn calls Z ic fc sc tc:Nat}{up:Bool}{O iA fA sA tA:Option Addr}{data:List UInt8}{MC:Int}{Hh:Nat->Pl}{Us:Nat->Bool}{pv nv:Value}{d:QK}{sh:Nat->Nat->Int×Int}{bs:List BX}{ix fx:List LX}{aP:List jJ}{tl:List xq}{w0 w:World}{fs:List J8}{d':List UInt8}{L:List J8}{rs:List cO}{RA:Option Addr}{rc:Nat}(hw:fD data MC rs=some d')(I:Ro fs 10 RA rs.length (rs.flatMap cO.cells))(J:Ro L 1 O data.length (Gt data))(hL:∀f∈L,f∈fs)(M:rs.length<=1000000)(S:St B w0 w (nF kn n up O data Z MC bb Hh Us iA ix ic pv turn bs (wF kw nv d fA fx fc sh sA aP sc tA tl tc calls fs))):
 Calls tP 44 #[pV kn 0,.slice RA rs.length rc] w (λe w'=> ∃A' c' N,e=.returned (.bool true)/\Ro (L++N) 1 A' d'.length (Gt d')/\St B w0 w' (nF kn n up A' d' c' MC bb Hh Us iA ix ic pv turn bs (wF kw nv d fA fx fc sh sA aP sc tA tl tc calls (fs++N)))):=(qd (rc:=rc) I J hL M S).mono λe w' h=>h.elim (λh=>by rw[hw]at h;cases h.1) λ⟨d2,A',c',N,h,h1,h2,h3⟩=>by
 rw[hw]at h
 cases h;exact⟨A',c',N,h1,h2,h3⟩
def Qh{X:Nd}{n:Nat}{l:bH}{b:aU}{hs:Nat->Pl}{su:Nat->Bool}(h:X.bs l.q=b)(h1:hs=if (X.Nh l.q).Mc<l.ep then Na X.Nh l.q ⟨l.nd,l.ep⟩else X.Nh)(I:su=if l.nd=n/\b.ep=l.ep then Na X.Nf l.q true else X.Nf):X.Ny n l={X with Nh:=hs,Nf:=su}:=by
 subst h;subst h1;subst I;rfl
def abS{K:CK}{B n kn kw:Nat}{w0 w:World}{fs:List J8}{m:Cl}{H:List LX}{x:LX}(hn:n<5)(hkn:K.nb n=kn)(iH:K.wb=kw)(hu:Uk B w0)(hB1:m.Ms.length<=1000000000)(hB2:m.aP.length<=1000000000000)(HW:Wd K B w0 w fs m (x::H))(hq:x.l.q<4)(hv:∀q,q<4->au ((m.ah n).bs q)=0):
 Calls tP 68 #[pV kw 0,pV kn 0,.agg (LX.row x)] w (λe w'=>e=.returned (.tuple #[])/\Wd K B w0 w' fs (m.Q9 n x.l) H):=by
 obtain⟨R,G,S0⟩:=HW.open hn;have hfl:R.fx.length=m.Ms.length:=by rw[<-G.Ms,length_map]
 have NG:=G.iK n hn;obtain⟨X,hX⟩:∃X,m.ah n=X:=⟨_,E⟩;obtain⟨z,hz⟩:∃z,R.nx n=z:=⟨_,E⟩;rw[hX,hz]at S0 NG;have hL:∀f∈R.L,f∈gG K R m fs n:=λf h=>mem_append_right _ (mem_append_right _ h);obtain⟨rr,hrr⟩:∃r,gG K R m fs n=r:=⟨_,E⟩;rw[hrr]at S0 hL;have S:St B w0 w (cN kn n X z z.pv (cF kw R m rr)):=by subst hkn;subst iH;exact S0
 clear S0 HW;have hlen:=(S.own 1 E).1;rw[iL (sz:=6) (λ_=>E)]at hlen;rw[hX]at hv;obtain⟨y,hy,Z,qE⟩:=NG.at_ hq;have hln:=kH (jD (Z▸hv _ hq));have zi:y.b.Gs.length*48<=reachBytes:=by unfold reachBytes;omega
 have Mx:=xH (Z▸hv _ hq);refine gP 80 func68 ?_;refine cw [0,1,2] ?_;refine zN 2 ?_;refine VW S ?_;intro b1 w2 S3;refine iU S3 ?_;intro b4 w5 S6;refine zN 6 ?_;refine gD S6 zr3 ?_;intro b7 w8 S9;refine jH (row':= #[D (x.l.q:Int)]) 0 S9 kQ ?_;intro ZL Ay;refine zN 2 ?_;obtain⟨hs,hhs⟩:∃f,f=if (X.Nh x.l.q).Mc<x.l.ep then Na X.Nh x.l.q ⟨x.l.nd,x.l.ep⟩else X.Nh:=⟨_,E⟩
 refine nD (X:=Unit) (λ_=>[(4,pV b1 0),(5,pV b4 0),(6,pV b7 0)]) (λ_ wr=>St B w0 wr ((.Mg b7 #[D (x.l.q:Int)] 3)::(.Mg b4 (LX.row x) 119)::(.Mg b1 #[pV kn 0] 98)::(nF kn n X.up z.tA X.data z.tc X.MC z.bb hs X.Nf z.iA z.ix z.ic z.pv X.turn z.bx (cF kw R m rr)))) ?_ ?_
 ·refine zQ ?_;refine fu Ay mixed kQ ?_;refine zN 6 ?_;refine uv (v:=pV kn (5+x.l.q*2)) (λ_ _=>(aM E E E (fU x.l.q underlying28 kQ E hq))) ?_;refine zQ ?_;refine uv (v:=D ((X.Nh x.l.q).Mc)) (λ_ acM=>(aj E E (aG (St.cl 3 acM E (Qg hq).2)))) ?_;refine uv (v:=.bool (decide ((X.Nh x.l.q).Mc<x.l.ep))) (λ_ _=>bM E E E avF) ?_;refine eP λw22 tJ=>?_;refine zQ ?_
  cases Om:(decide ((X.Nh x.l.q).Mc<x.l.ep))
  ·refine bI (l':=[(4,pV b1 0),(5,pV b4 0),(6,pV b7 0),(21,.bool false)]) jX (mq E (qQ ?_));rw[if_neg (by simpa using(by assumption:decide ((X.Nh x.l.q).Mc<x.l.ep)=false))]at hhs;subst hhs;refine dM () ?_ FH;exact tJ
  refine bI (l':=[(4,pV b1 0),(5,pV b4 0),(6,pV b7 0),(21,.bool true)]) jX (mo E ?_);have lH:=tJ.drew;refine aK 11 lH [3] ?_;refine aL 6 ?_;refine ak (v:=.agg #[D x.l.nd,D x.l.ep]) 6 E (St.del 3 lH) (λ_ _=>gH) ?_;refine aL 2 ?_;refine ak (v:=pV kn (5+x.l.q*2)) 9 E (St.del 3 lH) (λ_ _=>(aM E E E (fU x.l.q underlying28 kQ E hq))) ?_;refine bg 10 ?_;refine uH (i:=10) E E (cs:= #[D x.l.nd,D x.l.ep]) (row':=dN n X.up (.slice z.tA X.data.length z.tc) X.MC (.slice (aD z.bb 0) 4 4) (Na X.Nh x.l.q (⟨x.l.nd,x.l.ep⟩:Pl)) X.Nf (.slice z.iA z.ix.length z.ic) (z.pv) X.turn) (fs':=(_::_::_::(bN kn n X.up z.tA X.data z.tc X.MC z.bb (Na X.Nh x.l.q (⟨x.l.nd,x.l.ep⟩:Pl)) X.Nf z.iA z.ix z.ic z.pv X.turn)::_::_::_::_::_::_::rr)) 3 lH (wn E) E E E E E E MI E (bY E) (by rw[show Array.size (dN _ _ _ _ _ _ _ _ _ _)=20 from E];omega) (Ey hq (p:=(⟨x.l.nd,x.l.ep⟩:Pl))) E ?_;intro w36 yJ;refine aL 2 ?_;rw[if_pos (by simpa using(by assumption:decide ((X.Nh x.l.q).Mc<x.l.ep)=true))]at hhs;subst hhs;refine dM () ?_ FH;exact yJ
 rintro _ ZO xV;refine bI (l':=[(4,pV b1 0),(5,pV b4 0),(6,pV b7 0)]) FH (aQ ?_);have vS:=xV.drew;refine fM 9 8 vS [] ?_;iterate 5 refine gW ?_
 refine gk 5 E vS (λ_ _=>ko x.l.q) ?_;refine gk (v:=.agg (bR y.b y.A y.c)) 6 E vS (λ_ aCe=>(aj E E (dP (cs:=BX.cells y) (Rd.wZ (St.Rn 4 aCe E) (λ_ _ h=>bE (enc:=BX.cells) (sz:=6) (λ_=>E) hy h))))) ?_;refine fE (m:=1) (r:=7) kQ ?_;refine mW (i:=7) E E (V:=λb=>pV b 0) (row:=zB) (t:=42) vS (wn E) E E (jd E (zeroValue42 _) E) ?_;intro ZW w49 wu;refine gW ?_;refine fC kQ E E E ?_;refine sa 0 wu kQ ?_;intro w51 pG;refine zQ ?_;refine jg ?_;refine zQ ?_;obtain⟨su,O⟩:∃f,f=if x.l.nd=n/\y.b.ep=x.l.ep then Na X.Nf x.l.q true else X.Nf:=⟨_,E⟩
 refine nD (X:=Unit) (λ_=>[(4,pV b1 0),(5,pV b4 0),(6,pV b7 0),(7,pV ZW 0)]) (λ_ wr=>St B w0 wr ((.Mg ZW (bR y.b y.A y.c) 42)::(.Mg b7 #[D (x.l.q:Int)] 3)::(.Mg b4 (LX.row x) 119)::(.Mg b1 #[pV kn 0] 98)::(nF kn n X.up z.tA X.data z.tc X.MC z.bb hs su z.iA z.ix z.ic z.pv X.turn z.bx (cF kw R m rr)))) ?_ ?_
 ·by_cases hN:x.l.nd=(n:Int)
  ·by_cases hE:y.b.ep=x.l.ep
   ·refine zQ ?_;refine fu pG mixed kQ ?_;refine zN 14 ?_;refine eP λw67 CU=>?_;refine zN 2 ?_;have Aw:=CU.drew;refine aK 6 Aw [4] ?_;refine aL 4 ?_;refine ak (v:=pV kn (13+x.l.q*1)) 4 E (St.del 4 Aw) (λ_ _=>(aM E E E (fU x.l.q underlying102 kQ E hq))) ?_;refine bg 5 ?_;refine uH (i:=5) E E (cs:= #[.bool true]) (row':=dN n X.up (.slice z.tA X.data.length z.tc) X.MC (.slice (aD z.bb 0) 4 4) hs (Na X.Nf x.l.q true) (.slice z.iA z.ix.length z.ic) (z.pv) X.turn) (fs':=(_::_::_::_::(bN kn n X.up z.tA X.data z.tc X.MC z.bb hs (Na X.Nf x.l.q true) z.iA z.ix z.ic z.pv X.turn)::_::_::_::_::_::_::rr)) 4 Aw (wn E) E E E E E E anK E (bY E) (by rw[show Array.size (dN _ _ _ _ _ _ _ _ _ _)=20 from E];omega) (Z5 hq (v:=true)) E ?_;intro w75 M5;refine aL 2 ?_;rw[if_pos Y]at O;subst O;refine dM () ?_ jX;exact M5
   refine zQ ?_;refine fu pG mixed kQ ?_;refine zN 14 ?_;refine eP λw91 zw=>?_;refine zN 3 ?_;rw[if_neg Y]at O;subst O;refine dM () ?_ jX;exact zw
  refine zQ ?_;refine fu pG mixed kQ ?_;refine zN 14 ?_;refine eP λan9 vN=>?_;refine zN 3 ?_;rw[if_neg Y]at O;subst O;refine dM () ?_ jX;exact vN
 rintro _ atU sO;refine bI (l':=[(4,pV b1 0),(5,pV b4 0),(6,pV b7 0),(7,pV ZW 0)]) jX (aQ ?_);obtain⟨BR,qF⟩:∃r,fT y.b x.l.ep=r:=⟨_,E⟩;have HP:=λw h=>FU y.b.Gq y.b.ep y.b.fr y.b.tg y.b.rd y.A y.c y.b.Gs x.l.ep w h zi;rw[show fT ⟨y.b.Gq,y.b.ep,y.b.fr,y.b.tg,y.b.rd,y.b.Gs⟩ x.l.ep=BR from qF]at HP;refine zN 4 ?_;refine dJ eQ (HP _ (qE.1.rd sO (M9 11 E hL))) ?_;rintro _ abk ⟨I,c107,arE,rfl,aCf⟩;refine⟨_,E,?_⟩;have qZ:=sO.ext aCf E;refine zN 3 ?_;refine gD qZ fZ ?_;intro M aof ER;refine sa 0 ER kQ ?_;intro aoq wP;refine zN 5 ?_;have Ao:=wP.eH [12,12,12,12,12,12,12];by_cases hB:BR.2=0
 ·rcases Xo:fD X.data X.MC [fH 7 x.l.q y.b.ep 0 aI]with _|am8
  ·have sM:=Ao.drew;refine aK 11 sM [6,5,4,3,2,1,0] ?_;refine aL 6 ?_;refine bg 6 ?_;refine uX (i:=6) E E (wg E E E E) E E (iY (vs:=[D 7,D (x.l.q:Int),.agg (bR y.b y.A y.c)]) E eQ FH) (jl 7 x.l.q ⟨y.b,y.A,y.c⟩ _) ?_;rintro _ abl ⟨rfl,aee⟩;refine⟨_,E,?_⟩;have Dh:=sM.on aee;refine dG ?_;refine bg 7 ?_;refine kg (i:=7) E E (V:=λb=>.slice (aD b 0) 1 1) (row:= #[D 7,D (x.l.q:Int),D y.b.ep,D 0,D 0,D 0,D 0,D 0,D 0,D 0]) (t:=138) Dh (wg E E E E) E E (aV (vs:=[(0,.agg #[D 7,D (x.l.q:Int),D y.b.ep,D 0,D 0,D 0,D 0,D 0,D 0,D 0])]) E xR kQ) ?_;intro aix aia yP;refine dG ?_;refine bg 8 ?_;have Sj:=yP.eH [7,7,7,7,7,7,7];refine uX (i:=8) E E (wg E E E E) E E (iY (vs:=[pV kn 0,.slice (aD aix 0) 1 1]) E eQ xR) (F3 (rs:=[fH 7 x.l.q y.b.ep 0 aI]) Xo (Ro.Mg (mem_iff_getElem?.2 ⟨0,E⟩) E E) NG.yh (by exact M9 7 E hL) (le_of_ble_eq_true E) Sj) ?_;rintro _ atM ⟨rfl,Dg⟩;refine⟨_,E,?_⟩;refine aL 4 ?_;refine zN 5 ?_;have J:X.Ny n x.l={X with Nh:=hs,Nf:=su}:=Qh Z.symm hhs O;rw[Vu hX Z.symm qF (by first|assumption|omega) Xo,J];exact⟨E,Wd.dR (X':={X with Nh:=hs,Nf:=su}) (z':=z) (Ls:=[.Mg aix #[D 7,D (x.l.q:Int),D y.b.ep,D 0,D 0,D 0,D 0,D 0,D 0,D 0] 138,.Mg M (bR BR.1 I c107) 42,.cZ 6 I BR.1.Gs.length ((BR.1.Gs).flatMap Ev.cells),.Mg ZW (bR y.b y.A y.c) 42,.Mg b7 #[D (x.l.q:Int)] 3,.Mg b4 (LX.row x) 119,.Mg b1 #[pV kn 0] 98]) (fA:=R.fA) (fc:=R.fc) (fx:=R.fx) (sA:=R.sA) (sc:=R.sc) (tA:=R.tA) (tc:=R.tc) hkn iH hrr G hn Dg (dX.Ny NG.more) (λu hu=>.inl hu) E G.Ms.symm mH⟩
  have I8:=Ao.drew;refine aK 11 I8 [6,5,4,3,2,1,0] ?_;refine aL 6 ?_;refine bg 6 ?_;refine uX (i:=6) E E (wg E E E E) E E (iY (vs:=[D 7,D (x.l.q:Int),.agg (bR y.b y.A y.c)]) E eQ FH) (jl 7 x.l.q ⟨y.b,y.A,y.c⟩ _) ?_;rintro _ aKG ⟨rfl,awQ⟩;refine⟨_,E,?_⟩;have acJ:=I8.on awQ;refine dG ?_;refine bg 7 ?_;refine kg (i:=7) E E (V:=λb=>.slice (aD b 0) 1 1) (row:= #[D 7,D (x.l.q:Int),D y.b.ep,D 0,D 0,D 0,D 0,D 0,D 0,D 0]) (t:=138) acJ (wg E E E E) E E (aV (vs:=[(0,.agg #[D 7,D (x.l.q:Int),D y.b.ep,D 0,D 0,D 0,D 0,D 0,D 0,D 0])]) E xR kQ) ?_;intro auv auc MB;refine dG ?_;refine bg 8 ?_;have aCg:=MB.eH [7,7,7,7,7,7,7];refine uX (i:=8) E E (wg E E E E) E E (iY (vs:=[pV kn 0,.slice (aD auv 0) 1 1]) E eQ xR) (F4 (rs:=[fH 7 x.l.q y.b.ep 0 aI]) Xo (Ro.Mg (mem_iff_getElem?.2 ⟨0,E⟩) E E) NG.yh (by exact M9 7 E hL) (le_of_ble_eq_true E) aCg) ?_;rintro _ aAD ⟨auw,c157,aCh,rfl,arF,abG⟩;refine⟨_,E,?_⟩;refine⟨(St.sub (abG.qp [7,6,5,4,3,2,1,0]) (Sublist.cons_cons _ (Sublist.cons_cons _ (Sublist.cons_cons _ (Sublist.cons_cons _ (Sublist.cons_cons _ (Sublist.cons_cons _ (sublist_append_left _ _)))))))),?_⟩;refine aL 3 ?_;refine zN 6 ?_;refine vv JJ ?_;refine zN 2 ?_;refine jH (row':=dN n X.up (.slice auw am8.length c157) X.MC (.slice (aD z.bb 0) 4 4) hs su (.slice z.iA z.ix.length z.ic) (.func (.func 98) #[] #[pV M 0,pV b1 0,pV b7 0]) X.turn) 0 abG kQ ?_;intro ati yR;refine zQ ?_;refine bX (l':=[]) trivial (oV ?_);have J:X.Ny n x.l={X with Nh:=hs,Nf:=su}:=Qh Z.symm hhs O;rw[acI hX Z.symm qF (by first|assumption|omega) Xo,J];refine⟨E,Wd.fin (X':={X with Nh:=hs,Nf:=su,data:=am8,Mw:=some (.Ni x.l.q BR.1)}) (z':={z with tA:=auw,tc:=c157,pv:=.func (.func 98) #[] #[pV M 0,pV b1 0,pV b7 0]}) (N:=aCh) (Ls:=[.Mg auv #[D 7,D (x.l.q:Int),D y.b.ep,D 0,D 0,D 0,D 0,D 0,D 0,D 0] 138,.Mg M (bR BR.1 I c107) 42,.cZ 6 I BR.1.Gs.length ((BR.1.Gs).flatMap Ev.cells),.Mg ZW (bR y.b y.A y.c) 42,.Mg b7 #[D (x.l.q:Int)] 3,.Mg b4 (LX.row x) 119,.Mg b1 #[pV kn 0] 98]) (fA:=R.fA) (fc:=R.fc) (fx:=R.fx) (sA:=R.sA) (sc:=R.sc) (tA:=R.tA) (tc:=R.tc) hkn iH hrr G hn yR ?_ (λu hu=>.inl hu) E G.Ms.symm mH⟩;refine{ (dX.Ny NG.more:dX K _ n {X with Nh:=hs,Nf:=su} z)with yh:=arF.mono mLN,lu:=?_ }
  show qc (K.nb n) K.wb _ _ _
  rw[hkn,iH];exact⟨M,b1,b7,⟨BR.1,I,c107⟩,E,(sw (mem_iff_getElem?.2 ⟨1,E⟩)),E,⟨(Ro.cZ (sw (mem_iff_getElem?.2 ⟨2,E⟩))),arE⟩,(sw (mem_iff_getElem?.2 ⟨6,E⟩)),(sw (mem_iff_getElem?.2 ⟨4,E⟩))⟩
 have auy:=Ao.drew;refine aK 11 auy [] ?_;refine aL 12 ?_;refine zN 5 ?_;have J:X.Ny n x.l={X with Nh:=hs,Nf:=su}:=Qh Z.symm hhs O;rw[acH hX Z.symm qF (by first|assumption|omega),J];exact⟨E,Wd.dR (X':={X with Nh:=hs,Nf:=su}) (z':=z) (Ls:=[.Mg M (bR BR.1 I c107) 42,.cZ 6 I BR.1.Gs.length ((BR.1.Gs).flatMap Ev.cells),.Mg ZW (bR y.b y.A y.c) 42,.Mg b7 #[D (x.l.q:Int)] 3,.Mg b4 (LX.row x) 119,.Mg b1 #[pV kn 0] 98]) (fA:=R.fA) (fc:=R.fc) (fx:=R.fx) (sA:=R.sA) (sc:=R.sc) (tA:=R.tA) (tc:=R.tc) hkn iH hrr G hn auy (dX.Ny NG.more) (λu hu=>.inl hu) E G.Ms.symm mH⟩
def F5{B kn kw bb n turn calls Z ic fc sc tc:Nat}{up:Bool}{h iA fA sA tA:Option Addr}{data:List UInt8}{MC:Int}{Hh:Nat->Pl}{Us:Nat->Bool}{pv nv:Value}{d:QK}{sh:Nat->Nat->Int×Int}{bs:List BX}{ix fx:List LX}{aP:List jJ}{tl:List xq}{w0 w:World}{fs:List J8}{L:List J8}{rs:List cO}{RA:Option Addr}{rc nn:Nat}(I:nn=rs.length)(J:Ro fs 10 RA nn (rs.flatMap cO.cells))(M:Ro L 1 h data.length (Gt data))(hL:∀f∈L,f∈fs)(O:nn<=1000000)(S:St B w0 w (nF kn n up h data Z MC bb Hh Us iA ix ic pv turn bs (wF kw nv d fA fx fc sh sA aP sc tA tl tc calls fs))):
 Calls tP 44 #[pV kn 0,.slice RA nn rc] w (λe w'=>(fD data MC rs=none/\e=.returned (.bool false)/\St B w0 w' (nF kn n up h data Z MC bb Hh Us iA ix ic pv turn bs (wF kw nv d fA fx fc sh sA aP sc tA tl tc calls fs)))\/ ∃d' A' c' N,fD data MC rs=some d'/\e=.returned (.bool true)/\Ro (L++N) 1 A' d'.length (Gt d')/\St B w0 w' (nF kn n up A' d' c' MC bb Hh Us iA ix ic pv turn bs (wF kw nv d fA fx fc sh sA aP sc tA tl tc calls (fs++N)))):=by
 subst I;exact qd J M hL O S
def acN{b:aU}{ep at_:Int}{l:List Ev}{last:Bool}{BR:aU×Int}(hR:cK b ep at_ l last=BR)(h:au b=0)(h1:BR.2=0)(I:¬BR.1.Gs.length=b.Gs.length):0<=at_/\b.Gs.length<=at_.toNat+l.length/\at_.toNat+l.length<=BR.1.Gs.length/\at_<=2000:=by
 have hl:=kH (jD h);subst hR;unfold cK at h1 I⊢;rw[if_neg (λe=>e h)]at h1 I⊢;by_cases c0:b.Gq≠4
 ·rw[if_pos c0]at h1;exact absurd h1 dQ
 rw[if_neg c0]at h1 I⊢;by_cases c1:b.ep≠ep
 ·rw[if_pos c1]at h1;exact absurd h1 dQ
 rw[if_neg c1]at h1 I⊢;by_cases c2:¬(0<=at_/\at_<=b.Gs.length)
 ·rw[if_pos c2]at h1;exact absurd h1 dQ
 rw[if_neg c2]at h1 I⊢;by_cases c3:¬(b.Gs.drop at_.toNat).take l.length=l.take (b.Gs.length-at_.toNat)
 ·rw[if_pos c3]at h1;exact absurd h1 dQ
 rw[if_neg c3]at h1 I⊢;by_cases M:last=true/\at_.toNat+l.length<b.Gs.length
 ·rw[if_pos M]at h1;exact absurd h1 dQ
 rw[if_neg M]at h1 I⊢;by_cases O:au (if last=true then(⟨1,ep,0,0,0,b.Gs++l.drop (b.Gs.length-at_.toNat)++[aF]⟩:aU)else{b with Gs:=b.Gs++l.drop (b.Gs.length-at_.toNat)})≠0
 ·rw[if_pos O]at h1;exact absurd h1 dQ
 rw[if_neg O]at I⊢;have Z:(l.drop (b.Gs.length-at_.toNat)).length=l.length-(b.Gs.length-at_.toNat):=length_drop;by_cases J:last=true
 ·rw[if_pos J]at I⊢;have:¬(at_.toNat+l.length<b.Gs.length):=λe=>M ⟨J,e⟩;simp only[length_append,Z,length_singleton]at I⊢;omega
 rw[if_neg J]at I⊢;simp only[length_append,Z]at I⊢;omega
def Fb{q:Nat}{b:aU}{k m m0 kk:Nat}{last:Bool}{G:List Ev}{h:List cO}(J:G=(b.Gs.drop k).take m0)(M:m0=m-k)(I:h=(G.take kk).map (λx=>fH 5 q b.ep 0 x))(O:G.length<=kk):qb q b k m last=h++(if last=true then[fH 6 q b.ep 0 aI]else[]):=by
 subst M;subst I;unfold qb;rw[take_of_length_le O,J,drop_take]
def YO{K:CK}{B n kn kw:Nat}{w0 w:World}{fs:List J8}{m:Cl}{H:List LX}{x:LX}(hn:n<5)(hkn:K.nb n=kn)(iH:K.wb=kw)(hu:Uk B w0)(hB1:m.Ms.length<=1000000000)(hB2:m.aP.length<=1000000000000)(HW:Wd K B w0 w fs m (x::H))(hq:x.l.q<4)(hv:∀q,q<4->au ((m.ah n).bs q)=0)(hxe:x.l.Gs.length<=2000):
 Calls tP 67 #[pV kw 0,pV kn 0,.agg (LX.row x)] w (λe w'=>e=.returned (.tuple #[])/\Wd K B w0 w' fs (m.QU n x.l) H):=by
 obtain⟨R,G,S0⟩:=HW.open hn;have hfl:R.fx.length=m.Ms.length:=by rw[<-G.Ms,length_map]
 have NG:=G.iK n hn;obtain⟨X,hX⟩:∃X,m.ah n=X:=⟨_,E⟩;obtain⟨z,hz⟩:∃z,R.nx n=z:=⟨_,E⟩;rw[hX,hz]at S0 NG;have hL:∀f∈R.L,f∈gG K R m fs n:=λf h=>mem_append_right _ (mem_append_right _ h);obtain⟨rr,hrr⟩:∃r,gG K R m fs n=r:=⟨_,E⟩;rw[hrr]at S0 hL;have S:St B w0 w (cN kn n X z z.pv (cF kw R m rr)):=by subst hkn;subst iH;exact S0
 clear S0 HW;have hlen:=(S.own 1 E).1;rw[iL (sz:=6) (λ_=>E)]at hlen;rw[hX]at hv;obtain⟨y,hy,hyb,qE⟩:=NG.at_ hq;have hln:=kH (jD (hyb▸hv _ hq));have zi:y.b.Gs.length*48<=reachBytes:=by unfold reachBytes;omega
 have Mx:=xH (hyb▸hv _ hq);have hxo:=G.hld x (mem_cons_self ..);have hbK:(x.l.Gs.length+2001)*48<=reachBytes:=by unfold reachBytes;omega
 refine gP 108 func67 ?_;refine cw [0,1,2] ?_;refine zN 2 ?_;refine VW S ?_;intro b1 w2 S3;refine VW S3 ?_;intro b4 w5 S6;refine iU S6 ?_;intro b7 w8 S9;refine zN 6 ?_;refine gD S9 zr3 ?_;intro J Ib pF;refine jH (row':= #[D (x.l.q:Int)]) 0 pF kQ ?_;intro En mZ;refine zN 3 ?_;have jm:=mZ.drew;refine fM 9 8 jm [] ?_;iterate 5 refine gW ?_
 refine gk 5 E jm (λ_ _=>ko x.l.q) ?_;refine gk (v:=.agg (bR y.b y.A y.c)) 6 E jm (λ_ GI=>(aj E E (dP (cs:=BX.cells y) (Rd.wZ (St.Rn 5 GI E) (λ_ _ h=>bE (enc:=BX.cells) (sz:=6) (λ_=>E) hy h))))) ?_;refine fE (m:=1) (r:=7) kQ ?_;refine mW (i:=7) E E (V:=λb=>pV b 0) (row:=zB) (t:=42) jm (wn E) E E (jd E (zeroValue42 _) E) ?_;intro AJ Oc lH;refine gW ?_;refine fC kQ E E E ?_;refine sa 0 lH kQ ?_;intro M4 sS;refine zQ ?_;refine jg ?_;refine zN 6 ?_;by_cases h28:y.b.Gq=4
 ·refine zN 6 ?_;by_cases h29:y.b.fr=x.l.fr
  ·refine zN 8 ?_;obtain⟨BR,qF⟩:∃r,cK y.b x.l.ep x.l.at_ x.l.Gs x.l.last=r:=⟨_,E⟩;have HP:=λw hK h=>FW y.b.Gq y.b.ep y.b.fr y.b.tg y.b.rd y.A y.c y.b.Gs x.l.ep x.l.at_ x.A x.c x.l.Gs x.l.last qE.2 hxo.2 w hK h zi hbK;rw[show cK ⟨y.b.Gq,y.b.ep,y.b.fr,y.b.tg,y.b.rd,y.b.Gs⟩ x.l.ep x.l.at_ x.l.Gs x.l.last=BR from qF]at HP;refine zN 10 ?_;refine dJ eQ (HP _ (hxo.1.rd sS (M9 12 E hL)) (qE.1.rd sS (M9 12 E hL))) ?_;rintro _ w33 ⟨I,O,MQ,rfl,T35⟩;refine⟨_,E,?_⟩;have qY:=sS.ext T35 E;refine zN 3 ?_;refine gD qY fZ ?_;intro Z w37 Az;refine sa 0 Az kQ ?_;intro w39 vS;refine zN 7 ?_;by_cases h41:BR.2=2
   ·refine zN 9 ?_;have Eo:=vS.eH [13,13,13,13,13,13,13];refine dJ eQ (zh hn hq hy Eo Y) ?_;rintro _ w47 ⟨rfl,A43,c44,aCi,auz,AA⟩;refine⟨_,E,?_⟩;refine zQ ?_;refine bX (l':=[]) trivial (iw (oH (iB (dW (rs:=[]) (vs:=[]) E trivial ?_))));rw[ag7 hX hyb.symm qF Y Y];exact⟨E,Wd.dR (X':=X) (z':=z) (Ls:=[.Mg Z (bR BR.1 I O) 42,.cZ 6 I BR.1.Gs.length ((BR.1.Gs).flatMap Ev.cells),.Mg AJ (bR y.b y.A y.c) 42,.Mg J #[D (x.l.q:Int)] 3,.Mg b7 (LX.row x) 119,.Mg b4 #[pV kn 0] 98,.Mg b1 #[pV kw 0] 87]) (fA:=A43) (fc:=c44) (fx:=aCi) (sA:=R.sA) (sc:=R.sc) (tA:=R.tA) (tc:=R.tc) hkn iH hrr G hn AA NG.more (by rw[auz];exact pE (je E)) (aB hX).symm (by rw[auz,map_append,G.Ms];rfl) mH⟩
   refine zN 10 ?_;by_cases h49:BR.2=0
   ·refine zN 8 ?_;by_cases h50:(BR.1.Gs.length:Int)=(y.b.Gs.length:Int)
    ·refine zN 8 ?_;have vk:=vS.eH [13,13,13,13,13,13,13];rw[TG hX hyb.symm qF Y Y Y];exact⟨E,Wd.dR (X':=X) (z':=z) (Ls:=[.Mg Z (bR BR.1 I O) 42,.cZ 6 I BR.1.Gs.length ((BR.1.Gs).flatMap Ev.cells),.Mg AJ (bR y.b y.A y.c) 42,.Mg J #[D (x.l.q:Int)] 3,.Mg b7 (LX.row x) 119,.Mg b4 #[pV kn 0] 98,.Mg b1 #[pV kw 0] 87]) (fA:=R.fA) (fc:=R.fc) (fx:=R.fx) (sA:=R.sA) (sc:=R.sc) (tA:=R.tA) (tc:=R.tc) hkn iH hrr G hn vk NG.more (λu hu=>.inl hu) (aB hX).symm G.Ms.symm mH⟩
    refine zN 8 ?_;obtain⟨ha0,ha1,ha2,ha3⟩:=acN qF (hyb▸hv _ hq) Y Y;obtain⟨M,hM⟩:∃k,k=x.l.at_.toNat+x.l.Gs.length:=⟨_,E⟩;rw[<-hM]at ha1 ha2;obtain⟨m0,hm0⟩:∃k,k=M-y.b.Gs.length:=⟨_,E⟩;refine zQ ?_;have pG:=vS.nil 138 10;refine zN 10 ?_;refine vv (v:=D (M:Int)) (bM E E E (ad2 (z:=(M:Int)) Y Y)) ?_;refine zN 12 ?_;obtain⟨A2,hs2,hr2,_⟩:=FL (P:=tP) (t:=40) (enc:=Ev.cells) (s:=6) (λ_=>E) (A:=I) (b:=BR.1.Gs) (n:=BR.1.Gs.length) (c:=O) (lo:=(some (D (y.b.Gs.length:Int)))) (hi:=(some (D (M:Int)))) (mx:=none) (l:=y.b.Gs.length) (k:=M) (q:=O) (m:=m0) (c':=O-y.b.Gs.length) underlying40 kQ (WU (y.b.Gs.length) M E E Y Y) Y Y Y hm0.symm E;obtain⟨GE,hG⟩:∃g,g=(BR.1.Gs.drop y.b.Gs.length).take m0:=⟨_,E⟩;rw[<-hG]at hr2;have hGl:GE.length=m0:=by rw[hG,length_take,length_drop];omega
    refine vv (v:=.slice A2 m0 (O-y.b.Gs.length)) (jZ E E (jy E) (jy E) nZ (hs2 _)) ?_;refine zN 5 ?_;refine fJ (X:=(List cO)×Nat×(Option Addr)×Nat) (λxv=>[(3,pV b1 0),(4,pV b4 0),(5,pV b7 0),(6,pV J 0),(8,pV Z 0),(76,.slice A2 m0 (O-y.b.Gs.length)),(77,D (m0:Int)),(10,.slice xv.2.2.1 xv.2.1 xv.2.2.2),(78,D (xv.2.1:Int))]) (λxv wr=>(xv.1=(GE.take xv.2.1).map (λu=>fH 5 x.l.q BR.1.ep 0 u))/\(xv.2.1<=m0)/\(xv.2.1=xv.1.length)/\St B w0 wr ((.own 138 10 (.slice xv.2.2.1 xv.2.1 xv.2.2.2) xv.2.1 ((xv.1).flatMap cO.cells))::(.Mg Z (bR BR.1 I O) 42)::(.cZ 6 I BR.1.Gs.length ((BR.1.Gs).flatMap Ev.cells))::(.Mg AJ (bR y.b y.A y.c) 42)::(.Mg J #[D (x.l.q:Int)] 3)::(.Mg b7 (LX.row x) 119)::(.Mg b4 #[pV kn 0] 98)::(.Mg b1 #[pV kw 0] 87)::(cN kn n X z z.pv (cF kw R m rr)))) (λxv=>m0-xv.2.1) ([],0,none,0) ?_ ?_ ?_
    ·exact⟨iQ,zero_le _,E,pG⟩
    ·exact tU9
    rintro⟨acc,k,A9,c9⟩ w53 ⟨Ou,aCj,aiy,uO⟩
    try dsimp only at Ou aCj aiy uO
    refine bI (l':=[(3,pV b1 0),(4,pV b4 0),(5,pV b7 0),(6,pV J 0),(8,pV Z 0),(76,.slice A2 m0 (O-y.b.Gs.length)),(77,D (m0:Int)),(10,.slice A9 k c9),(78,D ((k:Nat):Int))]) tU9 (aQ (aC ?_));by_cases h58:((k:Nat):Int)< (m0:Int)
    ·refine zN 10 ?_;obtain⟨e,he⟩:∃e,GE[k]? =some e:=⟨_,getElem?_eq_getElem Y⟩;refine zQ ?_;obtain⟨rb,ro,hra,_,hrc⟩:=(hr2 _ _ (St.cZ 2 uO E)).2 Y;subst hra;refine vv (ko k) ?_;refine vv (v:=.agg #[D e.kind,D e.Mr,D e.id,D e.body,D e.MF,D e.Nc]) (aj E E (dP (cs:=Ev.cells e) (λj u hu=>by rw[Nat.add_assoc];exact hrc (k*6+j) u (bE (enc:=Ev.cells) (sz:=6) (λ_=>E) he hu)))) ?_;refine gD uO aa3 ?_;intro b59 w60 Ie;refine sa 0 Ie kQ ?_;intro ZK xg;refine zN 6 ?_;refine Rq eQ xg (jl 5 x.l.q ⟨BR.1,I,O⟩ _) ?_;intro w64 GQ;refine gD GQ xC ?_;intro b67 w68 Aw;refine sa 0 Aw kQ ?_;intro w70 rX;refine zN 6 ?_;refine jH (row':= #[D 5,D (x.l.q:Int),D BR.1.ep,D 0,D e.kind,D e.Mr,D e.id,D e.body,D e.MF,D e.Nc]) 0 rX kQ ?_;intro w72 uq;refine zN 5 ?_;refine SG uq ?_;intro b74 w75 M5;refine dU (news:=[D 5,D (x.l.q:Int),D BR.1.ep,D 0,D e.kind,D e.Mr,D e.id,D e.body,D e.MF,D e.Nc]) (xs':=(acc++[fH 5 x.l.q BR.1.ep 0 e]).flatMap cO.cells) 3 M5 (wn E) E E E E E E (St.mD (xs:=[D 5,D (x.l.q:Int),D BR.1.ep,D 0,D e.kind,D e.Mr,D e.id,D e.body,D e.MF,D e.Nc]) 0 M5 E E E) underlying126 PZ E dQ (bY E) lQ Y (jB (enc:=cO.cells) E E) ?_;intro A77 c78 w79 aKH aKI Cb;change St _ _ _ (_::_::_::(.own 138 10 (.slice A77 (k+1) c78) (k+1) ((acc++[fH 5 x.l.q BR.1.ep 0 e]).flatMap cO.cells))::_::_::_::_::_::_::_::_::_::_::_::_::_::_::rr)at Cb;refine zN 5 ?_;refine vv (v:=D ((k+1:Nat):Int)) iI ?_;refine zN 2 ?_;have Dz:=Cb.aO [2,1,0];refine bC (acc++[fH 5 x.l.q BR.1.ep 0 e],k+1,A77,c78) ?_ tU9 (by first|omega|(dsimp only;omega));exact⟨(by dsimp only;rw[Ou,take_add_one,he];simp),uQ,(by dsimp only;simp[aiy]),Dz⟩
    refine zN 14 ?_;refine vv (v:=.bool x.l.last) (aj E E (aG (St.cl 5 uO E E))) ?_;refine qk [3,4,5,6,8,10,93] ?_;refine iw ?_
    cases aKJ:(x.l.last)
    ·refine bI (l':=[(3,pV b1 0),(4,pV b4 0),(5,pV b7 0),(6,pV J 0),(8,pV Z 0),(10,.slice A9 k c9),(93,.bool false)]) uj (mq E (qQ (iw (aQ (aQ (aC (vv (aj E E (aG (St.cl 6 uO E E))) ?_)))))));refine zQ ?_;have JW:=uO.eH [14,14,14,14,14,14,14];refine dJ eQ (F5 (nn:=k) (rs:=acc) (by simp[<-aiy]) (Ro.own (mem_iff_getElem?.2 ⟨0,E⟩)) NG.yh (by exact M9 8 E hL) Y JW) ?_;rintro _ w92 (⟨aoG,rfl,DF⟩|⟨auA,A87,c88,N89,aoG,rfl,awR,DF⟩)
     ·refine⟨_,E,?_⟩;refine zN 7 ?_;have hgr:qb x.l.q BR.1 y.b.Gs.length (x.l.at_.toNat+x.l.Gs.length) x.l.last=acc:=by
       rw[<-hM,Fb hG hm0 Ou Y,if_neg (by simp[*])];exact append_nil _
      rw[TH hX hyb.symm qF Y Y Y (by rw[hgr];exact aoG)];exact⟨E,Wd.dR (X':=X) (z':=z) (Ls:=[.own 138 10 (.slice A9 k c9) k ((acc).flatMap cO.cells),.Mg Z (bR BR.1 I O) 42,.cZ 6 I BR.1.Gs.length ((BR.1.Gs).flatMap Ev.cells),.Mg AJ (bR y.b y.A y.c) 42,.Mg J #[D (x.l.q:Int)] 3,.Mg b7 (LX.row x) 119,.Mg b4 #[pV kn 0] 98,.Mg b1 #[pV kw 0] 87]) (fA:=R.fA) (fc:=R.fc) (fx:=R.fx) (sA:=R.sA) (sc:=R.sc) (tA:=R.tA) (tc:=R.tc) hkn iH hrr G hn DF NG.more (λu hu=>.inl hu) (aB hX).symm G.Ms.symm mH⟩
     refine⟨_,E,?_⟩;refine zN 8 ?_;refine vv JJ ?_;refine zN 2 ?_;refine jH (row':=dN n X.up (.slice A87 auA.length c88) X.MC (.slice (aD z.bb 0) 4 4) X.Nh X.Nf (.slice z.iA z.ix.length z.ic) (.func (.func 96) #[] #[pV Z 0,pV b4 0,pV J 0,pV b7 0,pV b1 0]) X.turn) 0 DF kQ ?_;intro w94 Lp;refine zQ ?_;refine bX (l':=[]) trivial (oV ?_);have hgr:qb x.l.q BR.1 y.b.Gs.length (x.l.at_.toNat+x.l.Gs.length) x.l.last=acc:=by
      rw[<-hM,Fb hG hm0 Ou Y,if_neg (by simp[*])];exact append_nil _
     rw[afh hX hyb.symm qF Y Y Y (by rw[hgr];exact aoG)];refine⟨E,Wd.fin (X':={X with data:=auA,Mw:=some (.QU x.l.q BR.1 x.l.last)}) (z':={z with tA:=A87,tc:=c88,pv:=.func (.func 96) #[] #[pV Z 0,pV b4 0,pV J 0,pV b7 0,pV b1 0]}) (N:=N89) (Ls:=[.own 138 10 (.slice A9 k c9) k ((acc).flatMap cO.cells),.Mg Z (bR BR.1 I O) 42,.cZ 6 I BR.1.Gs.length ((BR.1.Gs).flatMap Ev.cells),.Mg AJ (bR y.b y.A y.c) 42,.Mg J #[D (x.l.q:Int)] 3,.Mg b7 (LX.row x) 119,.Mg b4 #[pV kn 0] 98,.Mg b1 #[pV kw 0] 87]) (fA:=R.fA) (fc:=R.fc) (fx:=R.fx) (sA:=R.sA) (sc:=R.sc) (tA:=R.tA) (tc:=R.tc) hkn iH hrr G hn Lp ?_ (λu hu=>.inl hu) E G.Ms.symm mH⟩;refine{ (NG.more:dX K _ n X z)with yh:=awR.mono mLN,lu:=?_ }
     show qc (K.nb n) K.wb _ _ _
     rw[hkn,iH];exact⟨Z,b4,J,b7,b1,⟨BR.1,I,O⟩,x,E,(sw (mem_iff_getElem?.2 ⟨1,E⟩)),E,⟨(Ro.cZ (sw (mem_iff_getElem?.2 ⟨2,E⟩))),MQ⟩,(sw (mem_iff_getElem?.2 ⟨6,E⟩)),(sw (mem_iff_getElem?.2 ⟨4,E⟩)),(sw (mem_iff_getElem?.2 ⟨5,E⟩)),E,(sw (mem_iff_getElem?.2 ⟨7,E⟩))⟩
    refine bI (l':=[(3,pV b1 0),(4,pV b4 0),(5,pV b7 0),(6,pV J 0),(8,pV Z 0),(10,.slice A9 k c9),(93,.bool true)]) uj (mo E (aC (vm ?_)));refine zN 2 ?_;refine Rq eQ uO (jl 6 x.l.q ⟨BR.1,I,O⟩ _) ?_;intro w96 DJ;refine SG DJ ?_;intro b99 aij wR;refine dU (news:=[D 6,D (x.l.q:Int),D BR.1.ep,D 0,D 0,D 0,D 0,D 0,D 0,D 0]) (xs':=(acc++[fH 6 x.l.q BR.1.ep 0 aI]).flatMap cO.cells) 1 wR (wn E) E E E E E E (St.mD (xs:=[D 6,D (x.l.q:Int),D BR.1.ep,D 0,D 0,D 0,D 0,D 0,D 0,D 0]) 0 wR E E E) underlying126 PZ E dQ (bY E) lQ Y (jB (enc:=cO.cells) E E) ?_;intro aoo aop atU aGz aGA sO;refine zN 8 ?_;have vL:=sO.eH [15,15,15,15,15,15,15];refine dJ eQ (F5 (nn:=k+1) (rs:=acc++[fH 6 x.l.q BR.1.ep 0 aI]) (by simp[<-aiy]) (Ro.own (mem_iff_getElem?.2 ⟨1,E⟩)) NG.yh (by exact M9 9 E hL) Y vL) ?_;rintro _ aoq (⟨aef,rfl,wP⟩|⟨am9,aik,ail,aCk,aef,rfl,arH,wP⟩)
    ·refine⟨_,E,?_⟩;refine zN 7 ?_;have hgr:qb x.l.q BR.1 y.b.Gs.length (x.l.at_.toNat+x.l.Gs.length) x.l.last=acc++[fH 6 x.l.q BR.1.ep 0 aI]:=by
      rw[<-hM,Fb hG hm0 Ou Y,if_pos ‹_›]
     rw[TH hX hyb.symm qF Y Y Y (by rw[hgr];exact aef)];exact⟨E,Wd.dR (X':=X) (z':=z) (Ls:=[.Mg b99 #[D 6,D (x.l.q:Int),D BR.1.ep,D 0,D 0,D 0,D 0,D 0,D 0,D 0] 138,.own 138 10 (.slice aoo (k+1) aop) (k+1) ((acc++[fH 6 x.l.q BR.1.ep 0 aI]).flatMap cO.cells),.Mg Z (bR BR.1 I O) 42,.cZ 6 I BR.1.Gs.length ((BR.1.Gs).flatMap Ev.cells),.Mg AJ (bR y.b y.A y.c) 42,.Mg J #[D (x.l.q:Int)] 3,.Mg b7 (LX.row x) 119,.Mg b4 #[pV kn 0] 98,.Mg b1 #[pV kw 0] 87]) (fA:=R.fA) (fc:=R.fc) (fx:=R.fx) (sA:=R.sA) (sc:=R.sc) (tA:=R.tA) (tc:=R.tc) hkn iH hrr G hn wP NG.more (λu hu=>.inl hu) (aB hX).symm G.Ms.symm mH⟩
    refine⟨_,E,?_⟩;refine zN 8 ?_;refine vv JJ ?_;refine zN 2 ?_;refine jH (row':=dN n X.up (.slice aik am9.length ail) X.MC (.slice (aD z.bb 0) 4 4) X.Nh X.Nf (.slice z.iA z.ix.length z.ic) (.func (.func 96) #[] #[pV Z 0,pV b4 0,pV J 0,pV b7 0,pV b1 0]) X.turn) 0 wP kQ ?_;intro abW wO;refine zQ ?_;refine bX (l':=[]) trivial (oV ?_);have hgr:qb x.l.q BR.1 y.b.Gs.length (x.l.at_.toNat+x.l.Gs.length) x.l.last=acc++[fH 6 x.l.q BR.1.ep 0 aI]:=by
     rw[<-hM,Fb hG hm0 Ou Y,if_pos ‹_›]
    rw[afh hX hyb.symm qF Y Y Y (by rw[hgr];exact aef)];refine⟨E,Wd.fin (X':={X with data:=am9,Mw:=some (.QU x.l.q BR.1 x.l.last)}) (z':={z with tA:=aik,tc:=ail,pv:=.func (.func 96) #[] #[pV Z 0,pV b4 0,pV J 0,pV b7 0,pV b1 0]}) (N:=aCk) (Ls:=[.Mg b99 #[D 6,D (x.l.q:Int),D BR.1.ep,D 0,D 0,D 0,D 0,D 0,D 0,D 0] 138,.own 138 10 (.slice aoo (k+1) aop) (k+1) ((acc++[fH 6 x.l.q BR.1.ep 0 aI]).flatMap cO.cells),.Mg Z (bR BR.1 I O) 42,.cZ 6 I BR.1.Gs.length ((BR.1.Gs).flatMap Ev.cells),.Mg AJ (bR y.b y.A y.c) 42,.Mg J #[D (x.l.q:Int)] 3,.Mg b7 (LX.row x) 119,.Mg b4 #[pV kn 0] 98,.Mg b1 #[pV kw 0] 87]) (fA:=R.fA) (fc:=R.fc) (fx:=R.fx) (sA:=R.sA) (sc:=R.sc) (tA:=R.tA) (tc:=R.tc) hkn iH hrr G hn wO ?_ (λu hu=>.inl hu) E G.Ms.symm mH⟩;refine{ (NG.more:dX K _ n X z)with yh:=arH.mono mLN,lu:=?_ }
    show qc (K.nb n) K.wb _ _ _
    rw[hkn,iH];exact⟨Z,b4,J,b7,b1,⟨BR.1,I,O⟩,x,E,(sw (mem_iff_getElem?.2 ⟨2,E⟩)),E,⟨(Ro.cZ (sw (mem_iff_getElem?.2 ⟨3,E⟩))),MQ⟩,(sw (mem_iff_getElem?.2 ⟨7,E⟩)),(sw (mem_iff_getElem?.2 ⟨5,E⟩)),(sw (mem_iff_getElem?.2 ⟨6,E⟩)),E,(sw (mem_iff_getElem?.2 ⟨8,E⟩))⟩
   refine zN 16 ?_;have xY:=vS.eH [13,13,13,13,13,13,13];rw[TG hX hyb.symm qF Y Y Y];exact⟨E,Wd.dR (X':=X) (z':=z) (Ls:=[.Mg Z (bR BR.1 I O) 42,.cZ 6 I BR.1.Gs.length ((BR.1.Gs).flatMap Ev.cells),.Mg AJ (bR y.b y.A y.c) 42,.Mg J #[D (x.l.q:Int)] 3,.Mg b7 (LX.row x) 119,.Mg b4 #[pV kn 0] 98,.Mg b1 #[pV kw 0] 87]) (fA:=R.fA) (fc:=R.fc) (fx:=R.fx) (sA:=R.sA) (sc:=R.sc) (tA:=R.tA) (tc:=R.tc) hkn iH hrr G hn xY NG.more (λu hu=>.inl hu) (aB hX).symm G.Ms.symm mH⟩
  refine zN 8 ?_;have sM:=sS.eH [11,11,11,11,11,11,11];rw[afg hX hyb.symm Y];exact⟨E,Wd.dR (X':=X) (z':=z) (Ls:=[.Mg AJ (bR y.b y.A y.c) 42,.Mg J #[D (x.l.q:Int)] 3,.Mg b7 (LX.row x) 119,.Mg b4 #[pV kn 0] 98,.Mg b1 #[pV kw 0] 87]) (fA:=R.fA) (fc:=R.fc) (fx:=R.fx) (sA:=R.sA) (sc:=R.sc) (tA:=R.tA) (tc:=R.tc) hkn iH hrr G hn sM NG.more (λu hu=>.inl hu) (aB hX).symm G.Ms.symm mH⟩
 refine zN 14 ?_;have GU:=sS.eH [11,11,11,11,11,11,11];rw[afg hX hyb.symm Y];exact⟨E,Wd.dR (X':=X) (z':=z) (Ls:=[.Mg AJ (bR y.b y.A y.c) 42,.Mg J #[D (x.l.q:Int)] 3,.Mg b7 (LX.row x) 119,.Mg b4 #[pV kn 0] 98,.Mg b1 #[pV kw 0] 87]) (fA:=R.fA) (fc:=R.fc) (fx:=R.fx) (sA:=R.sA) (sc:=R.sc) (tA:=R.tA) (tc:=R.tc) hkn iH hrr G hn GU NG.more (λu hu=>.inl hu) (aB hX).symm G.Ms.symm mH⟩
def Wi{P:Program}{t:TypeId}{xo yo:Operand}{w:World}{a b c:Nat}(h:c=a % b)(I:b≠0):(do eqGuard .rem t xo yo (D (a:Int)) (D (b:Int));binOp .rem t (D (a:Int)) (D (b:Int)):Sem Value).run P w=.ok (D (c:Int)) w:=by
 subst h;have h1:((a:Int)).tmod (b:Int)=((a % b:Nat):Int):=by rw[Int.tmod_eq_emod_of_nonneg (Int.natCast_nonneg a)];rfl
 have J:¬((b:Int)=0):=Y;simp[binOp,Op.intDiv,J,h1,eqGuard_rem];exact λh=>absurd h I
def BF{m:Cl}{n q:Nat}{X:Nd}{b:aU}(h:m.ah n=X)(I:q=X.turn % 4)(J:X.bs q=b):m.jV n={ (m.put n {X with turn:=X.turn+1})with Ms:=m.Ms++gu n q b (X.Nf q)}:=by
 subst h;subst I;subst J;rfl
def dX.turn{K:CK}{L:List J8}{n t:Nat}{X:Nd}{z:NX}(h:dX K L n X z):dX K L n {X with turn:=t} z:=⟨h.Ry,h.TF,h.yh,h.ixm,h.ixo,h.lu⟩
def awS{fx:List LX}{x y:LX}{P:LX->Prop}(I:P x)(J:P y):∀u∈fx++[x,y],u∈fx\/P u:=λu M=>(mem_append.1 M).elim .inl λh=>by
 rcases mem_cons.1 h with h|h
 ·subst h;exact .inr I
 rw[mem_singleton]at h;subst h;exact .inr J
def YP{K:CK}{B n kn kw:Nat}{w0 w:World}{fs:List J8}{m:Cl}{H:List LX}(hn:n<5)(M:K.nb n=kn)(O:K.wb=kw)(hu:Uk B w0)(hB1:m.Ms.length<=1000000000)(hB2:m.aP.length<=1000000000000)(HW:Wd K B w0 w fs m H)(htn:(m.ah n).turn<=1000000000000)(hv:∀q,q<4->au ((m.ah n).bs q)=0):
 Calls prog 48 #[pV kw 0,pV kn 0] w (λe w'=>e=.returned (.tuple #[])/\Wd K B w0 w' fs (m.jV n) H):=by
 obtain⟨R,G,S0⟩:=HW.open hn;have hfl:R.fx.length=m.Ms.length:=by rw[<-G.Ms,length_map]
 have NG:=G.iK n hn;obtain⟨X,hX⟩:∃X,m.ah n=X:=⟨_,E⟩;obtain⟨z,hz⟩:∃z,R.nx n=z:=⟨_,E⟩;rw[hX,hz]at S0 NG;have hL:∀f∈R.L,f∈gG K R m fs n:=λf h=>mem_append_right _ (mem_append_right _ h);obtain⟨rr,Z⟩:∃r,gG K R m fs n=r:=⟨_,E⟩;rw[Z]at S0 hL;have S:St B w0 w (cN kn n X z z.pv (cF kw R m rr)):=by subst M;subst O;exact S0
 clear S0 HW;have hlen:=(S.own 1 E).1;rw[iL (sz:=6) (λ_=>E)]at hlen;rw[hX]at hv htn;obtain⟨q,hqt⟩:∃q,q=X.turn % 4:=⟨_,E⟩;have hq:q<4:=Y;obtain⟨y,hy,hyb,qE⟩:=NG.at_ hq;have Mx:=xH (hyb▸hv _ hq);refine gP 89 func48 ?_;refine cw [0,1] ?_;refine zN 6 ?_;refine vv (v:=D ((q:Nat):Int)) (bM E E E (Wi hqt dQ)) ?_;refine zN 9 ?_;refine vv (v:=D ((X.turn+1:Nat):Int)) iI ?_;refine zN 2 ?_;refine jH (row':=dN n X.up (.slice z.tA X.data.length z.tc) X.MC (.slice (aD z.bb 0) 4 4) X.Nh X.Nf (.slice z.iA z.ix.length z.ic) (z.pv) (X.turn+1)) 0 S kQ ?_;intro w1 S2;refine zN 9 ?_;refine vv (ko q) ?_;refine vv (aj E E (dP (cs:=BX.cells y) (Rd.wZ (St.Rn 1 S2 E) (λ_ _ h=>bE (enc:=BX.cells) (sz:=6) (λ_=>E) hy h)))) ?_;refine gD S2 fZ ?_;intro b3 w4 S5;refine sa 0 S5 kQ ?_;intro w6 S7;refine zN 7 ?_;by_cases h8:y.b.Gq=2
 ·refine zN 9 ?_;have S9:=S7.eH [5,5];have DI:=S9.drew;refine aK 13 DI [1,0] ?_;refine aL 10 ?_;refine ak (v:=D (y.b.ep+1)) 10 E (DI.qp [1,0]) (λ_ _=>iI) ?_;refine ak (v:=.agg #[D 2,D (n:Int),D y.b.tg,D ((q:Nat):Int),D (y.b.ep+1),D 0,D 0,D 0,D 0,D 0,D 0,D 0,D 0,.slice none 0 0,.bool false,D 0,D 0,D 0,D 0,D 0,D 0,D 0,D 0]) 11 E (DI.qp [1,0]) (λ_ _=>gH) ?_;refine bg 12 ?_;refine kE 12 E eQ (gX (x:=⟨vT n q y.b,none,0⟩) DI Y) ?_;rintro _ NZ ⟨rfl,A23,c24,aCl,aCm,tC⟩;refine⟨_,E,?_⟩;refine aL 2 ?_;refine zN 36 ?_;have tF:=tC.aO [2];have zP:=tF.eH [6,6,3,3,6,6,6];have I:gu n q y.b (X.Nf q)=[vT n q y.b]:=by
   unfold gu
   (rw[if_pos (by first|omega|exact⟨by omega,by omega,by assumption⟩),if_neg (by first|omega|(rintro⟨h1,h2,h3⟩;first|omega|simp_all)),if_neg (by first|omega|(rintro⟨h1,h2,h3⟩;first|omega|simp_all))])<;>rfl
  rw[BF hX hqt hyb.symm];have J:=aCm;exact⟨E,Wd.dR (X':={X with turn:=X.turn+1}) (z':=z) (Ls:=[]) (fA:=A23) (fc:=c24) (fx:=aCl) (sA:=R.sA) (sc:=R.sc) (tA:=R.tA) (tc:=R.tc) M O Z G hn zP (dX.turn NG.more) (by rw[J];exact pE (je E)) E (by rw[J,I,map_append,G.Ms];rfl) (λu h=>.inl h)⟩
 refine zN 4 ?_;by_cases h31:y.b.Gq=3
 ·refine zN 5 ?_;have uw:=S7.eH [5,5];have vR:=uw.drew;refine aK 13 vR [1,0] ?_;refine aL 10 ?_;refine ak (v:=D (y.b.ep+1)) 10 E (vR.qp [1,0]) (λ_ _=>iI) ?_;refine ak (v:=.agg #[D 2,D (n:Int),D y.b.tg,D ((q:Nat):Int),D (y.b.ep+1),D 0,D 0,D 0,D 0,D 0,D 0,D 0,D 0,.slice none 0 0,.bool false,D 0,D 0,D 0,D 0,D 0,D 0,D 0,D 0]) 11 E (vR.qp [1,0]) (λ_ _=>gH) ?_;refine bg 12 ?_;refine kE 12 E eQ (gX (x:=⟨vT n q y.b,none,0⟩) vR Y) ?_;rintro _ VY ⟨rfl,A46,c47,aKK,auB,vk⟩;refine⟨_,E,?_⟩;refine aL 2 ?_;refine zN 17 ?_;refine vv (v:=.agg #[D 5,D (n:Int),D (-2),D ((q:Nat):Int),D 0,D 0,D (-1),D 0,D 0,D 0,D 0,D 0,D 0,.slice none 0 0,.bool false,D 0,D 0,D 0,D 0,D 0,D 0,D 0,D 0]) gH ?_;refine dJ eQ (gX (x:=⟨OI n q,none,0⟩) vk (by simp only[auB,length_append,length_cons,length_nil];omega)) ?_;rintro _ w56 ⟨rfl,A52,c53,auC,aCn,vQ⟩;refine⟨_,E,?_⟩;refine zN 26 ?_;have DL:=vQ.aO [2];have Ca:=DL.eH [6,6,3,3,6,6,6];have I:gu n q y.b (X.Nf q)=[vT n q y.b,OI n q]:=by
   unfold gu
   (rw[if_pos (by first|omega|exact⟨by omega,by omega,by assumption⟩),if_pos (by first|omega|exact⟨by omega,by omega,by assumption⟩),if_neg (by first|omega|(rintro⟨h1,h2,h3⟩;first|omega|simp_all))])<;>rfl
  rw[BF hX hqt hyb.symm];have J:auC=R.fx++[⟨vT n q y.b,none,0⟩,⟨OI n q,none,0⟩]:=by rw[aCn,auB];simp
  exact⟨E,Wd.dR (X':={X with turn:=X.turn+1}) (z':=z) (Ls:=[]) (fA:=A52) (fc:=c53) (fx:=auC) (sA:=R.sA) (sc:=R.sc) (tA:=R.tA) (tc:=R.tc) M O Z G hn Ca (dX.turn NG.more) (by rw[J];exact awS (je E) (je E)) E (by rw[J,I,map_append,G.Ms];rfl) (λu h=>.inl h)⟩
 refine zN 22 ?_;by_cases h60:y.b.Gq=1
 ·refine zN 4 ?_;by_cases h61:1<y.b.ep
  ·refine zN 7 ?_;refine vg (v:=pV kn (13+q*1)) (aM E E E (fU q underlying102 kQ E hq)) ?_;refine vg (aj E E (aG (St.cl 1 S7 E (alh hq)))) ?_
   cases at6:(X.Nf q)
   ·refine zN 5 ?_;have xg:=S7.eH [5,5];have S64:=xg.drew;refine aK 15 S64 [1,0] ?_;refine aL 8 ?_;refine ak (v:=D (y.b.ep-1)) 8 E (S64.qp [1,0]) (λ_ _=>ysu) ?_;refine aL 4 ?_;refine ak (v:=.agg #[D 5,D (n:Int),D (-2),D ((q:Nat):Int),D (y.b.ep-1),D 0,D (n:Int),D 0,D 0,D 0,D 0,D 0,D 0,.slice none 0 0,.bool false,D 0,D 0,D 0,D 0,D 0,D 0,D 0,D 0]) 13 E (S64.qp [1,0]) (λ_ _=>gH) ?_;refine bg 14 ?_;refine kE 14 E eQ (gX (x:=⟨MO n q y.b,none,0⟩) S64 Y) ?_;rintro _ w83 ⟨rfl,A79,c80,aCo,aCp,FR⟩;refine⟨_,E,?_⟩;refine aL 2 ?_;refine bX (l':=[]) trivial (oV ?_);have JW:=FR.aO [2];have Cg:=JW.eH [6,6,3,3,6,6,6];have I:gu n q y.b (X.Nf q)=[MO n q y.b]:=by
     unfold gu
     (rw[if_neg (by first|omega|(rintro⟨h1,h2,h3⟩;first|omega|simp_all)),if_neg (by first|omega|(rintro⟨h1,h2,h3⟩;first|omega|simp_all)),if_pos (by first|omega|exact⟨by omega,by omega,by assumption⟩)])<;>rfl
    rw[BF hX hqt hyb.symm];have J:=aCp;exact⟨E,Wd.dR (X':={X with turn:=X.turn+1}) (z':=z) (Ls:=[]) (fA:=A79) (fc:=c80) (fx:=aCo) (sA:=R.sA) (sc:=R.sc) (tA:=R.tA) (tc:=R.tc) M O Z G hn Cg (dX.turn NG.more) (by rw[J];exact pE (je E)) E (by rw[J,I,map_append,G.Ms];rfl) (λu h=>.inl h)⟩
   refine zN 7 ?_;have GK:=S7.aO [0];have I:gu n q y.b (X.Nf q)=[]:=by
    unfold gu
    (rw[if_neg (by first|omega|(rintro⟨h1,h2,h3⟩;first|omega|simp_all)),if_neg (by first|omega|(rintro⟨h1,h2,h3⟩;first|omega|simp_all)),if_neg (by first|omega|(rintro⟨h1,h2,h3⟩;first|omega|simp_all))])<;>rfl
   rw[BF hX hqt hyb.symm];exact⟨E,Wd.dR (X':={X with turn:=X.turn+1}) (z':=z) (Ls:=[]) (fA:=R.fA) (fc:=R.fc) (fx:=R.fx) (sA:=R.sA) (sc:=R.sc) (tA:=R.tA) (tc:=R.tc) M O Z G hn GK (dX.turn NG.more) (λu hu=>.inl hu) E (by rw[I,G.Ms,append_nil]) (λu h=>.inl h)⟩
  refine zN 16 ?_;have JQ:=S7.aO [0];have I:gu n q y.b (X.Nf q)=[]:=by
   unfold gu
   (rw[if_neg (by first|omega|(rintro⟨h1,h2,h3⟩;first|omega|simp_all)),if_neg (by first|omega|(rintro⟨h1,h2,h3⟩;first|omega|simp_all)),if_neg (by first|omega|(rintro⟨h1,h2,h3⟩;first|omega|simp_all))])<;>rfl
  rw[BF hX hqt hyb.symm];exact⟨E,Wd.dR (X':={X with turn:=X.turn+1}) (z':=z) (Ls:=[]) (fA:=R.fA) (fc:=R.fc) (fx:=R.fx) (sA:=R.sA) (sc:=R.sc) (tA:=R.tA) (tc:=R.tc) M O Z G hn JQ (dX.turn NG.more) (λu hu=>.inl hu) E (by rw[I,G.Ms,append_nil]) (λu h=>.inl h)⟩
 refine zN 20 ?_;have JM:=S7.aO [0];have I:gu n q y.b (X.Nf q)=[]:=by
  unfold gu
  (rw[if_neg (by first|omega|(rintro⟨h1,h2,h3⟩;first|omega|simp_all)),if_neg (by first|omega|(rintro⟨h1,h2,h3⟩;first|omega|simp_all)),if_neg (by first|omega|(rintro⟨h1,h2,h3⟩;first|omega|simp_all))])<;>rfl
 rw[BF hX hqt hyb.symm];exact⟨E,Wd.dR (X':={X with turn:=X.turn+1}) (z':=z) (Ls:=[]) (fA:=R.fA) (fc:=R.fc) (fx:=R.fx) (sA:=R.sA) (sc:=R.sc) (tA:=R.tA) (tc:=R.tc) M O Z G hn JM (dX.turn NG.more) (λu hu=>.inl hu) E (by rw[I,G.Ms,append_nil]) (λu h=>.inl h)⟩
end Go.Proofs.YtefabpdniidmbaaGreatDoor
