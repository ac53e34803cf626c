import Derived.Test.YtefabpdniidmbaaGreatDoorG23281
import Derived.Test.YtefabpdniidmbaaGreatDoorGea56f
set_option linter.all false
set_option maxRecDepth 100000
set_option maxHeartbeats 8000000
namespace Go.Proofs.YtefabpdniidmbaaGreatDoor
open List Nat Go.Proofs.Tryz
section
open ChangeShapes WideShapes RowKit
structure wS where
 num:Int
 ans:iR
 pl:Pl
structure bG where
 kd:Int:=0
 fr:Int:=0
 tg:Int:=0
 q:Nat:=0
 ep:Int:=0
 at_:Int:=0
 nd:Int:=0
 op:Ev:=aH
 evs:List Ev:=[]
 last:Bool:=false
 num:Int:=0
 bK:wS:=⟨0,eT,nE⟩
structure jH where
 nd:Nat
 q:Nat
 ep:Int
 op:Ev
 ans:iR
 num:Int
inductive bO
 |serve (q:Nat) (evs:List Ev) (op:Ev) (num:Int) (a:iR)
 |begun (q:Nat) (b:aQ)
 |got (q:Nat) (b:aQ) (last:Bool)
 |fF (q:Nat) (b:aQ) (at_:Int)
 |forget (q:Nat) (b:aQ)
structure Nd where
 up:Bool
 data:List UInt8
 syn:Int
 bs:Nat->aQ
 hints:Nat->Pl
 sure:Nat->Bool
 inbox:List bG
 pend:Option bO
 turn:Nat
structure Cl where
 ah:Nat->Nd
 off:Dir
 fly:List bG
 shown:Nat->Nat->Int×Int
 aV:List jH
 bK:List wS
 calls:Nat
def upd {α:Type}(f:Nat->α)(k:Nat)(v:α):Nat->α:=λj=>if j=k then v else f j
def iw {α:Type}(f:Nat->Nat->α)(n q:Nat)(v:α):Nat->Nat->α:=λi j=>if i=n/\j=q then v else f i j
def Cl.put (w:Cl)(n:Nat)(x:Nd):Cl:={w with ah:=upd w.ah n x}
def Cl.aA (w:Cl)(n q:Nat)(b:aQ):Cl:=w.put n {w.ah n with bs:=upd (w.ah n).bs q b}
def Cl.send (w:Cl)(l:bG):Cl:={w with fly:=w.fly++[l]}
def Nd.blank (x:Nd):Nd:={x with bs:=λ_=>bD,sure:=λ_=>false,hints:=λ_=>nowhere,inbox:=[],pend:=none}
def nd0:Nd:=⟨true,[],0,λ_=>bD,λ_=>nowhere,λ_=>false,[],none,0⟩
def kW:Cl:=⟨λ_=>nd0,⟨nowhere,nowhere,nowhere,nowhere⟩,[],λ_ _=>(0,0),[],[],0⟩
def fB (l:List UInt8)(s:Int):List cB->Option (List UInt8)
 |[]=>some l
 |r::rs=>if (iU l s r).2.2≠0 then none else fB (iU l s r).1 s rs
def Nd.write (x:Nd)(rs:List cB):Option Nd:=(fB x.data x.syn rs).map λd=>{x with data:=d}
def fH (k:Int)(q:Nat)(ep pe:Int)(e:Ev):cB:=⟨k,q,ep,pe,e⟩
def Cl.tell (w:Cl)(n q:Nat)(e:Ev)(a:iR)(num:Int):Cl:=
 {w with aV:=w.aV++[⟨n,q,((w.ah n).bs q).ep,e,a,num⟩],shown:=iw w.shown n q (((w.ah n).bs q).ep,((w.ah n).bs q).evs.length)}
def serves (b:aQ):Prop:=b.role=1\/b.role=2
instance (b:aQ):Decidable (serves b):=by unfold serves;exact inferInstance
def lX (n:Nat)(num:Int)(a:iR)(p:Pl):bG:={kd:=1,fr:=n,tg:= -1,bK:=⟨num,a,p⟩}
def Cl.done (w:Cl)(n q:Nat)(op:Ev)(num:Int)(a:iR):Cl:=
 if serves ((w.ah n).bs q)then(w.tell n q op a num).send (lX n num a nowhere)else w.send (lX n num a ((w.ah n).hints q))
noncomputable def Cl.serve (w:Cl)(n:Nat)(l:bG):Cl:=
 if (gL ((w.ah n).bs l.q) l.op).2.2.1=false then w.done n l.q l.op l.num (gL ((w.ah n).bs l.q) l.op).2.1
 else match (w.ah n).write [fH 2 l.q (gL ((w.ah n).bs l.q) l.op).1.ep 0 l.op]with
  |none=>w.done n l.q l.op l.num (sw 14)
  |some x=>w.put n {x with pend:=some (.serve l.q (gL ((w.ah n).bs l.q) l.op).1.evs l.op l.num (gL ((w.ah n).bs l.q) l.op).2.1)}
def oh (n q:Nat)(b:aQ):bG:={kd:=3,fr:=n,tg:=b.fr,q:=q,ep:=b.ep,at_:=b.evs.length}
def Cl.have_ (w:Cl)(n q:Nat):Cl:=w.send (oh n q ((w.ah n).bs q))
noncomputable def Cl.offered (w:Cl)(n:Nat)(l:bG):Cl:=
 if (dn ((w.ah n).bs l.q) l.ep l.fr).2≠0 then w
 else if (dn ((w.ah n).bs l.q) l.ep l.fr).1.ep=((w.ah n).bs l.q).ep then w.have_ n l.q
 else match (w.ah n).write [fH 4 l.q (dn ((w.ah n).bs l.q) l.ep l.fr).1.ep l.fr aH]with
  |none=>w
  |some x=>w.put n {x with pend:=some (.begun l.q (dn ((w.ah n).bs l.q) l.ep l.fr).1)}
def p8 (q:Nat)(b:aQ)(k m:Nat)(last:Bool):List cB:=
 ((b.evs.take m).drop k).map (λx=>fH 5 q b.ep 0 x)++if last=true then[fH 6 q b.ep 0 aH]else[]
noncomputable def Cl.got (w:Cl)(n:Nat)(l:bG):Cl:=
 if ((w.ah n).bs l.q).role≠4\/((w.ah n).bs l.q).fr≠l.fr then w
 else if (cu ((w.ah n).bs l.q) l.ep l.at_ l.evs l.last).2=2 then w.have_ n l.q
 else if (cu ((w.ah n).bs l.q) l.ep l.at_ l.evs l.last).2≠0\/(cu ((w.ah n).bs l.q) l.ep l.at_ l.evs l.last).1.evs.length=((w.ah n).bs l.q).evs.length then w
 else match (w.ah n).write (p8 l.q (cu ((w.ah n).bs l.q) l.ep l.at_ l.evs l.last).1 ((w.ah n).bs l.q).evs.length (l.at_.toNat+l.evs.length) l.last)with
  |none=>w
  |some x=>w.put n {x with pend:=some (.got l.q (cu ((w.ah n).bs l.q) l.ep l.at_ l.evs l.last).1 l.last)}
noncomputable def FI (n q:Nat)(b:aQ)(at_:Int):bG:={kd:=4,fr:=n,tg:=b.tg,q:=q,ep:=b.ep+1,at_:=at_,evs:=(gX b at_).1,last:=(gX b at_).2.1}
noncomputable def Cl.part (w:Cl)(n q:Nat)(at_:Int):Cl:=if (gX ((w.ah n).bs q) at_).2.2≠0 then w else w.send (FI n q ((w.ah n).bs q) at_)
noncomputable def Cl.caught (w:Cl)(n:Nat)(l:bG):Cl:=
 if ((w.ah n).bs l.q).tg≠l.fr\/((w.ah n).bs l.q).ep+1≠l.ep then w
 else if (bE ((w.ah n).bs l.q) l.at_).2≠0 then w
 else if (bE ((w.ah n).bs l.q) l.at_).1.role=((w.ah n).bs l.q).role then(w.aA n l.q (bE ((w.ah n).bs l.q) l.at_).1).part n l.q l.at_
 else match (w.ah n).write [fH 3 l.q (bE ((w.ah n).bs l.q) l.at_).1.ep (bE ((w.ah n).bs l.q) l.at_).1.tg aH]with
  |none=>w
  |some x=>w.put n {x with pend:=some (.fF l.q (bE ((w.ah n).bs l.q) l.at_).1 l.at_)}
def Nd.hear (x:Nd)(n:Nat)(l:bG):Nd:=
 {x with hints:=if (x.hints l.q).epoch<l.ep then upd x.hints l.q ⟨l.nd,l.ep⟩else x.hints,sure:=if l.nd=n/\(x.bs l.q).ep=l.ep then upd x.sure l.q true else x.sure}
noncomputable def Cl.learnt (w:Cl)(n:Nat)(l:bG):Cl:=
 if (fP ((w.ah n).bs l.q) l.ep).2≠0 then w.put n ((w.ah n).hear n l)
 else match ((w.ah n).hear n l).write [fH 7 l.q ((w.ah n).bs l.q).ep 0 aH]with
  |none=>w.put n ((w.ah n).hear n l)
  |some x=>w.put n {x with pend:=some (.forget l.q (fP ((w.ah n).bs l.q) l.ep).1)}
def vL (n q:Nat)(b:aQ):bG:={kd:=2,fr:=n,tg:=b.tg,q:=q,ep:=b.ep+1}
def Ow (n q:Nat):bG:={kd:=5,fr:=n,tg:= -2,q:=q,nd:= -1}
def Mw (n q:Nat)(b:aQ):bG:={kd:=5,fr:=n,tg:= -2,q:=q,ep:=b.ep-1,nd:=n}
def fV (n q:Nat)(b:aQ)(sure:Bool):List bG:=
 (if b.role=2\/b.role=3 then[vL n q b]else[])++(if b.role=3 then[Ow n q]else[])++if b.role=1/\1<b.ep/\sure=false then[Mw n q b]else[]
def Cl.jU (w:Cl)(n:Nat):Cl:=
 let q:=(w.ah n).turn % 4
 { (w.put n {w.ah n with turn:=(w.ah n).turn+1})with fly:=w.fly++fV n q ((w.ah n).bs q) ((w.ah n).sure q)}
noncomputable def Cl.xS (w:Cl)(n:Nat):bO->Cl
 | .serve q evs op num a=>(w.aA n q { (w.ah n).bs q with evs:=evs}).done n q op num a
 | .begun q b=>(w.aA n q b).have_ n q
 | .got q b last=>if last=true then((w.aA n q b).put n { (w.aA n q b).ah n with sure:=upd (w.ah n).sure q false}).tell n q aF eT (-1)else(w.aA n q b).have_ n q
 | .fF q b at_=>(w.aA n q b).part n q at_
 | .forget q b=>w.aA n q b
noncomputable def Cl.handle (w:Cl)(n:Nat)(l:bG):Cl:=
 if l.kd=0 then w.serve n l else if l.kd=2 then w.offered n l else if l.kd=3 then w.caught n l else if l.kd=4 then w.got n l else w.learnt n l
noncomputable def Cl.drain (n:Nat):List bG->Cl->Cl
 |[],w=>w
 |l::r,w=>if ((w.put n {w.ah n with inbox:=r}).handle n l |>.ah n).pend=none then Cl.drain n r ((w.put n {w.ah n with inbox:=r}).handle n l)else(w.put n {w.ah n with inbox:=r}).handle n l
noncomputable def Cl.step (w:Cl)(n:Nat):Cl:=
 if (w.ah n).up=false then w else match (w.ah n).pend with
  |some p=>(w.put n {w.ah n with syn:=(w.ah n).data.length,pend:=none}).xS n p
  |none=>if ((Cl.drain n (w.ah n).inbox w).ah n).pend=none then(Cl.drain n (w.ah n).inbox w).jU n else Cl.drain n (w.ah n).inbox w
def lg (tg:Int)(q:Nat)(p:Pl):bG:={kd:=6,fr:= -2,tg:=tg,q:=q,ep:=p.epoch,nd:=p.node}
noncomputable def dG (d:Dir)(l:bG):Dir:=if 0<=l.nd/\(vP d l.q l.ep l.nd).2=0 then(vP d l.q l.ep l.nd).1 else d
noncomputable def Cl.come (w:Cl)(l:bG):Cl:=
 if l.tg= -1 then{w with bK:=w.bK++[l.bK]}
 else if l.tg= -2 then
  if (aI (dG w.off l) l.q).2=0 then{w with off:=dG w.off l,fly:=w.fly++[lg l.fr l.q (aI (dG w.off l) l.q).1]}else{w with off:=dG w.off l}
 else if (w.ah l.tg.toNat).up=true then w.put l.tg.toNat {w.ah l.tg.toNat with inbox:=(w.ah l.tg.toNat).inbox++[l]}else w
noncomputable def Cl.pick (w:Cl)(at_:Nat)(comes stays:Bool):Cl:=
 match w.fly[at_ % w.fly.length]? with
 |none=>w
 |some l=>
  let w1:=if stays=true then w else{w with fly:=w.fly.eraseIdx (at_ % w.fly.length)}
  if comes=true then w1.come l else w1
noncomputable def Cl.make (w:Cl)(n q:Nat):Cl:=
 if (w.ah n).up=false\/(w.ah n).pend.isSome=true\/(rU w.off q n).2≠0 then w
 else if (iT ((w.ah n).bs q) 1).2≠0 then w
 else match (w.ah n).write [fH 1 q (iT ((w.ah n).bs q) 1).1.ep 0 aH]with
  |none=>w
  |some x=>{w.put n {x with syn:=x.data.length,bs:=upd x.bs q (iT ((w.ah n).bs q) 1).1}with off:=(rU w.off q n).1,shown:=iw w.shown n q (1,0)}
noncomputable def Cl.move (w:Cl)(q:Nat)(tg:Int):Cl:=
 if (aI w.off q).2≠0\/(aI w.off q).1.node=tg\/(w.ah (aI w.off q).1.node.toNat).up=false then w
 else if (uw ((w.ah (aI w.off q).1.node.toNat).bs q) tg).2=0/\(uw ((w.ah (aI w.off q).1.node.toNat).bs q) tg).1.ep=(aI w.off q).1.epoch then
  w.aA (aI w.off q).1.node.toNat q (uw ((w.ah (aI w.off q).1.node.toNat).bs q) tg).1
 else w
noncomputable def CZ (data:List UInt8)(syn:Int):Option (List aQ):=(allM (uI (jA data syn).1 (jA data syn).2.1).1).1
noncomputable def bg (data:List UInt8)(syn:Int):Nat->aQ:=λq=>I8 ((CZ data syn).getD []) q
def Cl.recovered (w:Cl)(n q:Nat)(evs:List Ev)(an:List iR):List Nat->Cl
 |[]=>w
 |i::r=>Cl.recovered (w.tell n q (evs.getD i aH) (an.getD i eT) (-1)) n q evs an r
noncomputable def Cl.recover (w:Cl)(n q:Nat):Cl:=
 if (w.shown n q).1≠((w.ah n).bs q).ep then w.tell n q aF eT (-1)
 else w.recovered n q ((w.ah n).bs q).evs (ay ((w.ah n).bs q).evs).2.1 ((range ((w.ah n).bs q).evs.length).drop (w.shown n q).2.toNat)
noncomputable def eF (syn:Int)(bs:Nat->aQ):List Nat->List UInt8->Option (List UInt8)
 |[],d=>some d
 |q::r,d=>if (bs q).role≠1 then eF syn bs r d else if (dK (bs q)).2≠0 then none else
  match fB d syn [fH 2 q (bs q).ep 0 aF]with
  |none=>none
  |some d'=>eF syn bs r d'
noncomputable def Cl.woken (n:Nat)(bs:Nat->aQ):List Nat->Cl->Cl
 |[],w=>w
 |q::r,w=>if (bs q).role≠1 then Cl.woken n bs r w else Cl.woken n bs r (((w.recover n q).aA n q (dK (bs q)).1).tell n q aF eT (-1))
noncomputable def Cl.start (w:Cl)(n:Nat):Cl:=
 if (w.ah n).up=true then w else
 match eF (jA (w.ah n).data (w.ah n).syn).2.1 (bg (w.ah n).data (w.ah n).syn) [0,1,2,3] (jA (w.ah n).data (w.ah n).syn).1 with
 |none=>w
 |some d=>Cl.woken n (bg (w.ah n).data (w.ah n).syn) [0,1,2,3] (w.put n { (w.ah n).blank with up:=true,data:=d,syn:=d.length,bs:=bg (w.ah n).data (w.ah n).syn})
def Cl.crash (w:Cl)(n:Nat)(keep:Int):Cl:=
 if (w.ah n).up=true then w.put n { (w.ah n).blank with up:=false,data:=(nD (w.ah n).data (w.ah n).syn keep).1,syn:=(nD (w.ah n).data (w.ah n).syn keep).2.1}else w
def Ac.op (a:Ac):Ev:=⟨a.ek,a.ep,a.ei,a.eb,a.eh,a.en⟩
def vQ (n:Int)(q:Nat)(op:Ev)(num:Int):bG:={kd:=0,fr:= -1,tg:=n,q:=q,op:=op,num:=num}
noncomputable def Cl.all (w:Cl):Cl:=w.fly.foldl Cl.come {w with fly:=[]}
noncomputable def Cl.act (w:Cl)(a:Ac):Cl:=
 if a.kd=1 then w.make a.nd.toNat a.qu.toNat
 else if a.kd=2 then{w with fly:=w.fly++[vQ a.nd a.qu.toNat a.op w.calls],calls:=w.calls+1}
 else if a.kd=3 then w.step a.nd.toNat
 else if a.kd=4\/a.kd=5\/a.kd=6 then w.pick a.at_.toNat (decide (a.kd≠5)) (decide (a.kd=6))
 else if a.kd=7 then w.all
 else if a.kd=8 then w.crash a.nd.toNat a.kp
 else if a.kd=9 then w.start a.nd.toNat
 else w.move a.qu.toNat a.nd
noncomputable def Cl.run (w:Cl)(l:List Ac):Cl:=l.foldl Cl.act w
noncomputable def Nd.view (x:Nd):Nat->aQ:=if x.up=true then x.bs else bg x.data x.syn
def uZ:∀(a b:List Ev) (Q:Qd) (an:List iR),gW Q an (a++b)=(gW Q an a).bind λr=>gW r.1 r.2 b
 |[],b,Q,an=>rfl
 |e::a,b,Q,an=>by
  simp only[cons_append,gW]
  split
  ·exact uZ a b _ _
  rfl
def good (l:List Ev):Prop:=(ay l).2.2=0
section
variable {l:List Ev}{e:Ev}{k:Nat}
def uS:good l↔l.length<=2000/\ ∃r,gW dW [] l=some r:=by
 unfold good
 constructor
 ·intro h;refine⟨gJ h,?_⟩;have J:¬ 2000<l.length:=by have:=gJ h;omega
  cases I:gW dW [] l with
  |none=>rw[J7 J I]at h;cases h
  |some r=>exact⟨r,E⟩
 rintro⟨h,r,I⟩;rw[EA Y I]
def yh {r:Qd×List iR}(h:l.length<=2000)(I:gW dW [] l=some r):ay l=(r.1,r.2,0):=EA Y I
def xk:good []:=uS.2 ⟨by simp,_,E⟩
def Tm {a b:List Ev}(h:good (a++b)):good a:=by
 obtain⟨h1,r,I⟩:=uS.1 h;rw[uZ]at I;rw[length_append]at h1
 cases J:gW dW [] a with
 |none=>rw[J]at I;cases I
 |some s=>exact uS.2 ⟨by omega,s,J⟩
def nU (h:good l):good (l.take k):=Tm (b:=l.drop k) (by rwa [take_append_drop])
def kF (h:good l):l.length<=2000:=gJ h
def good_step (h:good (l++[e])):(iK (ay l).1 e).2.2.2=0/\(iK (ay l).1 e).2.2.1=true/\ay (l++[e])=((iK (ay l).1 e).1,(ay l).2.1++[(iK (ay l).1 e).2.1],0):=by
 obtain⟨h1,r,I⟩:=uS.1 h;rw[length_append]at h1;rw[uZ]at I
 cases J:gW dW [] l with
 |none=>rw[J]at I;cases I
 |some s=>
  have hs:=yh Y J;rw[J]at I;simp only[Option.bind_some,gW]at I
  split at I
  ·rename_i M
   rw[hs];refine⟨M.1,M.2,?_⟩
   cases I;refine yh (r:=((iK s.1 e).1,s.2++[(iK s.1 e).2.1])) (by rw[length_append];exact h1) ?_;rw[uZ,J];simp only[Option.bind_some,gW];rw[if_pos M]
  cases I
def Ox (h:good l)(O:l.length<2000)(I:(iK (ay l).1 e).2.2.2=0)(J:(iK (ay l).1 e).2.2.1=true):good (l++[e]):=by
 obtain⟨h1,s,M⟩:=uS.1 h;have hs:=yh h1 M;rw[hs]at I J;refine uS.2 ⟨by simp;omega,((iK s.1 e).1,s.2++[(iK s.1 e).2.1]),?_⟩;rw[uZ,M];simp only[Option.bind_some,gW];rw[if_pos ⟨I,J⟩]
def Oy (h:good l):(ay l).2.1.length=l.length:=by
 obtain⟨h1,s,I⟩:=uS.1 h;rw[yh h1 I];have:=(Dz (by simp[dW]) I).2;simpa using this
def nV (h:k<l.length):l.take (k+1)=l.take k++[l[k]]:=by rw[take_add_one,getElem?_eq_getElem h];rfl
def Tn:∀(n:Nat) {l:List Ev},l.length=n->good l-> ∀k (J:k<l.length),(ay l).2.1[k]? =some (iK (ay (l.take k)).1 l[k]).2.1
 | 0,l,hn,_,k,J=>absurd J Y
 |n+1,l,hn,h,k,J=>by
  have e:l=l.take n++[l[n]]:=by rw[<-nV Y,<-hn,take_length]
  have Z:good (l.take n++[l[n]]):=e▸h;obtain⟨h1,h2,h3⟩:=good_step Z;have I:(ay (l.take n)).2.1.length=n:=by rw[Oy (nU h),length_take];omega
  have hm:(ay l).2.1=(ay (l.take n)).2.1++[(iK (ay (l.take n)).1 l[n]).2.1]:=by
   have:=congrArg (λx=>x.2.1) h3;rw[<-e]at this;exact this
  rw[hm];by_cases M:k=n
  ·subst M;rw[getElem?_append_right Y,I,Nat.sub_self];rfl
  rw[getElem?_append_left Y];have O:k< (l.take n).length:=by rw[length_take];omega
  have:=Tn n (l:=l.take n) (by rw[length_take];omega) (nU h) k O;rw[this,take_take,Nat.min_eq_left Y];simp
def aeL {Q:Qd}(h:(iK Q aF).2.2.1=true):(iK Q aF).2.1=eT:=by
 by_cases I:Q.fault=0
 ·have he:aX aF=0:=by decide
  rw[zk I he]at h⊢
  show(stepM Q aF).2.1=eT
  have h1:(stepM Q aF).2.2=true:=h;unfold stepM at h1⊢;simp only[aF,Int.reduceEq,if_false]at h1⊢;unfold Ey at h1⊢
  split at h1
  ·cases h1
  rename_i J;rw[if_neg J]
 rw[Mt I]at h
 cases h
def akH {Q:Qd}{e:Ev}(J:(iK Q e).2.2.2=0)(h:(iK Q e).2.2.1=false):(iK Q e).1=Q:=by
 by_cases M:Q.fault=0
 ·by_cases h1:aX e=0
  ·rw[zk M h1]at h⊢
   show(stepM Q e).1=Q
   have I:(stepM Q e).2.2=false:=h;unfold stepM at I⊢
   split at I
   ·rename_i g;rw[if_pos g]
    unfold BG at I⊢
    repeat' split at I
    all_goals first
     |(cases I;done)
     |(simp_all)
   rename_i g;rw[if_neg g]
   split at I
   ·rename_i O;rw[if_pos O]
    unfold Gl at I⊢
    split at I
    ·simp_all
    split at I
    ·simp_all
    cases I
   rename_i O;rw[if_neg O]
   split at I
   ·rename_i g2;rw[if_pos g2]
    unfold Ew at I⊢
    repeat' split at I
    all_goals first
     |(cases I;done)
     |(simp_all)
   rename_i g2;rw[if_neg g2]
   unfold Ey at I⊢
   split at I
   ·simp_all
   cases I
  rw[QE M h1]at J;exact absurd J h1
 rw[Mt M]at J;exact absurd J M
end
noncomputable def rp:Qd->List jH->Option Qd
 |x,[]=>some x
 |x,s::r=>if (iK x s.op).2.2.2=0/\(iK x s.op).2.1=s.ans then rp (iK x s.op).1 r else none
def aeM:∀(a b:List jH) (x:Qd),rp x (a++b)=(rp x a).bind λy=>rp y b
 |[],b,x=>rfl
 |s::a,b,x=>by
  simp only[cons_append,rp]
  split
  ·exact aeM a b _
  rfl
def Ec {x y:Qd}{a:List jH}{s:jH}(h:rp x a=some y)(I:(iK y s.op).2.2.2=0)(J:(iK y s.op).2.1=s.ans):rp x (a++[s])=some (iK y s.op).1:=by
 rw[aeM,h];simp only[Option.bind_some,rp];rw[if_pos ⟨I,J⟩]
structure Gh where
 m:Nat
 own:Nat->Nat
 len:Nat->Nat
 G:List Ev
 F:Nat
 t:Nat
def Gh.bd (g:Gh)(k:Nat):Nat:=if k=g.m then g.G.length else g.len k
def Gh.o (g:Gh):Nat:=g.own g.m
def Oth (g:Gh)(n:Nat)(b:aQ):Prop:=
 (b.role=0/\0<=b.ep/\b.ep<g.m)\/
 (∃k:Nat,b.role=3/\b.ep=k/\1<=k/\k<g.m/\g.own k=n/\b.evs=g.G.take (g.len k)/\b.tg=g.own (k+1))\/
 (∃k:Nat,b.role=4/\b.ep=(k:Int)+1/\1<=k/\k<=g.m/\b.fr=g.own k/\b.evs=g.G.take b.evs.length/\b.evs.length<=g.bd k/\(k<g.m->g.own (k+1)≠n))
def Ed (g:Gh)(V:Nat->aQ)(pl:Pl)(l:bG):Prop:=
 (l.kd=2-> ∃k:Nat,l.ep=(k:Int)+1/\1<=k/\k<=g.m/\l.fr=g.own k)/\
 (l.kd=4-> ∃k:Nat,l.ep=(k:Int)+1/\1<=k/\k<=g.m/\l.fr=g.own k/\0<=l.at_/\l.evs=(g.G.drop l.at_.toNat).take l.evs.length/\l.at_.toNat+l.evs.length<=g.bd k/\
  (l.last=true->(k<g.m/\(g.own (k+1):Int)=l.tg)\/(k=g.m/\(V g.o).role=3/\(V g.o).tg=l.tg/\l.at_.toNat+l.evs.length=g.G.length)))/\
 (l.kd=5->0<=l.nd-> ∃k:Nat,l.ep=k/\1<=k/\k<g.m/\(g.own (k+1):Int)=l.nd)/\
 (l.kd=6-> ∃k:Nat,l.ep=k/\1<=k/\(k:Int)<=pl.epoch/\(g.own k:Int)=l.nd)
def Ee (g:Gh)(V:Nat->aQ)(n:Nat):bO->Prop
 | .serve _ evs op _ a=>n=g.o/\serves (V n)/\evs=g.G++[op]/\(iK (ay g.G).1 op).2.1=a/\good evs
 | .begun _ b=> ∃k:Nat,b=⟨4,(k:Int)+1,g.own k,0,0,[]⟩/\1<=k/\k<=g.m/\((V n).role=0\/(V n).role=4)/\(V n).ep< (k:Int)+1
 | .got _ b last=>(V n).role=4/\(last=false-> ∃j,b={V n with evs:=g.G.take j}/\(V n).evs.length<=j/\ ∀k:Nat,(V n).ep=(k:Int)+1->j<=g.bd k)/\
   (last=true->(V n).ep=(g.m:Int)+1/\(V g.o).role=3/\(V g.o).tg=n/\b=⟨1,(g.m:Int)+1,0,0,0,g.G++[aF]⟩/\good (g.G++[aF]))
 | .fF _ b _=>n=g.o/\(V n).role=2/\b={V n with role:=3,rd:=0}
 | .forget _ b=>(V n).role=3/\b=⟨0,(V n).ep,0,0,0,[]⟩/\(V n).ep<g.m
structure Rh (own:Nat->Nat)(t:Nat)(sv:List jH):Prop where
 each:∀s∈sv,∃k:Nat,s.ep=k/\1<=k/\k<=t/\s.nd=own k
 two:∀i a b,sv[i]? =some a->sv[i+1]? =some b->b.ep=a.ep\/(b.ep=a.ep+1/\b.op=aF)
 last:∀s,sv.getLast?=some s->s.ep=t
 nil:sv=[]->t=1
structure Inv (g:Gh)(V:Nat->aQ)(P:Nat->Option bO)(U:Nat->Bool)(Lt:bG->Prop)(pl:Pl)(sh:Nat->Int×Int)(sv:List jH):Prop where
 m1:1<=g.m
 ab2:∀k,1<=k->k<=g.m->g.own k<5
 adj:∀k,1<=k->k<g.m->g.own k≠g.own (k+1)
 dir:∃d:Nat,pl=⟨g.own d,d⟩/\1<=d/\(d=g.m\/d+1=g.m)
 q9:(V g.o).ep=g.m
 uJ:(V g.o).evs=g.G
 Aw:(V g.o).role=1\/(V g.o).role=2\/(V g.o).role=3
 Ri:(V g.o).role≠1->pl.epoch=g.m/\(V g.o).tg≠g.o/\0<=(V g.o).tg/\(V g.o).tg<5
 gd:good g.G
 mV:∀n,n<5->n≠g.o->Oth g n (V n)
 ge:∀k,1<=k->k<=g.m->(k:Int)<=(V (g.own k)).ep
 brk:∀k,1<=k->k<g.m->g.G[g.len k]? =some aF/\g.len k<g.bd (k+1)
 mR:∀l,Lt l->Ed g V pl l
 lF:∀n,n<5-> ∀p,P n=some p->U n=true/\Ee g V n p
 Lc:(g.t=g.m/\sh g.o=((g.m:Int),(g.F:Int))/\g.F<=g.G.length)\/(g.t+1=g.m/\(sh g.o).1<g.m/\U g.o=false/\g.F+1=g.G.length/\g.G[g.F]? =some aF)
 upF:U g.o=true->g.F=g.G.length
 slF:(V g.o).role=3->g.F=g.G.length
 sho:∀n,n<5->n≠g.o->(sh n).1<g.m
 rps:rp dW sv=some (ay (g.G.take g.F)).1
 svs:Rh g.own g.t sv
section
variable {g:Gh}{V:Nat->aQ}{P:Nat->Option bO}{U:Nat->Bool}{Lt:bG->Prop}{pl:Pl}{sh:Nat->Int×Int}{sv:List jH}{n:Nat}{l:bG}{b:aQ}
def Inv.o5 (I:Inv g V P U Lt pl sh sv):g.o<5:=I.ab2 _ I.m1 (Nat.le_refl _)
def Inv.Xb (I:Inv g V P U Lt pl sh sv){k:Nat}(h:1<=k)(h1:k<=g.m):g.bd k<=g.G.length:=by
 unfold Gh.bd
 split
 ·exact Nat.le_refl _
 have:=(I.brk k h Y).1;exact Nat.le_of_lt (List.getElem?_eq_some_iff.1 this).1
def Inv.Mx (I:Inv g V P U Lt pl sh sv){k:Nat}(h:1<=k)(h1:k<g.m):g.len k<g.G.length:=(List.getElem?_eq_some_iff.1 (I.brk k h h1).1).1
def Inv.who (I:Inv g V P U Lt pl sh sv)(hn:n<5)(h:serves (V n)):n=g.o:=by
 by_cases e:n=g.o
 ·exact e
 have:=I.mV n hn e;unfold serves at h
 rcases this with⟨h1,_⟩|⟨k,h1,_⟩|⟨k,h1,_⟩<;>omega
def upd_same {α:Type}(f:Nat->α)(k:Nat)(v:α):upd f k v k=v:=if_pos E
def upd_ne {α:Type}{f:Nat->α}{k j:Nat}{v:α}(h:j≠k):upd f k v j=f j:=if_neg h
def aC {α:Type}{f:Nat->α}{k:Nat}{v:α}(h:f k=v):upd f k v=f:=by
 funext j
 unfold upd
 split
 ·rename_i e;rw[e,h]
 rfl
def Inv.yT {Lt':bG->Prop}(I:Inv g V P U Lt pl sh sv)(h:∀l,Lt' l->Lt l\/Ed g V pl l):Inv g V P U Lt' pl sh sv:=
 {I with mR:=λl J=>(h l J).elim (I.mR l) id}
def Inv.atS {P':Nat->Option bO}(I:Inv g V P U Lt pl sh sv)(h:∀n p,n<5->P' n=some p->P n=some p\/(U n=true/\Ee g V n p)):Inv g V P' U Lt pl sh sv:=
 {I with lF:=λn hn p J=>(h n p hn J).elim (I.lF n hn p) id}
def Inv.down (I:Inv g V P U Lt pl sh sv)(n:Nat):Inv g V (upd P n none) (upd U n false) Lt pl sh sv:=
 {I with
  lF:=λk M p J=>by
   by_cases e:k=n
   ·subst e;rw[upd_same]at J;cases J
   rw[upd_ne e]at J⊢;exact I.lF k M p J
  Lc:=by
   rcases I.Lc with h|⟨h1,O,Z,h4⟩
   ·exact .inl h
   refine .inr ⟨h1,O,?_,h4⟩;by_cases e:g.o=n
   ·rw[e,upd_same]
   rw[upd_ne e];exact Z
  upF:=λh=>by
   by_cases e:g.o=n
   ·rw[e,upd_same]at h;cases h
   rw[upd_ne e]at h;exact I.upF h}
def Inv.up (I:Inv g V P U Lt pl sh sv)(n:Nat)(h:n=g.o->g.t=g.m/\g.F=g.G.length):Inv g V P (upd U n true) Lt pl sh sv:=
 {I with
  lF:=λk O p Z=>by
   obtain⟨h1,J⟩:=I.lF k O p Z;refine⟨?_,J⟩;by_cases e:k=n
   ·rw[e,upd_same]
   rw[upd_ne e];exact h1
  Lc:=by
   by_cases e:g.o=n
   ·obtain⟨h1,J⟩:=h e.symm
    rcases I.Lc with h|⟨h3,_⟩
    ·exact .inl h
    omega
   rw[upd_ne e];exact I.Lc
  upF:=λM=>by
   by_cases e:g.o=n
   ·exact(h e.symm).2
   rw[upd_ne e]at M;exact I.upF M}
def Ee.mono {V':Nat->aQ}{p:bO}(h:Ee g V n p)(hv:V' n=V n)(I:(V g.o).role=3->(V' g.o).role=3/\(V' g.o).tg=(V g.o).tg):Ee g V' n p:=by
 cases p with
 |serve q evs op num a=>unfold Ee at h⊢;rw[hv];exact h
 |begun q b=>unfold Ee at h⊢;rw[hv];exact h
 |got q b last=>
  unfold Ee at h⊢;rw[hv];refine⟨h.1,h.2.1,λJ=>?_⟩;obtain⟨h1,M,O,Z⟩:=h.2.2 J;obtain⟨h5,h6⟩:=I M;exact⟨h1,h5,h6.trans O,Z⟩
 |fF q b at_=>unfold Ee at h⊢;rw[hv];exact h
 |forget q b=>unfold Ee at h⊢;rw[hv];exact h
def Ed.mono {V':Nat->aQ}(h:Ed g V pl l)(I:(V g.o).role=3->(V' g.o).role=3/\(V' g.o).tg=(V g.o).tg):Ed g V' pl l:=by
 obtain⟨h1,J,M⟩:=h;refine⟨h1,λO=>?_,M⟩;obtain⟨k,a,b,c,d,e,f,i,j⟩:=J O;refine⟨k,a,b,c,d,e,f,i,λZ=>?_⟩
 rcases j Z with j|⟨j1,j2,j3,j4⟩
 ·exact .inl j
 obtain⟨h5,h6⟩:=I j2;exact .inr ⟨j1,h5,h6.trans j3,j4⟩
def Inv.Sd (I:Inv g V P U Lt pl sh sv)(hn:n<5)(hno:n≠g.o)(hp:P n=none)(hb:Oth g n b)(hge:(V n).ep<=b.ep):Inv g (upd V n b) P U Lt pl sh sv:=by
 have J:upd V n b g.o=V g.o:=upd_ne (λe=>hno e.symm);exact{I with
  q9:=by rw[J];exact I.q9
  uJ:=by rw[J];exact I.uJ
  Aw:=by rw[J];exact I.Aw
  Ri:=by rw[J];exact I.Ri
  slF:=by rw[J];exact I.slF
  mV:=λk O Z=>by
   by_cases e:k=n
   ·subst e;rw[upd_same];exact hb
   rw[upd_ne e];exact I.mV k O Z
  ge:=λk h1 h2=>by
   have:=I.ge k h1 h2;by_cases e:g.own k=n
   ·rw[e]at this⊢;rw[upd_same];omega
   rw[upd_ne e];exact this
  mR:=λl hl=>(I.mR l hl).mono λh=>by rw[J];exact⟨h,E⟩
  lF:=λk O p M=>by
   obtain⟨h1,h2⟩:=I.lF k O p M;refine⟨h1,h2.mono (upd_ne λe=>?_) λh=>by rw[J];exact⟨h,E⟩⟩;subst e;rw[hp]at M;cases M}
def Inv.ab3 (I:Inv g V P U Lt pl sh sv)(hp:∀p,P g.o=some p->Ee g (upd V g.o b) g.o p)(h1:b.ep=g.m)(h2:b.evs=g.G)(h3:b.role=1\/b.role=2\/b.role=3)(h4:b.role≠1->pl.epoch=g.m/\b.tg≠g.o/\0<=b.tg/\b.tg<5)
  (h5:(V g.o).role=3->b.role=3/\b.tg=(V g.o).tg) (h6:b.role=3->g.F=g.G.length):Inv g (upd V g.o b) P U Lt pl sh sv:=by
 have J:upd V g.o b g.o=b:=upd_same _ _ _;exact{I with
  q9:=by rw[J];exact h1
  uJ:=by rw[J];exact h2
  Aw:=by rw[J];exact h3
  Ri:=by rw[J];exact h4
  slF:=by rw[J];exact h6
  mV:=λk Z M=>by rw[upd_ne M];exact I.mV k Z M
  ge:=λk j1 j2=>by
   have:=I.ge k j1 j2;by_cases e:g.own k=g.o
   ·rw[e]at this⊢;rw[J,h1];rw[I.q9]at this;exact this
   rw[upd_ne e];exact this
  mR:=λl hl=>(I.mR l hl).mono λh=>by rw[J];exact h5 h
  lF:=λk Z p O=>by
   obtain⟨j1,j2⟩:=I.lF k Z p O;refine⟨j1,?_⟩;by_cases e:k=g.o
   ·subst e;exact hp p O
   exact j2.mono (upd_ne e) λh=>by rw[J];exact h5 h}
def qp {l x:List Ev}{k:Nat}(h:k<=l.length):(l++x).take k=l.take k:=take_append_of_le_length h
def Dx {l x:List Ev}{a k:Nat}(h:a+k<=l.length):((l++x).drop a).take k=(l.drop a).take k:=by
 rw[drop_append_of_le_length Y,take_append_of_le_length (by rw[length_drop];omega)]
def Gh.app (g:Gh)(e:Ev):Gh:={g with G:=g.G++[e]}
def Gh.Oz {g:Gh}{e:Ev}{k:Nat}(h:g.bd k<=g.G.length):g.bd k<=(g.app e).bd k:=by
 unfold Gh.bd Gh.app at*;dsimp only
 split
 ·rw[length_append];omega
 exact Nat.le_refl _
def Inv.append {e:Ev}(I:Inv g V P U Lt pl sh sv)(hp:P g.o=none)(hu:U g.o=false)(hr:(V g.o).role≠3)(ht:g.t=g.m)(hg:good (g.G++[e]))(hb:b.ep=(V g.o).ep)(hb1:b.role=(V g.o).role)(hb2:b.tg=(V g.o).tg)(hb3:b.evs=g.G++[e]):
  Inv (g.app e) (upd V g.o b) P U Lt pl sh sv:=by
 have ho:upd V g.o b g.o=b:=upd_same _ _ _;have M:(g.app e).o=g.o:=rfl;have hle:=λk h1 J=>I.Xb (k:=k) h1 J;have hF:g.F<=g.G.length:=by rcases I.Lc with⟨_,_,h⟩|⟨h,_⟩<;>omega
 refine⟨I.m1,I.ab2,I.adj,I.dir,?_,?_,?_,?_,hg,?_,?_,?_,?_,?_,?_,?_,?_,I.sho,?_,I.svs⟩
 ·rw[M,ho,hb];exact I.q9
 ·rw[M,ho,hb3];rfl
 ·rw[M,ho,hb1];exact I.Aw
 ·rw[M,ho,hb1,hb2];exact I.Ri
 ·intro n hn hno;rw[M]at hno;rw[upd_ne hno]
  rcases I.mV n hn hno with h|⟨k,h1,J,O,h4,h5,h6,h7⟩|⟨k,h1,J,O,h4,h5,h6,h7,h8⟩
  ·exact .inl h
  ·refine .inr (.inl ⟨k,h1,J,O,h4,h5,?_,h7⟩)
   show _=(g.G++[e]).take _
   have:=I.Mx O h4;rw[h6];exact(qp (Nat.le_of_lt this)).symm
  refine .inr (.inr ⟨k,h1,J,O,h4,h5,?_,Nat.le_trans h7 (Gh.Oz (hle k O h4)),h8⟩)
  show _=(g.G++[e]).take _
  have:=hle k O h4;rw[qp Y];exact h6
 ·intro k h1 J;have:=I.ge k h1 J;by_cases e:g.own k=g.o
  ·show(k:Int)<=(upd V g.o b (g.own k)).ep
   rw[e]at this⊢;rw[ho,hb];exact this
  show(k:Int)<=(upd V g.o b (g.own k)).ep
  rw[upd_ne e];exact this
 ·intro k h1 J;obtain⟨O,h4⟩:=I.brk k h1 J;refine⟨?_,Nat.lt_of_lt_of_le h4 (Gh.Oz (hle (k+1) Y J))⟩
  show(g.G++[e])[g.len k]? =_
  rw[getElem?_append_left (I.Mx h1 J)];exact O
 ·intro l hl;obtain⟨h1,J,O⟩:=I.mR l hl;refine⟨h1,λhk=>?_,O⟩;obtain⟨k,a,b',c,d,e',f,i,j⟩:=J hk;have hbd:=hle k b' c;refine⟨k,a,b',c,d,e',?_,Nat.le_trans i (Gh.Oz hbd),λhlast=>?_⟩
  ·show _=((g.G++[e]).drop _).take _
   rw[Dx Y];exact f
  rcases j hlast with j|⟨_,Z,_⟩
  ·exact .inl j
  exact absurd Z hr
 ·intro k hk p hk';obtain⟨j1,Z⟩:=I.lF k hk p hk';refine⟨j1,?_⟩;by_cases e':k=g.o
  ·subst e';rw[hp]at hk';cases hk'
  cases p with
  |serve q evs op num a=>exact absurd Z.1 e'
  |begun q b'=>unfold Ee at Z⊢;rw[upd_ne e'];exact Z
  |got q b' last=>
   unfold Ee at Z⊢;rw[upd_ne e'];refine⟨Z.1,λhl=>?_,λhl=>?_⟩
   ·obtain⟨j,a1,a2,a3⟩:=Z.2.1 hl
    rcases I.mV k hk e' with h|⟨k',h,_⟩|⟨k',h,h1,J,O,_⟩
    ·omega
    ·omega
    have hj:=a3 k' h1;have hbd:=hle k' J O;refine⟨j,?_,a2,λk2 hk2=>?_⟩
    ·show _={V k with evs:=(g.G++[e]).take j}
     rw[qp Y];exact a1
    have:k2=k':=Y;subst this;exact Nat.le_trans hj (Gh.Oz hbd)
   exact absurd (Z.2.2 hl).2.1 hr
  |fF q b' at_=>exact absurd Z.1 e'
  |forget q b'=>unfold Ee at Z⊢;rw[upd_ne e'];exact Z
 ·rcases I.Lc with⟨h1,J,O⟩|⟨h1,_⟩
  ·exact .inl ⟨h1,J,by show g.F<=(g.G++[e]).length;rw[length_append];omega⟩
  omega
 ·intro h;rw[M,hu]at h;cases h
 ·intro h;rw[M,ho,hb1]at h;exact absurd h hr
 show rp dW sv=some (ay ((g.G++[e]).take g.F)).1
 rw[qp hF];exact I.rps
def Rh.app {own:Nat->Nat}{t:Nat}(Z:1<=t):∀ {sv2 sv:List jH},Rh own t sv->(∀s∈sv2,s.ep=t/\s.nd=own t)->Rh own t (sv++sv2)
 |[],sv,h,_=>by rw[append_nil];exact h
 |s::r,sv,h,h2=>by
  have hs:=h2 s iQ;have h1:Rh own t (sv++[s]):=by
   refine⟨λx I=>?_,λi a b M J=>?_,λx I=>?_,λhn=>by simp at hn⟩
   ·rcases mem_append.1 I with I|I
    ·exact h.each x I
    rw[mem_singleton]at I;subst I;exact⟨t,hs.1,Z,Nat.le_refl _,hs.2⟩
   ·by_cases hi:i+1<sv.length
    ·rw[getElem?_append_left Y]at M;rw[getElem?_append_left hi]at J;exact h.two i a b M J
    have O:i+1< (sv++[s]).length:=(List.getElem?_eq_some_iff.1 J).1;rw[length_append,length_singleton]at O;rw[getElem?_append_left Y]at M;rw[getElem?_append_right Y,show i+1-sv.length=0 by omega]at J
    cases J;refine .inl ?_;rw[hs.1];refine(h.last a ?_).symm;rw[getLast?_eq_getElem?,show sv.length-1=i by omega];exact M
   rw[getLast?_concat]at I
   cases I;exact hs.1
  have:=Rh.app Z (sv2:=r) h1 λx I=>h2 x (by simp[I]);rwa [append_assoc]at this
def Rh.brk {own:Nat->Nat}{t:Nat}{s:jH}(h:Rh own t sv)(fG:s.ep=(t:Int)+1)(hnd:s.nd=own (t+1))(O:s.op=aF):Rh own (t+1) (sv++[s]):=by
 refine⟨λx I=>?_,λi a b M J=>?_,λx I=>?_,λhn=>by simp at hn⟩
 ·rcases mem_append.1 I with I|I
  ·obtain⟨k,a,b,c,d⟩:=h.each x I;exact⟨k,a,b,by omega,d⟩
  rw[mem_singleton]at I;subst I;exact⟨t+1,by rw[fG];rfl,by omega,Nat.le_refl _,hnd⟩
 ·by_cases hi:i+1<sv.length
  ·rw[getElem?_append_left Y]at M;rw[getElem?_append_left hi]at J;exact h.two i a b M J
  have Z:i+1< (sv++[s]).length:=(List.getElem?_eq_some_iff.1 J).1;rw[length_append,length_singleton]at Z;rw[getElem?_append_left Y]at M;rw[getElem?_append_right Y,show i+1-sv.length=0 by omega]at J
  cases J;refine .inr ⟨?_,O⟩;rw[fG,h.last a (by rw[getLast?_eq_getElem?,show sv.length-1=i by omega];exact M)]
 rw[getLast?_concat]at I
 cases I;rw[fG];rfl
def Rh.own {own I:Nat->Nat}{t:Nat}(h:Rh own t sv)(he:∀k,k<=t->I k=own k):Rh I t sv:=
 ⟨λs hs=>by obtain⟨k,a,b,c,d⟩:=h.each s hs;exact⟨k,a,b,c,by rw[he k c];exact d⟩,h.two,h.last,h.nil⟩
def Gh.all (g:Gh):Gh:={g with F:=g.G.length,t:=g.m}
def Inv.told (I:Inv g V P U Lt pl sh sv)(M:g.t=g.m){sv2:List jH}(J:rp dW (sv++sv2)=some (ay g.G).1)(he:∀s∈sv2,s.ep=g.m/\s.nd=g.o):Inv g.all V P U Lt pl (upd sh g.o ((g.m:Int),(g.G.length:Int))) (sv++sv2):=
 {I with
  Lc:=.inl ⟨E,upd_same _ _ _,Nat.le_refl _⟩
  upF:=λ_=>E
  slF:=λ_=>E
  sho:=λn hn hno=>by
   have:n≠g.o:=hno;rw[upd_ne this];exact I.sho n hn hno
  rps:=by show rp _ _=some (ay (g.G.take g.G.length)).1;rw[take_length];exact J
  svs:=by
   have h:=I.svs;rw[M]at h;exact Rh.app I.m1 h he}
def Inv.ZM (I:Inv g V P U Lt pl sh sv)(Z:¬g.t=g.m){s:jH}(J:s.op=aF)(ha:s.ans=eT)(fG:s.ep=g.m)(hnd:s.nd=g.o):Inv g.all V P U Lt pl (upd sh g.o ((g.m:Int),(g.G.length:Int))) (sv++[s]):=by
 rcases I.Lc with⟨h,_⟩|⟨h1,h2,h3,h4,h5⟩
 ·exact absurd h Z
 have O:g.F<g.G.length:=Y;have e:g.G=g.G.take g.F++[aF]:=by
  have:=nV O;rw[h4,take_length]at this;have h6:g.G[g.F]=aF:=by
   have:=getElem?_eq_getElem O;rw[h5]at this;exact(Option.some.inj this).symm
  rw[h6]at this;exact this
 have M:=I.gd;rw[e]at M;obtain⟨s1,s2,s3⟩:=good_step M;exact{I with
  Lc:=.inl ⟨E,upd_same _ _ _,Nat.le_refl _⟩
  upF:=λ_=>E
  slF:=λ_=>E
  sho:=λn hn hno=>by
   have:n≠g.o:=hno;rw[upd_ne this];exact I.sho n hn hno
  rps:=by
   show rp _ _=some (ay (g.G.take g.G.length)).1
   rw[take_length,Ec I.rps (by rw[J];exact s1) (by rw[J,ha];exact aeL s2),J,e,s3,<-e]
  svs:=by
   have h:=I.svs.brk (s:=s) (by rw[fG,<-h1];rfl) (by rw[hnd,h1];rfl) J;rw[h1]at h;exact h}
def Inv.av5 (I:Inv g V P U Lt pl sh sv){p':Pl}(h:p'=⟨g.own g.m,g.m⟩):Inv g V P U Lt p' sh sv:=by
 subst h;exact{I with
  dir:=⟨g.m,E,I.m1,.inl E⟩
  Ri:=λJ=>⟨E,(I.Ri J).2⟩
  mR:=λl M=>by
   obtain⟨h1,O,Z,h4⟩:=I.mR l M;refine⟨h1,O,Z,λhk=>?_⟩;obtain⟨k,a,b,c,d⟩:=h4 hk;refine⟨k,a,b,?_,d⟩;obtain⟨d',hd,_,hd2⟩:=I.dir;rw[hd]at c;dsimp only at c⊢;omega}
def Gh.act (g:Gh)(T:Nat):Gh:={g with m:=g.m+1,own:=upd g.own (g.m+1) T,len:=upd g.len g.m g.G.length,G:=g.G++[aF]}
def Inv.activate {T:Nat}(I:Inv g V P U Lt pl sh sv)(hr:(V g.o).role=3)(Ay:(V g.o).tg=T)(hp:P T=none)(hu:U T=false)(hg:good (g.G++[aF]))(hge:(V T).ep<=(g.m:Int)+1):
  Inv (g.act T) (upd V T ⟨1,(g.m:Int)+1,0,0,0,g.G++[aF]⟩) P U Lt pl sh sv:=by
 obtain⟨ha1,ha2,ha3,ha4⟩:=I.Ri Y;rw[Ay]at ha2 ha4;have hT5:T<5:=Y;have hTo:T≠g.o:=Y;have hF:=I.slF hr;have htm:g.t=g.m/\sh g.o=((g.m:Int),(g.F:Int)):=by
  rcases I.Lc with h|⟨_,_,_,h,_⟩
  ·exact⟨h.1,h.2.1⟩
  omega
 have hno:(g.act T).o=T:=upd_same _ _ _;have J:∀k,k<=g.m->(g.act T).own k=g.own k:=λk hk=>upd_ne Y;have M:(g.act T).own (g.m+1)=T:=upd_same _ _ _;have O:(g.act T).m=g.m+1:=rfl;have hG:(g.act T).G=g.G++[aF]:=rfl;have hlen:∀k,k<g.m->(g.act T).len k=g.len k:=λk hk=>upd_ne Y;have hbd:∀k,k<=g.m->(g.act T).bd k=g.bd k:=λk hk=>by
  unfold Gh.bd;rw[if_neg (by rw[O];omega)];by_cases e:k=g.m
  ·rw[if_pos e];subst e;exact upd_same _ _ _
  rw[if_neg e];exact hlen k Y
 have hvT:upd V T (⟨1,(g.m:Int)+1,0,0,0,g.G++[aF]⟩:aQ) (g.act T).o=⟨1,(g.m:Int)+1,0,0,0,g.G++[aF]⟩:=by rw[hno];exact upd_same _ _ _
 have hle:=λk h1 Z=>I.Xb (k:=k) h1 Z;refine⟨by rw[O];omega,?_,?_,?_,by rw[hvT,O];rfl,by rw[hvT,hG],by rw[hvT];exact .inl E,λh=>by rw[hvT]at h;exact absurd E h,by rw[hG];exact hg,?_,?_,?_,?_,?_,?_,?_,λh=>by rw[hvT]at h;exact absurd h iQ,?_,?_,?_⟩
 ·intro k h1 Z;rw[O]at Z;by_cases e:k=g.m+1
  ·rw[e,M];exact hT5
  rw[J k Y];exact I.ab2 k h1 Y
 ·intro k h1 Z;rw[O]at Z;by_cases e:k=g.m
  ·rw[J k Y,e,M];exact λh=>hTo h.symm
  rw[J k Y,J (k+1) Y];exact I.adj k h1 Y
 ·obtain⟨d,h1,Z,h3⟩:=I.dir;have:d=g.m:=by rw[h1]at ha1;dsimp only at ha1;omega
  refine⟨d,?_,Z,.inr (by rw[O,this])⟩;rw[h1,J d Y]
 ·intro n hn hn2;rw[hno]at hn2;rw[upd_ne hn2];by_cases e:n=g.o
  ·subst e;refine .inr (.inl ⟨g.m,hr,I.q9,I.m1,by rw[O];omega,J _ (Nat.le_refl _),?_,?_⟩)
   ·rw[hG,show(g.act T).len g.m=g.G.length from upd_same _ _ _,take_left];exact I.uJ
   rw[M];exact Ay
  rcases I.mV n hn e with h|⟨k,h1,Z,h3,h4,h5,h6,h7⟩|⟨k,h1,Z,h3,h4,h5,h6,h7,h8⟩
  ·exact .inl ⟨h.1,h.2.1,by rw[O];have:=h.2.2;omega⟩
  ·refine .inr (.inl ⟨k,h1,Z,h3,by rw[O];omega,by rw[J k Y];exact h5,?_,by rw[J (k+1) Y];exact h7⟩);rw[hlen k h4,hG,qp (Nat.le_of_lt (I.Mx h3 h4))];exact h6
  refine .inr (.inr ⟨k,h1,Z,h3,by rw[O];omega,by rw[J k h4];exact h5,?_,by rw[hbd k h4];exact h7,λhk=>?_⟩)
  ·have:=hle k h3 h4;rw[hG,qp Y];exact h6
  by_cases e2:k=g.m
  ·rw[e2,M];exact λh=>hn2 h.symm
  rw[J (k+1) Y];exact h8 Y
 ·intro k h1 Z;rw[O]at Z;by_cases e:k=g.m+1
  ·rw[e,M,upd_same];dsimp only;omega
  rw[J k Y];have:=I.ge k h1 Y;by_cases e2:g.own k=T
  ·rw[e2,upd_same];dsimp only;omega
  rw[upd_ne e2];exact this
 ·intro k h1 Z;rw[O]at Z;by_cases e:k=g.m
  ·subst e;rw[show(g.act T).len g.m=g.G.length from upd_same _ _ _,hG];refine⟨by rw[getElem?_append_right (Nat.le_refl _),Nat.sub_self];rfl,?_⟩;unfold Gh.bd;rw[if_pos O.symm,hG,length_append];exact lt_succ_self _
  obtain⟨h3,h4⟩:=I.brk k h1 Y;rw[hlen k Y,hbd (k+1) Y,hG,getElem?_append_left (I.Mx h1 Y)];exact⟨h3,h4⟩
 ·intro l hl;obtain⟨h1,Z,h3,h4⟩:=I.mR l hl;refine⟨λhk=>?_,λhk=>?_,λhk hd=>?_,λhk=>?_⟩
  ·obtain⟨k,a,b,c,d⟩:=h1 hk;exact⟨k,a,b,by rw[O];omega,by rw[J k c];exact d⟩
  ·obtain⟨k,a,b,c,d,e,f,i,j⟩:=Z hk;have:=hle k b c;refine⟨k,a,b,by rw[O];omega,by rw[J k c];exact d,e,by rw[hG,Dx Y];exact f,by rw[hbd k c];exact i,λhlast=>.inl ?_⟩
   rcases j hlast with⟨j1,j2⟩|⟨j1,j2,j3,j4⟩
   ·exact⟨by rw[O];omega,by rw[J (k+1) Y];exact j2⟩
   subst j1;exact⟨by rw[O];omega,by rw[M,<-Ay];exact j3⟩
  ·obtain⟨k,a,b,c,d⟩:=h3 hk hd;exact⟨k,a,b,by rw[O];omega,by rw[J (k+1) Y];exact d⟩
  obtain⟨k,a,b,c,d⟩:=h4 hk;exact⟨k,a,b,c,by rw[J k Y];exact d⟩
 ·intro n hn p hp';have hnT:n≠T:=λe=>by subst e;rw[hp]at hp';cases hp'
  obtain⟨j1,j2⟩:=I.lF n hn p hp';refine⟨j1,?_⟩
  cases p with
  |serve q evs op num a=>
   obtain⟨k1,k2,_⟩:=j2;subst k1;unfold serves at k2;omega
  |begun q b=>
   unfold Ee at j2⊢;obtain⟨k,k1,k2,k3,k4⟩:=j2;rw[upd_ne hnT];exact⟨k,by rw[J k k3];exact k1,k2,by rw[O];omega,k4⟩
  |got q b last=>
   unfold Ee at j2⊢;rw[upd_ne hnT];refine⟨j2.1,λhl=>?_,λhl=>?_⟩
   ·obtain⟨j,a1,a2,a3⟩:=j2.2.1 hl
    rcases I.mV n hn (λe=>by subst e;omega)with h|⟨k',h,_⟩|⟨k',h,h1,Z,h3,_⟩
    ·omega
    ·omega
    have hj:=a3 k' h1;have:=hle k' Z h3;refine⟨j,by rw[hG,qp Y];exact a1,a2,λk2 hk2=>?_⟩;have:k2=k':=Y;subst this;rw[hbd k2 h3];exact hj
   have:=(j2.2.2 hl).2.2.1;omega
  |fF q b at_=>
   obtain⟨k1,k2,_⟩:=j2;subst k1;omega
  |forget q b=>
   unfold Ee at j2⊢;rw[upd_ne hnT];exact⟨j2.1,j2.2.1,by rw[O];have:=j2.2.2;omega⟩
 ·refine .inr ⟨by show g.t+1=g.m+1;omega,?_,?_,?_,?_⟩
  ·rw[hno,O];have:=I.sho T hT5 hTo;omega
  ·rw[hno];exact hu
  ·show g.F+1=(g.G++[aF]).length;rw[length_append,hF];rfl
  show(g.G++[aF])[g.F]? =_
  rw[hF,getElem?_append_right (Nat.le_refl _),Nat.sub_self];rfl
 ·intro h;rw[hno,hu]at h;cases h
 ·intro n hn hn2;rw[hno]at hn2;rw[O];by_cases e:n=g.o
  ·subst e;rw[htm.2];dsimp only;omega
  have:=I.sho n hn e;omega
 ·show rp dW sv=some (ay ((g.G++[aF]).take g.F)).1
  rw[qp Y];exact I.rps
 exact I.svs.own λk hk=>J k (by show k<=g.m;have:k<=g.t:=hk;omega)
end
def jl (b:aQ):aQ:=if b.role=2 then⟨1,b.ep,0,0,0,b.evs⟩else b
def vB (f:Nat->aQ):List aQ:=[f 0,f 1,f 2,f 3]
section
variable {f:Nat->aQ}{q:Nat}{b:aQ}{rs:List cB}{r:cB}
def aeP (I:q<4):I8 (vB f) (q:Int)=f q:=by
 have h:q=0\/q=1\/q=2\/q=3:=Y
 rcases h with rfl|rfl|rfl|rfl<;>rfl
def VY (I:q<4):(vB f).set q b=vB (upd f q b):=by
 have h:q=0\/q=1\/q=2\/q=3:=Y
 rcases h with rfl|rfl|rfl|rfl<;>rfl
def Az {f':Nat->aQ}(h:∀q,q<4->f q=f' q):vB f=vB f':=by unfold vB;rw[h 0 Y,h 1 Y,h 2 Y,h 3 Y]
def iJ (rs:List cB)(f:Nat->aQ):Prop:=(∀r∈rs,aG r=0)/\(allM rs).1=some (vB f)
def Ld:∀(a:List cB) (i:Nat) (T T':List aQ),(og a i T).1=some T'->og (a++[r]) i T=og [r] (i+a.length) T'
 |[],i,T,T',h=>by
  rw[og]at h
  cases h;rfl
 |x::a,i,T,T',h=>by
  rw[cons_append,og];rw[og]at h
  split at h
  ·cases h
  rename_i h1
  rw[if_neg h1]
  split at h
  ·cases h
  rename_i I
  rw[if_neg I,Ld a (i+1) _ T' h,length_cons,show i+1+a.length=i+(a.length+1) by omega]
def iJ.nil:iJ [] λ_=>bD:=⟨λr h=>by simp at h,E⟩
def iJ.snoc (h:iJ rs f)(M:aG r=0)(O:q<4)(J:r.queue=q)(Z:eD (f q) r=(b,0)):iJ (rs++[r]) (upd f q b):=by
 refine⟨λx I=>?_,?_⟩
 ·rcases mem_append.1 I with I|I
  ·exact h.1 x I
  rw[mem_singleton]at I;subst I;exact M
 have h2:=h.2;unfold allM at h2⊢;rw[Ld _ _ _ _ h2,og,J,aeP O,if_neg (by simpa using M),if_neg (by rw[Z];simp),Z,show((q:Int)).toNat=q from E,VY O,og]
def iJ.congr {f':Nat->aQ}(h:iJ rs f)(he:∀q,q<4->f q=f' q):iJ rs f':=⟨h.1,by rw[h.2,Az he]⟩
def iJ.read {t data:List UInt8}{syn:Int}(h:iJ rs f)(M:data=bI rs++t)(Z:(firstM t).2=0)(hz:data.length<=100000)(h0:0<=syn)(h1:syn<=data.length):
  jA data syn=(bI rs,min syn (bI rs).length,0)/\CZ data syn=some (vB f)/\ ∀q,q<4->bg data syn q=f q:=by
 have hm:dw data syn=true:=by simp[dw];omega
 have O:bS data=(rs,(bI rs).length):=by rw[M];exact yQ h.1 Z
 have I:jA data syn=(bI rs,min syn (bI rs).length,0):=by
  unfold jA;rw[if_pos hm,O,M,take_left]
 have hl:(bI rs).length<=data.length:=by rw[M,length_append];omega
 have J:CZ data syn=some (vB f):=by
  unfold CZ;rw[I];unfold uI;rw[if_pos (by simp[dw];omega)];have:=yQ (t:=[]) h.1 xR;rw[append_nil]at this;dsimp only;rw[this];exact h.2
 refine⟨I,J,λq hq=>?_⟩;unfold bg;rw[J];exact aeP hq
def eH (h:aj b=0):aZ b:=(eP h).1
def jB (h:aj b=0):good b.evs:=(eP h).2
def nG (h:aZ b)(I:b.role≠0)(l:List Ev):aZ ⟨b.role,b.ep,b.fr,b.tg,b.rd,l⟩:=h.elim (λh=>absurd h.1 I) .inr
def uK {ep:Int}(h:1<=ep)(h1:ep<=1048576)(l:List Ev):aZ ⟨1,ep,0,0,0,l⟩:=.inr ⟨h,h1,.inl ⟨E,E,E,E⟩⟩
def oG {k ep pe:Int}{e:Ev}(J:1<=k/\k<=7)(M:q<4)(fG:0<=ep/\ep<=1048576)(I:0<=pe/\pe<=4)(he:if kM k=true then aX e=0 else e=aH):aG (fH k q ep pe e)=0:=by
 unfold aG fH;dsimp only;rw[if_neg (by simp[kJ];omega),if_neg (by simp[kJ];omega)];by_cases h:kM k=true
 ·rw[if_pos h]at he⊢;exact he
 rw[if_neg h]at he⊢;rw[if_pos he]
def P6 (h:aj b=0)(M:b.role=0)(he:b.ep<1)(O:q<4):iT b 1=(⟨1,1,0,0,0,[]⟩,0)/\eD b (fH 1 q 1 0 aH)=(⟨1,1,0,0,0,[]⟩,0):=by
 have I:iT b 1=(⟨1,1,0,0,0,[]⟩,0):=by unfold iT;rw[if_neg (by simp[h]),if_neg Y,if_neg (by simp[M]),if_neg Y]
 have J:kL b (fH 1 q 1 0 aH)=(⟨1,1,0,0,0,[]⟩,0):=by unfold kL fH;simpa using I
 exact⟨I,by rw[kE h (oG Y O Y Y dQ) (by simp[fH];omega) (by rw[J]),J]⟩
def Tp {e:Ev}{ep:Int}(J:aj b=0)(Z:b.role=1)(fG:b.ep=ep)(hq:q<4)(he:aX e=0)(hg:good (b.evs++[e])):eD b (fH 2 q ep 0 e)=({b with evs:=b.evs++[e]},0)/\aG (fH 2 q ep 0 e)=0:=by
 subst fG;have hs:=eH J;unfold aZ at hs;have I:aG (fH 2 q b.ep 0 e)=0:=oG Y hq Y Y (by simpa[kM]using he);have M:aj ⟨b.role,b.ep,b.fr,b.tg,b.rd,b.evs++[e]⟩=0:=lK (nG (eH J) Y _) hg;have O:kL b (fH 2 q b.ep 0 e)=({b with evs:=b.evs++[e]},0):=by
  have h1:=aeC (b:=b) (qu:=q) (e:=b.ep) (pe:=0) (x:=e);rw[if_neg (λh=>h ⟨Z,E⟩)]at h1;unfold CW at h1;rw[if_neg (λh=>h M)]at h1;exact h1
 exact⟨by rw[kE J I (by simp[fH];omega) (by rw[O]),O],I⟩
def ab5 {e:Ev}{ep:Int}(M:aj b=0)(Z:b.role=4)(fG:b.ep=ep)(hq:q<4)(he:aX e=0)(hg:good (b.evs++[e])):eD b (fH 5 q ep 0 e)=({b with evs:=b.evs++[e]},0)/\aG (fH 5 q ep 0 e)=0/\aj {b with evs:=b.evs++[e]}=0:=by
 subst fG;have hs:=eH M;unfold aZ at hs;have I:aG (fH 5 q b.ep 0 e)=0:=oG Y hq Y Y (by simpa[kM]using he);have J:aj ⟨b.role,b.ep,b.fr,b.tg,b.rd,b.evs++[e]⟩=0:=lK (nG (eH M) Y _) hg;have O:kL b (fH 5 q b.ep 0 e)=({b with evs:=b.evs++[e]},0):=by
  have h1:=aeD (b:=b) (qu:=q) (e:=b.ep) (pe:=0) (x:=e);rw[if_neg (λh=>h ⟨Z,E⟩)]at h1;unfold CW at h1;rw[if_neg (λh=>h J)]at h1;exact h1
 exact⟨by rw[kE M I (by simp[fH];omega) (by rw[O]),O],I,J⟩
def akI {ep tg:Int}(I:aj b=0)(M:b.role=1)(fG:b.ep=ep)(O:q<4)(ht:0<=tg/\tg<=4):eD b (fH 3 q ep tg aH)=(⟨3,b.ep,0,tg,0,b.evs⟩,0)/\aG (fH 3 q ep tg aH)=0:=by
 subst fG;have hs:=eH I;unfold aZ at hs;have h:aG (fH 3 q b.ep tg aH)=0:=oG Y O Y Y dQ;have J:kL b (fH 3 q b.ep tg aH)=(⟨3,b.ep,0,tg,0,b.evs⟩,0):=by
  unfold kL fH WV;have h1:b.fr=0:=Y;have Z:b.rd=0:=Y;simp[M,h1,Z]
 exact⟨by rw[kE I h (by simp[fH];omega) (by rw[J]),J],h⟩
def agF {ep fr:Int}(I:aj b=0)(O:b.role=0\/b.role=4)(fG:b.ep<ep)(h1:1<=ep/\ep<=1048576)(M:q<4)(Z:0<=fr/\fr<=4):eD b (fH 4 q ep fr aH)=(⟨4,ep,fr,0,0,[]⟩,0)/\aG (fH 4 q ep fr aH)=0:=by
 have h:aG (fH 4 q ep fr aH)=0:=oG Y M Y Y dQ;have J:kL b (fH 4 q ep fr aH)=(⟨4,ep,fr,0,0,[]⟩,0):=by
  unfold kL fH dn;rw[if_neg iQ,if_pos E];dsimp only;rw[if_neg (by simp[I]),if_neg Y,if_neg Y,if_neg Y,if_neg Y]
 exact⟨by rw[kE I h (by simp[fH];omega) (by rw[J]),J],h⟩
def aqS {ep:Int}(I:aj b=0)(M:b.role=4)(fG:b.ep=ep)(Z:q<4)(hg:good (b.evs++[aF])):eD b (fH 6 q ep 0 aH)=(⟨1,b.ep,0,0,0,b.evs++[aF]⟩,0)/\aG (fH 6 q ep 0 aH)=0:=by
 subst fG;have hs:=eH I;unfold aZ at hs;have h:aG (fH 6 q b.ep 0 aH)=0:=oG Y Z Y Y dQ;have J:aj ⟨1,b.ep,0,0,0,b.evs++[aF]⟩=0:=lK (uK Y Y _) hg;have hi:cu b b.ep b.evs.length [] true=(⟨1,b.ep,0,0,0,b.evs++[aF]⟩,0):=by
  unfold cu;rw[if_neg (by simp[I]),if_neg (by simp[M]),if_neg iQ,if_neg Y,if_neg iQ,if_neg iQ];simp only[if_pos,drop_nil,append_nil];rw[if_neg (by simpa using J)]
 have O:kL b (fH 6 q b.ep 0 aH)=(⟨1,b.ep,0,0,0,b.evs++[aF]⟩,0):=by
  unfold kL fH;simp[M,hi]
 exact⟨by rw[kE I h (by simp[fH];omega) (by rw[O]),O],h⟩
def ab6 {ep:Int}(I:aj b=0)(M:b.role=3)(fG:b.ep=ep)(O:q<4):eD b (fH 7 q ep 0 aH)=(⟨0,b.ep,0,0,0,[]⟩,0)/\aG (fH 7 q ep 0 aH)=0:=by
 subst fG;have hs:=eH I;unfold aZ at hs;have h:aG (fH 7 q b.ep 0 aH)=0:=oG Y O Y Y dQ;have J:kL b (fH 7 q b.ep 0 aH)=(⟨0,b.ep,0,0,0,[]⟩,0):=by
  unfold kL fH fP;simp[M,I];omega
 exact⟨by rw[kE I h (by simp[fH];omega) (by rw[J]),J],h⟩
def uL (h:aj b=0):aj (jl b)=0:=by
 unfold jl
 split
 ·rename_i I
  have hs:=eH h;unfold aZ at hs;exact lK (uK Y Y _) (jB (b:=b) h)
 exact h
def VZ:(jl b).ep=b.ep:=by unfold jl;split<;>rfl
def akJ:(jl b).evs=b.evs:=by unfold jl;split<;>rfl
def Kh:(jl b).role≠2:=by unfold jl;split<;>first|assumption|simp
def kG (h:b.role≠2):jl b=b:=if_neg h
def yU (h:serves b)(I:aj b=0):jl b=⟨1,b.ep,0,0,0,b.evs⟩:=by
 unfold jl
 split
 ·rfl
 have hs:=eH I;unfold aZ at hs;unfold serves at h;obtain⟨ro,ep,fr,tg,rd,evs⟩:=b;dsimp only at*;simp only[aQ.mk.injEq,and_true,true_and];omega
end
def bO.q:bO->Nat
 | .serve q .. =>q
 | .begun q _=>q
 | .got q .. =>q
 | .fF q .. =>q
 | .forget q _=>q
def bO.b (bs:Nat->aQ):bO->aQ
 | .serve q evs _ _ _=>{bs q with evs:=evs}
 | .begun _ b=>b
 | .got _ b _=>b
 | .fF _ b _=>b
 | .forget _ b=>b
def bO.rs (bs:Nat->aQ):bO->List cB
 | .serve q _ op _ _=>[fH 2 q (bs q).ep 0 op]
 | .begun q b=>[fH 4 q b.ep b.fr aH]
 | .got q b last=>p8 q b (bs q).evs.length (b.evs.length-if last=true then 1 else 0) last
 | .fF q b _=>[fH 3 q b.ep b.tg aH]
 | .forget q _=>[fH 7 q (bs q).ep 0 aH]
def bO.ok (bs:Nat->aQ):bO->Prop
 | .serve q evs op _ _=>serves (bs q)/\evs=(bs q).evs++[op]/\aX op=0/\good evs
 | .begun q b=>((bs q).role=0\/(bs q).role=4)/\ ∃e f,b=⟨4,e,f,0,0,[]⟩/\(bs q).ep<e/\1<=e/\e<=1048576/\0<=f/\f<=4
 | .got q b last=>(bs q).role=4/\good b.evs/\(∀e∈b.evs,aX e=0)/\(last=false->b={bs q with evs:=b.evs}/\(bs q).evs=b.evs.take (bs q).evs.length)/\
   (last=true-> ∃es,b=⟨1,(bs q).ep,0,0,0,es++[aF]⟩/\(bs q).evs=es.take (bs q).evs.length)
 | .fF q b _=>(bs q).role=2/\b={bs q with role:=3,rd:=0}
 | .forget q b=>(bs q).role=3/\b=⟨0,(bs q).ep,0,0,0,[]⟩
def bG.ok (l:bG):Prop:=l.q<4/\l.evs.length<=2000/\(l.kd=0\/l.kd=2\/l.kd=3\/l.kd=4\/l.kd=6)
def Bv {b:aQ}{hv:Int}(h:aj b=0)(M:(bE b hv).2=0):aj (bE b hv).1=0:=by
 have O:=eP h;have hs:=O.1;unfold aZ at hs;unfold bE at M⊢;rw[if_neg (λe=>e h)]at M⊢;by_cases c1:b.role≠2/\b.role≠3
 ·rw[if_pos c1]at M;exact absurd M dQ
 rw[if_neg c1]at M⊢;by_cases c2:¬(0<=hv/\hv<=b.evs.length)
 ·rw[if_pos c2]at M;exact absurd M dQ
 rw[if_neg c2]at M⊢;by_cases c3:b.role=3
 ·rw[if_pos c3];exact h
 rw[if_neg c3];have I:∀r d,aZ ⟨r,b.ep,b.fr,b.tg,d,b.evs⟩->aj ⟨r,b.ep,b.fr,b.tg,d,b.evs⟩=0:=λr d h=>lK h O.2;by_cases Z:hv=b.evs.length\/b.rd=4
 ·rw[if_pos Z];refine I 3 0 ?_;clear M I h O;unfold aZ;dsimp only;omega
 rw[if_neg Z];have hr:b.role=2:=by clear M I h O c2 Z;omega
 have hd:¬b.rd=4:=λe=>Z (.inr e);rw[hr]at hs;have J:1<=b.ep/\b.ep<=1048576/\b.fr=0/\0<=b.tg/\b.tg<5/\0<=b.rd/\b.rd<=4:=by clear M I h O c1 c2 c3 Z;omega
 refine I b.role (b.rd+1) (.inr ⟨J.1,J.2.1,.inr (.inl ⟨hr,J.2.2.1,J.2.2.2.1,J.2.2.2.2.1,?_,?_⟩)⟩)
 ·show 0<=b.rd+1
  have:=J.2.2.2.2.2;clear M I h O c1 c2 c3 Z hs;omega
 show b.rd+1<=4
 have:=J.2.2.2.2.2;clear M I h O c1 c2 c3 Z hs;omega
structure zW (m m':Cl)(n:Nat):Prop where
 mV:∀j,j≠n->m'.ah j=m.ah j
 up:(m'.ah n).up=(m.ah n).up
 iO:(m'.ah n).inbox=(m.ah n).inbox
 FJ:(m'.ah n).turn=(m.ah n).turn
 kX:(∀q,q<4->aj ((m.ah n).bs q)=0)-> ∀q,q<4->aj ((m'.ah n).bs q)=0
 fly:m'.fly.length<=m.fly.length+1
 aV:m'.aV.length<=m.aV.length+1
section
variable {m m':Cl}{n:Nat}{l:bG}
def AA (h:m'.ah=m.ah)(h1:m'.fly.length<=m.fly.length+1)(I:m'.aV.length<=m.aV.length+1):zW m m' n:=
 ⟨λj _=>by rw[h],by rw[h],by rw[h],by rw[h],λJ=>by rw[h];exact J,h1,I⟩
def qw:zW m m n:=AA E (le_succ _) (le_succ _)
def Ef {X:Nd}(h:m'.ah=upd m.ah n X)(I:X.up=(m.ah n).up)(J:X.inbox=(m.ah n).inbox)(M:X.turn=(m.ah n).turn)(O:(∀q,q<4->aj ((m.ah n).bs q)=0)-> ∀q,q<4->aj (X.bs q)=0)(h1:m'.fly.length<=m.fly.length+1)(Z:m'.aV.length<=m.aV.length+1):zW m m' n:=by
 have e:m'.ah n=X:=by rw[h];exact if_pos E
 exact⟨λj hj=>by rw[h];exact if_neg hj,by rw[e,I],by rw[e,J],by rw[e,M],λhb=>by rw[e];exact O hb,h1,Z⟩
def Tq {q:Nat}{op:Ev}{num:Int}{a:iR}:zW m (m.done n q op num a) n:=by
 unfold Cl.done
 split
 ·exact AA E (by simp[Cl.send,Cl.tell]) (by simp[Cl.send,Cl.tell])
 exact AA E (by simp[Cl.send]) (by simp[Cl.send])
def Tt {q:Nat}:zW m (m.have_ n q) n:=AA E (by simp[Cl.have_,Cl.send]) (by simp[Cl.have_,Cl.send])
def agG {q:Nat}{a:Int}:zW m (m.part n q a) n:=by
 unfold Cl.part
 split
 ·exact qw
 exact AA E (by simp[Cl.send]) (by simp[Cl.send])
def OB {X x:Nd}{rs:List cB}(h:X.write rs=some x):x.up=X.up/\x.inbox=X.inbox/\x.turn=X.turn/\x.bs=X.bs:=by
 unfold Nd.write at h;rw[Option.map_eq_some_iff]at h;obtain⟨d,_,rfl⟩:=h;exact⟨E,E,E,E⟩
def EO {x:Nd}{p:bO}{rs:List cB}(h:(m.ah n).write rs=some x):zW m (m.put n {x with pend:=some p}) n:=by
 obtain⟨h1,I,J,M⟩:=OB h;exact Ef E h1 I J (λO q Z=>by show aj (x.bs q)=0;rw[M];exact O q Z) (le_succ _) (le_succ _)
def zW.aqT {m2:Cl}(h:zW m m2 n)(h1:m2.fly.length<=m.fly.length)(O:m2.aV.length<=m.aV.length)(I:zW m2 m' n):zW m m' n:=
 ⟨λj J=>(I.mV j J).trans (h.mV j J),I.up.trans h.up,I.iO.trans h.iO,I.FJ.trans h.FJ,λM=>I.kX (h.kX M),by have:=I.fly;omega,by have:=I.aV;omega⟩
def jV (J:l.q<4):zW m (m.handle n l) n:=by
 unfold Cl.handle
 split
 ·unfold Cl.serve
  split
  ·exact Tq
  split
  ·exact Tq
  exact EO ‹_›
 split
 ·unfold Cl.offered
  split
  ·exact qw
  split
  ·exact Tt
  split
  ·exact qw
  exact EO ‹_›
 split
 ·unfold Cl.caught
  split
  ·exact qw
  split
  ·exact qw
  rename_i h1 O
  split
  ·refine zW.aqT (m2:=m.aA n l.q (bE ((m.ah n).bs l.q) l.at_).1) (Ef E E E E (λI q M=>?_) (le_succ _) (le_succ _)) (Nat.le_refl _) (Nat.le_refl _) agG
   show aj (upd (m.ah n).bs l.q (bE ((m.ah n).bs l.q) l.at_).1 q)=0
   unfold upd
   split
   ·exact Bv (I _ J) Y
   exact I q M
  split
  ·exact qw
  exact EO ‹_›
 split
 ·unfold Cl.got
  split
  ·exact qw
  split
  ·exact Tt
  split
  ·exact qw
  split
  ·exact qw
  exact EO ‹_›
 unfold Cl.learnt
 split
 ·exact Ef E E E E (λI=>I) (le_succ _) (le_succ _)
 split
 ·exact Ef E E E E (λI=>I) (le_succ _) (le_succ _)
 rename_i x h
 obtain⟨h1,O,Z,h4⟩:=OB h;exact Ef E h1 O Z (λI q J=>by show aj (x.bs q)=0;rw[h4];exact I q J) (le_succ _) (le_succ _)
end
end
section
open ChangeShapes WideShapes ChangeAt RowKit
structure LX where
 l:bG
 A:Option Addr
 c:Nat
def agH (l:bG)(s:Value):List Value:=[D l.kd,D l.fr,D l.tg,D ((l.q:Nat):Int),D l.ep,D l.at_,D l.nd,D l.op.kind,D l.op.producer,D l.op.id,D l.op.body,D l.op.aN,D l.op.hno,s,.bool l.last,D l.num,
 D l.bK.num,D l.bK.ans.code,D l.bK.ans.fG,D l.bK.ans.hno,D l.bK.ans.body,D l.bK.pl.node,D l.bK.pl.epoch]
def LX.cells (x:LX):List Value:=agH x.l (.slice x.A x.l.evs.length x.c)
def LX.row (x:LX):Array Value:=x.cells.toArray
def wS.cells (t:wS):List Value:=[D t.num,D t.ans.code,D t.ans.fG,D t.ans.hno,D t.ans.body,D t.pl.node,D t.pl.epoch]
def jH.cells (s:jH):List Value:=[D ((s.nd:Nat):Int),D ((s.q:Nat):Int),D s.ep,D s.op.kind,D s.op.producer,D s.op.id,D s.op.body,D s.op.aN,D s.op.hno,D s.ans.code,D s.ans.fG,D s.ans.hno,D s.ans.body,D s.num]
def Eh (x:LX):∀u∈x.cells,u.oneCell'=true:=bP E
def akK (l:List LX):∀u∈l.flatMap LX.cells,u.oneCell'=true:=by
 intro u h;rw[mem_flatMap]at h;obtain⟨z,_,I⟩:=h;exact Eh z u I
def dM (me:Nat)(up:Bool)(tv:Value)(syn:Int)(bv:Value)(H:Nat->Pl)(U:Nat->Bool)(iv pv:Value)(turn:Nat):Array Value:=
 #[D ((me:Nat):Int),.bool up,tv,D syn,bv,D (H 0).node,D (H 0).epoch,D (H 1).node,D (H 1).epoch,D (H 2).node,D (H 2).epoch,D (H 3).node,D (H 3).epoch,.bool (U 0),.bool (U 1),.bool (U 2),.bool (U 3),iv,pv,D ((turn:Nat):Int)]
def Rj (p:Int×Int):List Value:=[D p.1,D p.2]
def Rk (sh:Nat->Nat->Int×Int)(n:Nat):List Value:=Rj (sh n 0)++(Rj (sh n 1)++(Rj (sh n 2)++Rj (sh n 3)))
def akL (sh:Nat->Nat->Int×Int):List Value:=Rk sh 0++(Rk sh 1++(Rk sh 2++(Rk sh 3++Rk sh 4)))
def OC (nv:Value)(d:Dir)(fv:Value)(sh:Nat->Nat->Int×Int)(sv tv:Value)(calls:Nat):List Value:=
 nv::(d.cells++(fv::(akL sh++[D 0,.bool false,.bool false,.bool false,.bool false,.bool false,D 0,D 0,D 0,D 0,D 0,D 0,D 0,D 0,.slice none 0 0,sv,tv,D ((calls:Nat):Int)])))
def lG (nv:Value)(d:Dir)(fv:Value)(sh:Nat->Nat->Int×Int)(sv tv:Value)(calls:Nat):Array Value:=(OC nv d fv sh sv tv calls).toArray
section
variable {me turn calls k:Nat}{up:Bool}{tv bv iv pv nv fv sv uv x:Value}{syn:Int}{H:Nat->Pl}{U:Nat->Bool}{d:Dir}{sh:Nat->Nat->Int×Int}
def zX:(lG nv d fv sh sv tv calls)[0]? =some nv:=rfl
def Sg:(lG nv d fv sh sv tv calls)[9]? =some fv:=rfl
def av6:(lG nv d fv sh sv tv calls)[65]? =some sv:=rfl
def av7:(lG nv d fv sh sv tv calls)[66]? =some tv:=rfl
def amx:(lG nv d fv sh sv tv calls)[67]? =some (D ((calls:Nat):Int)):=rfl
def Iu {J M O Z:Value}{d':Dir}{sh':Nat->Nat->Int×Int}{I o:Nat}{vs:List Value}(h:o+vs.length<=68)(he:(OC nv d fv sh sv tv calls).take o++vs++(OC nv d fv sh sv tv calls).drop (o+vs.length)=OC J d' M sh' O Z I):
  cZ (lG nv d fv sh sv tv calls) o vs=lG J d' M sh' O Z I:=Array.ext' (by rw[iq _ _ _ h];exact he)
def an2:cZ (lG nv d fv sh sv tv calls) 9 [x]=lG nv d x sh sv tv calls:=Iu (le_of_ble_eq_true E) E
def av8:cZ (lG nv d fv sh sv tv calls) 65 [x]=lG nv d fv sh x tv calls:=Iu (le_of_ble_eq_true E) E
def av9:cZ (lG nv d fv sh sv tv calls) 66 [x]=lG nv d fv sh sv x calls:=Iu (le_of_ble_eq_true E) E
def awc {c':Nat}:cZ (lG nv d fv sh sv tv calls) 67 [D ((c':Nat):Int)]=lG nv d fv sh sv tv c':=Iu (le_of_ble_eq_true E) E
def an3 {d':Dir}:cZ (lG nv d fv sh sv tv calls) 1 d'.cells=lG nv d' fv sh sv tv calls:=Iu (le_of_ble_eq_true E) E
def xU:∀(j:Nat) (u:Value),d.cells[j]? =some u->(lG nv d fv sh sv tv calls)[1+j]? =some u:=by
 intro j u h;have I:j<8:=(List.getElem?_eq_some_iff.1 h).1;have:j=0\/j=1\/j=2\/j=3\/j=4\/j=5\/j=6\/j=7:=Y
 rcases this with rfl|rfl|rfl|rfl|rfl|rfl|rfl|rfl<;>exact h
def aeQ:(lG nv d fv sh sv tv calls).size=68:=rfl
def amy {n q:Nat}(hn:n<5)(I:q<4){a b:Int}:cZ (lG nv d fv sh sv tv calls) (10+n*8+q*2) [D a,D b]=lG nv d fv (iw sh n q (a,b)) sv tv calls:=by
 have h1:n=0\/n=1\/n=2\/n=3\/n=4:=Y;have h:q=0\/q=1\/q=2\/q=3:=Y
 rcases h1 with rfl|rfl|rfl|rfl|rfl<;>rcases h with rfl|rfl|rfl|rfl<;>exact Iu (le_of_ble_eq_true E) E
def awd {n q:Nat}(hn:n<5)(M:q<4):∀(j:Nat) (u:Value),(Rj (sh n q))[j]? =some u->(lG nv d fv sh sv tv calls)[10+n*8+q*2+j]? =some u:=by
 intro j u h;have O:j<2:=(List.getElem?_eq_some_iff.1 h).1;have I:j=0\/j=1:=Y;have h1:n=0\/n=1\/n=2\/n=3\/n=4:=Y;have J:q=0\/q=1\/q=2\/q=3:=Y
 rcases h1 with rfl|rfl|rfl|rfl|rfl<;>rcases J with rfl|rfl|rfl|rfl<;>rcases I with rfl|rfl<;>exact h
def Ei {q:Nat}(I:q<4){p:Pl}:cZ (dM me up tv syn bv H U iv pv turn) (5+q*2) [D p.node,D p.epoch]=dM me up tv syn bv (upd H q p) U iv pv turn:=by
 have h:q=0\/q=1\/q=2\/q=3:=Y
 rcases h with rfl|rfl|rfl|rfl<;>rfl
def P7 {q:Nat}(I:q<4):(dM me up tv syn bv H U iv pv turn)[5+q*2]? =some (D (H q).node)/\(dM me up tv syn bv H U iv pv turn)[5+q*2+1]? =some (D (H q).epoch):=by
 have h:q=0\/q=1\/q=2\/q=3:=Y
 rcases h with rfl|rfl|rfl|rfl<;>exact⟨E,E⟩
def ZN {q:Nat}(I:q<4){v:Bool}:cZ (dM me up tv syn bv H U iv pv turn) (13+q*1) [.bool v]=dM me up tv syn bv H (upd U q v) iv pv turn:=by
 have h:q=0\/q=1\/q=2\/q=3:=Y
 rcases h with rfl|rfl|rfl|rfl<;>rfl
def akM {q:Nat}(I:q<4):(dM me up tv syn bv H U iv pv turn)[13+q*1]? =some (.bool (U q)):=by
 have h:q=0\/q=1\/q=2\/q=3:=Y
 rcases h with rfl|rfl|rfl|rfl<;>rfl
end
def Ro (L:List Fact)(s:Nat)(A:Option Addr)(n:Nat)(xs:List Value):Prop:= ∀B w,(∀f∈L,f.holds B w)->Rd w w.heap.size s A n xs
section
variable {L L':List Fact}{s n:Nat}{A:Option Addr}{xs:List Value}{B:Nat}{w w0:World}{fs:List Fact}
def Ro.mono (h:Ro L s A n xs)(I:∀f∈L,f∈L'):Ro L' s A n xs:=λB w hw=>h B w λf J=>hw f (I f J)
def Ro.rd (h:Ro L s A n xs)(S:St B w0 w fs)(I:∀f∈L,f∈fs):Rd w w.heap.size s A n xs:=h B w λf J=>S.has (I f J)
def Ro.none_:Ro L s none 0 []:=λ_ _ _=>Rd.none_
def Ro.cK (h:Fact.cK s A n xs∈L):Ro L s A n xs:=λ_ _ hw=>(hw _ h).1
def Ro.own {e:TypeId}{c:Nat}(h:Fact.own e s (.slice A n c) n xs∈L):Ro L s A n xs:=λ_ _ hw=>Rd.tN (hw _ h)
end
structure NX where
 bb:Nat
 tA:Option Addr
 tc:Nat
 bx:List BX
 iA:Option Addr
 ic:Nat
 ix:List LX
 pv:Value
structure CX where
 nx:Nat->NX
 fA:Option Addr
 fc:Nat
 fx:List LX
 sA:Option Addr
 sc:Nat
 tA:Option Addr
 tc:Nat
 nA:Option Addr
 nc:Nat
 L:List Fact
structure CK where
 wb:Nat
 nb:Nat->Nat
def gP (b:Nat):Value:=.pointer (some ⟨b,0,none⟩)
def akN (n:Nat)(X:Nd)(x:NX):Array Value:=dM n X.up (.slice x.tA X.data.length x.tc) X.syn (.slice (some ⟨x.bb,0,none⟩) 4 4) X.hints X.sure (.slice x.iA x.ix.length x.ic) x.pv X.turn
def awe (R:CX)(m:Cl):Array Value:=lG (.slice R.nA 5 R.nc) m.off (.slice R.fA R.fx.length R.fc) m.shown (.slice R.sA m.aV.length R.sc) (.slice R.tA m.bK.length R.tc) m.calls
def DI (kn n:Nat)(X:Nd)(x:NX):List Fact:=
 [.blk kn (akN n X x) 105,.own 42 6 (.slice (some ⟨x.bb,0,none⟩) 4 4) 4 (x.bx.flatMap BX.cells),.off 119 23 x.iA x.ix.length x.ic (x.ix.flatMap LX.cells)]
def kH (K:CK)(n:Nat)(X:Nd)(x:NX):List Fact:=DI (K.nb n) n X x
def DJ (kw:Nat)(R:CX)(m:Cl):List Fact:=
 [.blk kw (awe R m) 97,.own 119 23 (.slice R.fA R.fx.length R.fc) R.fx.length (R.fx.flatMap LX.cells),.own 164 14 (.slice R.sA m.aV.length R.sc) m.aV.length (m.aV.flatMap jH.cells),.own 56 7 (.slice R.tA m.bK.length R.tc) m.bK.length (m.bK.flatMap wS.cells)]
def uM (K:CK)(R:CX)(m:Cl):List Fact:=DJ K.wb R m
def l8 (K:CK)(R:CX)(m:Cl)(n:Nat):List Fact:=((range 5).filter (· ≠n)).flatMap λj=>kH K j (m.ah j) (R.nx j)
def gD (K:CK)(R:CX)(m:Cl)(fs:List Fact)(n:Nat):List Fact:=fs++(l8 K R m n++R.L)
def lJ (K:CK)(R:CX)(m:Cl):List Fact:=uM K R m++(((range 5).flatMap λj=>kH K j (m.ah j) (R.nx j))++R.L)
def GH (L:List Fact)(A:Option Addr)(c:Nat)(l:List Ev):Prop:=Ro L 6 A l.length (bq l)/\l.length<=c
def Rl (L:List Fact)(x:LX):Prop:=GH L x.A x.c x.l.evs
def BS (L:List Fact)(y:BX):Prop:=GH L y.A y.c y.b.evs
def GH.mono {L L':List Fact}{A:Option Addr}{c:Nat}{l:List Ev}(h:GH L A c l)(I:∀f∈L,f∈L'):GH L' A c l:=⟨h.1.mono I,h.2⟩
def p9 (kn kw:Nat)(L:List Fact):Option bO->Value->Prop
 |none,v=>v=.nilFunc
 |some (.serve q evs op num a),v=> ∃b1 b2 b3 b4 b5 b6 b7 y x,v=.func (.func 88) #[] #[gP b1,gP b2,gP b3,gP b4,gP b5]/\ .blk b1 (BX.cells y).toArray 42∈L/\y.b.evs=evs/\BS L y/\ .blk b2 #[gP kn] 98∈L/\ .blk b3 #[.int .i64 ((q:Nat):Int)] 3∈L/\
   .blk b4 #[.func (.func 87) #[] #[gP b6,gP b2,gP b3,gP b7]] 190∈L/\ .blk b5 (iR.cells a).toArray 54∈L/\ .blk b6 (LX.row x) 119∈L/\x.l.op=op/\x.l.num=num/\ .blk b7 #[gP kw] 87∈L
 |some (.begun q b),v=> ∃b1 b2 b3 b4 y,v=.func (.func 91) #[] #[gP b1,gP b2,gP b3,gP b4]/\ .blk b1 (BX.cells y).toArray 42∈L/\y.b=b/\BS L y/\ .blk b2 #[gP kn] 98∈L/\ .blk b3 #[.int .i64 ((q:Nat):Int)] 3∈L/\ .blk b4 #[gP kw] 87∈L
 |some (.got q b last),v=> ∃b1 b2 b3 b4 b5 y x,v=.func (.func 96) #[] #[gP b1,gP b2,gP b3,gP b4,gP b5]/\ .blk b1 (BX.cells y).toArray 42∈L/\y.b=b/\BS L y/\ .blk b2 #[gP kn] 98∈L/\ .blk b3 #[.int .i64 ((q:Nat):Int)] 3∈L/\
   .blk b4 (LX.row x) 119∈L/\x.l.last=last/\ .blk b5 #[gP kw] 87∈L
 |some (.fF q b at_),v=> ∃b1 b2 b3 b4 b5 y x,v=.func (.func 94) #[] #[gP b1,gP b2,gP b3,gP b4,gP b5]/\ .blk b1 (BX.cells y).toArray 42∈L/\y.b=b/\BS L y/\ .blk b2 #[gP kn] 98∈L/\ .blk b3 #[.int .i64 ((q:Nat):Int)] 3∈L/\
   .blk b4 #[gP kw] 87∈L/\ .blk b5 (LX.row x) 119∈L/\x.l.at_=at_
 |some (.forget q b),v=> ∃b1 b2 b3 y,v=.func (.func 98) #[] #[gP b1,gP b2,gP b3]/\ .blk b1 (BX.cells y).toArray 42∈L/\y.b=b/\BS L y/\ .blk b2 #[gP kn] 98∈L/\ .blk b3 #[.int .i64 ((q:Nat):Int)] 3∈L
def aBd (K:CK)(L:List Fact)(n:Nat)(p:Option bO)(v:Value):Prop:=p9 (K.nb n) K.wb L p v
structure dY (K:CK)(L:List Fact)(n:Nat)(X:Nd)(x:NX):Prop where
 Rn:x.bx.map BX.b=vB X.bs
 Tv:∀y∈x.bx,BS L y
 xV:Ro L 1 x.tA X.data.length (byteCells X.data)
 ixm:x.ix.map LX.l=X.inbox
 ixo:∀y∈x.ix,Rl L y
 lF:aBd K L n X.pend x.pv
structure Good (K:CK)(R:CX)(m:Cl)(H:List LX):Prop where
 fly:R.fx.map LX.l=m.fly
 flo:∀x∈R.fx,Rl R.L x
 iE:∀n,n<5->dY K R.L n (m.ah n) (R.nx n)
 arr:Ro R.L 1 R.nA 5 ((range 5).map λj=>gP (K.nb j))
 hld:∀x∈H,Rl R.L x
def Wd (K:CK)(B:Nat)(w0 w:World)(fs:List Fact)(m:Cl)(H:List LX):Prop:= ∃R,Good K R m H/\St B w0 w (fs++lJ K R m)
section
variable {K:CK}{B n:Nat}{w0 w w':World}{fs N:List Fact}{m m':Cl}{H H':List LX}{R R':CX}
def p9.mono {kn kw:Nat}{L L':List Fact}{p:Option bO}{v:Value}(h:p9 kn kw L p v)(I:∀f∈L,f∈L'):p9 kn kw L' p v:=by
 match p,h with
 |none,h=>exact h
 |some (.serve q evs op num a),⟨b1,b2,b3,b4,b5,b6,b7,y,x,h1,J,M,O,Z,h6,h7,h8,h9,h10,h11,h12⟩=>
  exact⟨b1,b2,b3,b4,b5,b6,b7,y,x,h1,I _ J,M,GH.mono O I,I _ Z,I _ h6,I _ h7,I _ h8,I _ h9,h10,h11,I _ h12⟩
 |some (.begun q b),⟨b1,b2,b3,b4,y,h1,J,M,O,Z,h6,h7⟩=>exact⟨b1,b2,b3,b4,y,h1,I _ J,M,GH.mono O I,I _ Z,I _ h6,I _ h7⟩
 |some (.got q b last),⟨b1,b2,b3,b4,b5,y,x,h1,J,M,O,Z,h6,h7,h8,h9⟩=>exact⟨b1,b2,b3,b4,b5,y,x,h1,I _ J,M,GH.mono O I,I _ Z,I _ h6,I _ h7,h8,I _ h9⟩
 |some (.fF q b at_),⟨b1,b2,b3,b4,b5,y,x,h1,J,M,O,Z,h6,h7,h8,h9⟩=>exact⟨b1,b2,b3,b4,b5,y,x,h1,I _ J,M,GH.mono O I,I _ Z,I _ h6,I _ h7,I _ h8,h9⟩
 |some (.forget q b),⟨b1,b2,b3,y,h1,J,M,O,Z,h6⟩=>exact⟨b1,b2,b3,y,h1,I _ J,M,GH.mono O I,I _ Z,I _ h6⟩
def dY.mono {L L':List Fact}{X:Nd}{x:NX}(h:dY K L n X x)(I:∀f∈L,f∈L'):dY K L' n X x:=
 ⟨h.Rn,λy J=>(h.Tv y J).mono I,h.xV.mono I,h.ixm,λy J=>(h.ixo y J).mono I,p9.mono h.lF I⟩
def u6 {α:Type}(f:Nat->List α)(hn:n<5):((range 5).flatMap f).Perm (f n++((range 5).filter (· ≠n)).flatMap f):=by
 have h:n=0\/n=1\/n=2\/n=3\/n=4:=Y;have I:∀l:List Nat,(range 5).Perm (n::l)->((range 5).flatMap f).Perm (f n++l.flatMap f):=λl J=>by
  have:=J.flatMap_right f;rwa [flatMap_cons]at this
 refine I _ ?_
 rcases h with rfl|rfl|rfl|rfl|rfl<;>decide
open Classical in
def Wd.open (h:Wd K B w0 w fs m H)(hn:n<5):∃R,Good K R m H/\St B w0 w (kH K n (m.ah n) (R.nx n)++(uM K R m++gD K R m fs n)):=by
 obtain⟨R,I,S⟩:=h;refine⟨R,I,S.perm (List.perm_iff_count.2 λa=>?_)⟩;have h1:=List.perm_iff_count.1 (u6 (λj=>kH K j (m.ah j) (R.nx j)) hn) a;unfold lJ gD l8;simp only[List.count_append]at h1⊢;omega
def ab9 (hs:∀j,j<5->j≠n->m'.ah j=m.ah j/\R'.nx j=R.nx j):l8 K R' m' n=l8 K R m n:=by
 unfold l8;rw[flatMap_def,flatMap_def]
 congr 1
 refine map_congr_left λj h=>?_;rw[mem_filter,mem_range]at h;obtain⟨h1,I⟩:=hs j h.1 (by simpa using h.2);rw[h1,I]
open Classical in
def Wd.close {Ls:List Fact}(G:Good K R' m' H')(S:St B w0 w' (kH K n (m'.ah n) (R'.nx n)++(uM K R' m'++(Ls++(gD K R m fs n++N)))))(hn:n<5)(h:R'.L=R.L++(N++Ls))(hs:∀j,j<5->j≠n->m'.ah j=m.ah j/\R'.nx j=R.nx j):Wd K B w0 w' fs m' H':=by
 refine⟨R',G,S.perm (List.perm_iff_count.2 λa=>?_)⟩;have h1:=List.perm_iff_count.1 (u6 (λj=>kH K j (m'.ah j) (R'.nx j)) hn) a;unfold gD lJ;rw[h,<-ab9 hs];unfold l8;simp only[List.count_append]at h1⊢;omega
def memT {L gs fs:List Fact}(k:Nat)(h:gs.drop k=fs)(I:∀f∈L,f∈fs):∀f∈L,f∈gs:=λf J=>mem_of_mem_drop (h▸I f J)
def Xc {L fs N:List Fact}(I:∀f∈L,f∈fs):∀f∈L++N,f∈fs++N:=λf J=>(mem_append.1 J).elim (λh=>mem_append_left _ (I f h)) (λh=>mem_append_right _ h)
def dZ {fs:List Fact}:∀f∈fs,f∈fs:=λ_ h=>h
def aeS {L N:List Fact}{x:Fact}:x∈L++(N++[x]):=by simp
def St.toEnd {f:Fact}(i:Nat)(S:St B w0 w fs)(hi:fs[i]? =some f):St B w0 w (fs.eraseIdx i++[f]):=(S.bring i hi).perm (perm_append_comm (l₁:=[f]) (l₂:=fs.eraseIdx i))
def St.Rp {a b c d e f g:Fact}(S:St B w0 w (a::b::c::d::e::f::g::(fs++N))):St B w0 w (a::b::c::d::e::f::g::fs):=
 S.sub (((((((sublist_append_left fs N).cons_cons g).cons_cons f).cons_cons e).cons_cons d).cons_cons c).cons_cons b |>.cons_cons a)
def Ro.blk {L:List Fact}{b n s:Nat}{row:Array Value}{t:TypeId}{xs:List Value}(h:Fact.blk b row t∈L)(J:row.toList=xs)(M:xs.length=n*s):Ro L s (some ⟨b,0,none⟩) n xs:=λ_ _ hw=>
 ⟨M,λ_=>⟨b,0,E,(hw _ h).2.lt,λj u I=>by
  rw[Nat.zero_add];exact(hw _ h).2.cell (by rw[<-J]at I;simpa using I)⟩⟩
end
end
section
open ChangeShapes WideShapes RowKit
abbrev oL (a:Option Addr)(l:List LX)(c:Nat):Fact:=.own 119 23 (.slice a l.length c) l.length (l.flatMap LX.cells)
abbrev oS (a:Option Addr)(l:List jH)(c:Nat):Fact:=.own 164 14 (.slice a l.length c) l.length (l.flatMap jH.cells)
abbrev oT (a:Option Addr)(l:List wS)(c:Nat):Fact:=.own 56 7 (.slice a l.length c) l.length (l.flatMap wS.cells)
abbrev oB (b:Nat)(l:List BX):Fact:=.own 42 6 (.slice (some ⟨b,0,none⟩) 4 4) 4 (l.flatMap BX.cells)
abbrev fL (a:Option Addr)(l:List LX)(c:Nat):Fact:=.off 119 23 a l.length c (l.flatMap LX.cells)
abbrev bW (k:Nat)(n:Value)(d:Dir)(fA:Option Addr)(fx:List LX)(fc:Nat)(sh:Nat->Nat->Int×Int)(sA:Option Addr)(sr:List jH)(sc:Nat)(tA:Option Addr)(tl:List wS)(tc cs:Nat):Fact:=.blk k (lG n d (.slice fA fx.length fc) sh (.slice sA sr.length sc) (.slice tA tl.length tc) cs) 97
abbrev bN (k n:Nat)(u:Bool)(tA:Option Addr)(dd:List UInt8)(tc:Nat)(sy:Int)(b:Nat)(H:Nat->Pl)(U:Nat->Bool)(iA:Option Addr)(ix:List LX)(ic:Nat)(pv:Value)(tn:Nat):Fact:=.blk k (dM n u (.slice tA dd.length tc) sy (.slice (some ⟨b,0,none⟩) 4 4) H U (.slice iA ix.length ic) pv tn) 105
abbrev wF (k:Nat)(n:Value)(d:Dir)(fA:Option Addr)(fx:List LX)(fc:Nat)(sh:Nat->Nat->Int×Int)(sA:Option Addr)(sr:List jH)(sc:Nat)(tA:Option Addr)(tl:List wS)(tc cs:Nat)(r:List Fact):List Fact:=bW k n d fA fx fc sh sA sr sc tA tl tc cs::oL fA fx fc::oS sA sr sc::oT tA tl tc::r
abbrev nF (k n:Nat)(u:Bool)(tA:Option Addr)(dd:List UInt8)(tc:Nat)(sy:Int)(b:Nat)(H:Nat->Pl)(U:Nat->Bool)(iA:Option Addr)(ix:List LX)(ic:Nat)(pv:Value)(tn:Nat)(bs:List BX)(r:List Fact):List Fact:=bN k n u tA dd tc sy b H U iA ix ic pv tn::oB b bs::fL iA ix ic::r
abbrev cF (k:Nat)(R:CX)(m:Cl)(r:List Fact):List Fact:=wF k (.slice R.nA 5 R.nc) m.off R.fA R.fx R.fc m.shown R.sA m.aV R.sc R.tA m.bK R.tc m.calls r
abbrev cN (k n:Nat)(X:Nd)(z:NX)(pv:Value)(r:List Fact):List Fact:=nF k n X.up z.tA X.data z.tc X.syn z.bb X.hints X.sure z.iA z.ix z.ic pv X.turn z.bx r
def Xd {x:LX}:∀(j:Nat) (u:Value),[Value.int .i64 x.l.op.kind,D x.l.op.producer,D x.l.op.id,D x.l.op.body,D x.l.op.aN,D x.l.op.hno][j]? =some u->(LX.row x)[7+j]? =some u:=by
 intro j u h;have I:j<6:=(List.getElem?_eq_some_iff.1 h).1;have:j=0\/j=1\/j=2\/j=3\/j=4\/j=5:=Y
 rcases this with rfl|rfl|rfl|rfl|rfl|rfl<;>exact h
def aqU {x:LX}:∀(j:Nat) (u:Value),[Value.int .i64 x.l.bK.num,D x.l.bK.ans.code,D x.l.bK.ans.fG,D x.l.bK.ans.hno,D x.l.bK.ans.body,D x.l.bK.pl.node,D x.l.bK.pl.epoch][j]? =some u->(LX.row x)[16+j]? =some u:=by
 intro j u h;have I:j<7:=(List.getElem?_eq_some_iff.1 h).1;have:j=0\/j=1\/j=2\/j=3\/j=4\/j=5\/j=6:=Y
 rcases this with rfl|rfl|rfl|rfl|rfl|rfl|rfl<;>exact h
def rV {me turn:Nat}{up:Bool}{tv bv iv pv:Value}{syn:Int}{H:Nat->Pl}{U:Nat->Bool}:∀(j:Nat) (u:Value),[tv,D syn][j]? =some u->(dM me up tv syn bv H U iv pv turn)[2+j]? =some u:=by
 intro j u h;have I:j<2:=(List.getElem?_eq_some_iff.1 h).1;have:j=0\/j=1:=Y
 rcases this with rfl|rfl<;>exact h
def vM (d:Dir):∀u∈d.cells.toArray.toList,u.oneCell'=true:=bP E
def akO {me turn q:Nat}{up:Bool}{tv bv iv pv:Value}{syn:Int}{H:Nat->Pl}{U:Nat->Bool}(I:q<4):∀(j:Nat) (u:Value),[Value.int .i64 (H q).node,D (H q).epoch][j]? =some u->(dM me up tv syn bv H U iv pv turn)[5+q*2+j]? =some u:=by
 intro j u h;have J:j<2:=(List.getElem?_eq_some_iff.1 h).1;have:j=0\/j=1:=Y
 rcases this with rfl|rfl
 ·rw[Nat.add_zero,(P7 I).1];exact h
 rw[(P7 I).2];exact h
def aqV {bs:List BX}{q c:Nat}{y:BX}{A:Option Addr}{evs:List Ev}(J:bs[q]? =some y):sD (bs.flatMap BX.cells) (0+q*6+5) [.slice A evs.length c]=(bs.set q ⟨{y.b with evs:=evs},A,c⟩).flatMap BX.cells:=by
 obtain⟨M,he⟩:=List.getElem?_eq_some_iff.1 J;rw[<-qL (enc:=BX.cells) (sz:=6) (λ_=>E) ⟨{y.b with evs:=evs},A,c⟩ q bs M,Nat.zero_add];have I:∀j u,(BX.cells y)[j]? =some u->(bs.flatMap BX.cells)[q*6+j]? =some u:=λj u h=>dh (enc:=BX.cells) (sz:=6) (λ_=>E) J h;simp only[sD,BX.cells];have e:∀(l:List Value) (k:Nat) (u:Value),l[k]? =some u->l.set k u=l:=λl k u h=>by
  obtain⟨h1,O⟩:=List.getElem?_eq_some_iff.1 h;subst O;exact set_getElem_self h1
 rw[e _ (q*6) _ (I 0 _ E),e _ (q*6+1) _ (I 1 _ E),e _ (q*6+1+1) _ (I 2 _ E),e _ (q*6+1+1+1) _ (I 3 _ E),e _ (q*6+1+1+1+1) _ (I 4 _ E)]
def ji (k:Int) (q:Nat) (y:BX) (w:World):
    Calls tP 45 #[D k,D ((q:Nat):Int),.agg (bR y.b y.A y.c)] w (λe w'=>e=.returned (.agg (cB.cells (fH k q y.b.ep 0 aH)).toArray)/\Below w.heap.size w w'):=by
 have S:=St.start w;refine gK 12 func45 ?_;refine cw [0,1,2] ?_;refine zN 2 ?_;refine iP S ?_;intro b1 M h;refine gB h wY ?_;intro b4 O I;refine zN 8 ?_;refine vv (v:=.agg #[D k,D ((q:Nat):Int),D y.b.ep,D 0,D 0,D 0,D 0,D 0,D 0,D 0]) gG ?_;refine sa 0 I kQ ?_;intro Z J;refine zN 4 ?_;exact⟨E,J.low⟩
def gV {B kw calls fc sc tc:Nat} {fA sA tA:Option Addr} {nv:Value} {d:Dir} {sh:Nat->Nat->Int×Int} {fx:List LX} {aV:List jH} {tl:List wS} {w0 w:World} {fs:List Fact} {x:LX} (S:St B w0 w ((.blk kw (lG (nv) d (.slice fA fx.length fc) sh (.slice sA aV.length sc) (.slice tA tl.length tc) calls) 97)::(.own 119 23 (.slice fA fx.length fc) fx.length ((fx).flatMap LX.cells))::fs)) (hb:(fx.length+1)*200<=140737488355328):
    Calls tP 32 #[pV kw 0,.agg (LX.row x)] w (λe w'=>e=.returned (.tuple #[])/\ ∃A' c' h,h=fx++[x]/\St B w0 w' ((.blk kw (lG (nv) d (.slice A' h.length c') sh (.slice sA aV.length sc) (.slice tA tl.length tc) calls) 97)::(.own 119 23 (.slice A' h.length c') h.length ((h).flatMap LX.cells))::fs)):=by
 refine gK 14 func32 ?_;refine cw [0,1] ?_;refine zN 2 ?_;refine iP S ?_;intro b1 w2 S3;refine zN 2 ?_;have J:=S3.drew;refine fK 11 8 J [2] ?_;iterate 4 refine gU ?_
 refine gk (v:=.slice fA fx.length fc) 4 E (St.del 2 J) (λ_ Sx9=>(au E E (aK (St.cl 1 Sx9 E Sg)))) ?_;refine gU ?_;refine fC (m:=4) (r:=6) kQ ?_;refine mQ (i:=6) E E (V:=λb=>.slice (aD b 0) 1 1) (row:=LX.row x) (t:=119) J (wn E) E E (aP (vs:=[(0,.agg (LX.row x))]) E xH kQ) ?_;intro b11 w12 I;refine gU ?_;refine fC (m:=3) (r:=7) kQ ?_;refine lu (i:=7) E E (news:=(LX.cells x)) (xs':=(fx++[x]).flatMap LX.cells) 3 I (wn E) E E E E E E (St.mq (xs:=(LX.cells x)) 0 I E E E) underlying91 Zb E dQ (Eh _) lQ Y (jy (enc:=LX.cells) E E) ?_;intro M O w16 hc18 aJS Z;refine gU ?_;refine fu kQ E E E ?_;refine zN 2 ?_;refine jF 2 Z kQ ?_ (hs:=by exact an2);intro Zz uV;refine zQ ?_;refine iX ?_;refine bU (l':=[]) trivial (oP ?_);have jX:=uV.aO [1,0];refine⟨E,M,O,fx++[x],E,?_⟩;rw[length_append];exact jX
def nP {B kn kw bb n turn calls dc ic fc sc tc:Nat} {up:Bool} {dA iA fA sA tA:Option Addr} {data:List UInt8} {syn:Int} {Hh:Nat->Pl} {Us:Nat->Bool} {pv nv:Value} {d:Dir} {sh:Nat->Nat->Int×Int} {bs:List BX} {ix fx:List LX} {aV:List jH} {tl:List wS} {w0 w:World} {fs:List Fact} {q:Nat} (hn:n<5) (hq:q<4) {y:BX} (hy:bs[q]? =some y) (e:Ev) (a:iR) (num:Int) (S:St B w0 w ((.blk kn (dM n up (.slice dA data.length dc) syn (.slice (aD bb 0) 4 4) Hh Us (.slice iA ix.length ic) (pv) turn) 105)::(.own 42 6 (.slice (aD bb 0) 4 4) 4 ((bs).flatMap BX.cells))::(.off 119 23 iA ix.length ic ((ix).flatMap LX.cells))::(.blk kw (lG (nv) d (.slice fA fx.length fc) sh (.slice sA aV.length sc) (.slice tA tl.length tc) calls) 97)::(.own 119 23 (.slice fA fx.length fc) fx.length ((fx).flatMap LX.cells))::(.own 164 14 (.slice sA aV.length sc) aV.length ((aV).flatMap jH.cells))::(.own 56 7 (.slice tA tl.length tc) tl.length ((tl).flatMap wS.cells))::fs)) (hb:(aV.length+1)*112<=140737488355328):
    Calls tP 56 #[pV kw 0,pV kn 0,D ((q:Nat):Int),.agg #[D e.kind,D e.producer,D e.id,D e.body,D e.aN,D e.hno],.agg #[D a.code,D a.fG,D a.hno,D a.body],D num] w (λe' w'=>e'=.returned (.tuple #[])/\ ∃A' c' I,I=aV++[(⟨n,q,y.b.ep,e,a,num⟩:jH)]/\St B w0 w' ((.blk kn (dM n up (.slice dA data.length dc) syn (.slice (aD bb 0) 4 4) Hh Us (.slice iA ix.length ic) (pv) turn) 105)::(.own 42 6 (.slice (aD bb 0) 4 4) 4 ((bs).flatMap BX.cells))::(.off 119 23 iA ix.length ic ((ix).flatMap LX.cells))::(.blk kw (lG (nv) d (.slice fA fx.length fc) (iw sh n q (y.b.ep,(y.b.evs.length:Int))) (.slice A' I.length c') (.slice tA tl.length tc) calls) 97)::(.own 119 23 (.slice fA fx.length fc) fx.length ((fx).flatMap LX.cells))::(.own 164 14 (.slice A' I.length c') I.length ((I).flatMap jH.cells))::(.own 56 7 (.slice tA tl.length tc) tl.length ((tl).flatMap wS.cells))::fs)):=by
 have Z:=(S.own 1 E).1;rw[iG (sz:=6) (λ_=>E)]at Z;refine gK 68 func56 ?_;refine cw [0,1,2,3,4,5] ?_;refine zN 2 ?_;refine iP S ?_;intro b1 w2 S3;refine iP S3 ?_;intro b4 w5 S6;refine zN 3 ?_;have O:=S6.drew;refine fK 29 25 O [7] ?_;iterate 5 refine gU ?_
 refine gk (v:=.slice sA aV.length sc) 5 E (St.del 7 O) (λ_ R6=>(au E E (aK (St.cl 5 R6 E av6)))) ?_;iterate 10 refine gU ?_
 refine gk 16 E (St.del 7 O) (λ_ _=>kZ q) ?_;refine gU ?_;refine gk (v:=D y.b.ep) 18 E (St.del 7 O) (λ_ anr=>(au E E (aK (Rd.cl2 (i:=1) (St.ord 3 anr E) (dh (enc:=BX.cells) (sz:=6) (λ_=>E) hy E))))) ?_;iterate 3 refine gU ?_
 refine gk (v:=.agg #[D ((n:Nat):Int),D ((q:Nat):Int),D y.b.ep,D e.kind,D e.producer,D e.id,D e.body,D e.aN,D e.hno,D a.code,D a.fG,D a.hno,D a.body,D num]) 22 E (St.del 7 O) (λ_ _=>gG) ?_;refine fC (m:=5) (r:=23) kQ ?_;refine mQ (i:=23) E E (V:=λb=>.slice (aD b 0) 1 1) (row:= #[D ((n:Nat):Int),D ((q:Nat):Int),D y.b.ep,D e.kind,D e.producer,D e.id,D e.body,D e.aN,D e.hno,D a.code,D a.fG,D a.hno,D a.body,D num]) (t:=164) O (wn E) E E (aP (vs:=[(0,.agg #[D ((n:Nat):Int),D ((q:Nat):Int),D y.b.ep,D e.kind,D e.producer,D e.id,D e.body,D e.aN,D e.hno,D a.code,D a.fG,D a.hno,D a.body,D num])]) E xH kQ) ?_;intro b31 w32 tX;refine gU ?_;refine fC (m:=4) (r:=24) kQ ?_;refine lu (i:=24) E E (news:=[D ((n:Nat):Int),D ((q:Nat):Int),D y.b.ep,D e.kind,D e.producer,D e.id,D e.body,D e.aN,D e.hno,D a.code,D a.fG,D a.hno,D a.body,D num]) (xs':=(aV++[(⟨n,q,y.b.ep,e,a,num⟩:jH)]).flatMap jH.cells) 8 tX (wn E) E E E E E E (St.mq (xs:=[D ((n:Nat):Int),D ((q:Nat):Int),D y.b.ep,D e.kind,D e.producer,D e.id,D e.body,D e.aN,D e.hno,D a.code,D a.fG,D a.hno,D a.body,D num]) 0 tX E E E) underlying32 apG E dQ (bP E) lQ Y (jy (enc:=jH.cells) E E) ?_;intro J M w36 hc38 aBe Dt;refine gU ?_;refine fu kQ E E E ?_;refine zN 3 ?_;refine jF 6 Dt kQ ?_ (hs:=by exact av8);intro w40 Gp;refine zQ ?_;refine iX ?_;refine zQ ?_;have h:=Gp.drew;refine aJ 29 h [6] ?_;refine aL 11 ?_;refine ak 11 E (St.del 6 h) (λ_ _=>kZ q) ?_;refine dR ?_;refine ak (v:=D y.b.ep) 13 E (St.del 6 h) (λ_ acd=>(au E E (aK (Rd.cl2 (i:=1) (St.ord 4 acd E) (dh (enc:=BX.cells) (sz:=6) (λ_=>E) hy E))))) ?_;refine aL 5 ?_;refine ak 19 E (St.del 6 h) (λ_ _=>kZ q) ?_;refine dR ?_;refine ak (v:=.slice y.A y.b.evs.length y.c) 21 E (St.del 6 h) (λ_ aa0=>(au E E (aK (Rd.cl2 (i:=5) (St.ord 4 aa0 E) (dh (enc:=BX.cells) (sz:=6) (λ_=>E) hy E))))) ?_;refine dR ?_;refine ak (v:=.agg #[D y.b.ep,D ((y.b.evs.length:Nat):Int)]) 23 E (St.del 6 h) (λ_ _=>gG) ?_;refine aL 2 ?_;refine ak (v:=pV kw (10+n*8)) 26 E (St.del 6 h) (λ_ _=>(bJ E E E (fE n underlying95 kQ E hn))) ?_;refine ak (v:=pV kw (10+n*8+q*2)) 27 E (St.del 6 h) (λ_ _=>(bJ E E E (fE q underlying94 kQ E hq))) ?_;refine aY 28 ?_;refine um (i:=28) E E (cs:= #[D y.b.ep,D ((y.b.evs.length:Nat):Int)]) (row':=lG (nv) d (.slice fA fx.length fc) (iw sh n q (y.b.ep,((y.b.evs.length:Nat):Int))) (.slice J (aV.length+1) M) (.slice tA tl.length tc) calls) (fs':=(_::_::_::_::_::_::(.blk kw (lG (nv) d (.slice fA fx.length fc) (iw sh n q (y.b.ep,((y.b.evs.length:Nat):Int))) (.slice J (aV.length+1) M) (.slice tA tl.length tc) calls) 97)::_::_::_::fs)) 6 h (wn E) E E E E E E VK E (bP E) (by rw[aeQ];omega) (amy hn hq (a:=y.b.ep) (b:=((y.b.evs.length:Nat):Int))) E ?_;intro w71 Fu;refine aL 2 ?_;refine bU (l':=[]) trivial (oP ?_);have tV:=Fu.aO [2,1,0];refine⟨E,J,M,aV++[(⟨n,q,y.b.ep,e,a,num⟩:jH)],E,?_⟩;rw[length_append];exact tV
def yV {B kn kw bb n turn calls dc ic fc sc tc:Nat} {up:Bool} {dA iA fA sA tA:Option Addr} {data:List UInt8} {syn:Int} {Hh:Nat->Pl} {Us:Nat->Bool} {pv nv:Value} {d:Dir} {sh:Nat->Nat->Int×Int} {bs:List BX} {ix fx:List LX} {aV:List jH} {tl:List wS} {w0 w:World} {fs:List Fact} {q:Nat} (hn:n<5) (hq:q<4) {y:BX} (hy:bs[q]? =some y) (S:St B w0 w (nF kn n up dA data dc syn bb Hh Us iA ix ic pv turn bs (wF kw nv d fA fx fc sh sA aV sc tA tl tc calls fs))) (hb:(fx.length+1)*200<=140737488355328):
    Calls prog 90 #[pV kw 0,pV kn 0,D ((q:Nat):Int)] w (λe w'=>e=.returned (.tuple #[])/\ ∃A' c' I,I=fx++[⟨oh n q y.b,none,0⟩]/\St B w0 w' (nF kn n up dA data dc syn bb Hh Us iA ix ic pv turn bs (wF kw nv d A' I c' sh sA aV sc tA tl tc calls fs))):=by
 have J:=(S.own 1 E).1;rw[iG (sz:=6) (λ_=>E)]at J;refine gK 29 func90 ?_;refine cw [0,1,2] ?_;refine zN 7 ?_;refine vv (kZ q) ?_;refine vv (au E E (dS (cs:=BX.cells y) (Rd.yB (St.ord 1 S E) (λ_ _ h=>dh (enc:=BX.cells) (sz:=6) (λ_=>E) hy h)))) ?_;refine gB S gu ?_;intro b1 w2 S3;refine sa 0 S3 kQ ?_;intro w4 S5;refine zN 2 ?_;have S6:=S5.eG [5,5];have Z:=S6.drew;refine aJ 15 Z [1,0] ?_;refine aL 13 ?_;refine ak (v:=.agg #[D 3,D ((n:Nat):Int),D y.b.fr,D ((q:Nat):Int),D y.b.ep,D ((y.b.evs.length:Nat):Int),D 0,D 0,D 0,D 0,D 0,D 0,D 0,.slice none 0 0,.bool false,D 0,D 0,D 0,D 0,D 0,D 0,D 0,D 0]) 13 E (Z.oU [1,0]) (λ_ _=>gG) ?_;refine aY 14 ?_;refine kD 14 E eQ (gV (x:=⟨oh n q y.b,none,0⟩) Z Y) ?_;rintro _ NP ⟨rfl,A22,c23,M,O,tT⟩;refine⟨_,E,?_⟩;refine aL 2 ?_;refine bU (l':=[]) trivial (oP ?_);have sP:=tT.aO [2];have uD:=sP.eG [6,6,3,3,6,6,6];exact⟨E,A22,c23,M,O,uD⟩
noncomputable def lq (n q:Nat)(b:aQ)(at_:Int)(fl:List bG):List bG:=if (gX b at_).2.2≠0 then fl else fl++[FI n q b at_]
def aBf {B:Nat}{w0 w:World}{a b c d e f g x:Fact}{fs:List Fact}(S:St B w0 w (a::b::c::d::e::f::g::x::fs)):St B w0 w (a::b::c::d::e::f::g::(fs++[x])):=
 S.perm (Perm.cons _ (Perm.cons _ (Perm.cons _ (Perm.cons _ (Perm.cons _ (Perm.cons _ (Perm.cons _ (perm_append_comm (l₁:=[x]) (l₂:=fs)))))))))
def Le {B kn kw bb n turn calls dc ic fc sc tc:Nat} {up:Bool} {dA iA fA sA tA:Option Addr} {data:List UInt8} {syn:Int} {Hh:Nat->Pl} {Us:Nat->Bool} {pv nv:Value} {d:Dir} {sh:Nat->Nat->Int×Int} {bs:List BX} {ix fx:List LX} {aV:List jH} {tl:List wS} {w0 w:World} {fs:List Fact} {q:Nat} {L:List Fact} (hn:n<5) (hq:q<4) {y:BX} (hy:bs[q]? =some y) (at_:Int) (Z:BS L y) (hL: ∀ f∈L,f∈fs) (aBg:y.b.evs.length*48<=reachBytes) (fG: -2<=y.b.ep/\y.b.ep<=2000000) (S:St B w0 w (nF kn n up dA data dc syn bb Hh Us iA ix ic pv turn bs (wF kw nv d fA fx fc sh sA aV sc tA tl tc calls fs))) (hb:(fx.length+1)*200<=140737488355328):
    Calls prog 93 #[pV kw 0,pV kn 0,D ((q:Nat):Int),D at_] w (λe w'=>e=.returned (.tuple #[])/\ ∃(A':Option Addr) (c':Nat) (O:List LX) (N:List Fact),O.map LX.l=lq n q y.b at_ (fx.map LX.l)/\(∀x∈O,x∈fx\/Rl N x)/\St B w0 w' (nF kn n up dA data dc syn bb Hh Us iA ix ic pv turn bs (wF kw nv d A' O c' sh sA aV sc tA tl tc calls (fs++N)))):=by
 have hlen:=(S.own 1 E).1;rw[iG (sz:=6) (λ_=>E)]at hlen;refine gK 44 func93 ?_;refine cw [0,1,2,3] ?_;refine zN 7 ?_;refine vv (kZ q) ?_;refine vv (au E E (dS (cs:=BX.cells y) (Rd.yB (St.ord 1 S E) (λ_ _ h=>dh (enc:=BX.cells) (sz:=6) (λ_=>E) hy h)))) ?_;refine gB S gu ?_;intro b1 w2 S3;refine sa 0 S3 kQ ?_;intro w4 S5;refine zN 6 ?_;refine dO eQ ((show Calls _ _ _ _ (SN _ (gX y.b at_))from Yj y.b.role y.b.ep y.b.fr y.b.tg y.b.rd y.A y.c y.b.evs at_ Z.2 _ (Z.1.rd S5 (memT 8 E hL)) aBg)) ?_;rintro _ w9 ⟨A6,c7,aBh,rfl,T11⟩;refine⟨_,E,?_⟩;have Dr:=S5.ext T11 E;refine zN 13 ?_;by_cases h12:(gX y.b at_).2.2=0
 ·refine zN 6 ?_;have SK:=Dr.eG [6,6];have I:=SK.drew;refine aJ 16 I [1,0] ?_;refine aL 10 ?_;refine ak (v:=D (y.b.ep+1)) 10 E (I.oU [1,0]) (λ_ _=>jc) ?_;refine aL 3 ?_;refine ak (v:=.agg #[D 4,D ((n:Nat):Int),D y.b.tg,D ((q:Nat):Int),D (y.b.ep+1),D at_,D 0,D 0,D 0,D 0,D 0,D 0,D 0,.slice A6 ((gX y.b at_).1.length) c7,.bool ((gX y.b at_).2.1),D 0,D 0,D 0,D 0,D 0,D 0,D 0,D 0]) 14 E (I.oU [1,0]) (λ_ _=>gG) ?_;refine aY 15 ?_;refine kD 15 E eQ (gV (x:=⟨FI n q y.b at_,A6,c7⟩) I Y) ?_;rintro _ ZB ⟨rfl,A30,c31,aBi,M,zo⟩;refine⟨_,E,?_⟩;refine aL 2 ?_;refine bU (l':=[]) trivial (oP ?_);have sU:=zo.aO [3];have Dt:=sU.eG [7,7,3,3,7,7,7];refine⟨E,A30,c31,aBi,[.cK 6 A6 ((gX y.b at_).1.length) (((gX y.b at_).1).flatMap Ev.cells)],?_,?_,?_⟩
  · rw[lq,if_neg (λh=>h h12),M,map_append];rfl
  · intro x J;rw[M]at J;rcases mem_append.1 J with J|J;exact .inl J;rw[mem_singleton]at J;subst J;exact .inr ⟨Ro.cK (mem_singleton.2 E),aBh⟩
  · exact aBf Dt
 refine zN 7 ?_;have yC:=Dr.aO [1];have BI:=yC.eG [7,7,7,7,7,7,7];have wR:=BI.aO [7];refine⟨E,fA,fc,fx,[],?_,?_,?_⟩
 · rw[lq,if_pos h12]
 · exact λx J=>.inl J
 · rw[append_nil];exact wR
def aBj (w:World)(r:List UInt8×Int×Int)(e:Ending)(w':World):Prop:=
 ∃A c,e=.returned (.tuple #[.agg #[.slice A r.1.length c,D r.2.1],D r.2.2])/\St w.heap.size w w' [.cK 1 A r.1.length (byteCells r.1)]
def Bg {P:Program}{f:FuncId}{vs:Array Value}{w:World}{r:List UInt8×Int×Int}(h:Calls P f vs w (rQ w r)):Calls P f vs w (aBj w r):=h.mono λe w' ⟨A,c,h1,I,J,M⟩=>
 ⟨A,c,h1,((St.start w).on I).cons ⟨J,M⟩ λk _ i g O=>by simp at O⟩
def Jb {d:List UInt8}{s:Int}{rs:List cB}{k:Nat}{r:cB}(h:rs[k]? =some r):fB d s (rs.drop k)=if (iU d s r).2.2≠0 then none else fB (iU d s r).1 s (rs.drop (k+1)):=by rw[drop_cons h,fB]
def aeT {d:List UInt8}{s:Int}{r:cB}(h:(iU d s r).2.2=0):(iU d s r).2.1=s:=by rw[(Ot h).1]
def qb {B kn kw bb n turn calls dc ic fc sc tc:Nat} {up:Bool} {dA iA fA sA tA:Option Addr} {data:List UInt8} {syn:Int} {Hh:Nat->Pl} {Us:Nat->Bool} {pv nv:Value} {d:Dir} {sh:Nat->Nat->Int×Int} {bs:List BX} {ix fx:List LX} {aV:List jH} {tl:List wS} {w0 w:World} {fs:List Fact} {L:List Fact} {rs:List cB} {RA:Option Addr} {rc:Nat} (hrs:Ro fs 10 RA rs.length (rs.flatMap cB.cells)) (htp:Ro L 1 dA data.length (byteCells data)) (hL: ∀ f∈L,f∈fs) (hrl:rs.length<=1000000) (S:St B w0 w (nF kn n up dA data dc syn bb Hh Us iA ix ic pv turn bs (wF kw nv d fA fx fc sh sA aV sc tA tl tc calls fs))):
    Calls prog 44 #[pV kn 0,.slice RA rs.length rc] w (λe w'=>(fB data syn rs=none/\e=.returned (.bool false)/\St B w0 w' (nF kn n up dA data dc syn bb Hh Us iA ix ic pv turn bs (wF kw nv d fA fx fc sh sA aV sc tA tl tc calls fs)))\/ ∃d' A' c' N,fB data syn rs=some d'/\e=.returned (.bool true)/\Ro (L++N) 1 A' d'.length (byteCells d')/\St B w0 w' (nF kn n up A' d' c' syn bb Hh Us iA ix ic pv turn bs (wF kw nv d fA fx fc sh sA aV sc tA tl tc calls (fs++N)))):=by
 refine gK 34 func44 ?_;refine cw [0,1] ?_;refine zN 10 ?_;refine vv (au E E (dS (cs:=[.slice dA data.length dc,D syn]) (St.rg 0 S E (rV)))) ?_;refine gB S zh ?_;intro b1 w2 S3;refine sa 0 S3 kQ ?_;intro w4 S5;refine zN 11 ?_;refine fO (X:=Nat×(Option Addr)×Nat×(List UInt8)×(List Fact)) (λI=>[(0,pV kn 0),(5,pV b1 0),(14,.slice RA rs.length rc),(15,D ((rs.length:Nat):Int)),(16,D ((I.1:Nat):Int))]) (λI wr=>(I.1<=rs.length)/\(fB data syn rs=fB I.2.2.2.1 syn (rs.drop I.1))/\(Ro (L++I.2.2.2.2) 1 I.2.1 I.2.2.2.1.length (byteCells I.2.2.2.1))/\St B w0 wr ((.blk b1 #[.slice I.2.1 I.2.2.2.1.length I.2.2.1,D syn] 101)::(nF kn n up dA data dc syn bb Hh Us iA ix ic pv turn bs (wF kw nv d fA fx fc sh sA aV sc tA tl tc calls (fs++I.2.2.2.2))))) (λI=>rs.length-I.1) (0,dA,dc,data,[]) ?_ ?_ ?_
 ·exact⟨zero_le _,E,by rw[append_nil];exact htp,by rw[append_nil];exact S5⟩
 ·exact zZ
 rintro⟨k,A1,c1,M,N1⟩ w6 ⟨hi8,O,J,S7⟩
 try dsimp only at hi8 O J S7
 refine bH (l':=[(0,pV kn 0),(5,pV b1 0),(14,.slice RA rs.length rc),(15,D ((rs.length:Nat):Int)),(16,D ((k:Nat):Int))]) zZ (aM (av ?_));by_cases h11:((k:Nat):Int)< ((rs.length:Nat):Int)
 ·refine zN 10 ?_;obtain⟨x,hx⟩:∃x,rs[k]? =some x:=⟨_,getElem?_eq_getElem Y⟩;refine zQ ?_;obtain⟨rb,ro,hra,_,hrc⟩:=(hrs.rd S7 (memT 8 E (λf hf=>mem_append_left _ hf))).2 Y;subst hra;refine vv (kZ k) ?_;refine vv (v:=.agg #[D x.kind,D x.queue,D x.epoch,D x.peer,D x.ev.kind,D x.ev.producer,D x.ev.id,D x.ev.body,D x.ev.aN,D x.ev.hno]) (au E E (dS (cs:=cB.cells x) (λj u hu=>by rw[Nat.add_assoc];exact hrc (k*10+j) u (dh (enc:=cB.cells) (sz:=10) (λ_=>E) hx hu)))) ?_;refine gB S7 wY ?_;intro b12 Ea mX;refine stA 0 mX kQ ?_;intro KY qK;refine zN 6 ?_;refine dO eQ (Bg (Ia A1 M.length c1 M syn x _ (J.rd qK (memT 9 E (Xc hL))))) ?_;rintro _ Gn ⟨Z,c18,rfl,T21⟩;refine⟨_,E,?_⟩;have pK:=qK.ext T21 E;refine zN 3 ?_;refine gB pK zh ?_;intro b22 JB jP;refine stA 0 jP kQ ?_;intro w25 sI;refine zN 7 ?_;by_cases h27:(iU M syn x).2.2=0
  ·have hsy:=aeT h27;rw[hsy]at sI;refine zN 8 ?_;refine stA 3 sI kQ ?_;intro Zu uD;refine zN 4 ?_;refine vv (v:=D ((k+1:Nat):Int)) jc ?_;refine zN 2 ?_;have BH:=uD.aO [2,0];have qB:=BH.eG [8,8,8,8,8,8,8,8];have uW:St B w0 Zu (_::_::_::_::_::_::_::_::((fs++N1)++[.cK 1 Z ((iU M syn x).1.length) (byteCells ((iU M syn x).1))])):=qB.toEnd 8 E;have tX:=uW;rw[append_assoc]at tX;refine bQ (k+1,Z,c18,(iU M syn x).1,N1++[.cK 1 Z ((iU M syn x).1.length) (byteCells ((iU M syn x).1))]) ?_ zZ (by first|omega|(dsimp only;omega));exact⟨uQ,(by dsimp only;rw[O,Jb hx,if_neg (λh=>h h27)]),(Ro.cK aeS),tX⟩
  refine zN 17 ?_;have qW:=sI.aO [3,2,1,0];exact .inl ⟨by rw[O,Jb hx,if_pos h27],E,qW.Rp⟩
 refine zN 16 ?_;refine jF (row':=dM n up (.slice A1 M.length c1) syn (.slice (aD bb 0) 4 4) Hh Us (.slice iA ix.length ic) (pv) turn) 1 S7 kQ ?_;intro Zv sU;refine zQ ?_;refine bU (l':=[]) trivial (dF (aM (av (va ?_))));refine zN 4 ?_;have Dt:=sU.aO [0];exact .inr ⟨M,A1,c1,N1,by rw[O,drop_eq_nil_of_le Y];rfl,E,J,Dt⟩
structure Uk (B:Nat)(w0:World):Prop where
 u0:w0.cell? ⟨1,0,none⟩=some (D (-1))
 u1:w0.cell? ⟨1,1,none⟩=some (D 0)
 ul:1<B
 n0:w0.cell? ⟨0,0,none⟩=some (D (-1))
 n1:w0.cell? ⟨0,1,none⟩=some (D 0)
 nl:0<B
def Uk.rg {B:Nat}{w0 w:World}{fs:List Fact}(h:Uk B w0)(S:St B w0 w fs):w.rangeAt 1 0 [D (-1),D 0]:=λj u I=>by
 have J:j<2:=(List.getElem?_eq_some_iff.1 I).1;have:j=0\/j=1:=Y
 rcases this with rfl|rfl
 ·rw[<-I];exact(S.low.cell (p:=⟨1,0,none⟩) h.ul).trans h.u0
 rw[<-I];exact(S.low.cell (p:=⟨1,1,none⟩) h.ul).trans h.u1
def Uk.nw {B:Nat}{w0 w:World}{fs:List Fact}(h:Uk B w0)(S:St B w0 w fs):Nw w:=
 ⟨(S.low.cell (p:=⟨0,0,none⟩) h.nl).trans h.n0,(S.low.cell (p:=⟨0,1,none⟩) h.nl).trans h.n1,Nat.lt_of_lt_of_le h.nl S.base⟩
def sK {P:Program}{t:TypeId}{w:World}{b m:Nat}{row:Array Value}{tt:TypeId}{ds:TypeDesc}(I:gq w b row tt)(J:P.underlying t=some ds)(M:ds.isRow=true)(O:(P.info? t).map (·.size)=some m)(Z:row.size=m):(Instr.loadAt t (pV b 0)).run P w=.ok (.agg row) w:=by
 have:=yE (P:=P) (w:=w) (t:=t) (b:=b) (off:=0) (cs:=row.toList) J M O (by simpa using Z) (λj u h=>by rw[Nat.zero_add];exact I.cell (by simpa using h));simpa using this
def DK {B kn kw bb n turn calls dc ic fc sc tc:Nat} {up:Bool} {dA iA fA sA tA:Option Addr} {data:List UInt8} {syn:Int} {Hh:Nat->Pl} {Us:Nat->Bool} {pv nv:Value} {d:Dir} {sh:Nat->Nat->Int×Int} {bs:List BX} {ix fx:List LX} {aV:List jH} {tl:List wS} {w0 w:World} {fs:List Fact} {q b6 b2 b3 b7:Nat} (hn:n<5) (hq:q<4) {y:BX} (hy:bs[q]? =some y) (x:LX) (a:iR) (S:St B w0 w (nF kn n up dA data dc syn bb Hh Us iA ix ic pv turn bs (wF kw nv d fA fx fc sh sA aV sc tA tl tc calls fs))) (O:Fact.blk b6 (LX.row x) 119∈fs) (J:Fact.blk b2 #[gP kn] 98∈fs) (GI:Fact.blk b3 #[D ((q:Nat):Int)] 3∈fs) (Z:Fact.blk b7 #[gP kw] 87∈fs) (hu:Uk B w0) (hb:(fx.length+1)*200<=140737488355328) (hb2:(aV.length+1)*112<=140737488355328):
    Calls prog 87 #[.agg #[D a.code,D a.fG,D a.hno,D a.body],pV b6 0,pV b2 0,pV b3 0,pV b7 0] w (λe w'=>e=.returned (.tuple #[])/\(serves y.b-> ∃sA' sc' acg JJ JK OD,acg=aV++[(⟨n,q,y.b.ep,x.l.op,a,x.l.num⟩:jH)]/\OD=fx++[⟨lX n x.l.num a nowhere,none,0⟩]/\St B w0 w' (nF kn n up dA data dc syn bb Hh Us iA ix ic pv turn bs (wF kw nv d JJ OD JK (iw sh n q (y.b.ep,(y.b.evs.length:Int))) sA' acg sc' tA tl tc calls fs)))/\(¬serves y.b-> ∃JJ JK OD,OD=fx++[⟨lX n x.l.num a (Hh q),none,0⟩]/\St B w0 w' (nF kn n up dA data dc syn bb Hh Us iA ix ic pv turn bs (wF kw nv d JJ OD JK sh sA aV sc tA tl tc calls fs)))):=by
 have hlen:=(S.own 1 E).1;rw[iG (sz:=6) (λ_=>E)]at hlen;refine gK 51 func87 ?_;refine cw [0,1,2,3,4] ?_;refine zN 2 ?_;refine iP S ?_;intro b1 w2 S3;refine zN 5 ?_;refine vv (au E E (aK ((St.hblk S3 (memT 8 E dZ _ O)).cell E))) ?_;refine zQ ?_;refine vv (au E E (dS (cs:=[D (-1),D 0]) (Uk.rg hu S3))) ?_;refine vv (v:=.agg #[D x.l.num,D a.code,D a.fG,D a.hno,D a.body,D (-1),D 0]) gG ?_;refine gB S3 azj ?_;intro b4 w5 S6;refine sa 0 S6 kQ ?_;intro w7 S8;refine zN 4 ?_;refine iD S8 mixed kQ ?_;refine uv (v:=pV kn 0) (λ_ Sx9=>(au E E (aK ((St.hblk Sx9 (memT 9 E dZ _ J)).cell E)))) ?_;refine zN 3 ?_;refine uv (v:=D ((q:Nat):Int)) (λ_ R6=>(au E E (aK ((St.hblk R6 (memT 9 E dZ _ GI)).cell E)))) ?_;refine uv (λ_ _=>kZ q) ?_;refine zQ ?_;refine uv (v:=D y.b.role) (λ_ aBk=>(au E E (aK (Rd.cl2 (i:=0) (St.ord 3 aBk E) (dh (enc:=BX.cells) (sz:=6) (λ_=>E) hy E))))) ?_;refine zQ ?_;refine iH λMO I=>?_;refine zN 4 ?_;by_cases h20:y.b.role=1
 ·refine zN 9 ?_;refine vv (au E E (aK ((St.hblk I (memT 9 E dZ _ Z)).cell E))) ?_;refine vv (au E E (aK ((St.hblk I (memT 9 E dZ _ J)).cell E))) ?_;refine vv (au E E (aK ((St.hblk I (memT 9 E dZ _ GI)).cell E))) ?_;refine zQ ?_;refine vv (au E E (dS (cs:=[D x.l.op.kind,D x.l.op.producer,D x.l.op.id,D x.l.op.body,D x.l.op.aN,D x.l.op.hno]) (λj u hj=>(St.hblk I (memT 9 E dZ _ O)).cell (Xd j u hj)))) ?_;refine zN 2 ?_;refine vv (au E E (aK ((St.hblk I (memT 9 E dZ _ O)).cell E))) ?_;have uV:=I.eG [8,8,8,8,8,8,8];refine dO eQ (nP hn hq hy x.l.op a x.l.num uV Y) ?_;rintro _ NP ⟨rfl,A22,c23,aBl,aBm,tT⟩;refine⟨_,E,?_⟩;refine zN 2 ?_;have sP:=tT.eG [4,4];have uD:=sP.drew;refine aJ 8 uD [1,0] ?_;refine ak (v:=pV kw 0) 0 E (uD.oU [1,0]) (λ_ ach=>(au E E (aK ((St.hblk ach (memT 7 E dZ _ Z)).cell E)))) ?_;refine ak (v:=pV kn 0) 1 E (uD.oU [1,0]) (λ_ aa9=>(au E E (aK ((St.hblk aa9 (memT 7 E dZ _ J)).cell E)))) ?_;refine aL 4 ?_;refine ak (v:=.agg #[D 1,D ((n:Nat):Int),D (-1),D 0,D 0,D 0,D 0,D 0,D 0,D 0,D 0,D 0,D 0,.slice none 0 0,.bool false,D 0,D x.l.num,D a.code,D a.fG,D a.hno,D a.body,D (-1),D 0]) 6 E (uD.oU [1,0]) (λ_ _=>gG) ?_;refine aY 7 ?_;refine kD 7 E eQ (gV (x:=⟨lX n x.l.num a nowhere,none,0⟩) uD Y) ?_;rintro _ w41 ⟨rfl,A37,c38,atT,an4,Cx⟩;refine⟨_,E,?_⟩;refine aL 2 ?_;refine bU (l':=[]) trivial (oP ?_);have tQ:=Cx.aO [8,7];have Fw:=tQ.eG [6,6,3,3,6,6,6];exact⟨E,λ_=>⟨A22,c23,aBl,A37,c38,atT,aBm,an4,Fw⟩,λh=>absurd (by unfold serves;omega) h⟩
 refine zN 3 ?_;by_cases h45:y.b.role=2
 ·refine zN 6 ?_;refine vv (au E E (aK ((St.hblk I (memT 9 E dZ _ Z)).cell E))) ?_;refine vv (au E E (aK ((St.hblk I (memT 9 E dZ _ J)).cell E))) ?_;refine vv (au E E (aK ((St.hblk I (memT 9 E dZ _ GI)).cell E))) ?_;refine zQ ?_;refine vv (au E E (dS (cs:=[D x.l.op.kind,D x.l.op.producer,D x.l.op.id,D x.l.op.body,D x.l.op.aN,D x.l.op.hno]) (λj u hj=>(St.hblk I (memT 9 E dZ _ O)).cell (Xd j u hj)))) ?_;refine zN 2 ?_;refine vv (au E E (aK ((St.hblk I (memT 9 E dZ _ O)).cell E))) ?_;have wP:=I.eG [8,8,8,8,8,8,8];refine dO eQ (nP hn hq hy x.l.op a x.l.num wP Y) ?_;rintro _ w51 ⟨rfl,MU,c48,an5,ahX,o8⟩;refine⟨_,E,?_⟩;refine zN 2 ?_;have Cv:=o8.eG [4,4];have uH:=Cv.drew;refine aJ 8 uH [1,0] ?_;refine ak (v:=pV kw 0) 0 E (uH.oU [1,0]) (λ_ an6=>(au E E (aK ((St.hblk an6 (memT 7 E dZ _ Z)).cell E)))) ?_;refine ak (v:=pV kn 0) 1 E (uH.oU [1,0]) (λ_ acd=>(au E E (aK ((St.hblk acd (memT 7 E dZ _ J)).cell E)))) ?_;refine aL 4 ?_;refine ak (v:=.agg #[D 1,D ((n:Nat):Int),D (-1),D 0,D 0,D 0,D 0,D 0,D 0,D 0,D 0,D 0,D 0,.slice none 0 0,.bool false,D 0,D x.l.num,D a.code,D a.fG,D a.hno,D a.body,D (-1),D 0]) 6 E (uH.oU [1,0]) (λ_ _=>gG) ?_;refine aY 7 ?_;refine kD 7 E eQ (gV (x:=⟨lX n x.l.num a nowhere,none,0⟩) uH Y) ?_;rintro _ VQ ⟨rfl,A62,c63,aBn,aBo,uy⟩;refine⟨_,E,?_⟩;refine aL 2 ?_;refine bU (l':=[]) trivial (oP ?_);have Cy:=uy.aO [8,7];have Ak:=Cy.eG [6,6,3,3,6,6,6];exact⟨E,λ_=>⟨MU,c48,an5,A62,c63,aBn,ahX,aBo,Ak⟩,λh=>absurd (by unfold serves;omega) h⟩
 refine zN 5 ?_;have M:=I.drew;refine fK 8 6 M [] ?_;refine gk (v:=pV kn 0) 0 E M (λ_ aBp=>(au E E (aK ((St.hblk aBp (memT 9 E dZ _ J)).cell E)))) ?_;refine gk (v:=D ((q:Nat):Int)) 1 E M (λ_ aBq=>(au E E (aK ((St.hblk aBq (memT 9 E dZ _ GI)).cell E)))) ?_;iterate 2 refine gU ?_
 refine gk (v:=pV kn (5+q*2)) 4 E M (λ_ _=>(bJ E E E (fE q underlying28 kQ E hq))) ?_;refine gk (v:=.agg #[D ((Hh q).node),D ((Hh q).epoch)]) 5 E M (λ_ an7=>(au E E (dS (cs:=[D ((Hh q).node),D ((Hh q).epoch)]) (St.rg 2 an7 E (akO hq))))) ?_;refine fu kQ E E E ?_;refine zQ ?_;refine jF (row':= #[D x.l.num,D a.code,D a.fG,D a.hno,D a.body,D ((Hh q).node),D ((Hh q).epoch)]) 0 M kQ ?_;intro w77 JD;refine zQ ?_;refine iX ?_;refine zQ ?_;have Dn:=JD.eG [6,6];have BK:=Dn.drew;refine aJ 8 BK [1,0] ?_;refine ak (v:=pV kw 0) 0 E (BK.oU [1,0]) (λ_ aBr=>(au E E (aK ((St.hblk aBr (memT 7 E dZ _ Z)).cell E)))) ?_;refine ak (v:=pV kn 0) 1 E (BK.oU [1,0]) (λ_ aBs=>(au E E (aK ((St.hblk aBs (memT 7 E dZ _ J)).cell E)))) ?_;refine aL 4 ?_;refine ak (v:=.agg #[D 1,D ((n:Nat):Int),D (-1),D 0,D 0,D 0,D 0,D 0,D 0,D 0,D 0,D 0,D 0,.slice none 0 0,.bool false,D 0,D x.l.num,D a.code,D a.fG,D a.hno,D a.body,D ((Hh q).node),D ((Hh q).epoch)]) 6 E (BK.oU [1,0]) (λ_ _=>gG) ?_;refine aY 7 ?_;refine kD 7 E eQ (gV (x:=⟨lX n x.l.num a (Hh q),none,0⟩) BK Y) ?_;rintro _ w92 ⟨rfl,A88,c89,aBt,aBu,Dq⟩;refine⟨_,E,?_⟩;refine aL 2 ?_;refine bU (l':=[]) trivial (oP ?_);have Hu:=Dq.aO [3,2];have K6:=Hu.eG [6,6,3,3,6,6,6];exact⟨E,λh=>absurd h (by unfold serves;omega),λ_=>⟨A88,c89,aBt,aBu,K6⟩⟩
end
section
open ChangeShapes WideShapes ChangeAt RowKit
section
variable {K:CK}{B n q:Nat}{w0 w w':World}{fs N Ls L:List Fact}{m m':Cl}{H H':List LX}{R:CX}{X X':Nd}{z z':NX}
def xq {b:aQ}(h:aj b=0): -2<=b.ep/\b.ep<=2000000:=by
 have h1:=(eP h).1;unfold aZ at h1;omega
def dY.at_ (h:dY K L n X z)(J:q<4):∃y,z.bx[q]? =some y/\y.b=X.bs q/\BS L y:=by
 have M:z.bx.length=4:=by have:=congrArg length h.Rn;simpa[vB]using this
 refine⟨z.bx[q],getElem?_eq_getElem Y,?_,h.Tv _ (getElem_mem _)⟩;have h1:(z.bx.map BX.b)[q]? =some (z.bx[q]).b:=by rw[getElem?_map,getElem?_eq_getElem Y];rfl
 rw[h.Rn]at h1;have I:q=0\/q=1\/q=2\/q=3:=Y
 rcases I with rfl|rfl|rfl|rfl<;>(simp only[vB]at h1;exact(Option.some.inj h1).symm)
def Jc {bx:List BX}{f:Nat->aQ}{y:BX}(h:bx.map BX.b=vB f)(I:q<4):(bx.set q y).map BX.b=vB (upd f q y.b):=by rw[map_set,h,VY I]
def Ej {bx:List BX}{y:BX}(h:∀u∈bx,BS L u)(I:BS L y):∀u∈bx.set q y,BS L u:=λu J=>by
 rcases mem_or_eq_of_mem_set J with h1|h1
 ·exact h u h1
 rw[h1];exact I
def CX.go (R:CX)(n:Nat)(z':NX)(fA:Option Addr)(fc:Nat)(fx:List LX)(sA:Option Addr)(sc:Nat)(tA:Option Addr)(tc:Nat)(N:List Fact):CX:=
 {R with nx:=upd R.nx n z',fA:=fA,fc:=fc,fx:=fx,sA:=sA,sc:=sc,tA:=tA,tc:=tc,L:=R.L++N}
def Wd.fin {fA sA tA:Option Addr}{fc sc tc kn kw:Nat}{fx:List LX}{rr:List Fact}(M:K.nb n=kn)(O:K.wb=kw)(Z:gD K R m fs n=rr)(G:Good K R m H)(hn:n<5)
  (S:St B w0 w' (DI kn n X' z'++(DJ kw (R.go n z' fA fc fx sA sc tA tc (N++Ls)) m'++(Ls++(rr++N)))))
  (hX:dY K (R.L++(N++Ls)) n X' z') (hf:∀u∈fx,u∈R.fx\/Rl (R.L++(N++Ls)) u) (h1:m'.ah=upd m.ah n X') (h2:m'.fly=fx.map LX.l) (hH:∀u∈H',u∈H\/Rl (R.L++(N++Ls)) u):Wd K B w0 w' fs m' H':=by
 subst M;subst O;subst Z;have I:∀f∈R.L,f∈R.L++(N++Ls):=λf h=>mem_append_left _ h;have ez:(R.go n z' fA fc fx sA sc tA tc (N++Ls)).nx n=z':=upd_same _ _ _;have eX:m'.ah n=X':=by rw[h1];exact upd_same _ _ _
 refine Wd.close (n:=n) (R:=R) (m:=m) (N:=N) (Ls:=Ls) (R':=R.go n z' fA fc fx sA sc tA tc (N++Ls)) ?_ (by rw[ez,eX];exact S) hn E ?_
 ·refine⟨h2.symm,λu hu=>(hf u hu).elim (λh=>(G.flo u h).mono I) id,λj J=>?_,G.arr.mono I,λu hu=>(hH u hu).elim (λh=>(G.hld u h).mono I) id⟩;by_cases e:j=n
  ·subst e;rw[ez,eX];exact hX
  rw[h1,upd_ne e]
  show dY K _ j _ (upd R.nx n z' j)
  rw[upd_ne e];exact(G.iE j J).mono I
 intro j _ J;exact⟨by rw[h1,upd_ne J],upd_ne J⟩
def Wd.dP {fA sA tA:Option Addr}{fc sc tc kn kw:Nat}{fx:List LX}{rr:List Fact}(h:K.nb n=kn)(I:K.wb=kw)(J:gD K R m fs n=rr)(G:Good K R m H)(hn:n<5)
  (S:St B w0 w' (DI kn n X' z'++(DJ kw (R.go n z' fA fc fx sA sc tA tc Ls) m'++(Ls++rr))))
  (M:dY K (R.L++Ls) n X' z') (O:∀u∈fx,u∈R.fx\/Rl (R.L++Ls) u) (h1:m'.ah=upd m.ah n X') (Z:m'.fly=fx.map LX.l) (hH:∀u∈H',u∈H\/Rl (R.L++Ls) u):Wd K B w0 w' fs m' H':=
 Wd.fin (N:=[]) h I J G hn (by rw[append_nil];exact S) M O h1 Z hH
def dY.more (h:dY K L n X z):dY K (L++N) n X z:=h.mono λ_ I=>mem_append_left _ I
def dY.hear {hs:Nat->Pl}{su:Nat->Bool}(h:dY K L n X z):dY K L n {X with hints:=hs,sure:=su} z:=⟨h.Rn,h.Tv,h.xV,h.ixm,h.ixo,h.lF⟩
def mH {x:LX}{P:LX->Prop}:∀u∈H,u∈x::H\/P u:=λ_ h=>.inl (mem_cons_of_mem _ h)
def oW {fx:List LX}{x:LX}{P:LX->Prop}(I:P x):∀u∈fx++[x],u∈fx\/P u:=λu J=>(mem_append.1 J).elim .inl λh=>by rw[mem_singleton]at h;subst h;exact .inr I
def iW {l:bG}{c:Nat}(h:l.evs=[]):Rl L ⟨l,none,c⟩:=by
 unfold Rl GH;dsimp only;rw[h];exact⟨Ro.none_,zero_le _⟩
def rW {f:Fact}(h:f∈Ls):f∈L++(N++Ls):=mem_append_right _ (mem_append_right _ h)
def mLN:∀f∈L++N,f∈L++(N++Ls):=λf h=>by rw[<-append_assoc];exact mem_append_left _ h
end
section
variable {m:Cl}{n q:Nat}{X:Nd}{b:aQ}{op:Ev}{num:Int}{a:iR}{l:bG}{d:List UInt8}
def EP (I:m.ah n=X)(J:X.bs q=b)(h:serves b):m.done n q op num a={m with aV:=m.aV++[⟨n,q,b.ep,op,a,num⟩],shown:=iw m.shown n q (b.ep,b.evs.length),fly:=m.fly++[lX n num a nowhere]}:=by
 subst I;subst J;unfold Cl.done;rw[if_pos h];rfl
def Jd (I:m.ah n=X)(J:X.bs q=b)(h:¬serves b):m.done n q op num a={m with fly:=m.fly++[lX n num a (X.hints q)]}:=by
 subst I;subst J;unfold Cl.done;rw[if_neg h];rfl
def agI {SR:aQ×iR×Bool×Int}(I:m.ah n=X)(J:X.bs l.q=b)(M:gL b l.op=SR)(h:SR.2.2.1=false):m.serve n l=m.done n l.q l.op l.num SR.2.1:=by
 subst I;subst J;subst M;unfold Cl.serve;rw[if_pos h]
def Yz {SR:aQ×iR×Bool×Int}(I:m.ah n=X)(J:X.bs l.q=b)(M:gL b l.op=SR)(h:SR.2.2.1=true)(hw:fB X.data X.syn [fH 2 l.q SR.1.ep 0 l.op]=none):m.serve n l=m.done n l.q l.op l.num (sw 14):=by
 subst I;subst J;subst M;unfold Cl.serve Nd.write;rw[if_neg (by rw[h];simp),hw];rfl
def agJ {SR:aQ×iR×Bool×Int}(I:m.ah n=X)(J:X.bs l.q=b)(M:gL b l.op=SR)(h:SR.2.2.1=true)(hw:fB X.data X.syn [fH 2 l.q SR.1.ep 0 l.op]=some d):
  m.serve n l=m.put n {X with data:=d,pend:=some (.serve l.q SR.1.evs l.op l.num SR.2.1)}:=by
 subst I;subst J;subst M;unfold Cl.serve Nd.write;rw[if_neg (by rw[h];simp),hw];rfl
def YA {BR:aQ×Int}(I:m.ah n=X)(J:X.bs l.q=b)(M:dn b l.ep l.fr=BR)(h:BR.2≠0):m.offered n l=m:=by
 subst I;subst J;subst M;unfold Cl.offered;rw[if_pos h]
def Rq {BR:aQ×Int}(I:m.ah n=X)(J:X.bs l.q=b)(M:dn b l.ep l.fr=BR)(h:BR.2=0)(O:BR.1.ep=b.ep):m.offered n l={m with fly:=m.fly++[oh n l.q b]}:=by
 subst I;subst J;subst M;unfold Cl.offered;rw[if_neg (λe=>e h),if_pos O];rfl
def Rs {BR:aQ×Int}(I:m.ah n=X)(J:X.bs l.q=b)(M:dn b l.ep l.fr=BR)(h:BR.2=0)(O:BR.1.ep≠b.ep)(hw:fB X.data X.syn [fH 4 l.q BR.1.ep l.fr aH]=none):m.offered n l=m:=by
 subst I;subst J;subst M;unfold Cl.offered Nd.write;rw[if_neg (λe=>e h),if_neg O,hw];rfl
def YB {BR:aQ×Int}(I:m.ah n=X)(J:X.bs l.q=b)(M:dn b l.ep l.fr=BR)(h:BR.2=0)(O:BR.1.ep≠b.ep)(hw:fB X.data X.syn [fH 4 l.q BR.1.ep l.fr aH]=some d):
  m.offered n l=m.put n {X with data:=d,pend:=some (.begun l.q BR.1)}:=by
 subst I;subst J;subst M;unfold Cl.offered Nd.write;rw[if_neg (λe=>e h),if_neg O,hw];rfl
def OE (I:m.ah n=X)(J:X.bs l.q=b)(h:b.tg≠l.fr\/b.ep+1≠l.ep):m.caught n l=m:=by
 subst I;subst J;unfold Cl.caught;rw[if_pos h]
def YC {BR:aQ×Int}(I:m.ah n=X)(J:X.bs l.q=b)(M:bE b l.at_=BR)(h1:¬(b.tg≠l.fr\/b.ep+1≠l.ep))(h:BR.2≠0):m.caught n l=m:=by
 subst I;subst J;subst M;unfold Cl.caught;rw[if_neg h1,if_pos h]
def Vl {BR:aQ×Int}(I:m.ah n=X)(J:X.bs l.q=b)(M:bE b l.at_=BR)(h1:¬(b.tg≠l.fr\/b.ep+1≠l.ep))(h:BR.2=0)(O:BR.1.role=b.role):
  m.caught n l={ (m.put n {X with bs:=upd X.bs l.q BR.1})with fly:=lq n l.q BR.1 l.at_ m.fly}:=by
 subst I;subst J;subst M;unfold Cl.caught;rw[if_neg h1,if_neg (λe=>e h),if_pos O];have e:((m.aA n l.q (bE ((m.ah n).bs l.q) l.at_).1).ah n).bs l.q=(bE ((m.ah n).bs l.q) l.at_).1:=by
  unfold Cl.aA Cl.put;dsimp only;rw[upd_same];exact upd_same _ _ _
 unfold Cl.part lq;rw[e]
 split
 ·rfl
 rfl
def Vm {BR:aQ×Int}(I:m.ah n=X)(J:X.bs l.q=b)(M:bE b l.at_=BR)(h1:¬(b.tg≠l.fr\/b.ep+1≠l.ep))(h:BR.2=0)(O:BR.1.role≠b.role)(hw:fB X.data X.syn [fH 3 l.q BR.1.ep BR.1.tg aH]=none):m.caught n l=m:=by
 subst I;subst J;subst M;unfold Cl.caught Nd.write;rw[if_neg h1,if_neg (λe=>e h),if_neg O,hw];rfl
def acj {BR:aQ×Int}(I:m.ah n=X)(J:X.bs l.q=b)(M:bE b l.at_=BR)(h1:¬(b.tg≠l.fr\/b.ep+1≠l.ep))(h:BR.2=0)(O:BR.1.role≠b.role)(hw:fB X.data X.syn [fH 3 l.q BR.1.ep BR.1.tg aH]=some d):
  m.caught n l=m.put n {X with data:=d,pend:=some (.fF l.q BR.1 l.at_)}:=by
 subst I;subst J;subst M;unfold Cl.caught Nd.write;rw[if_neg h1,if_neg (λe=>e h),if_neg O,hw];rfl
def aeU (I:m.ah n=X)(J:X.bs l.q=b)(h:b.role≠4\/b.fr≠l.fr):m.got n l=m:=by
 subst I;subst J;unfold Cl.got;rw[if_pos h]
def agK {BR:aQ×Int}(I:m.ah n=X)(J:X.bs l.q=b)(M:cu b l.ep l.at_ l.evs l.last=BR)(h1:¬(b.role≠4\/b.fr≠l.fr))(h:BR.2=2):m.got n l={m with fly:=m.fly++[oh n l.q b]}:=by
 subst I;subst J;subst M;unfold Cl.got;rw[if_neg h1,if_pos h];rfl
def Tw {BR:aQ×Int}(I:m.ah n=X)(J:X.bs l.q=b)(M:cu b l.ep l.at_ l.evs l.last=BR)(h1:¬(b.role≠4\/b.fr≠l.fr))(h:BR.2≠2)(O:BR.2≠0\/BR.1.evs.length=b.evs.length):m.got n l=m:=by
 subst I;subst J;subst M;unfold Cl.got;rw[if_neg h1,if_neg h,if_pos O]
def Tx {BR:aQ×Int}(I:m.ah n=X)(J:X.bs l.q=b)(M:cu b l.ep l.at_ l.evs l.last=BR)(h1:¬(b.role≠4\/b.fr≠l.fr))(h:BR.2≠2)(O:¬(BR.2≠0\/BR.1.evs.length=b.evs.length))
  (hw:fB X.data X.syn (p8 l.q BR.1 b.evs.length (l.at_.toNat+l.evs.length) l.last)=none):m.got n l=m:=by
 subst I;subst J;subst M;unfold Cl.got Nd.write;rw[if_neg h1,if_neg h,if_neg O,hw];rfl
def aeV {BR:aQ×Int}(I:m.ah n=X)(J:X.bs l.q=b)(M:cu b l.ep l.at_ l.evs l.last=BR)(h1:¬(b.role≠4\/b.fr≠l.fr))(h:BR.2≠2)(O:¬(BR.2≠0\/BR.1.evs.length=b.evs.length))
  (hw:fB X.data X.syn (p8 l.q BR.1 b.evs.length (l.at_.toNat+l.evs.length) l.last)=some d):m.got n l=m.put n {X with data:=d,pend:=some (.got l.q BR.1 l.last)}:=by
 subst I;subst J;subst M;unfold Cl.got Nd.write;rw[if_neg h1,if_neg h,if_neg O,hw];rfl
def acn {BR:aQ×Int}(I:m.ah n=X)(J:X.bs l.q=b)(M:fP b l.ep=BR)(h:BR.2≠0):m.learnt n l=m.put n (X.hear n l):=by
 subst I;subst J;subst M;unfold Cl.learnt;rw[if_pos h]
def Vn {BR:aQ×Int}(J:m.ah n=X)(M:X.bs l.q=b)(O:fP b l.ep=BR)(h:BR.2=0)(hw:fB X.data X.syn [fH 7 l.q b.ep 0 aH]=none):m.learnt n l=m.put n (X.hear n l):=by
 subst J;subst M;subst O;unfold Cl.learnt Nd.write;rw[if_neg (λe=>e h)];have I:fB ((m.ah n).hear n l).data ((m.ah n).hear n l).syn [fH 7 l.q ((m.ah n).bs l.q).ep 0 aH]=none:=hw;rw[I];rfl
def aco {BR:aQ×Int}(J:m.ah n=X)(M:X.bs l.q=b)(O:fP b l.ep=BR)(h:BR.2=0)(hw:fB X.data X.syn [fH 7 l.q b.ep 0 aH]=some d):
  m.learnt n l=m.put n { (X.hear n l)with data:=d,pend:=some (.forget l.q BR.1)}:=by
 subst J;subst M;subst O;unfold Cl.learnt Nd.write;rw[if_neg (λe=>e h)];have I:fB ((m.ah n).hear n l).data ((m.ah n).hear n l).syn [fH 7 l.q ((m.ah n).bs l.q).ep 0 aH]=some d:=hw;rw[I];rfl
end
end
section
open ChangeShapes WideShapes RowKit
section
variable {xo yo:Operand}{w:World}{f:Fn}{xs ys:Array Value}
def amB {d:Nat}:(Op.equalIn (d+1) 103 (.func f xs ys) .nilFunc).run prog w=.ok false w:=by
 unfold Op.equalIn;simp[underlying103]
def amC {d:Nat}:(Op.equalIn (d+1) 103 .nilFunc .nilFunc).run prog w=.ok true w:=by
 unfold Op.equalIn;simp[underlying103]
def xu:(do eqGuard .neq 103 xo yo (.func f xs ys) .nilFunc;binOp .neq 103 (.func f xs ys) .nilFunc:Sem Value).run prog w=.ok (.bool true) w:=by
 have h1:(eqGuard .neq 103 xo yo (.func f xs ys) .nilFunc)=pure ():=by unfold eqGuard;rfl
 have h:binOp .neq 103 (.func f xs ys) .nilFunc=(do let b<-Op.equalIn (9999+1) 103 (.func f xs ys) .nilFunc;pure (.bool (!b))):=by unfold binOp;rfl
 rw[h1,h];simp[amB]
def Ki:(do eqGuard .neq 103 xo yo .nilFunc .nilFunc;binOp .neq 103 .nilFunc .nilFunc:Sem Value).run prog w=.ok (.bool false) w:=by
 have h1:(eqGuard .neq 103 xo yo .nilFunc .nilFunc)=pure ():=by unfold eqGuard;rfl
 have h:binOp .neq 103 .nilFunc .nilFunc=(do let b<-Op.equalIn (9999+1) 103 .nilFunc .nilFunc;pure (.bool (!b))):=by unfold binOp;rfl
 rw[h1,h];simp[amC]
def Kj:(do eqGuard .eql 103 xo yo (.func f xs ys) .nilFunc;binOp .eql 103 (.func f xs ys) .nilFunc:Sem Value).run prog w=.ok (.bool false) w:=by
 have h1:(eqGuard .eql 103 xo yo (.func f xs ys) .nilFunc)=pure ():=by unfold eqGuard;rfl
 have h:binOp .eql 103 (.func f xs ys) .nilFunc=(do let b<-Op.equalIn (9999+1) 103 (.func f xs ys) .nilFunc;pure (.bool b)):=by unfold binOp;rfl
 rw[h1,h];simp[amB]
def Tz:(do eqGuard .eql 103 xo yo .nilFunc .nilFunc;binOp .eql 103 .nilFunc .nilFunc:Sem Value).run prog w=.ok (.bool true) w:=by
 have h1:(eqGuard .eql 103 xo yo .nilFunc .nilFunc)=pure ():=by unfold eqGuard;rfl
 have h:binOp .eql 103 .nilFunc .nilFunc=(do let b<-Op.equalIn (9999+1) 103 .nilFunc .nilFunc;pure (.bool b)):=by unfold binOp;rfl
 rw[h1,h];simp[amC]
end
def bO.fit:bO->Prop
 | .serve q evs _ _ _=>q<4/\evs.length<=2000
 | .begun q _=>q<4
 | .got q _ _=>q<4
 | .fF q b _=>q<4/\aj b=0
 | .forget q _=>q<4
noncomputable def Cl.more (w:Cl)(n:Nat):Cl:=if (w.ah n).pend=none then Cl.drain n (w.ah n).inbox w else w
def Nd.box (X:Nd)(r:List bG):Nd:={X with inbox:=r}
section
variable {m:Cl}{n q:Nat}{X:Nd}{b b':aQ}
def qR {α:Type}(f:Nat->α)(k:Nat)(u v:α):upd (upd f k u) k v=upd f k v:=by
 funext j
 unfold upd
 split<;>rfl
def BU (h:(m.ah n).pend≠none):m.more n=m:=if_neg h
def Kk (h:(m.ah n).inbox=[]):m.more n=m:=by
 unfold Cl.more;rw[h]
 split<;>rfl
def GJ {l:bG}{r:List bG}(h:(m.ah n).pend=none)(h1:(m.ah n).inbox=l::r)(I:l.q<4):m.more n=((m.put n ((m.ah n).box r)).handle n l).more n:=by
 show m.more n=((m.put n {m.ah n with inbox:=r}).handle n l).more n
 have e:=(jV (m:=m.put n {m.ah n with inbox:=r}) (n:=n) (l:=l) I).iO;rw[show(m.put n {m.ah n with inbox:=r}).ah n={m.ah n with inbox:=r}from upd_same _ _ _]at e;unfold Cl.more;rw[if_pos h,h1,Cl.drain,e]
def mG (h:(m.ah n).up=false):m.step n=m:=if_pos h
def jq (h:(m.ah n).up=true)(h1:(m.ah n).pend=none):m.step n=if ((m.more n).ah n).pend=none then(m.more n).jU n else m.more n:=by
 unfold Cl.step;rw[if_neg (by rw[h];simp),h1];unfold Cl.more;rw[if_pos h1]
def Nd.jC (X:Nd):Nd:={X with syn:=X.data.length,pend:=none}
def Nd.aA (X:Nd)(q:Nat)(b:aQ):Nd:={X with bs:=upd X.bs q b}
def uT (X:Nd)(q:Nat)(b:aQ):(m.put n X).aA n q b=m.put n (X.aA q b):=by
 unfold Cl.aA Cl.put;dsimp only;rw[upd_same,qR];rfl
def ru {p:bO}(h:m.ah n=X)(I:X.up=true)(J:X.pend=some p):m.step n=(m.put n X.jC).xS n p:=by
 subst h;unfold Cl.step;rw[if_neg (by rw[I];simp),J];rfl
def aW (X:Nd):(m.put n X).ah n=X:=upd_same _ _ _
def jr {evs:List Ev}{op:Ev}{num:Int}{a:iR}(h:m.ah n=X)(I:X.up=true)(J:X.pend=some (.serve q evs op num a))(M:X.bs q=b)(hs:serves b):
  m.step n={ (m.put n (X.jC.aA q {b with evs:=evs}))with aV:=m.aV++[⟨n,q,b.ep,op,a,num⟩],shown:=iw m.shown n q (b.ep,evs.length),fly:=m.fly++[lX n num a nowhere]}:=by
 rw[ru h I J]
 show((m.put n X.jC).aA n q { ((m.put n X.jC).ah n).bs q with evs:=evs}).done n q op num a=_
 rw[aW,uT,show X.jC.bs q=b from M];rw[EP (b:={b with evs:=evs}) (aW _) (upd_same _ _ _) hs];rfl
def Na {evs:List Ev}{op:Ev}{num:Int}{a:iR}(h:m.ah n=X)(I:X.up=true)(J:X.pend=some (.serve q evs op num a))(M:X.bs q=b)(hs:¬serves b):
  m.step n={ (m.put n (X.jC.aA q {b with evs:=evs}))with fly:=m.fly++[lX n num a (X.hints q)]}:=by
 rw[ru h I J]
 show((m.put n X.jC).aA n q { ((m.put n X.jC).ah n).bs q with evs:=evs}).done n q op num a=_
 rw[aW,uT,show X.jC.bs q=b from M];rw[Jd (b:={b with evs:=evs}) (aW _) (upd_same _ _ _) hs];rfl
def nH (h:m.ah n=X)(I:X.up=true)(J:X.pend=some (.begun q b)):m.step n={ (m.put n (X.jC.aA q b))with fly:=m.fly++[oh n q b]}:=by
 rw[ru h I J]
 show((m.put n X.jC).aA n q b).have_ n q=_
 rw[uT];unfold Cl.have_ Cl.send;rw[aW,show(X.jC.aA q b).bs q=b from upd_same _ _ _];rfl
def jT (h:m.ah n=X)(I:X.up=true)(J:X.pend=some (.got q b true)):
  m.step n={ (m.put n { (X.jC.aA q b)with sure:=upd X.sure q false})with aV:=m.aV++[⟨n,q,b.ep,aF,eT,-1⟩],shown:=iw m.shown n q (b.ep,b.evs.length)}:=by
 rw[ru h I J];unfold Cl.xS;dsimp only;rw[if_pos E,uT];simp only[aW];unfold Cl.tell Cl.put;dsimp only;rw[qR,upd_same]
 show({m with ah:=_,aV:=m.aV++[⟨n,q,((X.jC.aA q b).bs q).ep,aF,eT,-1⟩],shown:=iw m.shown n q (((X.jC.aA q b).bs q).ep,((X.jC.aA q b).bs q).evs.length)}:Cl)=_
 rw[show(X.jC.aA q b).bs q=b from upd_same _ _ _];rfl
def rX (h:m.ah n=X)(I:X.up=true)(J:X.pend=some (.got q b false)):m.step n={ (m.put n (X.jC.aA q b))with fly:=m.fly++[oh n q b]}:=by
 rw[ru h I J];unfold Cl.xS;dsimp only;rw[if_neg iQ,uT];unfold Cl.have_ Cl.send;rw[aW,show(X.jC.aA q b).bs q=b from upd_same _ _ _];rfl
def pU {at_:Int}(h:m.ah n=X)(I:X.up=true)(J:X.pend=some (.fF q b at_)):m.step n={ (m.put n (X.jC.aA q b))with fly:=lq n q b at_ m.fly}:=by
 rw[ru h I J]
 show((m.put n X.jC).aA n q b).part n q at_=_
 rw[uT];unfold Cl.part Cl.send lq;rw[aW,show(X.jC.aA q b).bs q=b from upd_same _ _ _]
 split
 ·rfl
 rfl
def lY (h:m.ah n=X)(I:X.up=true)(J:X.pend=some (.forget q b)):m.step n=m.put n (X.jC.aA q b):=by
 rw[ru h I J]
 show(m.put n X.jC).aA n q b=_
 rw[uT]
end
def akP {P:Program}{t e:TypeId}{A:Option Addr}{n c s:Nat}(k:Nat)(J:P.underlying t=some (.slice e))(I:(P.info? e).map (·.size)=some s)(M:k<=n)(w:World):
  (Instr.sliceAt t (.slice A n c) (some (.int .i64 ((k:Nat):Int))) none none).run P w=.ok (.slice (if c=k then A else A.map (·.add (k*s))) (n-k) (c-k)) w:=by
 obtain⟨z,O,hs⟩:∃z,P.info? e=some z/\z.size=s:=by
  cases h:P.info? e with
  |none=>simp[h]at I
  |some z=>exact⟨z,E,by simpa[h]using I⟩
 have h1:(sizeOf e).run P w=.ok s w:=by simp[sizeOf,typeInfo,O,hs,Sem.run_bind,Result.andThen]
 have Z:=λw=>ahB (P:=P) (n:=n) (c:=c) (kd:=.i64) k E M w;simp[Instr.sliceAt,Instr.slice,run_underlying J,Sem.run_bind,Result.andThen,Z,h1]
section
variable {K:CK}{B n:Nat}{w0 w w':World}{fs gs:List Fact}{m:Cl}{H:List LX}
def Wd.on (h:Wd K B w0 w fs m H)(I:Below w.heap.size w w'):Wd K B w0 w' fs m H:=by
 obtain⟨R,G,S⟩:=h;exact⟨R,G,S.on I⟩
def Wd.ext (h:Wd K B w0 w fs m H)(T:St w.heap.size w w' gs)(I:gs.all Fact.Io=true):Wd K B w0 w' (gs++fs) m H:=by
 obtain⟨R,G,S⟩:=h;refine⟨R,G,?_⟩;have:=S.ext T I;rwa [<-append_assoc]at this
def Wd.Ii (h:Wd K B w0 w (gs++fs) m H):St B w0 w gs:=by
 obtain⟨R,_,S⟩:=h;exact S.sub (by rw[append_assoc];exact sublist_append_left _ _)
def Wd.less (h:Wd K B w0 w (gs++fs) m H):Wd K B w0 w fs m H:=by
 obtain⟨R,G,S⟩:=h;exact⟨R,G,S.sub (by rw[append_assoc];exact sublist_append_right _ _)⟩
def Wd.drew (h:Wd K B w0 w fs m H):Wd K B w0 w.drew fs m H:=by
 obtain⟨R,G,S⟩:=h;exact⟨R,G,S.drew⟩
end
def Vo {K:CK} {B n kn kw:Nat} {w0 w:World} {fs:List Fact} {m:Cl} {H:List LX} {x:LX} (hn:n<5) (hkn:K.nb n=kn) (iC:K.wb=kw) (hu:Uk B w0) (hB1:m.fly.length<=1000000000) (hB2:m.aV.length<=1000000000000) (HW:Wd K B w0 w fs m (x::H)) (hq:x.l.q<4) (hv: ∀ q,q<4->aj ((m.ah n).bs q)=0):
    Calls tP 64 #[pV kw 0,pV kn 0,.agg (LX.row x)] w (λe w'=>e=.returned (.tuple #[])/\Wd K B w0 w' fs (m.serve n x.l) H):=by
 obtain⟨R,G,S0⟩:=HW.open hn;have hfl:R.fx.length=m.fly.length:=by rw[<-G.fly,length_map]
 have NG:=G.iE n hn;obtain⟨X,hX⟩:∃X,m.ah n=X:=⟨_,E⟩;obtain⟨z,hz⟩:∃z,R.nx n=z:=⟨_,E⟩;rw[hX,hz]at S0 NG;have hL:∀f∈R.L,f∈gD K R m fs n:=λf h=>mem_append_right _ (mem_append_right _ h);obtain⟨rr,hrr⟩:∃r,gD K R m fs n=r:=⟨_,E⟩;rw[hrr]at S0 hL;have S:St B w0 w (cN kn n X z z.pv (cF kw R m rr)):=by subst hkn;subst iC;exact S0
 clear S0 HW;have hlen:=(S.own 1 E).1;rw[iG (sz:=6) (λ_=>E)]at hlen;rw[hX]at hv;obtain⟨y,hy,hyb,qD⟩:=NG.at_ hq;have hln:=kF (jB (hyb▸hv _ hq));have yX:y.b.evs.length*48<=reachBytes:=by unfold reachBytes;omega
 have Me:=xq (hyb▸hv _ hq);refine gK 54 func64 ?_;refine cw [0,1,2] ?_;refine zN 2 ?_;refine VN S ?_;intro b1 w2 S3;refine VN S3 ?_;intro b4 w5 S6;refine iP S6 ?_;intro b7 w8 S9;refine zN 6 ?_;refine gB S9 zr3 ?_;intro I Ht oF;refine jF (row':= #[D ((x.l.q:Nat):Int)]) 0 oF kQ ?_;intro Ea mX;refine zN 2 ?_;obtain⟨SR,hSR⟩:∃r,gL y.b x.l.op=r:=⟨_,E⟩;have HP:=λw h=>U8 y.b.role y.b.ep y.b.fr y.b.tg y.b.rd y.A y.c y.b.evs x.l.op w h yX;rw[show gL ⟨y.b.role,y.b.ep,y.b.fr,y.b.tg,y.b.rd,y.b.evs⟩ x.l.op=SR from hSR]at HP;refine ny (X:=Nat×Nat×(Option Addr)×Nat) (λxv=>[(3,pV b1 0),(4,pV b4 0),(5,pV b7 0),(6,pV I 0),(7,pV xv.1 0),(8,pV xv.2.1 0),(9,.bool SR.2.2.1)]) (λxv wr=>(SR.1.evs.length<=xv.2.2.2)/\St B w0 wr ((.blk xv.2.1 #[D SR.2.1.code,D SR.2.1.fG,D SR.2.1.hno,D SR.2.1.body] 54)::(.blk xv.1 (bR SR.1 xv.2.2.1 xv.2.2.2) 42)::(.cK 6 xv.2.2.1 SR.1.evs.length ((SR.1.evs).flatMap Ev.cells))::(.blk I #[D ((x.l.q:Nat):Int)] 3)::(.blk b7 (LX.row x) 119)::(.blk b4 #[pV kn 0] 98)::(.blk b1 #[pV kw 0] 87)::(cN kn n X z z.pv (cF kw R m rr)))) ?_ ?_
 ·have jh:=mX.drew;refine aJ 21 jh [] ?_;refine aL 5 ?_;refine ak 5 E jh (λ_ _=>kZ x.l.q) ?_;refine ak (v:=.agg (bR y.b y.A y.c)) 6 E jh (λ_ Gt=>(au E E (dS (cs:=BX.cells y) (Rd.yB (St.ord 5 Gt E) (λ_ _ h=>dh (enc:=BX.cells) (sz:=6) (λ_=>E) hy h))))) ?_;refine dR ?_;refine ak (v:=.agg #[D x.l.op.kind,D x.l.op.producer,D x.l.op.id,D x.l.op.body,D x.l.op.aN,D x.l.op.hno]) 8 E jh (λ_ aBv=>(au E E (dS (cs:=[D x.l.op.kind,D x.l.op.producer,D x.l.op.id,D x.l.op.body,D x.l.op.aN,D x.l.op.hno]) (St.rg 1 aBv E (Xd))))) ?_;refine Sq (n:=11) (r:=9) (s:=15) (t:=16) kQ ?_ ?_ ?_
  ·refine kD 9 E eQ (HP _ (qD.1.rd jh (memT 11 E hL))) ?_;rintro _ Zu ⟨A25,c26,amD,rfl,T30⟩;refine⟨_,E,?_⟩;have uD:=jh.ext T30 E;refine aL 6 ?_;refine iB (n:=5) (r:=15) (s:=16) kQ ?_ ?_
   ·refine lU 15 E uD gu ?_;intro MS ZE yC;refine dR ?_;refine aY 16 ?_;refine lU 16 E yC sV ?_;intro b39 w40 Gp;refine dR ?_;refine aY 17 ?_;refine sn 17 E 1 Gp kQ ?_;intro VO tQ;refine dR ?_;refine aY 18 ?_;refine sn 18 E 0 tQ kQ ?_;intro QK qC;refine aL 4 ?_;refine dL (MS,b39,A25,c26) ?_ Dj;exact⟨amD,qC⟩
   refine lU 16 E uD sV ?_;intro ZI w49 xL;refine dR ?_;refine aY 15 ?_;refine lU 15 E xL gu ?_;intro b51 w52 Cv;refine dR ?_;refine aY 17 ?_;refine sn 17 E 0 Cv kQ ?_;intro w54 vU;refine dR ?_;refine aY 18 ?_;refine sn 18 E 1 vU kQ ?_;intro w56 vJ;refine aL 4 ?_;have VT:=vJ.eG [13,13,13,13,13,13,13,13,13,13,13,13,12,13];refine dL (b51,ZI,A25,c26) ?_ Dj;exact⟨amD,VT⟩
  ·refine lU 15 E jh gu ?_;intro b61 Zx wO;refine dR ?_;refine iB (n:=10) (r:=9) (s:=16) kQ ?_ ?_
   ·refine kD 9 E eQ (HP _ (qD.1.rd wO (memT 12 E hL))) ?_;rintro _ w67 ⟨A64,c65,awf,rfl,T69⟩;refine⟨_,E,?_⟩;have Cy:=wO.ext T69 E;refine aL 6 ?_;refine aY 16 ?_;refine lU 16 E Cy sV ?_;intro b75 w76 Fv;refine dR ?_;refine aY 17 ?_;refine sn 17 E 2 Fv kQ ?_;intro w78 Dn;refine dR ?_;refine aY 18 ?_;refine sn 18 E 0 Dn kQ ?_;intro w80 vK;refine aL 4 ?_;have Fx:=vK.eG [13,13,13,13,13,13,13,13,13,13,13,12,13,13];refine dL (b61,b75,A64,c65) ?_ Dj;exact⟨awf,Fx⟩
   refine lU 16 E wO sV ?_;intro b85 w86 Gv;refine dR ?_;refine aY 9 ?_;refine kD 9 E eQ (HP _ (qD.1.rd Gv (memT 13 E hL))) ?_;rintro _ w91 ⟨A88,c89,amv,rfl,T93⟩;refine⟨_,E,?_⟩;have zm:=Gv.ext T93 E;refine aL 6 ?_;refine aY 17 ?_;refine sn 17 E 2 zm kQ ?_;intro w99 wm;refine dR ?_;refine aY 18 ?_;refine sn 18 E 1 wm kQ ?_;intro asI tq;refine aL 4 ?_;have sF:=tq.eG [13,13,13,13,13,13,13,13,13,13,13,11,13,13];refine dL (b61,b85,A88,c89) ?_ Dj;exact⟨amv,sF⟩
  refine lU 16 E jh sV ?_;intro ahO azL vD;refine dR ?_;refine iB (n:=10) (r:=9) (s:=15) kQ ?_ ?_
  ·refine kD 9 E eQ (HP _ (qD.1.rd vD (memT 12 E hL))) ?_;rintro _ abo ⟨Ob,Sb,aqW,rfl,aBw⟩;refine⟨_,E,?_⟩;have vE:=vD.ext aBw E;refine aL 6 ?_;refine aY 15 ?_;refine lU 15 E vE gu ?_;intro aBx abL CV;refine dR ?_;refine aY 17 ?_;refine sn 17 E 0 CV kQ ?_;intro aAI Oc;refine dR ?_;refine aY 18 ?_;refine sn 18 E 2 Oc kQ ?_;intro anG xM;refine aL 4 ?_;have zU:=xM.eG [13,13,13,13,13,13,13,13,13,13,13,12,12,13];refine dL (aBx,ahO,Ob,Sb) ?_ Dj;exact⟨aqW,zU⟩
  refine lU 15 E vD gu ?_;intro ahY ahG yH;refine dR ?_;refine aY 9 ?_;refine kD 9 E eQ (HP _ (qD.1.rd yH (memT 13 E hL))) ?_;rintro _ abp ⟨aBy,aBz,aqX,rfl,an8⟩;refine⟨_,E,?_⟩;have ED:=yH.ext an8 E;refine aL 6 ?_;refine aY 17 ?_;refine sn 17 E 1 ED kQ ?_;intro ahH LP;refine dR ?_;refine aY 18 ?_;refine sn 18 E 2 LP kQ ?_;intro aJT RX;refine aL 4 ?_;have acp:=RX.eG [13,13,13,13,13,13,13,13,13,13,13,11,12,13];refine dL (ahY,ahO,aBy,aBz) ?_ Dj;exact⟨aqX,acp⟩
 rintro⟨M,O,J,c154⟩ aBA ⟨hx157,abI⟩
 try dsimp only at hx157 abI
 refine bH (l':=[(3,pV b1 0),(4,pV b4 0),(5,pV b7 0),(6,pV I 0),(7,pV M 0),(8,pV O 0),(9,.bool SR.2.2.1)]) Dj (aM (av (vv (v:=.func (.func 87) #[] #[pV b7 0,pV b4 0,pV I 0,pV b1 0]) (KP (vs:=[]) (us:=[pV b7 0,pV b4 0,pV I 0,pV b1 0]) E trivial jW) ?_)));refine gB abI avL ?_;intro Z asA NT;refine jF (row':= #[.func (.func 87) #[] #[pV b7 0,pV b4 0,pV I 0,pV b1 0]]) 0 NT kQ ?_;intro azP IX;refine zN 6 ?_
 cases aFS:(SR.2.2.1)
 ·refine zN 8 ?_;have Xe:=IX.eG [14,14,14,14,14,14,14];refine wh eQ (DK (b6:=b7) (b2:=b4) (b3:=I) (b7:=b1) hn hq hy x SR.2.1 Xe (mem_iff_getElem?.2 ⟨5,E⟩) (mem_iff_getElem?.2 ⟨6,E⟩) (mem_iff_getElem?.2 ⟨4,E⟩) (mem_iff_getElem?.2 ⟨7,E⟩) hu Y Y) ?_;rintro _ aJU ⟨rfl,awg,hd167⟩;refine⟨_,E,?_⟩;refine zQ ?_;refine bU (l':=[]) trivial (dF (oD (ig (dX (rs:=[]) (vs:=[]) E trivial ?_))));have hch:SR.2.2.1=false:=by assumption
  rw[agI hX hyb.symm hSR hch];by_cases hs:serves y.b
  ·obtain⟨sA,sc,sv,fA,fc,fx,h1,h2,S9⟩:=awg hs;subst h1;subst h2;rw[EP hX hyb.symm hs];exact⟨E,Wd.dP (X':=X) (z':=z) (Ls:=[.blk Z #[.func (.func 87) #[] #[pV b7 0,pV b4 0,pV I 0,pV b1 0]] 190,.blk O #[D SR.2.1.code,D SR.2.1.fG,D SR.2.1.hno,D SR.2.1.body] 54,.blk M (bR SR.1 J c154) 42,.cK 6 J SR.1.evs.length ((SR.1.evs).flatMap Ev.cells),.blk I #[D ((x.l.q:Nat):Int)] 3,.blk b7 (LX.row x) 119,.blk b4 #[pV kn 0] 98,.blk b1 #[pV kw 0] 87]) (sA:=sA) (sc:=sc) (tA:=R.tA) (tc:=R.tc) hkn iC hrr G hn S9 NG.more (oW (iW E)) (aC hX).symm (by rw[map_append,G.fly];rfl) mH⟩
  obtain⟨fA,fc,fx,h2,S9⟩:=hd167 hs;subst h2;rw[Jd hX hyb.symm hs];exact⟨E,Wd.dP (X':=X) (z':=z) (Ls:=[.blk Z #[.func (.func 87) #[] #[pV b7 0,pV b4 0,pV I 0,pV b1 0]] 190,.blk O #[D SR.2.1.code,D SR.2.1.fG,D SR.2.1.hno,D SR.2.1.body] 54,.blk M (bR SR.1 J c154) 42,.cK 6 J SR.1.evs.length ((SR.1.evs).flatMap Ev.cells),.blk I #[D ((x.l.q:Nat):Int)] 3,.blk b7 (LX.row x) 119,.blk b4 #[pV kn 0] 98,.blk b1 #[pV kw 0] 87]) (sA:=R.sA) (sc:=R.sc) (tA:=R.tA) (tc:=R.tc) hkn iC hrr G hn S9 NG.more (oW (iW E)) (aC hX).symm (by rw[map_append,G.fly];rfl) mH⟩
 refine zN 10 ?_;refine cab eQ IX (ji 2 x.l.q ⟨SR.1,J,c154⟩ _) ?_;intro anv LU;refine gB LU wY ?_;intro an9 anQ WY;refine sa 0 WY kQ ?_;intro aAC WS;refine zN 5 ?_;refine vv (au E E (dS (cs:=[D x.l.op.kind,D x.l.op.producer,D x.l.op.id,D x.l.op.body,D x.l.op.aN,D x.l.op.hno]) (St.rg 6 WS E (Xd)))) ?_;refine zQ ?_;refine jF (row':= #[D 2,D ((x.l.q:Nat):Int),D SR.1.ep,D 0,D x.l.op.kind,D x.l.op.producer,D x.l.op.id,D x.l.op.body,D x.l.op.aN,D x.l.op.hno]) 0 WS kQ ?_;intro aJV aBB;refine zN 7 ?_;refine Sy aBB ?_;intro acr aBC abJ;have abK:=abJ.eG [16,16,16,16,16,16,16];refine dO eQ (qb (rs:=[fH 2 x.l.q SR.1.ep 0 x.l.op]) (Ro.blk (mem_iff_getElem?.2 ⟨0,E⟩) E E) NG.xV (by exact memT 10 E hL) (le_of_ble_eq_true E) abK) ?_;rintro _ aJW (⟨adV,rfl,aoa⟩|⟨amE,atU,atV,aBD,adV,rfl,aqY,aoa⟩)
 ·refine⟨_,E,?_⟩;refine zN 7 ?_;refine vv (v:=.agg #[D 14,D 0,D 0,D 0]) gG ?_;refine wh eQ (DK (b6:=b7) (b2:=b4) (b3:=I) (b7:=b1) hn hq hy x (sw 14) aoa (mem_iff_getElem?.2 ⟨7,E⟩) (mem_iff_getElem?.2 ⟨8,E⟩) (mem_iff_getElem?.2 ⟨6,E⟩) (mem_iff_getElem?.2 ⟨9,E⟩) hu Y Y) ?_;rintro _ aAK ⟨rfl,awh,awi⟩;refine⟨_,E,?_⟩;refine zQ ?_;refine bU (l':=[]) trivial (dF (oD (ig (dX (rs:=[]) (vs:=[]) E trivial ?_))));have hch:SR.2.2.1=true:=by assumption
  rw[Yz hX hyb.symm hSR hch adV];by_cases hs:serves y.b
  ·obtain⟨sA,sc,sv,fA,fc,fx,h1,h2,S9⟩:=awh hs;subst h1;subst h2;rw[EP hX hyb.symm hs];exact⟨E,Wd.dP (X':=X) (z':=z) (Ls:=[.blk acr #[D 2,D ((x.l.q:Nat):Int),D SR.1.ep,D 0,D x.l.op.kind,D x.l.op.producer,D x.l.op.id,D x.l.op.body,D x.l.op.aN,D x.l.op.hno] 138,.blk an9 #[D 2,D ((x.l.q:Nat):Int),D SR.1.ep,D 0,D x.l.op.kind,D x.l.op.producer,D x.l.op.id,D x.l.op.body,D x.l.op.aN,D x.l.op.hno] 138,.blk Z #[.func (.func 87) #[] #[pV b7 0,pV b4 0,pV I 0,pV b1 0]] 190,.blk O #[D SR.2.1.code,D SR.2.1.fG,D SR.2.1.hno,D SR.2.1.body] 54,.blk M (bR SR.1 J c154) 42,.cK 6 J SR.1.evs.length ((SR.1.evs).flatMap Ev.cells),.blk I #[D ((x.l.q:Nat):Int)] 3,.blk b7 (LX.row x) 119,.blk b4 #[pV kn 0] 98,.blk b1 #[pV kw 0] 87]) (sA:=sA) (sc:=sc) (tA:=R.tA) (tc:=R.tc) hkn iC hrr G hn S9 NG.more (oW (iW E)) (aC hX).symm (by rw[map_append,G.fly];rfl) mH⟩
  obtain⟨fA,fc,fx,h2,S9⟩:=awi hs;subst h2;rw[Jd hX hyb.symm hs];exact⟨E,Wd.dP (X':=X) (z':=z) (Ls:=[.blk acr #[D 2,D ((x.l.q:Nat):Int),D SR.1.ep,D 0,D x.l.op.kind,D x.l.op.producer,D x.l.op.id,D x.l.op.body,D x.l.op.aN,D x.l.op.hno] 138,.blk an9 #[D 2,D ((x.l.q:Nat):Int),D SR.1.ep,D 0,D x.l.op.kind,D x.l.op.producer,D x.l.op.id,D x.l.op.body,D x.l.op.aN,D x.l.op.hno] 138,.blk Z #[.func (.func 87) #[] #[pV b7 0,pV b4 0,pV I 0,pV b1 0]] 190,.blk O #[D SR.2.1.code,D SR.2.1.fG,D SR.2.1.hno,D SR.2.1.body] 54,.blk M (bR SR.1 J c154) 42,.cK 6 J SR.1.evs.length ((SR.1.evs).flatMap Ev.cells),.blk I #[D ((x.l.q:Nat):Int)] 3,.blk b7 (LX.row x) 119,.blk b4 #[pV kn 0] 98,.blk b1 #[pV kw 0] 87]) (sA:=R.sA) (sc:=R.sc) (tA:=R.tA) (tc:=R.tc) hkn iC hrr G hn S9 NG.more (oW (iW E)) (aC hX).symm (by rw[map_append,G.fly];rfl) mH⟩
 refine⟨_,E,?_⟩;refine zN 8 ?_;refine vv Jz ?_;refine zN 2 ?_;refine jF (row':=dM n X.up (.slice atU amE.length atV) X.syn (.slice (aD z.bb 0) 4 4) X.hints X.sure (.slice z.iA z.ix.length z.ic) (.func (.func 88) #[] #[pV M 0,pV b4 0,pV I 0,pV Z 0,pV O 0]) X.turn) 0 aoa kQ ?_;intro aBE R9;refine zQ ?_;refine bU (l':=[]) trivial (oP ?_);have hch:SR.2.2.1=true:=by assumption
 rw[agJ hX hyb.symm hSR hch adV];refine⟨E,Wd.fin (X':={X with data:=amE,pend:=some (.serve x.l.q SR.1.evs x.l.op x.l.num SR.2.1)}) (z':={z with tA:=atU,tc:=atV,pv:=.func (.func 88) #[] #[pV M 0,pV b4 0,pV I 0,pV Z 0,pV O 0]}) (N:=aBD) (Ls:=[.blk acr #[D 2,D ((x.l.q:Nat):Int),D SR.1.ep,D 0,D x.l.op.kind,D x.l.op.producer,D x.l.op.id,D x.l.op.body,D x.l.op.aN,D x.l.op.hno] 138,.blk an9 #[D 2,D ((x.l.q:Nat):Int),D SR.1.ep,D 0,D x.l.op.kind,D x.l.op.producer,D x.l.op.id,D x.l.op.body,D x.l.op.aN,D x.l.op.hno] 138,.blk Z #[.func (.func 87) #[] #[pV b7 0,pV b4 0,pV I 0,pV b1 0]] 190,.blk O #[D SR.2.1.code,D SR.2.1.fG,D SR.2.1.hno,D SR.2.1.body] 54,.blk M (bR SR.1 J c154) 42,.cK 6 J SR.1.evs.length ((SR.1.evs).flatMap Ev.cells),.blk I #[D ((x.l.q:Nat):Int)] 3,.blk b7 (LX.row x) 119,.blk b4 #[pV kn 0] 98,.blk b1 #[pV kw 0] 87]) (fA:=R.fA) (fc:=R.fc) (fx:=R.fx) (sA:=R.sA) (sc:=R.sc) (tA:=R.tA) (tc:=R.tc) hkn iC hrr G hn R9 ?_ (λu hu=>.inl hu) E G.fly.symm mH⟩;refine{ (NG.more:dY K _ n X z)with xV:=aqY.mono mLN,lF:=?_ }
 show p9 (K.nb n) K.wb _ _ _
 rw[hkn,iC];exact⟨M,b4,I,Z,O,b7,b1,⟨SR.1,J,c154⟩,x,E,(rW (mem_iff_getElem?.2 ⟨4,E⟩)),E,⟨Ro.cK (rW (mem_iff_getElem?.2 ⟨5,E⟩)),hx157⟩,(rW (mem_iff_getElem?.2 ⟨8,E⟩)),(rW (mem_iff_getElem?.2 ⟨6,E⟩)),(rW (mem_iff_getElem?.2 ⟨2,E⟩)),(rW (mem_iff_getElem?.2 ⟨3,E⟩)),(rW (mem_iff_getElem?.2 ⟨7,E⟩)),E,E,(rW (mem_iff_getElem?.2 ⟨9,E⟩))⟩
def FK {B kn kw bb n turn calls Z ic fc sc tc:Nat}{up:Bool}{I iA fA sA tA:Option Addr}{data:List UInt8}{syn:Int}{Hh:Nat->Pl}{Us:Nat->Bool}{pv nv:Value}{d:Dir}{sh:Nat->Nat->Int×Int}{bs:List BX}{ix fx:List LX}{aV:List jH}{tl:List wS}{w0 w:World}{fs:List Fact}{L:List Fact}{rs:List cB}{RA:Option Addr}{rc:Nat}(hw:fB data syn rs=none)(J:Ro fs 10 RA rs.length (rs.flatMap cB.cells))(M:Ro L 1 I data.length (byteCells data))(hL:∀f∈L,f∈fs)(O:rs.length<=1000000)(S:St B w0 w (nF kn n up I data Z syn bb Hh Us iA ix ic pv turn bs (wF kw nv d fA fx fc sh sA aV sc tA tl tc calls fs))):
  Calls tP 44 #[pV kn 0,.slice RA rs.length rc] w (λe w'=>e=.returned (.bool false)/\St B w0 w' (nF kn n up I data Z syn bb Hh Us iA ix ic pv turn bs (wF kw nv d fA fx fc sh sA aV sc tA tl tc calls fs))):=(qb (rc:=rc) J M hL O S).mono λe w' h=>h.elim (λh=>h.2) λ⟨_,_,_,_,h,_⟩=>by rw[hw]at h;cases h
def FL {B kn kw bb n turn calls Z ic fc sc tc:Nat}{up:Bool}{O iA fA sA tA:Option Addr}{data:List UInt8}{syn:Int}{Hh:Nat->Pl}{Us:Nat->Bool}{pv nv:Value}{d:Dir}{sh:Nat->Nat->Int×Int}{bs:List BX}{ix fx:List LX}{aV:List jH}{tl:List wS}{w0 w:World}{fs:List Fact}{d':List UInt8}{L:List Fact}{rs:List cB}{RA:Option Addr}{rc:Nat}(hw:fB data syn rs=some d')(I:Ro fs 10 RA rs.length (rs.flatMap cB.cells))(J:Ro L 1 O data.length (byteCells data))(hL:∀f∈L,f∈fs)(M:rs.length<=1000000)(S:St B w0 w (nF kn n up O data Z syn bb Hh Us iA ix ic pv turn bs (wF kw nv d fA fx fc sh sA aV sc tA tl tc calls fs))):
  Calls tP 44 #[pV kn 0,.slice RA rs.length rc] w (λe w'=> ∃A' c' N,e=.returned (.bool true)/\Ro (L++N) 1 A' d'.length (byteCells d')/\St B w0 w' (nF kn n up A' d' c' syn bb Hh Us iA ix ic pv turn bs (wF kw nv d fA fx fc sh sA aV sc tA tl tc calls (fs++N)))):=(qb (rc:=rc) I J hL M S).mono λe w' h=>h.elim (λh=>by rw[hw]at h;cases h.1) λ⟨d2,A',c',N,h,h1,h2,h3⟩=>by
 rw[hw]at h
 cases h;exact⟨A',c',N,h1,h2,h3⟩
def P8 {X:Nd}{n:Nat}{l:bG}{b:aQ}{hs:Nat->Pl}{su:Nat->Bool}(h:X.bs l.q=b)(h1:hs=if (X.hints l.q).epoch<l.ep then upd X.hints l.q ⟨l.nd,l.ep⟩else X.hints)(I:su=if l.nd=n/\b.ep=l.ep then upd X.sure l.q true else X.sure):X.hear n l={X with hints:=hs,sure:=su}:=by
 subst h;subst h1;subst I;rfl
def Nb {K:CK} {B n kn kw:Nat} {w0 w:World} {fs:List Fact} {m:Cl} {H:List LX} {x:LX} (hn:n<5) (hkn:K.nb n=kn) (iC:K.wb=kw) (hu:Uk B w0) (hB1:m.fly.length<=1000000000) (hB2:m.aV.length<=1000000000000) (HW:Wd K B w0 w fs m (x::H)) (hq:x.l.q<4) (hv: ∀ q,q<4->aj ((m.ah n).bs q)=0):
    Calls tP 68 #[pV kw 0,pV kn 0,.agg (LX.row x)] w (λe w'=>e=.returned (.tuple #[])/\Wd K B w0 w' fs (m.learnt n x.l) H):=by
 obtain⟨R,G,S0⟩:=HW.open hn;have hfl:R.fx.length=m.fly.length:=by rw[<-G.fly,length_map]
 have NG:=G.iE n hn;obtain⟨X,hX⟩:∃X,m.ah n=X:=⟨_,E⟩;obtain⟨z,hz⟩:∃z,R.nx n=z:=⟨_,E⟩;rw[hX,hz]at S0 NG;have hL:∀f∈R.L,f∈gD K R m fs n:=λf h=>mem_append_right _ (mem_append_right _ h);obtain⟨rr,hrr⟩:∃r,gD K R m fs n=r:=⟨_,E⟩;rw[hrr]at S0 hL;have S:St B w0 w (cN kn n X z z.pv (cF kw R m rr)):=by subst hkn;subst iC;exact S0
 clear S0 HW;have hlen:=(S.own 1 E).1;rw[iG (sz:=6) (λ_=>E)]at hlen;rw[hX]at hv;obtain⟨y,hy,Z,qD⟩:=NG.at_ hq;have hln:=kF (jB (Z▸hv _ hq));have yX:y.b.evs.length*48<=reachBytes:=by unfold reachBytes;omega
 have Me:=xq (Z▸hv _ hq);refine gK 80 func68 ?_;refine cw [0,1,2] ?_;refine zN 2 ?_;refine VN S ?_;intro b1 w2 S3;refine iP S3 ?_;intro b4 w5 S6;refine zN 6 ?_;refine gB S6 zr3 ?_;intro b7 w8 S9;refine jF (row':= #[D ((x.l.q:Nat):Int)]) 0 S9 kQ ?_;intro w10 Cw;refine zN 2 ?_;obtain⟨hs,hhs⟩:∃f,f=if (X.hints x.l.q).epoch<x.l.ep then upd X.hints x.l.q ⟨x.l.nd,x.l.ep⟩else X.hints:=⟨_,E⟩
 refine ny (X:=Unit) (λ_=>[(4,pV b1 0),(5,pV b4 0),(6,pV b7 0)]) (λ_ wr=>St B w0 wr ((.blk b7 #[D ((x.l.q:Nat):Int)] 3)::(.blk b4 (LX.row x) 119)::(.blk b1 #[pV kn 0] 98)::(nF kn n X.up z.tA X.data z.tc X.syn z.bb hs X.sure z.iA z.ix z.ic z.pv X.turn z.bx (cF kw R m rr)))) ?_ ?_
 ·refine zQ ?_;refine iD Cw mixed kQ ?_;refine zN 6 ?_;refine uv (v:=pV kn (5+x.l.q*2)) (λ_ _=>(bJ E E E (fE x.l.q underlying28 kQ E hq))) ?_;refine zQ ?_;refine uv (v:=D ((X.hints x.l.q).epoch)) (λ_ acs=>(au E E (aK (St.cl 3 acs E (P7 hq).2)))) ?_;refine uv (v:=.bool (decide ((X.hints x.l.q).epoch<x.l.ep))) (λ_ _=>bC E E E avb) ?_;refine iH λw22 uF=>?_;refine zQ ?_
  cases Oa:(decide ((X.hints x.l.q).epoch<x.l.ep))
  ·refine bH (l':=[(4,pV b1 0),(5,pV b4 0),(6,pV b7 0),(21,.bool false)]) jW (jm E (mo ?_));rw[if_neg (by simpa using(by assumption:decide ((X.hints x.l.q).epoch<x.l.ep)=false))]at hhs;subst hhs;refine dL () ?_ Fb;exact uF
  refine bH (l':=[(4,pV b1 0),(5,pV b4 0),(6,pV b7 0),(21,.bool true)]) jW (ku E ?_);have lC:=uF.drew;refine aJ 11 lC [3] ?_;refine aL 6 ?_;refine ak (v:=.agg #[D x.l.nd,D x.l.ep]) 6 E (St.del 3 lC) (λ_ _=>gG) ?_;refine aL 2 ?_;refine ak (v:=pV kn (5+x.l.q*2)) 9 E (St.del 3 lC) (λ_ _=>(bJ E E E (fE x.l.q underlying28 kQ E hq))) ?_;refine aY 10 ?_;refine um (i:=10) E E (cs:= #[D x.l.nd,D x.l.ep]) (row':=dM n X.up (.slice z.tA X.data.length z.tc) X.syn (.slice (aD z.bb 0) 4 4) (upd X.hints x.l.q (⟨x.l.nd,x.l.ep⟩:Pl)) X.sure (.slice z.iA z.ix.length z.ic) (z.pv) X.turn) (fs':=(_::_::_::(bN kn n X.up z.tA X.data z.tc X.syn z.bb (upd X.hints x.l.q (⟨x.l.nd,x.l.ep⟩:Pl)) X.sure z.iA z.ix z.ic z.pv X.turn)::_::_::_::_::_::_::rr)) 3 lC (wn E) E E E E E E Ml E (bP E) (by rw[show Array.size (dM _ _ _ _ _ _ _ _ _ _)=20 from E];omega) (Ei hq (p:=(⟨x.l.nd,x.l.ep⟩:Pl))) E ?_;intro w36 Dt;refine aL 2 ?_;rw[if_pos (by simpa using(by assumption:decide ((X.hints x.l.q).epoch<x.l.ep)=true))]at hhs;subst hhs;refine dL () ?_ Fb;exact Dt
 rintro _ w38 BI;refine bH (l':=[(4,pV b1 0),(5,pV b4 0),(6,pV b7 0)]) Fb (aM ?_);have wR:=BI.drew;refine fK 9 8 wR [] ?_;iterate 5 refine gU ?_
 refine gk 5 E wR (λ_ _=>kZ x.l.q) ?_;refine gk (v:=.agg (bR y.b y.A y.c)) 6 E wR (λ_ aBF=>(au E E (dS (cs:=BX.cells y) (Rd.yB (St.ord 4 aBF E) (λ_ _ h=>dh (enc:=BX.cells) (sz:=6) (λ_=>E) hy h))))) ?_;refine fC (m:=1) (r:=7) kQ ?_;refine mQ (i:=7) E E (V:=λb=>pV b 0) (row:=zB) (t:=42) wR (wn E) E E (iM E (zeroValue42 _) E) ?_;intro ZI w49 xL;refine gU ?_;refine fu kQ E E E ?_;refine sa 0 xL kQ ?_;intro w51 o8;refine zQ ?_;refine iX ?_;refine zQ ?_;obtain⟨su,O⟩:∃f,f=if x.l.nd=n/\y.b.ep=x.l.ep then upd X.sure x.l.q true else X.sure:=⟨_,E⟩
 refine ny (X:=Unit) (λ_=>[(4,pV b1 0),(5,pV b4 0),(6,pV b7 0),(7,pV ZI 0)]) (λ_ wr=>St B w0 wr ((.blk ZI (bR y.b y.A y.c) 42)::(.blk b7 #[D ((x.l.q:Nat):Int)] 3)::(.blk b4 (LX.row x) 119)::(.blk b1 #[pV kn 0] 98)::(nF kn n X.up z.tA X.data z.tc X.syn z.bb hs su z.iA z.ix z.ic z.pv X.turn z.bx (cF kw R m rr)))) ?_ ?_
 ·by_cases hN:x.l.nd=((n:Nat):Int)
  ·by_cases hE:y.b.ep=x.l.ep
   ·refine zQ ?_;refine iD o8 mixed kQ ?_;refine zN 14 ?_;refine iH λw67 Cy=>?_;refine zN 2 ?_;have Ak:=Cy.drew;refine aJ 6 Ak [4] ?_;refine aL 4 ?_;refine ak (v:=pV kn (13+x.l.q*1)) 4 E (St.del 4 Ak) (λ_ _=>(bJ E E E (fE x.l.q underlying102 kQ E hq))) ?_;refine aY 5 ?_;refine um (i:=5) E E (cs:= #[.bool true]) (row':=dM n X.up (.slice z.tA X.data.length z.tc) X.syn (.slice (aD z.bb 0) 4 4) hs (upd X.sure x.l.q true) (.slice z.iA z.ix.length z.ic) (z.pv) X.turn) (fs':=(_::_::_::_::(bN kn n X.up z.tA X.data z.tc X.syn z.bb hs (upd X.sure x.l.q true) z.iA z.ix z.ic z.pv X.turn)::_::_::_::_::_::_::rr)) 4 Ak (wn E) E E E E E E ang E (bP E) (by rw[show Array.size (dM _ _ _ _ _ _ _ _ _ _)=20 from E];omega) (ZN hq (v:=true)) E ?_;intro w75 MP;refine aL 2 ?_;rw[if_pos Y]at O;subst O;refine dL () ?_ jW;exact MP
   refine zQ ?_;refine iD o8 mixed kQ ?_;refine zN 14 ?_;refine iH λw91 zm=>?_;refine zN 3 ?_;rw[if_neg Y]at O;subst O;refine dL () ?_ jW;exact zm
  refine zQ ?_;refine iD o8 mixed kQ ?_;refine zN 14 ?_;refine iH λanF vF=>?_;refine zN 3 ?_;rw[if_neg Y]at O;subst O;refine dL () ?_ jW;exact vF
 rintro _ atn sF;refine bH (l':=[(4,pV b1 0),(5,pV b4 0),(6,pV b7 0),(7,pV ZI 0)]) jW (aM ?_);obtain⟨BR,qE⟩:∃r,fP y.b x.l.ep=r:=⟨_,E⟩;have HP:=λw h=>FC y.b.role y.b.ep y.b.fr y.b.tg y.b.rd y.A y.c y.b.evs x.l.ep w h yX;rw[show fP ⟨y.b.role,y.b.ep,y.b.fr,y.b.tg,y.b.rd,y.b.evs⟩ x.l.ep=BR from qE]at HP;refine zN 4 ?_;refine dO eQ (HP _ (qD.1.rd sF (memT 11 E hL))) ?_;rintro _ aa2 ⟨I,c107,aqZ,rfl,aBG⟩;refine⟨_,E,?_⟩;have qX:=sF.ext aBG E;refine zN 3 ?_;refine gB qX gu ?_;intro M anK EC;refine sa 0 EC kQ ?_;intro anV yL;refine zN 5 ?_;have zV:=yL.eG [12,12,12,12,12,12,12];by_cases hB:BR.2=0
 ·rcases Xf:fB X.data X.syn [fH 7 x.l.q y.b.ep 0 aH]with _|amF
  ·have uE:=zV.drew;refine aJ 11 uE [6,5,4,3,2,1,0] ?_;refine aL 6 ?_;refine aY 6 ?_;refine wW (i:=6) E E (wg E E E E) E E (jd (vs:=[D 7,D ((x.l.q:Nat):Int),.agg (bR y.b y.A y.c)]) E eQ Fb) (ji 7 x.l.q ⟨y.b,y.A,y.c⟩ _) ?_;rintro _ aa3 ⟨rfl,adW⟩;refine⟨_,E,?_⟩;have CU:=uE.on adW;refine dR ?_;refine aY 7 ?_;refine jZ (i:=7) E E (V:=λb=>.slice (aD b 0) 1 1) (row:= #[D 7,D ((x.l.q:Nat):Int),D y.b.ep,D 0,D 0,D 0,D 0,D 0,D 0,D 0]) (t:=138) CU (wg E E E E) E E (aP (vs:=[(0,.agg #[D 7,D ((x.l.q:Nat):Int),D y.b.ep,D 0,D 0,D 0,D 0,D 0,D 0,D 0])]) E xH kQ) ?_;intro ahY ahG yH;refine dR ?_;refine aY 8 ?_;have R8:=yH.eG [7,7,7,7,7,7,7];refine wW (i:=8) E E (wg E E E E) E E (jd (vs:=[pV kn 0,.slice (aD ahY 0) 1 1]) E eQ xH) (FK (rs:=[fH 7 x.l.q y.b.ep 0 aH]) Xf (Ro.blk (mem_iff_getElem?.2 ⟨0,E⟩) E E) NG.xV (by exact memT 7 E hL) (le_of_ble_eq_true E) R8) ?_;rintro _ az5 ⟨rfl,Gw⟩;refine⟨_,E,?_⟩;refine aL 4 ?_;refine zN 5 ?_;have J:X.hear n x.l={X with hints:=hs,sure:=su}:=P8 Z.symm hhs O;rw[Vn hX Z.symm qE (by first|assumption|omega) Xf,J];exact⟨E,Wd.dP (X':={X with hints:=hs,sure:=su}) (z':=z) (Ls:=[.blk ahY #[D 7,D ((x.l.q:Nat):Int),D y.b.ep,D 0,D 0,D 0,D 0,D 0,D 0,D 0] 138,.blk M (bR BR.1 I c107) 42,.cK 6 I BR.1.evs.length ((BR.1.evs).flatMap Ev.cells),.blk ZI (bR y.b y.A y.c) 42,.blk b7 #[D ((x.l.q:Nat):Int)] 3,.blk b4 (LX.row x) 119,.blk b1 #[pV kn 0] 98]) (fA:=R.fA) (fc:=R.fc) (fx:=R.fx) (sA:=R.sA) (sc:=R.sc) (tA:=R.tA) (tc:=R.tc) hkn iC hrr G hn Gw (dY.hear NG.more) (λu hu=>.inl hu) E G.fly.symm mH⟩
  have IV:=zV.drew;refine aJ 11 IV [6,5,4,3,2,1,0] ?_;refine aL 6 ?_;refine aY 6 ?_;refine wW (i:=6) E E (wg E E E E) E E (jd (vs:=[D 7,D ((x.l.q:Nat):Int),.agg (bR y.b y.A y.c)]) E eQ Fb) (ji 7 x.l.q ⟨y.b,y.A,y.c⟩ _) ?_;rintro _ aJX ⟨rfl,awj⟩;refine⟨_,E,?_⟩;have acp:=IV.on awj;refine dR ?_;refine aY 7 ?_;refine jZ (i:=7) E E (V:=λb=>.slice (aD b 0) 1 1) (row:= #[D 7,D ((x.l.q:Nat):Int),D y.b.ep,D 0,D 0,D 0,D 0,D 0,D 0,D 0]) (t:=138) acp (wg E E E E) E E (aP (vs:=[(0,.agg #[D 7,D ((x.l.q:Nat):Int),D y.b.ep,D 0,D 0,D 0,D 0,D 0,D 0,D 0])]) E xH kQ) ?_;intro atW atC Mf;refine dR ?_;refine aY 8 ?_;have aBH:=Mf.eG [7,7,7,7,7,7,7];refine wW (i:=8) E E (wg E E E E) E E (jd (vs:=[pV kn 0,.slice (aD atW 0) 1 1]) E eQ xH) (FL (rs:=[fH 7 x.l.q y.b.ep 0 aH]) Xf (Ro.blk (mem_iff_getElem?.2 ⟨0,E⟩) E E) NG.xV (by exact memT 7 E hL) (le_of_ble_eq_true E) aBH) ?_;rintro _ az2 ⟨atX,c157,aBI,rfl,aq0,abq⟩;refine⟨_,E,?_⟩;refine⟨(St.sub (abq.oU [7,6,5,4,3,2,1,0]) (Sublist.cons_cons _ (Sublist.cons_cons _ (Sublist.cons_cons _ (Sublist.cons_cons _ (Sublist.cons_cons _ (Sublist.cons_cons _ (sublist_append_left _ _)))))))),?_⟩;refine aL 3 ?_;refine zN 6 ?_;refine vv Jz ?_;refine zN 2 ?_;refine jF (row':=dM n X.up (.slice atX amF.length c157) X.syn (.slice (aD z.bb 0) 4 4) hs su (.slice z.iA z.ix.length z.ic) (.func (.func 98) #[] #[pV M 0,pV b1 0,pV b7 0]) X.turn) 0 abq kQ ?_;intro asP yJ;refine zQ ?_;refine bU (l':=[]) trivial (oP ?_);have J:X.hear n x.l={X with hints:=hs,sure:=su}:=P8 Z.symm hhs O;rw[aco hX Z.symm qE (by first|assumption|omega) Xf,J];refine⟨E,Wd.fin (X':={X with hints:=hs,sure:=su,data:=amF,pend:=some (.forget x.l.q BR.1)}) (z':={z with tA:=atX,tc:=c157,pv:=.func (.func 98) #[] #[pV M 0,pV b1 0,pV b7 0]}) (N:=aBI) (Ls:=[.blk atW #[D 7,D ((x.l.q:Nat):Int),D y.b.ep,D 0,D 0,D 0,D 0,D 0,D 0,D 0] 138,.blk M (bR BR.1 I c107) 42,.cK 6 I BR.1.evs.length ((BR.1.evs).flatMap Ev.cells),.blk ZI (bR y.b y.A y.c) 42,.blk b7 #[D ((x.l.q:Nat):Int)] 3,.blk b4 (LX.row x) 119,.blk b1 #[pV kn 0] 98]) (fA:=R.fA) (fc:=R.fc) (fx:=R.fx) (sA:=R.sA) (sc:=R.sc) (tA:=R.tA) (tc:=R.tc) hkn iC hrr G hn yJ ?_ (λu hu=>.inl hu) E G.fly.symm mH⟩;refine{ (dY.hear NG.more:dY K _ n {X with hints:=hs,sure:=su} z)with xV:=aq0.mono mLN,lF:=?_ }
  show p9 (K.nb n) K.wb _ _ _
  rw[hkn,iC];exact⟨M,b1,b7,⟨BR.1,I,c107⟩,E,(rW (mem_iff_getElem?.2 ⟨1,E⟩)),E,⟨(Ro.cK (rW (mem_iff_getElem?.2 ⟨2,E⟩))),aqZ⟩,(rW (mem_iff_getElem?.2 ⟨6,E⟩)),(rW (mem_iff_getElem?.2 ⟨4,E⟩))⟩
 have atY:=zV.drew;refine aJ 11 atY [] ?_;refine aL 12 ?_;refine zN 5 ?_;have J:X.hear n x.l={X with hints:=hs,sure:=su}:=P8 Z.symm hhs O;rw[acn hX Z.symm qE (by first|assumption|omega),J];exact⟨E,Wd.dP (X':={X with hints:=hs,sure:=su}) (z':=z) (Ls:=[.blk M (bR BR.1 I c107) 42,.cK 6 I BR.1.evs.length ((BR.1.evs).flatMap Ev.cells),.blk ZI (bR y.b y.A y.c) 42,.blk b7 #[D ((x.l.q:Nat):Int)] 3,.blk b4 (LX.row x) 119,.blk b1 #[pV kn 0] 98]) (fA:=R.fA) (fc:=R.fc) (fx:=R.fx) (sA:=R.sA) (sc:=R.sc) (tA:=R.tA) (tc:=R.tc) hkn iC hrr G hn atY (dY.hear NG.more) (λu hu=>.inl hu) E G.fly.symm mH⟩
def FM {B kn kw bb n turn calls Z ic fc sc tc:Nat}{up:Bool}{h iA fA sA tA:Option Addr}{data:List UInt8}{syn:Int}{Hh:Nat->Pl}{Us:Nat->Bool}{pv nv:Value}{d:Dir}{sh:Nat->Nat->Int×Int}{bs:List BX}{ix fx:List LX}{aV:List jH}{tl:List wS}{w0 w:World}{fs:List Fact}{L:List Fact}{rs:List cB}{RA:Option Addr}{rc nn:Nat}(I:nn=rs.length)(J:Ro fs 10 RA nn (rs.flatMap cB.cells))(M:Ro L 1 h data.length (byteCells data))(hL:∀f∈L,f∈fs)(O:nn<=1000000)(S:St B w0 w (nF kn n up h data Z syn bb Hh Us iA ix ic pv turn bs (wF kw nv d fA fx fc sh sA aV sc tA tl tc calls fs))):
  Calls tP 44 #[pV kn 0,.slice RA nn rc] w (λe w'=>(fB data syn rs=none/\e=.returned (.bool false)/\St B w0 w' (nF kn n up h data Z syn bb Hh Us iA ix ic pv turn bs (wF kw nv d fA fx fc sh sA aV sc tA tl tc calls fs)))\/ ∃d' A' c' N,fB data syn rs=some d'/\e=.returned (.bool true)/\Ro (L++N) 1 A' d'.length (byteCells d')/\St B w0 w' (nF kn n up A' d' c' syn bb Hh Us iA ix ic pv turn bs (wF kw nv d fA fx fc sh sA aV sc tA tl tc calls (fs++N)))):=by
 subst I;exact qb J M hL O S
def acu {b:aQ}{ep at_:Int}{l:List Ev}{last:Bool}{BR:aQ×Int}(hR:cu b ep at_ l last=BR)(h:aj b=0)(h1:BR.2=0)(I:¬BR.1.evs.length=b.evs.length):0<=at_/\b.evs.length<=at_.toNat+l.length/\at_.toNat+l.length<=BR.1.evs.length/\at_<=2000:=by
 have hl:=kF (jB h);subst hR;unfold cu at h1 I⊢;rw[if_neg (λe=>e h)]at h1 I⊢;by_cases c0:b.role≠4
 ·rw[if_pos c0]at h1;exact absurd h1 dQ
 rw[if_neg c0]at h1 I⊢;by_cases c1:b.ep≠ep
 ·rw[if_pos c1]at h1;exact absurd h1 dQ
 rw[if_neg c1]at h1 I⊢;by_cases c2:¬(0<=at_/\at_<=b.evs.length)
 ·rw[if_pos c2]at h1;exact absurd h1 dQ
 rw[if_neg c2]at h1 I⊢;by_cases c3:¬(b.evs.drop at_.toNat).take l.length=l.take (b.evs.length-at_.toNat)
 ·rw[if_pos c3]at h1;exact absurd h1 dQ
 rw[if_neg c3]at h1 I⊢;by_cases M:last=true/\at_.toNat+l.length<b.evs.length
 ·rw[if_pos M]at h1;exact absurd h1 dQ
 rw[if_neg M]at h1 I⊢;by_cases O:aj (if last=true then(⟨1,ep,0,0,0,b.evs++l.drop (b.evs.length-at_.toNat)++[aF]⟩:aQ)else{b with evs:=b.evs++l.drop (b.evs.length-at_.toNat)})≠0
 ·rw[if_pos O]at h1;exact absurd h1 dQ
 rw[if_neg O]at I⊢;have Z:(l.drop (b.evs.length-at_.toNat)).length=l.length-(b.evs.length-at_.toNat):=length_drop;by_cases J:last=true
 ·rw[if_pos J]at I⊢;have:¬(at_.toNat+l.length<b.evs.length):=λe=>M ⟨J,e⟩;simp only[length_append,Z,length_singleton]at I⊢;omega
 rw[if_neg J]at I⊢;simp only[length_append,Z]at I⊢;omega
def ER {q:Nat}{b:aQ}{k m m0 kk:Nat}{last:Bool}{G:List Ev}{h:List cB}(J:G=(b.evs.drop k).take m0)(M:m0=m-k)(I:h=(G.take kk).map (λx=>fH 5 q b.ep 0 x))(O:G.length<=kk):p8 q b k m last=h++(if last=true then[fH 6 q b.ep 0 aH]else[]):=by
 subst M;subst I;unfold p8;rw[take_of_length_le O,J,drop_take]
def YD {K:CK} {B n kn kw:Nat} {w0 w:World} {fs:List Fact} {m:Cl} {H:List LX} {x:LX} (hn:n<5) (hkn:K.nb n=kn) (iC:K.wb=kw) (hu:Uk B w0) (hB1:m.fly.length<=1000000000) (hB2:m.aV.length<=1000000000000) (HW:Wd K B w0 w fs m (x::H)) (hq:x.l.q<4) (hv: ∀ q,q<4->aj ((m.ah n).bs q)=0) (hxe:x.l.evs.length<=2000):
    Calls tP 67 #[pV kw 0,pV kn 0,.agg (LX.row x)] w (λe w'=>e=.returned (.tuple #[])/\Wd K B w0 w' fs (m.got n x.l) H):=by
 obtain⟨R,G,S0⟩:=HW.open hn;have hfl:R.fx.length=m.fly.length:=by rw[<-G.fly,length_map]
 have NG:=G.iE n hn;obtain⟨X,hX⟩:∃X,m.ah n=X:=⟨_,E⟩;obtain⟨z,hz⟩:∃z,R.nx n=z:=⟨_,E⟩;rw[hX,hz]at S0 NG;have hL:∀f∈R.L,f∈gD K R m fs n:=λf h=>mem_append_right _ (mem_append_right _ h);obtain⟨rr,hrr⟩:∃r,gD K R m fs n=r:=⟨_,E⟩;rw[hrr]at S0 hL;have S:St B w0 w (cN kn n X z z.pv (cF kw R m rr)):=by subst hkn;subst iC;exact S0
 clear S0 HW;have hlen:=(S.own 1 E).1;rw[iG (sz:=6) (λ_=>E)]at hlen;rw[hX]at hv;obtain⟨y,hy,hyb,qD⟩:=NG.at_ hq;have hln:=kF (jB (hyb▸hv _ hq));have yX:y.b.evs.length*48<=reachBytes:=by unfold reachBytes;omega
 have Me:=xq (hyb▸hv _ hq);have hxo:=G.hld x (mem_cons_self ..);have hbK:(x.l.evs.length+2001)*48<=reachBytes:=by unfold reachBytes;omega
 refine gK 108 func67 ?_;refine cw [0,1,2] ?_;refine zN 2 ?_;refine VN S ?_;intro b1 w2 S3;refine VN S3 ?_;intro b4 w5 S6;refine iP S6 ?_;intro b7 w8 S9;refine zN 6 ?_;refine gB S9 zr3 ?_;intro J Ht oF;refine jF (row':= #[D ((x.l.q:Nat):Int)]) 0 oF kQ ?_;intro Ea mX;refine zN 3 ?_;have jh:=mX.drew;refine fK 9 8 jh [] ?_;iterate 5 refine gU ?_
 refine gk 5 E jh (λ_ _=>kZ x.l.q) ?_;refine gk (v:=.agg (bR y.b y.A y.c)) 6 E jh (λ_ Gt=>(au E E (dS (cs:=BX.cells y) (Rd.yB (St.ord 5 Gt E) (λ_ _ h=>dh (enc:=BX.cells) (sz:=6) (λ_=>E) hy h))))) ?_;refine fC (m:=1) (r:=7) kQ ?_;refine mQ (i:=7) E E (V:=λb=>pV b 0) (row:=zB) (t:=42) jh (wn E) E E (iM E (zeroValue42 _) E) ?_;intro Ao NU lC;refine gU ?_;refine fu kQ E E E ?_;refine sa 0 lC kQ ?_;intro NP tT;refine zQ ?_;refine iX ?_;refine zN 6 ?_;by_cases h28:y.b.role=4
 ·refine zN 6 ?_;by_cases h29:y.b.fr=x.l.fr
  ·refine zN 8 ?_;obtain⟨BR,qE⟩:∃r,cu y.b x.l.ep x.l.at_ x.l.evs x.l.last=r:=⟨_,E⟩;have HP:=λw hK h=>FH y.b.role y.b.ep y.b.fr y.b.tg y.b.rd y.A y.c y.b.evs x.l.ep x.l.at_ x.A x.c x.l.evs x.l.last qD.2 hxo.2 w hK h yX hbK;rw[show cu ⟨y.b.role,y.b.ep,y.b.fr,y.b.tg,y.b.rd,y.b.evs⟩ x.l.ep x.l.at_ x.l.evs x.l.last=BR from qE]at HP;refine zN 10 ?_;refine dO eQ (HP _ (hxo.1.rd tT (memT 12 E hL)) (qD.1.rd tT (memT 12 E hL))) ?_;rintro _ w33 ⟨I,O,MB,rfl,T35⟩;refine⟨_,E,?_⟩;have qW:=tT.ext T35 E;refine zN 3 ?_;refine gB qW gu ?_;intro Z ZE yC;refine sa 0 yC kQ ?_;intro w39 wR;refine zN 7 ?_;by_cases h41:BR.2=2
   ·refine zN 9 ?_;have Cx:=wR.eG [13,13,13,13,13,13,13];refine dO eQ (yV hn hq hy Cx Y) ?_;rintro _ w47 ⟨rfl,A43,c44,aBJ,atZ,Al⟩;refine⟨_,E,?_⟩;refine zQ ?_;refine bU (l':=[]) trivial (dF (oD (ig (dX (rs:=[]) (vs:=[]) E trivial ?_))));rw[agK hX hyb.symm qE Y Y];exact⟨E,Wd.dP (X':=X) (z':=z) (Ls:=[.blk Z (bR BR.1 I O) 42,.cK 6 I BR.1.evs.length ((BR.1.evs).flatMap Ev.cells),.blk Ao (bR y.b y.A y.c) 42,.blk J #[D ((x.l.q:Nat):Int)] 3,.blk b7 (LX.row x) 119,.blk b4 #[pV kn 0] 98,.blk b1 #[pV kw 0] 87]) (fA:=A43) (fc:=c44) (fx:=aBJ) (sA:=R.sA) (sc:=R.sc) (tA:=R.tA) (tc:=R.tc) hkn iC hrr G hn Al NG.more (by rw[atZ];exact oW (iW E)) (aC hX).symm (by rw[atZ,map_append,G.fly];rfl) mH⟩
   refine zN 10 ?_;by_cases h49:BR.2=0
   ·refine zN 8 ?_;by_cases h50:((BR.1.evs.length:Nat):Int)=((y.b.evs.length:Nat):Int)
    ·refine zN 8 ?_;have vT:=wR.eG [13,13,13,13,13,13,13];rw[Tw hX hyb.symm qE Y Y Y];exact⟨E,Wd.dP (X':=X) (z':=z) (Ls:=[.blk Z (bR BR.1 I O) 42,.cK 6 I BR.1.evs.length ((BR.1.evs).flatMap Ev.cells),.blk Ao (bR y.b y.A y.c) 42,.blk J #[D ((x.l.q:Nat):Int)] 3,.blk b7 (LX.row x) 119,.blk b4 #[pV kn 0] 98,.blk b1 #[pV kw 0] 87]) (fA:=R.fA) (fc:=R.fc) (fx:=R.fx) (sA:=R.sA) (sc:=R.sc) (tA:=R.tA) (tc:=R.tc) hkn iC hrr G hn vT NG.more (λu hu=>.inl hu) (aC hX).symm G.fly.symm mH⟩
    refine zN 8 ?_;obtain⟨ha0,ha1,ha2,ha3⟩:=acu qE (hyb▸hv _ hq) Y Y;obtain⟨M,hM⟩:∃k,k=x.l.at_.toNat+x.l.evs.length:=⟨_,E⟩;rw[<-hM]at ha1 ha2;obtain⟨m0,hm0⟩:∃k,k=M-y.b.evs.length:=⟨_,E⟩;refine zQ ?_;have o8:=wR.nil 138 10;refine zN 10 ?_;refine vv (v:=D ((M:Nat):Int)) (bC E E E (Mk (z:=((M:Nat):Int)) Y Y)) ?_;refine zN 12 ?_;obtain⟨A2,hs2,hr2,_⟩:=Fj (P:=tP) (t:=40) (enc:=Ev.cells) (s:=6) (λ_=>E) (A:=I) (b:=BR.1.evs) (n:=BR.1.evs.length) (c:=O) (lo:=(some (D ((y.b.evs.length:Nat):Int)))) (hi:=(some (D ((M:Nat):Int)))) (mx:=none) (l:=y.b.evs.length) (k:=M) (q:=O) (m:=m0) (c':=O-y.b.evs.length) underlying40 kQ (WJ (y.b.evs.length) M E E Y Y) Y Y Y hm0.symm E;obtain⟨GE,hG⟩:∃g,g=(BR.1.evs.drop y.b.evs.length).take m0:=⟨_,E⟩;rw[<-hG]at hr2;have hGl:GE.length=m0:=by rw[hG,length_take,length_drop];omega
    refine vv (v:=.slice A2 m0 (O-y.b.evs.length)) (jY E E (jv E) (jv E) nW (hs2 _)) ?_;refine zN 5 ?_;refine fO (X:=(List cB)×Nat×(Option Addr)×Nat) (λxv=>[(3,pV b1 0),(4,pV b4 0),(5,pV b7 0),(6,pV J 0),(8,pV Z 0),(76,.slice A2 m0 (O-y.b.evs.length)),(77,D ((m0:Nat):Int)),(10,.slice xv.2.2.1 xv.2.1 xv.2.2.2),(78,D ((xv.2.1:Nat):Int))]) (λxv wr=>(xv.1=(GE.take xv.2.1).map (λu=>fH 5 x.l.q BR.1.ep 0 u))/\(xv.2.1<=m0)/\(xv.2.1=xv.1.length)/\St B w0 wr ((.own 138 10 (.slice xv.2.2.1 xv.2.1 xv.2.2.2) xv.2.1 ((xv.1).flatMap cB.cells))::(.blk Z (bR BR.1 I O) 42)::(.cK 6 I BR.1.evs.length ((BR.1.evs).flatMap Ev.cells))::(.blk Ao (bR y.b y.A y.c) 42)::(.blk J #[D ((x.l.q:Nat):Int)] 3)::(.blk b7 (LX.row x) 119)::(.blk b4 #[pV kn 0] 98)::(.blk b1 #[pV kw 0] 87)::(cN kn n X z z.pv (cF kw R m rr)))) (λxv=>m0-xv.2.1) ([],0,none,0) ?_ ?_ ?_
    ·exact⟨iQ,zero_le _,E,o8⟩
    ·exact tU9
    rintro⟨acc,k,A9,c9⟩ w53 ⟨Oe,aBK,ahZ,uH⟩
    try dsimp only at Oe aBK ahZ uH
    refine bH (l':=[(3,pV b1 0),(4,pV b4 0),(5,pV b7 0),(6,pV J 0),(8,pV Z 0),(76,.slice A2 m0 (O-y.b.evs.length)),(77,D ((m0:Nat):Int)),(10,.slice A9 k c9),(78,D ((k:Nat):Int))]) tU9 (aM (av ?_));by_cases h58:((k:Nat):Int)< ((m0:Nat):Int)
    ·refine zN 10 ?_;obtain⟨e,he⟩:∃e,GE[k]? =some e:=⟨_,getElem?_eq_getElem Y⟩;refine zQ ?_;obtain⟨rb,ro,hra,_,hrc⟩:=(hr2 _ _ (St.cK 2 uH E)).2 Y;subst hra;refine vv (kZ k) ?_;refine vv (v:=.agg #[D e.kind,D e.producer,D e.id,D e.body,D e.aN,D e.hno]) (au E E (dS (cs:=Ev.cells e) (λj u hu=>by rw[Nat.add_assoc];exact hrc (k*6+j) u (dh (enc:=Ev.cells) (sz:=6) (λ_=>E) he hu)))) ?_;refine gB uH aaO ?_;intro b59 w60 Hw;refine sa 0 Hw kQ ?_;intro Zx wO;refine zN 6 ?_;refine cab eQ wO (ji 5 x.l.q ⟨BR.1,I,O⟩ _) ?_;intro w64 Gx;refine gB Gx wY ?_;intro b67 w68 Ak;refine sa 0 Ak kQ ?_;intro w70 sS;refine zN 6 ?_;refine jF (row':= #[D 5,D ((x.l.q:Nat):Int),D BR.1.ep,D 0,D e.kind,D e.producer,D e.id,D e.body,D e.aN,D e.hno]) 0 sS kQ ?_;intro w72 tV;refine zN 5 ?_;refine Sy tV ?_;intro b74 w75 MP;refine dU (news:=[D 5,D ((x.l.q:Nat):Int),D BR.1.ep,D 0,D e.kind,D e.producer,D e.id,D e.body,D e.aN,D e.hno]) (xs':=(acc++[fH 5 x.l.q BR.1.ep 0 e]).flatMap cB.cells) 3 MP (wn E) E E E E E E (St.mq (xs:=[D 5,D ((x.l.q:Nat):Int),D BR.1.ep,D 0,D e.kind,D e.producer,D e.id,D e.body,D e.aN,D e.hno]) 0 MP E E E) underlying126 PN E dQ (bP E) lQ Y (jy (enc:=cB.cells) E E) ?_;intro A77 c78 w79 aJY aJZ BK;change St _ _ _ (_::_::_::(.own 138 10 (.slice A77 (k+1) c78) (k+1) ((acc++[fH 5 x.l.q BR.1.ep 0 e]).flatMap cB.cells))::_::_::_::_::_::_::_::_::_::_::_::_::_::_::rr)at BK;refine zN 5 ?_;refine vv (v:=D ((k+1:Nat):Int)) jc ?_;refine zN 2 ?_;have Dp:=BK.aO [2,1,0];refine bQ (acc++[fH 5 x.l.q BR.1.ep 0 e],k+1,A77,c78) ?_ tU9 (by first|omega|(dsimp only;omega));exact⟨(by dsimp only;rw[Oe,take_add_one,he];simp),uQ,(by dsimp only;simp[ahZ]),Dp⟩
    refine zN 14 ?_;refine vv (v:=.bool x.l.last) (au E E (aK (St.cl 5 uH E E))) ?_;refine qk [3,4,5,6,8,10,93] ?_;refine dF ?_
    cases aJ0:(x.l.last)
    ·refine bH (l':=[(3,pV b1 0),(4,pV b4 0),(5,pV b7 0),(6,pV J 0),(8,pV Z 0),(10,.slice A9 k c9),(93,.bool false)]) Dj (jm E (mo (dF (aM (aM (av (vv (au E E (aK (St.cl 6 uH E E))) ?_)))))));refine zQ ?_;have JF:=uH.eG [14,14,14,14,14,14,14];refine dO eQ (FM (nn:=k) (rs:=acc) (by simp[<-ahZ]) (Ro.own (mem_iff_getElem?.2 ⟨0,E⟩)) NG.xV (by exact memT 8 E hL) Y JF) ?_;rintro _ w92 (⟨aob,rfl,Dq⟩|⟨at0,A87,c88,N89,aob,rfl,awk,Dq⟩)
     ·refine⟨_,E,?_⟩;refine zN 7 ?_;have hgr:p8 x.l.q BR.1 y.b.evs.length (x.l.at_.toNat+x.l.evs.length) x.l.last=acc:=by
       rw[<-hM,ER hG hm0 Oe Y,if_neg (by simp[*])];exact append_nil _
      rw[Tx hX hyb.symm qE Y Y Y (by rw[hgr];exact aob)];exact⟨E,Wd.dP (X':=X) (z':=z) (Ls:=[.own 138 10 (.slice A9 k c9) k ((acc).flatMap cB.cells),.blk Z (bR BR.1 I O) 42,.cK 6 I BR.1.evs.length ((BR.1.evs).flatMap Ev.cells),.blk Ao (bR y.b y.A y.c) 42,.blk J #[D ((x.l.q:Nat):Int)] 3,.blk b7 (LX.row x) 119,.blk b4 #[pV kn 0] 98,.blk b1 #[pV kw 0] 87]) (fA:=R.fA) (fc:=R.fc) (fx:=R.fx) (sA:=R.sA) (sc:=R.sc) (tA:=R.tA) (tc:=R.tc) hkn iC hrr G hn Dq NG.more (λu hu=>.inl hu) (aC hX).symm G.fly.symm mH⟩
     refine⟨_,E,?_⟩;refine zN 8 ?_;refine vv Jz ?_;refine zN 2 ?_;refine jF (row':=dM n X.up (.slice A87 at0.length c88) X.syn (.slice (aD z.bb 0) 4 4) X.hints X.sure (.slice z.iA z.ix.length z.ic) (.func (.func 96) #[] #[pV Z 0,pV b4 0,pV J 0,pV b7 0,pV b1 0]) X.turn) 0 Dq kQ ?_;intro w94 K6;refine zQ ?_;refine bU (l':=[]) trivial (oP ?_);have hgr:p8 x.l.q BR.1 y.b.evs.length (x.l.at_.toNat+x.l.evs.length) x.l.last=acc:=by
      rw[<-hM,ER hG hm0 Oe Y,if_neg (by simp[*])];exact append_nil _
     rw[aeV hX hyb.symm qE Y Y Y (by rw[hgr];exact aob)];refine⟨E,Wd.fin (X':={X with data:=at0,pend:=some (.got x.l.q BR.1 x.l.last)}) (z':={z with tA:=A87,tc:=c88,pv:=.func (.func 96) #[] #[pV Z 0,pV b4 0,pV J 0,pV b7 0,pV b1 0]}) (N:=N89) (Ls:=[.own 138 10 (.slice A9 k c9) k ((acc).flatMap cB.cells),.blk Z (bR BR.1 I O) 42,.cK 6 I BR.1.evs.length ((BR.1.evs).flatMap Ev.cells),.blk Ao (bR y.b y.A y.c) 42,.blk J #[D ((x.l.q:Nat):Int)] 3,.blk b7 (LX.row x) 119,.blk b4 #[pV kn 0] 98,.blk b1 #[pV kw 0] 87]) (fA:=R.fA) (fc:=R.fc) (fx:=R.fx) (sA:=R.sA) (sc:=R.sc) (tA:=R.tA) (tc:=R.tc) hkn iC hrr G hn K6 ?_ (λu hu=>.inl hu) E G.fly.symm mH⟩;refine{ (NG.more:dY K _ n X z)with xV:=awk.mono mLN,lF:=?_ }
     show p9 (K.nb n) K.wb _ _ _
     rw[hkn,iC];exact⟨Z,b4,J,b7,b1,⟨BR.1,I,O⟩,x,E,(rW (mem_iff_getElem?.2 ⟨1,E⟩)),E,⟨(Ro.cK (rW (mem_iff_getElem?.2 ⟨2,E⟩))),MB⟩,(rW (mem_iff_getElem?.2 ⟨6,E⟩)),(rW (mem_iff_getElem?.2 ⟨4,E⟩)),(rW (mem_iff_getElem?.2 ⟨5,E⟩)),E,(rW (mem_iff_getElem?.2 ⟨7,E⟩))⟩
    refine bH (l':=[(3,pV b1 0),(4,pV b4 0),(5,pV b7 0),(6,pV J 0),(8,pV Z 0),(10,.slice A9 k c9),(93,.bool true)]) Dj (ku E (av (vm ?_)));refine zN 2 ?_;refine cab eQ uH (ji 6 x.l.q ⟨BR.1,I,O⟩ _) ?_;intro w96 Fy;refine Sy Fy ?_;intro b99 ahL wu;refine dU (news:=[D 6,D ((x.l.q:Nat):Int),D BR.1.ep,D 0,D 0,D 0,D 0,D 0,D 0,D 0]) (xs':=(acc++[fH 6 x.l.q BR.1.ep 0 aH]).flatMap cB.cells) 1 wu (wn E) E E E E E E (St.mq (xs:=[D 6,D ((x.l.q:Nat):Int),D BR.1.ep,D 0,D 0,D 0,D 0,D 0,D 0,D 0]) 0 wu E E E) underlying126 PN E dQ (bP E) lQ Y (jy (enc:=cB.cells) E E) ?_;intro anT anU atn aFT aFU sF;refine zN 8 ?_;have vD:=sF.eG [15,15,15,15,15,15,15];refine dO eQ (FM (nn:=k+1) (rs:=acc++[fH 6 x.l.q BR.1.ep 0 aH]) (by simp[<-ahZ]) (Ro.own (mem_iff_getElem?.2 ⟨1,E⟩)) NG.xV (by exact memT 9 E hL) Y vD) ?_;rintro _ anV (⟨adX,rfl,yL⟩|⟨amG,ahM,ahN,aBL,adX,rfl,aq3,yL⟩)
    ·refine⟨_,E,?_⟩;refine zN 7 ?_;have hgr:p8 x.l.q BR.1 y.b.evs.length (x.l.at_.toNat+x.l.evs.length) x.l.last=acc++[fH 6 x.l.q BR.1.ep 0 aH]:=by
      rw[<-hM,ER hG hm0 Oe Y,if_pos ‹_›]
     rw[Tx hX hyb.symm qE Y Y Y (by rw[hgr];exact adX)];exact⟨E,Wd.dP (X':=X) (z':=z) (Ls:=[.blk b99 #[D 6,D ((x.l.q:Nat):Int),D BR.1.ep,D 0,D 0,D 0,D 0,D 0,D 0,D 0] 138,.own 138 10 (.slice anT (k+1) anU) (k+1) ((acc++[fH 6 x.l.q BR.1.ep 0 aH]).flatMap cB.cells),.blk Z (bR BR.1 I O) 42,.cK 6 I BR.1.evs.length ((BR.1.evs).flatMap Ev.cells),.blk Ao (bR y.b y.A y.c) 42,.blk J #[D ((x.l.q:Nat):Int)] 3,.blk b7 (LX.row x) 119,.blk b4 #[pV kn 0] 98,.blk b1 #[pV kw 0] 87]) (fA:=R.fA) (fc:=R.fc) (fx:=R.fx) (sA:=R.sA) (sc:=R.sc) (tA:=R.tA) (tc:=R.tc) hkn iC hrr G hn yL NG.more (λu hu=>.inl hu) (aC hX).symm G.fly.symm mH⟩
    refine⟨_,E,?_⟩;refine zN 8 ?_;refine vv Jz ?_;refine zN 2 ?_;refine jF (row':=dM n X.up (.slice ahM amG.length ahN) X.syn (.slice (aD z.bb 0) 4 4) X.hints X.sure (.slice z.iA z.ix.length z.ic) (.func (.func 96) #[] #[pV Z 0,pV b4 0,pV J 0,pV b7 0,pV b1 0]) X.turn) 0 yL kQ ?_;intro abG wo;refine zQ ?_;refine bU (l':=[]) trivial (oP ?_);have hgr:p8 x.l.q BR.1 y.b.evs.length (x.l.at_.toNat+x.l.evs.length) x.l.last=acc++[fH 6 x.l.q BR.1.ep 0 aH]:=by
     rw[<-hM,ER hG hm0 Oe Y,if_pos ‹_›]
    rw[aeV hX hyb.symm qE Y Y Y (by rw[hgr];exact adX)];refine⟨E,Wd.fin (X':={X with data:=amG,pend:=some (.got x.l.q BR.1 x.l.last)}) (z':={z with tA:=ahM,tc:=ahN,pv:=.func (.func 96) #[] #[pV Z 0,pV b4 0,pV J 0,pV b7 0,pV b1 0]}) (N:=aBL) (Ls:=[.blk b99 #[D 6,D ((x.l.q:Nat):Int),D BR.1.ep,D 0,D 0,D 0,D 0,D 0,D 0,D 0] 138,.own 138 10 (.slice anT (k+1) anU) (k+1) ((acc++[fH 6 x.l.q BR.1.ep 0 aH]).flatMap cB.cells),.blk Z (bR BR.1 I O) 42,.cK 6 I BR.1.evs.length ((BR.1.evs).flatMap Ev.cells),.blk Ao (bR y.b y.A y.c) 42,.blk J #[D ((x.l.q:Nat):Int)] 3,.blk b7 (LX.row x) 119,.blk b4 #[pV kn 0] 98,.blk b1 #[pV kw 0] 87]) (fA:=R.fA) (fc:=R.fc) (fx:=R.fx) (sA:=R.sA) (sc:=R.sc) (tA:=R.tA) (tc:=R.tc) hkn iC hrr G hn wo ?_ (λu hu=>.inl hu) E G.fly.symm mH⟩;refine{ (NG.more:dY K _ n X z)with xV:=aq3.mono mLN,lF:=?_ }
    show p9 (K.nb n) K.wb _ _ _
    rw[hkn,iC];exact⟨Z,b4,J,b7,b1,⟨BR.1,I,O⟩,x,E,(rW (mem_iff_getElem?.2 ⟨2,E⟩)),E,⟨(Ro.cK (rW (mem_iff_getElem?.2 ⟨3,E⟩))),MB⟩,(rW (mem_iff_getElem?.2 ⟨7,E⟩)),(rW (mem_iff_getElem?.2 ⟨5,E⟩)),(rW (mem_iff_getElem?.2 ⟨6,E⟩)),E,(rW (mem_iff_getElem?.2 ⟨8,E⟩))⟩
   refine zN 16 ?_;have xP:=wR.eG [13,13,13,13,13,13,13];rw[Tw hX hyb.symm qE Y Y Y];exact⟨E,Wd.dP (X':=X) (z':=z) (Ls:=[.blk Z (bR BR.1 I O) 42,.cK 6 I BR.1.evs.length ((BR.1.evs).flatMap Ev.cells),.blk Ao (bR y.b y.A y.c) 42,.blk J #[D ((x.l.q:Nat):Int)] 3,.blk b7 (LX.row x) 119,.blk b4 #[pV kn 0] 98,.blk b1 #[pV kw 0] 87]) (fA:=R.fA) (fc:=R.fc) (fx:=R.fx) (sA:=R.sA) (sc:=R.sc) (tA:=R.tA) (tc:=R.tc) hkn iC hrr G hn xP NG.more (λu hu=>.inl hu) (aC hX).symm G.fly.symm mH⟩
  refine zN 8 ?_;have uE:=tT.eG [11,11,11,11,11,11,11];rw[aeU hX hyb.symm Y];exact⟨E,Wd.dP (X':=X) (z':=z) (Ls:=[.blk Ao (bR y.b y.A y.c) 42,.blk J #[D ((x.l.q:Nat):Int)] 3,.blk b7 (LX.row x) 119,.blk b4 #[pV kn 0] 98,.blk b1 #[pV kw 0] 87]) (fA:=R.fA) (fc:=R.fc) (fx:=R.fx) (sA:=R.sA) (sc:=R.sc) (tA:=R.tA) (tc:=R.tc) hkn iC hrr G hn uE NG.more (λu hu=>.inl hu) (aC hX).symm G.fly.symm mH⟩
 refine zN 14 ?_;have GA:=tT.eG [11,11,11,11,11,11,11];rw[aeU hX hyb.symm Y];exact⟨E,Wd.dP (X':=X) (z':=z) (Ls:=[.blk Ao (bR y.b y.A y.c) 42,.blk J #[D ((x.l.q:Nat):Int)] 3,.blk b7 (LX.row x) 119,.blk b4 #[pV kn 0] 98,.blk b1 #[pV kw 0] 87]) (fA:=R.fA) (fc:=R.fc) (fx:=R.fx) (sA:=R.sA) (sc:=R.sc) (tA:=R.tA) (tc:=R.tc) hkn iC hrr G hn GA NG.more (λu hu=>.inl hu) (aC hX).symm G.fly.symm mH⟩
def V3 {P:Program}{t:TypeId}{xo yo:Operand}{w:World}{a b c:Nat}(h:c=a % b)(I:b≠0):(do eqGuard .rem t xo yo (D ((a:Nat):Int)) (D ((b:Nat):Int));binOp .rem t (D ((a:Nat):Int)) (D ((b:Nat):Int)):Sem Value).run P w=.ok (D ((c:Nat):Int)) w:=by
 subst h;have h1:((a:Int)).tmod (b:Int)=((a % b:Nat):Int):=by rw[Int.tmod_eq_emod_of_nonneg (Int.natCast_nonneg a)];rfl
 have J:¬((b:Int)=0):=Y;simp[binOp,Op.intDiv,J,h1,eqGuard_rem];exact λh=>absurd h I
def Bh {m:Cl}{n q:Nat}{X:Nd}{b:aQ}(h:m.ah n=X)(I:q=X.turn % 4)(J:X.bs q=b):m.jU n={ (m.put n {X with turn:=X.turn+1})with fly:=m.fly++fV n q b (X.sure q)}:=by
 subst h;subst I;subst J;rfl
def dY.turn {K:CK}{L:List Fact}{n t:Nat}{X:Nd}{z:NX}(h:dY K L n X z):dY K L n {X with turn:=t} z:=⟨h.Rn,h.Tv,h.xV,h.ixm,h.ixo,h.lF⟩
def awl {fx:List LX}{x y:LX}{P:LX->Prop}(I:P x)(J:P y):∀u∈fx++[x,y],u∈fx\/P u:=λu M=>(mem_append.1 M).elim .inl λh=>by
 rcases mem_cons.1 h with h|h
 ·subst h;exact .inr I
 rw[mem_singleton]at h;subst h;exact .inr J
def YE {K:CK} {B n kn kw:Nat} {w0 w:World} {fs:List Fact} {m:Cl} {H:List LX} (hn:n<5) (M:K.nb n=kn) (O:K.wb=kw) (hu:Uk B w0) (hB1:m.fly.length<=1000000000) (hB2:m.aV.length<=1000000000000) (HW:Wd K B w0 w fs m H) (htn:(m.ah n).turn<=1000000000000) (hv: ∀ q,q<4->aj ((m.ah n).bs q)=0):
    Calls prog 48 #[pV kw 0,pV kn 0] w (λe w'=>e=.returned (.tuple #[])/\Wd K B w0 w' fs (m.jU n) H):=by
 obtain⟨R,G,S0⟩:=HW.open hn;have hfl:R.fx.length=m.fly.length:=by rw[<-G.fly,length_map]
 have NG:=G.iE n hn;obtain⟨X,hX⟩:∃X,m.ah n=X:=⟨_,E⟩;obtain⟨z,hz⟩:∃z,R.nx n=z:=⟨_,E⟩;rw[hX,hz]at S0 NG;have hL:∀f∈R.L,f∈gD K R m fs n:=λf h=>mem_append_right _ (mem_append_right _ h);obtain⟨rr,Z⟩:∃r,gD K R m fs n=r:=⟨_,E⟩;rw[Z]at S0 hL;have S:St B w0 w (cN kn n X z z.pv (cF kw R m rr)):=by subst M;subst O;exact S0
 clear S0 HW;have hlen:=(S.own 1 E).1;rw[iG (sz:=6) (λ_=>E)]at hlen;rw[hX]at hv htn;obtain⟨q,hqt⟩:∃q,q=X.turn % 4:=⟨_,E⟩;have hq:q<4:=Y;obtain⟨y,hy,hyb,qD⟩:=NG.at_ hq;have Me:=xq (hyb▸hv _ hq);refine gK 89 func48 ?_;refine cw [0,1] ?_;refine zN 6 ?_;refine vv (v:=D ((q:Nat):Int)) (bC E E E (V3 hqt dQ)) ?_;refine zN 9 ?_;refine vv (v:=D ((X.turn+1:Nat):Int)) jc ?_;refine zN 2 ?_;refine jF (row':=dM n X.up (.slice z.tA X.data.length z.tc) X.syn (.slice (aD z.bb 0) 4 4) X.hints X.sure (.slice z.iA z.ix.length z.ic) (z.pv) (X.turn+1)) 0 S kQ ?_;intro w1 S2;refine zN 9 ?_;refine vv (kZ q) ?_;refine vv (au E E (dS (cs:=BX.cells y) (Rd.yB (St.ord 1 S2 E) (λ_ _ h=>dh (enc:=BX.cells) (sz:=6) (λ_=>E) hy h)))) ?_;refine gB S2 gu ?_;intro b3 w4 S5;refine sa 0 S5 kQ ?_;intro w6 S7;refine zN 7 ?_;by_cases h8:y.b.role=2
 ·refine zN 9 ?_;have S9:=S7.eG [5,5];have Dr:=S9.drew;refine aJ 13 Dr [1,0] ?_;refine aL 10 ?_;refine ak (v:=D (y.b.ep+1)) 10 E (Dr.oU [1,0]) (λ_ _=>jc) ?_;refine ak (v:=.agg #[D 2,D ((n:Nat):Int),D y.b.tg,D ((q:Nat):Int),D (y.b.ep+1),D 0,D 0,D 0,D 0,D 0,D 0,D 0,D 0,.slice none 0 0,.bool false,D 0,D 0,D 0,D 0,D 0,D 0,D 0,D 0]) 11 E (Dr.oU [1,0]) (λ_ _=>gG) ?_;refine aY 12 ?_;refine kD 12 E eQ (gV (x:=⟨vL n q y.b,none,0⟩) Dr Y) ?_;rintro _ MN ⟨rfl,A23,c24,aBM,aBN,sP⟩;refine⟨_,E,?_⟩;refine aL 2 ?_;refine zN 36 ?_;have uD:=sP.aO [2];have BH:=uD.eG [6,6,3,3,6,6,6];have I:fV n q y.b (X.sure q)=[vL n q y.b]:=by
   unfold fV
   (rw[if_pos (by first|omega|exact⟨by omega,by omega,by assumption⟩),if_neg (by first|omega|(rintro⟨h1,h2,h3⟩;first|omega|simp_all)),if_neg (by first|omega|(rintro⟨h1,h2,h3⟩;first|omega|simp_all))])<;>rfl
  rw[Bh hX hqt hyb.symm];have J:=aBN;exact⟨E,Wd.dP (X':={X with turn:=X.turn+1}) (z':=z) (Ls:=[]) (fA:=A23) (fc:=c24) (fx:=aBM) (sA:=R.sA) (sc:=R.sc) (tA:=R.tA) (tc:=R.tc) M O Z G hn BH (dY.turn NG.more) (by rw[J];exact oW (iW E)) E (by rw[J,I,map_append,G.fly];rfl) (λu h=>.inl h)⟩
 refine zN 4 ?_;by_cases h31:y.b.role=3
 ·refine zN 5 ?_;have uW:=S7.eG [5,5];have tX:=uW.drew;refine aJ 13 tX [1,0] ?_;refine aL 10 ?_;refine ak (v:=D (y.b.ep+1)) 10 E (tX.oU [1,0]) (λ_ _=>jc) ?_;refine ak (v:=.agg #[D 2,D ((n:Nat):Int),D y.b.tg,D ((q:Nat):Int),D (y.b.ep+1),D 0,D 0,D 0,D 0,D 0,D 0,D 0,D 0,.slice none 0 0,.bool false,D 0,D 0,D 0,D 0,D 0,D 0,D 0,D 0]) 11 E (tX.oU [1,0]) (λ_ _=>gG) ?_;refine aY 12 ?_;refine kD 12 E eQ (gV (x:=⟨vL n q y.b,none,0⟩) tX Y) ?_;rintro _ VP ⟨rfl,A46,c47,aJ1,at1,vT⟩;refine⟨_,E,?_⟩;refine aL 2 ?_;refine zN 17 ?_;refine vv (v:=.agg #[D 5,D ((n:Nat):Int),D (-2),D ((q:Nat):Int),D 0,D 0,D (-1),D 0,D 0,D 0,D 0,D 0,D 0,.slice none 0 0,.bool false,D 0,D 0,D 0,D 0,D 0,D 0,D 0,D 0]) gG ?_;refine dO eQ (gV (x:=⟨Ow n q,none,0⟩) vT (by simp only[at1,length_append,length_cons,length_nil];omega)) ?_;rintro _ w56 ⟨rfl,A52,c53,at5,aBO,vJ⟩;refine⟨_,E,?_⟩;refine zN 26 ?_;have Du:=vJ.aO [2];have BJ:=Du.eG [6,6,3,3,6,6,6];have I:fV n q y.b (X.sure q)=[vL n q y.b,Ow n q]:=by
   unfold fV
   (rw[if_pos (by first|omega|exact⟨by omega,by omega,by assumption⟩),if_pos (by first|omega|exact⟨by omega,by omega,by assumption⟩),if_neg (by first|omega|(rintro⟨h1,h2,h3⟩;first|omega|simp_all))])<;>rfl
  rw[Bh hX hqt hyb.symm];have J:at5=R.fx++[⟨vL n q y.b,none,0⟩,⟨Ow n q,none,0⟩]:=by rw[aBO,at1];simp
  exact⟨E,Wd.dP (X':={X with turn:=X.turn+1}) (z':=z) (Ls:=[]) (fA:=A52) (fc:=c53) (fx:=at5) (sA:=R.sA) (sc:=R.sc) (tA:=R.tA) (tc:=R.tc) M O Z G hn BJ (dY.turn NG.more) (by rw[J];exact awl (iW E) (iW E)) E (by rw[J,I,map_append,G.fly];rfl) (λu h=>.inl h)⟩
 refine zN 22 ?_;by_cases h60:y.b.role=1
 ·refine zN 4 ?_;by_cases h61:1<y.b.ep
  ·refine zN 7 ?_;refine vg (v:=pV kn (13+q*1)) (bJ E E E (fE q underlying102 kQ E hq)) ?_;refine vg (au E E (aK (St.cl 1 S7 E (akM hq)))) ?_
   cases aty:(X.sure q)
   ·refine zN 5 ?_;have wO:=S7.eG [5,5];have S64:=wO.drew;refine aJ 15 S64 [1,0] ?_;refine aL 8 ?_;refine ak (v:=D (y.b.ep-1)) 8 E (S64.oU [1,0]) (λ_ _=>ysu) ?_;refine aL 4 ?_;refine ak (v:=.agg #[D 5,D ((n:Nat):Int),D (-2),D ((q:Nat):Int),D (y.b.ep-1),D 0,D ((n:Nat):Int),D 0,D 0,D 0,D 0,D 0,D 0,.slice none 0 0,.bool false,D 0,D 0,D 0,D 0,D 0,D 0,D 0,D 0]) 13 E (S64.oU [1,0]) (λ_ _=>gG) ?_;refine aY 14 ?_;refine kD 14 E eQ (gV (x:=⟨Mw n q y.b,none,0⟩) S64 Y) ?_;rintro _ w83 ⟨rfl,A79,c80,aBP,aBQ,Fx⟩;refine⟨_,E,?_⟩;refine aL 2 ?_;refine bU (l':=[]) trivial (oP ?_);have JF:=Fx.aO [2];have BM:=JF.eG [6,6,3,3,6,6,6];have I:fV n q y.b (X.sure q)=[Mw n q y.b]:=by
     unfold fV
     (rw[if_neg (by first|omega|(rintro⟨h1,h2,h3⟩;first|omega|simp_all)),if_neg (by first|omega|(rintro⟨h1,h2,h3⟩;first|omega|simp_all)),if_pos (by first|omega|exact⟨by omega,by omega,by assumption⟩)])<;>rfl
    rw[Bh hX hqt hyb.symm];have J:=aBQ;exact⟨E,Wd.dP (X':={X with turn:=X.turn+1}) (z':=z) (Ls:=[]) (fA:=A79) (fc:=c80) (fx:=aBP) (sA:=R.sA) (sc:=R.sc) (tA:=R.tA) (tc:=R.tc) M O Z G hn BM (dY.turn NG.more) (by rw[J];exact oW (iW E)) E (by rw[J,I,map_append,G.fly];rfl) (λu h=>.inl h)⟩
   refine zN 7 ?_;have Gv:=S7.aO [0];have I:fV n q y.b (X.sure q)=[]:=by
    unfold fV
    (rw[if_neg (by first|omega|(rintro⟨h1,h2,h3⟩;first|omega|simp_all)),if_neg (by first|omega|(rintro⟨h1,h2,h3⟩;first|omega|simp_all)),if_neg (by first|omega|(rintro⟨h1,h2,h3⟩;first|omega|simp_all))])<;>rfl
   rw[Bh hX hqt hyb.symm];exact⟨E,Wd.dP (X':={X with turn:=X.turn+1}) (z':=z) (Ls:=[]) (fA:=R.fA) (fc:=R.fc) (fx:=R.fx) (sA:=R.sA) (sc:=R.sc) (tA:=R.tA) (tc:=R.tc) M O Z G hn Gv (dY.turn NG.more) (λu hu=>.inl hu) E (by rw[I,G.fly,append_nil]) (λu h=>.inl h)⟩
  refine zN 16 ?_;have MR:=S7.aO [0];have I:fV n q y.b (X.sure q)=[]:=by
   unfold fV
   (rw[if_neg (by first|omega|(rintro⟨h1,h2,h3⟩;first|omega|simp_all)),if_neg (by first|omega|(rintro⟨h1,h2,h3⟩;first|omega|simp_all)),if_neg (by first|omega|(rintro⟨h1,h2,h3⟩;first|omega|simp_all))])<;>rfl
  rw[Bh hX hqt hyb.symm];exact⟨E,Wd.dP (X':={X with turn:=X.turn+1}) (z':=z) (Ls:=[]) (fA:=R.fA) (fc:=R.fc) (fx:=R.fx) (sA:=R.sA) (sc:=R.sc) (tA:=R.tA) (tc:=R.tc) M O Z G hn MR (dY.turn NG.more) (λu hu=>.inl hu) E (by rw[I,G.fly,append_nil]) (λu h=>.inl h)⟩
 refine zN 20 ?_;have MQ:=S7.aO [0];have I:fV n q y.b (X.sure q)=[]:=by
  unfold fV
  (rw[if_neg (by first|omega|(rintro⟨h1,h2,h3⟩;first|omega|simp_all)),if_neg (by first|omega|(rintro⟨h1,h2,h3⟩;first|omega|simp_all)),if_neg (by first|omega|(rintro⟨h1,h2,h3⟩;first|omega|simp_all))])<;>rfl
 rw[Bh hX hqt hyb.symm];exact⟨E,Wd.dP (X':={X with turn:=X.turn+1}) (z':=z) (Ls:=[]) (fA:=R.fA) (fc:=R.fc) (fx:=R.fx) (sA:=R.sA) (sc:=R.sc) (tA:=R.tA) (tc:=R.tc) M O Z G hn MQ (dY.turn NG.more) (λu hu=>.inl hu) E (by rw[I,G.fly,append_nil]) (λu h=>.inl h)⟩
end
end Go.Proofs.YtefabpdniidmbaaGreatDoor
