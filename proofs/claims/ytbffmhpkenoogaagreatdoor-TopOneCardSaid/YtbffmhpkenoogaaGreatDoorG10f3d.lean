import Derived.Test.YtbffmhpkenoogaaGreatDoorG39dab
import Derived.Test.YtbffmhpkenoogaaGreatDoorGcf580
set_option maxRecDepth 100000
set_option maxHeartbeats 8000000
namespace Go.Proofs.YtbffmhpkenoogaaGreatDoor
section
open ChangeShapes WideShapes RowKit
structure vo where
 num:Int
 ans:iM
 pl:Pl
structure iq where
 kd:Int:=0
 fr:Int:=0
 tg:Int:=0
 q:Nat:=0
 ep:Int:=0
 at_:Int:=0
 nd:Int:=0
 op:Ev:=aL
 evs:List Ev:=[]
 last:Bool:=false
 num:Int:=0
 bE:vo:=⟨0,eu,lW⟩
structure kF where
 nd:Nat
 q:Nat
 ep:Int
 op:Ev
 ans:iM
 num:Int
inductive fG
 | serve (q:Nat) (evs:List Ev) (op:Ev) (num:Int) (a:iM)
 | begun (q:Nat) (b:bF)
 | got (q:Nat) (b:bF) (last:Bool)
 | iE (q:Nat) (b:bF) (at_:Int)
 | forget (q:Nat) (b:bF)
structure Nd where
 up:Bool
 data:List UInt8
 syn:Int
 bs:Nat->bF
 hints:Nat->Pl
 sure:Nat->Bool
 inbox:List iq
 pend:Option fG
 turn:Nat
structure Cl where
 ah:Nat->Nd
 off:Dir
 fly:List iq
 shown:Nat->Nat->Int×Int
 aQ:List kF
 bE:List vo
 calls:Nat
def upd {α:Type} (f:Nat->α) (k:Nat) (v:α):Nat->α:=λj=>if j=k then v else f j
def gL {α:Type} (f:Nat->Nat->α) (n q:Nat) (v:α):Nat->Nat->α:=λi j=>if i=n/\j=q then v else f i j
def Cl.put (w:Cl) (n:Nat) (x:Nd):Cl:={ w with ah:=upd w.ah n x }
def Cl.aW (w:Cl) (n q:Nat) (b:bF):Cl:=w.put n { w.ah n with bs:=upd (w.ah n).bs q b }
def Cl.send (w:Cl) (l:iq):Cl:={ w with fly:=w.fly++[l] }
def Nd.blank (x:Nd):Nd:={ x with bs:=λ_=>bG,sure:=λ_=>false,hints:=λ_=>nowhere,inbox:=[],pend:=none }
def nd0:Nd:=⟨true,[],0,λ_=>bG,λ_=>nowhere,λ_=>false,[],none,0⟩
def qm:Cl:=⟨λ_=>nd0,⟨nowhere,nowhere,nowhere,nowhere⟩,[],λ_ _=>(0,0),[],[],0⟩
def dZ (l:List UInt8) (s:Int):List dz->Option (List UInt8)
 | []=>some l
 | r::rs=>if (iF l s r).2.2≠0 then none else dZ (iF l s r).1 s rs
def Nd.write (x:Nd) (rs:List dz):Option Nd:=(dZ x.data x.syn rs).map λd=>{ x with data:=d }
def fq (k:Int) (q:Nat) (ep pe:Int) (e:Ev):dz:=⟨k,q,ep,pe,e⟩
def Cl.tell (w:Cl) (n q:Nat) (e:Ev) (a:iM) (num:Int):Cl:=
 { w with aQ:=w.aQ++[⟨n,q,((w.ah n).bs q).ep,e,a,num⟩],shown:=gL w.shown n q (((w.ah n).bs q).ep,((w.ah n).bs q).evs.length) }
def serves (b:bF):Prop:=b.role=1\/b.role=2
instance (b:bF):Decidable (serves b):=by unfold serves;exact inferInstance
def l8 (n:Nat) (num:Int) (a:iM) (p:Pl):iq:={ kd:=1,fr:=n,tg:= -1,bE:=⟨num,a,p⟩ }
def Cl.done (w:Cl) (n q:Nat) (op:Ev) (num:Int) (a:iM):Cl:=
 if serves ((w.ah n).bs q) then (w.tell n q op a num).send (l8 n num a nowhere) else w.send (l8 n num a ((w.ah n).hints q))
noncomputable def Cl.serve (w:Cl) (n:Nat) (l:iq):Cl:=
 if (gq ((w.ah n).bs l.q) l.op).2.2.1=false then w.done n l.q l.op l.num (gq ((w.ah n).bs l.q) l.op).2.1
 else match (w.ah n).write [fq 2 l.q (gq ((w.ah n).bs l.q) l.op).1.ep 0 l.op] with
  | none=>w.done n l.q l.op l.num (ru 14)
  | some x=>w.put n { x with pend:=some (.serve l.q (gq ((w.ah n).bs l.q) l.op).1.evs l.op l.num (gq ((w.ah n).bs l.q) l.op).2.1) }
def qE (n q:Nat) (b:bF):iq:={ kd:=3,fr:=n,tg:=b.fr,q:=q,ep:=b.ep,at_:=b.evs.length }
def Cl.have_ (w:Cl) (n q:Nat):Cl:=w.send (qE n q ((w.ah n).bs q))
noncomputable def Cl.offered (w:Cl) (n:Nat) (l:iq):Cl:=
 if (dn ((w.ah n).bs l.q) l.ep l.fr).2≠0 then w
 else if (dn ((w.ah n).bs l.q) l.ep l.fr).1.ep=((w.ah n).bs l.q).ep then w.have_ n l.q
 else match (w.ah n).write [fq 4 l.q (dn ((w.ah n).bs l.q) l.ep l.fr).1.ep l.fr aL] with
  | none=>w
  | some x=>w.put n { x with pend:=some (.begun l.q (dn ((w.ah n).bs l.q) l.ep l.fr).1) }
def tu (q:Nat) (b:bF) (k m:Nat) (last:Bool):List dz:=
 ((b.evs.take m).drop k).map (λx=>fq 5 q b.ep 0 x)++if last=true then [fq 6 q b.ep 0 aL] else []
noncomputable def Cl.got (w:Cl) (n:Nat) (l:iq):Cl:=
 if ((w.ah n).bs l.q).role≠4\/((w.ah n).bs l.q).fr≠l.fr then w
 else if (cK ((w.ah n).bs l.q) l.ep l.at_ l.evs l.last).2=2 then w.have_ n l.q
 else if (cK ((w.ah n).bs l.q) l.ep l.at_ l.evs l.last).2≠0\/(cK ((w.ah n).bs l.q) l.ep l.at_ l.evs l.last).1.evs.length=((w.ah n).bs l.q).evs.length then w
 else match (w.ah n).write (tu l.q (cK ((w.ah n).bs l.q) l.ep l.at_ l.evs l.last).1 ((w.ah n).bs l.q).evs.length (l.at_.toNat+l.evs.length) l.last) with
  | none=>w
  | some x=>w.put n { x with pend:=some (.got l.q (cK ((w.ah n).bs l.q) l.ep l.at_ l.evs l.last).1 l.last) }
noncomputable def Km (n q:Nat) (b:bF) (at_:Int):iq:={ kd:=4,fr:=n,tg:=b.tg,q:=q,ep:=b.ep+1,at_:=at_,evs:=(ig b at_).1,last:=(ig b at_).2.1 }
noncomputable def Cl.part (w:Cl) (n q:Nat) (at_:Int):Cl:=if (ig ((w.ah n).bs q) at_).2.2≠0 then w else w.send (Km n q ((w.ah n).bs q) at_)
noncomputable def Cl.caught (w:Cl) (n:Nat) (l:iq):Cl:=
 if ((w.ah n).bs l.q).tg≠l.fr\/((w.ah n).bs l.q).ep+1≠l.ep then w
 else if (bK ((w.ah n).bs l.q) l.at_).2≠0 then w
 else if (bK ((w.ah n).bs l.q) l.at_).1.role=((w.ah n).bs l.q).role then (w.aW n l.q (bK ((w.ah n).bs l.q) l.at_).1).part n l.q l.at_
 else match (w.ah n).write [fq 3 l.q (bK ((w.ah n).bs l.q) l.at_).1.ep (bK ((w.ah n).bs l.q) l.at_).1.tg aL] with
  | none=>w
  | some x=>w.put n { x with pend:=some (.iE l.q (bK ((w.ah n).bs l.q) l.at_).1 l.at_) }
def Nd.hear (x:Nd) (n:Nat) (l:iq):Nd:=
 { x with hints:=if (x.hints l.q).epoch<l.ep then upd x.hints l.q ⟨l.nd,l.ep⟩ else x.hints,sure:=if l.nd=n/\(x.bs l.q).ep=l.ep then upd x.sure l.q true else x.sure }
noncomputable def Cl.learnt (w:Cl) (n:Nat) (l:iq):Cl:=
 if (fP ((w.ah n).bs l.q) l.ep).2≠0 then w.put n ((w.ah n).hear n l)
 else match ((w.ah n).hear n l).write [fq 7 l.q ((w.ah n).bs l.q).ep 0 aL] with
  | none=>w.put n ((w.ah n).hear n l)
  | some x=>w.put n { x with pend:=some (.forget l.q (fP ((w.ah n).bs l.q) l.ep).1) }
def yG (n q:Nat) (b:bF):iq:={ kd:=2,fr:=n,tg:=b.tg,q:=q,ep:=b.ep+1 }
def TK (n q:Nat):iq:={ kd:=5,fr:=n,tg:= -2,q:=q,nd:= -1 }
def Ot (n q:Nat) (b:bF):iq:={ kd:=5,fr:=n,tg:= -2,q:=q,ep:=b.ep-1,nd:=n }
def jU (n q:Nat) (b:bF) (sure:Bool):List iq:=
 (if b.role=2\/b.role=3 then [yG n q b] else [])++(if b.role=3 then [TK n q] else [])++if b.role=1/\1<b.ep/\sure=false then [Ot n q b] else []
def Cl.J7 (w:Cl) (n:Nat):Cl:=
 let q:=(w.ah n).turn % 4
 { (w.put n { w.ah n with turn:=(w.ah n).turn+1 }) with fly:=w.fly++jU n q ((w.ah n).bs q) ((w.ah n).sure q) }
noncomputable def Cl.yH (w:Cl) (n:Nat):fG->Cl
 | .serve q evs op num a=>(w.aW n q { (w.ah n).bs q with evs:=evs }).done n q op num a
 | .begun q b=>(w.aW n q b).have_ n q
 | .got q b last=>if last=true then ((w.aW n q b).put n { (w.aW n q b).ah n with sure:=upd (w.ah n).sure q false }).tell n q aM eu (-1) else (w.aW n q b).have_ n q
 | .iE q b at_=>(w.aW n q b).part n q at_
 | .forget q b=>w.aW n q b
noncomputable def Cl.handle (w:Cl) (n:Nat) (l:iq):Cl:=
 if l.kd=0 then w.serve n l else if l.kd=2 then w.offered n l else if l.kd=3 then w.caught n l else if l.kd=4 then w.got n l else w.learnt n l
noncomputable def Cl.drain (n:Nat):List iq->Cl->Cl
 | [],w=>w
 | l::r,w=>if ((w.put n { w.ah n with inbox:=r }).handle n l |>.ah n).pend=none then Cl.drain n r ((w.put n { w.ah n with inbox:=r }).handle n l) else (w.put n { w.ah n with inbox:=r }).handle n l
noncomputable def Cl.step (w:Cl) (n:Nat):Cl:=
 if (w.ah n).up=false then w else match (w.ah n).pend with
  | some p=>(w.put n { w.ah n with syn:=(w.ah n).data.length,pend:=none }).yH n p
  | none=>if ((Cl.drain n (w.ah n).inbox w).ah n).pend=none then (Cl.drain n (w.ah n).inbox w).J7 n else Cl.drain n (w.ah n).inbox w
def nH (tg:Int) (q:Nat) (p:Pl):iq:={ kd:=6,fr:= -2,tg:=tg,q:=q,ep:=p.epoch,nd:=p.node }
noncomputable def eD (d:Dir) (l:iq):Dir:=if 0<=l.nd/\(zo d l.q l.ep l.nd).2=0 then (zo d l.q l.ep l.nd).1 else d
noncomputable def Cl.come (w:Cl) (l:iq):Cl:=
 if l.tg= -1 then { w with bE:=w.bE++[l.bE] }
 else if l.tg= -2 then
  if (aX (eD w.off l) l.q).2=0 then { w with off:=eD w.off l,fly:=w.fly++[nH l.fr l.q (aX (eD w.off l) l.q).1] } else { w with off:=eD w.off l }
 else if (w.ah l.tg.toNat).up=true then w.put l.tg.toNat { w.ah l.tg.toNat with inbox:=(w.ah l.tg.toNat).inbox++[l] } else w
noncomputable def Cl.pick (w:Cl) (at_:Nat) (comes stays:Bool):Cl:=
 match w.fly[at_ % w.fly.length]? with
 | none=>w
 | some l=>
  let w1:=if stays=true then w else { w with fly:=w.fly.eraseIdx (at_ % w.fly.length) }
  if comes=true then w1.come l else w1
noncomputable def Cl.make (w:Cl) (n q:Nat):Cl:=
 if (w.ah n).up=false\/(w.ah n).pend.isSome=true\/(qL w.off q n).2≠0 then w
 else if (iL ((w.ah n).bs q) 1).2≠0 then w
 else match (w.ah n).write [fq 1 q (iL ((w.ah n).bs q) 1).1.ep 0 aL] with
  | none=>w
  | some x=>{ w.put n { x with syn:=x.data.length,bs:=upd x.bs q (iL ((w.ah n).bs q) 1).1 } with off:=(qL w.off q n).1,shown:=gL w.shown n q (1,0) }
noncomputable def Cl.move (w:Cl) (q:Nat) (tg:Int):Cl:=
 if (aX w.off q).2≠0\/(aX w.off q).1.node=tg\/(w.ah (aX w.off q).1.node.toNat).up=false then w
 else if (yY ((w.ah (aX w.off q).1.node.toNat).bs q) tg).2=0/\(yY ((w.ah (aX w.off q).1.node.toNat).bs q) tg).1.ep=(aX w.off q).1.epoch then
  w.aW (aX w.off q).1.node.toNat q (yY ((w.ah (aX w.off q).1.node.toNat).bs q) tg).1
 else w
noncomputable def Bn (data:List UInt8) (syn:Int):Option (List bF):=(allM (sV (jo data syn).1 (jo data syn).2.1).1).1
noncomputable def bq (data:List UInt8) (syn:Int):Nat->bF:=λq=>GX ((Bn data syn).getD []) q
def Cl.recovered (w:Cl) (n q:Nat) (evs:List Ev) (an:List iM):List Nat->Cl
 | []=>w
 | i::r=>Cl.recovered (w.tell n q (evs.getD i aL) (an.getD i eu) (-1)) n q evs an r
noncomputable def Cl.recover (w:Cl) (n q:Nat):Cl:=
 if (w.shown n q).1≠((w.ah n).bs q).ep then w.tell n q aM eu (-1)
 else w.recovered n q ((w.ah n).bs q).evs (aF ((w.ah n).bs q).evs).2.1 ((List.range ((w.ah n).bs q).evs.length).drop (w.shown n q).2.toNat)
noncomputable def dY (syn:Int) (bs:Nat->bF):List Nat->List UInt8->Option (List UInt8)
 | [],d=>some d
 | q::r,d=>if (bs q).role≠1 then dY syn bs r d else if (eF (bs q)).2≠0 then none else
  match dZ d syn [fq 2 q (bs q).ep 0 aM] with
  | none=>none
  | some d'=>dY syn bs r d'
noncomputable def Cl.woken (n:Nat) (bs:Nat->bF):List Nat->Cl->Cl
 | [],w=>w
 | q::r,w=>if (bs q).role≠1 then Cl.woken n bs r w else Cl.woken n bs r (((w.recover n q).aW n q (eF (bs q)).1).tell n q aM eu (-1))
noncomputable def Cl.start (w:Cl) (n:Nat):Cl:=
 if (w.ah n).up=true then w else
 match dY (jo (w.ah n).data (w.ah n).syn).2.1 (bq (w.ah n).data (w.ah n).syn) [0,1,2,3] (jo (w.ah n).data (w.ah n).syn).1 with
 | none=>w
 | some d=>Cl.woken n (bq (w.ah n).data (w.ah n).syn) [0,1,2,3] (w.put n { (w.ah n).blank with up:=true,data:=d,syn:=d.length,bs:=bq (w.ah n).data (w.ah n).syn })
def Cl.crash (w:Cl) (n:Nat) (keep:Int):Cl:=
 if (w.ah n).up=true then w.put n { (w.ah n).blank with up:=false,data:=(lX (w.ah n).data (w.ah n).syn keep).1,syn:=(lX (w.ah n).data (w.ah n).syn keep).2.1 } else w
def Ac.op (a:Ac):Ev:=⟨a.ek,a.ep,a.ei,a.eb,a.eh,a.en⟩
def Ou (n:Int) (q:Nat) (op:Ev) (num:Int):iq:={ kd:=0,fr:= -1,tg:=n,q:=q,op:=op,num:=num }
noncomputable def Cl.all (w:Cl):Cl:=w.fly.foldl Cl.come { w with fly:=[] }
noncomputable def Cl.act (w:Cl) (a:Ac):Cl:=
 if a.kd=1 then w.make a.nd.toNat a.qu.toNat
 else if a.kd=2 then { w with fly:=w.fly++[Ou a.nd a.qu.toNat a.op w.calls],calls:=w.calls+1 }
 else if a.kd=3 then w.step a.nd.toNat
 else if a.kd=4\/a.kd=5\/a.kd=6 then w.pick a.at_.toNat (decide (a.kd≠5)) (decide (a.kd=6))
 else if a.kd=7 then w.all
 else if a.kd=8 then w.crash a.nd.toNat a.kp
 else if a.kd=9 then w.start a.nd.toNat
 else w.move a.qu.toNat a.nd
noncomputable def Cl.run (w:Cl) (l:List Ac):Cl:=l.foldl Cl.act w
noncomputable def Nd.view (x:Nd):Nat->bF:=if x.up=true then x.bs else bq x.data x.syn
theorem tZ: ∀ (a b:List Ev) (Q:Qd) (an:List iM),gP Q an (a++b)=(gP Q an a).bind λr=>gP r.1 r.2 b
 | [],b,Q,an=>rfl
 | e::a,b,Q,an=>by
  simp only [List.cons_append,gP]
  split
  ·exact tZ a b _ _
  rfl
def good (l:List Ev):Prop:=(aF l).2.2=0
section
variable {l:List Ev} {e:Ev} {k:Nat}
theorem tN:good l↔l.length<=2000/\ ∃ r,gP dP [] l=some r:=by
 unfold good
 constructor
 ·intro h;refine ⟨fU h,?_⟩;have hl: ¬ 2000<l.length:=by have:=fU h;omega
  cases hr:gP dP [] l with
  | none=>rw [Iy hl hr] at h;cases h
  | some r=>exact ⟨r,rfl⟩
 rintro ⟨h,r,hr⟩;rw [Dg (by omega) hr]
theorem zI {r:Qd×List iM} (h:l.length<=2000) (hr:gP dP [] l=some r):aF l=(r.1,r.2,0):=Dg (by omega) hr
theorem vM:good []:=tN.2 ⟨by simp,_,rfl⟩
theorem Qm {a b:List Ev} (h:good (a++b)):good a:=by
 obtain ⟨h1,r,hr⟩:=tN.1 h;rw [tZ] at hr;rw [List.length_append] at h1
 cases ha:gP dP [] a with
 | none=>rw [ha] at hr;cases hr
 | some s=>exact tN.2 ⟨by omega,s,ha⟩
theorem qo (h:good l):good (l.take k):=Qm (b:=l.drop k) (by rwa [List.take_append_drop])
theorem jL (h:good l):l.length<=2000:=fU h
theorem good_step (h:good (l++[e])):(iD (aF l).1 e).2.2.2=0/\(iD (aF l).1 e).2.2.1=true/\aF (l++[e])=((iD (aF l).1 e).1,(aF l).2.1++[(iD (aF l).1 e).2.1],0):=by
 obtain ⟨h1,r,hr⟩:=tN.1 h;rw [List.length_append] at h1;rw [tZ] at hr
 cases ha:gP dP [] l with
 | none=>rw [ha] at hr;cases hr
 | some s=>
  have hs:=zI (by omega) ha;rw [ha] at hr;simp only [Option.bind_some,gP] at hr
  split at hr
  ·rename_i hc
   rw [hs];refine ⟨hc.1,hc.2,?_⟩
   cases hr;refine zI (r:=((iD s.1 e).1,s.2++[(iD s.1 e).2.1])) (by rw [List.length_append];exact h1) ?_;rw [tZ,ha];simp only [Option.bind_some,gP];rw [if_pos hc]
  cases hr
theorem Y3 (h:good l) (hl:l.length<2000) (hc:(iD (aF l).1 e).2.2.2=0) (hd:(iD (aF l).1 e).2.2.1=true):good (l++[e]):=by
 obtain ⟨h1,s,ha⟩:=tN.1 h;have hs:=zI h1 ha;rw [hs] at hc hd;refine tN.2 ⟨by simp;omega,((iD s.1 e).1,s.2++[(iD s.1 e).2.1]),?_⟩;rw [tZ,ha];simp only [Option.bind_some,gP];rw [if_pos ⟨hc,hd⟩]
theorem LZ (h:good l):(aF l).2.1.length=l.length:=by
 obtain ⟨h1,s,ha⟩:=tN.1 h;rw [zI h1 ha];have:=(BQ (by simp [dP]) ha).2;simpa using this
theorem nY (hk:k<l.length):l.take (k+1)=l.take k++[l[k]]:=by rw [List.take_add_one,List.getElem?_eq_getElem hk];rfl
theorem Qn: ∀ (n:Nat) {l:List Ev},l.length=n->good l-> ∀ k (hk:k<l.length),(aF l).2.1[k]? =some (iD (aF (l.take k)).1 l[k]).2.1
 | 0,l,hn,_,k,hk=>absurd hk (by omega)
 | n+1,l,hn,h,k,hk=>by
  have e:l=l.take n++[l[n]]:=by rw [<-nY (by omega),<-hn,List.take_length]
  have h':good (l.take n++[l[n]]):=e▸h;obtain ⟨h1,h2,h3⟩:=good_step h';have hlen:(aF (l.take n)).2.1.length=n:=by rw [LZ (qo h),List.length_take];omega
  have hm:(aF l).2.1=(aF (l.take n)).2.1++[(iD (aF (l.take n)).1 l[n]).2.1]:=by
   have:=congrArg (λx=>x.2.1) h3;rw [<-e] at this;exact this
  rw [hm];by_cases hkn:k=n
  ·subst hkn;rw [List.getElem?_append_right (by omega),hlen,Nat.sub_self];rfl
  rw [List.getElem?_append_left (by omega)];have hk':k< (l.take n).length:=by rw [List.length_take];omega
  have:=Qn n (l:=l.take n) (by rw [List.length_take];omega) (qo h) k hk';rw [this,List.take_take,Nat.min_eq_left (by omega)];simp
theorem abA {Q:Qd} (h:(iD Q aM).2.2.1=true):(iD Q aM).2.1=eu:=by
 by_cases h0:Q.fault=0
 ·have he:aZ aM=0:=by decide
  rw [Bh h0 he] at h⊢
  show (stepM Q aM).2.1=eu
  have h1:(stepM Q aM).2.2=true:=h;unfold stepM at h1⊢;simp only [aM,Int.reduceEq,if_false] at h1⊢;unfold JZ at h1⊢
  split at h1
  ·cases h1
  rename_i h2;rw [if_neg h2]
 rw [Oh h0] at h
 cases h
theorem agz {Q:Qd} {e:Ev} (hc:(iD Q e).2.2.2=0) (h:(iD Q e).2.2.1=false):(iD Q e).1=Q:=by
 by_cases h0:Q.fault=0
 ·by_cases h1:aZ e=0
  ·rw [Bh h0 h1] at h⊢
   show (stepM Q e).1=Q
   have h2:(stepM Q e).2.2=false:=h;unfold stepM at h2⊢
   split at h2
   ·rename_i g;rw [if_pos g]
    unfold Bd at h2⊢
    repeat' split at h2
    all_goals first
     | (cases h2;done)
     | (simp_all)
   rename_i g;rw [if_neg g]
   split at h2
   ·rename_i g1;rw [if_pos g1]
    unfold GD at h2⊢
    split at h2
    ·simp_all
    split at h2
    ·simp_all
    cases h2
   rename_i g1;rw [if_neg g1]
   split at h2
   ·rename_i g2;rw [if_pos g2]
    unfold EJ at h2⊢
    repeat' split at h2
    all_goals first
     | (cases h2;done)
     | (simp_all)
   rename_i g2;rw [if_neg g2]
   unfold JZ at h2⊢
   split at h2
   ·simp_all
   cases h2
  rw [TF h0 h1] at hc;exact absurd hc h1
 rw [Oh h0] at hc;exact absurd hc h0
end
noncomputable def rp:Qd->List kF->Option Qd
 | x,[]=>some x
 | x,s::r=>if (iD x s.op).2.2.2=0/\(iD x s.op).2.1=s.ans then rp (iD x s.op).1 r else none
theorem abB: ∀ (a b:List kF) (x:Qd),rp x (a++b)=(rp x a).bind λy=>rp y b
 | [],b,x=>rfl
 | s::a,b,x=>by
  simp only [List.cons_append,rp]
  split
  ·exact abB a b _
  rfl
theorem Cw {x y:Qd} {a:List kF} {s:kF} (h:rp x a=some y) (hc:(iD y s.op).2.2.2=0) (ha:(iD y s.op).2.1=s.ans):rp x (a++[s])=some (iD y s.op).1:=by
 rw [abB,h];simp only [Option.bind_some,rp];rw [if_pos ⟨hc,ha⟩]
structure Gh where
 m:Nat
 own:Nat->Nat
 len:Nat->Nat
 G:List Ev
 F:Nat
 t:Nat
def Gh.bd (g:Gh) (k:Nat):Nat:=if k=g.m then g.G.length else g.len k
def Gh.o (g:Gh):Nat:=g.own g.m
def Oth (g:Gh) (n:Nat) (b:bF):Prop:=
 (b.role=0/\0<=b.ep/\b.ep<g.m)\/
 (∃ k:Nat,b.role=3/\b.ep=k/\1<=k/\k<g.m/\g.own k=n/\b.evs=g.G.take (g.len k)/\b.tg=g.own (k+1))\/
 (∃ k:Nat,b.role=4/\b.ep=(k:Int)+1/\1<=k/\k<=g.m/\b.fr=g.own k/\b.evs=g.G.take b.evs.length/\b.evs.length<=g.bd k/\(k<g.m->g.own (k+1)≠n))
def JA (g:Gh) (V:Nat->bF) (pl:Pl) (l:iq):Prop:=
 (l.kd=2-> ∃ k:Nat,l.ep=(k:Int)+1/\1<=k/\k<=g.m/\l.fr=g.own k)/\
 (l.kd=4-> ∃ k:Nat,l.ep=(k:Int)+1/\1<=k/\k<=g.m/\l.fr=g.own k/\0<=l.at_/\l.evs=(g.G.drop l.at_.toNat).take l.evs.length/\l.at_.toNat+l.evs.length<=g.bd k/\
  (l.last=true->(k<g.m/\(g.own (k+1):Int)=l.tg)\/(k=g.m/\(V g.o).role=3/\(V g.o).tg=l.tg/\l.at_.toNat+l.evs.length=g.G.length)))/\
 (l.kd=5->0<=l.nd-> ∃ k:Nat,l.ep=k/\1<=k/\k<g.m/\(g.own (k+1):Int)=l.nd)/\
 (l.kd=6-> ∃ k:Nat,l.ep=k/\1<=k/\(k:Int)<=pl.epoch/\(g.own k:Int)=l.nd)
def FZ (g:Gh) (V:Nat->bF) (n:Nat):fG->Prop
 | .serve _ evs op _ a=>n=g.o/\serves (V n)/\evs=g.G++[op]/\(iD (aF g.G).1 op).2.1=a/\good evs
 | .begun _ b=> ∃ k:Nat,b=⟨4,(k:Int)+1,g.own k,0,0,[]⟩/\1<=k/\k<=g.m/\((V n).role=0\/(V n).role=4)/\(V n).ep< (k:Int)+1
 | .got _ b last=>(V n).role=4/\(last=false-> ∃ j,b={ V n with evs:=g.G.take j }/\(V n).evs.length<=j/\ ∀ k:Nat,(V n).ep=(k:Int)+1->j<=g.bd k)/\
   (last=true->(V n).ep=(g.m:Int)+1/\(V g.o).role=3/\(V g.o).tg=n/\b=⟨1,(g.m:Int)+1,0,0,0,g.G++[aM]⟩/\good (g.G++[aM]))
 | .iE _ b _=>n=g.o/\(V n).role=2/\b={ V n with role:=3,rd:=0 }
 | .forget _ b=>(V n).role=3/\b=⟨0,(V n).ep,0,0,0,[]⟩/\(V n).ep<g.m
structure Ov (own:Nat->Nat) (t:Nat) (sv:List kF):Prop where
 each: ∀ s∈sv,∃ k:Nat,s.ep=k/\1<=k/\k<=t/\s.nd=own k
 two: ∀ i a b,sv[i]? =some a->sv[i+1]? =some b->b.ep=a.ep\/(b.ep=a.ep+1/\b.op=aM)
 last: ∀ s,sv.getLast?=some s->s.ep=t
 nil:sv=[]->t=1
structure Inv (g:Gh) (V:Nat->bF) (P:Nat->Option fG) (U:Nat->Bool) (Lt:iq->Prop) (pl:Pl) (sh:Nat->Int×Int) (sv:List kF):Prop where
 m1:1<=g.m
 aiS: ∀ k,1<=k->k<=g.m->g.own k<5
 adj: ∀ k,1<=k->k<g.m->g.own k≠g.own (k+1)
 dir: ∃ d:Nat,pl=⟨g.own d,d⟩/\1<=d/\(d=g.m\/d+1=g.m)
 EZ:(V g.o).ep=g.m
 L6:(V g.o).evs=g.G
 arl:(V g.o).role=1\/(V g.o).role=2\/(V g.o).role=3
 Xb:(V g.o).role≠1->pl.epoch=g.m/\(V g.o).tg≠g.o/\0<=(V g.o).tg/\(V g.o).tg<5
 gd:good g.G
 zZ: ∀ n,n<5->n≠g.o->Oth g n (V n)
 ge: ∀ k,1<=k->k<=g.m->(k:Int)<=(V (g.own k)).ep
 brk: ∀ k,1<=k->k<g.m->g.G[g.len k]? =some aM/\g.len k<g.bd (k+1)
 uH: ∀ l,Lt l->JA g V pl l
 sJ: ∀ n,n<5-> ∀ p,P n=some p->U n=true/\FZ g V n p
 JB:(g.t=g.m/\sh g.o=((g.m:Int),(g.F:Int))/\g.F<=g.G.length)\/(g.t+1=g.m/\(sh g.o).1<g.m/\U g.o=false/\g.F+1=g.G.length/\g.G[g.F]? =some aM)
 upF:U g.o=true->g.F=g.G.length
 slF:(V g.o).role=3->g.F=g.G.length
 sho: ∀ n,n<5->n≠g.o->(sh n).1<g.m
 rps:rp dP sv=some (aF (g.G.take g.F)).1
 svs:Ov g.own g.t sv
section
variable {g:Gh} {V:Nat->bF} {P:Nat->Option fG} {U:Nat->Bool} {Lt:iq->Prop} {pl:Pl} {sh:Nat->Int×Int} {sv:List kF} {n:Nat} {l:iq} {b:bF}
theorem Inv.o5 (I:Inv g V P U Lt pl sh sv):g.o<5:=I.aiS _ I.m1 (Nat.le_refl _)
theorem Inv.aek (I:Inv g V P U Lt pl sh sv) {k:Nat} (h:1<=k) (h1:k<=g.m):g.bd k<=g.G.length:=by
 unfold Gh.bd
 split
 ·exact Nat.le_refl _
 have:=(I.brk k h (by omega)).1;exact Nat.le_of_lt (List.getElem?_eq_some_iff.1 this).1
theorem Inv.Ow (I:Inv g V P U Lt pl sh sv) {k:Nat} (h:1<=k) (h1:k<g.m):g.len k<g.G.length:=(List.getElem?_eq_some_iff.1 (I.brk k h h1).1).1
theorem Inv.who (I:Inv g V P U Lt pl sh sv) (hn:n<5) (h:serves (V n)):n=g.o:=by
 by_cases e:n=g.o
 ·exact e
 have:=I.zZ n hn e;unfold serves at h
 rcases this with ⟨h1,_⟩ | ⟨k,h1,_⟩ | ⟨k,h1,_⟩<;>omega
theorem upd_same {α:Type} (f:Nat->α) (k:Nat) (v:α):upd f k v k=v:=if_pos rfl
theorem upd_ne {α:Type} {f:Nat->α} {k j:Nat} {v:α} (h:j≠k):upd f k v j=f j:=if_neg h
theorem aG {α:Type} {f:Nat->α} {k:Nat} {v:α} (h:f k=v):upd f k v=f:=by
 funext j
 unfold upd
 split
 ·rename_i e;rw [e,h]
 rfl
theorem Inv.xE {Lt':iq->Prop} (I:Inv g V P U Lt pl sh sv) (h: ∀ l,Lt' l->Lt l\/JA g V pl l):Inv g V P U Lt' pl sh sv:=
 { I with uH:=λl hl=>(h l hl).elim (I.uH l) id }
theorem Inv.ana {P':Nat->Option fG} (I:Inv g V P U Lt pl sh sv) (h: ∀ n p,n<5->P' n=some p->P n=some p\/(U n=true/\FZ g V n p)):Inv g V P' U Lt pl sh sv:=
 { I with sJ:=λn hn p hp=>(h n p hn hp).elim (I.sJ n hn p) id }
theorem Inv.down (I:Inv g V P U Lt pl sh sv) (n:Nat):Inv g V (upd P n none) (upd U n false) Lt pl sh sv:=
 { I with
  sJ:=λk hk p hp=>by
   by_cases e:k=n
   ·subst e;rw [upd_same] at hp;cases hp
   rw [upd_ne e] at hp⊢;exact I.sJ k hk p hp
  JB:=by
   rcases I.JB with h | ⟨h1,h2,h3,h4⟩
   ·exact .inl h
   refine .inr ⟨h1,h2,?_,h4⟩;by_cases e:g.o=n
   ·rw [e,upd_same]
   rw [upd_ne e];exact h3
  upF:=λh=>by
   by_cases e:g.o=n
   ·rw [e,upd_same] at h;cases h
   rw [upd_ne e] at h;exact I.upF h }
theorem Inv.up (I:Inv g V P U Lt pl sh sv) (n:Nat) (h:n=g.o->g.t=g.m/\g.F=g.G.length):Inv g V P (upd U n true) Lt pl sh sv:=
 { I with
  sJ:=λk hk p hp=>by
   obtain ⟨h1,h2⟩:=I.sJ k hk p hp;refine ⟨?_,h2⟩;by_cases e:k=n
   ·rw [e,upd_same]
   rw [upd_ne e];exact h1
  JB:=by
   by_cases e:g.o=n
   ·obtain ⟨h1,h2⟩:=h e.symm
    rcases I.JB with h | ⟨h3,_⟩
    ·exact .inl h
    omega
   rw [upd_ne e];exact I.JB
  upF:=λh'=>by
   by_cases e:g.o=n
   ·exact (h e.symm).2
   rw [upd_ne e] at h';exact I.upF h' }
theorem FZ.mono {V':Nat->bF} {p:fG} (h:FZ g V n p) (hv:V' n=V n) (ho:(V g.o).role=3->(V' g.o).role=3/\(V' g.o).tg=(V g.o).tg):FZ g V' n p:=by
 cases p with
 | serve q evs op num a=>unfold FZ at h⊢;rw [hv];exact h
 | begun q b=>unfold FZ at h⊢;rw [hv];exact h
 | got q b last=>
  unfold FZ at h⊢;rw [hv];refine ⟨h.1,h.2.1,λhl=>?_⟩;obtain ⟨h1,h2,h3,h4⟩:=h.2.2 hl;obtain ⟨h5,h6⟩:=ho h2;exact ⟨h1,h5,h6.trans h3,h4⟩
 | iE q b at_=>unfold FZ at h⊢;rw [hv];exact h
 | forget q b=>unfold FZ at h⊢;rw [hv];exact h
theorem JA.mono {V':Nat->bF} (h:JA g V pl l) (ho:(V g.o).role=3->(V' g.o).role=3/\(V' g.o).tg=(V g.o).tg):JA g V' pl l:=by
 obtain ⟨h1,h2,h3⟩:=h;refine ⟨h1,λhk=>?_,h3⟩;obtain ⟨k,a,b,c,d,e,f,i,j⟩:=h2 hk;refine ⟨k,a,b,c,d,e,f,i,λhl=>?_⟩
 rcases j hl with j | ⟨j1,j2,j3,j4⟩
 ·exact .inl j
 obtain ⟨h5,h6⟩:=ho j2;exact .inr ⟨j1,h5,h6.trans j3,j4⟩
theorem Inv.Pj (I:Inv g V P U Lt pl sh sv) (hn:n<5) (hno:n≠g.o) (hp:P n=none) (hb:Oth g n b) (hge:(V n).ep<=b.ep):Inv g (upd V n b) P U Lt pl sh sv:=by
 have ho:upd V n b g.o=V g.o:=upd_ne (λe=>hno e.symm);exact { I with
  EZ:=by rw [ho];exact I.EZ
  L6:=by rw [ho];exact I.L6
  arl:=by rw [ho];exact I.arl
  Xb:=by rw [ho];exact I.Xb
  slF:=by rw [ho];exact I.slF
  zZ:=λk hk hko=>by
   by_cases e:k=n
   ·subst e;rw [upd_same];exact hb
   rw [upd_ne e];exact I.zZ k hk hko
  ge:=λk h1 h2=>by
   have:=I.ge k h1 h2;by_cases e:g.own k=n
   ·rw [e] at this⊢;rw [upd_same];omega
   rw [upd_ne e];exact this
  uH:=λl hl=>(I.uH l hl).mono λh=>by rw [ho];exact ⟨h,rfl⟩
  sJ:=λk hk p hk'=>by
   obtain ⟨h1,h2⟩:=I.sJ k hk p hk';refine ⟨h1,h2.mono (upd_ne λe=>?_) λh=>by rw [ho];exact ⟨h,rfl⟩⟩;subst e;rw [hp] at hk';cases hk' }
theorem Inv.Y4 (I:Inv g V P U Lt pl sh sv) (hp: ∀ p,P g.o=some p->FZ g (upd V g.o b) g.o p) (h1:b.ep=g.m) (h2:b.evs=g.G) (h3:b.role=1\/b.role=2\/b.role=3) (h4:b.role≠1->pl.epoch=g.m/\b.tg≠g.o/\0<=b.tg/\b.tg<5)
  (h5:(V g.o).role=3->b.role=3/\b.tg=(V g.o).tg) (h6:b.role=3->g.F=g.G.length):Inv g (upd V g.o b) P U Lt pl sh sv:=by
 have ho:upd V g.o b g.o=b:=upd_same _ _ _;exact { I with
  EZ:=by rw [ho];exact h1
  L6:=by rw [ho];exact h2
  arl:=by rw [ho];exact h3
  Xb:=by rw [ho];exact h4
  slF:=by rw [ho];exact h6
  zZ:=λk hk hko=>by rw [upd_ne hko];exact I.zZ k hk hko
  ge:=λk j1 j2=>by
   have:=I.ge k j1 j2;by_cases e:g.own k=g.o
   ·rw [e] at this⊢;rw [ho,h1];rw [I.EZ] at this;exact this
   rw [upd_ne e];exact this
  uH:=λl hl=>(I.uH l hl).mono λh=>by rw [ho];exact h5 h
  sJ:=λk hk p hk'=>by
   obtain ⟨j1,j2⟩:=I.sJ k hk p hk';refine ⟨j1,?_⟩;by_cases e:k=g.o
   ·subst e;exact hp p hk'
   exact j2.mono (upd_ne e) λh=>by rw [ho];exact h5 h }
theorem oM {l x:List Ev} {k:Nat} (h:k<=l.length):(l++x).take k=l.take k:=List.take_append_of_le_length h
theorem BN {l x:List Ev} {a k:Nat} (h:a+k<=l.length):((l++x).drop a).take k=(l.drop a).take k:=by
 rw [List.drop_append_of_le_length (by omega),List.take_append_of_le_length (by rw [List.length_drop];omega)]
def Gh.app (g:Gh) (e:Ev):Gh:={ g with G:=g.G++[e] }
theorem Gh.Ma {g:Gh} {e:Ev} {k:Nat} (h:g.bd k<=g.G.length):g.bd k<=(g.app e).bd k:=by
 unfold Gh.bd Gh.app at*;dsimp only
 split
 ·rw [List.length_append];omega
 exact Nat.le_refl _
theorem Inv.append {e:Ev} (I:Inv g V P U Lt pl sh sv) (hp:P g.o=none) (hu:U g.o=false) (hr:(V g.o).role≠3) (ht:g.t=g.m) (hg:good (g.G++[e])) (hb:b.ep=(V g.o).ep) (hb1:b.role=(V g.o).role) (hb2:b.tg=(V g.o).tg) (hb3:b.evs=g.G++[e]):
  Inv (g.app e) (upd V g.o b) P U Lt pl sh sv:=by
 have ho:upd V g.o b g.o=b:=upd_same _ _ _;have hoo:(g.app e).o=g.o:=rfl;have hle:=λk h1 h2=>I.aek (k:=k) h1 h2;have hF:g.F<=g.G.length:=by rcases I.JB with ⟨_,_,h⟩ | ⟨h,_⟩<;>omega
 refine ⟨I.m1,I.aiS,I.adj,I.dir,?_,?_,?_,?_,hg,?_,?_,?_,?_,?_,?_,?_,?_,I.sho,?_,I.svs⟩
 ·rw [hoo,ho,hb];exact I.EZ
 ·rw [hoo,ho,hb3];rfl
 ·rw [hoo,ho,hb1];exact I.arl
 ·rw [hoo,ho,hb1,hb2];exact I.Xb
 ·intro n hn hno;rw [hoo] at hno;rw [upd_ne hno]
  rcases I.zZ n hn hno with h | ⟨k,h1,h2,h3,h4,h5,h6,h7⟩ | ⟨k,h1,h2,h3,h4,h5,h6,h7,h8⟩
  ·exact .inl h
  ·refine .inr (.inl ⟨k,h1,h2,h3,h4,h5,?_,h7⟩)
   show _=(g.G++[e]).take _
   have:=I.Ow h3 h4;rw [h6];exact (oM (Nat.le_of_lt this)).symm
  refine .inr (.inr ⟨k,h1,h2,h3,h4,h5,?_,Nat.le_trans h7 (Gh.Ma (hle k h3 h4)),h8⟩)
  show _=(g.G++[e]).take _
  have:=hle k h3 h4;rw [oM (by omega)];exact h6
 ·intro k h1 h2;have:=I.ge k h1 h2;by_cases e:g.own k=g.o
  ·show (k:Int)<=(upd V g.o b (g.own k)).ep
   rw [e] at this⊢;rw [ho,hb];exact this
  show (k:Int)<=(upd V g.o b (g.own k)).ep
  rw [upd_ne e];exact this
 ·intro k h1 h2;obtain ⟨h3,h4⟩:=I.brk k h1 h2;refine ⟨?_,Nat.lt_of_lt_of_le h4 (Gh.Ma (hle (k+1) (by omega) h2))⟩
  show (g.G++[e])[g.len k]? =_
  rw [List.getElem?_append_left (I.Ow h1 h2)];exact h3
 ·intro l hl;obtain ⟨h1,h2,h3⟩:=I.uH l hl;refine ⟨h1,λhk=>?_,h3⟩;obtain ⟨k,a,b',c,d,e',f,i,j⟩:=h2 hk;have hbd:=hle k b' c;refine ⟨k,a,b',c,d,e',?_,Nat.le_trans i (Gh.Ma hbd),λhlast=>?_⟩
  ·show _=((g.G++[e]).drop _).take _
   rw [BN (by omega)];exact f
  rcases j hlast with j | ⟨_,j2,_⟩
  ·exact .inl j
  exact absurd j2 hr
 ·intro k hk p hk';obtain ⟨j1,j2⟩:=I.sJ k hk p hk';refine ⟨j1,?_⟩;by_cases e':k=g.o
  ·subst e';rw [hp] at hk';cases hk'
  cases p with
  | serve q evs op num a=>exact absurd j2.1 e'
  | begun q b'=>unfold FZ at j2⊢;rw [upd_ne e'];exact j2
  | got q b' last=>
   unfold FZ at j2⊢;rw [upd_ne e'];refine ⟨j2.1,λhl=>?_,λhl=>?_⟩
   ·obtain ⟨j,a1,a2,a3⟩:=j2.2.1 hl
    rcases I.zZ k hk e' with h | ⟨k',h,_⟩ | ⟨k',h,h1,h2,h3,_⟩
    ·omega
    ·omega
    have hj:=a3 k' h1;have hbd:=hle k' h2 h3;refine ⟨j,?_,a2,λk2 hk2=>?_⟩
    ·show _={ V k with evs:=(g.G++[e]).take j }
     rw [oM (by omega)];exact a1
    have:k2=k':=by omega
    subst this;exact Nat.le_trans hj (Gh.Ma hbd)
   exact absurd (j2.2.2 hl).2.1 hr
  | iE q b' at_=>exact absurd j2.1 e'
  | forget q b'=>unfold FZ at j2⊢;rw [upd_ne e'];exact j2
 ·rcases I.JB with ⟨h1,h2,h3⟩ | ⟨h1,_⟩
  ·exact .inl ⟨h1,h2,by show g.F<=(g.G++[e]).length;rw [List.length_append];omega⟩
  omega
 ·intro h;rw [hoo,hu] at h;cases h
 ·intro h;rw [hoo,ho,hb1] at h;exact absurd h hr
 show rp dP sv=some (aF ((g.G++[e]).take g.F)).1
 rw [oM hF];exact I.rps
theorem Ov.app {own:Nat->Nat} {t:Nat} (ht:1<=t): ∀ {Y5 sv:List kF},Ov own t sv->(∀ s∈Y5,s.ep=t/\s.nd=own t)->Ov own t (sv++Y5)
 | [],sv,h,_=>by rw [List.append_nil];exact h
 | s::r,sv,h,h2=>by
  have hs:=h2 s (by simp);have h1:Ov own t (sv++[s]):=by
   refine ⟨λx hx=>?_,λi a b ha hb=>?_,λx hx=>?_,λhn=>by simp at hn⟩
   ·rcases List.mem_append.1 hx with hx | hx
    ·exact h.each x hx
    rw [List.mem_singleton] at hx;subst hx;exact ⟨t,hs.1,ht,Nat.le_refl _,hs.2⟩
   ·by_cases hi:i+1<sv.length
    ·rw [List.getElem?_append_left (by omega)] at ha;rw [List.getElem?_append_left hi] at hb;exact h.two i a b ha hb
    have hil:i+1< (sv++[s]).length:=(List.getElem?_eq_some_iff.1 hb).1;rw [List.length_append,List.length_singleton] at hil;rw [List.getElem?_append_left (by omega)] at ha;rw [List.getElem?_append_right (by omega),show i+1-sv.length=0 by omega] at hb
    cases hb;refine .inl ?_;rw [hs.1];refine (h.last a ?_).symm;rw [List.getLast?_eq_getElem?,show sv.length-1=i by omega];exact ha
   rw [List.getLast?_concat] at hx
   cases hx;exact hs.1
  have:=Ov.app ht (Y5:=r) h1 λx hx=>h2 x (by simp [hx]);rwa [List.append_assoc] at this
theorem Ov.brk {own:Nat->Nat} {t:Nat} {s:kF} (h:Ov own t sv) (eP:s.ep=(t:Int)+1) (hnd:s.nd=own (t+1)) (hop:s.op=aM):Ov own (t+1) (sv++[s]):=by
 refine ⟨λx hx=>?_,λi a b ha hb=>?_,λx hx=>?_,λhn=>by simp at hn⟩
 ·rcases List.mem_append.1 hx with hx | hx
  ·obtain ⟨k,a,b,c,d⟩:=h.each x hx;exact ⟨k,a,b,by omega,d⟩
  rw [List.mem_singleton] at hx;subst hx;exact ⟨t+1,by rw [eP];rfl,by omega,Nat.le_refl _,hnd⟩
 ·by_cases hi:i+1<sv.length
  ·rw [List.getElem?_append_left (by omega)] at ha;rw [List.getElem?_append_left hi] at hb;exact h.two i a b ha hb
  have hil:i+1< (sv++[s]).length:=(List.getElem?_eq_some_iff.1 hb).1;rw [List.length_append,List.length_singleton] at hil;rw [List.getElem?_append_left (by omega)] at ha;rw [List.getElem?_append_right (by omega),show i+1-sv.length=0 by omega] at hb
  cases hb;refine .inr ⟨?_,hop⟩;rw [eP,h.last a (by rw [List.getLast?_eq_getElem?,show sv.length-1=i by omega];exact ha)]
 rw [List.getLast?_concat] at hx
 cases hx;rw [eP];rfl
theorem Ov.own {own own':Nat->Nat} {t:Nat} (h:Ov own t sv) (he: ∀ k,k<=t->own' k=own k):Ov own' t sv:=
 ⟨λs hs=>by obtain ⟨k,a,b,c,d⟩:=h.each s hs;exact ⟨k,a,b,c,by rw [he k c];exact d⟩,h.two,h.last,h.nil⟩
def Gh.all (g:Gh):Gh:={ g with F:=g.G.length,t:=g.m }
theorem Inv.told (I:Inv g V P U Lt pl sh sv) (ht:g.t=g.m) {Y5:List kF} (hrp:rp dP (sv++Y5)=some (aF g.G).1) (he: ∀ s∈Y5,s.ep=g.m/\s.nd=g.o):Inv g.all V P U Lt pl (upd sh g.o ((g.m:Int),(g.G.length:Int))) (sv++Y5):=
 { I with
  JB:= .inl ⟨rfl,upd_same _ _ _,Nat.le_refl _⟩
  upF:=λ_=>rfl
  slF:=λ_=>rfl
  sho:=λn hn hno=>by
   have:n≠g.o:=hno;rw [upd_ne this];exact I.sho n hn hno
  rps:=by show rp _ _=some (aF (g.G.take g.G.length)).1;rw [List.take_length];exact hrp
  svs:=by
   have h:=I.svs;rw [ht] at h;exact Ov.app I.m1 h he }
theorem Inv.Xc (I:Inv g V P U Lt pl sh sv) (ht: ¬ g.t=g.m) {s:kF} (hop:s.op=aM) (ha:s.ans=eu) (eP:s.ep=g.m) (hnd:s.nd=g.o):Inv g.all V P U Lt pl (upd sh g.o ((g.m:Int),(g.G.length:Int))) (sv++[s]):=by
 rcases I.JB with ⟨h,_⟩ | ⟨h1,h2,h3,h4,h5⟩
 ·exact absurd h ht
 have hF:g.F<g.G.length:=by omega
 have e:g.G=g.G.take g.F++[aM]:=by
  have:=nY hF;rw [h4,List.take_length] at this;have h6:g.G[g.F]=aM:=by
   have:=List.getElem?_eq_getElem hF;rw [h5] at this;exact (Option.some.inj this).symm
  rw [h6] at this;exact this
 have hgd:=I.gd;rw [e] at hgd;obtain ⟨s1,s2,s3⟩:=good_step hgd;exact { I with
  JB:= .inl ⟨rfl,upd_same _ _ _,Nat.le_refl _⟩
  upF:=λ_=>rfl
  slF:=λ_=>rfl
  sho:=λn hn hno=>by
   have:n≠g.o:=hno;rw [upd_ne this];exact I.sho n hn hno
  rps:=by
   show rp _ _=some (aF (g.G.take g.G.length)).1
   rw [List.take_length,Cw I.rps (by rw [hop];exact s1) (by rw [hop,ha];exact abA s2),hop,e,s3,<-e]
  svs:=by
   have h:=I.svs.brk (s:=s) (by rw [eP,<-h1];rfl) (by rw [hnd,h1];rfl) hop;rw [h1] at h;exact h }
theorem Inv.apM (I:Inv g V P U Lt pl sh sv) {p':Pl} (h:p'=⟨g.own g.m,g.m⟩):Inv g V P U Lt p' sh sv:=by
 subst h;exact { I with
  dir:=⟨g.m,rfl,I.m1,.inl rfl⟩
  Xb:=λhr=>⟨rfl,(I.Xb hr).2⟩
  uH:=λl hl=>by
   obtain ⟨h1,h2,h3,h4⟩:=I.uH l hl;refine ⟨h1,h2,h3,λhk=>?_⟩;obtain ⟨k,a,b,c,d⟩:=h4 hk;refine ⟨k,a,b,?_,d⟩;obtain ⟨d',hd,_,hd2⟩:=I.dir;rw [hd] at c;dsimp only at c⊢;omega }
def Gh.act (g:Gh) (T:Nat):Gh:={ g with m:=g.m+1,own:=upd g.own (g.m+1) T,len:=upd g.len g.m g.G.length,G:=g.G++[aM] }
theorem Inv.activate {T:Nat} (I:Inv g V P U Lt pl sh sv) (hr:(V g.o).role=3) (pK:(V g.o).tg=T) (hp:P T=none) (hu:U T=false) (hg:good (g.G++[aM])) (hge:(V T).ep<=(g.m:Int)+1):
  Inv (g.act T) (upd V T ⟨1,(g.m:Int)+1,0,0,0,g.G++[aM]⟩) P U Lt pl sh sv:=by
 obtain ⟨ha1,ha2,ha3,ha4⟩:=I.Xb (by omega);rw [pK] at ha2 ha4;have hT5:T<5:=by omega
 have hTo:T≠g.o:=by omega
 have hF:=I.slF hr;have htm:g.t=g.m/\sh g.o=((g.m:Int),(g.F:Int)):=by
  rcases I.JB with h | ⟨_,_,_,h,_⟩
  ·exact ⟨h.1,h.2.1⟩
  omega
 have hno:(g.act T).o=T:=upd_same _ _ _;have hown: ∀ k,k<=g.m->(g.act T).own k=g.own k:=λk hk=>upd_ne (by omega);have Kn:(g.act T).own (g.m+1)=T:=upd_same _ _ _;have hm:(g.act T).m=g.m+1:=rfl;have hG:(g.act T).G=g.G++[aM]:=rfl;have hlen: ∀ k,k<g.m->(g.act T).len k=g.len k:=λk hk=>upd_ne (by omega);have hbd: ∀ k,k<=g.m->(g.act T).bd k=g.bd k:=λk hk=>by
  unfold Gh.bd;rw [if_neg (by rw [hm];omega)];by_cases e:k=g.m
  ·rw [if_pos e];subst e;exact upd_same _ _ _
  rw [if_neg e];exact hlen k (by omega)
 have hvT:upd V T (⟨1,(g.m:Int)+1,0,0,0,g.G++[aM]⟩:bF) (g.act T).o=⟨1,(g.m:Int)+1,0,0,0,g.G++[aM]⟩:=by rw [hno];exact upd_same _ _ _
 have hle:=λk h1 h2=>I.aek (k:=k) h1 h2;refine ⟨by rw [hm];omega,?_,?_,?_,by rw [hvT,hm];rfl,by rw [hvT,hG],by rw [hvT];exact .inl rfl,λh=>by rw [hvT] at h;exact absurd rfl h,by rw [hG];exact hg,?_,?_,?_,?_,?_,?_,?_,λh=>by rw [hvT] at h;exact absurd h (by simp),?_,?_,?_⟩
 ·intro k h1 h2;rw [hm] at h2;by_cases e:k=g.m+1
  ·rw [e,Kn];exact hT5
  rw [hown k (by omega)];exact I.aiS k h1 (by omega)
 ·intro k h1 h2;rw [hm] at h2;by_cases e:k=g.m
  ·rw [hown k (by omega),e,Kn];exact λh=>hTo h.symm
  rw [hown k (by omega),hown (k+1) (by omega)];exact I.adj k h1 (by omega)
 ·obtain ⟨d,h1,h2,h3⟩:=I.dir;have:d=g.m:=by rw [h1] at ha1;dsimp only at ha1;omega
  refine ⟨d,?_,h2,.inr (by rw [hm,this])⟩;rw [h1,hown d (by omega)]
 ·intro n hn hn2;rw [hno] at hn2;rw [upd_ne hn2];by_cases e:n=g.o
  ·subst e;refine .inr (.inl ⟨g.m,hr,I.EZ,I.m1,by rw [hm];omega,hown _ (Nat.le_refl _),?_,?_⟩)
   ·rw [hG,show (g.act T).len g.m=g.G.length from upd_same _ _ _,List.take_left];exact I.L6
   rw [Kn];exact pK
  rcases I.zZ n hn e with h | ⟨k,h1,h2,h3,h4,h5,h6,h7⟩ | ⟨k,h1,h2,h3,h4,h5,h6,h7,h8⟩
  ·exact .inl ⟨h.1,h.2.1,by rw [hm];have:=h.2.2;omega⟩
  ·refine .inr (.inl ⟨k,h1,h2,h3,by rw [hm];omega,by rw [hown k (by omega)];exact h5,?_,by rw [hown (k+1) (by omega)];exact h7⟩);rw [hlen k h4,hG,oM (Nat.le_of_lt (I.Ow h3 h4))];exact h6
  refine .inr (.inr ⟨k,h1,h2,h3,by rw [hm];omega,by rw [hown k h4];exact h5,?_,by rw [hbd k h4];exact h7,λhk=>?_⟩)
  ·have:=hle k h3 h4;rw [hG,oM (by omega)];exact h6
  by_cases e2:k=g.m
  ·rw [e2,Kn];exact λh=>hn2 h.symm
  rw [hown (k+1) (by omega)];exact h8 (by omega)
 ·intro k h1 h2;rw [hm] at h2;by_cases e:k=g.m+1
  ·rw [e,Kn,upd_same];dsimp only;omega
  rw [hown k (by omega)];have:=I.ge k h1 (by omega);by_cases e2:g.own k=T
  ·rw [e2,upd_same];dsimp only;omega
  rw [upd_ne e2];exact this
 ·intro k h1 h2;rw [hm] at h2;by_cases e:k=g.m
  ·subst e;rw [show (g.act T).len g.m=g.G.length from upd_same _ _ _,hG];refine ⟨by rw [List.getElem?_append_right (Nat.le_refl _),Nat.sub_self];rfl,?_⟩;unfold Gh.bd;rw [if_pos hm.symm,hG,List.length_append];exact Nat.lt_succ_self _
  obtain ⟨h3,h4⟩:=I.brk k h1 (by omega);rw [hlen k (by omega),hbd (k+1) (by omega),hG,List.getElem?_append_left (I.Ow h1 (by omega))];exact ⟨h3,h4⟩
 ·intro l hl;obtain ⟨h1,h2,h3,h4⟩:=I.uH l hl;refine ⟨λhk=>?_,λhk=>?_,λhk hd=>?_,λhk=>?_⟩
  ·obtain ⟨k,a,b,c,d⟩:=h1 hk;exact ⟨k,a,b,by rw [hm];omega,by rw [hown k c];exact d⟩
  ·obtain ⟨k,a,b,c,d,e,f,i,j⟩:=h2 hk;have:=hle k b c;refine ⟨k,a,b,by rw [hm];omega,by rw [hown k c];exact d,e,by rw [hG,BN (by omega)];exact f,by rw [hbd k c];exact i,λhlast=> .inl ?_⟩
   rcases j hlast with ⟨j1,j2⟩ | ⟨j1,j2,j3,j4⟩
   ·exact ⟨by rw [hm];omega,by rw [hown (k+1) (by omega)];exact j2⟩
   subst j1;exact ⟨by rw [hm];omega,by rw [Kn,<-pK];exact j3⟩
  ·obtain ⟨k,a,b,c,d⟩:=h3 hk hd;exact ⟨k,a,b,by rw [hm];omega,by rw [hown (k+1) (by omega)];exact d⟩
  obtain ⟨k,a,b,c,d⟩:=h4 hk;exact ⟨k,a,b,c,by rw [hown k (by omega)];exact d⟩
 ·intro n hn p hp';have hnT:n≠T:=λe=>by subst e;rw [hp] at hp';cases hp'
  obtain ⟨j1,j2⟩:=I.sJ n hn p hp';refine ⟨j1,?_⟩
  cases p with
  | serve q evs op num a=>
   obtain ⟨k1,k2,_⟩:=j2;subst k1;unfold serves at k2;omega
  | begun q b=>
   unfold FZ at j2⊢;obtain ⟨k,k1,k2,k3,k4⟩:=j2;rw [upd_ne hnT];exact ⟨k,by rw [hown k k3];exact k1,k2,by rw [hm];omega,k4⟩
  | got q b last=>
   unfold FZ at j2⊢;rw [upd_ne hnT];refine ⟨j2.1,λhl=>?_,λhl=>?_⟩
   ·obtain ⟨j,a1,a2,a3⟩:=j2.2.1 hl
    rcases I.zZ n hn (λe=>by subst e;omega) with h | ⟨k',h,_⟩ | ⟨k',h,h1,h2,h3,_⟩
    ·omega
    ·omega
    have hj:=a3 k' h1;have:=hle k' h2 h3;refine ⟨j,by rw [hG,oM (by omega)];exact a1,a2,λk2 hk2=>?_⟩;have:k2=k':=by omega
    subst this;rw [hbd k2 h3];exact hj
   have:=(j2.2.2 hl).2.2.1;omega
  | iE q b at_=>
   obtain ⟨k1,k2,_⟩:=j2;subst k1;omega
  | forget q b=>
   unfold FZ at j2⊢;rw [upd_ne hnT];exact ⟨j2.1,j2.2.1,by rw [hm];have:=j2.2.2;omega⟩
 ·refine .inr ⟨by show g.t+1=g.m+1;omega,?_,?_,?_,?_⟩
  ·rw [hno,hm];have:=I.sho T hT5 hTo;omega
  ·rw [hno];exact hu
  ·show g.F+1=(g.G++[aM]).length;rw [List.length_append,hF];rfl
  show (g.G++[aM])[g.F]? =_
  rw [hF,List.getElem?_append_right (Nat.le_refl _),Nat.sub_self];rfl
 ·intro h;rw [hno,hu] at h;cases h
 ·intro n hn hn2;rw [hno] at hn2;rw [hm];by_cases e:n=g.o
  ·subst e;rw [htm.2];dsimp only;omega
  have:=I.sho n hn e;omega
 ·show rp dP sv=some (aF ((g.G++[aM]).take g.F)).1
  rw [oM (by omega)];exact I.rps
 exact I.svs.own λk hk=>hown k (by show k<=g.m;have:k<=g.t:=hk;omega)
end
def jH (b:bF):bF:=if b.role=2 then ⟨1,b.ep,0,0,0,b.evs⟩ else b
def vB (f:Nat->bF):List bF:=[f 0,f 1,f 2,f 3]
section
variable {f:Nat->bF} {q:Nat} {b:bF} {rs:List dz} {r:dz}
theorem abC (hq:q<4):GX (vB f) (q:Int)=f q:=by
 have h:q=0\/q=1\/q=2\/q=3:=by omega
 rcases h with rfl | rfl | rfl | rfl<;>rfl
theorem SC (hq:q<4):(vB f).set q b=vB (upd f q b):=by
 have h:q=0\/q=1\/q=2\/q=3:=by omega
 rcases h with rfl | rfl | rfl | rfl<;>rfl
theorem zi {f':Nat->bF} (h: ∀ q,q<4->f q=f' q):vB f=vB f':=by unfold vB;rw [h 0 (by omega),h 1 (by omega),h 2 (by omega),h 3 (by omega)]
def gZ (rs:List dz) (f:Nat->bF):Prop:=(∀ r∈rs,aJ r=0)/\(allM rs).1=some (vB f)
theorem JC: ∀ (a:List dz) (i:Nat) (T T':List bF),(mX a i T).1=some T'->mX (a++[r]) i T=mX [r] (i+a.length) T'
 | [],i,T,T',h=>by
  rw [mX] at h
  cases h;rfl
 | x::a,i,T,T',h=>by
  rw [List.cons_append,mX];rw [mX] at h
  split at h
  ·cases h
  rename_i h1
  rw [if_neg h1]
  split at h
  ·cases h
  rename_i h2
  rw [if_neg h2,JC a (i+1) _ T' h,List.length_cons,show i+1+a.length=i+(a.length+1) by omega]
theorem gZ.nil:gZ [] λ_=>bG:=⟨λr h=>by simp at h,rfl⟩
theorem gZ.snoc (h:gZ rs f) (hr:aJ r=0) (hq:q<4) (hrq:r.queue=q) (ha:dM (f q) r=(b,0)):gZ (rs++[r]) (upd f q b):=by
 refine ⟨λx hx=>?_,?_⟩
 ·rcases List.mem_append.1 hx with hx | hx
  ·exact h.1 x hx
  rw [List.mem_singleton] at hx;subst hx;exact hr
 have h2:=h.2;unfold allM at h2⊢;rw [JC _ _ _ _ h2,mX,hrq,abC hq,if_neg (by simpa using hr),if_neg (by rw [ha];simp),ha,show ((q:Int)).toNat=q from rfl,SC hq,mX]
theorem gZ.congr {f':Nat->bF} (h:gZ rs f) (he: ∀ q,q<4->f q=f' q):gZ rs f':=⟨h.1,by rw [h.2,zi he]⟩
theorem gZ.read {t data:List UInt8} {syn:Int} (h:gZ rs f) (hd:data=bC rs++t) (ht:(firstM t).2=0) (hz:data.length<=100000) (h0:0<=syn) (h1:syn<=data.length):
  jo data syn=(bC rs,min syn (bC rs).length,0)/\Bn data syn=some (vB f)/\ ∀ q,q<4->bq data syn q=f q:=by
 have hm:cu data syn=true:=by simp [cu];omega
 have hrd:bL data=(rs,(bC rs).length):=by rw [hd];exact xk h.1 ht
 have hrep:jo data syn=(bC rs,min syn (bC rs).length,0):=by
  unfold jo;rw [if_pos hm,hrd,hd,List.take_left]
 have hl:(bC rs).length<=data.length:=by rw [hd,List.length_append];omega
 have hrb:Bn data syn=some (vB f):=by
  unfold Bn;rw [hrep];unfold sV;rw [if_pos (by simp [cu];omega)];have:=xk (t:=[]) h.1 wm;rw [List.append_nil] at this;dsimp only;rw [this];exact h.2
 refine ⟨hrep,hrb,λq hq=>?_⟩;unfold bq;rw [hrb];exact abC hq
theorem fM (h:aj b=0):bg b:=(dR h).1
theorem iZ (h:aj b=0):good b.evs:=(dR h).2
theorem nR (h:bg b) (hr:b.role≠0) (l:List Ev):bg ⟨b.role,b.ep,b.fr,b.tg,b.rd,l⟩:=h.elim (λh=>absurd h.1 hr) .inr
theorem Aa {ep:Int} (h:1<=ep) (h1:ep<=1048576) (l:List Ev):bg ⟨1,ep,0,0,0,l⟩:= .inr ⟨h,h1,.inl ⟨rfl,rfl,rfl,rfl⟩⟩
theorem wu {k ep pe:Int} {e:Ev} (hk:1<=k/\k<=7) (hq:q<4) (eP:0<=ep/\ep<=1048576) (hpe:0<=pe/\pe<=4) (he:if jQ k=true then aZ e=0 else e=aL):aJ (fq k q ep pe e)=0:=by
 unfold aJ fq;dsimp only;rw [if_neg (by simp [jN];omega),if_neg (by simp [jN];omega)];by_cases hh:jQ k=true
 ·rw [if_pos hh] at he⊢;exact he
 rw [if_neg hh] at he⊢;rw [if_pos he]
theorem Ng (hb:aj b=0) (hr:b.role=0) (he:b.ep<1) (hq:q<4):iL b 1=(⟨1,1,0,0,0,[]⟩,0)/\dM b (fq 1 q 1 0 aL)=(⟨1,1,0,0,0,[]⟩,0):=by
 have hm:iL b 1=(⟨1,1,0,0,0,[]⟩,0):=by unfold iL;rw [if_neg (by simp [hb]),if_neg (by omega),if_neg (by simp [hr]),if_neg (by omega)]
 have ha:jP b (fq 1 q 1 0 aL)=(⟨1,1,0,0,0,[]⟩,0):=by unfold jP fq;simpa using hm
 exact ⟨hm,by rw [jK hb (wu (by omega) hq (by omega) (by omega) (by decide)) (by simp [fq];omega) (by rw [ha]),ha]⟩
theorem Qo {e:Ev} {ep:Int} (hb:aj b=0) (hr:b.role=1) (eP:b.ep=ep) (hq:q<4) (he:aZ e=0) (hg:good (b.evs++[e])):dM b (fq 2 q ep 0 e)=({ b with evs:=b.evs++[e] },0)/\aJ (fq 2 q ep 0 e)=0:=by
 subst eP;have hs:=fM hb;unfold bg at hs;have hrec:aJ (fq 2 q b.ep 0 e)=0:=wu (by omega) hq (by omega) (by omega) (by simpa [jQ] using he);have hok:aj ⟨b.role,b.ep,b.fr,b.tg,b.rd,b.evs++[e]⟩=0:=lU (nR (fM hb) (by omega) _) hg;have ha:jP b (fq 2 q b.ep 0 e)=({ b with evs:=b.evs++[e] },0):=by
  have h1:=abv (b:=b) (qu:=q) (e:=b.ep) (pe:=0) (x:=e);rw [if_neg (λh=>h ⟨hr,rfl⟩)] at h1;unfold Bl at h1;rw [if_neg (λh=>h hok)] at h1;exact h1
 exact ⟨by rw [jK hb hrec (by simp [fq];omega) (by rw [ha]),ha],hrec⟩
theorem Y6 {e:Ev} {ep:Int} (hb:aj b=0) (hr:b.role=4) (eP:b.ep=ep) (hq:q<4) (he:aZ e=0) (hg:good (b.evs++[e])):dM b (fq 5 q ep 0 e)=({ b with evs:=b.evs++[e] },0)/\aJ (fq 5 q ep 0 e)=0/\aj { b with evs:=b.evs++[e] }=0:=by
 subst eP;have hs:=fM hb;unfold bg at hs;have hrec:aJ (fq 5 q b.ep 0 e)=0:=wu (by omega) hq (by omega) (by omega) (by simpa [jQ] using he);have hok:aj ⟨b.role,b.ep,b.fr,b.tg,b.rd,b.evs++[e]⟩=0:=lU (nR (fM hb) (by omega) _) hg;have ha:jP b (fq 5 q b.ep 0 e)=({ b with evs:=b.evs++[e] },0):=by
  have h1:=abw (b:=b) (qu:=q) (e:=b.ep) (pe:=0) (x:=e);rw [if_neg (λh=>h ⟨hr,rfl⟩)] at h1;unfold Bl at h1;rw [if_neg (λh=>h hok)] at h1;exact h1
 exact ⟨by rw [jK hb hrec (by simp [fq];omega) (by rw [ha]),ha],hrec,hok⟩
theorem agA {ep tg:Int} (hb:aj b=0) (hr:b.role=1) (eP:b.ep=ep) (hq:q<4) (ht:0<=tg/\tg<=4):dM b (fq 3 q ep tg aL)=(⟨3,b.ep,0,tg,0,b.evs⟩,0)/\aJ (fq 3 q ep tg aL)=0:=by
 subst eP;have hs:=fM hb;unfold bg at hs;have hrec:aJ (fq 3 q b.ep tg aL)=0:=wu (by omega) hq (by omega) (by omega) (by decide);have ha:jP b (fq 3 q b.ep tg aL)=(⟨3,b.ep,0,tg,0,b.evs⟩,0):=by
  unfold jP fq TJ;have h1:b.fr=0:=by omega
  have h2:b.rd=0:=by omega
  simp [hr,h1,h2]
 exact ⟨by rw [jK hb hrec (by simp [fq];omega) (by rw [ha]),ha],hrec⟩
theorem acX {ep fr:Int} (hb:aj b=0) (hr:b.role=0\/b.role=4) (eP:b.ep<ep) (h1:1<=ep/\ep<=1048576) (hq:q<4) (ht:0<=fr/\fr<=4):dM b (fq 4 q ep fr aL)=(⟨4,ep,fr,0,0,[]⟩,0)/\aJ (fq 4 q ep fr aL)=0:=by
 have hrec:aJ (fq 4 q ep fr aL)=0:=wu (by omega) hq (by omega) (by omega) (by decide);have ha:jP b (fq 4 q ep fr aL)=(⟨4,ep,fr,0,0,[]⟩,0):=by
  unfold jP fq dn;rw [if_neg (by simp),if_pos rfl];dsimp only;rw [if_neg (by simp [hb]),if_neg (by omega),if_neg (by omega),if_neg (by omega),if_neg (by omega)]
 exact ⟨by rw [jK hb hrec (by simp [fq];omega) (by rw [ha]),ha],hrec⟩
theorem aly {ep:Int} (hb:aj b=0) (hr:b.role=4) (eP:b.ep=ep) (hq:q<4) (hg:good (b.evs++[aM])):dM b (fq 6 q ep 0 aL)=(⟨1,b.ep,0,0,0,b.evs++[aM]⟩,0)/\aJ (fq 6 q ep 0 aL)=0:=by
 subst eP;have hs:=fM hb;unfold bg at hs;have hrec:aJ (fq 6 q b.ep 0 aL)=0:=wu (by omega) hq (by omega) (by omega) (by decide);have hok:aj ⟨1,b.ep,0,0,0,b.evs++[aM]⟩=0:=lU (Aa (by omega) (by omega) _) hg;have hi:cK b b.ep b.evs.length [] true=(⟨1,b.ep,0,0,0,b.evs++[aM]⟩,0):=by
  unfold cK;rw [if_neg (by simp [hb]),if_neg (by simp [hr]),if_neg (by simp),if_neg (by omega),if_neg (by simp),if_neg (by simp)];simp only [if_pos,List.drop_nil,List.append_nil];rw [if_neg (by simpa using hok)]
 have ha:jP b (fq 6 q b.ep 0 aL)=(⟨1,b.ep,0,0,0,b.evs++[aM]⟩,0):=by
  unfold jP fq;simp [hr,hi]
 exact ⟨by rw [jK hb hrec (by simp [fq];omega) (by rw [ha]),ha],hrec⟩
theorem Y7 {ep:Int} (hb:aj b=0) (hr:b.role=3) (eP:b.ep=ep) (hq:q<4):dM b (fq 7 q ep 0 aL)=(⟨0,b.ep,0,0,0,[]⟩,0)/\aJ (fq 7 q ep 0 aL)=0:=by
 subst eP;have hs:=fM hb;unfold bg at hs;have hrec:aJ (fq 7 q b.ep 0 aL)=0:=wu (by omega) hq (by omega) (by omega) (by decide);have ha:jP b (fq 7 q b.ep 0 aL)=(⟨0,b.ep,0,0,0,[]⟩,0):=by
  unfold jP fq fP;simp [hr,hb];omega
 exact ⟨by rw [jK hb hrec (by simp [fq];omega) (by rw [ha]),ha],hrec⟩
theorem tC (h:aj b=0):aj (jH b)=0:=by
 unfold jH
 split
 ·rename_i hr
  have hs:=fM h;unfold bg at hs;exact lU (Aa (by omega) (by omega) _) (iZ (b:=b) h)
 exact h
theorem SE:(jH b).ep=b.ep:=by unfold jH;split<;>rfl
theorem agB:(jH b).evs=b.evs:=by unfold jH;split<;>rfl
theorem IG:(jH b).role≠2:=by unfold jH;split<;>first | assumption | simp
theorem Dl (h:b.role≠2):jH b=b:=if_neg h
theorem xG (h:serves b) (hb:aj b=0):jH b=⟨1,b.ep,0,0,0,b.evs⟩:=by
 unfold jH
 split
 ·rfl
 have hs:=fM hb;unfold bg at hs;unfold serves at h;obtain ⟨ro,ep,fr,tg,rd,evs⟩:=b;dsimp only at*;simp only [bF.mk.injEq,and_true,true_and];omega
end
def fG.q:fG->Nat
 | .serve q .. =>q
 | .begun q _=>q
 | .got q .. =>q
 | .iE q .. =>q
 | .forget q _=>q
def fG.b (bs:Nat->bF):fG->bF
 | .serve q evs _ _ _=>{ bs q with evs:=evs }
 | .begun _ b=>b
 | .got _ b _=>b
 | .iE _ b _=>b
 | .forget _ b=>b
def fG.rs (bs:Nat->bF):fG->List dz
 | .serve q _ op _ _=>[fq 2 q (bs q).ep 0 op]
 | .begun q b=>[fq 4 q b.ep b.fr aL]
 | .got q b last=>tu q b (bs q).evs.length (b.evs.length-if last=true then 1 else 0) last
 | .iE q b _=>[fq 3 q b.ep b.tg aL]
 | .forget q _=>[fq 7 q (bs q).ep 0 aL]
def fG.ok (bs:Nat->bF):fG->Prop
 | .serve q evs op _ _=>serves (bs q)/\evs=(bs q).evs++[op]/\aZ op=0/\good evs
 | .begun q b=>((bs q).role=0\/(bs q).role=4)/\ ∃ e f,b=⟨4,e,f,0,0,[]⟩/\(bs q).ep<e/\1<=e/\e<=1048576/\0<=f/\f<=4
 | .got q b last=>(bs q).role=4/\good b.evs/\(∀ e∈b.evs,aZ e=0)/\(last=false->b={ bs q with evs:=b.evs }/\(bs q).evs=b.evs.take (bs q).evs.length)/\
   (last=true-> ∃ es,b=⟨1,(bs q).ep,0,0,0,es++[aM]⟩/\(bs q).evs=es.take (bs q).evs.length)
 | .iE q b _=>(bs q).role=2/\b={ bs q with role:=3,rd:=0 }
 | .forget q b=>(bs q).role=3/\b=⟨0,(bs q).ep,0,0,0,[]⟩
def iq.ok (l:iq):Prop:=l.q<4/\l.evs.length<=2000/\(l.kd=0\/l.kd=2\/l.kd=3\/l.kd=4\/l.kd=6)
theorem F3 {b:bF} {hv:Int} (h:aj b=0) (h2:(bK b hv).2=0):aj (bK b hv).1=0:=by
 have hb:=dR h;have hs:=hb.1;unfold bg at hs;unfold bK at h2⊢;rw [if_neg (λe=>e h)] at h2⊢;by_cases c1:b.role≠2/\b.role≠3
 ·rw [if_pos c1] at h2;exact absurd h2 (by decide)
 rw [if_neg c1] at h2⊢;by_cases c2: ¬ (0<=hv/\hv<=b.evs.length)
 ·rw [if_pos c2] at h2;exact absurd h2 (by decide)
 rw [if_neg c2] at h2⊢;by_cases c3:b.role=3
 ·rw [if_pos c3];exact h
 rw [if_neg c3];have key: ∀ r d,bg ⟨r,b.ep,b.fr,b.tg,d,b.evs⟩->aj ⟨r,b.ep,b.fr,b.tg,d,b.evs⟩=0:=λr d h=>lU h hb.2;by_cases c4:hv=b.evs.length\/b.rd=4
 ·rw [if_pos c4];refine key 3 0 ?_;clear h2 key h hb;unfold bg;dsimp only;omega
 rw [if_neg c4];have hr:b.role=2:=by clear h2 key h hb c2 c4;omega
 have hd: ¬ b.rd=4:=λe=>c4 (.inr e);rw [hr] at hs;have hs2:1<=b.ep/\b.ep<=1048576/\b.fr=0/\0<=b.tg/\b.tg<5/\0<=b.rd/\b.rd<=4:=by clear h2 key h hb c1 c2 c3 c4;omega
 refine key b.role (b.rd+1) (.inr ⟨hs2.1,hs2.2.1,.inr (.inl ⟨hr,hs2.2.2.1,hs2.2.2.2.1,hs2.2.2.2.2.1,?_,?_⟩)⟩)
 ·show 0<=b.rd+1
  have:=hs2.2.2.2.2.2;clear h2 key h hb c1 c2 c3 c4 hs;omega
 show b.rd+1<=4
 have:=hs2.2.2.2.2.2;clear h2 key h hb c1 c2 c3 c4 hs;omega
structure Bo (m m':Cl) (n:Nat):Prop where
 zZ: ∀ j,j≠n->m'.ah j=m.ah j
 up:(m'.ah n).up=(m.ah n).up
 l9:(m'.ah n).inbox=(m.ah n).inbox
 Qp:(m'.ah n).turn=(m.ah n).turn
 mY:(∀ q,q<4->aj ((m.ah n).bs q)=0)-> ∀ q,q<4->aj ((m'.ah n).bs q)=0
 fly:m'.fly.length<=m.fly.length+1
 aQ:m'.aQ.length<=m.aQ.length+1
section
variable {m m':Cl} {n:Nat} {l:iq}
theorem zk (h:m'.ah=m.ah) (h1:m'.fly.length<=m.fly.length+1) (h2:m'.aQ.length<=m.aQ.length+1):Bo m m' n:=
 ⟨λj _=>by rw [h],by rw [h],by rw [h],by rw [h],λhb=>by rw [h];exact hb,h1,h2⟩
theorem oN:Bo m m n:=zk rfl (Nat.le_succ _) (Nat.le_succ _)
theorem Cx {X:Nd} (h:m'.ah=upd m.ah n X) (h0:X.up=(m.ah n).up) (h3:X.inbox=(m.ah n).inbox) (h4:X.turn=(m.ah n).turn) (h5:(∀ q,q<4->aj ((m.ah n).bs q)=0)-> ∀ q,q<4->aj (X.bs q)=0) (h1:m'.fly.length<=m.fly.length+1) (h2:m'.aQ.length<=m.aQ.length+1):Bo m m' n:=by
 have e:m'.ah n=X:=by rw [h];exact if_pos rfl
 exact ⟨λj hj=>by rw [h];exact if_neg hj,by rw [e,h0],by rw [e,h3],by rw [e,h4],λhb=>by rw [e];exact h5 hb,h1,h2⟩
theorem Qq {q:Nat} {op:Ev} {num:Int} {a:iM}:Bo m (m.done n q op num a) n:=by
 unfold Cl.done
 split
 ·exact zk rfl (by simp [Cl.send,Cl.tell]) (by simp [Cl.send,Cl.tell])
 exact zk rfl (by simp [Cl.send]) (by simp [Cl.send])
theorem Qr {q:Nat}:Bo m (m.have_ n q) n:=zk rfl (by simp [Cl.have_,Cl.send]) (by simp [Cl.have_,Cl.send])
theorem acY {q:Nat} {a:Int}:Bo m (m.part n q a) n:=by
 unfold Cl.part
 split
 ·exact oN
 exact zk rfl (by simp [Cl.send]) (by simp [Cl.send])
theorem Mc {X x:Nd} {rs:List dz} (h:X.write rs=some x):x.up=X.up/\x.inbox=X.inbox/\x.turn=X.turn/\x.bs=X.bs:=by
 unfold Nd.write at h;rw [Option.map_eq_some_iff] at h;obtain ⟨d,_,rfl⟩:=h;exact ⟨rfl,rfl,rfl,rfl⟩
theorem Dm {x:Nd} {p:fG} {rs:List dz} (h:(m.ah n).write rs=some x):Bo m (m.put n { x with pend:=some p }) n:=by
 obtain ⟨h1,h2,h3,h4⟩:=Mc h;exact Cx rfl h1 h2 h3 (λhb q hq=>by show aj (x.bs q)=0;rw [h4];exact hb q hq) (Nat.le_succ _) (Nat.le_succ _)
theorem Bo.alz {m2:Cl} (h:Bo m m2 n) (h1:m2.fly.length<=m.fly.length) (h2:m2.aQ.length<=m.aQ.length) (h3:Bo m2 m' n):Bo m m' n:=
 ⟨λj hj=>(h3.zZ j hj).trans (h.zZ j hj),h3.up.trans h.up,h3.l9.trans h.l9,h3.Qp.trans h.Qp,λhb=>h3.mY (h.mY hb),by have:=h3.fly;omega,by have:=h3.aQ;omega⟩
theorem xH (hq:l.q<4):Bo m (m.handle n l) n:=by
 unfold Cl.handle
 split
 ·unfold Cl.serve
  split
  ·exact Qq
  split
  ·exact Qq
  exact Dm (by assumption)
 split
 ·unfold Cl.offered
  split
  ·exact oN
  split
  ·exact Qr
  split
  ·exact oN
  exact Dm (by assumption)
 split
 ·unfold Cl.caught
  split
  ·exact oN
  split
  ·exact oN
  rename_i h1 h2
  split
  ·refine Bo.alz (m2:=m.aW n l.q (bK ((m.ah n).bs l.q) l.at_).1) (Cx rfl rfl rfl rfl (λhb q hq'=>?_) (Nat.le_succ _) (Nat.le_succ _)) (Nat.le_refl _) (Nat.le_refl _) acY
   show aj (upd (m.ah n).bs l.q (bK ((m.ah n).bs l.q) l.at_).1 q)=0
   unfold upd
   split
   ·exact F3 (hb _ hq) (by omega)
   exact hb q hq'
  split
  ·exact oN
  exact Dm (by assumption)
 split
 ·unfold Cl.got
  split
  ·exact oN
  split
  ·exact Qr
  split
  ·exact oN
  split
  ·exact oN
  exact Dm (by assumption)
 unfold Cl.learnt
 split
 ·exact Cx rfl rfl rfl rfl (λhb=>hb) (Nat.le_succ _) (Nat.le_succ _)
 split
 ·exact Cx rfl rfl rfl rfl (λhb=>hb) (Nat.le_succ _) (Nat.le_succ _)
 rename_i x h
 obtain ⟨h1,h2,h3,h4⟩:=Mc h;exact Cx rfl h1 h2 h3 (λhb q hq=>by show aj (x.bs q)=0;rw [h4];exact hb q hq) (Nat.le_succ _) (Nat.le_succ _)
end
end
section
open ChangeShapes WideShapes ChangeAt RowKit
structure LX where
 l:iq
 A:Option Addr
 c:Nat
def acZ (l:iq) (s:Value):List Value:=[iV l.kd,iV l.fr,iV l.tg,iV ((l.q:Nat):Int),iV l.ep,iV l.at_,iV l.nd,iV l.op.kind,iV l.op.producer,iV l.op.id,iV l.op.body,iV l.op.aN,iV l.op.hno,s,.bool l.last,iV l.num,
 iV l.bE.num,iV l.bE.ans.code,iV l.bE.ans.eP,iV l.bE.ans.hno,iV l.bE.ans.body,iV l.bE.pl.node,iV l.bE.pl.epoch]
def LX.cells (x:LX):List Value:=acZ x.l (.slice x.A x.l.evs.length x.c)
def LX.row (x:LX):Array Value:=x.cells.toArray
def vo.cells (t:vo):List Value:=[iV t.num,iV t.ans.code,iV t.ans.eP,iV t.ans.hno,iV t.ans.body,iV t.pl.node,iV t.pl.epoch]
def kF.cells (s:kF):List Value:=[iV ((s.nd:Nat):Int),iV ((s.q:Nat):Int),iV s.ep,iV s.op.kind,iV s.op.producer,iV s.op.id,iV s.op.body,iV s.op.aN,iV s.op.hno,iV s.ans.code,iV s.ans.eP,iV s.ans.hno,iV s.ans.body,iV s.num]
theorem Cy (x:LX): ∀ u∈x.cells,u.oneCell'=true:=bT rfl
theorem agC (l:List LX): ∀ u∈l.flatMap LX.cells,u.oneCell'=true:=by
 intro u hu;rw [List.mem_flatMap] at hu;obtain ⟨z,_,hz⟩:=hu;exact Cy z u hz
def dx (me:Nat) (up:Bool) (tv:Value) (syn:Int) (bv:Value) (H:Nat->Pl) (U:Nat->Bool) (iv pv:Value) (turn:Nat):Array Value:=
 #[iV ((me:Nat):Int),.bool up,tv,iV syn,bv,iV (H 0).node,iV (H 0).epoch,iV (H 1).node,iV (H 1).epoch,iV (H 2).node,iV (H 2).epoch,iV (H 3).node,iV (H 3).epoch,.bool (U 0),.bool (U 1),.bool (U 2),.bool (U 3),iv,pv,iV ((turn:Nat):Int)]
def Ox (p:Int×Int):List Value:=[iV p.1,iV p.2]
def Oy (sh:Nat->Nat->Int×Int) (n:Nat):List Value:=Ox (sh n 0)++(Ox (sh n 1)++(Ox (sh n 2)++Ox (sh n 3)))
def agD (sh:Nat->Nat->Int×Int):List Value:=Oy sh 0++(Oy sh 1++(Oy sh 2++(Oy sh 3++Oy sh 4)))
def Md (nv:Value) (d:Dir) (fv:Value) (sh:Nat->Nat->Int×Int) (sv tv:Value) (calls:Nat):List Value:=
 nv::(d.cells++(fv::(agD sh++[iV 0,.bool false,.bool false,.bool false,.bool false,.bool false,iV 0,iV 0,iV 0,iV 0,iV 0,iV 0,iV 0,iV 0,.slice none 0 0,sv,tv,iV ((calls:Nat):Int)])))
def kG (nv:Value) (d:Dir) (fv:Value) (sh:Nat->Nat->Int×Int) (sv tv:Value) (calls:Nat):Array Value:=(Md nv d fv sh sv tv calls).toArray
section
variable {me turn calls k:Nat} {up:Bool} {tv bv iv pv nv fv sv uv x:Value} {syn:Int} {H:Nat->Pl} {U:Nat->Bool} {d:Dir} {sh:Nat->Nat->Int×Int}
theorem yS:(kG nv d fv sh sv tv calls)[0]? =some nv:=rfl
theorem Pk:(kG nv d fv sh sv tv calls)[9]? =some fv:=rfl
theorem apN:(kG nv d fv sh sv tv calls)[65]? =some sv:=rfl
theorem apO:(kG nv d fv sh sv tv calls)[66]? =some tv:=rfl
theorem ahF:(kG nv d fv sh sv tv calls)[67]? =some (iV ((calls:Nat):Int)):=rfl
theorem Gi {nv' fv' sv' tv':Value} {d':Dir} {sh':Nat->Nat->Int×Int} {calls' o:Nat} {vs:List Value} (h:o+vs.length<=68) (he:(Md nv d fv sh sv tv calls).take o++vs++(Md nv d fv sh sv tv calls).drop (o+vs.length)=Md nv' d' fv' sh' sv' tv' calls'):
  bZ (kG nv d fv sh sv tv calls) o vs=kG nv' d' fv' sh' sv' tv' calls':=Array.ext' (by rw [gI _ _ _ h];exact he)
theorem aiT:bZ (kG nv d fv sh sv tv calls) 9 [x]=kG nv d x sh sv tv calls:=Gi (Nat.le_of_ble_eq_true rfl) rfl
theorem apP:bZ (kG nv d fv sh sv tv calls) 65 [x]=kG nv d fv sh x tv calls:=Gi (Nat.le_of_ble_eq_true rfl) rfl
theorem apQ:bZ (kG nv d fv sh sv tv calls) 66 [x]=kG nv d fv sh sv x calls:=Gi (Nat.le_of_ble_eq_true rfl) rfl
theorem apR {c':Nat}:bZ (kG nv d fv sh sv tv calls) 67 [iV ((c':Nat):Int)]=kG nv d fv sh sv tv c':=Gi (Nat.le_of_ble_eq_true rfl) rfl
theorem aiU {d':Dir}:bZ (kG nv d fv sh sv tv calls) 1 d'.cells=kG nv d' fv sh sv tv calls:=Gi (Nat.le_of_ble_eq_true rfl) rfl
theorem wz: ∀ (j:Nat) (u:Value),d.cells[j]? =some u->(kG nv d fv sh sv tv calls)[1+j]? =some u:=by
 intro j u h;have hj:j<8:=(List.getElem?_eq_some_iff.1 h).1;have:j=0\/j=1\/j=2\/j=3\/j=4\/j=5\/j=6\/j=7:=by omega
 rcases this with rfl | rfl | rfl | rfl | rfl | rfl | rfl | rfl<;>exact h
theorem abD:(kG nv d fv sh sv tv calls).size=68:=rfl
theorem ahG {n q:Nat} (hn:n<5) (hq:q<4) {a b:Int}:bZ (kG nv d fv sh sv tv calls) (10+n*8+q*2) [iV a,iV b]=kG nv d fv (gL sh n q (a,b)) sv tv calls:=by
 have h1:n=0\/n=1\/n=2\/n=3\/n=4:=by omega
 have h2:q=0\/q=1\/q=2\/q=3:=by omega
 rcases h1 with rfl | rfl | rfl | rfl | rfl<;>rcases h2 with rfl | rfl | rfl | rfl<;>exact Gi (Nat.le_of_ble_eq_true rfl) rfl
theorem apS {n q:Nat} (hn:n<5) (hq:q<4): ∀ (j:Nat) (u:Value),(Ox (sh n q))[j]? =some u->(kG nv d fv sh sv tv calls)[10+n*8+q*2+j]? =some u:=by
 intro j u h;have hj:j<2:=(List.getElem?_eq_some_iff.1 h).1;have h0:j=0\/j=1:=by omega
 have h1:n=0\/n=1\/n=2\/n=3\/n=4:=by omega
 have h2:q=0\/q=1\/q=2\/q=3:=by omega
 rcases h1 with rfl | rfl | rfl | rfl | rfl<;>rcases h2 with rfl | rfl | rfl | rfl<;>rcases h0 with rfl | rfl<;>exact h
theorem Cz {q:Nat} (hq:q<4) {p:Pl}:bZ (dx me up tv syn bv H U iv pv turn) (5+q*2) [iV p.node,iV p.epoch]=dx me up tv syn bv (upd H q p) U iv pv turn:=by
 have h2:q=0\/q=1\/q=2\/q=3:=by omega
 rcases h2 with rfl | rfl | rfl | rfl<;>rfl
theorem Nh {q:Nat} (hq:q<4):(dx me up tv syn bv H U iv pv turn)[5+q*2]? =some (iV (H q).node)/\(dx me up tv syn bv H U iv pv turn)[5+q*2+1]? =some (iV (H q).epoch):=by
 have h2:q=0\/q=1\/q=2\/q=3:=by omega
 rcases h2 with rfl | rfl | rfl | rfl<;>exact ⟨rfl,rfl⟩
theorem Xd {q:Nat} (hq:q<4) {v:Bool}:bZ (dx me up tv syn bv H U iv pv turn) (13+q*1) [.bool v]=dx me up tv syn bv H (upd U q v) iv pv turn:=by
 have h2:q=0\/q=1\/q=2\/q=3:=by omega
 rcases h2 with rfl | rfl | rfl | rfl<;>rfl
theorem agE {q:Nat} (hq:q<4):(dx me up tv syn bv H U iv pv turn)[13+q*1]? =some (.bool (U q)):=by
 have h2:q=0\/q=1\/q=2\/q=3:=by omega
 rcases h2 with rfl | rfl | rfl | rfl<;>rfl
end
def Ro (L:List Fact) (s:Nat) (A:Option Addr) (n:Nat) (xs:List Value):Prop:= ∀ B w,(∀ f∈L,f.holds B w)->Rd w w.heap.size s A n xs
section
variable {L L':List Fact} {s n:Nat} {A:Option Addr} {xs:List Value} {B:Nat} {w w0:World} {fs:List Fact}
theorem Ro.mono (h:Ro L s A n xs) (hl: ∀ f∈L,f∈L'):Ro L' s A n xs:=λB w hw=>h B w λf hf=>hw f (hl f hf)
theorem Ro.rd (h:Ro L s A n xs) (S:St B w0 w fs) (hl: ∀ f∈L,f∈fs):Rd w w.heap.size s A n xs:=h B w λf hf=>S.has (hl f hf)
theorem Ro.none_:Ro L s none 0 []:=λ_ _ _=>Rd.none_
theorem Ro.bX (h:Fact.bX s A n xs∈L):Ro L s A n xs:=λ_ _ hw=>(hw _ h).1
theorem Ro.own {e:TypeId} {c:Nat} (h:Fact.own e s (.slice A n c) n xs∈L):Ro L s A n xs:=λ_ _ hw=>Rd.sj (hw _ h)
end
structure NX where
 bb:Nat
 tA:Option Addr
 tc:Nat
 bx:List BX
 iA:Option Addr
 ic:Nat
 ix:List LX
 pv:Value
structure CX where
 nx:Nat->NX
 fA:Option Addr
 fc:Nat
 fx:List LX
 sA:Option Addr
 sc:Nat
 tA:Option Addr
 tc:Nat
 nA:Option Addr
 nc:Nat
 L:List Fact
structure CK where
 wb:Nat
 nb:Nat->Nat
def gu (b:Nat):Value:= .pointer (some ⟨b,0,none⟩)
def agF (n:Nat) (X:Nd) (x:NX):Array Value:=dx n X.up (.slice x.tA X.data.length x.tc) X.syn (.slice (some ⟨x.bb,0,none⟩) 4 4) X.hints X.sure (.slice x.iA x.ix.length x.ic) x.pv X.turn
def apT (R:CX) (m:Cl):Array Value:=kG (.slice R.nA 5 R.nc) m.off (.slice R.fA R.fx.length R.fc) m.shown (.slice R.sA m.aQ.length R.sc) (.slice R.tA m.bE.length R.tc) m.calls
def BS (kn n:Nat) (X:Nd) (x:NX):List Fact:=
 [.blk kn (agF n X x) 129,.own 42 6 (.slice (some ⟨x.bb,0,none⟩) 4 4) 4 (x.bx.flatMap BX.cells),.off 169 23 x.iA x.ix.length x.ic (x.ix.flatMap LX.cells)]
def jM (K:CK) (n:Nat) (X:Nd) (x:NX):List Fact:=BS (K.nb n) n X x
def BU (kw:Nat) (R:CX) (m:Cl):List Fact:=
 [.blk kw (apT R m) 121,.own 169 23 (.slice R.fA R.fx.length R.fc) R.fx.length (R.fx.flatMap LX.cells),.own 85 14 (.slice R.sA m.aQ.length R.sc) m.aQ.length (m.aQ.flatMap kF.cells),.own 81 7 (.slice R.tA m.bE.length R.tc) m.bE.length (m.bE.flatMap vo.cells)]
def tF (K:CK) (R:CX) (m:Cl):List Fact:=BU K.wb R m
def kR (K:CK) (R:CX) (m:Cl) (n:Nat):List Fact:=((List.range 5).filter (· ≠n)).flatMap λj=>jM K j (m.ah j) (R.nx j)
def fK (K:CK) (R:CX) (m:Cl) (fs:List Fact) (n:Nat):List Fact:=fs++(kR K R m n++R.L)
def kJ (K:CK) (R:CX) (m:Cl):List Fact:=tF K R m++(((List.range 5).flatMap λj=>jM K j (m.ah j) (R.nx j))++R.L)
def E5 (L:List Fact) (A:Option Addr) (c:Nat) (l:List Ev):Prop:=Ro L 6 A l.length (aY l)/\l.length<=c
def Oz (L:List Fact) (x:LX):Prop:=E5 L x.A x.c x.l.evs
def Ad (L:List Fact) (y:BX):Prop:=E5 L y.A y.c y.b.evs
theorem E5.mono {L L':List Fact} {A:Option Addr} {c:Nat} {l:List Ev} (h:E5 L A c l) (hl: ∀ f∈L,f∈L'):E5 L' A c l:=⟨h.1.mono hl,h.2⟩
def oz (kn kw:Nat) (L:List Fact):Option fG->Value->Prop
 | none,v=>v= .nilFunc
 | some (.serve q evs op num a),v=> ∃ b1 b2 b3 b4 b5 b6 b7 y x,v= .func (.func 153) #[] #[gu b1,gu b2,gu b3,gu b4,gu b5]/\ .blk b1 (BX.cells y).toArray 42∈L/\y.b.evs=evs/\Ad L y/\ .blk b2 #[gu kn] 122∈L/\ .blk b3 #[.int .i64 ((q:Nat):Int)] 3∈L/\
   .blk b4 #[.func (.func 152) #[] #[gu b6,gu b2,gu b3,gu b7]] 258∈L/\ .blk b5 (iM.cells a).toArray 79∈L/\ .blk b6 (LX.row x) 169∈L/\x.l.op=op/\x.l.num=num/\ .blk b7 #[gu kw] 111∈L
 | some (.begun q b),v=> ∃ b1 b2 b3 b4 y,v= .func (.func 156) #[] #[gu b1,gu b2,gu b3,gu b4]/\ .blk b1 (BX.cells y).toArray 42∈L/\y.b=b/\Ad L y/\ .blk b2 #[gu kn] 122∈L/\ .blk b3 #[.int .i64 ((q:Nat):Int)] 3∈L/\ .blk b4 #[gu kw] 111∈L
 | some (.got q b last),v=> ∃ b1 b2 b3 b4 b5 y x,v= .func (.func 161) #[] #[gu b1,gu b2,gu b3,gu b4,gu b5]/\ .blk b1 (BX.cells y).toArray 42∈L/\y.b=b/\Ad L y/\ .blk b2 #[gu kn] 122∈L/\ .blk b3 #[.int .i64 ((q:Nat):Int)] 3∈L/\
   .blk b4 (LX.row x) 169∈L/\x.l.last=last/\ .blk b5 #[gu kw] 111∈L
 | some (.iE q b at_),v=> ∃ b1 b2 b3 b4 b5 y x,v= .func (.func 159) #[] #[gu b1,gu b2,gu b3,gu b4,gu b5]/\ .blk b1 (BX.cells y).toArray 42∈L/\y.b=b/\Ad L y/\ .blk b2 #[gu kn] 122∈L/\ .blk b3 #[.int .i64 ((q:Nat):Int)] 3∈L/\
   .blk b4 #[gu kw] 111∈L/\ .blk b5 (LX.row x) 169∈L/\x.l.at_=at_
 | some (.forget q b),v=> ∃ b1 b2 b3 y,v= .func (.func 163) #[] #[gu b1,gu b2,gu b3]/\ .blk b1 (BX.cells y).toArray 42∈L/\y.b=b/\Ad L y/\ .blk b2 #[gu kn] 122∈L/\ .blk b3 #[.int .i64 ((q:Nat):Int)] 3∈L
def atx (K:CK) (L:List Fact) (n:Nat) (p:Option fG) (v:Value):Prop:=oz (K.nb n) K.wb L p v
structure dI (K:CK) (L:List Fact) (n:Nat) (X:Nd) (x:NX):Prop where
 OB:x.bx.map BX.b=vB X.bs
 Qs: ∀ y∈x.bx,Ad L y
 wD:Ro L 1 x.tA X.data.length (byteCells X.data)
 Y8:x.ix.map LX.l=X.inbox
 Y9: ∀ y∈x.ix,Oz L y
 sJ:atx K L n X.pend x.pv
structure Good (K:CK) (R:CX) (m:Cl) (H:List LX):Prop where
 fly:R.fx.map LX.l=m.fly
 flo: ∀ x∈R.fx,Oz R.L x
 kV: ∀ n,n<5->dI K R.L n (m.ah n) (R.nx n)
 arr:Ro R.L 1 R.nA 5 ((List.range 5).map λj=>gu (K.nb j))
 hld: ∀ x∈H,Oz R.L x
def Wd (K:CK) (B:Nat) (w0 w:World) (fs:List Fact) (m:Cl) (H:List LX):Prop:= ∃ R,Good K R m H/\St B w0 w (fs++kJ K R m)
section
variable {K:CK} {B n:Nat} {w0 w w':World} {fs N:List Fact} {m m':Cl} {H H':List LX} {R R':CX}
theorem oz.mono {kn kw:Nat} {L L':List Fact} {p:Option fG} {v:Value} (h:oz kn kw L p v) (hl: ∀ f∈L,f∈L'):oz kn kw L' p v:=by
 match p,h with
 | none,h=>exact h
 | some (.serve q evs op num a),⟨b1,b2,b3,b4,b5,b6,b7,y,x,h1,h2,h3,h4,h5,h6,h7,h8,h9,h10,h11,h12⟩=>
  exact ⟨b1,b2,b3,b4,b5,b6,b7,y,x,h1,hl _ h2,h3,E5.mono h4 hl,hl _ h5,hl _ h6,hl _ h7,hl _ h8,hl _ h9,h10,h11,hl _ h12⟩
 | some (.begun q b),⟨b1,b2,b3,b4,y,h1,h2,h3,h4,h5,h6,h7⟩=>exact ⟨b1,b2,b3,b4,y,h1,hl _ h2,h3,E5.mono h4 hl,hl _ h5,hl _ h6,hl _ h7⟩
 | some (.got q b last),⟨b1,b2,b3,b4,b5,y,x,h1,h2,h3,h4,h5,h6,h7,h8,h9⟩=>exact ⟨b1,b2,b3,b4,b5,y,x,h1,hl _ h2,h3,E5.mono h4 hl,hl _ h5,hl _ h6,hl _ h7,h8,hl _ h9⟩
 | some (.iE q b at_),⟨b1,b2,b3,b4,b5,y,x,h1,h2,h3,h4,h5,h6,h7,h8,h9⟩=>exact ⟨b1,b2,b3,b4,b5,y,x,h1,hl _ h2,h3,E5.mono h4 hl,hl _ h5,hl _ h6,hl _ h7,hl _ h8,h9⟩
 | some (.forget q b),⟨b1,b2,b3,y,h1,h2,h3,h4,h5,h6⟩=>exact ⟨b1,b2,b3,y,h1,hl _ h2,h3,E5.mono h4 hl,hl _ h5,hl _ h6⟩
theorem dI.mono {L L':List Fact} {X:Nd} {x:NX} (h:dI K L n X x) (hl: ∀ f∈L,f∈L'):dI K L' n X x:=
 ⟨h.OB,λy hy=>(h.Qs y hy).mono hl,h.wD.mono hl,h.Y8,λy hy=>(h.Y9 y hy).mono hl,oz.mono h.sJ hl⟩
theorem uf {α:Type} (f:Nat->List α) (hn:n<5):((List.range 5).flatMap f).Perm (f n++((List.range 5).filter (· ≠n)).flatMap f):=by
 have h:n=0\/n=1\/n=2\/n=3\/n=4:=by omega
 have key: ∀ l:List Nat,(List.range 5).Perm (n::l)->((List.range 5).flatMap f).Perm (f n++l.flatMap f):=λl hl=>by
  have:=hl.flatMap_right f;rwa [List.flatMap_cons] at this
 refine key _ ?_
 rcases h with rfl | rfl | rfl | rfl | rfl<;>decide
open Classical in
theorem Wd.open (h:Wd K B w0 w fs m H) (hn:n<5): ∃ R,Good K R m H/\St B w0 w (jM K n (m.ah n) (R.nx n)++(tF K R m++fK K R m fs n)):=by
 obtain ⟨R,hG,S⟩:=h;refine ⟨R,hG,S.perm (List.perm_iff_count.2 λa=>?_)⟩;have h1:=List.perm_iff_count.1 (uf (λj=>jM K j (m.ah j) (R.nx j)) hn) a;unfold kJ fK kR;simp only [List.count_append] at h1⊢;omega
theorem Za (hs: ∀ j,j<5->j≠n->m'.ah j=m.ah j/\R'.nx j=R.nx j):kR K R' m' n=kR K R m n:=by
 unfold kR;rw [List.flatMap_def,List.flatMap_def]
 congr 1
 refine List.map_congr_left λj hj=>?_;rw [List.mem_filter,List.mem_range] at hj;obtain ⟨h1,h2⟩:=hs j hj.1 (by simpa using hj.2);rw [h1,h2]
open Classical in
theorem Wd.close {Ls:List Fact} (G:Good K R' m' H') (S:St B w0 w' (jM K n (m'.ah n) (R'.nx n)++(tF K R' m'++(Ls++(fK K R m fs n++N))))) (hn:n<5) (hL:R'.L=R.L++(N++Ls)) (hs: ∀ j,j<5->j≠n->m'.ah j=m.ah j/\R'.nx j=R.nx j):Wd K B w0 w' fs m' H':=by
 refine ⟨R',G,S.perm (List.perm_iff_count.2 λa=>?_)⟩;have h1:=List.perm_iff_count.1 (uf (λj=>jM K j (m'.ah j) (R'.nx j)) hn) a;unfold fK kJ;rw [hL,<-Za hs];unfold kR;simp only [List.count_append] at h1⊢;omega
theorem memT {L gs fs:List Fact} (k:Nat) (h:gs.drop k=fs) (hL: ∀ f∈L,f∈fs): ∀ f∈L,f∈gs:=λf hf=>List.mem_of_mem_drop (h▸hL f hf)
theorem TL {L fs N:List Fact} (hL: ∀ f∈L,f∈fs): ∀ f∈L++N,f∈fs++N:=λf hf=>(List.mem_append.1 hf).elim (λh=>List.mem_append_left _ (hL f h)) (λh=>List.mem_append_right _ h)
theorem dJ {fs:List Fact}: ∀ f∈fs,f∈fs:=λ_ h=>h
theorem abE {L N:List Fact} {x:Fact}:x∈L++(N++[x]):=by simp
theorem St.toEnd {f:Fact} (i:Nat) (S:St B w0 w fs) (hi:fs[i]? =some f):St B w0 w (fs.eraseIdx i++[f]):=(S.bring i hi).perm (List.perm_append_comm (l₁:=[f]) (l₂:=fs.eraseIdx i))
theorem St.OC {a b c d e f g:Fact} (S:St B w0 w (a::b::c::d::e::f::g::(fs++N))):St B w0 w (a::b::c::d::e::f::g::fs):=
 S.sub (((((((List.sublist_append_left fs N).cons_cons g).cons_cons f).cons_cons e).cons_cons d).cons_cons c).cons_cons b |>.cons_cons a)
theorem Ro.blk {L:List Fact} {b n s:Nat} {row:Array Value} {t:TypeId} {xs:List Value} (h:Fact.blk b row t∈L) (hx:row.toList=xs) (hl:xs.length=n*s):Ro L s (some ⟨b,0,none⟩) n xs:=λ_ _ hw=>
 ⟨hl,λ_=>⟨b,0,rfl,(hw _ h).2.lt,λj u hu=>by
  rw [Nat.zero_add];exact (hw _ h).2.cell (by rw [<-hx] at hu;simpa using hu)⟩⟩
end
end
section
open ChangeShapes WideShapes RowKit
abbrev oL (a:Option Addr) (l:List LX) (c:Nat):Fact:= .own 169 23 (.slice a l.length c) l.length (l.flatMap LX.cells)
abbrev oS (a:Option Addr) (l:List kF) (c:Nat):Fact:= .own 85 14 (.slice a l.length c) l.length (l.flatMap kF.cells)
abbrev oT (a:Option Addr) (l:List vo) (c:Nat):Fact:= .own 81 7 (.slice a l.length c) l.length (l.flatMap vo.cells)
abbrev oB (b:Nat) (l:List BX):Fact:= .own 42 6 (.slice (some ⟨b,0,none⟩) 4 4) 4 (l.flatMap BX.cells)
abbrev fL (a:Option Addr) (l:List LX) (c:Nat):Fact:= .off 169 23 a l.length c (l.flatMap LX.cells)
abbrev bW (k:Nat) (n:Value) (d:Dir) (fA:Option Addr) (fx:List LX) (fc:Nat) (sh:Nat->Nat->Int×Int) (sA:Option Addr) (sr:List kF) (sc:Nat) (tA:Option Addr) (tl:List vo) (tc cs:Nat):Fact:= .blk k (kG n d (.slice fA fx.length fc) sh (.slice sA sr.length sc) (.slice tA tl.length tc) cs) 121
abbrev bN (k n:Nat) (u:Bool) (tA:Option Addr) (dd:List UInt8) (tc:Nat) (sy:Int) (b:Nat) (H:Nat->Pl) (U:Nat->Bool) (iA:Option Addr) (ix:List LX) (ic:Nat) (pv:Value) (tn:Nat):Fact:= .blk k (dx n u (.slice tA dd.length tc) sy (.slice (some ⟨b,0,none⟩) 4 4) H U (.slice iA ix.length ic) pv tn) 129
abbrev wF (k:Nat) (n:Value) (d:Dir) (fA:Option Addr) (fx:List LX) (fc:Nat) (sh:Nat->Nat->Int×Int) (sA:Option Addr) (sr:List kF) (sc:Nat) (tA:Option Addr) (tl:List vo) (tc cs:Nat) (r:List Fact):List Fact:=bW k n d fA fx fc sh sA sr sc tA tl tc cs::oL fA fx fc::oS sA sr sc::oT tA tl tc::r
abbrev nF (k n:Nat) (u:Bool) (tA:Option Addr) (dd:List UInt8) (tc:Nat) (sy:Int) (b:Nat) (H:Nat->Pl) (U:Nat->Bool) (iA:Option Addr) (ix:List LX) (ic:Nat) (pv:Value) (tn:Nat) (bs:List BX) (r:List Fact):List Fact:=bN k n u tA dd tc sy b H U iA ix ic pv tn::oB b bs::fL iA ix ic::r
abbrev cF (k:Nat) (R:CX) (m:Cl) (r:List Fact):List Fact:=wF k (.slice R.nA 5 R.nc) m.off R.fA R.fx R.fc m.shown R.sA m.aQ R.sc R.tA m.bE R.tc m.calls r
abbrev cN (k n:Nat) (X:Nd) (z:NX) (pv:Value) (r:List Fact):List Fact:=nF k n X.up z.tA X.data z.tc X.syn z.bb X.hints X.sure z.iA z.ix z.ic pv X.turn z.bx r
theorem TM {x:LX}: ∀ (j:Nat) (u:Value),[Value.int .i64 x.l.op.kind,iV x.l.op.producer,iV x.l.op.id,iV x.l.op.body,iV x.l.op.aN,iV x.l.op.hno][j]? =some u->(LX.row x)[7+j]? =some u:=by
 intro j u h;have hj:j<6:=(List.getElem?_eq_some_iff.1 h).1;have:j=0\/j=1\/j=2\/j=3\/j=4\/j=5:=by omega
 rcases this with rfl | rfl | rfl | rfl | rfl | rfl<;>exact h
theorem alA {x:LX}: ∀ (j:Nat) (u:Value),[Value.int .i64 x.l.bE.num,iV x.l.bE.ans.code,iV x.l.bE.ans.eP,iV x.l.bE.ans.hno,iV x.l.bE.ans.body,iV x.l.bE.pl.node,iV x.l.bE.pl.epoch][j]? =some u->(LX.row x)[16+j]? =some u:=by
 intro j u h;have hj:j<7:=(List.getElem?_eq_some_iff.1 h).1;have:j=0\/j=1\/j=2\/j=3\/j=4\/j=5\/j=6:=by omega
 rcases this with rfl | rfl | rfl | rfl | rfl | rfl | rfl<;>exact h
theorem qV {me turn:Nat} {up:Bool} {tv bv iv pv:Value} {syn:Int} {H:Nat->Pl} {U:Nat->Bool}: ∀ (j:Nat) (u:Value),[tv,iV syn][j]? =some u->(dx me up tv syn bv H U iv pv turn)[2+j]? =some u:=by
 intro j u h;have hj:j<2:=(List.getElem?_eq_some_iff.1 h).1;have:j=0\/j=1:=by omega
 rcases this with rfl | rfl<;>exact h
theorem uI (d:Dir): ∀ u∈d.cells.toArray.toList,u.oneCell'=true:=bT rfl
theorem agG {me turn q:Nat} {up:Bool} {tv bv iv pv:Value} {syn:Int} {H:Nat->Pl} {U:Nat->Bool} (hq:q<4): ∀ (j:Nat) (u:Value),[Value.int .i64 (H q).node,iV (H q).epoch][j]? =some u->(dx me up tv syn bv H U iv pv turn)[5+q*2+j]? =some u:=by
 intro j u h;have hj:j<2:=(List.getElem?_eq_some_iff.1 h).1;have:j=0\/j=1:=by omega
 rcases this with rfl | rfl
 ·rw [Nat.add_zero,(Nh hq).1];exact h
 rw [(Nh hq).2];exact h
theorem alB {bs:List BX} {q c:Nat} {y:BX} {A:Option Addr} {evs:List Ev} (hy:bs[q]? =some y):q9 (bs.flatMap BX.cells) (0+q*6+5) [.slice A evs.length c]=(bs.set q ⟨{ y.b with evs:=evs },A,c⟩).flatMap BX.cells:=by
 obtain ⟨hl,he⟩:=List.getElem?_eq_some_iff.1 hy;rw [<-pF (enc:=BX.cells) (sz:=6) (λ_=>rfl) ⟨{ y.b with evs:=evs },A,c⟩ q bs hl,Nat.zero_add];have hg: ∀ j u,(BX.cells y)[j]? =some u->(bs.flatMap BX.cells)[q*6+j]? =some u:=λj u h=>bV (enc:=BX.cells) (sz:=6) (λ_=>rfl) hy h;simp only [q9,BX.cells];have e: ∀ (l:List Value) (k:Nat) (u:Value),l[k]? =some u->l.set k u=l:=λl k u h=>by
  obtain ⟨h1,h2⟩:=List.getElem?_eq_some_iff.1 h;subst h2;exact List.set_getElem_self h1
 rw [e _ (q*6) _ (hg 0 _ rfl),e _ (q*6+1) _ (hg 1 _ rfl),e _ (q*6+1+1) _ (hg 2 _ rfl),e _ (q*6+1+1+1) _ (hg 3 _ rfl),e _ (q*6+1+1+1+1) _ (hg 4 _ rfl)]
theorem iQ (k:Int) (q:Nat) (y:BX) (w:World):
    Calls tP 97 #[iV k,iV ((q:Nat):Int),.agg (bR y.b y.A y.c)] w (λe w'=>e= .returned (.agg (dz.cells (fq k q y.b.ep 0 aL)).toArray)/\Below w.heap.size w w'):=by
 have S:=St.start w;refine fZ 12 Tryz.func97 ?_;refine cw [0,1,2] ?_;refine zN 2 ?_;refine iC S ?_;intro b1 w2 S3;refine fI S3 vJ ?_;intro b4 w5 S6;refine zN 8 ?_;refine vv (v:= .agg #[iV k,iV ((q:Nat):Int),iV y.b.ep,iV 0,iV 0,iV 0,iV 0,iV 0,iV 0,iV 0]) fQ ?_;refine sa 0 S6 jS ?_;intro w7 S8;refine zN 4 ?_;exact ⟨rfl,S8.low⟩
theorem gD {B kw calls fc sc tc:Nat} {fA sA tA:Option Addr} {nv:Value} {d:Dir} {sh:Nat->Nat->Int×Int} {fx:List LX} {aQ:List kF} {tl:List vo} {w0 w:World} {fs:List Fact} {x:LX} (S:St B w0 w ((.blk kw (kG (nv) d (.slice fA fx.length fc) sh (.slice sA aQ.length sc) (.slice tA tl.length tc) calls) 121)::(.own 169 23 (.slice fA fx.length fc) fx.length ((fx).flatMap LX.cells))::fs)) (hb:(fx.length+1)*200<=140737488355328):
    Calls tP 69 #[pV kw 0,.agg (LX.row x)] w (λe w'=>e= .returned (.tuple #[])/\ ∃ A' c' pO,pO=fx++[x]/\St B w0 w' ((.blk kw (kG (nv) d (.slice A' pO.length c') sh (.slice sA aQ.length sc) (.slice tA tl.length tc) calls) 121)::(.own 169 23 (.slice A' pO.length c') pO.length ((pO).flatMap LX.cells))::fs)):=by
 refine fZ 14 Tryz.func69 ?_;refine cw [0,1] ?_;refine zN 2 ?_;refine iC S ?_;intro b1 w2 S3;refine zN 2 ?_;have S4:=S3.drew;refine eO 11 8 S4 [2] ?_;iterate 4 refine gy ?_
 refine gk (v:= .slice fA fx.length fc) 4 rfl (St.del 2 S4) (λ_ Sx9=>(au rfl rfl (ay Tryz.underlying115 rfl (St.cl 1 Sx9 rfl Pk)))) ?_;refine gy ?_;refine eB (m:=4) (r:=6) (by kernel_rfl) ?_;refine lF (i:=6) rfl rfl (V:=λb=> .slice (aD b 0) 1 1) (row:=LX.row x) (t:=169) S4 (wn rfl) rfl rfl (aP (vs:=[(0,.agg (LX.row x))]) rfl ⟨rfl,rfl,trivial⟩ (by kernel_rfl)) ?_;intro b11 w12 yF;refine gy ?_;refine eB (m:=3) (r:=7) (by kernel_rfl) ?_;refine kE (i:=7) rfl rfl (news:=(LX.cells x)) (xs':=(fx++[x]).flatMap LX.cells) 3 yF (wn rfl) rfl rfl rfl rfl rfl rfl (St.lJ (xs:=(LX.cells x)) 0 yF rfl rfl rfl) Tryz.underlying115 Ws rfl (by decide) (Cy _) (by simp only [maxLen];omega) (by omega) (jE (enc:=LX.cells) rfl rfl) ?_;intro A14 c15 w16 hc18 ax4 lG;refine gy ?_;refine dX (by kernel_rfl) rfl rfl rfl ?_;refine zN 2 ?_;refine je 2 lG AL ?_ (hs:=by exact aiT);intro SA qR;refine zQ ?_;refine iJ ?_;refine bO (l':=[]) trivial (aV (rs:=[]) (vs:=[]) rfl trivial ?_);have iR:=qR.aR [1,0];refine ⟨rfl,A14,c15,fx++[x],rfl,?_⟩;rw [List.length_append];exact iR
theorem mE {B kn kw bb n turn calls dc ic fc sc tc:Nat} {up:Bool} {dA iA fA sA tA:Option Addr} {data:List UInt8} {syn:Int} {Hh:Nat->Pl} {Us:Nat->Bool} {pv nv:Value} {d:Dir} {sh:Nat->Nat->Int×Int} {bs:List BX} {ix fx:List LX} {aQ:List kF} {tl:List vo} {w0 w:World} {fs:List Fact} {q:Nat} (hn:n<5) (hq:q<4) {y:BX} (hy:bs[q]? =some y) (e:Ev) (a:iM) (num:Int) (S:St B w0 w ((.blk kn (dx n up (.slice dA data.length dc) syn (.slice (aD bb 0) 4 4) Hh Us (.slice iA ix.length ic) (pv) turn) 129)::(.own 42 6 (.slice (aD bb 0) 4 4) 4 ((bs).flatMap BX.cells))::(.off 169 23 iA ix.length ic ((ix).flatMap LX.cells))::(.blk kw (kG (nv) d (.slice fA fx.length fc) sh (.slice sA aQ.length sc) (.slice tA tl.length tc) calls) 121)::(.own 169 23 (.slice fA fx.length fc) fx.length ((fx).flatMap LX.cells))::(.own 85 14 (.slice sA aQ.length sc) aQ.length ((aQ).flatMap kF.cells))::(.own 81 7 (.slice tA tl.length tc) tl.length ((tl).flatMap vo.cells))::fs)) (hb:(aQ.length+1)*112<=140737488355328):
    Calls tP 108 #[pV kw 0,pV kn 0,iV ((q:Nat):Int),.agg #[iV e.kind,iV e.producer,iV e.id,iV e.body,iV e.aN,iV e.hno],.agg #[iV a.code,iV a.eP,iV a.hno,iV a.body],iV num] w (λe' w'=>e'= .returned (.tuple #[])/\ ∃ A' c' Ae,Ae=aQ++[(⟨n,q,y.b.ep,e,a,num⟩:kF)]/\St B w0 w' ((.blk kn (dx n up (.slice dA data.length dc) syn (.slice (aD bb 0) 4 4) Hh Us (.slice iA ix.length ic) (pv) turn) 129)::(.own 42 6 (.slice (aD bb 0) 4 4) 4 ((bs).flatMap BX.cells))::(.off 169 23 iA ix.length ic ((ix).flatMap LX.cells))::(.blk kw (kG (nv) d (.slice fA fx.length fc) (gL sh n q (y.b.ep,(y.b.evs.length:Int))) (.slice A' Ae.length c') (.slice tA tl.length tc) calls) 121)::(.own 169 23 (.slice fA fx.length fc) fx.length ((fx).flatMap LX.cells))::(.own 85 14 (.slice A' Ae.length c') Ae.length ((Ae).flatMap kF.cells))::(.own 81 7 (.slice tA tl.length tc) tl.length ((tl).flatMap vo.cells))::fs)):=by
 have hlen:=(S.own 1 rfl).1;rw [gX (sz:=6) (λ_=>rfl)] at hlen;refine fZ 68 Tryz.func108 ?_;refine cw [0,1,2,3,4,5] ?_;refine zN 2 ?_;refine iC S ?_;intro b1 w2 S3;refine iC S3 ?_;intro b4 w5 S6;refine zN 3 ?_;have S7:=S6.drew;refine eO 29 25 S7 [7] ?_;iterate 5 refine gy ?_
 refine gk (v:= .slice sA aQ.length sc) 5 rfl (St.del 7 S7) (λ_ O9=>(au rfl rfl (ay Tryz.underlying35 rfl (St.cl 5 O9 rfl apN)))) ?_;iterate 10 refine gy ?_
 refine gk 16 rfl (St.del 7 S7) (λ_ _=>ku q) ?_;refine gy ?_;refine gk (v:=iV y.b.ep) 18 rfl (St.del 7 S7) (λ_ aiB=>(au rfl rfl (ay Tryz.underlying3 rfl (Rd.Wj (i:=1) (St.ord 3 aiB rfl) (bV (enc:=BX.cells) (sz:=6) (λ_=>rfl) hy rfl))))) ?_;iterate 3 refine gy ?_
 refine gk (v:= .agg #[iV ((n:Nat):Int),iV ((q:Nat):Int),iV y.b.ep,iV e.kind,iV e.producer,iV e.id,iV e.body,iV e.aN,iV e.hno,iV a.code,iV a.eP,iV a.hno,iV a.body,iV num]) 22 rfl (St.del 7 S7) (λ_ _=>fQ) ?_;refine eB (m:=5) (r:=23) (by kernel_rfl) ?_;refine lF (i:=23) rfl rfl (V:=λb=> .slice (aD b 0) 1 1) (row:= #[iV ((n:Nat):Int),iV ((q:Nat):Int),iV y.b.ep,iV e.kind,iV e.producer,iV e.id,iV e.body,iV e.aN,iV e.hno,iV a.code,iV a.eP,iV a.hno,iV a.body,iV num]) (t:=85) S7 (wn rfl) rfl rfl (aP (vs:=[(0,.agg #[iV ((n:Nat):Int),iV ((q:Nat):Int),iV y.b.ep,iV e.kind,iV e.producer,iV e.id,iV e.body,iV e.aN,iV e.hno,iV a.code,iV a.eP,iV a.hno,iV a.body,iV num])]) rfl ⟨rfl,rfl,trivial⟩ (by kernel_rfl)) ?_;intro b31 w32 qP;refine gy ?_;refine eB (m:=4) (r:=24) (by kernel_rfl) ?_;refine kE (i:=24) rfl rfl (news:=[iV ((n:Nat):Int),iV ((q:Nat):Int),iV y.b.ep,iV e.kind,iV e.producer,iV e.id,iV e.body,iV e.aN,iV e.hno,iV a.code,iV a.eP,iV a.hno,iV a.body,iV num]) (xs':=(aQ++[(⟨n,q,y.b.ep,e,a,num⟩:kF)]).flatMap kF.cells) 8 qP (wn rfl) rfl rfl rfl rfl rfl rfl (St.lJ (xs:=[iV ((n:Nat):Int),iV ((q:Nat):Int),iV y.b.ep,iV e.kind,iV e.producer,iV e.id,iV e.body,iV e.aN,iV e.hno,iV a.code,iV a.eP,iV a.hno,iV a.body,iV num]) 0 qP rfl rfl rfl) Tryz.underlying35 akM rfl (by decide) (bT rfl) (by simp only [maxLen];omega) (by omega) (jE (enc:=kF.cells) rfl rfl) ?_;intro A34 c35 w36 hc38 aty pE;refine gy ?_;refine dX (by kernel_rfl) rfl rfl rfl ?_;refine zN 3 ?_;refine je 6 pE ahn ?_ (hs:=by exact apP);intro w40 H6;refine zQ ?_;refine iJ ?_;refine zQ ?_;have wh:=H6.drew;refine aI 29 wh [6] ?_;refine aK 11 ?_;refine ak 11 rfl (St.del 6 wh) (λ_ _=>ku q) ?_;refine dh ?_;refine ak (v:=iV y.b.ep) 13 rfl (St.del 6 wh) (λ_ Zb=>(au rfl rfl (ay Tryz.underlying3 rfl (Rd.Wj (i:=1) (St.ord 4 Zb rfl) (bV (enc:=BX.cells) (sz:=6) (λ_=>rfl) hy rfl))))) ?_;refine aK 5 ?_;refine ak 19 rfl (St.del 6 wh) (λ_ _=>ku q) ?_;refine dh ?_;refine ak (v:= .slice y.A y.b.evs.length y.c) 21 rfl (St.del 6 wh) (λ_ Ya=>(au rfl rfl (ay Tryz.underlying40 rfl (Rd.Wj (i:=5) (St.ord 4 Ya rfl) (bV (enc:=BX.cells) (sz:=6) (λ_=>rfl) hy rfl))))) ?_;refine dh ?_;refine ak (v:= .agg #[iV y.b.ep,iV ((y.b.evs.length:Nat):Int)]) 23 rfl (St.del 6 wh) (λ_ _=>fQ) ?_;refine aK 2 ?_;refine ak (v:=pV kw (10+n*8)) 26 rfl (St.del 6 wh) (λ_ _=>(bD rfl rfl rfl (eU n Tryz.underlying119 Ll rfl hn))) ?_;refine ak (v:=pV kw (10+n*8+q*2)) 27 rfl (St.del 6 wh) (λ_ _=>(bD rfl rfl rfl (eU q Tryz.underlying118 yC rfl hq))) ?_;refine aU 28 ?_;refine sO (i:=28) rfl rfl (cs:= #[iV y.b.ep,iV ((y.b.evs.length:Nat):Int)]) (row':=kG (nv) d (.slice fA fx.length fc) (gL sh n q (y.b.ep,((y.b.evs.length:Nat):Int))) (.slice A34 (aQ.length+1) c35) (.slice tA tl.length tc) calls) (fs':=(_::_::_::_::_::_::(.blk kw (kG (nv) d (.slice fA fx.length fc) (gL sh n q (y.b.ep,((y.b.evs.length:Nat):Int))) (.slice A34 (aQ.length+1) c35) (.slice tA tl.length tc) calls) 121)::_::_::_::fs)) 6 wh (wn rfl) rfl rfl rfl rfl rfl rfl yC rfl (bT rfl) (by rw [abD];omega) (ahG hn hq (a:=y.b.ep) (b:=((y.b.evs.length:Nat):Int))) rfl ?_;intro w71 D7
 refine aK 2 ?_;refine bO (l':=[]) trivial (aV (rs:=[]) (vs:=[]) rfl trivial ?_);have sH:=D7.aR [2,1,0];refine ⟨rfl,A34,c35,aQ++[(⟨n,q,y.b.ep,e,a,num⟩:kF)],rfl,?_⟩;rw [List.length_append];exact sH
theorem xI {B kn kw bb n turn calls dc ic fc sc tc:Nat} {up:Bool} {dA iA fA sA tA:Option Addr} {data:List UInt8} {syn:Int} {Hh:Nat->Pl} {Us:Nat->Bool} {pv nv:Value} {d:Dir} {sh:Nat->Nat->Int×Int} {bs:List BX} {ix fx:List LX} {aQ:List kF} {tl:List vo} {w0 w:World} {fs:List Fact} {q:Nat} (hn:n<5) (hq:q<4) {y:BX} (hy:bs[q]? =some y) (S:St B w0 w (nF kn n up dA data dc syn bb Hh Us iA ix ic pv turn bs (wF kw nv d fA fx fc sh sA aQ sc tA tl tc calls fs))) (hb:(fx.length+1)*200<=140737488355328):
    Calls Tryz.prog 155 #[pV kw 0,pV kn 0,iV ((q:Nat):Int)] w (λe w'=>e= .returned (.tuple #[])/\ ∃ A' c' pO,pO=fx++[⟨qE n q y.b,none,0⟩]/\St B w0 w' (nF kn n up dA data dc syn bb Hh Us iA ix ic pv turn bs (wF kw nv d A' pO c' sh sA aQ sc tA tl tc calls fs))):=by
 have hlen:=(S.own 1 rfl).1;rw [gX (sz:=6) (λ_=>rfl)] at hlen;refine fZ 29 Tryz.func155 ?_;refine cw [0,1,2] ?_;refine zN 7 ?_;refine vv (ku q) ?_;refine vv (au rfl rfl (aA (cs:=BX.cells y) Tryz.underlying42 rfl aB rfl (Rd.wS (St.ord 1 S rfl) (λ_ _ h=>bV (enc:=BX.cells) (sz:=6) (λ_=>rfl) hy h)))) ?_;refine fI S fF ?_;intro b1 w2 S3;refine sa 0 S3 aB ?_;intro w4 S5;refine zN 2 ?_;have S6:=S5.dO [5,5];have S7:=S6.drew;refine aI 15 S7 [1,0] ?_;refine aK 13 ?_;refine ak (v:= .agg #[iV 3,iV ((n:Nat):Int),iV y.b.fr,iV ((q:Nat):Int),iV y.b.ep,iV ((y.b.evs.length:Nat):Int),iV 0,iV 0,iV 0,iV 0,iV 0,iV 0,iV 0,.slice none 0 0,.bool false,iV 0,iV 0,iV 0,iV 0,iV 0,iV 0,iV 0,iV 0]) 13 rfl (S7.oJ [1,0]) (λ_ _=>fQ) ?_;refine aU 14 ?_;refine jw 14 rfl wX (gD (x:=⟨qE n q y.b,none,0⟩) S7 (by omega)) ?_;rintro _ Lv ⟨rfl,A22,c23,atz,atA,sF⟩;refine ⟨_,rfl,?_⟩;refine aK 2 ?_;refine bO (l':=[]) trivial (aV (rs:=[]) (vs:=[]) rfl trivial ?_);have qO:=sF.aR [2];have sS:=qO.dO [6,6,3,3,6,6,6];exact ⟨rfl,A22,c23,atz,atA,sS⟩
noncomputable def mZ (n q:Nat) (b:bF) (at_:Int) (fl:List iq):List iq:=if (ig b at_).2.2≠0 then fl else fl++[Km n q b at_]
theorem atB {B:Nat} {w0 w:World} {a b c d e f g x:Fact} {fs:List Fact} (S:St B w0 w (a::b::c::d::e::f::g::x::fs)):St B w0 w (a::b::c::d::e::f::g::(fs++[x])):=
 S.perm (List.Perm.cons _ (List.Perm.cons _ (List.Perm.cons _ (List.Perm.cons _ (List.Perm.cons _ (List.Perm.cons _ (List.Perm.cons _ (List.perm_append_comm (l₁:=[x]) (l₂:=fs)))))))))
theorem JD {B kn kw bb n turn calls dc ic fc sc tc:Nat} {up:Bool} {dA iA fA sA tA:Option Addr} {data:List UInt8} {syn:Int} {Hh:Nat->Pl} {Us:Nat->Bool} {pv nv:Value} {d:Dir} {sh:Nat->Nat->Int×Int} {bs:List BX} {ix fx:List LX} {aQ:List kF} {tl:List vo} {w0 w:World} {fs:List Fact} {q:Nat} {L:List Fact} (hn:n<5) (hq:q<4) {y:BX} (hy:bs[q]? =some y) (at_:Int) (hev:Ad L y) (hL: ∀ f∈L,f∈fs) (aiV:y.b.evs.length*48<=reachBytes) (eP: -2<=y.b.ep/\y.b.ep<=2000000) (S:St B w0 w (nF kn n up dA data dc syn bb Hh Us iA ix ic pv turn bs (wF kw nv d fA fx fc sh sA aQ sc tA tl tc calls fs))) (hb:(fx.length+1)*200<=140737488355328):
    Calls Tryz.prog 158 #[pV kw 0,pV kn 0,iV ((q:Nat):Int),iV at_] w (λe w'=>e= .returned (.tuple #[])/\ ∃ (A':Option Addr) (c':Nat) (pO:List LX) (N:List Fact),pO.map LX.l=mZ n q y.b at_ (fx.map LX.l)/\(∀ x∈pO,x∈fx\/Oz N x)/\St B w0 w' (nF kn n up dA data dc syn bb Hh Us iA ix ic pv turn bs (wF kw nv d A' pO c' sh sA aQ sc tA tl tc calls (fs++N)))):=by
 have hlen:=(S.own 1 rfl).1;rw [gX (sz:=6) (λ_=>rfl)] at hlen;refine fZ 44 Tryz.func158 ?_;refine cw [0,1,2,3] ?_;refine zN 7 ?_;refine vv (ku q) ?_;refine vv (au rfl rfl (aA (cs:=BX.cells y) Tryz.underlying42 rfl aB rfl (Rd.wS (St.ord 1 S rfl) (λ_ _ h=>bV (enc:=BX.cells) (sz:=6) (λ_=>rfl) hy h)))) ?_;refine fI S fF ?_;intro b1 w2 S3;refine sa 0 S3 aB ?_;intro w4 S5;refine zN 6 ?_;refine dG apa ((show Calls _ _ _ _ (Qc _ (ig y.b at_)) from Vl y.b.role y.b.ep y.b.fr y.b.tg y.b.rd y.A y.c y.b.evs at_ hev.2 _ (hev.1.rd S5 (memT 8 rfl hL)) aiV)) ?_;rintro _ w9 ⟨A6,c7,atC,rfl,T11⟩;refine ⟨_,rfl,?_⟩;have nU:=S5.ext T11 rfl;refine zN 13 ?_;by_cases h12:(ig y.b at_).2.2=0
 ·refine zN 6 ?_;have yF:=nU.dO [6,6];have jT:=yF.drew;refine aI 16 jT [1,0] ?_;refine aK 10 ?_;refine ak (v:=iV (y.b.ep+1)) 10 rfl (jT.oJ [1,0]) (λ_ _=>jh) ?_;refine aK 3 ?_;refine ak (v:= .agg #[iV 4,iV ((n:Nat):Int),iV y.b.tg,iV ((q:Nat):Int),iV (y.b.ep+1),iV at_,iV 0,iV 0,iV 0,iV 0,iV 0,iV 0,iV 0,.slice A6 ((ig y.b at_).1.length) c7,.bool ((ig y.b at_).2.1),iV 0,iV 0,iV 0,iV 0,iV 0,iV 0,iV 0,iV 0]) 14 rfl (jT.oJ [1,0]) (λ_ _=>fQ) ?_;refine aU 15 ?_;refine jw 15 rfl wX (gD (x:=⟨Km n q y.b at_,A6,c7⟩) jT (by omega)) ?_;rintro _ YQ ⟨rfl,nK,c31,atD,anb,sW⟩;refine ⟨_,rfl,?_⟩;refine aK 2 ?_;refine bO (l':=[]) trivial (aV (rs:=[]) (vs:=[]) rfl trivial ?_);have nJ:=sW.aR [3];have pE:=nJ.dO [7,7,3,3,7,7,7];refine ⟨rfl,nK,c31,atD,[.bX 6 A6 ((ig y.b at_).1.length) (((ig y.b at_).1).flatMap Ev.cells)],?_,?_,?_⟩
  · rw [mZ,if_neg (λh=>h h12),anb,List.map_append];rfl
  · intro x hx;rw [anb] at hx;rcases List.mem_append.1 hx with hx | hx;exact .inl hx;rw [List.mem_singleton] at hx;subst hx;exact .inr ⟨Ro.bX (List.mem_singleton.2 rfl),atC⟩
  · exact atB pE
 refine zN 7 ?_;have sI:=nU.aR [1];have BK:=sI.dO [7,7,7,7,7,7,7];have vk:=BK.aR [7];refine ⟨rfl,fA,fc,fx,[],?_,?_,?_⟩
 · rw [mZ,if_pos h12]
 · exact λx hx=> .inl hx
 · rw [List.append_nil];exact vk
def atE (w:World) (r:List UInt8×Int×Int) (e:Ending) (w':World):Prop:=
 ∃ A c,e= .returned (.tuple #[.agg #[.slice A r.1.length c,iV r.2.1],iV r.2.2])/\St w.heap.size w w' [.bX 1 A r.1.length (byteCells r.1)]
theorem zJ {P:Program} {f:FuncId} {vs:Array Value} {w:World} {r:List UInt8×Int×Int} (h:Calls P f vs w (qM w r)):Calls P f vs w (atE w r):=h.mono λe w' ⟨A,c,h1,h2,h3,h4⟩=>
 ⟨A,c,h1,((St.start w).on h2).cons ⟨h3,h4⟩ λk _ i g hg=>by simp at hg⟩
theorem GY {d:List UInt8} {s:Int} {rs:List dz} {k:Nat} {r:dz} (hk:rs[k]? =some r):dZ d s (rs.drop k)=if (iF d s r).2.2≠0 then none else dZ (iF d s r).1 s (rs.drop (k+1)):=by rw [drop_cons hk,dZ]
theorem abF {d:List UInt8} {s:Int} {r:dz} (h:(iF d s r).2.2=0):(iF d s r).2.1=s:=by rw [(LM h).1]
theorem oC {B kn kw bb n turn calls dc ic fc sc tc:Nat} {up:Bool} {dA iA fA sA tA:Option Addr} {data:List UInt8} {syn:Int} {Hh:Nat->Pl} {Us:Nat->Bool} {pv nv:Value} {d:Dir} {sh:Nat->Nat->Int×Int} {bs:List BX} {ix fx:List LX} {aQ:List kF} {tl:List vo} {w0 w:World} {fs:List Fact} {L:List Fact} {rs:List dz} {RA:Option Addr} {rc:Nat} (hrs:Ro fs 10 RA rs.length (rs.flatMap dz.cells)) (htp:Ro L 1 dA data.length (byteCells data)) (hL: ∀ f∈L,f∈fs) (hrl:rs.length<=1000000) (S:St B w0 w (nF kn n up dA data dc syn bb Hh Us iA ix ic pv turn bs (wF kw nv d fA fx fc sh sA aQ sc tA tl tc calls fs))):
    Calls Tryz.prog 96 #[pV kn 0,.slice RA rs.length rc] w (λe w'=>(dZ data syn rs=none/\e= .returned (.bool false)/\St B w0 w' (nF kn n up dA data dc syn bb Hh Us iA ix ic pv turn bs (wF kw nv d fA fx fc sh sA aQ sc tA tl tc calls fs)))\/ ∃ d' A' c' N,dZ data syn rs=some d'/\e= .returned (.bool true)/\Ro (L++N) 1 A' d'.length (byteCells d')/\St B w0 w' (nF kn n up A' d' c' syn bb Hh Us iA ix ic pv turn bs (wF kw nv d fA fx fc sh sA aQ sc tA tl tc calls (fs++N)))):=by
 refine fZ 34 Tryz.func96 ?_;refine cw [0,1] ?_;refine zN 10 ?_;refine vv (au rfl rfl (aA (cs:=[.slice dA data.length dc,iV syn]) Tryz.underlying125 rfl eH rfl (St.rg 0 S rfl (qV)))) ?_;refine fI S xX ?_;intro b1 w2 S3;refine sa 0 S3 eH ?_;intro w4 S5;refine zN 11 ?_;refine fH (X:=Nat×(Option Addr)×Nat×(List UInt8)×(List Fact)) (λxv=>[(0,pV kn 0),(5,pV b1 0),(14,.slice RA rs.length rc),(15,iV ((rs.length:Nat):Int)),(16,iV ((xv.1:Nat):Int))]) (λxv wr=>(xv.1<=rs.length)/\(dZ data syn rs=dZ xv.2.2.2.1 syn (rs.drop xv.1))/\(Ro (L++xv.2.2.2.2) 1 xv.2.1 xv.2.2.2.1.length (byteCells xv.2.2.2.1))/\St B w0 wr ((.blk b1 #[.slice xv.2.1 xv.2.2.2.1.length xv.2.2.1,iV syn] 125)::(nF kn n up dA data dc syn bb Hh Us iA ix ic pv turn bs (wF kw nv d fA fx fc sh sA aQ sc tA tl tc calls (fs++xv.2.2.2.2))))) (λxv=>rs.length-xv.1) (0,dA,dc,data,[]) ?_ ?_ ?_
 ·exact ⟨Nat.zero_le _,rfl,by rw [List.append_nil];exact htp,by rw [List.append_nil];exact S5⟩
 ·exact ⟨rfl,rfl,rfl,rfl,rfl,trivial⟩
 rintro ⟨k,A1,c1,d1,N1⟩ w6 ⟨zl,hi9,mP,S7⟩
 try dsimp only at zl hi9 mP S7
 refine bH (l':=[(0,pV kn 0),(5,pV b1 0),(14,.slice RA rs.length rc),(15,iV ((rs.length:Nat):Int)),(16,iV ((k:Nat):Int))]) ⟨rfl,rfl,rfl,rfl,rfl,trivial⟩ (aT (aH ?_));by_cases h11:((k:Nat):Int)< ((rs.length:Nat):Int)
 ·refine zN 10 ?_;obtain ⟨x,hx⟩: ∃ x,rs[k]? =some x:=⟨_,List.getElem?_eq_getElem (by omega)⟩;refine zQ ?_;obtain ⟨rb,ro,hra,_,hrc⟩:=(hrs.rd S7 (memT 8 rfl (λf hf=>List.mem_append_left _ hf))).2 (by omega);subst hra;refine vv (ku k) ?_;refine vv (v:= .agg #[iV x.kind,iV x.queue,iV x.epoch,iV x.peer,iV x.ev.kind,iV x.ev.producer,iV x.ev.id,iV x.ev.body,iV x.ev.aN,iV x.ev.hno]) (au rfl rfl (aA (cs:=dz.cells x) Tryz.underlying205 rfl jS rfl (λj u hu=>by rw [Nat.add_assoc];exact hrc (k*10+j) u (bV (enc:=dz.cells) (sz:=10) (λ_=>rfl) hx hu)))) ?_;refine fI S7 vJ ?_;intro b12 Ct jT;refine stA 0 jT jS ?_;intro Ia lg;refine zN 6 ?_;refine dG ahs (zJ (FL A1 d1.length c1 d1 syn x _ (mP.rd lg (memT 9 rfl (TL hL))))) ?_;rintro _ FR ⟨KF,c18,rfl,T21⟩;refine ⟨_,rfl,?_⟩;have nD:=lg.ext T21 rfl;refine zN 3 ?_;refine fI nD xX ?_;intro Qb KC jG;refine stA 0 jG eH ?_;intro w25 oP;refine zN 7 ?_;by_cases h27:(iF d1 syn x).2.2=0
  ·have hsy:=abF h27;rw [hsy] at oP;refine zN 8 ?_;refine stA 3 oP eH ?_;intro X8 sS;refine zN 4 ?_;refine vv (v:=iV ((k+1:Nat):Int)) jh ?_;refine zN 2 ?_;have zV:=sS.aR [2,0];have mW:=zV.dO [8,8,8,8,8,8,8,8];have pz:St B w0 X8 (_::_::_::_::_::_::_::_::((fs++N1)++[.bX 1 KF ((iF d1 syn x).1.length) (byteCells ((iF d1 syn x).1))])):=mW.toEnd 8 rfl;have qP:=pz;rw [List.append_assoc] at qP;refine bQ (k+1,KF,c18,(iF d1 syn x).1,N1++[.bX 1 KF ((iF d1 syn x).1.length) (byteCells ((iF d1 syn x).1))]) ?_ ⟨rfl,rfl,rfl,rfl,rfl,trivial⟩ (by first | omega | (dsimp only;omega));exact ⟨(by dsimp only;omega),(by dsimp only;rw [hi9,GY hx,if_neg (λh=>h h27)]),(Ro.bX abE),qP⟩
  refine zN 17 ?_;have qb:=oP.aR [3,2,1,0];exact .inl ⟨by rw [hi9,GY hx,if_pos h27],rfl,qb.OC⟩
 refine zN 16 ?_;refine je (row':=dx n up (.slice A1 d1.length c1) syn (.slice (aD bb 0) 4 4) Hh Us (.slice iA ix.length ic) (pv) turn) 1 S7 eH ?_;intro WI nJ;refine zQ ?_;refine bO (l':=[]) trivial (gG (aT (aH (va ?_))));refine zN 4 ?_;have pE:=nJ.aR [0];exact .inr ⟨d1,A1,c1,N1,by rw [hi9,List.drop_eq_nil_of_le (by omega)];rfl,rfl,mP,pE⟩
structure Uk (B:Nat) (w0:World):Prop where
 u0:w0.cell? ⟨1,0,none⟩=some (iV (-1))
 u1:w0.cell? ⟨1,1,none⟩=some (iV 0)
 ul:1<B
 n0:w0.cell? ⟨0,0,none⟩=some (iV (-1))
 n1:w0.cell? ⟨0,1,none⟩=some (iV 0)
 nl:0<B
theorem Uk.rg {B:Nat} {w0 w:World} {fs:List Fact} (h:Uk B w0) (S:St B w0 w fs):w.rangeAt 1 0 [iV (-1),iV 0]:=λj u hu=>by
 have hj:j<2:=(List.getElem?_eq_some_iff.1 hu).1;have:j=0\/j=1:=by omega
 rcases this with rfl | rfl
 ·rw [<-hu];exact (S.low.cell (p:=⟨1,0,none⟩) h.ul).trans h.u0
 rw [<-hu];exact (S.low.cell (p:=⟨1,1,none⟩) h.ul).trans h.u1
theorem Uk.nw {B:Nat} {w0 w:World} {fs:List Fact} (h:Uk B w0) (S:St B w0 w fs):Nw w:=
 ⟨(S.low.cell (p:=⟨0,0,none⟩) h.nl).trans h.n0,(S.low.cell (p:=⟨0,1,none⟩) h.nl).trans h.n1,Nat.lt_of_lt_of_le h.nl S.base⟩
theorem rH {P:Program} {t:TypeId} {w:World} {b m:Nat} {row:Array Value} {tt:TypeId} {ds:TypeDesc} (hb:fE w b row tt) (hu:P.underlying t=some ds) (hd:ds.isRow=true) (hz:(P.info? t).map (·.size)=some m) (hm:row.size=m):(Instr.loadAt t (pV b 0)).run P w= .ok (.agg row) w:=by
 have:=aA (P:=P) (w:=w) (t:=t) (b:=b) (off:=0) (cs:=row.toList) hu hd hz (by simpa using hm) (λj u h=>by rw [Nat.zero_add];exact hb.cell (by simpa using h));simpa using this
theorem BZ {B kn kw bb n turn calls dc ic fc sc tc:Nat} {up:Bool} {dA iA fA sA tA:Option Addr} {data:List UInt8} {syn:Int} {Hh:Nat->Pl} {Us:Nat->Bool} {pv nv:Value} {d:Dir} {sh:Nat->Nat->Int×Int} {bs:List BX} {ix fx:List LX} {aQ:List kF} {tl:List vo} {w0 w:World} {fs:List Fact} {q b6 b2 b3 b7:Nat} (hn:n<5) (hq:q<4) {y:BX} (hy:bs[q]? =some y) (x:LX) (a:iM) (S:St B w0 w (nF kn n up dA data dc syn bb Hh Us iA ix ic pv turn bs (wF kw nv d fA fx fc sh sA aQ sc tA tl tc calls fs))) (Zc:Fact.blk b6 (LX.row x) 169∈fs) (hm2:Fact.blk b2 #[gu kn] 122∈fs) (vC:Fact.blk b3 #[iV ((q:Nat):Int)] 3∈fs) (Zd:Fact.blk b7 #[gu kw] 111∈fs) (hu:Uk B w0) (hb:(fx.length+1)*200<=140737488355328) (hb2:(aQ.length+1)*112<=140737488355328):
    Calls Tryz.prog 152 #[.agg #[iV a.code,iV a.eP,iV a.hno,iV a.body],pV b6 0,pV b2 0,pV b3 0,pV b7 0] w (λe w'=>e= .returned (.tuple #[])/\(serves y.b-> ∃ Ze sc' Ae CB CF pO,Ae=aQ++[(⟨n,q,y.b.ep,x.l.op,a,x.l.num⟩:kF)]/\pO=fx++[⟨l8 n x.l.num a nowhere,none,0⟩]/\St B w0 w' (nF kn n up dA data dc syn bb Hh Us iA ix ic pv turn bs (wF kw nv d CB pO CF (gL sh n q (y.b.ep,(y.b.evs.length:Int))) Ze Ae sc' tA tl tc calls fs)))/\(¬ serves y.b-> ∃ CB CF pO,pO=fx++[⟨l8 n x.l.num a (Hh q),none,0⟩]/\St B w0 w' (nF kn n up dA data dc syn bb Hh Us iA ix ic pv turn bs (wF kw nv d CB pO CF sh sA aQ sc tA tl tc calls fs)))):=by
 have hlen:=(S.own 1 rfl).1;rw [gX (sz:=6) (λ_=>rfl)] at hlen;refine fZ 51 Tryz.func152 ?_;refine cw [0,1,2,3,4] ?_;refine zN 2 ?_;refine iC S ?_;intro b1 w2 S3;refine zN 5 ?_;refine vv (au rfl rfl (ay Tryz.underlying3 rfl ((St.hblk S3 (memT 8 rfl dJ _ Zc)).cell rfl))) ?_;refine zQ ?_;refine vv (au rfl rfl (aA (cs:=[iV (-1),iV 0]) Tryz.underlying30 rfl iW rfl (Uk.rg hu S3))) ?_;refine vv (v:= .agg #[iV x.l.num,iV a.code,iV a.eP,iV a.hno,iV a.body,iV (-1),iV 0]) fQ ?_;refine fI S3 ar6 ?_;intro b4 w5 S6;refine sa 0 S6 aaE ?_;intro w7 S8;refine zN 4 ?_;refine gT S8 mixed (by kernel_rfl) ?_;refine uv (v:=pV kn 0) (λ_ Sx9=>(au rfl rfl (ay Tryz.underlying122 rfl ((St.hblk Sx9 (memT 9 rfl dJ _ hm2)).cell rfl)))) ?_;refine zN 3 ?_;refine uv (v:=iV ((q:Nat):Int)) (λ_ O9=>(au rfl rfl (ay Tryz.underlying3 rfl ((St.hblk O9 (memT 9 rfl dJ _ vC)).cell rfl)))) ?_;refine uv (λ_ _=>ku q) ?_;refine zQ ?_;refine uv (v:=iV y.b.role) (λ_ atF=>(au rfl rfl (ay Tryz.underlying3 rfl (Rd.Wj (i:=0) (St.ord 3 atF rfl) (bV (enc:=BX.cells) (sz:=6) (λ_=>rfl) hy rfl))))) ?_;refine zQ ?_;refine gY λKv kT=>?_;refine zN 4 ?_;by_cases h20:y.b.role=1
 ·refine zN 9 ?_;refine vv (au rfl rfl (ay Tryz.underlying111 rfl ((St.hblk kT (memT 9 rfl dJ _ Zd)).cell rfl))) ?_;refine vv (au rfl rfl (ay Tryz.underlying122 rfl ((St.hblk kT (memT 9 rfl dJ _ hm2)).cell rfl))) ?_;refine vv (au rfl rfl (ay Tryz.underlying3 rfl ((St.hblk kT (memT 9 rfl dJ _ vC)).cell rfl))) ?_;refine zQ ?_;refine vv (au rfl rfl (aA (cs:=[iV x.l.op.kind,iV x.l.op.producer,iV x.l.op.id,iV x.l.op.body,iV x.l.op.aN,iV x.l.op.hno]) Tryz.underlying75 rfl iy rfl (λj u hj=>(St.hblk kT (memT 9 rfl dJ _ Zc)).cell (TM j u hj)))) ?_;refine zN 2 ?_;refine vv (au rfl rfl (ay Tryz.underlying3 rfl ((St.hblk kT (memT 9 rfl dJ _ Zc)).cell rfl))) ?_;have qR:=kT.dO [8,8,8,8,8,8,8];refine dG Gf (mE hn hq hy x.l.op a x.l.num qR (by omega)) ?_;rintro _ Lv ⟨rfl,A22,c23,atG,atH,sF⟩;refine ⟨_,rfl,?_⟩;refine zN 2 ?_;have qO:=sF.dO [4,4];have sS:=qO.drew;refine aI 8 sS [1,0] ?_;refine ak (v:=pV kw 0) 0 rfl (sS.oJ [1,0]) (λ_ Zf=>(au rfl rfl (ay Tryz.underlying111 rfl ((St.hblk Zf (memT 7 rfl dJ _ Zd)).cell rfl)))) ?_;refine ak (v:=pV kn 0) 1 rfl (sS.oJ [1,0]) (λ_ Yu=>(au rfl rfl (ay Tryz.underlying122 rfl ((St.hblk Yu (memT 7 rfl dJ _ hm2)).cell rfl)))) ?_;refine aK 4 ?_;refine ak (v:= .agg #[iV 1,iV ((n:Nat):Int),iV (-1),iV 0,iV 0,iV 0,iV 0,iV 0,iV 0,iV 0,iV 0,iV 0,iV 0,.slice none 0 0,.bool false,iV 0,iV x.l.num,iV a.code,iV a.eP,iV a.hno,iV a.body,iV (-1),iV 0]) 6 rfl (sS.oJ [1,0]) (λ_ _=>fQ) ?_;refine aU 7 ?_;refine jw 7 rfl wX (gD (x:=⟨l8 n x.l.num a nowhere,none,0⟩) sS (by omega)) ?_;rintro _ w41 ⟨rfl,A37,c38,anc,aiW,wh⟩;refine ⟨_,rfl,?_⟩;refine aK 2 ?_;refine bO (l':=[]) trivial (aV (rs:=[]) (vs:=[]) rfl trivial ?_);have sG:=wh.aR [8,7];have D9:=sG.dO [6,6,3,3,6,6,6];exact ⟨rfl,λ_=>⟨A22,c23,atG,A37,c38,anc,atH,aiW,D9⟩,λh=>absurd (by unfold serves;omega) h⟩
 refine zN 3 ?_;by_cases h45:y.b.role=2
 ·refine zN 6 ?_;refine vv (au rfl rfl (ay Tryz.underlying111 rfl ((St.hblk kT (memT 9 rfl dJ _ Zd)).cell rfl))) ?_;refine vv (au rfl rfl (ay Tryz.underlying122 rfl ((St.hblk kT (memT 9 rfl dJ _ hm2)).cell rfl))) ?_;refine vv (au rfl rfl (ay Tryz.underlying3 rfl ((St.hblk kT (memT 9 rfl dJ _ vC)).cell rfl))) ?_;refine zQ ?_;refine vv (au rfl rfl (aA (cs:=[iV x.l.op.kind,iV x.l.op.producer,iV x.l.op.id,iV x.l.op.body,iV x.l.op.aN,iV x.l.op.hno]) Tryz.underlying75 rfl iy rfl (λj u hj=>(St.hblk kT (memT 9 rfl dJ _ Zc)).cell (TM j u hj)))) ?_;refine zN 2 ?_;refine vv (au rfl rfl (ay Tryz.underlying3 rfl ((St.hblk kT (memT 9 rfl dJ _ Zc)).cell rfl))) ?_;have qQ:=kT.dO [8,8,8,8,8,8,8];refine dG Gf (mE hn hq hy x.l.op a x.l.num qQ (by omega)) ?_;rintro _ Ye ⟨rfl,Kz,Zg,aiX,ael,oG⟩;refine ⟨_,rfl,?_⟩;refine zN 2 ?_;have xZ:=oG.dO [4,4];have l7:=xZ.drew;refine aI 8 l7 [1,0] ?_;refine ak (v:=pV kw 0) 0 rfl (l7.oJ [1,0]) (λ_ aiY=>(au rfl rfl (ay Tryz.underlying111 rfl ((St.hblk aiY (memT 7 rfl dJ _ Zd)).cell rfl)))) ?_;refine ak (v:=pV kn 0) 1 rfl (l7.oJ [1,0]) (λ_ Zb=>(au rfl rfl (ay Tryz.underlying122 rfl ((St.hblk Zb (memT 7 rfl dJ _ hm2)).cell rfl)))) ?_;refine aK 4 ?_;refine ak (v:= .agg #[iV 1,iV ((n:Nat):Int),iV (-1),iV 0,iV 0,iV 0,iV 0,iV 0,iV 0,iV 0,iV 0,iV 0,iV 0,.slice none 0 0,.bool false,iV 0,iV x.l.num,iV a.code,iV a.eP,iV a.hno,iV a.body,iV (-1),iV 0]) 6 rfl (l7.oJ [1,0]) (λ_ _=>fQ) ?_;refine aU 7 ?_;refine jw 7 rfl wX (gD (x:=⟨l8 n x.l.num a nowhere,none,0⟩) l7 (by omega)) ?_;rintro _ Sv ⟨rfl,A62,c63,atI,atJ,sU⟩;refine ⟨_,rfl,?_⟩;refine aK 2 ?_;refine bO (l':=[]) trivial (aV (rs:=[]) (vs:=[]) rfl trivial ?_);have yZ:=sU.aR [8,7];have uF:=yZ.dO [6,6,3,3,6,6,6];exact ⟨rfl,λ_=>⟨Kz,Zg,aiX,A62,c63,atI,ael,atJ,uF⟩,λh=>absurd (by unfold serves;omega) h⟩
 refine zN 5 ?_;have tY:=kT.drew;refine eO 8 6 tY [] ?_;refine gk (v:=pV kn 0) 0 rfl tY (λ_ atK=>(au rfl rfl (ay Tryz.underlying122 rfl ((St.hblk atK (memT 9 rfl dJ _ hm2)).cell rfl)))) ?_;refine gk (v:=iV ((q:Nat):Int)) 1 rfl tY (λ_ atL=>(au rfl rfl (ay Tryz.underlying3 rfl ((St.hblk atL (memT 9 rfl dJ _ vC)).cell rfl)))) ?_;iterate 2 refine gy ?_
 refine gk (v:=pV kn (5+q*2)) 4 rfl tY (λ_ _=>(bD rfl rfl rfl (eU q Tryz.underlying31 iW rfl hq))) ?_;refine gk (v:= .agg #[iV ((Hh q).node),iV ((Hh q).epoch)]) 5 rfl tY (λ_ aiZ=>(au rfl rfl (aA (cs:=[iV ((Hh q).node),iV ((Hh q).epoch)]) Tryz.underlying30 rfl iW rfl (St.rg 2 aiZ rfl (agG hq))))) ?_;refine dX (by kernel_rfl) rfl rfl rfl ?_;refine zQ ?_;refine je (row':= #[iV x.l.num,iV a.code,iV a.eP,iV a.hno,iV a.body,iV ((Hh q).node),iV ((Hh q).epoch)]) 0 tY iW ?_;intro w77 Ib;refine zQ ?_;refine iJ ?_;refine zQ ?_;have BI:=Ib.dO [6,6];have zX:=BI.drew;refine aI 8 zX [1,0] ?_;refine ak (v:=pV kw 0) 0 rfl (zX.oJ [1,0]) (λ_ atM=>(au rfl rfl (ay Tryz.underlying111 rfl ((St.hblk atM (memT 7 rfl dJ _ Zd)).cell rfl)))) ?_;refine ak (v:=pV kn 0) 1 rfl (zX.oJ [1,0]) (λ_ atN=>(au rfl rfl (ay Tryz.underlying122 rfl ((St.hblk atN (memT 7 rfl dJ _ hm2)).cell rfl)))) ?_;refine aK 4 ?_;refine ak (v:= .agg #[iV 1,iV ((n:Nat):Int),iV (-1),iV 0,iV 0,iV 0,iV 0,iV 0,iV 0,iV 0,iV 0,iV 0,iV 0,.slice none 0 0,.bool false,iV 0,iV x.l.num,iV a.code,iV a.eP,iV a.hno,iV a.body,iV ((Hh q).node),iV ((Hh q).epoch)]) 6 rfl (zX.oJ [1,0]) (λ_ _=>fQ) ?_;refine aU 7 ?_;refine jw 7 rfl wX (gD (x:=⟨l8 n x.l.num a (Hh q),none,0⟩) zX (by omega)) ?_;rintro _ w92 ⟨rfl,A88,c89,atO,atP,BH⟩;refine ⟨_,rfl,?_⟩;refine aK 2 ?_;refine bO (l':=[]) trivial (aV (rs:=[]) (vs:=[]) rfl trivial ?_);have FQ:=BH.aR [3,2];have Jw:=FQ.dO [6,6,3,3,6,6,6];exact ⟨rfl,λh=>absurd h (by unfold serves;omega),λ_=>⟨A88,c89,atO,atP,Jw⟩⟩
end
section
open ChangeShapes WideShapes ChangeAt RowKit
section
variable {K:CK} {B n q:Nat} {w0 w w':World} {fs N Ls L:List Fact} {m m':Cl} {H H':List LX} {R:CX} {X X':Nd} {z z':NX}
theorem vN {b:bF} (h:aj b=0): -2<=b.ep/\b.ep<=2000000:=by
 have h1:=(dR h).1;unfold bg at h1;omega
theorem dI.at_ (h:dI K L n X z) (hq:q<4): ∃ y,z.bx[q]? =some y/\y.b=X.bs q/\Ad L y:=by
 have hl:z.bx.length=4:=by have:=congrArg List.length h.OB;simpa [vB] using this
 refine ⟨z.bx[q],List.getElem?_eq_getElem (by omega),?_,h.Qs _ (List.getElem_mem _)⟩;have h1:(z.bx.map BX.b)[q]? =some (z.bx[q]).b:=by rw [List.getElem?_map,List.getElem?_eq_getElem (by omega)];rfl
 rw [h.OB] at h1;have h2:q=0\/q=1\/q=2\/q=3:=by omega
 rcases h2 with rfl | rfl | rfl | rfl<;>(simp only [vB] at h1;exact (Option.some.inj h1).symm)
theorem GZ {bx:List BX} {f:Nat->bF} {y:BX} (h:bx.map BX.b=vB f) (hq:q<4):(bx.set q y).map BX.b=vB (upd f q y.b):=by rw [List.map_set,h,SC hq]
theorem CG {bx:List BX} {y:BX} (h: ∀ u∈bx,Ad L u) (hy:Ad L y): ∀ u∈bx.set q y,Ad L u:=λu hu=>by
 rcases List.mem_or_eq_of_mem_set hu with h1 | h1
 ·exact h u h1
 rw [h1];exact hy
def CX.go (R:CX) (n:Nat) (z':NX) (fA:Option Addr) (fc:Nat) (fx:List LX) (sA:Option Addr) (sc:Nat) (tA:Option Addr) (tc:Nat) (N:List Fact):CX:=
 { R with nx:=upd R.nx n z',fA:=fA,fc:=fc,fx:=fx,sA:=sA,sc:=sc,tA:=tA,tc:=tc,L:=R.L++N }
theorem Wd.fin {fA sA tA:Option Addr} {fc sc tc kn kw:Nat} {fx:List LX} {rr:List Fact} (hkn:K.nb n=kn) (bU:K.wb=kw) (hrr:fK K R m fs n=rr) (G:Good K R m H) (hn:n<5)
  (S:St B w0 w' (BS kn n X' z'++(BU kw (R.go n z' fA fc fx sA sc tA tc (N++Ls)) m'++(Ls++(rr++N)))))
  (hX:dI K (R.L++(N++Ls)) n X' z') (hf: ∀ u∈fx,u∈R.fx\/Oz (R.L++(N++Ls)) u) (h1:m'.ah=upd m.ah n X') (h2:m'.fly=fx.map LX.l) (hH: ∀ u∈H',u∈H\/Oz (R.L++(N++Ls)) u):Wd K B w0 w' fs m' H':=by
 subst hkn;subst bU;subst hrr;have hsub: ∀ f∈R.L,f∈R.L++(N++Ls):=λf h=>List.mem_append_left _ h;have ez:(R.go n z' fA fc fx sA sc tA tc (N++Ls)).nx n=z':=upd_same _ _ _;have eX:m'.ah n=X':=by rw [h1];exact upd_same _ _ _
 refine Wd.close (n:=n) (R:=R) (m:=m) (N:=N) (Ls:=Ls) (R':=R.go n z' fA fc fx sA sc tA tc (N++Ls)) ?_ (by rw [ez,eX];exact S) hn rfl ?_
 ·refine ⟨h2.symm,λu hu=>(hf u hu).elim (λh=>(G.flo u h).mono hsub) id,λj hj=>?_,G.arr.mono hsub,λu hu=>(hH u hu).elim (λh=>(G.hld u h).mono hsub) id⟩;by_cases e:j=n
  ·subst e;rw [ez,eX];exact hX
  rw [h1,upd_ne e]
  show dI K _ j _ (upd R.nx n z' j)
  rw [upd_ne e];exact (G.kV j hj).mono hsub
 intro j _ hj;exact ⟨by rw [h1,upd_ne hj],upd_ne hj⟩
theorem Wd.dF {fA sA tA:Option Addr} {fc sc tc kn kw:Nat} {fx:List LX} {rr:List Fact} (hkn:K.nb n=kn) (bU:K.wb=kw) (hrr:fK K R m fs n=rr) (G:Good K R m H) (hn:n<5)
  (S:St B w0 w' (BS kn n X' z'++(BU kw (R.go n z' fA fc fx sA sc tA tc Ls) m'++(Ls++rr))))
  (hX:dI K (R.L++Ls) n X' z') (hf: ∀ u∈fx,u∈R.fx\/Oz (R.L++Ls) u) (h1:m'.ah=upd m.ah n X') (h2:m'.fly=fx.map LX.l) (hH: ∀ u∈H',u∈H\/Oz (R.L++Ls) u):Wd K B w0 w' fs m' H':=
 Wd.fin (N:=[]) hkn bU hrr G hn (by rw [List.append_nil];exact S) hX hf h1 h2 hH
theorem dI.more (h:dI K L n X z):dI K (L++N) n X z:=h.mono λ_ hf=>List.mem_append_left _ hf
theorem dI.hear {hs:Nat->Pl} {su:Nat->Bool} (h:dI K L n X z):dI K L n { X with hints:=hs,sure:=su } z:=⟨h.OB,h.Qs,h.wD,h.Y8,h.Y9,h.sJ⟩
theorem mH {x:LX} {P:LX->Prop}: ∀ u∈H,u∈x::H\/P u:=λ_ h=> .inl (List.mem_cons_of_mem _ h)
theorem nN {fx:List LX} {x:LX} {P:LX->Prop} (hx:P x): ∀ u∈fx++[x],u∈fx\/P u:=λu hu=>(List.mem_append.1 hu).elim .inl λh=>by rw [List.mem_singleton] at h;subst h;exact .inr hx
theorem iH {l:iq} {c:Nat} (h:l.evs=[]):Oz L ⟨l,none,c⟩:=by
 unfold Oz E5;dsimp only;rw [h];exact ⟨Ro.none_,Nat.zero_le _⟩
theorem qW {f:Fact} (h:f∈Ls):f∈L++(N++Ls):=List.mem_append_right _ (List.mem_append_right _ h)
theorem mLN: ∀ f∈L++N,f∈L++(N++Ls):=λf h=>by rw [<-List.append_assoc];exact List.mem_append_left _ h
end
section
variable {m:Cl} {n q:Nat} {X:Nd} {b:bF} {op:Ev} {num:Int} {a:iM} {l:iq} {d:List UInt8}
theorem Dn (hX:m.ah n=X) (hb:X.bs q=b) (h:serves b):m.done n q op num a={ m with aQ:=m.aQ++[⟨n,q,b.ep,op,a,num⟩],shown:=gL m.shown n q (b.ep,b.evs.length),fly:=m.fly++[l8 n num a nowhere] }:=by
 subst hX;subst hb;unfold Cl.done;rw [if_pos h];rfl
theorem G6 (hX:m.ah n=X) (hb:X.bs q=b) (h: ¬ serves b):m.done n q op num a={ m with fly:=m.fly++[l8 n num a (X.hints q)] }:=by
 subst hX;subst hb;unfold Cl.done;rw [if_neg h];rfl
theorem ac0 {SR:bF×iM×Bool×Int} (hX:m.ah n=X) (hb:X.bs l.q=b) (hR:gq b l.op=SR) (h:SR.2.2.1=false):m.serve n l=m.done n l.q l.op l.num SR.2.1:=by
 subst hX;subst hb;subst hR;unfold Cl.serve;rw [if_pos h]
theorem Vn {SR:bF×iM×Bool×Int} (hX:m.ah n=X) (hb:X.bs l.q=b) (hR:gq b l.op=SR) (h:SR.2.2.1=true) (hw:dZ X.data X.syn [fq 2 l.q SR.1.ep 0 l.op]=none):m.serve n l=m.done n l.q l.op l.num (ru 14):=by
 subst hX;subst hb;subst hR;unfold Cl.serve Nd.write;rw [if_neg (by rw [h];simp),hw];rfl
theorem ac1 {SR:bF×iM×Bool×Int} (hX:m.ah n=X) (hb:X.bs l.q=b) (hR:gq b l.op=SR) (h:SR.2.2.1=true) (hw:dZ X.data X.syn [fq 2 l.q SR.1.ep 0 l.op]=some d):
  m.serve n l=m.put n { X with data:=d,pend:=some (.serve l.q SR.1.evs l.op l.num SR.2.1) }:=by
 subst hX;subst hb;subst hR;unfold Cl.serve Nd.write;rw [if_neg (by rw [h];simp),hw];rfl
theorem Vo {BR:bF×Int} (hX:m.ah n=X) (hb:X.bs l.q=b) (hR:dn b l.ep l.fr=BR) (h:BR.2≠0):m.offered n l=m:=by
 subst hX;subst hb;subst hR;unfold Cl.offered;rw [if_pos h]
theorem OD {BR:bF×Int} (hX:m.ah n=X) (hb:X.bs l.q=b) (hR:dn b l.ep l.fr=BR) (h:BR.2=0) (h2:BR.1.ep=b.ep):m.offered n l={ m with fly:=m.fly++[qE n l.q b] }:=by
 subst hX;subst hb;subst hR;unfold Cl.offered;rw [if_neg (λe=>e h),if_pos h2];rfl
theorem OE {BR:bF×Int} (hX:m.ah n=X) (hb:X.bs l.q=b) (hR:dn b l.ep l.fr=BR) (h:BR.2=0) (h2:BR.1.ep≠b.ep) (hw:dZ X.data X.syn [fq 4 l.q BR.1.ep l.fr aL]=none):m.offered n l=m:=by
 subst hX;subst hb;subst hR;unfold Cl.offered Nd.write;rw [if_neg (λe=>e h),if_neg h2,hw];rfl
theorem Vp {BR:bF×Int} (hX:m.ah n=X) (hb:X.bs l.q=b) (hR:dn b l.ep l.fr=BR) (h:BR.2=0) (h2:BR.1.ep≠b.ep) (hw:dZ X.data X.syn [fq 4 l.q BR.1.ep l.fr aL]=some d):
  m.offered n l=m.put n { X with data:=d,pend:=some (.begun l.q BR.1) }:=by
 subst hX;subst hb;subst hR;unfold Cl.offered Nd.write;rw [if_neg (λe=>e h),if_neg h2,hw];rfl
theorem Me (hX:m.ah n=X) (hb:X.bs l.q=b) (h:b.tg≠l.fr\/b.ep+1≠l.ep):m.caught n l=m:=by
 subst hX;subst hb;unfold Cl.caught;rw [if_pos h]
theorem Vq {BR:bF×Int} (hX:m.ah n=X) (hb:X.bs l.q=b) (hR:bK b l.at_=BR) (h1: ¬ (b.tg≠l.fr\/b.ep+1≠l.ep)) (h:BR.2≠0):m.caught n l=m:=by
 subst hX;subst hb;subst hR;unfold Cl.caught;rw [if_neg h1,if_pos h]
theorem RI {BR:bF×Int} (hX:m.ah n=X) (hb:X.bs l.q=b) (hR:bK b l.at_=BR) (h1: ¬ (b.tg≠l.fr\/b.ep+1≠l.ep)) (h:BR.2=0) (h2:BR.1.role=b.role):
  m.caught n l={ (m.put n { X with bs:=upd X.bs l.q BR.1 }) with fly:=mZ n l.q BR.1 l.at_ m.fly }:=by
 subst hX;subst hb;subst hR;unfold Cl.caught;rw [if_neg h1,if_neg (λe=>e h),if_pos h2];have e:((m.aW n l.q (bK ((m.ah n).bs l.q) l.at_).1).ah n).bs l.q=(bK ((m.ah n).bs l.q) l.at_).1:=by
  unfold Cl.aW Cl.put;dsimp only;rw [upd_same];exact upd_same _ _ _
 unfold Cl.part mZ;rw [e]
 split
 ·rfl
 rfl
theorem RJ {BR:bF×Int} (hX:m.ah n=X) (hb:X.bs l.q=b) (hR:bK b l.at_=BR) (h1: ¬ (b.tg≠l.fr\/b.ep+1≠l.ep)) (h:BR.2=0) (h2:BR.1.role≠b.role) (hw:dZ X.data X.syn [fq 3 l.q BR.1.ep BR.1.tg aL]=none):m.caught n l=m:=by
 subst hX;subst hb;subst hR;unfold Cl.caught Nd.write;rw [if_neg h1,if_neg (λe=>e h),if_neg h2,hw];rfl
theorem Zh {BR:bF×Int} (hX:m.ah n=X) (hb:X.bs l.q=b) (hR:bK b l.at_=BR) (h1: ¬ (b.tg≠l.fr\/b.ep+1≠l.ep)) (h:BR.2=0) (h2:BR.1.role≠b.role) (hw:dZ X.data X.syn [fq 3 l.q BR.1.ep BR.1.tg aL]=some d):
  m.caught n l=m.put n { X with data:=d,pend:=some (.iE l.q BR.1 l.at_) }:=by
 subst hX;subst hb;subst hR;unfold Cl.caught Nd.write;rw [if_neg h1,if_neg (λe=>e h),if_neg h2,hw];rfl
theorem abG (hX:m.ah n=X) (hb:X.bs l.q=b) (h:b.role≠4\/b.fr≠l.fr):m.got n l=m:=by
 subst hX;subst hb;unfold Cl.got;rw [if_pos h]
theorem ac2 {BR:bF×Int} (hX:m.ah n=X) (hb:X.bs l.q=b) (hR:cK b l.ep l.at_ l.evs l.last=BR) (h1: ¬ (b.role≠4\/b.fr≠l.fr)) (h:BR.2=2):m.got n l={ m with fly:=m.fly++[qE n l.q b] }:=by
 subst hX;subst hb;subst hR;unfold Cl.got;rw [if_neg h1,if_pos h];rfl
theorem Qt {BR:bF×Int} (hX:m.ah n=X) (hb:X.bs l.q=b) (hR:cK b l.ep l.at_ l.evs l.last=BR) (h1: ¬ (b.role≠4\/b.fr≠l.fr)) (h:BR.2≠2) (h2:BR.2≠0\/BR.1.evs.length=b.evs.length):m.got n l=m:=by
 subst hX;subst hb;subst hR;unfold Cl.got;rw [if_neg h1,if_neg h,if_pos h2]
theorem Qu {BR:bF×Int} (hX:m.ah n=X) (hb:X.bs l.q=b) (hR:cK b l.ep l.at_ l.evs l.last=BR) (h1: ¬ (b.role≠4\/b.fr≠l.fr)) (h:BR.2≠2) (h2: ¬ (BR.2≠0\/BR.1.evs.length=b.evs.length))
  (hw:dZ X.data X.syn (tu l.q BR.1 b.evs.length (l.at_.toNat+l.evs.length) l.last)=none):m.got n l=m:=by
 subst hX;subst hb;subst hR;unfold Cl.got Nd.write;rw [if_neg h1,if_neg h,if_neg h2,hw];rfl
theorem abH {BR:bF×Int} (hX:m.ah n=X) (hb:X.bs l.q=b) (hR:cK b l.ep l.at_ l.evs l.last=BR) (h1: ¬ (b.role≠4\/b.fr≠l.fr)) (h:BR.2≠2) (h2: ¬ (BR.2≠0\/BR.1.evs.length=b.evs.length))
  (hw:dZ X.data X.syn (tu l.q BR.1 b.evs.length (l.at_.toNat+l.evs.length) l.last)=some d):m.got n l=m.put n { X with data:=d,pend:=some (.got l.q BR.1 l.last) }:=by
 subst hX;subst hb;subst hR;unfold Cl.got Nd.write;rw [if_neg h1,if_neg h,if_neg h2,hw];rfl
theorem Zi {BR:bF×Int} (hX:m.ah n=X) (hb:X.bs l.q=b) (hR:fP b l.ep=BR) (h:BR.2≠0):m.learnt n l=m.put n (X.hear n l):=by
 subst hX;subst hb;subst hR;unfold Cl.learnt;rw [if_pos h]
theorem RL {BR:bF×Int} (hX:m.ah n=X) (hb:X.bs l.q=b) (hR:fP b l.ep=BR) (h:BR.2=0) (hw:dZ X.data X.syn [fq 7 l.q b.ep 0 aL]=none):m.learnt n l=m.put n (X.hear n l):=by
 subst hX;subst hb;subst hR;unfold Cl.learnt Nd.write;rw [if_neg (λe=>e h)];have hw':dZ ((m.ah n).hear n l).data ((m.ah n).hear n l).syn [fq 7 l.q ((m.ah n).bs l.q).ep 0 aL]=none:=hw;rw [hw'];rfl
theorem Zj {BR:bF×Int} (hX:m.ah n=X) (hb:X.bs l.q=b) (hR:fP b l.ep=BR) (h:BR.2=0) (hw:dZ X.data X.syn [fq 7 l.q b.ep 0 aL]=some d):
  m.learnt n l=m.put n { (X.hear n l) with data:=d,pend:=some (.forget l.q BR.1) }:=by
 subst hX;subst hb;subst hR;unfold Cl.learnt Nd.write;rw [if_neg (λe=>e h)];have hw':dZ ((m.ah n).hear n l).data ((m.ah n).hear n l).syn [fq 7 l.q ((m.ah n).bs l.q).ep 0 aL]=some d:=hw;rw [hw'];rfl
end
end
section
open ChangeShapes WideShapes RowKit
section
variable {xo yo:Operand} {w:World} {f:Fn} {xs ys:Array Value}
theorem ahH {d:Nat}:(Op.equalIn (d+1) 127 (.func f xs ys) .nilFunc).run Tryz.prog w= .ok false w:=by
 unfold Op.equalIn;simp [Tryz.underlying127]
theorem ahI {d:Nat}:(Op.equalIn (d+1) 127 .nilFunc .nilFunc).run Tryz.prog w= .ok true w:=by
 unfold Op.equalIn;simp [Tryz.underlying127]
theorem vO:(do eqGuard .neq 127 xo yo (.func f xs ys) .nilFunc;binOp .neq 127 (.func f xs ys) .nilFunc:Sem Value).run Tryz.prog w= .ok (.bool true) w:=by
 have h1:(eqGuard .neq 127 xo yo (.func f xs ys) .nilFunc)=pure ():=by unfold eqGuard;rfl
 have h2:binOp .neq 127 (.func f xs ys) .nilFunc=(do let b<-Op.equalIn (9999+1) 127 (.func f xs ys) .nilFunc;pure (.bool (!b))):=by unfold binOp;rfl
 rw [h1,h2];simp [ahH]
theorem II:(do eqGuard .neq 127 xo yo .nilFunc .nilFunc;binOp .neq 127 .nilFunc .nilFunc:Sem Value).run Tryz.prog w= .ok (.bool false) w:=by
 have h1:(eqGuard .neq 127 xo yo .nilFunc .nilFunc)=pure ():=by unfold eqGuard;rfl
 have h2:binOp .neq 127 .nilFunc .nilFunc=(do let b<-Op.equalIn (9999+1) 127 .nilFunc .nilFunc;pure (.bool (!b))):=by unfold binOp;rfl
 rw [h1,h2];simp [ahI]
theorem IJ:(do eqGuard .eql 127 xo yo (.func f xs ys) .nilFunc;binOp .eql 127 (.func f xs ys) .nilFunc:Sem Value).run Tryz.prog w= .ok (.bool false) w:=by
 have h1:(eqGuard .eql 127 xo yo (.func f xs ys) .nilFunc)=pure ():=by unfold eqGuard;rfl
 have h2:binOp .eql 127 (.func f xs ys) .nilFunc=(do let b<-Op.equalIn (9999+1) 127 (.func f xs ys) .nilFunc;pure (.bool b)):=by unfold binOp;rfl
 rw [h1,h2];simp [ahH]
theorem Qv:(do eqGuard .eql 127 xo yo .nilFunc .nilFunc;binOp .eql 127 .nilFunc .nilFunc:Sem Value).run Tryz.prog w= .ok (.bool true) w:=by
 have h1:(eqGuard .eql 127 xo yo .nilFunc .nilFunc)=pure ():=by unfold eqGuard;rfl
 have h2:binOp .eql 127 .nilFunc .nilFunc=(do let b<-Op.equalIn (9999+1) 127 .nilFunc .nilFunc;pure (.bool b)):=by unfold binOp;rfl
 rw [h1,h2];simp [ahI]
end
def fG.fit:fG->Prop
 | .serve q evs _ _ _=>q<4/\evs.length<=2000
 | .begun q _=>q<4
 | .got q _ _=>q<4
 | .iE q b _=>q<4/\aj b=0
 | .forget q _=>q<4
noncomputable def Cl.more (w:Cl) (n:Nat):Cl:=if (w.ah n).pend=none then Cl.drain n (w.ah n).inbox w else w
def Nd.box (X:Nd) (r:List iq):Nd:={ X with inbox:=r }
section
variable {m:Cl} {n q:Nat} {X:Nd} {b b':bF}
theorem rX {α:Type} (f:Nat->α) (k:Nat) (u v:α):upd (upd f k u) k v=upd f k v:=by
 funext j
 unfold upd
 split<;>rfl
theorem E8 (h:(m.ah n).pend≠none):m.more n=m:=if_neg h
theorem Qw (h:(m.ah n).inbox=[]):m.more n=m:=by
 unfold Cl.more;rw [h]
 split<;>rfl
theorem tH {l:iq} {r:List iq} (h:(m.ah n).pend=none) (h1:(m.ah n).inbox=l::r) (hq:l.q<4):m.more n=((m.put n ((m.ah n).box r)).handle n l).more n:=by
 show m.more n=((m.put n { m.ah n with inbox:=r }).handle n l).more n
 have e:=(xH (m:=m.put n { m.ah n with inbox:=r }) (n:=n) (l:=l) hq).l9;rw [show (m.put n { m.ah n with inbox:=r }).ah n={ m.ah n with inbox:=r } from upd_same _ _ _] at e;unfold Cl.more;rw [if_pos h,h1,Cl.drain,e]
theorem Af (h:(m.ah n).up=false):m.step n=m:=if_pos h
theorem tJ (h:(m.ah n).up=true) (h1:(m.ah n).pend=none):m.step n=if ((m.more n).ah n).pend=none then (m.more n).J7 n else m.more n:=by
 unfold Cl.step;rw [if_neg (by rw [h];simp),h1];unfold Cl.more;rw [if_pos h1]
def Nd.jB (X:Nd):Nd:={ X with syn:=X.data.length,pend:=none }
def Nd.aW (X:Nd) (q:Nat) (b:bF):Nd:={ X with bs:=upd X.bs q b }
theorem tO (X:Nd) (q:Nat) (b:bF):(m.put n X).aW n q b=m.put n (X.aW q b):=by
 unfold Cl.aW Cl.put;dsimp only;rw [upd_same,rX];rfl
theorem qp {p:fG} (hX:m.ah n=X) (hu:X.up=true) (hp:X.pend=some p):m.step n=(m.put n X.jB).yH n p:=by
 subst hX;unfold Cl.step;rw [if_neg (by rw [hu];simp),hp];rfl
theorem bI (X:Nd):(m.put n X).ah n=X:=upd_same _ _ _
theorem pI {evs:List Ev} {op:Ev} {num:Int} {a:iM} (hX:m.ah n=X) (hu:X.up=true) (hp:X.pend=some (.serve q evs op num a)) (hb:X.bs q=b) (hs:serves b):
  m.step n={ (m.put n (X.jB.aW q { b with evs:=evs })) with aQ:=m.aQ++[⟨n,q,b.ep,op,a,num⟩],shown:=gL m.shown n q (b.ep,evs.length),fly:=m.fly++[l8 n num a nowhere] }:=by
 rw [qp hX hu hp]
 show ((m.put n X.jB).aW n q { ((m.put n X.jB).ah n).bs q with evs:=evs }).done n q op num a=_
 rw [bI,tO,show X.jB.bs q=b from hb];rw [Dn (b:={ b with evs:=evs }) (bI _) (upd_same _ _ _) hs];rfl
theorem KQ {evs:List Ev} {op:Ev} {num:Int} {a:iM} (hX:m.ah n=X) (hu:X.up=true) (hp:X.pend=some (.serve q evs op num a)) (hb:X.bs q=b) (hs: ¬ serves b):
  m.step n={ (m.put n (X.jB.aW q { b with evs:=evs })) with fly:=m.fly++[l8 n num a (X.hints q)] }:=by
 rw [qp hX hu hp]
 show ((m.put n X.jB).aW n q { ((m.put n X.jB).ah n).bs q with evs:=evs }).done n q op num a=_
 rw [bI,tO,show X.jB.bs q=b from hb];rw [G6 (b:={ b with evs:=evs }) (bI _) (upd_same _ _ _) hs];rfl
theorem xJ (hX:m.ah n=X) (hu:X.up=true) (hp:X.pend=some (.begun q b)):m.step n={ (m.put n (X.jB.aW q b)) with fly:=m.fly++[qE n q b] }:=by
 rw [qp hX hu hp]
 show ((m.put n X.jB).aW n q b).have_ n q=_
 rw [tO];unfold Cl.have_ Cl.send;rw [bI,show (X.jB.aW q b).bs q=b from upd_same _ _ _];rfl
theorem rC (hX:m.ah n=X) (hu:X.up=true) (hp:X.pend=some (.got q b true)):
  m.step n={ (m.put n { (X.jB.aW q b) with sure:=upd X.sure q false }) with aQ:=m.aQ++[⟨n,q,b.ep,aM,eu,-1⟩],shown:=gL m.shown n q (b.ep,b.evs.length) }:=by
 rw [qp hX hu hp];unfold Cl.yH;dsimp only;rw [if_pos rfl,tO];simp only [bI];unfold Cl.tell Cl.put;dsimp only;rw [rX,upd_same]
 show ({ m with ah:=_,aQ:=m.aQ++[⟨n,q,((X.jB.aW q b).bs q).ep,aM,eu,-1⟩],shown:=gL m.shown n q (((X.jB.aW q b).bs q).ep,((X.jB.aW q b).bs q).evs.length) }:Cl)=_
 rw [show (X.jB.aW q b).bs q=b from upd_same _ _ _];rfl
theorem Dp (hX:m.ah n=X) (hu:X.up=true) (hp:X.pend=some (.got q b false)):m.step n={ (m.put n (X.jB.aW q b)) with fly:=m.fly++[qE n q b] }:=by
 rw [qp hX hu hp];unfold Cl.yH;dsimp only;rw [if_neg (by simp),tO];unfold Cl.have_ Cl.send;rw [bI,show (X.jB.aW q b).bs q=b from upd_same _ _ _];rfl
theorem Ag {at_:Int} (hX:m.ah n=X) (hu:X.up=true) (hp:X.pend=some (.iE q b at_)):m.step n={ (m.put n (X.jB.aW q b)) with fly:=mZ n q b at_ m.fly }:=by
 rw [qp hX hu hp]
 show ((m.put n X.jB).aW n q b).part n q at_=_
 rw [tO];unfold Cl.part Cl.send mZ;rw [bI,show (X.jB.aW q b).bs q=b from upd_same _ _ _]
 split
 ·rfl
 rfl
theorem uW (hX:m.ah n=X) (hu:X.up=true) (hp:X.pend=some (.forget q b)):m.step n=m.put n (X.jB.aW q b):=by
 rw [qp hX hu hp]
 show (m.put n X.jB).aW n q b=_
 rw [tO]
end
theorem agH {P:Program} {t e:TypeId} {A:Option Addr} {n c s:Nat} (k:Nat) (hu:P.underlying t=some (.slice e)) (hz:(P.info? e).map (·.size)=some s) (hk:k<=n) (w:World):
  (Instr.sliceAt t (.slice A n c) (some (.int .i64 ((k:Nat):Int))) none none).run P w= .ok (.slice (if c=k then A else A.map (·.add (k*s))) (n-k) (c-k)) w:=by
 obtain ⟨z,hq,hs⟩: ∃ z,P.info? e=some z/\z.size=s:=by
  cases h:P.info? e with
  | none=>simp [h] at hz
  | some z=>exact ⟨z,rfl,by simpa [h] using hz⟩
 have h1:(sizeOf e).run P w= .ok s w:=by simp [sizeOf,typeInfo,hq,hs,Sem.run_bind,Result.andThen]
 have hb:=λw=>ad5 (P:=P) (n:=n) (c:=c) (kd:= .i64) k rfl hk w;simp [Instr.sliceAt,Instr.slice,run_underlying hu,Sem.run_bind,Result.andThen,hb,h1]
section
variable {K:CK} {B n:Nat} {w0 w w':World} {fs gs:List Fact} {m:Cl} {H:List LX}
theorem Wd.on (h:Wd K B w0 w fs m H) (hb:Below w.heap.size w w'):Wd K B w0 w' fs m H:=by
 obtain ⟨R,G,S⟩:=h;exact ⟨R,G,S.on hb⟩
theorem Wd.ext (h:Wd K B w0 w fs m H) (T:St w.heap.size w w' gs) (hg:gs.all Fact.F9=true):Wd K B w0 w' (gs++fs) m H:=by
 obtain ⟨R,G,S⟩:=h;refine ⟨R,G,?_⟩;have:=S.ext T hg;rwa [<-List.append_assoc] at this
theorem Wd.vD (h:Wd K B w0 w (gs++fs) m H):St B w0 w gs:=by
 obtain ⟨R,_,S⟩:=h;exact S.sub (by rw [List.append_assoc];exact List.sublist_append_left _ _)
theorem Wd.less (h:Wd K B w0 w (gs++fs) m H):Wd K B w0 w fs m H:=by
 obtain ⟨R,G,S⟩:=h;exact ⟨R,G,S.sub (by rw [List.append_assoc];exact List.sublist_append_right _ _)⟩
theorem Wd.drew (h:Wd K B w0 w fs m H):Wd K B w0 w.drew fs m H:=by
 obtain ⟨R,G,S⟩:=h;exact ⟨R,G,S.drew⟩
end
theorem qX: ∀ {rs:List dz} {l:List UInt8} {s:Int} {d:List UInt8},dZ l s rs=some d->d=l++bC rs/\(∀ r∈rs,aJ r=0)/\(l.length<=100000->d.length<=100000)
 | [],l,s,d,h=>by
  cases h;exact ⟨by simp [bC],λr hr=>by simp at hr,λh=>h⟩
 | r::rs,l,s,d,h=>by
  rw [dZ] at h
  split at h
  ·cases h
  rename_i h1
  obtain ⟨h2,h3,h4⟩:=LM (Classical.not_not.1 h1);rw [h2] at h;obtain ⟨h5,h6,h7⟩:=qX h;refine ⟨by rw [h5];simp [bC,List.flatMap_cons],λx hx=>?_,λhl=>h7 (by rw [List.length_append];omega)⟩
  rcases List.mem_cons.1 hx with rfl | hx
  ·exact h3
  exact h6 x hx
theorem Ca: ∀ {rs:List dz} {l:List UInt8} {s:Int},(∀ r∈rs,aJ r=0)->0<=s->s<=l.length->l.length+46*rs.length<=100000->dZ l s rs=some (l++bC rs)
 | [],l,s,_,_,_,_=>by simp [dZ,bC]
 | r::rs,l,s,h,h0,h1,h2=>by
  rw [List.length_cons] at h2;have hw:=acC (h r (by simp)) h0 h1 (by omega);have:=yX r;rw [dZ,hw,if_neg (by simp),Ca (λx hx=>h x (by simp [hx])) h0 (by rw [List.length_append];omega) (by rw [List.length_append];omega)];simp [bC,List.flatMap_cons]
theorem agI {Q:Qd} {e:Ev} (h:(iD Q e).2.2.1=true):(iD Q e).2.2.2=0:=by
 unfold iD at h⊢
 split at h
 ·cases h
 rename_i h1
 rw [if_neg h1]
 split at h
 ·cases h
 rename_i h2;rw [if_neg h2]
theorem agJ {Q:Qd} {e:Ev} (h:(iD Q e).2.2.2=0):aZ e=0:=by
 unfold iD at h
 split at h
 ·rename_i h1;exact absurd h h1
 split at h
 ·rename_i h2;exact absurd h h2
 rename_i h2;exact Classical.not_not.1 h2
theorem IK: ∀ {n:Nat} {l:List Ev},l.length=n->good l-> ∀ e∈l,aZ e=0
 | 0,l,hn,_,e,he=>by rw [List.length_eq_zero_iff.1 hn] at he;simp at he
 | n+1,l,hn,h,e,he=>by
  have e1:l=l.take n++[l[n]]:=by rw [<-nY (by omega),<-hn,List.take_length]
  have h':good (l.take n++[l[n]]):=e1▸h;rw [e1] at he
  rcases List.mem_append.1 he with he | he
  ·exact IK (n:=n) (by rw [List.length_take];omega) (qo h) e he
  rw [List.mem_singleton] at he;rw [he];exact agJ (good_step h').1
section
variable {b:bF} {e:Ev}
theorem Vr (h: ¬ (gq b e).2.2.1=false):aj b=0/\aZ e=0/\serves b/\(iD (aF b.evs).1 e).2.2.1=true/\b.evs.length<1999/\e.kind≠4/\gq b e=({ b with evs:=b.evs++[e] },(iD (aF b.evs).1 e).2.1,true,0):=by
 unfold gq at h⊢;by_cases c1:aj b≠0
 ·rw [if_pos c1] at h;exact absurd rfl h
 rw [if_neg c1] at h⊢;by_cases c2:aZ e≠0
 ·rw [if_pos c2] at h;exact absurd rfl h
 rw [if_neg c2] at h⊢;by_cases c3:e.kind=4
 ·rw [if_pos c3] at h;exact absurd rfl h
 rw [if_neg c3] at h⊢;by_cases c4:b.role=3
 ·rw [if_pos c4] at h;exact absurd rfl h
 rw [if_neg c4] at h⊢;by_cases c5:b.role≠1/\b.role≠2
 ·rw [if_pos c5] at h;exact absurd rfl h
 rw [if_neg c5] at h⊢;by_cases c6:(iD (aF b.evs).1 e).2.2.1=false
 ·rw [if_pos c6] at h;exact absurd rfl h
 rw [if_neg c6] at h⊢;by_cases c7:1999<=b.evs.length
 ·rw [if_pos c7] at h;exact absurd rfl h
 rw [if_neg c7];exact ⟨Classical.not_not.1 c1,Classical.not_not.1 c2,by unfold serves;omega,by simpa using c6,by omega,c3,rfl⟩
theorem ac3 {ep fr:Int} (h: ¬ (dn b ep fr).2≠0) (h2: ¬ (dn b ep fr).1.ep=b.ep):(b.role=0\/b.role=4)/\b.ep<ep/\1<=ep/\ep<=1048576/\0<=fr/\fr<=4/\dn b ep fr=(⟨4,ep,fr,0,0,[]⟩,0):=by
 unfold dn at h h2⊢;by_cases c1:aj b≠0
 ·rw [if_pos c1] at h;exact absurd c1 h
 rw [if_neg c1] at h h2⊢;by_cases c2: ¬ (1<=ep/\ep<=1048576/\0<=fr/\fr<=4)
 ·rw [if_pos c2] at h;exact absurd (by decide) h
 rw [if_neg c2] at h h2⊢;by_cases c3:b.role≠0/\b.role≠4
 ·rw [if_pos c3] at h;exact absurd (by decide) h
 rw [if_neg c3] at h h2⊢;by_cases c4:b.role=4/\b.ep=ep/\b.fr=fr
 ·rw [if_pos c4] at h2;exact absurd rfl h2
 rw [if_neg c4] at h h2⊢;by_cases c5:ep<=b.ep
 ·rw [if_pos c5] at h;exact absurd (by decide) h
 rw [if_neg c5];have c2':=Classical.not_not.1 c2;exact ⟨by omega,by omega,c2'.1,c2'.2.1,c2'.2.2.1,c2'.2.2.2,rfl⟩
theorem Vs {ep fr:Int} (h: ¬ (dn b ep fr).2≠0) (h2:(dn b ep fr).1.ep=b.ep):b.role=4/\b.ep=ep/\b.fr=fr:=by
 unfold dn at h h2;by_cases c1:aj b≠0
 ·rw [if_pos c1] at h;exact absurd c1 h
 rw [if_neg c1] at h h2;by_cases c2: ¬ (1<=ep/\ep<=1048576/\0<=fr/\fr<=4)
 ·rw [if_pos c2] at h;exact absurd (by decide) h
 rw [if_neg c2] at h h2;by_cases c3:b.role≠0/\b.role≠4
 ·rw [if_pos c3] at h;exact absurd (by decide) h
 rw [if_neg c3] at h h2;by_cases c4:b.role=4/\b.ep=ep/\b.fr=fr
 ·exact c4
 rw [if_neg c4] at h h2;by_cases c5:ep<=b.ep
 ·rw [if_pos c5] at h;exact absurd (by decide) h
 rw [if_neg c5] at h2;exact absurd (show ep=b.ep from h2) (by omega)
def G7 (b:bF) (at_:Int) (l:List Ev):List Ev:=b.evs++l.drop (b.evs.length-at_.toNat)
def uX (b:bF) (at_:Int) (l:List Ev) (last:Bool):bF:=if last=true then ⟨1,b.ep,0,0,0,G7 b at_ l++[aM]⟩ else { b with evs:=G7 b at_ l }
theorem Zk {ep at_:Int} {l:List Ev} {last:Bool} (h: ¬ (cK b ep at_ l last).2≠0):b.role=4/\b.ep=ep/\0<=at_/\at_<=b.evs.length/\(b.evs.drop at_.toNat).take l.length=l.take (b.evs.length-at_.toNat)/\
  (last=true->b.evs.length<=at_.toNat+l.length)/\aj (uX b at_ l last)=0/\cK b ep at_ l last=(uX b at_ l last,0):=by
 unfold cK at h⊢;by_cases c1:aj b≠0
 ·rw [if_pos c1] at h;exact absurd c1 h
 rw [if_neg c1] at h⊢;by_cases c2:b.role≠4
 ·rw [if_pos c2] at h;exact absurd (by decide) h
 rw [if_neg c2] at h⊢;by_cases c3:b.ep≠ep
 ·rw [if_pos c3] at h;exact absurd (by decide) h
 rw [if_neg c3] at h⊢;have c3':b.ep=ep:=Classical.not_not.1 c3;subst c3';by_cases c4: ¬ (0<=at_/\at_<=b.evs.length)
 ·rw [if_pos c4] at h;exact absurd (by decide) h
 rw [if_neg c4] at h⊢;by_cases c5: ¬ (b.evs.drop at_.toNat).take l.length=l.take (b.evs.length-at_.toNat)
 ·rw [if_pos c5] at h;exact absurd (by decide) h
 rw [if_neg c5] at h⊢;by_cases c6:last=true/\at_.toNat+l.length<b.evs.length
 ·rw [if_pos c6] at h;exact absurd (by decide) h
 rw [if_neg c6] at h⊢;change ¬ (if aj (uX b at_ l last)≠0 then (bG,(3:Int)) else (uX b at_ l last,0)).2≠0 at h
 show _/\_/\_/\_/\_/\_/\_/\(if aj (uX b at_ l last)≠0 then (bG,(3:Int)) else (uX b at_ l last,0))=_
 by_cases c7:aj (uX b at_ l last)≠0
 ·rw [if_pos c7] at h;exact absurd (by decide) h
 have c4':=Classical.not_not.1 c4;rw [if_neg c7];exact ⟨Classical.not_not.1 c2,rfl,c4'.1,c4'.2,Classical.not_not.1 c5,λhl=>by by_cases h9:at_.toNat+l.length<b.evs.length;exact absurd ⟨hl,h9⟩ c6;omega,Classical.not_not.1 c7,rfl⟩
theorem OG {hv:Int} (h: ¬ (bK b hv).2≠0):0<=hv/\hv<=b.evs.length/\((b.role=3/\bK b hv=(b,0))\/(b.role=2/\(hv=b.evs.length\/b.rd=4)/\bK b hv=({ b with role:=3,rd:=0 },0))\/(b.role=2/\ ¬ (hv=b.evs.length\/b.rd=4)/\bK b hv=({ b with rd:=b.rd+1 },0))):=by
 unfold bK at h⊢;by_cases c1:aj b≠0
 ·rw [if_pos c1] at h;exact absurd c1 h
 rw [if_neg c1] at h⊢;by_cases c2:b.role≠2/\b.role≠3
 ·rw [if_pos c2] at h;exact absurd (by decide) h
 rw [if_neg c2] at h⊢;by_cases c3: ¬ (0<=hv/\hv<=b.evs.length)
 ·rw [if_pos c3] at h;exact absurd (by decide) h
 rw [if_neg c3] at h⊢;have c3':=Classical.not_not.1 c3;refine ⟨c3'.1,c3'.2,?_⟩;by_cases c4:b.role=3
 ·rw [if_pos c4];exact .inl ⟨c4,rfl⟩
 rw [if_neg c4];by_cases c5:hv=b.evs.length\/b.rd=4
 ·rw [if_pos c5];exact .inr (.inl ⟨by omega,c5,rfl⟩)
 rw [if_neg c5];exact .inr (.inr ⟨by omega,c5,rfl⟩)
theorem Zl {ep:Int} (h: ¬ (fP b ep).2≠0):b.role=3/\b.ep<ep/\fP b ep=(⟨0,b.ep,0,0,0,[]⟩,0):=by
 unfold fP at h⊢;by_cases c1:aj b≠0
 ·rw [if_pos c1] at h;exact absurd c1 h
 rw [if_neg c1] at h⊢;by_cases c2:b.role≠3
 ·rw [if_pos c2] at h;exact absurd (by decide) h
 rw [if_neg c2] at h⊢;by_cases c3:ep<=b.ep
 ·rw [if_pos c3] at h;exact absurd (by decide) h
 rw [if_neg c3];exact ⟨Classical.not_not.1 c2,by omega,rfl⟩
theorem agK {ep:Int} (h: ¬ (iL b ep).2≠0):b.role=0/\b.ep<ep/\iL b ep=(⟨1,ep,0,0,0,[]⟩,0):=by
 unfold iL at h⊢;by_cases c1:aj b≠0
 ·rw [if_pos c1] at h;exact absurd c1 h
 rw [if_neg c1] at h⊢;by_cases c2: ¬ (1<=ep/\ep<=1048576)
 ·rw [if_pos c2] at h;exact absurd (by decide) h
 rw [if_neg c2] at h⊢;by_cases c3:b.role≠0
 ·rw [if_pos c3] at h;exact absurd (by decide) h
 rw [if_neg c3] at h⊢;by_cases c4:ep<=b.ep
 ·rw [if_pos c4] at h;exact absurd (by decide) h
 rw [if_neg c4];exact ⟨Classical.not_not.1 c3,by omega,rfl⟩
theorem go_ok {tg:Int} (h:(yY b tg).2=0):b.role=1/\0<=tg/\tg<=4/\yY b tg=(⟨2,b.ep,0,tg,0,b.evs⟩,0):=by
 unfold yY at h⊢;by_cases c1:aj b≠0
 ·rw [if_pos c1] at h;exact absurd h c1
 rw [if_neg c1] at h⊢;by_cases c2: ¬ (0<=tg/\tg<=4)
 ·rw [if_pos c2] at h;exact absurd h (by decide)
 rw [if_neg c2] at h⊢;by_cases c3:b.role=2\/b.role=3
 ·rw [if_pos c3] at h;exact absurd h (by decide)
 rw [if_neg c3] at h⊢;by_cases c4:b.role≠1
 ·rw [if_pos c4] at h;exact absurd h (by decide)
 rw [if_neg c4] at h⊢;by_cases c5:b.ep=1048576
 ·rw [if_pos c5] at h;exact absurd h (by decide)
 rw [if_neg c5];have c2':=Classical.not_not.1 c2;exact ⟨Classical.not_not.1 c4,c2'.1,c2'.2,rfl⟩
theorem Xe (hr:b.role=1) (h: ¬ (eF b).2≠0):aj ⟨1,b.ep,0,0,0,b.evs++[aM]⟩=0/\eF b=(⟨1,b.ep,0,0,0,b.evs++[aM]⟩,0):=by
 unfold eF at h⊢;by_cases c1:aj b≠0
 ·rw [if_pos c1] at h;exact absurd c1 h
 rw [if_neg c1] at h⊢;rw [if_neg (by omega)] at h⊢;by_cases c3:aj ⟨1,b.ep,0,0,0,b.evs++[aM]⟩≠0
 ·rw [if_pos c3] at h;exact absurd (by decide) h
 rw [if_neg c3];exact ⟨Classical.not_not.1 c3,rfl⟩
theorem Mf {hv:Int} (h: ¬ (ig b hv).2.2≠0):(b.role=2\/b.role=3)/\0<=hv/\hv<=b.evs.length/\ig b hv=((b.evs.drop hv.toNat).take 3,decide (b.role=3/\b.evs.length<=hv.toNat+3),0):=by
 unfold ig at h⊢;by_cases c1:aj b≠0
 ·rw [if_pos c1] at h;exact absurd c1 h
 rw [if_neg c1] at h⊢;by_cases c2:b.role≠2/\b.role≠3
 ·rw [if_pos c2] at h;exact absurd (by decide) h
 rw [if_neg c2] at h⊢;by_cases c3: ¬ (0<=hv/\hv<=b.evs.length)
 ·rw [if_pos c3] at h;exact absurd (by decide) h
 rw [if_neg c3];have c3':=Classical.not_not.1 c3;exact ⟨by omega,c3'.1,c3'.2,rfl⟩
end
structure uw (X:Nd) (rs us:List dz):Prop where
 data:X.data=bC (rs++us)
 syn:X.syn=(bC rs).length
 tape:gZ rs λq=>jH (X.bs q)
 mY: ∀ q,q<4->aj (X.bs q)=0
 Xf:X.pend=none->us=[]
 SF: ∀ p,X.pend=some p->us=p.rs X.bs/\p.ok X.bs/\p.q<4
 len:X.data.length<=100000
structure E9 (X:Nd) (rs:List dz) (t:List UInt8) (f:Nat->bF):Prop where
 data:X.data=bC rs++t
 ane:(firstM t).2=0
 tape:gZ rs f
 mY: ∀ q,q<4->aj (f q)=0/\(f q).role≠2
 syn:0<=X.syn/\X.syn<=X.data.length
 len:X.data.length<=100000
 sJ:X.pend=none
 l9:X.inbox=[]
 bz: ∀ q,q<4->aj (X.bs q)=0
theorem Ni:aj bG=0:=lU (.inl ⟨rfl,by decide,by decide,rfl,rfl,rfl,rfl⟩) vM
def Fa (X:Nd):Prop:=(X.up=true/\ ∃ rs us,uw X rs us)\/(X.up=false/\ ∃ rs t f,E9 X rs t f)
section
variable {X:Nd} {rs us:List dz} {t:List UInt8} {f:Nat->bF} {q:Nat} {p:fG}
theorem Fa.Mg (h:Fa X) (hu:X.up=true): ∃ rs us,uw X rs us:=h.elim (λh=>h.2) λh=>by rw [h.1] at hu;cases hu
theorem Fa.atQ (h:Fa X) (hu:X.up=false): ∃ rs t f,E9 X rs t f:=h.elim (λh=>by rw [h.1] at hu;cases hu) λh=>h.2
theorem uw.may (h:uw X rs us):cu X.data X.syn=true:=by
 have h1:=h.len;have h2:=h.data;rw [kN] at h2;have h3:=congrArg List.length h2;rw [List.length_append] at h3;simp only [cu,h.syn,Bool.and_eq_true,decide_eq_true_eq];omega
theorem E9.may (h:E9 X rs t f):cu X.data X.syn=true:=by
 simp only [cu,Bool.and_eq_true,decide_eq_true_eq];exact ⟨⟨h.len,h.syn.1⟩,h.syn.2⟩
theorem E9.rd (h:E9 X rs t f):jo X.data X.syn=(bC rs,min X.syn (bC rs).length,0)/\Bn X.data X.syn=some (vB f)/\ ∀ q,q<4->bq X.data X.syn q=f q:=h.tape.read h.data h.ane h.len h.syn.1 h.syn.2
theorem E9.view (h:E9 X rs t f) (hu:X.up=false) (hq:q<4):X.view q=f q:=by
 unfold Nd.view;rw [if_neg (by rw [hu];simp)];exact h.rd.2.2 q hq
theorem gH (hu:X.up=true):X.view=X.bs:=if_pos hu
def Ko (bs:Nat->bF) (p:fG) (x:bF):Prop:=
 x=jH (bs p.q)\/x=jH (p.b bs)\/ ∃ q b last j,p= .got q b last/\x={ bs q with evs:=b.evs.take ((bs q).evs.length+j) }/\(bs q).evs.length+j+(if last=true then 1 else 0)<=b.evs.length
theorem G8 {b:bF} (h:b.role=4\/b.role=0\/b.role=3\/b.role=1):jH b=b:=Dl (by omega)
theorem agL {bs:Nat->bF} {b:bF}:upd (λq=>jH (bs q)) q (jH b)=λk=>jH (upd bs q b k):=by
 funext k
 unfold upd
 split<;>rfl
theorem imports {bs:Nat->bF} {ep:Int} {es:List Ev} (h:gZ rs λq=>jH (bs q)) (hb:aj (bs q)=0) (hr:(bs q).role=4) (eP:(bs q).ep=ep) (hq:q<4) (hg:good es) (he:(bs q).evs=es.take (bs q).evs.length):
  ∀ j,(bs q).evs.length+j<=es.length->gZ (rs++((es.drop (bs q).evs.length).take j).map λx=>fq 5 q ep 0 x) (upd (λq=>jH (bs q)) q { bs q with evs:=es.take ((bs q).evs.length+j) })
 | 0,_=>by
  rw [Nat.add_zero,<-he,List.take_zero,List.map_nil,List.append_nil];exact h.congr λk _=>by
   unfold upd
   split
   ·rename_i e;subst e;exact G8 (.inl hr)
   rfl
 | j+1,hj=>by
  have ih:=imports h hb hr eP hq hg he j (by omega);have hk:(bs q).evs.length+j<es.length:=by omega
  have e1:(es.drop (bs q).evs.length).take (j+1)=(es.drop (bs q).evs.length).take j++[es[(bs q).evs.length+j]]:=by
   rw [nY (by rw [List.length_drop];omega),List.getElem_drop]
  have hg2:good (es.take ((bs q).evs.length+j)++[es[(bs q).evs.length+j]]):=by rw [<-nY hk];exact qo hg
  have hb2:aj { bs q with evs:=es.take ((bs q).evs.length+j) }=0:=lU (nR (fM hb) (by omega) _) (qo hg);obtain ⟨h1,h2,h3⟩:=Y6 (b:={ bs q with evs:=es.take ((bs q).evs.length+j) }) hb2 hr eP hq (IK rfl hg _ (List.getElem_mem hk)) hg2;rw [e1,List.map_append,<-List.append_assoc];have:=ih.snoc (q:=q) h2 hq rfl (by rw [upd_same];exact h1);refine this.congr λk _=>?_;unfold upd
  split
  ·dsimp only;rw [<-nY hk,Nat.add_assoc]
  rfl
theorem Ig {bs:Nat->bF} {r:dz} {x:bF} (h:gZ rs λq=>jH (bs q)) (hq:q<4) (hr:aJ r=0) (hrq:r.queue=q) (ha:dM (jH (bs q)) r=(jH x,0)):gZ (rs++[r]) λk=>jH (upd bs q x k):=by
 rw [<-agL];exact h.snoc hr hq hrq ha
theorem Fb {bs:Nat->bF} {b:bF} {last:Bool} (hp:(fG.got q b last).ok bs): ∃ es,good es/\(bs q).evs=es.take (bs q).evs.length/\(bs q).evs.length<=es.length/\es=b.evs.take es.length/\es.length+(if last=true then 1 else 0)=b.evs.length/\b.ep=(bs q).ep/\
  (fG.got q b last).rs bs=((es.drop (bs q).evs.length).map λx=>fq 5 q b.ep 0 x)++if last=true then [fq 6 q b.ep 0 aL] else []:=by
 obtain ⟨h1,h2,h3,h4,h5⟩:=hp;have hlen: ∀ {es:List Ev},(bs q).evs=es.take (bs q).evs.length->(bs q).evs.length<=es.length:=λ{es} h=>by
  have:=congrArg List.length h;rw [List.length_take] at this;omega
 cases last with
 | false=>
  obtain ⟨h6,h7⟩:=h4 rfl;refine ⟨b.evs,h2,h7,hlen h7,by rw [List.take_length],by simp,by rw [h6],?_⟩;unfold fG.rs tu;simp
 | true=>
  obtain ⟨es,h6,h7⟩:=h5 rfl;subst h6;refine ⟨es,Qm h2,h7,hlen h7,by simp,by simp,rfl,?_⟩;unfold fG.rs tu;simp
theorem nZ (h:gZ rs λq=>jH (X.bs q)) (hb: ∀ q,q<4->aj (X.bs q)=0) (hp:p.ok X.bs) (hq:p.q<4):gZ (rs++p.rs X.bs) (λk=>jH (upd X.bs p.q (p.b X.bs) k))/\aj (p.b X.bs)=0:=by
 have hbq:=hb _ hq
 cases p with
 | serve q evs op num a=>
  obtain ⟨h1,h2,h3,h4⟩:=hp;have hbq:aj (X.bs q)=0:=hbq;have hr:(X.bs q).role≠0:=by unfold serves at h1;omega
  have hb2:aj { X.bs q with evs:=evs }=0:=lU (nR (fM hbq) hr _) h4;have hd:=xG h1 hbq;have hd2:jH { X.bs q with evs:=evs }=⟨1,(X.bs q).ep,0,0,0,evs⟩:=xG (b:={ X.bs q with evs:=evs }) h1 hb2;obtain ⟨a1,a2⟩:=Qo (b:=jH (X.bs q)) (q:=q) (e:=op) (tC hbq) (by rw [hd]) SE hq h3 (by rw [agB,<-h2];exact h4);refine ⟨Ig h hq a2 rfl ?_,hb2⟩
  show dM (jH (X.bs q)) (fq 2 q (X.bs q).ep 0 op)=(jH { X.bs q with evs:=evs },0)
  rw [a1,hd2,hd,h2]
 | begun q b=>
  obtain ⟨h1,e,f,rfl,h2,h3,h4,h5,h6⟩:=hp;have hd:jH (X.bs q)=X.bs q:=G8 (by omega);obtain ⟨a1,a2⟩:=acX (q:=q) hbq h1 h2 ⟨h3,h4⟩ hq ⟨h5,h6⟩;refine ⟨Ig h hq a2 rfl ?_,lU (.inr ⟨h3,h4,.inr (.inr (.inr ⟨rfl,h5,by show f<5;omega,rfl,rfl⟩))⟩) vM⟩
  show dM (jH (X.bs q)) _=_
  rw [hd];exact a1
 | got q b last=>
  obtain ⟨es,g1,g2,g3,g4,g5,g6,g7⟩:=Fb hp;have hr:(X.bs q).role=4:=hp.1;have hgb:good b.evs:=hp.2.1;have hbq:aj (X.bs q)=0:=hbq;have hs:=fM hbq;unfold bg at hs;have hi:=imports h hbq hr g6.symm hq g1 g2 (es.length-(X.bs q).evs.length) (by omega);rw [show (X.bs q).evs.length+(es.length-(X.bs q).evs.length)=es.length by omega,List.take_length,List.take_of_length_le (by rw [List.length_drop];omega)] at hi;rw [g7]
  cases last with
  | false=>
   have e1:=(hp.2.2.2.1 rfl).1;have e2:es=b.evs:=by rw [g4];simp only [Bool.false_eq_true,if_false,Nat.add_zero] at g5;rw [g5,List.take_length]
   subst e2;simp only [Bool.false_eq_true,if_false,List.append_nil];have hr0:(X.bs q).role≠0:=by rw [hr];decide
   have hbk:aj b=0:=by rw [e1];exact lU (nR (fM hbq) hr0 _) hgb
   refine ⟨hi.congr λk _=>?_,hbk⟩
   show _=jH (upd X.bs q b k)
   unfold upd
   split
   ·rw [<-e1];exact (G8 (.inl (by rw [e1];exact hr))).symm
   rfl
  | true=>
   obtain ⟨es',e1,e2⟩:=hp.2.2.2.2 rfl;have e3:es=es':=by rw [g4,e1];rw [e1] at g5;simp only [if_true,List.length_append,List.length_singleton] at g5;rw [show es.length=es'.length by omega];simp
   subst e3;subst e1;have hr0:(X.bs q).role≠0:=by rw [hr];decide
   have hb2:aj { X.bs q with evs:=es }=0:=lU (nR (fM hbq) hr0 _) g1;obtain ⟨a1,a2⟩:=aly (b:={ X.bs q with evs:=es }) (q:=q) hb2 hr rfl hq hgb;have hk:=lU (b:=⟨1,(X.bs q).ep,0,0,0,es++[aM]⟩) (Aa (by omega) (by omega) _) hgb;simp only [if_true];rw [<-List.append_assoc];have:=hi.snoc (q:=q) a2 hq rfl (by rw [upd_same];exact a1);refine ⟨this.congr λk _=>?_,hk⟩
   show _=jH (upd X.bs q _ k)
   unfold upd
   split
   ·rfl
   rfl
 | iE q b at_=>
  obtain ⟨h1,rfl⟩:=hp;have hbq:aj (X.bs q)=0:=hbq;have hs:=fM hbq;unfold bg at hs;have hd:=xG (.inr h1) hbq;obtain ⟨a1,a2⟩:=agA (b:=jH (X.bs q)) (q:=q) (tg:=(X.bs q).tg) (tC hbq) (by rw [hd]) SE hq (by omega);rw [SE] at a1;have hbk:aj { X.bs q with role:=3,rd:=0 }=0:=lU (.inr ⟨by show 1<=(X.bs q).ep;omega,by show (X.bs q).ep<=_;omega,.inr (.inr (.inl ⟨rfl,by show (X.bs q).fr=0;omega,by show 0<=(X.bs q).tg;omega,by show (X.bs q).tg<5;omega,rfl⟩))⟩) (iZ (b:=X.bs q) hbq);refine ⟨Ig h hq a2 rfl ?_,hbk⟩
  show dM (jH (X.bs q)) (fq 3 q (X.bs q).ep (X.bs q).tg aL)=(jH { X.bs q with role:=3,rd:=0 },0)
  rw [a1,G8 (b:={ X.bs q with role:=3,rd:=0 }) (.inr (.inr (.inl rfl))),hd]
  show ((⟨3,(X.bs q).ep,0,(X.bs q).tg,0,(X.bs q).evs⟩:bF),(0:Int))=(⟨3,(X.bs q).ep,(X.bs q).fr,(X.bs q).tg,0,(X.bs q).evs⟩,0)
  have:(X.bs q).fr=0:=by omega
  rw [this]
 | forget q b=>
  obtain ⟨h1,rfl⟩:=hp;have hbq:aj (X.bs q)=0:=hbq;have hs:=fM hbq;unfold bg at hs;obtain ⟨a1,a2⟩:=Y7 (q:=q) hbq h1 rfl hq;refine ⟨Ig h hq a2 rfl ?_,lU (.inl ⟨rfl,by show 0<=(X.bs q).ep;omega,by show (X.bs q).ep<=_;omega,rfl,rfl,rfl,rfl⟩) vM⟩
  show dM (jH (X.bs q)) _=_
  rw [G8 (.inr (.inr (.inl h1)))];exact a1
theorem SG {bs:Nat->bF} (hb: ∀ q,q<4->aj (bs q)=0) (hq:q<4):aj (jH (bs q))=0/\(jH (bs q)).role≠2:=⟨tC (hb q hq),IG⟩
theorem Zm (h:gZ rs λq=>jH (X.bs q)) (hb: ∀ q,q<4->aj (X.bs q)=0) (hp:p.ok X.bs) (hq:p.q<4) (j:Nat):
  ∃ f',gZ (rs++(p.rs X.bs).take j) f'/\(∀ q,q<4->q≠p.q->f' q=jH (X.bs q))/\Ko X.bs p (f' p.q)/\aj (f' p.q)=0/\(f' p.q).role≠2:=by
 obtain ⟨hf,Zn⟩:=nZ h hb hp hq;have full: ∃ f',gZ (rs++p.rs X.bs) f'/\(∀ q,q<4->q≠p.q->f' q=jH (X.bs q))/\Ko X.bs p (f' p.q)/\aj (f' p.q)=0/\(f' p.q).role≠2:=
  ⟨_,hf,λq _ hne=>by rw [upd_ne hne],.inr (.inl (by rw [upd_same])),by rw [upd_same];exact tC Zn,IG⟩
 have zero: ∃ f',gZ (rs++([]:List dz)) f'/\(∀ q,q<4->q≠p.q->f' q=jH (X.bs q))/\Ko X.bs p (f' p.q)/\aj (f' p.q)=0/\(f' p.q).role≠2:=
  ⟨_,by rw [List.append_nil];exact h,λ_ _ _=>rfl,.inl rfl,tC (hb _ hq),IG⟩
 have one: ∀ r,p.rs X.bs=[r]-> ∃ f',gZ (rs++(p.rs X.bs).take j) f'/\(∀ q,q<4->q≠p.q->f' q=jH (X.bs q))/\Ko X.bs p (f' p.q)/\aj (f' p.q)=0/\(f' p.q).role≠2:=λr hr=>by
  cases j with
  | zero=>rw [List.take_zero];exact zero
  | succ j=>rw [hr,List.take_of_length_le (by simp),<-hr];exact full
 cases p with
 | serve q evs op num a=>exact one _ rfl
 | begun q b=>exact one _ rfl
 | iE q b at_=>exact one _ rfl
 | forget q b=>exact one _ rfl
 | got q b last=>
  obtain ⟨es,g1,g2,g3,g4,g5,g6,g7⟩:=Fb hp;have hr:(X.bs q).role=4:=hp.1;by_cases hj:j<=es.length-(X.bs q).evs.length
  ·have hbq:aj (X.bs q)=0:=hb _ hq;have hi:=imports h hbq hr g6.symm hq g1 g2 j (by omega);have e1:((fG.got q b last).rs X.bs).take j=((es.drop (X.bs q).evs.length).take j).map λx=>fq 5 q b.ep 0 x:=by
    rw [g7,List.take_append_of_le_length (by rw [List.length_map,List.length_drop];omega),List.map_take]
   have e2:es.take ((X.bs q).evs.length+j)=b.evs.take ((X.bs q).evs.length+j):=by
    rw [g4,List.take_take,Nat.min_eq_left (by omega)]
   rw [e1];refine ⟨_,hi,λk _ hk=>upd_ne hk,?_,?_,?_⟩
   ·refine .inr (.inr ⟨q,b,last,j,rfl,?_,by omega⟩)
    show upd _ q _ q=_
    rw [upd_same,e2]
   ·show aj (upd _ q _ q)=0
    rw [upd_same];exact lU (nR (fM hbq) (by omega) _) (qo g1)
   show (upd (λq=>jH (X.bs q)) q { X.bs q with evs:=es.take ((X.bs q).evs.length+j) } q).role≠2
   rw [upd_same]
   show (X.bs q).role≠2
   omega
  have:((fG.got q b last).rs X.bs).take j=(fG.got q b last).rs X.bs:=by
   refine List.take_of_length_le ?_;rw [g7,List.length_append,List.length_map,List.length_drop]
   cases last<;>simp<;>omega
  rw [this];exact full
end
def Nd.crashed (X:Nd) (keep:Int):Nd:={ X.blank with up:=false,data:=(lX X.data X.syn keep).1,syn:=(lX X.data X.syn keep).2.1 }
section
variable {X:Nd} {rs us:List dz} {t:List UInt8} {f:Nat->bF} {q:Nat} {p:fG} {keep:Int}
theorem Qx (h:uw X rs us) (hk:0<=keep): ∃ rs' t f,E9 (X.crashed keep) rs' t f/\ ∀ q,q<4->f q=jH (X.bs q)\/ ∃ p,X.pend=some p/\p.q=q/\Ko X.bs p (f q):=by
 have hm:=h.may;have hd:X.data=bC rs++bC us:=by rw [h.data,kN]
 have hl:=congrArg List.length hd;rw [List.length_append] at hl;have hs:=h.syn;obtain ⟨N,h1,h2,e⟩: ∃ N:Nat,(bC rs).length<=N/\N<=X.data.length/\lX X.data X.syn keep=(X.data.take N,(N:Int),0):=by
  unfold lX;rw [if_pos hm,if_neg (by omega)];by_cases c:(X.data.length:Int)-X.syn<keep
  ·rw [if_pos c];exact ⟨X.data.length,by omega,Nat.le_refl _,by rw [List.take_length]⟩
  rw [if_neg c];refine ⟨(X.syn+keep).toNat,by omega,by omega,?_⟩;rw [show (((X.syn+keep).toNat:Nat):Int)=X.syn+keep by omega]
 obtain ⟨j,t,g1,g2,g3⟩:=LK us (N-(bC rs).length) (by omega);have e2:X.data.take N=bC (rs++us.take j)++t:=by
  rw [hd,List.take_append,List.take_of_length_le h1,g1,kN,List.append_assoc]
 have hlen:(X.data.take N).length=N:=by rw [List.length_take];omega
 have key: ∀ f,gZ (rs++us.take j) f->(∀ q,q<4->aj (f q)=0/\(f q).role≠2)->E9 (X.crashed keep) (rs++us.take j) t f:=λf hf hb=>by
  have hd':(X.crashed keep).data=X.data.take N:=by unfold Nd.crashed;dsimp only;rw [e]
  have hs':(X.crashed keep).syn=N:=by unfold Nd.crashed;dsimp only;rw [e]
  have:=h.len;exact ⟨by rw [hd',e2],g2,hf,hb,by rw [hd',hs',hlen];omega,by rw [hd',hlen];omega,rfl,rfl,λ_ _=>Ni⟩
 cases hp:X.pend with
 | none=>
  have hu:=h.Xf hp;refine ⟨_,t,λq=>jH (X.bs q),key _ ?_ λq hq=>SG h.mY hq,λq _=> .inl rfl⟩;rw [hu,List.take_nil,List.append_nil];exact h.tape
 | some p=>
  obtain ⟨hu,hpo,hq⟩:=h.SF p hp;obtain ⟨f',f1,f2,f3,f4,f5⟩:=Zm h.tape h.mY hpo hq j;rw [<-hu] at f1;refine ⟨_,t,f',key _ f1 λq hq4=>?_,λq hq4=>?_⟩
  ·by_cases c:q=p.q
   ·subst c;exact ⟨f4,f5⟩
   rw [f2 q hq4 c];exact SG h.mY hq4
  by_cases c:q=p.q
  ·subst c;exact .inr ⟨p,rfl,rfl,f3⟩
  exact .inl (f2 q hq4 c)
def gU (b:bF):bF:=⟨1,b.ep,0,0,0,b.evs++[aM]⟩
theorem Nj {s:Int} {f:Nat->bF}: ∀ {ql:List Nat} {rs:List dz} {g:Nat->bF} {d:List UInt8},ql.Nodup->(∀ q∈ql,q<4/\g q=f q)->gZ rs g->(∀ q,q<4->aj (g q)=0)->(bC rs).length<=100000->dY s f ql (bC rs)=some d->
  ∃ ws,d=bC (rs++ws)/\gZ (rs++ws) (λq=>if q∈ql/\(f q).role=1 then gU (f q) else g q)/\d.length<=100000/\ ∀ q∈ql,(f q).role=1->aj (gU (f q))=0/\eF (f q)=(gU (f q),0)
 | [],rs,g,d,_,_,hT,hb,hl,h=>by
  cases h;exact ⟨[],by simp,by simpa using hT,hl,by simp⟩
 | q::r,rs,g,d,hnd,hq,hT,hb,hl,h=>by
  rw [dY] at h;obtain ⟨h1,h2⟩:=List.nodup_cons.1 hnd;obtain ⟨hq4,hgq⟩:=hq q (by simp);by_cases c1:(f q).role≠1
  ·rw [if_pos c1] at h;obtain ⟨ws,e1,e2,e3,e4⟩:=Nj h2 (λk hk=>hq k (by simp [hk])) hT hb hl h;refine ⟨ws,e1,e2.congr λk _=>?_,e3,λk hk hr=>?_⟩
   ·by_cases e:k=q
    ·subst e;rw [if_neg (λh=>c1 h.2),if_neg (λh=>c1 h.2)]
    simp [e]
   rcases List.mem_cons.1 hk with rfl | hk
   ·exact absurd hr c1
   exact e4 k hk hr
  rw [if_neg c1] at h;by_cases c2:(eF (f q)).2≠0
  ·rw [if_pos c2] at h;cases h
  rw [if_neg c2] at h;have hr1:=Classical.not_not.1 c1;obtain ⟨k1,k2⟩:=Xe hr1 c2
  split at h
  ·cases h
  rename_i d' hw
  obtain ⟨w1,w2,w3⟩:=qX hw;have hd':d'=bC (rs++[fq 2 q (f q).ep 0 aM]):=by rw [w1,kN]
  have hbq:=hb q hq4;obtain ⟨a1,a2⟩:=Qo (b:=g q) (q:=q) (e:=aM) hbq (by rw [hgq];exact hr1) rfl hq4 (by decide) (by rw [hgq];exact (dR k1).2);rw [hgq] at a1 a2 hbq;have hs:=fM hbq;unfold bg at hs;have hx:({ f q with evs:=(f q).evs++[aM] }:bF)=gU (f q):=by
   unfold gU;simp only [bF.mk.injEq,and_true,true_and];omega
  rw [hx] at a1;have hT2:=hT.snoc (q:=q) a2 hq4 rfl (by rw [hgq];exact a1);rw [hd'] at h;obtain ⟨ws,e1,e2,e3,e4⟩:=Nj h2 (g:=upd g q (gU (f q))) (λk hk=>⟨(hq k (by simp [hk])).1,by rw [upd_ne (λe:k=q=>h1 (e▸hk))];exact (hq k (by simp [hk])).2⟩) hT2
   (λk hk=>by
    by_cases e:k=q
    ·subst e;rw [upd_same];exact k1
    rw [upd_ne e];exact hb k hk) (by rw [<-hd'];exact w3 hl) h
  refine ⟨fq 2 q (f q).ep 0 aM::ws,by rw [e1,List.append_assoc];rfl,?_,e3,λk hk hr=>?_⟩
  ·rw [show rs++fq 2 q (f q).ep 0 aM::ws=rs++[fq 2 q (f q).ep 0 aM]++ws by rw [List.append_assoc];rfl];refine e2.congr λk _=>?_;by_cases e:k=q
   ·subst e;rw [if_neg (λh=>h1 h.1),upd_same,if_pos ⟨by simp,hr1⟩]
   rw [upd_ne e];simp [e]
  rcases List.mem_cons.1 hk with rfl | hk
  ·exact ⟨k1,k2⟩
  exact e4 k hk hr
end
section
variable {n q:Nat} {evs:List Ev} {an:List iM} {bs:Nat->bF}
structure rY (m m':Cl):Prop where
 ah:m'.ah=m.ah
 off:m'.off=m.off
 fly:m'.fly=m.fly
 bE:m'.bE=m.bE
 calls:m'.calls=m.calls
theorem rY.refl (m:Cl):rY m m:=⟨rfl,rfl,rfl,rfl,rfl⟩
theorem rY.trans {a b c:Cl} (h:rY a b) (h':rY b c):rY a c:=⟨h'.ah.trans h.ah,h'.off.trans h.off,h'.fly.trans h.fly,h'.bE.trans h.bE,h'.calls.trans h.calls⟩
theorem Mh (m:Cl) {e:Ev} {a:iM} {u:Int}:rY m (m.tell n q e a u):=⟨rfl,rfl,rfl,rfl,rfl⟩
theorem Ah: ∀ (il:List Nat) (m:Cl),rY m (m.recovered n q evs an il)/\(m.recovered n q evs an il).aQ.length=m.aQ.length+il.length
 | [],m=>⟨.refl m,rfl⟩
 | i::r,m=>by
  obtain ⟨h1,h2⟩:=Ah r (m.tell n q (evs.getD i aL) (an.getD i eu) (-1));rw [Cl.recovered];refine ⟨(Mh m).trans h1,?_⟩;rw [h2];unfold Cl.tell;simp only [List.length_append,List.length_cons,List.length_nil];omega
theorem Ei (m:Cl) (hl:((m.ah n).bs q).evs.length<=2000):rY m (m.recover n q)/\(m.recover n q).aQ.length<=m.aQ.length+2000:=by
 unfold Cl.recover
 split
 ·exact ⟨Mh m,by simp [Cl.tell]⟩
 obtain ⟨h1,h2⟩:=Ah (n:=n) (q:=q) (evs:=((m.ah n).bs q).evs) (an:=(aF ((m.ah n).bs q).evs).2.1) ((List.range ((m.ah n).bs q).evs.length).drop (m.shown n q).2.toNat) m;refine ⟨h1,?_⟩;rw [h2,List.length_drop,List.length_range];omega
structure Qy (m m':Cl) (n:Nat) (bs:Nat->bF):Prop where
 ah:m'.ah=upd m.ah n { m.ah n with bs:=bs }
 off:m'.off=m.off
 fly:m'.fly=m.fly
 bE:m'.bE=m.bE
 calls:m'.calls=m.calls
theorem Cb: ∀ (ql:List Nat) (m:Cl),ql.Nodup->(∀ q∈ql,(m.ah n).bs q=bs q/\(bs q).evs.length<=2000)->
  Qy m (Cl.woken n bs ql m) n (λq=>if q∈ql/\(bs q).role=1 then (eF (bs q)).1 else (m.ah n).bs q)/\(Cl.woken n bs ql m).aQ.length<=m.aQ.length+2001*ql.length
 | [],m,_,_=>by
  refine ⟨⟨?_,rfl,rfl,rfl,rfl⟩,Nat.le_refl _⟩
  show m.ah=_
  refine (aG ?_).symm;simp
 | q::r,m,hnd,hq=>by
  obtain ⟨h1,h2⟩:=List.nodup_cons.1 hnd;obtain ⟨hq1,hq2⟩:=hq q (by simp);rw [Cl.woken];by_cases c:(bs q).role≠1
  ·rw [if_pos c];obtain ⟨g1,g2⟩:=Cb r m h2 λk hk=>hq k (by simp [hk]);refine ⟨⟨?_,g1.off,g1.fly,g1.bE,g1.calls⟩,by rw [List.length_cons];omega⟩;rw [g1.ah];refine congrArg (λb=>upd m.ah n { m.ah n with bs:=b }) (funext λk=>?_);by_cases e:k=q
   ·subst e;rw [if_neg (λh=>c h.2),if_neg (λh=>c h.2)]
   simp [e]
  rw [if_neg c];obtain ⟨r1,r2⟩:=Ei (n:=n) (q:=q) m (by rw [hq1];exact hq2);have e1:((((m.recover n q).aW n q (eF (bs q)).1).tell n q aM eu (-1)).ah)=upd m.ah n { m.ah n with bs:=upd (m.ah n).bs q (eF (bs q)).1 }:=by
   show upd (m.recover n q).ah n { (m.recover n q).ah n with bs:=upd ((m.recover n q).ah n).bs q (eF (bs q)).1 }=_
   rw [r1.ah]
  obtain ⟨g1,g2⟩:=Cb r (((m.recover n q).aW n q (eF (bs q)).1).tell n q aM eu (-1)) h2 λk hk=>by
   rw [e1,upd_same];dsimp only;rw [upd_ne (λe:k=q=>h1 (e▸hk))];exact hq k (by simp [hk])
  refine ⟨⟨?_,g1.off.trans r1.off,g1.fly.trans r1.fly,g1.bE.trans r1.bE,g1.calls.trans r1.calls⟩,?_⟩
  ·rw [g1.ah,e1,rX,upd_same];refine congrArg (λb=>upd m.ah n { m.ah n with bs:=b }) (funext λk=>?_)
   show (if k∈r/\(bs k).role=1 then (eF (bs k)).1 else upd (m.ah n).bs q (eF (bs q)).1 k)=if k∈q::r/\(bs k).role=1 then (eF (bs k)).1 else (m.ah n).bs k
   by_cases e:k=q
   ·subst e;rw [if_neg (λh=>h1 h.1),upd_same,if_pos ⟨by simp,Classical.not_not.1 c⟩]
   rw [upd_ne e];simp [e]
  have:(((m.recover n q).aW n q (eF (bs q)).1).tell n q aM eu (-1)).aQ.length=(m.recover n q).aQ.length+1:=by
   unfold Cl.tell;simp [Cl.aW,Cl.put]
  rw [this] at g2;rw [List.length_cons];omega
end
def Src (b:bF) (l:iq):fG->Prop
 | .serve _ _ op num a=>l.kd=0/\op=l.op/\num=l.num/\a=(iD (aF b.evs).1 l.op).2.1/\l.op.kind≠4/\b.evs.length<1999
 | .begun _ x=>l.kd=2/\x=⟨4,l.ep,l.fr,0,0,[]⟩
 | .got _ x last=>l.kd=4/\b.fr=l.fr/\b.ep=l.ep/\0<=l.at_/\l.at_<=b.evs.length/\(b.evs.drop l.at_.toNat).take l.evs.length=l.evs.take (b.evs.length-l.at_.toNat)/\b.evs.length<=l.at_.toNat+l.evs.length/\last=l.last/\x=uX b l.at_ l.evs l.last
 | .iE _ _ a=>l.kd=3/\b.tg=l.fr/\b.ep+1=l.ep/\a=l.at_/\0<=l.at_/\l.at_<=b.evs.length
 | .forget _ _=>l.kd=6/\b.ep<l.ep
inductive Hnd (m:Cl) (n:Nat) (l:iq):Cl->Prop
 | same:Hnd m n l m
 | done (a:iM):l.kd=0->((gq ((m.ah n).bs l.q) l.op).2.2.1=false/\a=(gq ((m.ah n).bs l.q) l.op).2.1\/
   a=ru 14/\serves ((m.ah n).bs l.q)/\aZ l.op=0/\dZ (m.ah n).data (m.ah n).syn [fq 2 l.q ((m.ah n).bs l.q).ep 0 l.op]=none/\good (((m.ah n).bs l.q).evs++[l.op]))->Hnd m n l (m.done n l.q l.op l.num a)
 | have_:((m.ah n).bs l.q).role=4->Hnd m n l (m.have_ n l.q)
 | part (b:bF):l.kd=3->0<=l.at_->l.at_<=((m.ah n).bs l.q).evs.length->(((m.ah n).bs l.q).role=2/\b={ (m.ah n).bs l.q with rd:=((m.ah n).bs l.q).rd+1 }/\((m.ah n).bs l.q).rd≠4\/((m.ah n).bs l.q).role=3/\b=(m.ah n).bs l.q)->
   ((m.ah n).bs l.q).tg=l.fr->aj b=0->Hnd m n l ((m.aW n l.q b).part n l.q l.at_)
 | pend (p:fG) (Y:Nd) (d:List UInt8):(Y=m.ah n\/l.kd=6/\Y=(m.ah n).hear n l)->p.q=l.q->p.ok (m.ah n).bs->dZ (m.ah n).data (m.ah n).syn (p.rs (m.ah n).bs)=some d->Src ((m.ah n).bs l.q) l p->Hnd m n l (m.put n { Y with data:=d,pend:=some p })
 | hear:l.kd=6->Hnd m n l (m.put n ((m.ah n).hear n l))
section
variable {m:Cl} {n:Nat} {l:iq}
theorem qF {X x:Nd} {rs:List dz} (h:X.write rs=some x): ∃ d,dZ X.data X.syn rs=some d/\x={ X with data:=d }:=by
 unfold Nd.write at h;rw [Option.map_eq_some_iff] at h;obtain ⟨d,h1,h2⟩:=h;exact ⟨d,h1,h2.symm⟩
theorem Vt {X:Nd} {rs:List dz} (h:X.write rs=none):dZ X.data X.syn rs=none:=by
 unfold Nd.write at h;rwa [Option.map_eq_none_iff] at h
theorem Vu {b:bF} {e:Ev} (h:aj b=0) (hl:b.evs.length<1999) (hd:(iD (aF b.evs).1 e).2.2.1=true):good (b.evs++[e]):=Y3 (iZ h) (by omega) (agI hd) hd
theorem Zo (hk:l.kd=0):Hnd m n l (m.serve n l):=by
 unfold Cl.serve
 split
 ·rename_i h
  exact .done _ hk (.inl ⟨h,rfl⟩)
 rename_i h
 obtain ⟨h1,h2,h3,h4,h5,h6,h7⟩:=Vr h;have hg:=Vu h1 h5 h4;rw [h7]
 split
 ·rename_i hw
  exact .done _ hk (.inr ⟨rfl,h3,h2,Vt hw,hg⟩)
 rename_i x hw
 obtain ⟨d,hd,rfl⟩:=qF hw;exact .pend (.serve l.q (((m.ah n).bs l.q).evs++[l.op]) l.op l.num (iD (aF ((m.ah n).bs l.q).evs).1 l.op).2.1) (m.ah n) d (.inl rfl) rfl ⟨h3,rfl,h2,hg⟩ hd ⟨hk,rfl,rfl,rfl,h6,h5⟩
theorem RN (hk:l.kd=2):Hnd m n l (m.offered n l):=by
 unfold Cl.offered
 split
 ·exact .same
 rename_i h
 split
 ·rename_i h2
  exact .have_ (Vs h h2).1
 rename_i h2
 obtain ⟨h3,h4,h5,h6,h7,h8,h9⟩:=ac3 h h2;rw [h9]
 split
 ·exact .same
 rename_i x hw
 obtain ⟨d,hd,rfl⟩:=qF hw;exact .pend (.begun l.q ⟨4,l.ep,l.fr,0,0,[]⟩) (m.ah n) d (.inl rfl) rfl ⟨h3,l.ep,l.fr,rfl,h4,h5,h6,h7,h8⟩ hd ⟨hk,rfl⟩
theorem Vv (hb:aj ((m.ah n).bs l.q)=0) (hk:l.kd=3):Hnd m n l (m.caught n l):=by
 unfold Cl.caught
 split
 ·exact .same
 rename_i h0
 split
 ·exact .same
 rename_i h
 obtain ⟨h1,h2,h3⟩:=OG h;have pK:((m.ah n).bs l.q).tg=l.fr:=by
  by_cases e:((m.ah n).bs l.q).tg=l.fr
  ·exact e
  exact absurd (.inl e) h0
 have eP:((m.ah n).bs l.q).ep+1=l.ep:=by
  by_cases e:((m.ah n).bs l.q).ep+1=l.ep
  ·exact e
  exact absurd (.inr e) h0
 have hcg:=F3 hb (Classical.not_not.1 h)
 rcases h3 with ⟨h4,h5⟩ | ⟨h4,h6,h5⟩ | ⟨h4,h6,h5⟩
 ·rw [h5] at hcg⊢;rw [if_pos rfl];exact .part _ hk h1 h2 (.inr ⟨h4,rfl⟩) pK hcg
 ·rw [h5,if_neg (by show ¬ (3:Int)=_;omega)]
  split
  ·exact .same
  rename_i x hw
  obtain ⟨d,hd,rfl⟩:=qF hw;exact .pend (.iE l.q { (m.ah n).bs l.q with role:=3,rd:=0 } l.at_) (m.ah n) d (.inl rfl) rfl ⟨h4,rfl⟩ hd ⟨hk,pK,eP,rfl,h1,h2⟩
 rw [h5] at hcg⊢;rw [if_pos rfl];exact .part _ hk h1 h2 (.inl ⟨h4,rfl,λe=>h6 (.inr e)⟩) pK hcg
theorem Mi {b:bF} {at_:Int} {l:List Ev}:b.evs=(G7 b at_ l).take b.evs.length:=by unfold G7;rw [List.take_left]
theorem Qz {b:bF} {at_:Int} {l:List Ev} (h0:0<=at_) (h1:at_<=b.evs.length) (h:b.evs.length<=at_.toNat+l.length):(G7 b at_ l).length=at_.toNat+l.length:=by
 unfold G7;rw [List.length_append,List.length_drop];omega
theorem agM (hk:l.kd=4):Hnd m n l (m.got n l):=by
 unfold Cl.got
 split
 ·exact .same
 rename_i h0
 have hr:((m.ah n).bs l.q).role=4:=by
  by_cases e:((m.ah n).bs l.q).role=4
  ·exact e
  exact absurd (.inl e) h0
 have hfr:((m.ah n).bs l.q).fr=l.fr:=by
  by_cases e:((m.ah n).bs l.q).fr=l.fr
  ·exact e
  exact absurd (.inr e) h0
 split
 ·exact .have_ hr
 split
 ·exact .same
 rename_i h2 h3
 have h: ¬ (cK ((m.ah n).bs l.q) l.ep l.at_ l.evs l.last).2≠0:=λe=>h3 (.inl e);have hne: ¬ (cK ((m.ah n).bs l.q) l.ep l.at_ l.evs l.last).1.evs.length=((m.ah n).bs l.q).evs.length:=λe=>h3 (.inr e);obtain ⟨g1,g2,g3,g4,g5,g6,g7,g8⟩:=Zk h;rw [g8] at hne⊢;have hlen:((m.ah n).bs l.q).evs.length<=l.at_.toNat+l.evs.length:=by
  cases hl:l.last with
  | true=>exact g6 hl
  | false=>
   unfold uX G7 at hne;rw [if_neg (by rw [hl];simp)] at hne;dsimp only at hne;rw [List.length_append,List.length_drop] at hne;omega
 have hil:=Qz g3 g4 hlen;have hgd:=iZ g7;have hrs:(fG.got l.q (uX ((m.ah n).bs l.q) l.at_ l.evs l.last) l.last).rs (m.ah n).bs=tu l.q (uX ((m.ah n).bs l.q) l.at_ l.evs l.last) ((m.ah n).bs l.q).evs.length (l.at_.toNat+l.evs.length) l.last:=by
  show tu _ _ _ _ _=_
  congr 1
  unfold uX
  cases l.last with
  | true=>simp only [if_true,List.length_append,List.length_singleton];omega
  | false=>simp only [Bool.false_eq_true,if_false];omega
 split
 ·exact .same
 rename_i x hw
 obtain ⟨d,hd,rfl⟩:=qF hw;refine .pend (.got l.q (uX ((m.ah n).bs l.q) l.at_ l.evs l.last) l.last) (m.ah n) d (.inl rfl) rfl ⟨hr,hgd,IK rfl hgd,λhl=>?_,λhl=>?_⟩ (by rw [hrs];exact hd) ⟨hk,hfr,g2,g3,g4,g5,hlen,rfl,rfl⟩
 ·unfold uX;rw [hl,if_neg (by simp)];exact ⟨rfl,Mi⟩
 refine ⟨G7 ((m.ah n).bs l.q) l.at_ l.evs,?_,Mi⟩;unfold uX;rw [if_pos hl]
theorem Vw (hk:l.kd=6):Hnd m n l (m.learnt n l):=by
 unfold Cl.learnt
 split
 ·exact .hear hk
 rename_i h
 obtain ⟨h1,h2,h3⟩:=Zl h;rw [h3]
 split
 ·exact .hear hk
 rename_i x hw
 obtain ⟨d,hd,rfl⟩:=qF hw;exact .pend (.forget l.q ⟨0,((m.ah n).bs l.q).ep,0,0,0,[]⟩) ((m.ah n).hear n l) d (.inr ⟨hk,rfl⟩) rfl ⟨h1,rfl⟩ hd ⟨hk,h2⟩
theorem hnd (hb: ∀ q,q<4->aj ((m.ah n).bs q)=0) (hl:l.ok):Hnd m n l (m.handle n l):=by
 obtain ⟨h1,h2,h3⟩:=hl;unfold Cl.handle
 rcases h3 with h | h | h | h | h
 ·rw [if_pos h];exact Zo h
 ·rw [if_neg (by omega),if_pos h];exact RN h
 ·rw [if_neg (by omega),if_neg (by omega),if_pos h];exact Vv (hb _ h1) h
 ·rw [if_neg (by omega),if_neg (by omega),if_neg (by omega),if_pos h];exact agM h
 rw [if_neg (by omega),if_neg (by omega),if_neg (by omega),if_neg (by omega)];exact Vw h
end
structure Pm (a:Ac):Prop where
 kd:1<=a.kd/\a.kd<=10
 nd:0<=a.nd/\a.nd<=4
 qu:0<=a.qu/\a.qu<=3
 at_:0<=a.at_/\a.at_<=1048576
 kp:0<=a.kp/\a.kp<=100000
 op:a.kd=2->aZ a.op=0/\a.op.kind≠4
theorem ahJ {x:Ac} (h:dK x=0):Pm x:=by
 cases hf:bM x.kd x.ek with
 | none=>rw [Wz hf] at h;cases h
 | some l=>
  by_cases ha:l.all (Lp x)=true
  ·by_cases hz:fin x l=zeros
   ·have hk:=afL ((acd hf).2 hz);clear h hz;obtain ⟨kd,nd,qu,at_,kp,ek,ep,ei,eb,eh,en⟩:=x
    rcases kinds kd ek with rfl | rfl | rfl | rfl | rfl | rfl | rfl | rfl | rfl | ⟨rfl,rfl⟩ | ⟨rfl,rfl⟩ | ⟨rfl,rfl⟩ | hn
    all_goals first
     | (dsimp only at hf;rw [hn] at hf;cases hf;done)
     | (simp [bM] at hf;subst hf;simp [keep] at hk;simp [Lp,Ac.get,Ac.ints] at ha;exact ⟨by dsimp only;omega,by dsimp only;omega,by dsimp only;omega,by dsimp only;omega,by dsimp only;omega,by (intro hk2;first | (simp at hk2;done) | (refine ⟨?_,by simp [Ac.op]⟩;simp [Ac.op,aZ,jN,hk,ha]))⟩)
   rw [Na hf ha hz] at h;cases h
  rw [Ip hf ha] at h;cases h
def lI (l:iq):Prop:=l.q<4/\l.evs.length<=3/\(l.tg= -1\/(l.tg= -2/\0<=l.fr/\l.fr<5/\l.kd=5)\/(0<=l.tg/\l.tg<5/\(l.kd=0\/l.kd=2\/l.kd=3\/l.kd=4\/l.kd=6)))/\(l.kd=0->aZ l.op=0/\l.op.kind≠4)
theorem nk {k:Int} {P:Prop} (h:k≠0):k=0->P:=λe=>absurd e h
theorem lI.ok {l:iq} (h:lI l) (ht:0<=l.tg):l.ok:=by
 obtain ⟨h1,h2,h3 | h3 | h3,_⟩:=h
 ·omega
 ·omega
 exact ⟨h1,by omega,h3.2.2⟩
section
variable {n q:Nat} {b:bF} {u:Int} {a:iM} {p:Pl}
theorem IL:lI (l8 n u a p):=⟨by show 0<4;omega,by show 0<=3;omega,.inl rfl,nk (by show (1:Int)≠0;decide)⟩
theorem Nk (hq:q<4) (hr:b.role=4) (hb:aj b=0):lI (qE n q b):=by
 have hs:=fM hb;unfold bg at hs;refine ⟨hq,by show 0<=3;omega,.inr (.inr ⟨by show 0<=b.fr;omega,by show b.fr<5;omega,.inr (.inr (.inl rfl))⟩),nk (by show (3:Int)≠0;decide)⟩
theorem ahK (hr:b.role=2\/b.role=3) (hb:aj b=0):0<=b.tg/\b.tg<5:=by
 have hs:=fM hb;unfold bg at hs;omega
theorem agN {at_:Int} (hq:q<4) (hb:aj b=0) (h: ¬ (ig b at_).2.2≠0):lI (Km n q b at_):=by
 obtain ⟨h1,h2,h3,h4⟩:=Mf h;obtain ⟨h5,h6⟩:=ahK h1 hb;refine ⟨hq,?_,.inr (.inr ⟨h5,h6,.inr (.inr (.inr (.inl rfl)))⟩),nk (by show (4:Int)≠0;decide)⟩
 show (ig b at_).1.length<=3
 rw [h4];dsimp only;rw [List.length_take];omega
theorem ac4 (hq:q<4) (hr:b.role=2\/b.role=3) (hb:aj b=0):lI (yG n q b):=by
 obtain ⟨h5,h6⟩:=ahK hr hb;exact ⟨hq,by show 0<=3;omega,.inr (.inr ⟨h5,h6,.inr (.inl rfl)⟩),nk (by show (2:Int)≠0;decide)⟩
theorem alC (hq:q<4) (hn:n<5):lI (TK n q):=⟨hq,by show 0<=3;omega,.inr (.inl ⟨rfl,by show 0<=(n:Int);omega,by show (n:Int)<5;omega,rfl⟩),nk (by show (5:Int)≠0;decide)⟩
theorem agO (hq:q<4) (hn:n<5):lI (Ot n q b):=⟨hq,by show 0<=3;omega,.inr (.inl ⟨rfl,by show 0<=(n:Int);omega,by show (n:Int)<5;omega,rfl⟩),nk (by show (5:Int)≠0;decide)⟩
theorem agP {s:Bool} (hq:q<4) (hn:n<5) (hb:aj b=0):(∀ l∈jU n q b s,lI l)/\(jU n q b s).length<=3:=by
 unfold jU;refine ⟨λl hl=>?_,?_⟩
 ·rcases List.mem_append.1 hl with hl | hl
  ·rcases List.mem_append.1 hl with hl | hl
   ·split at hl
    ·rename_i hr;rw [List.mem_singleton] at hl;subst hl;exact ac4 hq hr hb
    simp at hl
   split at hl
   ·rw [List.mem_singleton] at hl;subst hl;exact alC hq hn
   simp at hl
  split at hl
  ·rw [List.mem_singleton] at hl;subst hl;exact agO hq hn
  simp at hl
 rw [List.length_append,List.length_append]
 split<;>split<;>split<;>simp
end
def Cl.tot (m:Cl):Nat:=m.fly.length+((m.ah 0).inbox.length+((m.ah 1).inbox.length+((m.ah 2).inbox.length+((m.ah 3).inbox.length+(m.ah 4).inbox.length))))
theorem five {n:Nat} (hn:n<5):n=0\/n=1\/n=2\/n=3\/n=4:=by omega
theorem alD {m m':Cl} {n d:Nat} (hn:n<5) (ho: ∀ j,j≠n->m'.ah j=m.ah j) (h:m'.fly.length+(m'.ah n).inbox.length<=m.fly.length+(m.ah n).inbox.length+d):m'.tot<=m.tot+d:=by
 unfold Cl.tot
 rcases five hn with rfl | rfl | rfl | rfl | rfl
 ·rw [ho 1 (by decide),ho 2 (by decide),ho 3 (by decide),ho 4 (by decide)];omega
 ·rw [ho 0 (by decide),ho 2 (by decide),ho 3 (by decide),ho 4 (by decide)];omega
 ·rw [ho 0 (by decide),ho 1 (by decide),ho 3 (by decide),ho 4 (by decide)];omega
 ·rw [ho 0 (by decide),ho 1 (by decide),ho 2 (by decide),ho 4 (by decide)];omega
 rw [ho 0 (by decide),ho 1 (by decide),ho 2 (by decide),ho 3 (by decide)];omega
theorem Dq {l:iq} {n:Nat} (h:lI l/\l.tg=n):l.ok:=h.1.ok (by rw [h.2];omega)
theorem Mj (m:Cl) {n:Nat} (hn:n<5):m.fly.length+(m.ah n).inbox.length<=m.tot:=by
 unfold Cl.tot
 rcases five hn with rfl | rfl | rfl | rfl | rfl<;>omega
structure fB (m:Cl) (T S D K:Nat):Prop where
 kV: ∀ n,n<5->Fa (m.ah n)
 uH: ∀ l∈m.fly,lI l
 l9: ∀ n,n<5-> ∀ l∈(m.ah n).inbox,lI l/\l.tg=n
 room:m.tot<=T
 aQ:m.aQ.length<=S
 bE:m.bE.length<=D
 turn: ∀ n,n<5->(m.ah n).turn<=K
 calls:m.calls<=K
theorem fB.mono {m:Cl} {T S D K T' S' D' K':Nat} (h:fB m T S D K) (h1:T<=T') (h2:S<=S') (h3:D<=D') (h4:K<=K'):fB m T' S' D' K':=
 ⟨h.kV,h.uH,h.l9,Nat.le_trans h.room h1,Nat.le_trans h.aQ h2,Nat.le_trans h.bE h3,λn hn=>Nat.le_trans (h.turn n hn) h4,Nat.le_trans h.calls h4⟩
section
variable {m m':Cl} {n:Nat} {l:iq} {rs:List dz} {T S D K:Nat}
theorem fB.at_ (h:fB m T S D K) (hn:n<5) (ho: ∀ j,j≠n->m'.ah j=m.ah j) (hk:Fa (m'.ah n)) (hl: ∀ l∈m'.fly,l∈m.fly\/lI l) (hi: ∀ l∈(m'.ah n).inbox,l∈(m.ah n).inbox\/(lI l/\l.tg=n))
  {c s d u:Nat} (h1:m'.fly.length+(m'.ah n).inbox.length<=m.fly.length+(m.ah n).inbox.length+c) (h2:m'.aQ.length<=m.aQ.length+s) (h3:m'.bE.length<=m.bE.length+d) (h4:(m'.ah n).turn<=(m.ah n).turn+u) (h5:m'.calls<=m.calls+u):fB m' (T+c) (S+s) (D+d) (K+u):=by
 refine ⟨λj hj=>?_,λl hl'=>(hl l hl').elim (h.uH l) id,λj hj=>?_,?_,?_,?_,λj hj=>?_,?_⟩
 ·by_cases e:j=n
  ·subst e;exact hk
  rw [ho j e];exact h.kV j hj
 ·by_cases e:j=n
  ·subst e;exact λl hl'=>(hi l hl').elim (h.l9 j hj l) id
  rw [ho j e];exact h.l9 j hj
 ·have:=alD hn ho h1;have:=h.room;omega
 ·have:=h.aQ;omega
 ·have:=h.bE;omega
 ·by_cases e:j=n
  ·subst e;have:=h.turn j hj;omega
  rw [ho j e];have:=h.turn j hj;omega
 have:=h.calls;omega
structure Keep (m m':Cl):Prop where
 bE:m'.bE=m.bE
 calls:m'.calls=m.calls
 off:m'.off=m.off
theorem Keep.refl (m:Cl):Keep m m:=⟨rfl,rfl,rfl⟩
theorem Keep.trans {a b c:Cl} (h:Keep a b) (h':Keep b c):Keep a c:=⟨h'.bE.trans h.bE,h'.calls.trans h.calls,h'.off.trans h.off⟩
theorem Fe {q:Nat} {op:Ev} {u:Int} {a:iM}:Keep m (m.done n q op u a)/\(m.done n q op u a).ah=m.ah/\ ∃ l,lI l/\(m.done n q op u a).fly=m.fly++[l]:=by
 unfold Cl.done
 split
 ·exact ⟨⟨rfl,rfl,rfl⟩,rfl,_,IL,rfl⟩
 exact ⟨⟨rfl,rfl,rfl⟩,rfl,_,IL,rfl⟩
theorem Fg {q:Nat} {a:Int}:Keep m (m.part n q a)/\(m.part n q a).ah=m.ah/\(m.part n q a).fly=mZ n q ((m.ah n).bs q) a m.fly:=by
 unfold Cl.part mZ
 split
 ·exact ⟨⟨rfl,rfl,rfl⟩,rfl,rfl⟩
 exact ⟨⟨rfl,rfl,rfl⟩,rfl,rfl⟩
theorem Mk {q:Nat} {b:bF} {a:Int} {fl:List iq} (hq:q<4) (hb:aj b=0): ∀ l∈mZ n q b a fl,l∈fl\/lI l:=λl hl=>by
 unfold mZ at hl
 split at hl
 ·exact .inl hl
 rename_i h
 rcases List.mem_append.1 hl with hl | hl
 ·exact .inl hl
 rw [List.mem_singleton] at hl;subst hl;exact .inr (agN hq hb h)
theorem Zp {q:Nat} {b:bF} {a:Int} {fl:List iq}:(mZ n q b a fl).length<=fl.length+1:=by
 unfold mZ
 split
 ·omega
 simp
theorem zm {fl:List iq} {x:iq} (hx:lI x): ∀ l∈fl++[x],l∈fl\/lI l:=λl hl=>by
 rcases List.mem_append.1 hl with hl | hl
 ·exact .inl hl
 rw [List.mem_singleton] at hl;subst hl;exact .inr hx
theorem alE (hq:l.q<4) (h:uw (m.ah n) rs []) (hp:(m.ah n).pend=none) (H:Hnd m n l m'):(∃ us,uw (m'.ah n) rs us)/\(∀ x∈m'.fly,x∈m.fly\/lI x)/\Keep m m':=by
 cases H with
 | same=>exact ⟨⟨_,h⟩,λx hx=> .inl hx,.refl m⟩
 | done a h1 h2=>
  obtain ⟨h3,h4,l',h5,h6⟩:=Fe (m:=m) (n:=n) (q:=l.q) (op:=l.op) (u:=l.num) (a:=a);exact ⟨⟨[],by rw [h4];exact h⟩,by rw [h6];exact zm h5,h3⟩
 | have_ h1=>exact ⟨⟨[],h⟩,zm (Nk hq h1 (h.mY _ hq)),⟨rfl,rfl,rfl⟩⟩
 | part b h1 h2 h3 h4 h5 h6=>
  obtain ⟨g1,g2,g3⟩:=Fg (m:=m.aW n l.q b) (n:=n) (q:=l.q) (a:=l.at_);have e:(m.aW n l.q b).ah n=(m.ah n).aW l.q b:=bI _;refine ⟨⟨[],?_⟩,?_,?_⟩
  ·rw [g2,e];refine ⟨h.data,h.syn,h.tape.congr λk hk=>?_,λk hk=>?_,h.Xf,λp hp'=>?_,h.len⟩
   ·show jH ((m.ah n).bs k)=jH (upd (m.ah n).bs l.q b k)
    by_cases e:k=l.q
    ·rw [e,upd_same]
     rcases h4 with ⟨h4,h7,_⟩ | ⟨_,h7⟩
     ·rw [h7];unfold jH;rw [if_pos h4,if_pos h4]
     rw [h7]
    rw [upd_ne e]
   ·show aj (upd (m.ah n).bs l.q b k)=0
    by_cases e:k=l.q
    ·rw [e,upd_same];exact h6
    rw [upd_ne e];exact h.mY k hk
   exact absurd (hp'.symm.trans hp) (by simp)
  ·rw [g3,e,show ((m.ah n).aW l.q b).bs l.q=b from upd_same _ _ _];exact Mk hq h6
  exact (⟨rfl,rfl,rfl⟩:Keep m (m.aW n l.q b)).trans g1
 | pend p Y d h1 h2 h3 h4 h5=>
  obtain ⟨w1,w2,w3⟩:=qX h4;have hY:Y.bs=(m.ah n).bs/\Y.syn=(m.ah n).syn:=by rcases h1 with h1 | ⟨_,h1⟩<;>rw [h1]<;>exact ⟨rfl,rfl⟩
  refine ⟨⟨p.rs (m.ah n).bs,?_⟩,λx hx=> .inl hx,⟨rfl,rfl,rfl⟩⟩;rw [bI];refine ⟨?_,hY.2.trans h.syn,?_,?_,λe=>(by cases e),λp' e=>?_,w3 h.len⟩
  ·show d=_;rw [w1,h.data,List.append_nil,kN]
  ·dsimp only;rw [hY.1];exact h.tape
  ·dsimp only;rw [hY.1];exact h.mY
  cases e;dsimp only;rw [hY.1];exact ⟨rfl,h3,by rw [h2];exact hq⟩
 | hear h1=>
  refine ⟨⟨[],?_⟩,λx hx=> .inl hx,⟨rfl,rfl,rfl⟩⟩;rw [bI];exact ⟨h.data,h.syn,h.tape,h.mY,h.Xf,h.SF,h.len⟩
theorem QA {n:Nat} (P:Cl->Prop) (hstep: ∀ m l r,P m->(m.ah n).pend=none->(m.ah n).inbox=l::r->l.q<4/\P ((m.put n ((m.ah n).box r)).handle n l)): ∀ (k:Nat) (m:Cl),(m.ah n).inbox.length=k->P m->P (m.more n):=by
 intro k
 induction k with
 | zero=>
  intro m hk h;rw [Qw (List.length_eq_zero_iff.1 hk)];exact h
 | succ k ih=>
  intro m hk h
  cases hp:(m.ah n).pend with
  | some p=>rw [E8 (by rw [hp];simp)];exact h
  | none=>
   cases hi:(m.ah n).inbox with
   | nil=>rw [hi] at hk;simp at hk
   | cons l r=>
    obtain ⟨hq,h2⟩:=hstep m l r h hp hi;rw [tH hp hi hq];have e:=(xH (m:=m.put n ((m.ah n).box r)) (n:=n) (l:=l) hq).l9;have e2:((m.put n ((m.ah n).box r)).ah n).inbox=r:=by rw [bI];rfl
    exact ih _ (by rw [e,e2];rw [hi] at hk;simpa using hk) h2
structure Rdg (m0:Cl) (n:Nat) (rs:List dz) (m:Cl):Prop where
 up:(m.ah n).up=true
 tape: ∃ us,uw (m.ah n) rs us
 zZ: ∀ j,j≠n->m.ah j=m0.ah j
 uH: ∀ l∈m.fly,l∈m0.fly\/lI l
 l9: ∀ l∈(m.ah n).inbox,l∈(m0.ah n).inbox
 cnt:m.fly.length+(m.ah n).inbox.length<=m0.fly.length+(m0.ah n).inbox.length
 aQ:m.aQ.length+(m.ah n).inbox.length<=m0.aQ.length+(m0.ah n).inbox.length
 keep:Keep m0 m
 Qp:(m.ah n).turn=(m0.ah n).turn
theorem abI {X:Nd} {r:List iq} {us:List dz} (h:uw X rs us):uw (X.box r) rs us:=⟨h.data,h.syn,h.tape,h.mY,h.Xf,h.SF,h.len⟩
theorem QB {m1:Cl} {r:List iq} (hi: ∀ l∈(m.ah n).inbox,l.ok) (H:Rdg m n rs m1) (hp:(m1.ah n).pend=none) (hin:(m1.ah n).inbox=l::r):
  l.ok/\uw ((m1.put n ((m1.ah n).box r)).ah n) rs []/\Hnd (m1.put n ((m1.ah n).box r)) n l ((m1.put n ((m1.ah n).box r)).handle n l)/\Rdg m n rs ((m1.put n ((m1.ah n).box r)).handle n l):=by
 have hl:l∈(m1.ah n).inbox:=by rw [hin];simp
 have hok:=hi l (H.l9 l hl);obtain ⟨us,hU⟩:=H.tape;have hus:=hU.Xf hp;subst hus;have hq:=hok.1;have e0:(m1.put n ((m1.ah n).box r)).ah n=(m1.ah n).box r:=bI _;have OH:uw ((m1.put n ((m1.ah n).box r)).ah n) rs []:=by rw [e0];exact abI hU
 have hH:=hnd OH.mY hok;refine ⟨hok,OH,hH,?_⟩;have E:=xH (m:=m1.put n ((m1.ah n).box r)) (n:=n) (l:=l) hq;obtain ⟨g1,g2,g3⟩:=alE hq OH (by rw [e0];exact hp) hH;have ei:=E.l9;rw [e0] at ei;have e1:(m1.put n ((m1.ah n).box r)).fly=m1.fly:=rfl;have e2:(m1.put n ((m1.ah n).box r)).aQ=m1.aQ:=rfl;have e3:((m1.ah n).box r).inbox=r:=rfl;have c1:=H.cnt;have c2:=H.aQ;have c3:=E.fly;have c4:=E.aQ;rw [hin,List.length_cons] at c1 c2;rw [e1] at c3;rw [e2] at c4;refine ⟨by rw [E.up,e0];exact H.up,g1,λj hj=>?_,λx hx=>(g2 x hx).elim (H.uH x) .inr,λx hx=>?_,?_,?_,H.keep.trans ((⟨rfl,rfl,rfl⟩:Keep m1 (m1.put n ((m1.ah n).box r))).trans g3),by rw [E.Qp,e0];exact H.Qp⟩
 ·rw [E.zZ j hj]
  show upd m1.ah n _ j=_
  rw [upd_ne hj];exact H.zZ j hj
 ·rw [ei,e3] at hx;exact H.l9 x (by rw [hin];simp [hx])
 ·rw [ei,e3];omega
 rw [ei,e3];omega
theorem ahL (hu:(m.ah n).up=true) (h: ∃ us,uw (m.ah n) rs us):Rdg m n rs m:=⟨hu,h,λ_ _=>rfl,λ_ h=> .inl h,λ_ h=>h,Nat.le_refl _,Nat.le_refl _,.refl m,rfl⟩
theorem QC (hu:(m.ah n).up=true) (h: ∃ us,uw (m.ah n) rs us) (hi: ∀ l∈(m.ah n).inbox,l.ok):Rdg m n rs (m.more n):=
 QA (n:=n) (Rdg m n rs) (λ_ _ _ H hp hin=>by obtain ⟨h1,_,_,h4⟩:=QB hi H hp hin;exact ⟨h1.1,h4⟩) _ m rfl (ahL hu h)
theorem SH {X:Nd} {p:fG} (hX:m.ah n=X) (hu:X.up=true) (hp:X.pend=some p) (hq:p.q<4) (hf:aj (p.b X.bs)=0) (hpo:p.ok X.bs):
  ∃ Y:Nd,(m.step n).ah=upd m.ah n Y/\Y.bs=upd X.bs p.q (p.b X.bs)/\Y.data=X.data/\Y.syn=X.data.length/\Y.pend=none/\Y.up=true/\Y.inbox=X.inbox/\Y.turn=X.turn/\Keep m (m.step n)/\
   (∀ l∈(m.step n).fly,l∈m.fly\/lI l)/\(m.step n).fly.length<=m.fly.length+1/\(m.step n).aQ.length<=m.aQ.length+1:=by
 cases p with
 | serve q evs op num a=>
  rw [pI hX hu hp rfl hpo.1];exact ⟨_,rfl,rfl,rfl,rfl,rfl,hu,rfl,rfl,⟨rfl,rfl,rfl⟩,zm IL,by simp,by simp⟩
 | begun q b=>
  rw [xJ hX hu hp];obtain ⟨_,e,f,rfl,_⟩:=hpo;exact ⟨_,rfl,rfl,rfl,rfl,rfl,hu,rfl,rfl,⟨rfl,rfl,rfl⟩,zm (Nk hq rfl hf),by simp,by simp [Cl.put]⟩
 | got q b last=>
  cases last with
  | true=>
   rw [rC hX hu hp];exact ⟨_,rfl,rfl,rfl,rfl,rfl,hu,rfl,rfl,⟨rfl,rfl,rfl⟩,λl hl=> .inl hl,by simp [Cl.put],by simp⟩
  | false=>
   rw [Dp hX hu hp];have hr:b.role=4:=by
    have:=(hpo.2.2.2.1 rfl).1;rw [this];exact hpo.1
   exact ⟨_,rfl,rfl,rfl,rfl,rfl,hu,rfl,rfl,⟨rfl,rfl,rfl⟩,zm (Nk hq hr hf),by simp,by simp [Cl.put]⟩
 | iE q b at_=>
  rw [Ag hX hu hp];exact ⟨_,rfl,rfl,rfl,rfl,rfl,hu,rfl,rfl,⟨rfl,rfl,rfl⟩,Mk hq hf,Zp,by simp [Cl.put]⟩
 | forget q b=>
  rw [uW hX hu hp];exact ⟨_,rfl,rfl,rfl,rfl,rfl,hu,rfl,rfl,⟨rfl,rfl,rfl⟩,λl hl=> .inl hl,by simp [Cl.put],by simp [Cl.put]⟩
theorem Zq {X Y:Nd} {p:fG} {us:List dz} (h:uw X rs us) (hp:X.pend=some p) (hb:Y.bs=upd X.bs p.q (p.b X.bs)) (hd:Y.data=X.data) (hs:Y.syn=X.data.length) (hn:Y.pend=none):uw Y (rs++us) []:=by
 obtain ⟨hu,hpo,hq⟩:=h.SF p hp;obtain ⟨h1,h2⟩:=nZ h.tape h.mY hpo hq;refine ⟨by rw [hd,h.data,List.append_nil],by rw [hs,h.data],?_,λk hk=>?_,λ_=>rfl,λp' e=>(by rw [hn] at e;cases e),by rw [hd];exact h.len⟩
 ·rw [hb,hu];exact h1
 rw [hb];by_cases e:k=p.q
 ·rw [e,upd_same];exact h2
 rw [upd_ne e];exact h.mY k hk
theorem Zr (h:fB m T S D K) (hn:n<5):fB (m.step n) (T+3) (S+T+1) D (K+1):=by
 cases hu:(m.ah n).up with
 | false=>rw [Af hu];exact h.mono (by omega) (by omega) (by omega) (by omega)
 | true=>
  obtain ⟨rs,us,hU⟩:=(h.kV n hn).Mg hu;have hT:=Mj m hn;have hT2:=h.room
  cases hp:(m.ah n).pend with
  | some p=>
   obtain ⟨h1,h2,h3⟩:=hU.SF p hp;obtain ⟨_,hf⟩:=nZ hU.tape hU.mY h2 h3;obtain ⟨Y,y1,y2,y3,y4,y5,y6,y7,y8,y9,y10,y11,y12⟩:=SH rfl hu hp h3 hf h2;have eY:(m.step n).ah n=Y:=by rw [y1];exact upd_same _ _ _
   have hUY:=Zq hU hp y2 y3 y4 y5;refine (h.at_ (c:=1) (s:=1) (d:=0) (u:=0) hn (λj hj=>by rw [y1,upd_ne hj]) ?_ y10 ?_ ?_ y12 (by rw [y9.bE];omega) (by rw [eY,y8];omega) (by rw [y9.calls];omega)).mono (by omega) (by omega) (by omega) (by omega)
   ·rw [eY];exact .inl ⟨y6,_,_,hUY⟩
   ·rw [eY,y7];exact λl hl=> .inl hl
   rw [eY,y7];omega
  | none=>
   have R:=QC hu ⟨us,hU⟩ λl hl=>Dq (h.l9 n hn l hl);have c:=R.cnt;have c2:=R.aQ;obtain ⟨us',OH⟩:=R.tape;rw [tJ hu hp]
   split
   ·rename_i hp2
    have e:(((m.more n).J7 n).ah n)={ (m.more n).ah n with turn:=((m.more n).ah n).turn+1 }:=bI _;have hqq:((m.more n).ah n).turn % 4<4:=Nat.mod_lt _ (by decide);obtain ⟨d1,d2⟩:=agP (n:=n) (s:=((m.more n).ah n).sure (((m.more n).ah n).turn % 4)) hqq hn (OH.mY _ hqq);refine (h.at_ (c:=3) (s:=T) (d:=0) (u:=1) hn (λj hj=>?_) ?_ (λl hl=>?_) ?_ ?_ ?_ ?_ ?_ ?_).mono (by omega) (by omega) (by omega) (by omega)
    ·show upd (m.more n).ah n _ j=_
     rw [upd_ne hj];exact R.zZ j hj
    ·rw [e];exact .inl ⟨R.up,rs,us',⟨OH.data,OH.syn,OH.tape,OH.mY,OH.Xf,OH.SF,OH.len⟩⟩
    ·rcases List.mem_append.1 hl with hl | hl
     ·exact R.uH l hl
     exact .inr (d1 l hl)
    ·rw [e];exact λl hl=> .inl (R.l9 l hl)
    ·rw [e]
     show ((m.more n).fly++_).length+((m.more n).ah n).inbox.length<=_
     rw [List.length_append];have:=d2;omega
    ·show (m.more n).aQ.length<=_;omega
    ·show (m.more n).bE.length<=_;rw [R.keep.bE];omega
    ·rw [e];show ((m.more n).ah n).turn+1<=_;rw [R.Qp];exact Nat.le_refl _
    show (m.more n).calls<=_;rw [R.keep.calls];omega
   refine (h.at_ (c:=0) (s:=T) (d:=0) (u:=0) hn R.zZ (.inl ⟨R.up,rs,us',OH⟩) R.uH (λl hl=> .inl (R.l9 l hl)) (by omega) (by omega) (by rw [R.keep.bE];omega) (by rw [R.Qp];omega) (by rw [R.keep.calls];omega)).mono (by omega) (by omega) (by omega) (by omega)
theorem Fh (h:fB m T S D K) (hl:lI l):fB (m.come l) (T+1) S (D+1) K:=by
 have hroom:=h.room;have htot: ∀ fl,({ m with fly:=fl }:Cl).tot+m.fly.length=m.tot+fl.length:=λfl=>by unfold Cl.tot;dsimp only;omega
 obtain ⟨hq,hv,h1 | ⟨h1,h2,h3,_⟩ | ⟨h1,h2,h3⟩,_⟩:=id hl
 ·have e:m.come l={ m with bE:=m.bE++[l.bE] }:=if_pos h1;rw [e];exact ⟨h.kV,h.uH,h.l9,by show m.tot<=_;omega,h.aQ,by show (m.bE++_).length<=_;have:=h.bE;simp;omega,h.turn,h.calls⟩
 ·unfold Cl.come;rw [if_neg (by omega),if_pos h1]
  split
  ·refine ⟨h.kV,λx hx=>?_,h.l9,?_,h.aQ,by have:=h.bE;show m.bE.length<=_;omega,h.turn,h.calls⟩
   ·rcases List.mem_append.1 hx with hx | hx
    ·exact h.uH x hx
    rw [List.mem_singleton] at hx;subst hx;exact ⟨hq,by show 0<=3;omega,.inr (.inr ⟨h2,h3,.inr (.inr (.inr (.inr rfl)))⟩),nk (by show (6:Int)≠0;decide)⟩
   have:=htot (m.fly++[nH l.fr l.q (aX (eD m.off l) l.q).1]);rw [List.length_append,List.length_singleton] at this
   show Cl.tot { m with fly:=_ }<=_
   omega
  exact ⟨h.kV,h.uH,h.l9,by show m.tot<=_;omega,h.aQ,by have:=h.bE;show m.bE.length<=_;omega,h.turn,h.calls⟩
 have hn:l.tg.toNat<5:=by omega
 unfold Cl.come;rw [if_neg (by omega),if_neg (by omega)]
 split
 ·rename_i hu
  have e:(m.put l.tg.toNat { m.ah l.tg.toNat with inbox:=(m.ah l.tg.toNat).inbox++[l] }).ah l.tg.toNat=(m.ah l.tg.toNat).box ((m.ah l.tg.toNat).inbox++[l]):=bI _;obtain ⟨rs,us,hU⟩:=(h.kV _ hn).Mg hu;refine (h.at_ (m':=m.put l.tg.toNat { m.ah l.tg.toNat with inbox:=(m.ah l.tg.toNat).inbox++[l] }) (c:=1) (s:=0) (d:=0) (u:=0) hn (λj hj=>upd_ne hj) (by rw [e];exact .inl ⟨hu,rs,us,abI hU⟩) (λx hx=> .inl hx) ?_ ?_ (Nat.le_refl _) (Nat.le_refl _) (by rw [e];exact Nat.le_refl _) (Nat.le_refl _)).mono (by omega) (by omega) (by omega) (by omega)
  ·rw [e];intro x hx
   rcases List.mem_append.1 hx with hx | hx
   ·exact .inl hx
   rw [List.mem_singleton] at hx;subst hx;exact .inr ⟨hl,by omega⟩
  rw [e]
  show m.fly.length+((m.ah l.tg.toNat).inbox++[l]).length<=_
  rw [List.length_append,List.length_singleton];omega
 exact h.mono (by omega) (by omega) (by omega) (by omega)
theorem JE: ∀ (ls:List iq) {m:Cl} {T D:Nat},fB m T S D K->(∀ l∈ls,lI l)->fB (ls.foldl Cl.come m) (T+ls.length) S (D+ls.length) K
 | [],m,T,D,h,_=>h
 | l::ls,m,T,D,h,hl=>(JE ls (Fh h (hl l (by simp))) λx hx=>hl x (by simp [hx])).mono (by simp;omega) (Nat.le_refl _) (by simp;omega) (Nat.le_refl _)
theorem ac5 (h:fB m T S D K):fB m.all T S (D+T) K:=by
 have hroom:=h.room;have h0:fB { m with fly:=[] } (T-m.fly.length) S D K:=by
  refine ⟨h.kV,λl hl=>by simp at hl,h.l9,?_,h.aQ,h.bE,h.turn,h.calls⟩;unfold Cl.tot at hroom⊢;dsimp only [List.length_nil];omega
 have hle:m.fly.length<=T:=by unfold Cl.tot at hroom;omega
 exact (JE m.fly h0 h.uH).mono (by omega) (Nat.le_refl _) (by omega) (Nat.le_refl _)
theorem Zt {at_:Nat} {c s:Bool} (h:fB m T S D K):fB (m.pick at_ c s) (T+1) S (D+1) K:=by
 unfold Cl.pick
 split
 ·exact h.mono (by omega) (by omega) (by omega) (by omega)
 rename_i l hl
 have hm:lI l:=h.uH l (List.mem_of_getElem? hl);have h1:fB (if s=true then m else { m with fly:=m.fly.eraseIdx (at_ % m.fly.length) }) T S D K:=by
  split
  ·exact h
  refine ⟨h.kV,λx hx=>h.uH x (List.mem_of_mem_eraseIdx hx),h.l9,?_,h.aQ,h.bE,h.turn,h.calls⟩;have:=h.room;have h2:=List.length_eraseIdx_le m.fly (at_ % m.fly.length);unfold Cl.tot at this⊢;dsimp only;omega
 dsimp only
 split
 ·exact Fh h1 hm
 exact h1.mono (by omega) (by omega) (by omega) (by omega)
theorem Zu {q:Nat} (h:fB m T S D K) (hn:n<5) (hq:q<4):fB (m.make n q) T S D K:=by
 unfold Cl.make
 split
 ·exact h
 rename_i h0
 have hu:(m.ah n).up=true:=by
  cases e:(m.ah n).up with
  | true=>rfl
  | false=>exact absurd (.inl e) h0
 have hp:(m.ah n).pend=none:=by
  cases e:(m.ah n).pend with
  | none=>rfl
  | some p=>exact absurd (.inr (.inl (by rw [e];rfl))) h0
 split
 ·exact h
 rename_i h1
 obtain ⟨h2,h3,h4⟩:=agK h1;rw [h4]
 split
 ·exact h
 rename_i x hw
 obtain ⟨d,hd,rfl⟩:=qF hw;obtain ⟨rs,us,hU⟩:=(h.kV n hn).Mg hu;have hus:=hU.Xf hp;subst hus;obtain ⟨w1,w2,w3⟩:=qX hd;obtain ⟨_,a2⟩:=Ng (q:=q) (hU.mY q hq) h2 h3 hq;have hok:aj ⟨1,1,0,0,0,[]⟩=0:=lU (Aa (by omega) (by omega) _) vM;refine h.at_ (m':={ m.put n { m.ah n with data:=d,syn:=d.length,bs:=upd (m.ah n).bs q ⟨1,1,0,0,0,[]⟩ } with off:=(qL m.off q n).1,shown:=gL m.shown n q (1,0) }) (c:=0) (s:=0) (d:=0) (u:=0) hn (λj hj=>upd_ne hj) ?_ (λx hx=> .inl hx) ?_ ?_ (Nat.le_refl _) (Nat.le_refl _) ?_ (Nat.le_refl _)
 ·refine .inl ⟨?_,rs++[fq 1 q 1 0 aL],[],?_⟩
  ·show (upd m.ah n _ n).up=true;rw [upd_same];exact hu
  show uw (upd m.ah n _ n) _ _
  rw [upd_same];refine ⟨?_,?_,?_,λk hk=>?_,λ_=>rfl,λp e=>?_,w3 hU.len⟩
  ·show d=_;rw [w1,hU.data,List.append_nil,List.append_nil,kN]
  ·show (d.length:Int)=_;rw [w1,hU.data,List.append_nil,kN]
  ·refine Ig (x:=⟨1,1,0,0,0,[]⟩) hU.tape hq (w2 _ (by simp)) rfl ?_;rw [G8 (.inr (.inl h2)),a2];rfl
  ·show aj (upd (m.ah n).bs q _ k)=0
   by_cases e:k=q
   ·rw [e,upd_same];exact hok
   rw [upd_ne e];exact hU.mY k hk
  exact absurd (e.symm.trans hp) (by simp)
 ·show ∀ l∈(upd m.ah n _ n).inbox,_;rw [upd_same];exact λl hl=> .inl hl
 ·show m.fly.length+(upd m.ah n _ n).inbox.length<=_;rw [upd_same];exact Nat.le_refl _
 show (upd m.ah n _ n).turn<=_;rw [upd_same];exact Nat.le_refl _
theorem uh {d:Dir} {q:Int} (h: ¬ (aX d q).2≠0):(aX d q).1.node.toNat<5/\0<=(aX d q).1.node/\(aX d q).1=d.at q.toNat:=by
 obtain ⟨h1,h2,h3,h4,h5⟩:=Fw (Classical.not_not.1 h);unfold wV at h5
 rcases h5 with ⟨h5,h6⟩ | h5
 ·exfalso
  apply h4;generalize aX d q=r at*;obtain ⟨⟨a,b⟩,c⟩:=r;dsimp only at h5 h6⊢;rw [h5,h6];rfl
 exact ⟨by omega,by omega,h3⟩
theorem Xg {bs:Nat->bF} {q:Nat} {p:fG} {tg:Int} (hr:(bs q).role=1) (h:p.ok bs):p.rs (upd bs q ⟨2,(bs q).ep,0,tg,0,(bs q).evs⟩)=p.rs bs/\p.ok (upd bs q ⟨2,(bs q).ep,0,tg,0,(bs q).evs⟩):=by
 cases p with
 | serve k evs op num a=>
  simp only [fG.ok,fG.rs] at h⊢;by_cases e:k=q
  ·subst e;rw [upd_same];exact ⟨rfl,.inr rfl,h.2⟩
  rw [upd_ne e];exact ⟨rfl,h⟩
 | begun k b=>
  simp only [fG.ok] at h⊢;refine ⟨rfl,?_⟩;by_cases e:k=q
  ·subst e;exfalso;have:=h.1;omega
  rw [upd_ne e];exact h
 | got k b last=>
  simp only [fG.ok,fG.rs] at h⊢;by_cases e:k=q
  ·subst e;exfalso;have:=h.1;omega
  rw [upd_ne e];exact ⟨rfl,h⟩
 | iE k b a=>
  simp only [fG.ok] at h⊢;refine ⟨rfl,?_⟩;by_cases e:k=q
  ·subst e;exfalso;have:=h.1;omega
  rw [upd_ne e];exact h
 | forget k b=>
  simp only [fG.ok,fG.rs] at h⊢;by_cases e:k=q
  ·subst e;exfalso;have:=h.1;omega
  rw [upd_ne e];exact ⟨rfl,h⟩
theorem Zv {q:Nat} {tg:Int} (h:fB m T S D K) (hq:q<4):fB (m.move q tg) T S D K:=by
 unfold Cl.move
 split
 ·exact h
 rename_i h0
 have hw: ¬ (aX m.off q).2≠0:=λe=>h0 (.inl e);obtain ⟨hn,_,_⟩:=uh hw;have hu:(m.ah (aX m.off q).1.node.toNat).up=true:=by
  cases e:(m.ah (aX m.off q).1.node.toNat).up with
  | true=>rfl
  | false=>exact absurd (.inr (.inr e)) h0
 generalize hnn:(aX m.off q).1.node.toNat=n at*
 split
 ·rename_i h1
  obtain ⟨g1,g2,g3,g4⟩:=go_ok h1.1;rw [g4];obtain ⟨rs,us,hU⟩:=(h.kV n hn).Mg hu;have hs:=fM (hU.mY q hq);unfold bg at hs;have hok:aj ⟨2,((m.ah n).bs q).ep,0,tg,0,((m.ah n).bs q).evs⟩=0:=lU (.inr ⟨by dsimp only;omega,by dsimp only;omega,.inr (.inl ⟨rfl,rfl,g2,by dsimp only;omega,by dsimp only;omega,by dsimp only;omega⟩)⟩) (iZ (b:=(m.ah n).bs q) (hU.mY q hq));have hd: ∀ k,jH ((m.ah n).bs k)=jH (upd (m.ah n).bs q ⟨2,((m.ah n).bs q).ep,0,tg,0,((m.ah n).bs q).evs⟩ k):=λk=>by
   by_cases e:k=q
   ·rw [e,upd_same,xG (.inl g1) (hU.mY q hq)];rfl
   rw [upd_ne e]
  have e:((m.aW n q ⟨2,((m.ah n).bs q).ep,0,tg,0,((m.ah n).bs q).evs⟩).ah n)=(m.ah n).aW q ⟨2,((m.ah n).bs q).ep,0,tg,0,((m.ah n).bs q).evs⟩:=bI _;refine h.at_ (m':=m.aW n q ⟨2,((m.ah n).bs q).ep,0,tg,0,((m.ah n).bs q).evs⟩) (c:=0) (s:=0) (d:=0) (u:=0) hn (λj hj=>upd_ne hj) ?_ (λx hx=> .inl hx) (by rw [e];exact λl hl=> .inl hl) (by rw [e];exact Nat.le_refl _) (Nat.le_refl _) (Nat.le_refl _) (by rw [e];exact Nat.le_refl _) (Nat.le_refl _);rw [e];refine .inl ⟨hu,rs,us,⟨hU.data,hU.syn,hU.tape.congr λk _=>hd k,λk hk=>?_,hU.Xf,λp hp=>?_,hU.len⟩⟩
  ·show aj (upd (m.ah n).bs q _ k)=0
   by_cases e:k=q
   ·rw [e,upd_same];exact hok
   rw [upd_ne e];exact hU.mY k hk
  obtain ⟨p1,p2,p3⟩:=hU.SF p hp;exact ⟨by rw [p1];exact (Xg (tg:=tg) g1 p2).1.symm,(Xg (tg:=tg) g1 p2).2,p3⟩
 exact h
end
section
variable {m:Cl} {n:Nat} {T S D K:Nat}
theorem Vx {keep:Int} (h:fB m T S D K) (hn:n<5) (hk:0<=keep):fB (m.crash n keep) T S D K:=by
 unfold Cl.crash
 split
 ·rename_i hu
  obtain ⟨rs,us,hU⟩:=(h.kV n hn).Mg hu;obtain ⟨rs',t,f,hd,_⟩:=Qx hU hk;have e:(m.put n ((m.ah n).crashed keep)).ah n=(m.ah n).crashed keep:=bI _;refine h.at_ (m':=m.put n ((m.ah n).crashed keep)) (c:=0) (s:=0) (d:=0) (u:=0) hn (λj hj=>upd_ne hj) (by rw [e];exact .inr ⟨rfl,rs',t,f,hd⟩) (λx hx=> .inl hx) ?_ ?_ (Nat.le_refl _) (Nat.le_refl _) ?_ (Nat.le_refl _)
  ·rw [e,hd.l9];simp
  ·rw [e,hd.l9];show m.fly.length+0<=_;omega
  rw [e];exact Nat.le_refl _
 exact h
theorem F4 (h:Fa (m.ah n)):(m.ah n).up=true/\m.start n=m\/(m.ah n).up=false/\ ∃ rs t f,E9 (m.ah n) rs t f/\(m.start n=m\/ ∃ ws,
  let m1:=m.put n { (m.ah n).blank with up:=true,data:=bC (rs++ws),syn:=(bC (rs++ws)).length,bs:=bq (m.ah n).data (m.ah n).syn }
  m.start n=Cl.woken n (bq (m.ah n).data (m.ah n).syn) [0,1,2,3] m1/\(bC (rs++ws)).length<=100000/\
  dY (jo (m.ah n).data (m.ah n).syn).2.1 (bq (m.ah n).data (m.ah n).syn) [0,1,2,3] (jo (m.ah n).data (m.ah n).syn).1=some (bC (rs++ws))/\
  Qy m1 (m.start n) n (λq=>if q∈[0,1,2,3]/\(bq (m.ah n).data (m.ah n).syn q).role=1 then gU (bq (m.ah n).data (m.ah n).syn q) else bq (m.ah n).data (m.ah n).syn q)/\
  (m.start n).aQ.length<=m.aQ.length+8004/\uw ((m.start n).ah n) (rs++ws) []/\
  ∀ q,q<4->(f q).role=1->aj (gU (f q))=0):=by
 cases hu:(m.ah n).up with
 | true=>exact .inl ⟨rfl,by unfold Cl.start;rw [if_pos hu]⟩
 | false=>
  refine .inr ⟨rfl,?_⟩;obtain ⟨rs,t,f,hd⟩:=h.atQ hu;refine ⟨rs,t,f,hd,?_⟩;obtain ⟨r1,r2,r3⟩:=hd.rd;have hst:m.start n=match dY (jo (m.ah n).data (m.ah n).syn).2.1 (bq (m.ah n).data (m.ah n).syn) [0,1,2,3] (jo (m.ah n).data (m.ah n).syn).1 with
   | none=>m
   | some d=>Cl.woken n (bq (m.ah n).data (m.ah n).syn) [0,1,2,3] (m.put n { (m.ah n).blank with up:=true,data:=d,syn:=d.length,bs:=bq (m.ah n).data (m.ah n).syn }):=by
   unfold Cl.start;rw [if_neg (by rw [hu];simp)]
   all_goals rfl
  cases hw:dY (jo (m.ah n).data (m.ah n).syn).2.1 (bq (m.ah n).data (m.ah n).syn) [0,1,2,3] (jo (m.ah n).data (m.ah n).syn).1 with
  | none=>rw [hw] at hst;exact .inl hst
  | some d=>
   rw [hw] at hst;refine .inr ?_;have Ej: ∀ q∈[0,1,2,3],q<4:=by decide
   have hin: ∀ q,q<4->q∈[0,1,2,3]:=by decide
   have hll:(bC rs).length<=100000:=by
    have h1:=hd.len;rw [hd.data,List.length_append] at h1;omega
   have hw':=hw;rw [r1] at hw';obtain ⟨ws,e1,e2,e3,e4⟩:=Nj (g:=f) (by decide) (λq hq=>⟨Ej q hq,(r3 q (Ej q hq)).symm⟩) hd.tape (λq hq=>(hd.mY q hq).1) hll hw';subst e1;refine ⟨ws,hst,e3,rfl,?_⟩;have hev: ∀ q∈[0,1,2,3],(bq (m.ah n).data (m.ah n).syn q).evs.length<=2000:=λq hq=>by
    rw [r3 q (Ej q hq)];exact jL (iZ (hd.mY q (Ej q hq)).1)
   obtain ⟨g1,g2⟩:=Cb (n:=n) (bs:=bq (m.ah n).data (m.ah n).syn) [0,1,2,3] (m.put n { (m.ah n).blank with up:=true,data:=bC (rs++ws),syn:=(bC (rs++ws)).length,bs:=bq (m.ah n).data (m.ah n).syn }) (by decide) λq hq=>⟨by rw [bI],hev q hq⟩;have hbs:(λq=>if q∈[0,1,2,3]/\(bq (m.ah n).data (m.ah n).syn q).role=1 then (eF (bq (m.ah n).data (m.ah n).syn q)).1 else ((m.put n { (m.ah n).blank with up:=true,data:=bC (rs++ws),syn:=(bC (rs++ws)).length,bs:=bq (m.ah n).data (m.ah n).syn }).ah n).bs q)=
     λq=>if q∈[0,1,2,3]/\(bq (m.ah n).data (m.ah n).syn q).role=1 then gU (bq (m.ah n).data (m.ah n).syn q) else bq (m.ah n).data (m.ah n).syn q:=by
    funext q
    rw [bI];by_cases c:q∈[0,1,2,3]/\(bq (m.ah n).data (m.ah n).syn q).role=1
    ·rw [if_pos c,if_pos c,(e4 q c.1 c.2).2]
    rw [if_neg c,if_neg c]
   have hst':m.start n=Cl.woken n (bq (m.ah n).data (m.ah n).syn) [0,1,2,3] (m.put n { (m.ah n).blank with up:=true,data:=bC (rs++ws),syn:=(bC (rs++ws)).length,bs:=bq (m.ah n).data (m.ah n).syn }):=hst;rw [hbs,<-hst'] at g1;rw [<-hst'] at g2;refine ⟨g1,g2,?_,λq hq hr=>?_⟩
   ·have e:(m.start n).ah n={ (m.ah n).blank with up:=true,data:=bC (rs++ws),syn:=(bC (rs++ws)).length,bs:=λq=>if q∈[0,1,2,3]/\(bq (m.ah n).data (m.ah n).syn q).role=1 then gU (bq (m.ah n).data (m.ah n).syn q) else bq (m.ah n).data (m.ah n).syn q }:=by
     rw [g1.ah,upd_same,bI]
    rw [e];have hbb: ∀ q,q<4->aj (if q∈[0,1,2,3]/\(bq (m.ah n).data (m.ah n).syn q).role=1 then gU (bq (m.ah n).data (m.ah n).syn q) else bq (m.ah n).data (m.ah n).syn q)=0:=λq hq=>by
     split
     ·rename_i c;exact (e4 q c.1 c.2).1
     rw [r3 q hq];exact (hd.mY q hq).1
    refine ⟨by rw [List.append_nil],rfl,e2.congr λq hq=>?_,hbb,λ_=>rfl,λp hp=>(by cases hp),e3⟩;dsimp only;by_cases c:q∈[0,1,2,3]/\(bq (m.ah n).data (m.ah n).syn q).role=1
    ·rw [if_pos c,if_pos c];rfl
    rw [if_neg c,if_neg c,r3 q hq];exact (Dl (hd.mY q hq).2).symm
   have:=(e4 q (hin q hq) (by rw [r3 q hq];exact hr)).1;rwa [r3 q hq] at this
theorem base_start (h:fB m T S D K) (hn:n<5):fB (m.start n) T (S+8004) D K:=by
 rcases F4 (h.kV n hn) with ⟨_,e⟩ | ⟨hu,rs,t,f,hd,e | ⟨ws,e1,e2,e3,W,e5,e6,e7⟩⟩
 ·rw [e];exact h.mono (by omega) (by omega) (by omega) (by omega)
 ·rw [e];exact h.mono (by omega) (by omega) (by omega) (by omega)
 have hN:=W.ah;have eX:(m.start n).ah n={ (m.ah n).blank with up:=true,data:=bC (rs++ws),syn:=(bC (rs++ws)).length,bs:=λq=>if q∈[0,1,2,3]/\(bq (m.ah n).data (m.ah n).syn q).role=1 then gU (bq (m.ah n).data (m.ah n).syn q) else bq (m.ah n).data (m.ah n).syn q }:=by
  rw [hN,upd_same,bI]
 refine h.at_ (c:=0) (s:=8004) (d:=0) (u:=0) hn (λj hj=>?_) (.inl ⟨by rw [eX],rs++ws,[],e6⟩) (λx hx=> .inl (by rw [W.fly] at hx;exact hx)) (by rw [eX];intro l hl;exact absurd hl (by simp [Nd.blank])) ?_ e5 (by rw [W.bE];exact Nat.le_refl _) ?_ (by rw [W.calls];exact Nat.le_refl _)
 ·rw [hN,upd_ne hj];exact upd_ne hj
 ·rw [eX,W.fly];show m.fly.length+0<=_;omega
 rw [eX];exact Nat.le_refl _
theorem Zw {l:iq} (h:fB m T S D K) (hl:lI l):fB { m with fly:=m.fly++[l],calls:=m.calls+1 } (T+1) S D (K+1):=by
 have hr:=h.room;refine ⟨h.kV,λx hx=>?_,h.l9,?_,h.aQ,h.bE,λn hn=>Nat.le_succ_of_le (h.turn n hn),by have:=h.calls;show m.calls+1<=_;omega⟩
 ·rcases List.mem_append.1 hx with hx | hx
  ·exact h.uH x hx
  rw [List.mem_singleton] at hx;subst hx;exact hl
 unfold Cl.tot at hr⊢;dsimp only;rw [List.length_append,List.length_singleton];omega
theorem ac6 {a:Ac} (h:fB m T S D K) (ha:Pm a):fB (m.act a) (T+3) (S+T+8004) (D+T+1) (K+1):=by
 obtain ⟨h1,h2,h3,h4,h5,h6⟩:=ha;have hn:a.nd.toNat<5:=by omega
 have hq:a.qu.toNat<4:=by omega
 unfold Cl.act
 split
 ·exact (Zu h hn hq).mono (by omega) (by omega) (by omega) (by omega)
 split
 ·rename_i hk2
  exact (Zw h ⟨hq,by show 0<=3;omega,.inr (.inr ⟨h2.1,by show a.nd<5;omega,.inl rfl⟩),λ_=>h6 hk2⟩).mono (by omega) (by omega) (by omega) (by omega)
 split
 ·exact (Zr h hn).mono (by omega) (by omega) (by omega) (by omega)
 split
 ·exact (Zt h).mono (by omega) (by omega) (by omega) (by omega)
 split
 ·exact (ac5 h).mono (by omega) (by omega) (by omega) (by omega)
 split
 ·exact (Vx h hn h5.1).mono (by omega) (by omega) (by omega) (by omega)
 split
 ·exact (base_start h hn).mono (by omega) (by omega) (by omega) (by omega)
 exact (Zv h hq).mono (by omega) (by omega) (by omega) (by omega)
end
def Bs (m:Cl) (k:Nat):Prop:=fB m (4*k) (500000*k) (500000*k) k
theorem anf:Bs qm 0:=by
 refine ⟨λn _=> .inl ⟨rfl,[],[],⟨rfl,rfl,gZ.nil,λq _=>by show aj bG=0;exact lU (.inl ⟨rfl,by decide,by decide,rfl,rfl,rfl,rfl⟩) vM,λ_=>rfl,λp hp=>(by cases hp),Nat.zero_le _⟩⟩,λl hl=>(by cases hl),λn _ l hl=>(by cases hl),Nat.le_refl _,Nat.le_refl _,Nat.le_refl _,λ_ _=>Nat.le_refl _,Nat.le_refl _⟩
theorem Ml {m:Cl} {k:Nat} {a:Ac} (h:Bs m k) (ha:Pm a) (hk:k<=100000):Bs (m.act a) (k+1):=by
 have:=ac6 h ha;exact this.mono (by omega) (by omega) (by omega) (by omega)
def pq (q:Nat):Option fG->Option fG
 | none=>none
 | some p=>if p.q=q then some p else none
def yI (m:Cl) (q:Nat):List kF:=m.aQ.filter λs=>decide (s.q=q)
def KG (m:Cl) (q:Nat) (l:iq):Prop:=l.q=q/\(l∈m.fly\/ ∃ n,n<5/\l∈(m.ah n).inbox)
noncomputable def vw (m:Cl) (q:Nat) (n:Nat):bF:=(m.ah n).view q
def yJ (m:Cl) (q:Nat) (n:Nat):Option fG:=pq q (m.ah n).pend
def CJ (m:Cl) (n:Nat):Bool:=(m.ah n).up
def yK (m:Cl) (q:Nat) (n:Nat):Int×Int:=m.shown n q
def QI (m:Cl) (q:Nat) (g:Gh):Prop:=Inv g (vw m q) (yJ m q) (CJ m) (KG m q) (m.off.at q) (yK m q) (yI m q)
structure qG (g g':Gh):Prop where
 m:g'.m=g.m
 own:g'.own=g.own
 len:g'.len=g.len
 G:g'.G=g.G
theorem qG.refl (g:Gh):qG g g:=⟨rfl,rfl,rfl,rfl⟩
theorem qG.trans {a b c:Gh} (h:qG a b) (h':qG b c):qG a c:=⟨h'.m.trans h.m,h'.own.trans h.own,h'.len.trans h.len,h'.G.trans h.G⟩
theorem alF (g:Gh):qG g g.all:=⟨rfl,rfl,rfl,rfl⟩
theorem qG.o {g g':Gh} (h:qG g g'):g'.o=g.o:=by unfold Gh.o;rw [h.m,h.own]
section
variable {m m':Cl} {n q:Nat} {g g':Gh} {l:iq} {V:Nat->bF} {P:Nat->Option fG} {U:Nat->Bool} {Lt:iq->Prop} {pl:Pl} {sh:Nat->Int×Int} {sv:List kF} {X:Nd}
theorem QI.mk' (I:Inv g V P U Lt pl sh sv) (hV:vw m q=V) (hP:yJ m q=P) (hU:CJ m=U) (hL: ∀ l,KG m q l->Lt l\/JA g V pl l) (hpl:m.off.at q=pl) (hsh:yK m q=sh) (hsv:yI m q=sv):QI m q g:=by
 unfold QI;rw [hV,hP,hU,hpl,hsh,hsv];exact I.xE hL
theorem sK (h:m'.ah=upd m.ah n X):vw m' q=upd (vw m q) n (X.view q):=by
 funext j
 unfold vw;rw [h];unfold upd
 split<;>rfl
theorem rZ (h:m'.ah=upd m.ah n X):yJ m' q=upd (yJ m q) n (pq q X.pend):=by
 funext j
 unfold yJ;rw [h];unfold upd
 split<;>rfl
theorem SI (h:m'.ah=upd m.ah n X):CJ m'=upd (CJ m) n X.up:=by
 funext j
 unfold CJ;rw [h];unfold upd
 split<;>rfl
theorem nI (h:m'.ah=upd m.ah n X) (hv:X.view q=(m.ah n).view q):vw m' q=vw m q:=by rw [sK h];exact aG hv.symm
theorem qY (h:m'.ah=upd m.ah n X) (hv:pq q X.pend=pq q (m.ah n).pend):yJ m' q=yJ m q:=by rw [rZ h];exact aG hv.symm
theorem lD (h:m'.ah=upd m.ah n X) (hv:X.up=(m.ah n).up):CJ m'=CJ m:=by rw [SI h];exact aG hv.symm
theorem Mq {q':Nat} {p:Int×Int} {s:Nat->Nat->Int×Int} (h:q'≠q):(λk=>gL s n q' p k q)=λk=>s k q:=by
 funext k
 unfold gL;rw [if_neg (λe=>h e.2.symm)]
theorem El {p:Int×Int} {s:Nat->Nat->Int×Int}:(λk=>gL s n q p k q)=upd (λk=>s k q) n p:=by
 funext k
 unfold gL upd;by_cases e:k=n
 ·rw [if_pos ⟨e,rfl⟩,if_pos e]
 rw [if_neg (λh=>e h.1),if_neg e]
theorem r9 {sv:List kF} {s:kF}:(sv++[s]).filter (λs=>decide (s.q=q))=sv.filter (λs=>decide (s.q=q))++if s.q=q then [s] else []:=by
 rw [List.filter_append]
 congr 1
 by_cases e:s.q=q
 ·rw [if_pos e];simp [e]
 rw [if_neg e];simp [e]
theorem lM (h:l.kd=0\/l.kd=1\/l.kd=3):JA g V pl l:=⟨λe=>by omega,λe=>by omega,λe=>by omega,λe=>by omega⟩
theorem IQ {x:iq} (hn:m'.ah=upd m.ah n X) (hi: ∀ l∈X.inbox,l∈(m.ah n).inbox) (hn5:n<5) (hf:m'.fly=m.fly++[x]) {R:iq->Prop} (hx:x.q=q->R x): ∀ l,KG m' q l->KG m q l\/R l:=λl hl=>by
 obtain ⟨h1,h2⟩:=hl
 rcases h2 with h2 | ⟨j,hj,h2⟩
 ·rw [hf] at h2
  rcases List.mem_append.1 h2 with h2 | h2
  ·exact .inl ⟨h1,.inl h2⟩
  rw [List.mem_singleton] at h2;subst h2;exact .inr (hx h1)
 rw [hn] at h2;by_cases e:j=n
 ·subst e;rw [upd_same] at h2;exact .inl ⟨h1,.inr ⟨j,hj,hi l h2⟩⟩
 rw [upd_ne e] at h2;exact .inl ⟨h1,.inr ⟨j,hj,h2⟩⟩
theorem vP (hn:m'.ah=upd m.ah n X) (hi: ∀ l∈X.inbox,l∈(m.ah n).inbox) (hn5:n<5) (hf:m'.fly=m.fly) {R:iq->Prop}: ∀ l,KG m' q l->KG m q l\/R l:=λl hl=>by
 obtain ⟨h1,h2⟩:=hl
 rcases h2 with h2 | ⟨j,hj,h2⟩
 ·rw [hf] at h2;exact .inl ⟨h1,.inl h2⟩
 rw [hn] at h2;by_cases e:j=n
 ·subst e;rw [upd_same] at h2;exact .inl ⟨h1,.inr ⟨j,hj,hi l h2⟩⟩
 rw [upd_ne e] at h2;exact .inl ⟨h1,.inr ⟨j,hj,h2⟩⟩
theorem zn:m.ah=upd m.ah n (m.ah n):=(aG rfl).symm
theorem QI.far (I:QI m q g) (hn5:n<5) (hn:m'.ah=upd m.ah n X) (hv:X.view q=(m.ah n).view q) (hp:pq q X.pend=pq q (m.ah n).pend) (hu:X.up=(m.ah n).up) (hi: ∀ l∈X.inbox,l∈(m.ah n).inbox) (hf: ∀ l∈m'.fly,l∈m.fly\/(l.q=q->JA g (vw m q) (m.off.at q) l))
  (ho:m'.off.at q=m.off.at q) (hs:yK m' q=yK m q) (hsv:yI m' q=yI m q):QI m' q g:=
 QI.mk' I (nI hn hv) (qY hn hp) (lD hn hu) (λl hl=>by
  obtain ⟨h1,h2⟩:=hl
  rcases h2 with h2 | ⟨j,hj,h2⟩
  ·rcases hf l h2 with h3 | h3
   ·exact .inl ⟨h1,.inl h3⟩
   exact .inr (h3 h1)
  rw [hn] at h2;by_cases e:j=n
  ·subst e;rw [upd_same] at h2;exact .inl ⟨h1,.inr ⟨j,hj,hi l h2⟩⟩
  rw [upd_ne e] at h2;exact .inl ⟨h1,.inr ⟨j,hj,h2⟩⟩) ho hs hsv
theorem Inv.OI (I:Inv g V P U Lt pl sh sv) (hu:U g.o=true):g.t=g.m/\g.F=g.G.length/\rp dP sv=some (aF g.G).1:=by
 have hF:=I.upF hu;refine ⟨?_,hF,?_⟩
 ·rcases I.JB with h | ⟨_,_,h,_⟩
  ·exact h.1
  rw [hu] at h;cases h
 have:=I.rps;rwa [hF,List.take_length] at this
theorem Inv.oEp (I:Inv g V P U Lt pl sh sv) (hn:n<5) (hr:(V n).role=1\/(V n).role=2):n=g.o:=I.who hn hr
theorem Ai {L:List Ev} {K at_:Nat} (h:at_<=K) (hK:K<=L.length):((L.take K).drop at_).take 3=(L.drop at_).take (((L.take K).drop at_).take 3).length/\at_+(((L.take K).drop at_).take 3).length<=K:=by
 have e:(((L.take K).drop at_).take 3).length=min 3 (K-at_):=by
  rw [List.length_take,List.length_drop,List.length_take];omega
 refine ⟨?_,by rw [e];omega⟩;rw [e,List.drop_take,List.take_take]
theorem ac7 {b:bF} {at_:Int} (I:Inv g V P U Lt pl sh sv) (hn:n<5) (hb:V n=b) (h: ¬ (ig b at_).2.2≠0):JA g V pl (Km n q b at_):=by
 obtain ⟨h1,h2,h3,h4⟩:=Mf h;have hkd:(Km n q b at_).kd=4:=rfl;refine ⟨λe=>by rw [hkd] at e;omega,λ_=>?_,λe=>by rw [hkd] at e;omega,λe=>by rw [hkd] at e;omega⟩
 show ∃ k:Nat,b.ep+1=(k:Int)+1/\1<=k/\k<=g.m/\(n:Int)=g.own k/\0<=at_/\(ig b at_).1=(g.G.drop at_.toNat).take (ig b at_).1.length/\at_.toNat+(ig b at_).1.length<=g.bd k/\((ig b at_).2.1=true->_)
 rw [h4];dsimp only;by_cases e:n=g.o
 ·subst e;have eP:b.ep=g.m:=by rw [<-hb];exact I.EZ
  have hev:b.evs=g.G:=by rw [<-hb];exact I.L6
  rw [hev] at h3⊢;obtain ⟨d1,d2⟩:=Ai (L:=g.G) (K:=g.G.length) (at_:=at_.toNat) (by omega) (Nat.le_refl _);rw [List.take_length] at d1 d2;refine ⟨g.m,by rw [eP],I.m1,Nat.le_refl _,rfl,h2,d1,by unfold Gh.bd;rw [if_pos rfl];exact d2,λhl=> .inr ⟨rfl,?_⟩⟩;rw [decide_eq_true_eq] at hl;refine ⟨by rw [hb];exact hl.1,by rw [hb];rfl,?_⟩
  show at_.toNat+(ig b at_).1.length=g.G.length
  rw [h4]
  show at_.toNat+((b.evs.drop at_.toNat).take 3).length=g.G.length
  rw [hev,List.length_take,List.length_drop];omega
 rcases I.zZ n hn e with ⟨h5,_⟩ | ⟨k,k1,k2,k3,k4,k5,k6,k7⟩ | ⟨k,k1,_⟩
 ·rw [hb] at h5;omega
 ·rw [hb] at k1 k2 k6 k7;have hlt:=I.Ow k3 k4;rw [k6] at h3⊢;rw [List.length_take] at h3;obtain ⟨d1,d2⟩:=Ai (L:=g.G) (K:=g.len k) (at_:=at_.toNat) (by omega) (Nat.le_of_lt hlt);refine ⟨k,by rw [k2],k3,Nat.le_of_lt k4,by rw [k5],h2,d1,?_,λ_=> .inl ⟨k4,by rw [<-k7];rfl⟩⟩;unfold Gh.bd;rw [if_neg (by omega)];exact d2
 rw [hb] at k1;omega
theorem Fj {b:bF} {at_:Int} {fl:List iq} (I:Inv g V P U Lt pl sh sv) (hn:n<5) (hb:V n=b): ∀ l∈mZ n q b at_ fl,l∈fl\/JA g V pl l:=λl hl=>by
 unfold mZ at hl
 split at hl
 ·exact .inl hl
 rename_i h
 rcases List.mem_append.1 hl with hl | hl
 ·exact .inl hl
 rw [List.mem_singleton] at hl;subst hl;exact .inr (ac7 I hn hb h)
theorem alG {b:bF} {p:fG} {bs:Nat->bF} (I:Inv g V P U Lt pl sh sv) (hn:n<5) (hb:V n=b) (hbs:bs q=b) (hL:JA g V pl l) (pK:l.tg=n) (hpq:p.q=q) (hlq:l.q=q) (hp:p.ok bs) (hS:Src b l p) (hf:aj (p.b bs)=0):FZ g V n p:=by
 cases p with
 | serve k evs op num a=>
  have hk:k=q:=hpq;subst hk;obtain ⟨h1,h2,h3,h4⟩:=hp;rw [hbs] at h1 h2;obtain ⟨s1,s2,s3,s4,s5,s6⟩:=hS;have ho:=I.oEp hn (by rw [hb];exact h1);have hev:b.evs=g.G:=by rw [<-hb,ho];exact I.L6
  rw [hev] at h2 s4;exact ⟨ho,by rw [hb];exact h1,h2,by rw [s2,s4],h4⟩
 | begun k x=>
  have hk:k=q:=hpq;subst hk;obtain ⟨h1,e,f,rfl,h2,_⟩:=hp;rw [hbs] at h1 h2;obtain ⟨s1,s2⟩:=hS;obtain ⟨j,j1,j2,j3,j4⟩:=hL.1 s1;simp only [bF.mk.injEq,true_and,and_true] at s2;refine ⟨j,?_,j2,j3,by rw [hb];exact h1,by rw [hb];omega⟩;rw [s2.1,s2.2,j1,j4]
 | got k x last=>
  have hk:k=q:=hpq;subst hk;obtain ⟨s1,s2,s3,s4,s5,s6,s7,s8,s9⟩:=hS;have hr:b.role=4:=by have:=hp.1;rwa [hbs] at this
  have hno:n≠g.o:=λe=>by
   have:=I.arl;rw [<-e,hb] at this;omega
  obtain ⟨j,j1,j2,j3,j4,j5,j6,j7,j8⟩:=hL.2.1 s1
  rcases I.zZ n hn hno with ⟨h5,_⟩ | ⟨_,h5,_⟩ | ⟨k',k1,k2,k3,k4,k5,k6,k7,k8⟩
  ·rw [hb] at h5;omega
  ·rw [hb] at h5;omega
  rw [hb] at k2 k5 k6 k7;have hkj:k'=j:=by omega
  subst hkj;have hbd:=I.aek k3 k4;have e2:l.evs.drop (b.evs.length-l.at_.toNat)=(g.G.drop b.evs.length).take (l.at_.toNat+l.evs.length-b.evs.length):=by
   have:=congrArg (List.drop (b.evs.length-l.at_.toNat)) j6;rw [this,List.drop_take,List.drop_drop,show l.at_.toNat+(b.evs.length-l.at_.toNat)=b.evs.length by omega]
   congr 1
   omega
  have hE:G7 b l.at_ l.evs=g.G.take (l.at_.toNat+l.evs.length):=by
   unfold G7;rw [e2];have e3:=congrArg (· ++(g.G.drop b.evs.length).take (l.at_.toNat+l.evs.length-b.evs.length)) k6;rw [e3,<-List.take_add]
   congr 1
   omega
  have hx: ∀ (h:last=true),k'=g.m->l.at_.toNat+l.evs.length=g.G.length->x=⟨1,(g.m:Int)+1,0,0,0,g.G++[aM]⟩:=λh h1 h2=>by
   rw [s9];unfold uX;rw [if_pos (by rw [<-s8];exact h),hE,h2,List.take_length,k2,h1]
  refine ⟨by rw [hb];exact hr,λhl=>⟨l.at_.toNat+l.evs.length,?_,by rw [hb];exact s7,λk2' hk2=>?_⟩,λhl=>?_⟩
  ·rw [s9,hb];unfold uX;rw [if_neg (by rw [<-s8,hl];simp),hE]
  ·rw [hb] at hk2;have:k2'=k':=by omega
   subst this;exact j7
  rcases j8 (by rw [<-s8];exact hl) with ⟨a1,a2⟩ | ⟨a1,a2,a3,a4⟩
  ·exact absurd (by omega) (k8 a1)
  have hx':=hx hl a1 a4;have hf':aj x=0:=hf;rw [hx'] at hf';exact ⟨by rw [hb,k2,a1],a2,a3.trans pK,hx',(dR hf').2⟩
 | iE k x a=>
  obtain ⟨h1,h2⟩:=hp;have hk:k=q:=hpq;subst hk;rw [hbs] at h1 h2;exact ⟨I.oEp hn (by rw [hb];exact .inr h1),by rw [hb];exact h1,by rw [hb];exact h2⟩
 | forget k x=>
  obtain ⟨h1,h2⟩:=hp;have hk:k=q:=hpq;subst hk;rw [hbs] at h1 h2;obtain ⟨s1,s2⟩:=hS;obtain ⟨j,j1,j2,j3,j4⟩:=hL.2.2.2 s1;obtain ⟨d,d1,d2,d3⟩:=I.dir;rw [d1] at j3;dsimp only at j3;exact ⟨by rw [hb];exact h1,by rw [hb];exact h2,by rw [hb];omega⟩
end
theorem agQ: ∀ {k:Nat} {l:List Ev},l.length=k->good l->(aF l).1.fault=0
 | 0,l,hk,h=>by
  rw [List.length_eq_zero_iff.1 hk];rw [zI (l:=[]) (by simp) (show gP dP [] []=some (dP,[]) from rfl)];exact Yv
 | k+1,l,hk,h=>by
  have e1:l=l.take k++[l[k]]:=by rw [<-nY (by omega),<-hk,List.take_length]
  have h':good (l.take k++[l[k]]):=e1▸h;obtain ⟨h1,_,h3⟩:=good_step h';rw [e1,h3];exact alo h1
theorem agR {Q:Qd} {e:Ev} (h:Q.fault=0) (he:aZ e=0):(iD Q e).2.2.2=0:=by rw [Bh h he]
section
variable {m m':Cl} {n q:Nat} {g g':Gh} {l:iq} {rs:List dz}
theorem Bp (hu:(m.ah n).up=true):vw m q n=(m.ah n).bs q:=by unfold vw;rw [gH hu]
theorem ac8 (hp:(m.ah n).pend=none):yJ m q n=none:=by unfold yJ;rw [hp];rfl
theorem ac9 {a:iM} (I:QI m q g) (hn:n<5) (hu:(m.ah n).up=true) (h2:(gq ((m.ah n).bs l.q) l.op).2.2.1=false/\a=(gq ((m.ah n).bs l.q) l.op).2.1) (he:aZ l.op=0/\l.op.kind≠4) (hb:aj ((m.ah n).bs l.q)=0)
  (hG:g.G.length<1999): ∃ g',QI (m.done n l.q l.op l.num a) q g'/\qG g g':=by
 obtain ⟨h2,h3⟩:=h2;by_cases hs:serves ((m.ah n).bs l.q)
 ·rw [Dn rfl rfl hs];by_cases hq:l.q=q
  ·subst hq;have hV:=Bp (q:=l.q) hu;have ho:=I.oEp hn (by rw [hV];exact hs);have eP:((m.ah n).bs l.q).ep=g.m:=by rw [<-hV,ho];exact I.EZ
   have hev:((m.ah n).bs l.q).evs=g.G:=by rw [<-hV,ho];exact I.L6
   obtain ⟨t1,t2,t3⟩:=I.OI (by rw [<-ho];exact hu);have hs':=hs;unfold serves at hs';have hsv:gq ((m.ah n).bs l.q) l.op=((m.ah n).bs l.q,(iD (aF ((m.ah n).bs l.q).evs).1 l.op).2.1,false,0)/\(iD (aF ((m.ah n).bs l.q).evs).1 l.op).2.2.1=false:=by
    have hl: ¬ 1999<=((m.ah n).bs l.q).evs.length:=by rw [hev];omega
    unfold gq at h2⊢;rw [if_neg (λe=>e hb),if_neg (λe=>e he.1),if_neg he.2,if_neg (by omega),if_neg (by omega)] at h2⊢;by_cases c:(iD (aF ((m.ah n).bs l.q).evs).1 l.op).2.2.1=false
    ·rw [if_pos c];exact ⟨rfl,c⟩
    rw [if_neg c,if_neg hl] at h2;cases h2
   rw [hsv.1,hev] at h3;rw [hev] at hsv;have hgq:(aF g.G).1.fault=0:=agQ rfl I.gd;have hc:(iD (aF g.G).1 l.op).2.2.2=0:=agR hgq he.1;have hr:rp dP (yI m l.q++[⟨n,l.q,g.m,l.op,a,l.num⟩])=some (aF g.G).1:=by
    rw [Cw t3 hc h3.symm,agz hc hsv.2]
   refine ⟨g.all,QI.mk' (I.told t1 hr λs hs=>by rw [List.mem_singleton] at hs;subst hs;exact ⟨rfl,ho⟩) rfl rfl rfl ?_ rfl ?_ ?_,alF g⟩
   ·rintro x ⟨x1,x2 | x2⟩
    ·rcases List.mem_append.1 x2 with x2 | x2
     ·exact .inl ⟨x1,.inl x2⟩
     rw [List.mem_singleton] at x2;subst x2;exact .inr (lM (.inr (.inl rfl)))
    exact .inl ⟨x1,.inr x2⟩
   ·show (λk=>gL m.shown n l.q _ k l.q)=_
    rw [El,eP,hev,ho];rfl
   show (m.aQ++_).filter _=_
   rw [r9,if_pos rfl,eP];rfl
  refine ⟨g,I.far (n:=n) (X:=m.ah n) hn zn rfl rfl rfl (λ_ h=>h) (λx hx=>?_) rfl (Mq hq) ?_,.refl g⟩
  ·rcases List.mem_append.1 hx with hx | hx
   ·exact .inl hx
   rw [List.mem_singleton] at hx;subst hx;exact .inr λ_=>lM (.inr (.inl rfl))
  show (m.aQ++_).filter _=_
  rw [r9,if_neg hq,List.append_nil];rfl
 rw [G6 rfl rfl hs];refine ⟨g,I.far (n:=n) (X:=m.ah n) hn zn rfl rfl rfl (λ_ h=>h) (λx hx=>?_) rfl rfl rfl,.refl g⟩
 rcases List.mem_append.1 hx with hx | hx
 ·exact .inl hx
 rw [List.mem_singleton] at hx;subst hx;exact .inr λ_=>lM (.inr (.inl rfl))
theorem aaR {p:fG} (h:p.q=q):pq q (some p)=some p:=if_pos h
theorem ahM {p:fG} (h:p.q≠q):pq q (some p)=none:=if_neg h
theorem agS (I:QI m q g) (hn:n<5) (hu:(m.ah n).up=true) (hU:uw (m.ah n) rs []) (hp:(m.ah n).pend=none) (hL:l.q=q->JA g (vw m q) (m.off.at q) l) (pK:l.tg=n) (hk:l.kd=0->aZ l.op=0/\l.op.kind≠4) (hlq:l.q<4)
  (hroom:(m.ah n).data.length+46<=100000) (hG:g.G.length<1999) (H:Hnd m n l m'): ∃ g',QI m' q g'/\qG g g'/\((vw m q g.o).role=3->(vw m' q g.o).role=3):=by
 have hbq:=hU.mY _ hlq
 cases H with
 | same=>exact ⟨g,I,.refl g,id⟩
 | done a h1 h2=>
  have hvw:vw (m.done n l.q l.op l.num a) q=vw m q:=nI (n:=n) (X:=m.ah n) (by rw [(Fe (m:=m)).2.1];exact zn) rfl
  rcases h2 with h2 | ⟨h2,h3,h4,h5,h6⟩
  ·obtain ⟨g',h7,h8⟩:=ac9 I hn hu h2 (hk h1) hbq hG;exact ⟨g',h7,h8,by rw [hvw];exact id⟩
  exfalso
  have hs:=fM hbq;unfold bg at hs;unfold serves at h3;have hr:aJ (fq 2 l.q ((m.ah n).bs l.q).ep 0 l.op)=0:=wu (by omega) hlq (by omega) (by omega) (by simpa [jQ] using h4);have hsy:=hU.syn;have hd:=congrArg List.length hU.data;rw [List.append_nil] at hd;rw [Ca (λr hr'=>by rw [List.mem_singleton] at hr';subst hr';exact hr) (by omega) (by omega) (by simpa using hroom)] at h5
  cases h5
 | have_ h1=>
  refine ⟨g,I.far (n:=n) (X:=m.ah n) hn zn rfl rfl rfl (λ_ h=>h) (λx hx=>?_) rfl rfl rfl,.refl g,id⟩
  rcases List.mem_append.1 hx with hx | hx
  ·exact .inl hx
  rw [List.mem_singleton] at hx;subst hx;exact .inr λ_=>lM (.inr (.inr rfl))
 | part b h1 h2 h3 h4 h5 h6=>
  obtain ⟨g1,g2,g3⟩:=Fg (m:=m.aW n l.q b) (n:=n) (q:=l.q) (a:=l.at_);have e:(m.aW n l.q b).ah n=(m.ah n).aW l.q b:=bI _;rw [e,show ((m.ah n).aW l.q b).bs l.q=b from upd_same _ _ _] at g3;have dN:((m.aW n l.q b).part n l.q l.at_).ah=upd m.ah n ((m.ah n).aW l.q b):=g2;have hoff:((m.aW n l.q b).part n l.q l.at_).off.at q=m.off.at q:=by rw [g1.off];rfl
  have hrest:yK ((m.aW n l.q b).part n l.q l.at_) q=yK m q/\yI ((m.aW n l.q b).part n l.q l.at_) q=yI m q:=by
   unfold Cl.part
   split<;>exact ⟨rfl,rfl⟩
  by_cases hq:l.q=q
  ·subst hq;have hV:=Bp (q:=l.q) hu;have fT:((m.ah n).aW l.q b).view l.q=b:=by rw [gH (X:=(m.ah n).aW l.q b) hu];exact upd_same _ _ _
   have hvw:vw ((m.aW n l.q b).part n l.q l.at_) l.q=upd (vw m l.q) n b:=by rw [sK dN,fT]
   rcases h4 with ⟨h4,h7,h8⟩ | ⟨h4,h7⟩
   ·have ho:=I.oEp hn (by rw [hV];exact .inr h4);have TN:=I.Xb (by rw [<-ho,hV];omega);have I2:Inv g (upd (vw m l.q) g.o b) (yJ m l.q) (CJ m) (KG m l.q) (m.off.at l.q) (yK m l.q) (yI m l.q):=by
     refine Inv.Y4 I (λp hp'=>?_) ?_ ?_ ?_ ?_ ?_ ?_
     ·rw [<-ho,ac8 hp] at hp';cases hp'
     ·rw [h7];show ((m.ah n).bs l.q).ep=_;rw [<-hV,ho];exact I.EZ
     ·rw [h7];show ((m.ah n).bs l.q).evs=_;rw [<-hV,ho];exact I.L6
     ·rw [h7];exact .inr (.inl h4)
     ·intro _;rw [h7,<-ho];rw [<-ho,hV] at TN;exact TN
     ·intro h;rw [<-ho,hV] at h;omega
     intro h;rw [h7] at h;exact absurd (h4.symm.trans h) (by decide)
    rw [<-ho] at I2;refine ⟨g,QI.mk' I2 hvw (qY dN rfl) (lD dN rfl) (λx hx=>?_) hoff hrest.1 hrest.2,.refl g,λh=>?_⟩
    ·obtain ⟨x1,x2⟩:=hx
     rcases x2 with x2 | ⟨j,hj,x2⟩
     ·rw [g3] at x2
      rcases Fj I2 hn (upd_same _ _ _) x x2 with x3 | x3
      ·exact .inl ⟨x1,.inl x3⟩
      exact .inr x3
     rw [dN] at x2;by_cases e:j=n
     ·subst e;rw [upd_same] at x2;exact .inl ⟨x1,.inr ⟨j,hj,x2⟩⟩
     rw [upd_ne e] at x2;exact .inl ⟨x1,.inr ⟨j,hj,x2⟩⟩
    rw [<-ho,hV] at h;omega
   have ang:vw ((m.aW n l.q b).part n l.q l.at_) l.q=vw m l.q:=by rw [hvw,h7,<-hV];exact aG rfl
   refine ⟨g,QI.mk' I ang (qY dN rfl) (lD dN rfl) (λx hx=>?_) hoff hrest.1 hrest.2,.refl g,by rw [ang];exact id⟩;obtain ⟨x1,x2⟩:=hx
   rcases x2 with x2 | ⟨j,hj,x2⟩
   ·rw [g3] at x2
    rcases Fj I hn (hV.trans h7.symm) x x2 with x3 | x3
    ·exact .inl ⟨x1,.inl x3⟩
    exact .inr x3
   rw [dN] at x2;by_cases e:j=n
   ·subst e;rw [upd_same] at x2;exact .inl ⟨x1,.inr ⟨j,hj,x2⟩⟩
   rw [upd_ne e] at x2;exact .inl ⟨x1,.inr ⟨j,hj,x2⟩⟩
  have fT:((m.ah n).aW l.q b).view q=(m.ah n).view q:=by
   rw [gH (X:=(m.ah n).aW l.q b) hu,gH hu];exact upd_ne (λe=>hq e.symm)
  refine ⟨g,I.far hn dN fT rfl rfl (λ_ h=>h) (λx hx=>?_) hoff hrest.1 hrest.2,.refl g,by rw [nI dN fT];exact id⟩;rw [g3] at hx;unfold mZ at hx
  split at hx
  ·exact .inl hx
  rcases List.mem_append.1 hx with hx | hx
  ·exact .inl hx
  rw [List.mem_singleton] at hx;subst hx;exact .inr λh=>absurd h hq
 | pend p Y d h1 h2 h3 h4 h5=>
  have hY:Y.bs=(m.ah n).bs/\Y.up=(m.ah n).up/\Y.inbox=(m.ah n).inbox:=by rcases h1 with h1 | ⟨_,h1⟩<;>rw [h1]<;>exact ⟨rfl,rfl,rfl⟩
  have fT: ∀ q,({ Y with data:=d,pend:=some p }:Nd).view q=(m.ah n).view q:=λq=>by
   rw [gH (X:={ Y with data:=d,pend:=some p }) (hY.2.1.trans hu),gH hu];exact congrFun hY.1 q
  have dN:(m.put n { Y with data:=d,pend:=some p }).ah=upd m.ah n { Y with data:=d,pend:=some p }:=rfl;have hvw:=nI (q:=q) dN (fT q);by_cases hq:l.q=q
  ·subst hq;have hfull:=(nZ hU.tape hU.mY h3 (by rw [h2];exact hlq)).2;have atS:=alG I hn (Bp (q:=l.q) hu) rfl (hL rfl) pK h2 rfl h3 h5 hfull;refine ⟨g,QI.mk' (I.ana (P':=upd (yJ m l.q) n (some p)) λk p' hk hp'=>?_) hvw (by rw [rZ dN];show upd _ n (pq l.q (some p))=_;rw [aaR h2]) (lD dN hY.2.1) (vP dN (λx hx=>by rw [<-hY.2.2];exact hx) hn rfl) rfl rfl rfl,.refl g,by rw [hvw];exact id⟩;by_cases e:k=n
   ·subst e;rw [upd_same] at hp'
    cases hp';exact .inr ⟨hu,atS⟩
   rw [upd_ne e] at hp';exact .inl hp'
  refine ⟨g,I.far hn dN (fT q) ?_ hY.2.1 (λx hx=>by rw [<-hY.2.2];exact hx) (λx hx=> .inl hx) rfl rfl rfl,.refl g,by rw [hvw];exact id⟩;rw [hp];exact ahM (by rw [h2];exact hq)
 | hear h1=>
  have dN:(m.put n ((m.ah n).hear n l)).ah=upd m.ah n ((m.ah n).hear n l):=rfl;have fT:((m.ah n).hear n l).view q=(m.ah n).view q:=by rw [gH (X:=(m.ah n).hear n l) hu,gH hu];rfl
  exact ⟨g,I.far hn dN fT rfl rfl (λ_ h=>h) (λx hx=> .inl hx) rfl rfl rfl,.refl g,by rw [nI dN fT];exact id⟩
theorem ada {V:Nat->bF} {P:Nat->Option fG} {U:Nat->Bool} {Lt:iq->Prop} {pl:Pl} {sh:Nat->Int×Int} {sv:List kF} {b:bF} {s:Bool} (I:Inv g V P U Lt pl sh sv) (hn:n<5) (hb:V n=b): ∀ l∈jU n q b s,JA g V pl l:=λl hl=>by
 unfold jU at hl
 rcases List.mem_append.1 hl with hl | hl
 ·rcases List.mem_append.1 hl with hl | hl
  ·split at hl
   ·rename_i hr
    rw [List.mem_singleton] at hl;subst hl;have hkd:(yG n q b).kd=2:=rfl;refine ⟨λ_=>?_,λe=>by rw [hkd] at e;omega,λe=>by rw [hkd] at e;omega,λe=>by rw [hkd] at e;omega⟩
    show ∃ k:Nat,b.ep+1=(k:Int)+1/\1<=k/\k<=g.m/\(n:Int)=g.own k
    by_cases e:n=g.o
    ·subst e;exact ⟨g.m,by rw [<-hb,I.EZ],I.m1,Nat.le_refl _,rfl⟩
    rcases I.zZ n hn e with ⟨h5,_⟩ | ⟨k,k1,k2,k3,k4,k5,_⟩ | ⟨k,k1,_⟩
    ·rw [hb] at h5;omega
    ·rw [hb] at k2;exact ⟨k,by rw [k2],k3,Nat.le_of_lt k4,by rw [k5]⟩
    rw [hb] at k1;omega
   simp at hl
  split at hl
  ·rw [List.mem_singleton] at hl;subst hl;have hkd:(TK n q).kd=5:=rfl;refine ⟨λe=>by rw [hkd] at e;omega,λe=>by rw [hkd] at e;omega,λ_ e=>?_,λe=>by rw [hkd] at e;omega⟩;exact absurd e (by show ¬ (0:Int)<= -1;decide)
  simp at hl
 split at hl
 ·rename_i hr
  rw [List.mem_singleton] at hl;subst hl;have hkd:(Ot n q b).kd=5:=rfl;refine ⟨λe=>by rw [hkd] at e;omega,λe=>by rw [hkd] at e;omega,λ_ _=>?_,λe=>by rw [hkd] at e;omega⟩;have ho:=I.oEp hn (by rw [hb];exact .inl hr.1);have eP:b.ep=g.m:=by rw [<-hb,ho];exact I.EZ
  show ∃ k:Nat,b.ep-1=(k:Int)/\1<=k/\k<g.m/\((g.own (k+1):Nat):Int)=(n:Int)
  refine ⟨g.m-1,by omega,by omega,by omega,?_⟩;rw [show g.m-1+1=g.m by have:=I.m1;omega];exact congrArg Int.ofNat ho.symm
 simp at hl
theorem adb (I:QI m q g) (hn:n<5) (hu:(m.ah n).up=true):QI (m.J7 n) q g/\vw (m.J7 n) q=vw m q:=by
 have dN:(m.J7 n).ah=upd m.ah n { m.ah n with turn:=(m.ah n).turn+1 }:=rfl;have fT:({ m.ah n with turn:=(m.ah n).turn+1 }:Nd).view q=(m.ah n).view q:=rfl;refine ⟨I.far hn dN fT rfl rfl (λ_ h=>h) (λx hx=>?_) rfl rfl rfl,nI dN fT⟩
 rcases List.mem_append.1 hx with hx | hx
 ·exact .inl hx
 refine .inr λhxq=>?_;have hxx:x.q=(m.ah n).turn % 4:=by
  unfold jU at hx
  rcases List.mem_append.1 hx with hx | hx
  ·rcases List.mem_append.1 hx with hx | hx
   ·split at hx
    ·rw [List.mem_singleton] at hx;subst hx;rfl
    simp at hx
   split at hx
   ·rw [List.mem_singleton] at hx;subst hx;rfl
   simp at hx
  split at hx
  ·rw [List.mem_singleton] at hx;subst hx;rfl
  simp at hx
 rw [hxx] at hxq;rw [hxq] at hx;exact ada I hn (Bp hu) x hx
end
structure lV (g g':Gh):Prop where
 m:g.m<=g'.m
 own: ∀ k,k<=g.m->g'.own k=g.own k
 ai0:g'.G.length<=g.G.length+1
theorem qG.next {g g':Gh} (h:qG g g'):lV g g':=⟨by rw [h.m];exact Nat.le_refl _,λk _=>by rw [h.own],by rw [h.G];omega⟩
theorem lV.refl (g:Gh):lV g g:=(qG.refl g).next
theorem lV.same {g g' g2:Gh} (h:lV g g') (h2:qG g' g2):lV g g2:=⟨by rw [h2.m];exact h.m,λk hk=>by rw [h2.own];exact h.own k hk,by rw [h2.G];exact h.ai0⟩
def Bq (q:Nat) (g g':Gh) (m m':Cl):Prop:=g'.m=g.m->(vw m q g.o).role=3->(vw m' q g.o).role=3
section
variable {m m':Cl} {n q:Nat} {g g':Gh} {l:iq} {rs us:List dz} {X:Nd} {V:Nat->bF} {P:Nat->Option fG} {U:Nat->Bool} {Lt:iq->Prop} {pl:Pl} {sh:Nat->Int×Int} {sv:List kF}
theorem Inv.TP (I:Inv g V P U Lt pl sh sv) (n:Nat):Inv g V (upd P n none) U Lt pl sh sv:=I.ana λk p _ hp=>by
 by_cases e:k=n
 ·subst e;rw [upd_same] at hp;cases hp
 rw [upd_ne e] at hp;exact .inl hp
theorem Inv.Em (I:Inv g V P U Lt pl sh sv) (hr:(V n).role=0\/(V n).role=4):n≠g.o:=λe=>by
 have:=I.arl;rw [<-e] at this;omega
theorem Inv.Mr (I:Inv g V P U Lt pl sh sv) {k:Nat} (h1:1<=k) (h2:k<=g.m) (h3:(V n).ep< (k:Int)+1):Oth g n ⟨4,(k:Int)+1,g.own k,0,0,[]⟩:=by
 refine .inr (.inr ⟨k,rfl,rfl,h1,h2,rfl,rfl,Nat.zero_le _,λh e=>?_⟩);have:=I.ge (k+1) (by omega) h;rw [e] at this;omega
theorem Inv.IU (I:Inv g V P U Lt pl sh sv) (hn:n<5) (hr:(V n).role=4) {j:Nat} (hj: ∀ k:Nat,(V n).ep=(k:Int)+1->j<=g.bd k):Oth g n { V n with evs:=g.G.take j }:=by
 rcases I.zZ n hn (I.Em (.inr hr)) with ⟨h5,_⟩ | ⟨_,h5,_⟩ | ⟨k,k1,k2,k3,k4,k5,k6,k7,k8⟩
 ·omega
 ·omega
 have h1:=hj k k2;have h2:=I.aek k3 k4;have e:(g.G.take j).length=j:=by rw [List.length_take];omega
 exact .inr (.inr ⟨k,k1,k2,k3,k4,k5,by show g.G.take j=g.G.take (g.G.take j).length;rw [e],by show (g.G.take j).length<=_;rw [e];exact h1,k8⟩)
theorem Inv.JF (I:Inv g V P U Lt pl sh sv) (hn:n<5) (hr:(V n).role=3) (h:(V n).ep<g.m):n≠g.o/\Oth g n ⟨0,(V n).ep,0,0,0,[]⟩:=by
 have hne:n≠g.o:=λe=>by have:=I.EZ;rw [<-e] at this;omega
 refine ⟨hne,?_⟩
 rcases I.zZ n hn hne with ⟨h5,_⟩ | ⟨k,k1,k2,k3,_⟩ | ⟨_,h5,_⟩
 ·omega
 ·exact .inl ⟨rfl,by show 0<=(V n).ep;omega,h⟩
 omega
theorem Inv.serve {op:Ev} {a:iM} {num:Int} {b:bF} {qq:Nat} (I:Inv g V P U Lt pl sh sv) (ho:n=g.o) (hu:U n=true) (hr:(V n).role≠3) (hg:good (g.G++[op])) (ha:(iD (aF g.G).1 op).2.1=a) (hb:b.ep=(V n).ep) (hb1:b.role=(V n).role) (hb2:b.tg=(V n).tg) (hb3:b.evs=g.G++[op]):
  Inv (g.app op).all (upd V n b) (upd P n none) U Lt pl (upd sh n ((g.m:Int),((g.G++[op]).length:Int))) (sv++[⟨n,qq,g.m,op,a,num⟩]):=by
 subst ho;obtain ⟨t1,t2,t3⟩:=I.OI hu;obtain ⟨s1,s2,s3⟩:=good_step hg;have I2:=(I.down g.o).append (e:=op) (b:=b) (upd_same _ _ _) (upd_same _ _ _) hr t1 hg hb hb1 hb2 hb3;have I3:=I2.told (Y5:=[⟨g.o,qq,g.m,op,a,num⟩]) t1 (by rw [Cw t3 s1 ha];show _=some (aF (g.G++[op])).1;rw [s3]) λs hs=>by rw [List.mem_singleton] at hs;subst hs;exact ⟨rfl,rfl⟩
 have I4:=I3.up g.o λ_=>⟨rfl,rfl⟩;rw [rX,aG hu] at I4;exact I4
theorem Inv.activated {qq:Nat} (I:Inv g V P U Lt pl sh sv) (hu:U n=true) (hr:(V g.o).role=3) (pK:(V g.o).tg=n) (hg:good (g.G++[aM])) (hge:(V n).ep<=(g.m:Int)+1):
  Inv (g.act n).all (upd V n ⟨1,(g.m:Int)+1,0,0,0,g.G++[aM]⟩) (upd P n none) U Lt pl (upd sh n ((g.m:Int)+1,((g.G++[aM]).length:Int))) (sv++[⟨n,qq,(g.m:Int)+1,aM,eu,-1⟩]):=by
 have ht: ¬ (g.act n).t=(g.act n).m:=by
  show ¬ g.t=g.m+1
  rcases I.JB with ⟨h,_⟩ | ⟨h,_⟩<;>omega
 have ho:(g.act n).o=n:=upd_same _ _ _;have I2:=(I.down n).activate (T:=n) hr pK (upd_same _ _ _) (upd_same _ _ _) hg hge;have I3:=I2.Xc ht (s:=⟨n,qq,(g.m:Int)+1,aM,eu,-1⟩) rfl rfl (by show (g.m:Int)+1=((g.m+1:Nat):Int);omega) ho.symm;have I4:=I3.up n λ_=>⟨rfl,rfl⟩;rw [rX,aG hu,ho] at I4;have e:(((g.act n).m:Nat):Int)=(g.m:Int)+1:=by show ((g.m+1:Nat):Int)=_;omega
 rw [e] at I4;exact I4
theorem ade (g:Gh) (n:Nat):lV g (g.act n).all:=⟨by show g.m<=g.m+1;omega,λk hk=>upd_ne (by omega),by show (g.G++[aM]).length<=_;simp⟩
theorem adf (g:Gh) (e:Ev):lV g (g.app e).all:=⟨Nat.le_refl _,λ_ _=>rfl,by show (g.G++[e]).length<=_;simp⟩
theorem adg {p:fG} (I:QI m q g) (hn:n<5) (hX:m.ah n=X) (hu:X.up=true) (hp:X.pend=some p) (hpo:p.ok X.bs): ∃ g',QI (m.step n) q g'/\lV g g'/\Bq q g g' m (m.step n):=by
 have hu':(m.ah n).up=true:=by rw [hX];exact hu
 by_cases hq:p.q=q
 ·have hpv:yJ m q n=some p:=by unfold yJ;rw [hX,hp];exact aaR hq
  obtain ⟨_,hk⟩:=I.sJ n hn p hpv;have hV:vw m q n=X.bs q:=by rw [Bp hu',hX]
  cases p with
  | serve k evs op num a=>
   have e:k=q:=hq;subst e;obtain ⟨k1,k2,k3,k4,k5⟩:=hk;have hr:(vw m k n).role≠3:=by unfold serves at k2;omega
   have eP:(X.bs k).ep=g.m:=by rw [<-hV,k1];exact I.EZ
   rw [pI hX hu hp rfl (by rw [hV] at k2;exact k2)];have I2:=I.serve (b:={ X.bs k with evs:=evs }) (qq:=k) (num:=num) k1 hu' hr (by rw [<-k3];exact k5) k4 (by rw [hV]) (by rw [hV]) (by rw [hV]) k3;have dN:({ (m.put n (X.jB.aW k { X.bs k with evs:=evs })) with aQ:=m.aQ++[⟨n,k,(X.bs k).ep,op,a,num⟩],shown:=gL m.shown n k ((X.bs k).ep,evs.length),fly:=m.fly++[l8 n num a nowhere] }:Cl).ah=upd m.ah n (X.jB.aW k { X.bs k with evs:=evs }):=rfl;have fT:(X.jB.aW k { X.bs k with evs:=evs }).view k={ X.bs k with evs:=evs }:=by rw [gH (X:=X.jB.aW k _) hu];exact upd_same _ _ _
   refine ⟨_,QI.mk' I2 (by rw [sK dN,fT]) (by rw [rZ dN];rfl) (lD dN (by rw [hX];rfl)) ?_ rfl ?_ ?_,adf g op,λ_ h=>absurd h (by rw [<-k1];exact hr)⟩
   ·exact IQ (x:=l8 n num a nowhere) dN (λx hx=>by rw [hX];exact hx) hn rfl λ_=>lM (.inr (.inl rfl))
   ·show (λj=>gL m.shown n k _ j k)=_
    rw [El,eP,k3];rfl
   show (m.aQ++_).filter _=_
   rw [r9,if_pos rfl,eP];rfl
  | begun k b=>
   have e:k=q:=hq;subst e;obtain ⟨j,j1,j2,j3,j4,j5⟩:=hk;rw [xJ hX hu hp];have hne:=I.Em j4;have I2:=(I.TP n).Pj (b:=b) hn hne (upd_same _ _ _) (by rw [j1];exact I.Mr j2 j3 j5) (by rw [j1];show _<=(j:Int)+1;omega);have dN:({ (m.put n (X.jB.aW k b)) with fly:=m.fly++[qE n k b] }:Cl).ah=upd m.ah n (X.jB.aW k b):=rfl;have fT:(X.jB.aW k b).view k=b:=by rw [gH (X:=X.jB.aW k _) hu];exact upd_same _ _ _
   have hvw:vw ({ (m.put n (X.jB.aW k b)) with fly:=m.fly++[qE n k b] }:Cl) k=upd (vw m k) n b:=by rw [sK dN,fT]
   exact ⟨g,QI.mk' I2 hvw (by rw [rZ dN];rfl) (lD dN (by rw [hX];rfl)) (IQ (x:=qE n k b) dN (λx hx=>by rw [hX];exact hx) hn rfl λ_=>lM (.inr (.inr rfl))) rfl rfl rfl,.refl g,λ_ h=>by rw [hvw,upd_ne (λe=>hne e.symm)];exact h⟩
  | got k b last=>
   have e:k=q:=hq;subst e;obtain ⟨j1,j2,j3⟩:=hk;have hne:=I.Em (.inr j1)
   cases last with
   | true=>
    obtain ⟨a1,a2,a3,a4,a5⟩:=j3 rfl;subst a4;rw [rC hX hu hp];have I2:=I.activated (qq:=k) hu' a2 a3 a5 (by rw [a1];exact Int.le_refl _);have dN:({ (m.put n { (X.jB.aW k ⟨1,(g.m:Int)+1,0,0,0,g.G++[aM]⟩) with sure:=upd X.sure k false }) with aQ:=m.aQ++[⟨n,k,(g.m:Int)+1,aM,eu,-1⟩],shown:=gL m.shown n k ((g.m:Int)+1,(g.G++[aM]).length) }:Cl).ah=upd m.ah n { (X.jB.aW k ⟨1,(g.m:Int)+1,0,0,0,g.G++[aM]⟩) with sure:=upd X.sure k false }:=rfl;have fT:({ (X.jB.aW k ⟨1,(g.m:Int)+1,0,0,0,g.G++[aM]⟩) with sure:=upd X.sure k false }:Nd).view k=⟨1,(g.m:Int)+1,0,0,0,g.G++[aM]⟩:=by rw [gH (X:={ (X.jB.aW k _) with sure:=upd X.sure k false }) hu];exact upd_same _ _ _
    refine ⟨_,QI.mk' I2 (by rw [sK dN,fT]) (by rw [rZ dN];rfl) (lD dN (by rw [hX];rfl)) (vP dN (λx hx=>by rw [hX];exact hx) hn rfl) rfl ?_ ?_,ade g n,λh=>by
     have:g.m+1=g.m:=h;omega⟩
    ·show (λj=>gL m.shown n k _ j k)=_
     rw [El];rfl
    show (m.aQ++_).filter _=_
    rw [r9,if_pos rfl];rfl
   | false=>
    obtain ⟨j,a1,a2,a3⟩:=j2 rfl;rw [Dp hX hu hp];have I2:=(I.TP n).Pj (b:=b) hn hne (upd_same _ _ _) (by rw [a1];exact I.IU hn j1 a3) (by rw [a1];exact Int.le_refl _);have dN:({ (m.put n (X.jB.aW k b)) with fly:=m.fly++[qE n k b] }:Cl).ah=upd m.ah n (X.jB.aW k b):=rfl;have fT:(X.jB.aW k b).view k=b:=by rw [gH (X:=X.jB.aW k _) hu];exact upd_same _ _ _
    have hvw:vw ({ (m.put n (X.jB.aW k b)) with fly:=m.fly++[qE n k b] }:Cl) k=upd (vw m k) n b:=by rw [sK dN,fT]
    exact ⟨g,QI.mk' I2 hvw (by rw [rZ dN];rfl) (lD dN (by rw [hX];rfl)) (IQ (x:=qE n k b) dN (λx hx=>by rw [hX];exact hx) hn rfl λ_=>lM (.inr (.inr rfl))) rfl rfl rfl,.refl g,λ_ h=>by rw [hvw,upd_ne (λe=>hne e.symm)];exact h⟩
  | iE k b at_=>
   have e:k=q:=hq;subst e;obtain ⟨ho,j1,j2⟩:=hk;rw [Ag hX hu hp];obtain ⟨t1,t2,t3⟩:=I.OI (by rw [<-ho];exact hu');have TN:=I.Xb (by rw [<-ho];omega);have I2:Inv g (upd (vw m k) g.o b) (upd (yJ m k) n none) (CJ m) (KG m k) (m.off.at k) (yK m k) (yI m k):=by
    refine Inv.Y4 (I.TP n) (λp' hp'=>?_) ?_ ?_ ?_ ?_ ?_ λ_=>t2
    ·rw [<-ho,upd_same] at hp';cases hp'
    ·rw [j2,ho];exact I.EZ
    ·rw [j2,ho];exact I.L6
    ·rw [j2];exact .inr (.inr rfl)
    ·intro _;rw [j2,ho];exact TN
    intro h;rw [<-ho] at h;omega
   rw [<-ho] at I2;have dN:({ (m.put n (X.jB.aW k b)) with fly:=mZ n k b at_ m.fly }:Cl).ah=upd m.ah n (X.jB.aW k b):=rfl;have fT:(X.jB.aW k b).view k=b:=by rw [gH (X:=X.jB.aW k _) hu];exact upd_same _ _ _
   have hvw:vw ({ (m.put n (X.jB.aW k b)) with fly:=mZ n k b at_ m.fly }:Cl) k=upd (vw m k) n b:=by rw [sK dN,fT]
   refine ⟨g,QI.mk' I2 hvw (by rw [rZ dN];rfl) (lD dN (by rw [hX];rfl)) (λx hx=>?_) rfl rfl rfl,.refl g,λ_ h=>by rw [hvw,<-ho,upd_same,j2]⟩;obtain ⟨x1,x2⟩:=hx
   rcases x2 with x2 | ⟨j,hj,x2⟩
   ·rcases Fj I2 hn (upd_same _ _ _) x x2 with x3 | x3
    ·exact .inl ⟨x1,.inl x3⟩
    exact .inr x3
   rw [dN] at x2;by_cases e:j=n
   ·subst e;rw [upd_same] at x2;exact .inl ⟨x1,.inr ⟨j,hj,by rw [hX];exact x2⟩⟩
   rw [upd_ne e] at x2;exact .inl ⟨x1,.inr ⟨j,hj,x2⟩⟩
  | forget k b=>
   have e:k=q:=hq;subst e;obtain ⟨j1,j2,j3⟩:=hk;obtain ⟨hne,hoth⟩:=I.JF hn j1 j3;rw [uW hX hu hp];have I2:=(I.TP n).Pj (b:=b) hn hne (upd_same _ _ _) (by rw [j2];exact hoth) (by rw [j2];exact Int.le_refl _);have dN:(m.put n (X.jB.aW k b)).ah=upd m.ah n (X.jB.aW k b):=rfl;have fT:(X.jB.aW k b).view k=b:=by rw [gH (X:=X.jB.aW k _) hu];exact upd_same _ _ _
   have hvw:vw (m.put n (X.jB.aW k b)) k=upd (vw m k) n b:=by rw [sK dN,fT]
   exact ⟨g,QI.mk' I2 hvw (by rw [rZ dN];rfl) (lD dN (by rw [hX];rfl)) (vP dN (λx hx=>by rw [hX];exact hx) hn rfl) rfl rfl rfl,.refl g,λ_ h=>by rw [hvw,upd_ne (λe=>hne e.symm)];exact h⟩
 have far: ∀ {m':Cl} {Y:Nd},m'.ah=upd m.ah n Y->Y.bs=upd X.bs p.q (p.b X.bs)->Y.up=true->Y.pend=none->Y.inbox=X.inbox->(∀ l∈m'.fly,l∈m.fly\/(l.q=q->JA g (vw m q) (m.off.at q) l))->m'.off.at q=m.off.at q->yK m' q=yK m q->yI m' q=yI m q-> ∃ g',QI m' q g'/\lV g g'/\Bq q g g' m m':=by
  intro m' Y h1 h2 h3 h4 h5 h6 h7 h8 h9;have fT:Y.view q=(m.ah n).view q:=by rw [gH h3,gH hu',h2,hX];exact upd_ne (λe=>hq e.symm)
  refine ⟨g,I.far hn h1 fT ?_ (by rw [hu'];exact h3) (λx hx=>by rw [hX,<-h5];exact hx) h6 h7 h8 h9,.refl g,λ_ h=>by rw [nI h1 fT];exact h⟩;rw [h4,hX,hp];exact (ahM hq).symm
 have snoc: ∀ {x:iq} {fl:List iq},(x.q=q->JA g (vw m q) (m.off.at q) x)-> ∀ l∈fl++[x],l∈fl\/(l.q=q->JA g (vw m q) (m.off.at q) l):=λ{x fl} hx l hl=>by
  rcases List.mem_append.1 hl with hl | hl
  ·exact .inl hl
  rw [List.mem_singleton] at hl;subst hl;exact .inr hx
 cases p with
 | serve k evs op num a=>
  rw [pI hX hu hp rfl hpo.1];refine far (Y:=X.jB.aW k { X.bs k with evs:=evs }) rfl rfl hu rfl rfl (snoc λ_=>lM (.inr (.inl rfl))) rfl (Mq hq) ?_
  show (m.aQ++_).filter _=_
  rw [r9,if_neg (show ¬ k=q from hq),List.append_nil];rfl
 | begun k b=>
  rw [xJ hX hu hp];exact far (Y:=X.jB.aW k b) rfl rfl hu rfl rfl (snoc λ_=>lM (.inr (.inr rfl))) rfl rfl rfl
 | got k b last=>
  cases last with
  | true=>
   rw [rC hX hu hp];refine far (Y:={ (X.jB.aW k b) with sure:=upd X.sure k false }) rfl rfl hu rfl rfl (λl hl=> .inl hl) rfl (Mq hq) ?_
   show (m.aQ++_).filter _=_
   rw [r9,if_neg (show ¬ k=q from hq),List.append_nil];rfl
  | false=>
   rw [Dp hX hu hp];exact far (Y:=X.jB.aW k b) rfl rfl hu rfl rfl (snoc λ_=>lM (.inr (.inr rfl))) rfl rfl rfl
 | iE k b at_=>
  rw [Ag hX hu hp];refine far (Y:=X.jB.aW k b) rfl rfl hu rfl rfl (λl hl=>?_) rfl rfl rfl;unfold mZ at hl;dsimp only at hl
  split at hl
  ·exact .inl hl
  exact snoc (λh=>absurd h hq) l hl
 | forget k b=>
  rw [uW hX hu hp];exact far (Y:=X.jB.aW k b) rfl rfl hu rfl rfl (λl hl=> .inl hl) rfl rfl rfl
theorem Dr: ∀ (rs:List dz),(bC rs).length<=46*rs.length
 | []=>by simp [bC]
 | r::rs=>by
  have h1:=(yX r).2;have h2:=Dr rs;have e:bC (r::rs)=lq r++bC rs:=by simp [bC,List.flatMap_cons]
  rw [e,List.length_append,List.length_cons];omega
theorem agT {bs:Nat->bF} {p:fG} (hq:p.q=l.q) (hp:p.ok bs) (hS:Src (bs l.q) l p) (hl:l.evs.length<=3):(p.rs bs).length<=4:=by
 cases p with
 | serve k evs op num a=>exact Nat.le_of_ble_eq_true rfl
 | begun k b=>exact Nat.le_of_ble_eq_true rfl
 | iE k b a=>exact Nat.le_of_ble_eq_true rfl
 | forget k b=>exact Nat.le_of_ble_eq_true rfl
 | got k b last=>
  have e:k=l.q:=hq;subst e;obtain ⟨es,g1,g2,g3,g4,g5,g6,g7⟩:=Fb hp;obtain ⟨s1,s2,s3,s4,s5,s6,s7,s8,s9⟩:=hS;have hil:=Qz s4 s5 s7;have hbl:b.evs.length=l.at_.toNat+l.evs.length+if last=true then 1 else 0:=by
   rw [s9];unfold uX;rw [<-s8]
   cases last with
   | true=>simp only [if_true,List.length_append,List.length_singleton];omega
   | false=>simp only [Bool.false_eq_true,if_false];omega
  rw [g7,List.length_append,List.length_map,List.length_drop]
  cases last with
  | true=>simp only [if_true,List.length_singleton] at*;omega
  | false=>simp only [Bool.false_eq_true,if_false,List.length_nil] at*;omega
theorem agU (hl:l.evs.length<=3) (H:Hnd m n l m'):(m'.ah n).data.length<=(m.ah n).data.length+184:=by
 cases H with
 | same=>omega
 | done a h1 h2=>rw [(Fe (m:=m)).2.1];omega
 | have_ h1=>exact Nat.le_add_right _ _
 | part b h1 h2 h3 h4 h5 h6=>
  rw [(Fg (m:=m.aW n l.q b)).2.1,show (m.aW n l.q b).ah n=(m.ah n).aW l.q b from bI _];exact Nat.le_add_right _ _
 | pend p Y d h1 h2 h3 h4 h5=>
  rw [bI]
  show d.length<=_
  obtain ⟨w1,_,_⟩:=qX h4;have h6:=agT h2 h3 h5 hl;have h7:=Dr (p.rs (m.ah n).bs);rw [w1,List.length_append];omega
 | hear h1=>rw [bI];exact Nat.le_add_right _ _
theorem adh {T S D K:Nat} (I:QI m q g) (hB:fB m T S D K) (hn:n<5) (hroom:(m.ah n).data.length+46<=100000) (hG:g.G.length<1999):(∃ g',QI (m.step n) q g'/\lV g g'/\Bq q g g' m (m.step n))/\((m.step n).ah n).data.length<=(m.ah n).data.length+184:=by
 cases hu:(m.ah n).up with
 | false=>rw [Af hu];exact ⟨⟨g,I,.refl g,λ_ h=>h⟩,by omega⟩
 | true=>
  obtain ⟨rs,us,hU⟩:=(hB.kV n hn).Mg hu
  cases hp:(m.ah n).pend with
  | some p=>
   obtain ⟨h1,h2,h3⟩:=hU.SF p hp;obtain ⟨_,hf⟩:=nZ hU.tape hU.mY h2 h3;obtain ⟨Y,y1,y2,y3,_⟩:=SH rfl hu hp h3 hf h2;refine ⟨adg I hn rfl hu hp h2,?_⟩;rw [y1,upd_same,y3];omega
  | none=>
   have hus:=hU.Xf hp;subst hus;have hd:(bC rs).length+46<=100000:=by have:=hU.data;rw [List.append_nil] at this;rw [<-this];exact hroom
   have key:=QA (n:=n) (λm1=>(Rdg m n rs m1/\(m1.ah n).data.length<=(bC rs).length+184)/\ ∃ g1,QI m1 q g1/\qG g g1/\((vw m q g.o).role=3->(vw m1 q g.o).role=3)) (λm1 l r H hp1 hin=>by
    obtain ⟨⟨H1,D1⟩,g1,I1,S1,R1⟩:=H;obtain ⟨h1,h2,h3,h4⟩:=QB (λl hl=>Dq (hB.l9 n hn l hl)) H1 hp1 hin;have hl0:l∈(m1.ah n).inbox:=by rw [hin];simp
    obtain ⟨b1,b2⟩:=hB.l9 n hn l (H1.l9 l hl0);have dN:(m1.put n ((m1.ah n).box r)).ah=upd m1.ah n ((m1.ah n).box r):=rfl;have fT:((m1.ah n).box r).view q=(m1.ah n).view q:=rfl;have hvw:=nI dN fT;have I2:QI (m1.put n ((m1.ah n).box r)) q g1:=I1.far hn dN fT rfl rfl (λx hx=>by rw [hin];exact List.mem_cons_of_mem _ hx) (λx hx=> .inl hx) rfl rfl rfl;have e0:(m1.put n ((m1.ah n).box r)).ah n=(m1.ah n).box r:=bI _;have hdd:=h2.data;rw [List.append_nil] at hdd;obtain ⟨g2,I3,S3,R3⟩:=agS I2 hn (by rw [e0];exact H1.up) h2 (by rw [e0];exact hp1) (λhlq=>by rw [hvw];exact I1.uH l ⟨hlq,.inr ⟨n,hn,hl0⟩⟩) b2 b1.2.2.2 h1.1 (by rw [hdd];exact hd) (by rw [S1.G];exact hG) h3;have D2:=agU b1.2.1 h3;rw [hdd] at D2;refine ⟨h1.1,⟨h4,D2⟩,g2,I3,S1.trans S3,λh=>?_⟩;have h9:=R1 h;rw [<-S1.o] at h9⊢;rw [<-hvw] at h9;exact R3 h9) _ m rfl ⟨⟨ahL hu ⟨_,hU⟩,by have:=hU.data;rw [List.append_nil] at this;rw [this];omega⟩,g,I,.refl g,id⟩
   obtain ⟨⟨H1,D1⟩,g1,I1,S1,R1⟩:=key;have hd0:=congrArg List.length hU.data;rw [List.append_nil] at hd0;rw [tJ hu hp]
   split
   ·obtain ⟨I2,e2⟩:=adb I1 hn H1.up;refine ⟨⟨g1,I2,S1.next,λ_ h=>by rw [e2];exact R1 h⟩,?_⟩;have e:(((m.more n).J7 n).ah n)={ (m.more n).ah n with turn:=((m.more n).ah n).turn+1 }:=bI _;rw [e]
    show ((m.more n).ah n).data.length<=_
    omega
   exact ⟨⟨g1,I1,S1.next,λ_ h=>R1 h⟩,by omega⟩
end
def QIx (m:Cl) (q:Nat) (g:Gh) (ls:List iq):Prop:=Inv g (vw m q) (yJ m q) (CJ m) (λl=>KG m q l\/(l.q=q/\l∈ls)) (m.off.at q) (yK m q) (yI m q)
theorem Vy {d:Dir} {k q:Nat} {p:Pl} (hk:k<4) (hq:q<4):(d.set k p).at q=if q=k then p else d.at q:=by
 have h1:k=0\/k=1\/k=2\/k=3:=by omega
 have h2:q=0\/q=1\/q=2\/q=3:=by omega
 rcases h1 with rfl | rfl | rfl | rfl<;>rcases h2 with rfl | rfl | rfl | rfl<;>rfl
theorem agV {d:Dir} {q ep nd:Int} (h:(zo d q ep nd).2=0):(aX d q).2=0/\0<=nd/\nd<=4/\(aX d q).1.epoch=ep/\zo d q ep nd=(d.set q.toNat ⟨nd,ep+1⟩,0):=by
 unfold zo at h⊢;by_cases c1:(aX d q).2≠0
 ·rw [if_pos c1] at h;exact absurd h c1
 rw [if_neg c1] at h⊢;by_cases c2:nd<0\/4<nd
 ·rw [if_pos c2] at h;exact absurd h (by decide)
 rw [if_neg c2] at h⊢;by_cases c3:(aX d q).1.epoch≠ep
 ·rw [if_pos c3] at h;exact absurd h (by decide)
 rw [if_neg c3] at h⊢;by_cases c4:(aX d q).1.node=nd
 ·rw [if_pos c4] at h;exact absurd h (by decide)
 rw [if_neg c4] at h⊢;by_cases c5:ep=1048576
 ·rw [if_pos c5] at h;exact absurd h (by decide)
 rw [if_neg c5];exact ⟨Classical.not_not.1 c1,by omega,by omega,Classical.not_not.1 c3,rfl⟩
section
variable {m m':Cl} {n q:Nat} {g g':Gh} {l:iq} {ls:List iq} {rs us:List dz} {X:Nd} {V:Nat->bF} {P:Nat->Option fG} {U:Nat->Bool} {Lt:iq->Prop} {pl:Pl} {sh:Nat->Int×Int} {sv:List kF}
theorem QE (I:QIx m q g (l::ls)) (hl:lI l) (hq:q<4):QIx (m.come l) q g ls/\vw (m.come l) q=vw m q:=by
 have drop: ∀ {x:iq},(KG m q x\/(x.q=q/\x∈ls))->(KG m q x\/(x.q=q/\x∈l::ls)):=λh=>h.imp id λh=>⟨h.1,List.mem_cons_of_mem _ h.2⟩;obtain ⟨hlq,_,h1 | ⟨h1,h2,h3,h4⟩ | ⟨h1,h2,h3⟩,_⟩:=id hl
 ·have e:m.come l={ m with bE:=m.bE++[l.bE] }:=if_pos h1;rw [e];exact ⟨I.xE λx hx=> .inl (drop hx),rfl⟩
 ·have key:Inv g (vw m q) (yJ m q) (CJ m) (λx=>KG m q x\/(x.q=q/\x∈l::ls)) ((eD m.off l).at q) (yK m q) (yI m q):=by
   unfold eD;by_cases c:0<=l.nd/\(zo m.off l.q l.ep l.nd).2=0
   ·rw [if_pos c];obtain ⟨f1,f2,f3,f4,f5⟩:=agV c.2;rw [f5];dsimp only;rw [Int.toNat_natCast,Vy hlq hq];by_cases e:q=l.q
    ·rw [if_pos e];obtain ⟨_,_,w3⟩:=uh (d:=m.off) (q:=l.q) (λh=>h f1);have w3':(aX m.off l.q).1=m.off.at q:=by rw [w3,Int.toNat_natCast,e]
     rw [w3'] at f4;obtain ⟨d,d1,d2,d3⟩:=I.dir;rw [d1] at f4;dsimp only at f4;obtain ⟨k,k1,k2,k3,k4⟩:=(I.uH l (.inr ⟨e.symm,List.mem_cons_self ..⟩)).2.2.1 h4 f2;have hk:k+1=g.m:=by omega
     rw [hk] at k4;refine I.apM ?_;simp only [Pl.mk.injEq];omega
    rw [if_neg e];exact I
   rw [if_neg c];exact I
  unfold Cl.come;rw [if_neg (by omega),if_pos h1]
  split
  ·rename_i hw
   refine ⟨key.xE λx hx=>?_,rfl⟩
   rcases hx with ⟨x1,x2⟩ | hx
   ·rcases x2 with x2 | x2
    ·rcases List.mem_append.1 x2 with x2 | x2
     ·exact .inl (.inl ⟨x1,.inl x2⟩)
     rw [List.mem_singleton] at x2;subst x2;refine .inr ?_;have hkd:(nH l.fr l.q (aX (eD m.off l) l.q).1).kd=6:=rfl;refine ⟨λe=>by rw [hkd] at e;omega,λe=>by rw [hkd] at e;omega,λe=>by rw [hkd] at e;omega,λ_=>?_⟩;have x1':l.q=q:=x1;subst x1';obtain ⟨_,_,w3⟩:=uh (d:=eD m.off l) (q:=l.q) (λh=>h hw);rw [Int.toNat_natCast] at w3;obtain ⟨d,d1,d2,d3⟩:=key.dir
     show ∃ k:Nat,(aX (eD m.off l) l.q).1.epoch=k/\1<=k/\(k:Int)<=((eD m.off l).at l.q).epoch/\((g.own k:Nat):Int)=(aX (eD m.off l) l.q).1.node
     rw [w3,d1];exact ⟨d,rfl,d2,Int.le_refl _,rfl⟩
    exact .inl (.inl ⟨x1,.inr x2⟩)
   exact .inl (.inr ⟨hx.1,List.mem_cons_of_mem _ hx.2⟩)
  exact ⟨key.xE λx hx=> .inl (drop hx),rfl⟩
 unfold Cl.come;rw [if_neg (by omega),if_neg (by omega)];have hn:l.tg.toNat<5:=by omega
 split
 ·rename_i hu
  have dN:(m.put l.tg.toNat { m.ah l.tg.toNat with inbox:=(m.ah l.tg.toNat).inbox++[l] }).ah=upd m.ah l.tg.toNat ((m.ah l.tg.toNat).box ((m.ah l.tg.toNat).inbox++[l])):=rfl;have hvw:=nI (q:=q) dN rfl;refine ⟨?_,hvw⟩;unfold QIx;rw [hvw,qY dN rfl,lD dN rfl];refine I.xE λx hx=> .inl ?_
  rcases hx with ⟨x1,x2⟩ | hx
  ·rcases x2 with x2 | ⟨j,hj,x2⟩
   ·exact .inl ⟨x1,.inl x2⟩
   rw [dN] at x2;by_cases e:j=l.tg.toNat
   ·subst e;rw [upd_same] at x2
    rcases List.mem_append.1 x2 with x2 | x2
    ·exact .inl ⟨x1,.inr ⟨_,hj,x2⟩⟩
    rw [List.mem_singleton] at x2;subst x2;exact .inr ⟨x1,List.mem_cons_self ..⟩
   rw [upd_ne e] at x2;exact .inl ⟨x1,.inr ⟨j,hj,x2⟩⟩
  exact .inr ⟨hx.1,List.mem_cons_of_mem _ hx.2⟩
 exact ⟨I.xE λx hx=> .inl (drop hx),rfl⟩
theorem Ms: ∀ (ls:List iq) {m:Cl},QIx m q g ls->(∀ l∈ls,lI l)->q<4->QIx (ls.foldl Cl.come m) q g []/\vw (ls.foldl Cl.come m) q=vw m q
 | [],m,I,_,_=>⟨I,rfl⟩
 | l::ls,m,I,hl,hq=>by
  obtain ⟨I2,e⟩:=QE I (hl l (by simp)) hq;obtain ⟨I3,e3⟩:=Ms ls I2 (λx hx=>hl x (by simp [hx])) hq;exact ⟨I3,e3.trans e⟩
theorem Nl:QIx m q g []↔QI m q g:=by
 constructor
 ·intro I;exact I.xE λx hx=> .inl (.inl hx)
 intro I;exact I.xE λx hx=> .inl (hx.elim id λh=>by simp at h)
theorem agW (I:QI m q g) (hl: ∀ l∈m.fly,lI l) (hq:q<4):QI m.all q g/\vw m.all q=vw m q:=by
 have I0:QIx { m with fly:=[] } q g m.fly:=I.xE λx hx=> .inl (by
  rcases hx with ⟨x1,x2⟩ | ⟨x1,x2⟩
  ·rcases x2 with x2 | x2
   ·simp at x2
   exact ⟨x1,.inr x2⟩
  exact ⟨x1,.inl x2⟩)
 obtain ⟨I1,e⟩:=Ms m.fly I0 hl hq;exact ⟨Nl.1 I1,e⟩
theorem adi {at_:Nat} {c s:Bool} (I:QI m q g) (hl: ∀ l∈m.fly,lI l) (hq:q<4):QI (m.pick at_ c s) q g/\vw (m.pick at_ c s) q=vw m q:=by
 unfold Cl.pick
 split
 ·exact ⟨I,rfl⟩
 rename_i l hl2
 have hm:=List.mem_of_getElem? hl2;have I0:QIx (if s=true then m else { m with fly:=m.fly.eraseIdx (at_ % m.fly.length) }) q g [l]/\vw (if s=true then m else { m with fly:=m.fly.eraseIdx (at_ % m.fly.length) }) q=vw m q:=by
  split
  ·exact ⟨I.xE λx hx=> .inl (hx.elim id λh=>by have:=h.2;rw [List.mem_singleton] at this;subst this;exact ⟨h.1,.inl hm⟩),rfl⟩
  exact ⟨I.xE λx hx=> .inl (by
   rcases hx with ⟨x1,x2⟩ | ⟨x1,x2⟩
   ·rcases x2 with x2 | x2
    ·exact ⟨x1,.inl (List.mem_of_mem_eraseIdx x2)⟩
    exact ⟨x1,.inr x2⟩
   rw [List.mem_singleton] at x2;subst x2;exact ⟨x1,.inl hm⟩),rfl⟩
 dsimp only
 split
 ·obtain ⟨I1,e⟩:=QE I0.1 (hl l hm) hq;exact ⟨Nl.1 I1,e.trans I0.2⟩
 exact ⟨Nl.1 (I0.1.xE λx hx=> .inl (hx.elim .inl λh=>by simp at h)),I0.2⟩
theorem adk (I:QI m q g) {c:Nat} (hk:l.kd=0):QI { m with fly:=m.fly++[l],calls:=c } q g/\vw { m with fly:=m.fly++[l],calls:=c } q=vw m q:=by
 refine ⟨I.xE λx hx=>?_,rfl⟩;obtain ⟨x1,x2⟩:=hx
 rcases x2 with x2 | x2
 ·rcases List.mem_append.1 x2 with x2 | x2
  ·exact .inl ⟨x1,.inl x2⟩
  rw [List.mem_singleton] at x2;subst x2;exact .inr (lM (.inl hk))
 exact .inl ⟨x1,.inr x2⟩
theorem adl {q':Nat} {tg:Int} {T S D K:Nat} (I:QI m q g) (hB:fB m T S D K) (hq':q'<4) (hq:q<4):QI (m.move q' tg) q g/\((vw m q g.o).role=3->(vw (m.move q' tg) q g.o).role=3)/\ ∀ n,((m.move q' tg).ah n).data=(m.ah n).data:=by
 unfold Cl.move
 split
 ·exact ⟨I,id,λ_=>rfl⟩
 rename_i h0
 have hw: ¬ (aX m.off q').2≠0:=λe=>h0 (.inl e);have hne: ¬ (aX m.off q').1.node=tg:=λe=>h0 (.inr (.inl e));obtain ⟨hn,ax5,w3⟩:=uh hw;have hu:(m.ah (aX m.off q').1.node.toNat).up=true:=by
  cases e:(m.ah (aX m.off q').1.node.toNat).up with
  | true=>rfl
  | false=>exact absurd (.inr (.inr e)) h0
 rw [Int.toNat_natCast] at w3
 split
 ·rename_i h1
  obtain ⟨h1,h2⟩:=h1;obtain ⟨g1,g2,g3,g4⟩:=go_ok h1;rw [g4] at h2⊢;dsimp only at h2⊢;have hnn:(aX m.off q').1.node=(((aX m.off q').1.node.toNat:Nat):Int):=by omega
  generalize (aX m.off q').1.node.toNat=n at*;have dN:(m.aW n q' ⟨2,((m.ah n).bs q').ep,0,tg,0,((m.ah n).bs q').evs⟩).ah=upd m.ah n ((m.ah n).aW q' ⟨2,((m.ah n).bs q').ep,0,tg,0,((m.ah n).bs q').evs⟩):=rfl
  suffices hs:QI (m.aW n q' ⟨2,((m.ah n).bs q').ep,0,tg,0,((m.ah n).bs q').evs⟩) q g/\((vw m q g.o).role=3->(vw (m.aW n q' ⟨2,((m.ah n).bs q').ep,0,tg,0,((m.ah n).bs q').evs⟩) q g.o).role=3) from ⟨hs.1,hs.2,λj=>by
   rw [dN];by_cases e:j=n
   ·subst e;rw [upd_same];rfl
   rw [upd_ne e]⟩
  by_cases e:q'=q
  ·subst e;have hV:=Bp (q:=q') hu;have ho:=I.oEp hn (by rw [hV];exact .inl g1);have eP:((m.ah n).bs q').ep=g.m:=by rw [<-hV,ho];exact I.EZ
   have fT:((m.ah n).aW q' ⟨2,((m.ah n).bs q').ep,0,tg,0,((m.ah n).bs q').evs⟩).view q'=⟨2,((m.ah n).bs q').ep,0,tg,0,((m.ah n).bs q').evs⟩:=by rw [gH (X:=(m.ah n).aW q' _) hu];exact upd_same _ _ _
   have hvw:vw (m.aW n q' ⟨2,((m.ah n).bs q').ep,0,tg,0,((m.ah n).bs q').evs⟩) q'=upd (vw m q') n ⟨2,((m.ah n).bs q').ep,0,tg,0,((m.ah n).bs q').evs⟩:=by rw [sK dN,fT]
   have Zx:((m.ah n).bs q').ep=(m.off.at q').epoch:=by rw [<-w3];exact h2
   have I2:Inv g (upd (vw m q') g.o ⟨2,((m.ah n).bs q').ep,0,tg,0,((m.ah n).bs q').evs⟩) (yJ m q') (CJ m) (KG m q') (m.off.at q') (yK m q') (yI m q'):=by
    refine Inv.Y4 I (λp hp=>?_) ?_ ?_ ?_ ?_ ?_ ?_
    ·obtain ⟨_,hk⟩:=I.sJ g.o I.o5 p hp;rw [<-ho] at hk⊢
     cases p with
     | serve k evs op num a=>
      obtain ⟨k1,k2,k3⟩:=hk;exact ⟨k1,by rw [upd_same];exact .inr rfl,k3⟩
     | begun k b=>obtain ⟨_,_,_,_,k4,_⟩:=hk;rw [hV] at k4;exfalso;omega
     | got k b last=>have:=hk.1;rw [hV] at this;exfalso;omega
     | iE k b a=>have:=hk.2.1;rw [hV] at this;exfalso;omega
     | forget k b=>have:=hk.1;rw [hV] at this;exfalso;omega
    ·exact eP
    ·show ((m.ah n).bs q').evs=_;rw [<-hV,ho];exact I.L6
    ·exact .inr (.inl rfl)
    ·intro _;refine ⟨by rw [<-Zx];exact eP,?_,g2,by show tg<5;omega⟩
     show ¬ tg=(g.o:Int)
     rw [<-ho,<-hnn];exact λe=>hne e.symm
    ·intro h;rw [<-ho,hV] at h;omega
    intro h;exact absurd (show (2:Int)=3 from h) (by decide)
   rw [<-ho] at I2;exact ⟨QI.mk' I2 hvw (qY dN rfl) (lD dN rfl) (vP dN (λ_ h=>h) hn rfl) rfl rfl rfl,λh=>by rw [<-ho,hV] at h;omega⟩
  have fT:((m.ah n).aW q' ⟨2,((m.ah n).bs q').ep,0,tg,0,((m.ah n).bs q').evs⟩).view q=(m.ah n).view q:=by
   rw [gH (X:=(m.ah n).aW q' _) hu,gH hu];exact upd_ne (λh=>e h.symm)
  exact ⟨I.far hn dN fT rfl rfl (λ_ h=>h) (λx hx=> .inl hx) rfl rfl rfl,by rw [nI dN fT];exact id⟩
 exact ⟨I,id,λ_=>rfl⟩
theorem Inv.anh (I:Inv g V P U Lt pl sh sv) (hn:n<5) (hp:P n=none):Inv g (upd V n (jH (V n))) P U Lt pl sh sv:=by
 by_cases hr:(V n).role=2
 ·have ho:=I.oEp hn (.inr hr);subst ho;have e:jH (V g.o)=⟨1,(V g.o).ep,0,0,0,(V g.o).evs⟩:=by unfold jH;rw [if_pos hr]
  rw [e];exact I.Y4 (λp hp'=>by rw [hp] at hp';cases hp') I.EZ I.L6 (.inl rfl) (λh=>absurd rfl h) (λh=>by omega) λh=>absurd (show (1:Int)=3 from h) (by decide)
 rw [Dl hr,aG rfl];exact I
theorem Inv.crash {bs:Nat->bF} {x:bF} (I:Inv g V P U Lt pl sh sv) (hn:n<5) (hV:V n=bs q) (hr2: ∀ p,P n=some p->p.q=q) (hx:x=jH (bs q)\/ ∃ p,P n=some p/\p.q=q/\Ko bs p x):
  ∃ g',Inv g' (upd V n x) (upd P n none) (upd U n false) Lt pl sh sv/\lV g g'/\(g'.m=g.m->(V g.o).role=3->(upd V n x g.o).role=3):=by
 have I1:=I.down n;have hpn:(upd P n none) n=none:=upd_same _ _ _;have vQ: ∀ {y:bF},((V n).role=3->y.role=3)->((V g.o).role=3->(upd V n y g.o).role=3):=λ{y} h h2=>by
  by_cases e:g.o=n
  ·rw [e] at h2⊢;rw [upd_same];exact h h2
  rw [upd_ne e];exact h2
 have ani: ∃ g',Inv g' (upd V n (jH (bs q))) (upd P n none) (upd U n false) Lt pl sh sv/\lV g g'/\(g'.m=g.m->(V g.o).role=3->(upd V n (jH (bs q)) g.o).role=3):=by
  rw [<-hV];exact ⟨g,I1.anh hn hpn,.refl g,λ_=>vQ λh=>by rw [Dl (by omega)];exact h⟩
 rcases hx with hx | ⟨p,hp,hq,hx⟩
 ·rw [hx];exact ani
 obtain ⟨hu,hk⟩:=I.sJ n hn p hp
 rcases hx with hx | hx | ⟨k,b,last,j,h1,hx,h3⟩
 ·rw [hx,hq];exact ani
 ·cases p with
  | serve k evs op num a=>
   have e:k=q:=hq;subst e;obtain ⟨k1,k2,k3,k4,k5⟩:=hk;obtain ⟨t1,t2,t3⟩:=I.OI (by rw [<-k1];exact hu);have hr3:(V n).role≠3:=by unfold serves at k2;omega
   have hx':x=jH { V n with evs:=evs }:=by rw [hx,hV];rfl
   have I2:Inv (g.app op) (upd V n { V n with evs:=evs }) (upd P n none) (upd U n false) Lt pl sh sv:=by
    subst k1;exact I1.append (e:=op) (b:={ V g.o with evs:=evs }) hpn (upd_same _ _ _) hr3 t1 (by rw [<-k3];exact k5) rfl rfl rfl k3
   have I3:=I2.anh hn hpn;rw [upd_same,rX,<-hx'] at I3;exact ⟨_,I3,⟨Nat.le_refl _,λ_ _=>rfl,by show (g.G++[op]).length<=_;simp⟩,λ_=>vQ λh=>absurd h hr3⟩
  | begun k b=>
   obtain ⟨j,j1,j2,j3,j4,j5⟩:=hk;have hx':x=b:=by rw [hx];show jH b=b;rw [j1];exact G8 (.inl rfl)
   have I2:=I1.Pj (b:=b) hn (I.Em j4) hpn (by rw [j1];exact I.Mr j2 j3 j5) (by rw [j1];show _<=(j:Int)+1;omega);rw [hx'];exact ⟨g,I2,.refl g,λ_=>vQ λh=>by omega⟩
  | got k b last=>
   obtain ⟨j1,j2,j3⟩:=hk
   cases last with
   | true=>
    obtain ⟨a1,a2,a3,a4,a5⟩:=j3 rfl;have hx':x=⟨1,(g.m:Int)+1,0,0,0,g.G++[aM]⟩:=by rw [hx];show jH b=_;rw [a4];rfl
    have I2:=I1.activate (T:=n) a2 a3 hpn (upd_same _ _ _) a5 (by rw [a1];exact Int.le_refl _);rw [hx'];exact ⟨_,I2,⟨by show g.m<=g.m+1;omega,λk hk=>upd_ne (by omega),by show (g.G++[aM]).length<=_;simp⟩,λh=>by
     have:g.m+1=g.m:=h;omega⟩
   | false=>
    obtain ⟨j,a1,a2,a3⟩:=j2 rfl;have hx':x=b:=by rw [hx];show jH b=b;rw [a1];exact G8 (.inl j1)
    have I2:=I1.Pj (b:=b) hn (I.Em (.inr j1)) hpn (by rw [a1];exact I.IU hn j1 a3) (by rw [a1];exact Int.le_refl _);rw [hx'];exact ⟨g,I2,.refl g,λ_=>vQ λh=>by omega⟩
  | iE k b at_=>
   obtain ⟨ho,j1,j2⟩:=hk;obtain ⟨t1,t2,t3⟩:=I.OI (by rw [<-ho];exact hu);have TN:=I.Xb (by rw [<-ho];omega);have hx':x=b:=by rw [hx];show jH b=b;rw [j2];exact G8 (.inr (.inr (.inl rfl)))
   have I2:Inv g (upd V g.o b) (upd P n none) (upd U n false) Lt pl sh sv:=by
    refine Inv.Y4 I1 (λp' hp'=>?_) ?_ ?_ ?_ ?_ ?_ λ_=>t2
    ·rw [<-ho,upd_same] at hp';cases hp'
    ·rw [j2,ho];exact I.EZ
    ·rw [j2,ho];exact I.L6
    ·rw [j2];exact .inr (.inr rfl)
    ·intro _;rw [j2,ho];exact TN
    intro h;rw [<-ho] at h;omega
   rw [<-ho] at I2;rw [hx'];exact ⟨g,I2,.refl g,λ_=>vQ λ_=>by rw [j2]⟩
  | forget k b=>
   obtain ⟨j1,j2,j3⟩:=hk;obtain ⟨hne,hoth⟩:=I.JF hn j1 j3;have hx':x=b:=by rw [hx];show jH b=b;rw [j2];exact G8 (.inr (.inl rfl))
   have I2:=I1.Pj (b:=b) hn hne hpn (by rw [j2];exact hoth) (by rw [j2];exact Int.le_refl _);rw [hx'];refine ⟨g,I2,.refl g,λ_ h=>?_⟩;rw [upd_ne (λe=>hne e.symm)];exact h
 subst h1;have e:k=q:=hq;subst e;obtain ⟨j1,j2,j3⟩:=hk;have hev: ∃ i,b.evs.take ((bs k).evs.length+j)=g.G.take i/\ ∀ k':Nat,(V n).ep=(k':Int)+1->i<=g.bd k':=by
  cases last with
  | true=>
   obtain ⟨a1,a2,a3,a4,a5⟩:=j3 rfl;have hb:b.evs=g.G++[aM]:=by rw [a4]
   simp only [if_true] at h3;rw [hb,List.length_append,List.length_singleton] at h3;refine ⟨(bs k).evs.length+j,by rw [hb,oM (by omega)],λk' hk'=>?_⟩;have:k'=g.m:=by omega
   subst this;unfold Gh.bd;rw [if_pos rfl];omega
  | false=>
   obtain ⟨i,a1,a2,a3⟩:=j2 rfl;have hb:b.evs=g.G.take i:=by rw [a1]
   refine ⟨min ((bs k).evs.length+j) i,by rw [hb,List.take_take],λk' hk'=>Nat.le_trans (Nat.min_le_right _ _) (a3 k' hk')⟩
 obtain ⟨i,e1,e2⟩:=hev;have hx':x={ V n with evs:=g.G.take i }:=by rw [hx,e1,hV]
 have I2:=I1.Pj (b:={ V n with evs:=g.G.take i }) hn (I.Em (.inr j1)) hpn (I.IU hn j1 e2) (Int.le_refl _);rw [hx'];exact ⟨g,I2,.refl g,λ_=>vQ λh=>by omega⟩
theorem Zy {keep:Int} {T S D K:Nat} (I:QI m q g) (hB:fB m T S D K) (hn:n<5) (hq:q<4) (hk:0<=keep):(∃ g',QI (m.crash n keep) q g'/\lV g g'/\Bq q g g' m (m.crash n keep))/\ ∀ j,((m.crash n keep).ah j).data.length<=(m.ah j).data.length:=by
 unfold Cl.crash
 split
 ·rename_i hu
  change (∃ g',QI (m.put n ((m.ah n).crashed keep)) q g'/\lV g g'/\Bq q g g' m (m.put n ((m.ah n).crashed keep)))/\ ∀ j,((m.put n ((m.ah n).crashed keep)).ah j).data.length<=(m.ah j).data.length;obtain ⟨rs,us,hU⟩:=(hB.kV n hn).Mg hu;obtain ⟨rs',t,f,hd,hf⟩:=Qx hU hk;have dN:(m.put n ((m.ah n).crashed keep)).ah=upd m.ah n ((m.ah n).crashed keep):=rfl;have fT:((m.ah n).crashed keep).view q=f q:=hd.view rfl hq;have hV:=Bp (q:=q) hu;have hP: ∀ p,yJ m q n=some p->(m.ah n).pend=some p/\p.q=q:=λp hp=>by
   unfold yJ at hp
   cases e:(m.ah n).pend with
   | none=>rw [e] at hp;cases hp
   | some p'=>
    rw [e] at hp;unfold pq at hp;dsimp only at hp
    split at hp
    ·cases hp;exact ⟨rfl,by assumption⟩
    cases hp
  obtain ⟨g',I2,N2,R2⟩:=Inv.crash I hn hV (λp hp=>(hP p hp).2) (x:=f q) (by
   rcases hf q hq with h | ⟨p,h1,h2,h3⟩
   ·exact .inl h
   exact .inr ⟨p,by unfold yJ;rw [h1];exact aaR h2,h2,h3⟩)
  have hvw:vw (m.put n ((m.ah n).crashed keep)) q=upd (vw m q) n (f q):=by rw [sK dN,fT]
  refine ⟨⟨g',QI.mk' I2 hvw (by rw [rZ dN];rfl) (by rw [SI dN];rfl) (vP dN (λx hx=>by cases hx) hn rfl) rfl rfl rfl,N2,λh1 h2=>by
   have:=R2 h1 h2;rw [<-hvw] at this;exact this⟩,λj=>?_⟩
  show ((m.put n ((m.ah n).crashed keep)).ah j).data.length<=_
  rw [dN];by_cases e:j=n
  ·subst e;rw [upd_same]
   show (lX _ _ _).1.length<=_
   unfold lX
   split
   ·split
    ·simp
    split
    ·simp
    simp;omega
   simp
  rw [upd_ne e];exact Nat.le_refl _
 exact ⟨⟨g,I,.refl g,λ_ h=>h⟩,λ_=>Nat.le_refl _⟩
end
end
end Go.Proofs.YtbffmhpkenoogaaGreatDoor
