import Derived.Test.YthhnonpehllibaaGreatDoorG09dab
import Derived.Test.YthhnonpehllibaaGreatDoorGf9d87
set_option maxRecDepth 100000
set_option maxHeartbeats 8000000
set_option linter.unusedSimpArgs false
set_option linter.unusedVariables false
namespace Go.Proofs.YthhnonpehllibaaGreatDoor
section
open ChangeShapes WideShapes RowKit
structure wE where
 num:Int
 ans:iZ
 pl:Pl
structure iD where
 kd:Int:=0
 fr:Int:=0
 tg:Int:=0
 q:Nat:=0
 ep:Int:=0
 at_:Int:=0
 nd:Int:=0
 op:Ev:=aP
 evs:List Ev:=[]
 last:Bool:=false
 num:Int:=0
 bL:wE:=⟨0,eH,mh⟩
structure kH where
 nd:Nat
 q:Nat
 ep:Int
 op:Ev
 ans:iZ
 num:Int
inductive fM
 | serve (q:Nat) (evs:List Ev) (op:Ev) (num:Int) (a:iZ)
 | begun (q:Nat) (b:bK)
 | got (q:Nat) (b:bK) (last:Bool)
 | iN (q:Nat) (b:bK) (at_:Int)
 | forget (q:Nat) (b:bK)
structure Nd where
 up:Bool
 data:List UInt8
 syn:Int
 bs:Nat->bK
 hints:Nat->Pl
 sure:Nat->Bool
 inbox:List iD
 pend:Option fM
 turn:Nat
structure Cl where
 ah:Nat->Nd
 off:Dir
 fly:List iD
 shown:Nat->Nat->Int×Int
 aV:List kH
 bL:List wE
 calls:Nat
def upd {α:Type} (f:Nat->α) (k:Nat) (v:α):Nat->α:=λj=>if j=k then v else f j
def gX {α:Type} (f:Nat->Nat->α) (n q:Nat) (v:α):Nat->Nat->α:=λi j=>if i=n/\j=q then v else f i j
def Cl.put (w:Cl) (n:Nat) (x:Nd):Cl:={ w with ah:=upd w.ah n x }
def Cl.aZ (w:Cl) (n q:Nat) (b:bK):Cl:=w.put n { w.ah n with bs:=upd (w.ah n).bs q b }
def Cl.send (w:Cl) (l:iD):Cl:={ w with fly:=w.fly++[l] }
def Nd.blank (x:Nd):Nd:={ x with bs:=λ_=>bG,sure:=λ_=>false,hints:=λ_=>nowhere,inbox:=[],pend:=none }
def nd0:Nd:=⟨true,[],0,λ_=>bG,λ_=>nowhere,λ_=>false,[],none,0⟩
def fG:Cl:=⟨λ_=>nd0,⟨nowhere,nowhere,nowhere,nowhere⟩,[],λ_ _=>(0,0),[],[],0⟩
def eG (l:List UInt8) (s:Int):List dB->Option (List UInt8)
 | []=>some l
 | r::rs=>if (iO l s r).2.2≠0 then none else eG (iO l s r).1 s rs
def Nd.write (x:Nd) (rs:List dB):Option Nd:=(eG x.data x.syn rs).map λd=>{ x with data:=d }
def fI (k:Int) (q:Nat) (ep pe:Int) (e:Ev):dB:=⟨k,q,ep,pe,e⟩
def Cl.tell (w:Cl) (n q:Nat) (e:Ev) (a:iZ) (num:Int):Cl:=
 { w with aV:=w.aV++[⟨n,q,((w.ah n).bs q).ep,e,a,num⟩],shown:=gX w.shown n q (((w.ah n).bs q).ep,((w.ah n).bs q).evs.length) }
def serves (b:bK):Prop:=b.role=1\/b.role=2
instance (b:bK):Decidable (serves b):=by unfold serves;exact inferInstance
def mJ (n:Nat) (num:Int) (a:iZ) (p:Pl):iD:={ kd:=1,fr:=n,tg:= -1,bL:=⟨num,a,p⟩ }
def Cl.done (w:Cl) (n q:Nat) (op:Ev) (num:Int) (a:iZ):Cl:=
 if serves ((w.ah n).bs q) then (w.tell n q op a num).send (mJ n num a nowhere) else w.send (mJ n num a ((w.ah n).hints q))
noncomputable def Cl.serve (w:Cl) (n:Nat) (l:iD):Cl:=
 if (gJ ((w.ah n).bs l.q) l.op).2.2.1=false then w.done n l.q l.op l.num (gJ ((w.ah n).bs l.q) l.op).2.1
 else match (w.ah n).write [fI 2 l.q (gJ ((w.ah n).bs l.q) l.op).1.ep 0 l.op] with
  | none=>w.done n l.q l.op l.num (rU 14)
  | some x=>w.put n { x with pend:=some (.serve l.q (gJ ((w.ah n).bs l.q) l.op).1.evs l.op l.num (gJ ((w.ah n).bs l.q) l.op).2.1) }
def qX (n q:Nat) (b:bK):iD:={ kd:=3,fr:=n,tg:=b.fr,q:=q,ep:=b.ep,at_:=b.evs.length }
def Cl.have_ (w:Cl) (n q:Nat):Cl:=w.send (qX n q ((w.ah n).bs q))
noncomputable def Cl.offered (w:Cl) (n:Nat) (l:iD):Cl:=
 if (dz ((w.ah n).bs l.q) l.ep l.fr).2≠0 then w
 else if (dz ((w.ah n).bs l.q) l.ep l.fr).1.ep=((w.ah n).bs l.q).ep then w.have_ n l.q
 else match (w.ah n).write [fI 4 l.q (dz ((w.ah n).bs l.q) l.ep l.fr).1.ep l.fr aP] with
  | none=>w
  | some x=>w.put n { x with pend:=some (.begun l.q (dz ((w.ah n).bs l.q) l.ep l.fr).1) }
def uq (q:Nat) (b:bK) (k m:Nat) (last:Bool):List dB:=
 ((b.evs.take m).drop k).map (λx=>fI 5 q b.ep 0 x)++if last=true then [fI 6 q b.ep 0 aP] else []
noncomputable def Cl.got (w:Cl) (n:Nat) (l:iD):Cl:=
 if ((w.ah n).bs l.q).role≠4\/((w.ah n).bs l.q).fr≠l.fr then w
 else if (dh ((w.ah n).bs l.q) l.ep l.at_ l.evs l.last).2=2 then w.have_ n l.q
 else if (dh ((w.ah n).bs l.q) l.ep l.at_ l.evs l.last).2≠0\/(dh ((w.ah n).bs l.q) l.ep l.at_ l.evs l.last).1.evs.length=((w.ah n).bs l.q).evs.length then w
 else match (w.ah n).write (uq l.q (dh ((w.ah n).bs l.q) l.ep l.at_ l.evs l.last).1 ((w.ah n).bs l.q).evs.length (l.at_.toNat+l.evs.length) l.last) with
  | none=>w
  | some x=>w.put n { x with pend:=some (.got l.q (dh ((w.ah n).bs l.q) l.ep l.at_ l.evs l.last).1 l.last) }
noncomputable def LK (n q:Nat) (b:bK) (at_:Int):iD:={ kd:=4,fr:=n,tg:=b.tg,q:=q,ep:=b.ep+1,at_:=at_,evs:=(iI b at_).1,last:=(iI b at_).2.1 }
noncomputable def Cl.part (w:Cl) (n q:Nat) (at_:Int):Cl:=if (iI ((w.ah n).bs q) at_).2.2≠0 then w else w.send (LK n q ((w.ah n).bs q) at_)
noncomputable def Cl.caught (w:Cl) (n:Nat) (l:iD):Cl:=
 if ((w.ah n).bs l.q).tg≠l.fr\/((w.ah n).bs l.q).ep+1≠l.ep then w
 else if (bP ((w.ah n).bs l.q) l.at_).2≠0 then w
 else if (bP ((w.ah n).bs l.q) l.at_).1.role=((w.ah n).bs l.q).role then (w.aZ n l.q (bP ((w.ah n).bs l.q) l.at_).1).part n l.q l.at_
 else match (w.ah n).write [fI 3 l.q (bP ((w.ah n).bs l.q) l.at_).1.ep (bP ((w.ah n).bs l.q) l.at_).1.tg aP] with
  | none=>w
  | some x=>w.put n { x with pend:=some (.iN l.q (bP ((w.ah n).bs l.q) l.at_).1 l.at_) }
def Nd.hear (x:Nd) (n:Nat) (l:iD):Nd:=
 { x with hints:=if (x.hints l.q).epoch<l.ep then upd x.hints l.q ⟨l.nd,l.ep⟩ else x.hints,sure:=if l.nd=n/\(x.bs l.q).ep=l.ep then upd x.sure l.q true else x.sure }
noncomputable def Cl.learnt (w:Cl) (n:Nat) (l:iD):Cl:=
 if (gq ((w.ah n).bs l.q) l.ep).2≠0 then w.put n ((w.ah n).hear n l)
 else match ((w.ah n).hear n l).write [fI 7 l.q ((w.ah n).bs l.q).ep 0 aP] with
  | none=>w.put n ((w.ah n).hear n l)
  | some x=>w.put n { x with pend:=some (.forget l.q (gq ((w.ah n).bs l.q) l.ep).1) }
def zm (n q:Nat) (b:bK):iD:={ kd:=2,fr:=n,tg:=b.tg,q:=q,ep:=b.ep+1 }
def Vm (n q:Nat):iD:={ kd:=5,fr:=n,tg:= -2,q:=q,nd:= -1 }
def Qb (n q:Nat) (b:bK):iD:={ kd:=5,fr:=n,tg:= -2,q:=q,ep:=b.ep-1,nd:=n }
def ko (n q:Nat) (b:bK) (sure:Bool):List iD:=
 (if b.role=2\/b.role=3 then [zm n q b] else [])++(if b.role=3 then [Vm n q] else [])++if b.role=1/\1<b.ep/\sure=false then [Qb n q b] else []
def Cl.Ld (w:Cl) (n:Nat):Cl:=
 let q:=(w.ah n).turn % 4
 { (w.put n { w.ah n with turn:=(w.ah n).turn+1 }) with fly:=w.fly++ko n q ((w.ah n).bs q) ((w.ah n).sure q) }
noncomputable def Cl.zn (w:Cl) (n:Nat):fM->Cl
 | .serve q evs op num a=>(w.aZ n q { (w.ah n).bs q with evs:=evs }).done n q op num a
 | .begun q b=>(w.aZ n q b).have_ n q
 | .got q b last=>if last=true then ((w.aZ n q b).put n { (w.aZ n q b).ah n with sure:=upd (w.ah n).sure q false }).tell n q aM eH (-1) else (w.aZ n q b).have_ n q
 | .iN q b at_=>(w.aZ n q b).part n q at_
 | .forget q b=>w.aZ n q b
noncomputable def Cl.handle (w:Cl) (n:Nat) (l:iD):Cl:=
 if l.kd=0 then w.serve n l else if l.kd=2 then w.offered n l else if l.kd=3 then w.caught n l else if l.kd=4 then w.got n l else w.learnt n l
noncomputable def Cl.drain (n:Nat):List iD->Cl->Cl
 | [],w=>w
 | l::r,w=>if ((w.put n { w.ah n with inbox:=r }).handle n l |>.ah n).pend=none then Cl.drain n r ((w.put n { w.ah n with inbox:=r }).handle n l) else (w.put n { w.ah n with inbox:=r }).handle n l
noncomputable def Cl.step (w:Cl) (n:Nat):Cl:=
 if (w.ah n).up=false then w else match (w.ah n).pend with
  | some p=>(w.put n { w.ah n with syn:=(w.ah n).data.length,pend:=none }).zn n p
  | none=>if ((Cl.drain n (w.ah n).inbox w).ah n).pend=none then (Cl.drain n (w.ah n).inbox w).Ld n else Cl.drain n (w.ah n).inbox w
def nR (tg:Int) (q:Nat) (p:Pl):iD:={ kd:=6,fr:= -2,tg:=tg,q:=q,ep:=p.epoch,nd:=p.node }
noncomputable def eT (d:Dir) (l:iD):Dir:=if 0<=l.nd/\(zZ d l.q l.ep l.nd).2=0 then (zZ d l.q l.ep l.nd).1 else d
noncomputable def Cl.come (w:Cl) (l:iD):Cl:=
 if l.tg= -1 then { w with bL:=w.bL++[l.bL] }
 else if l.tg= -2 then
  if (bn (eT w.off l) l.q).2=0 then { w with off:=eT w.off l,fly:=w.fly++[nR l.fr l.q (bn (eT w.off l) l.q).1] } else { w with off:=eT w.off l }
 else if (w.ah l.tg.toNat).up=true then w.put l.tg.toNat { w.ah l.tg.toNat with inbox:=(w.ah l.tg.toNat).inbox++[l] } else w
noncomputable def Cl.pick (w:Cl) (at_:Nat) (comes stays:Bool):Cl:=
 match w.fly[at_ % w.fly.length]? with
 | none=>w
 | some l=>
  let w1:=if stays=true then w else { w with fly:=w.fly.eraseIdx (at_ % w.fly.length) }
  if comes=true then w1.come l else w1
noncomputable def Cl.make (w:Cl) (n q:Nat):Cl:=
 if (w.ah n).up=false\/(w.ah n).pend.isSome=true\/(rC w.off q n).2≠0 then w
 else if (iX ((w.ah n).bs q) 1).2≠0 then w
 else match (w.ah n).write [fI 1 q (iX ((w.ah n).bs q) 1).1.ep 0 aP] with
  | none=>w
  | some x=>{ w.put n { x with syn:=x.data.length,bs:=upd x.bs q (iX ((w.ah n).bs q) 1).1 } with off:=(rC w.off q n).1,shown:=gX w.shown n q (1,0) }
noncomputable def Cl.move (w:Cl) (q:Nat) (tg:Int):Cl:=
 if (bn w.off q).2≠0\/(bn w.off q).1.node=tg\/(w.ah (bn w.off q).1.node.toNat).up=false then w
 else if (zL ((w.ah (bn w.off q).1.node.toNat).bs q) tg).2=0/\(zL ((w.ah (bn w.off q).1.node.toNat).bs q) tg).1.ep=(bn w.off q).1.epoch then
  w.aZ (bn w.off q).1.node.toNat q (zL ((w.ah (bn w.off q).1.node.toNat).bs q) tg).1
 else w
noncomputable def Ck (data:List UInt8) (syn:Int):Option (List bK):=(allM (uh (jD data syn).1 (jD data syn).2.1).1).1
noncomputable def bI (data:List UInt8) (syn:Int):Nat->bK:=λq=>II ((Ck data syn).getD []) q
def Cl.recovered (w:Cl) (n q:Nat) (evs:List Ev) (an:List iZ):List Nat->Cl
 | []=>w
 | i::r=>Cl.recovered (w.tell n q (evs.getD i aP) (an.getD i eH) (-1)) n q evs an r
noncomputable def Cl.recover (w:Cl) (n q:Nat):Cl:=
 if (w.shown n q).1≠((w.ah n).bs q).ep then w.tell n q aM eH (-1)
 else w.recovered n q ((w.ah n).bs q).evs (aH ((w.ah n).bs q).evs).2.1 ((List.range ((w.ah n).bs q).evs.length).drop (w.shown n q).2.toNat)
noncomputable def eF (syn:Int) (bs:Nat->bK):List Nat->List UInt8->Option (List UInt8)
 | [],d=>some d
 | q::r,d=>if (bs q).role≠1 then eF syn bs r d else if (eU (bs q)).2≠0 then none else
  match eG d syn [fI 2 q (bs q).ep 0 aM] with
  | none=>none
  | some d'=>eF syn bs r d'
noncomputable def Cl.woken (n:Nat) (bs:Nat->bK):List Nat->Cl->Cl
 | [],w=>w
 | q::r,w=>if (bs q).role≠1 then Cl.woken n bs r w else Cl.woken n bs r (((w.recover n q).aZ n q (eU (bs q)).1).tell n q aM eH (-1))
noncomputable def Cl.start (w:Cl) (n:Nat):Cl:=
 if (w.ah n).up=true then w else
 match eF (jD (w.ah n).data (w.ah n).syn).2.1 (bI (w.ah n).data (w.ah n).syn) [0,1,2,3] (jD (w.ah n).data (w.ah n).syn).1 with
 | none=>w
 | some d=>Cl.woken n (bI (w.ah n).data (w.ah n).syn) [0,1,2,3] (w.put n { (w.ah n).blank with up:=true,data:=d,syn:=d.length,bs:=bI (w.ah n).data (w.ah n).syn })
def Cl.crash (w:Cl) (n:Nat) (keep:Int):Cl:=
 if (w.ah n).up=true then w.put n { (w.ah n).blank with up:=false,data:=(mo (w.ah n).data (w.ah n).syn keep).1,syn:=(mo (w.ah n).data (w.ah n).syn keep).2.1 } else w
def Ac.op (a:Ac):Ev:=⟨a.ek,a.ep,a.ei,a.eb,a.eh,a.en⟩
def Qc (n:Int) (q:Nat) (op:Ev) (num:Int):iD:={ kd:=0,fr:= -1,tg:=n,q:=q,op:=op,num:=num }
noncomputable def Cl.all (w:Cl):Cl:=w.fly.foldl Cl.come { w with fly:=[] }
noncomputable def Cl.act (w:Cl) (a:Ac):Cl:=
 if a.kd=1 then w.make a.nd.toNat a.qu.toNat
 else if a.kd=2 then { w with fly:=w.fly++[Qc a.nd a.qu.toNat a.op w.calls],calls:=w.calls+1 }
 else if a.kd=3 then w.step a.nd.toNat
 else if a.kd=4\/a.kd=5\/a.kd=6 then w.pick a.at_.toNat (decide (a.kd≠5)) (decide (a.kd=6))
 else if a.kd=7 then w.all
 else if a.kd=8 then w.crash a.nd.toNat a.kp
 else if a.kd=9 then w.start a.nd.toNat
 else w.move a.qu.toNat a.nd
noncomputable def Cl.run (w:Cl) (l:List Ac):Cl:=l.foldl Cl.act w
noncomputable def Nd.view (x:Nd):Nat->bK:=if x.up=true then x.bs else bI x.data x.syn
theorem uM: ∀ (a b:List Ev) (Q:Qd) (an:List iZ),ig Q an (a++b)=(ig Q an a).bind λr=>ig r.1 r.2 b
 | [],b,Q,an=>rfl
 | e::a,b,Q,an=>by
  simp only [List.cons_append,ig]
  split
  ·exact uM a b _ _
  rfl
def good (l:List Ev):Prop:=(aH l).2.2=0
section
variable {l:List Ev} {e:Ev} {k:Nat}
theorem uG:good l↔l.length<=2000/\ ∃ r,ig dV [] l=some r:=by
 unfold good
 constructor
 ·intro h;refine ⟨fU h,?_⟩;have hl: ¬ 2000<l.length:=by have:=fU h;omega
  cases hr:ig dV [] l with
  | none=>rw [JI hl hr] at h;cases h
  | some r=>exact ⟨r,rfl⟩
 rintro ⟨h,r,hr⟩;rw [Eb (by omega) hr]
theorem Ao {r:Qd×List iZ} (h:l.length<=2000) (hr:ig dV [] l=some r):aH l=(r.1,r.2,0):=Eb (by omega) hr
theorem wY:good []:=uG.2 ⟨by simp,_,rfl⟩
theorem RV {a b:List Ev} (h:good (a++b)):good a:=by
 obtain ⟨h1,r,hr⟩:=uG.1 h;rw [uM] at hr;rw [List.length_append] at h1
 cases ha:ig dV [] a with
 | none=>rw [ha] at hr;cases hr
 | some s=>exact uG.2 ⟨by omega,s,ha⟩
theorem qL (h:good l):good (l.take k):=RV (b:=l.drop k) (by rwa [List.take_append_drop])
theorem jS (h:good l):l.length<=2000:=fU h
theorem good_step (h:good (l++[e])):(iL (aH l).1 e).2.2.2=0/\(iL (aH l).1 e).2.2.1=true/\aH (l++[e])=((iL (aH l).1 e).1,(aH l).2.1++[(iL (aH l).1 e).2.1],0):=by
 obtain ⟨h1,r,hr⟩:=uG.1 h;rw [List.length_append] at h1;rw [uM] at hr
 cases ha:ig dV [] l with
 | none=>rw [ha] at hr;cases hr
 | some s=>
  have hs:=Ao (by omega) ha;rw [ha] at hr;simp only [Option.bind_some,ig] at hr
  split at hr
  ·rename_i hc
   rw [hs];refine ⟨hc.1,hc.2,?_⟩
   cases hr;refine Ao (r:=((iL s.1 e).1,s.2++[(iL s.1 e).2.1])) (by rw [List.length_append];exact h1) ?_;rw [uM,ha];simp only [Option.bind_some,ig];rw [if_pos hc]
  cases hr
theorem aai (h:good l) (hl:l.length<2000) (hc:(iL (aH l).1 e).2.2.2=0) (hd:(iL (aH l).1 e).2.2.1=true):good (l++[e]):=by
 obtain ⟨h1,s,ha⟩:=uG.1 h;have hs:=Ao h1 ha;rw [hs] at hc hd;refine uG.2 ⟨by simp;omega,((iL s.1 e).1,s.2++[(iL s.1 e).2.1]),?_⟩;rw [uM,ha];simp only [Option.bind_some,ig];rw [if_pos ⟨hc,hd⟩]
theorem NC (h:good l):(aH l).2.1.length=l.length:=by
 obtain ⟨h1,s,ha⟩:=uG.1 h;rw [Ao h1 ha];have:=(CV (by simp [dV]) ha).2;simpa using this
theorem oI (hk:k<l.length):l.take (k+1)=l.take k++[l[k]]:=by rw [List.take_add_one,List.getElem?_eq_getElem hk];rfl
theorem RX: ∀ (n:Nat) {l:List Ev},l.length=n->good l-> ∀ k (hk:k<l.length),(aH l).2.1[k]? =some (iL (aH (l.take k)).1 l[k]).2.1
 | 0,l,hn,_,k,hk=>absurd hk (by omega)
 | n+1,l,hn,h,k,hk=>by
  have e:l=l.take n++[l[n]]:=by rw [<-oI (by omega),<-hn,List.take_length]
  have h':good (l.take n++[l[n]]):=e▸h;obtain ⟨h1,h2,h3⟩:=good_step h';have hlen:(aH (l.take n)).2.1.length=n:=by rw [NC (qL h),List.length_take];omega
  have hm:(aH l).2.1=(aH (l.take n)).2.1++[(iL (aH (l.take n)).1 l[n]).2.1]:=by
   have:=congrArg (λx=>x.2.1) h3;rw [<-e] at this;exact this
  rw [hm];by_cases hkn:k=n
  ·subst hkn;rw [List.getElem?_append_right (by omega),hlen,Nat.sub_self];rfl
  rw [List.getElem?_append_left (by omega)];have hk':k< (l.take n).length:=by rw [List.length_take];omega
  have:=RX n (l:=l.take n) (by rw [List.length_take];omega) (qL h) k hk';rw [this,List.take_take,Nat.min_eq_left (by omega)];simp
theorem ac9 {Q:Qd} (h:(iL Q aM).2.2.1=true):(iL Q aM).2.1=eH:=by
 by_cases h0:Q.fault=0
 ·have he:bq aM=0:=by decide
  rw [Cg h0 he] at h⊢
  show (stepM Q aM).2.1=eH
  have h1:(stepM Q aM).2.2=true:=h;unfold stepM at h1⊢;simp only [aM,Int.reduceEq,if_false] at h1⊢;unfold K7 at h1⊢
  split at h1
  ·cases h1
  rename_i h2;rw [if_neg h2]
 rw [PY h0] at h
 cases h
theorem aiS {Q:Qd} {e:Ev} (hc:(iL Q e).2.2.2=0) (h:(iL Q e).2.2.1=false):(iL Q e).1=Q:=by
 by_cases h0:Q.fault=0
 ·by_cases h1:bq e=0
  ·rw [Cg h0 h1] at h⊢
   show (stepM Q e).1=Q
   have h2:(stepM Q e).2.2=false:=h;unfold stepM at h2⊢
   split at h2
   ·rename_i g;rw [if_pos g]
    unfold Cb at h2⊢
    repeat' split at h2
    all_goals first
     | (cases h2;done)
     | (simp_all)
   rename_i g;rw [if_neg g]
   split at h2
   ·rename_i g1;rw [if_pos g1]
    unfold Ip at h2⊢
    split at h2
    ·simp_all
    split at h2
    ·simp_all
    cases h2
   rename_i g1;rw [if_neg g1]
   split at h2
   ·rename_i g2;rw [if_pos g2]
    unfold FV at h2⊢
    repeat' split at h2
    all_goals first
     | (cases h2;done)
     | (simp_all)
   rename_i g2;rw [if_neg g2]
   unfold K7 at h2⊢
   split at h2
   ·simp_all
   cases h2
  rw [Vg h0 h1] at hc;exact absurd hc h1
 rw [PY h0] at hc;exact absurd hc h0
end
noncomputable def rp:Qd->List kH->Option Qd
 | x,[]=>some x
 | x,s::r=>if (iL x s.op).2.2.2=0/\(iL x s.op).2.1=s.ans then rp (iL x s.op).1 r else none
theorem ada: ∀ (a b:List kH) (x:Qd),rp x (a++b)=(rp x a).bind λy=>rp y b
 | [],b,x=>rfl
 | s::a,b,x=>by
  simp only [List.cons_append,rp]
  split
  ·exact ada a b _
  rfl
theorem Dv {x y:Qd} {a:List kH} {s:kH} (h:rp x a=some y) (hc:(iL y s.op).2.2.2=0) (ha:(iL y s.op).2.1=s.ans):rp x (a++[s])=some (iL y s.op).1:=by
 rw [ada,h];simp only [Option.bind_some,rp];rw [if_pos ⟨hc,ha⟩]
structure Gh where
 m:Nat
 own:Nat->Nat
 len:Nat->Nat
 G:List Ev
 F:Nat
 t:Nat
def Gh.bd (g:Gh) (k:Nat):Nat:=if k=g.m then g.G.length else g.len k
def Gh.o (g:Gh):Nat:=g.own g.m
def Oth (g:Gh) (n:Nat) (b:bK):Prop:=
 (b.role=0/\0<=b.ep/\b.ep<g.m)\/
 (∃ k:Nat,b.role=3/\b.ep=k/\1<=k/\k<g.m/\g.own k=n/\b.evs=g.G.take (g.len k)/\b.tg=g.own (k+1))\/
 (∃ k:Nat,b.role=4/\b.ep=(k:Int)+1/\1<=k/\k<=g.m/\b.fr=g.own k/\b.evs=g.G.take b.evs.length/\b.evs.length<=g.bd k/\(k<g.m->g.own (k+1)≠n))
def KF (g:Gh) (V:Nat->bK) (pl:Pl) (l:iD):Prop:=
 (l.kd=2-> ∃ k:Nat,l.ep=(k:Int)+1/\1<=k/\k<=g.m/\l.fr=g.own k)/\
 (l.kd=4-> ∃ k:Nat,l.ep=(k:Int)+1/\1<=k/\k<=g.m/\l.fr=g.own k/\0<=l.at_/\l.evs=(g.G.drop l.at_.toNat).take l.evs.length/\l.at_.toNat+l.evs.length<=g.bd k/\
  (l.last=true->(k<g.m/\(g.own (k+1):Int)=l.tg)\/(k=g.m/\(V g.o).role=3/\(V g.o).tg=l.tg/\l.at_.toNat+l.evs.length=g.G.length)))/\
 (l.kd=5->0<=l.nd-> ∃ k:Nat,l.ep=k/\1<=k/\k<g.m/\(g.own (k+1):Int)=l.nd)/\
 (l.kd=6-> ∃ k:Nat,l.ep=k/\1<=k/\(k:Int)<=pl.epoch/\(g.own k:Int)=l.nd)
def He (g:Gh) (V:Nat->bK) (n:Nat):fM->Prop
 | .serve _ evs op _ a=>n=g.o/\serves (V n)/\evs=g.G++[op]/\(iL (aH g.G).1 op).2.1=a/\good evs
 | .begun _ b=> ∃ k:Nat,b=⟨4,(k:Int)+1,g.own k,0,0,[]⟩/\1<=k/\k<=g.m/\((V n).role=0\/(V n).role=4)/\(V n).ep< (k:Int)+1
 | .got _ b last=>(V n).role=4/\(last=false-> ∃ j,b={ V n with evs:=g.G.take j }/\(V n).evs.length<=j/\ ∀ k:Nat,(V n).ep=(k:Int)+1->j<=g.bd k)/\
   (last=true->(V n).ep=(g.m:Int)+1/\(V g.o).role=3/\(V g.o).tg=n/\b=⟨1,(g.m:Int)+1,0,0,0,g.G++[aM]⟩/\good (g.G++[aM]))
 | .iN _ b _=>n=g.o/\(V n).role=2/\b={ V n with role:=3,rd:=0 }
 | .forget _ b=>(V n).role=3/\b=⟨0,(V n).ep,0,0,0,[]⟩/\(V n).ep<g.m
structure Qe (own:Nat->Nat) (t:Nat) (sv:List kH):Prop where
 each: ∀ s∈sv,∃ k:Nat,s.ep=k/\1<=k/\k<=t/\s.nd=own k
 two: ∀ i a b,sv[i]? =some a->sv[i+1]? =some b->b.ep=a.ep\/(b.ep=a.ep+1/\b.op=aM)
 last: ∀ s,sv.getLast?=some s->s.ep=t
 nil:sv=[]->t=1
structure Inv (g:Gh) (V:Nat->bK) (P:Nat->Option fM) (U:Nat->Bool) (Lt:iD->Prop) (pl:Pl) (sh:Nat->Int×Int) (sv:List kH):Prop where
 m1:1<=g.m
 QV: ∀ k,1<=k->k<=g.m->g.own k<5
 adj: ∀ k,1<=k->k<g.m->g.own k≠g.own (k+1)
 dir: ∃ d:Nat,pl=⟨g.own d,d⟩/\1<=d/\(d=g.m\/d+1=g.m)
 zT:(V g.o).ep=g.m
 KG:(V g.o).evs=g.G
 arl:(V g.o).role=1\/(V g.o).role=2\/(V g.o).role=3
 Uz:(V g.o).role≠1->pl.epoch=g.m/\(V g.o).tg≠g.o/\0<=(V g.o).tg/\(V g.o).tg<5
 gd:good g.G
 uN: ∀ n,n<5->n≠g.o->Oth g n (V n)
 ge: ∀ k,1<=k->k<=g.m->(k:Int)<=(V (g.own k)).ep
 brk: ∀ k,1<=k->k<g.m->g.G[g.len k]? =some aM/\g.len k<g.bd (k+1)
 vE: ∀ l,Lt l->KF g V pl l
 tL: ∀ n,n<5-> ∀ p,P n=some p->U n=true/\He g V n p
 KH:(g.t=g.m/\sh g.o=((g.m:Int),(g.F:Int))/\g.F<=g.G.length)\/(g.t+1=g.m/\(sh g.o).1<g.m/\U g.o=false/\g.F+1=g.G.length/\g.G[g.F]? =some aM)
 upF:U g.o=true->g.F=g.G.length
 slF:(V g.o).role=3->g.F=g.G.length
 sho: ∀ n,n<5->n≠g.o->(sh n).1<g.m
 rps:rp dV sv=some (aH (g.G.take g.F)).1
 svs:Qe g.own g.t sv
section
variable {g:Gh} {V:Nat->bK} {P:Nat->Option fM} {U:Nat->Bool} {Lt:iD->Prop} {pl:Pl} {sh:Nat->Int×Int} {sv:List kH} {n:Nat} {l:iD} {b:bK}
theorem Inv.o5 (I:Inv g V P U Lt pl sh sv):g.o<5:=I.QV _ I.m1 (Nat.le_refl _)
theorem Inv.aak (I:Inv g V P U Lt pl sh sv) {k:Nat} (h:1<=k) (h1:k<=g.m):g.bd k<=g.G.length:=by
 unfold Gh.bd
 split
 ·exact Nat.le_refl _
 have:=(I.brk k h (by omega)).1;exact Nat.le_of_lt (List.getElem?_eq_some_iff.1 this).1
theorem Inv.LM (I:Inv g V P U Lt pl sh sv) {k:Nat} (h:1<=k) (h1:k<g.m):g.len k<g.G.length:=(List.getElem?_eq_some_iff.1 (I.brk k h h1).1).1
theorem Inv.who (I:Inv g V P U Lt pl sh sv) (hn:n<5) (h:serves (V n)):n=g.o:=by
 by_cases e:n=g.o
 ·exact e
 have:=I.uN n hn e;unfold serves at h
 rcases this with ⟨h1,_⟩ | ⟨k,h1,_⟩ | ⟨k,h1,_⟩<;>omega
theorem upd_same {α:Type} (f:Nat->α) (k:Nat) (v:α):upd f k v k=v:=if_pos rfl
theorem upd_ne {α:Type} {f:Nat->α} {k j:Nat} {v:α} (h:j≠k):upd f k v j=f j:=if_neg h
theorem aI {α:Type} {f:Nat->α} {k:Nat} {v:α} (h:f k=v):upd f k v=f:=by
 funext j
 unfold upd
 split
 ·rename_i e;rw [e,h]
 rfl
theorem Inv.yA {Lt':iD->Prop} (I:Inv g V P U Lt pl sh sv) (h: ∀ l,Lt' l->Lt l\/KF g V pl l):Inv g V P U Lt' pl sh sv:=
 { I with vE:=λl hl=>(h l hl).elim (I.vE l) id }
theorem Inv.ari {P':Nat->Option fM} (I:Inv g V P U Lt pl sh sv) (h: ∀ n p,n<5->P' n=some p->P n=some p\/(U n=true/\He g V n p)):Inv g V P' U Lt pl sh sv:=
 { I with tL:=λn hn p hp=>(h n p hn hp).elim (I.tL n hn p) id }
theorem Inv.down (I:Inv g V P U Lt pl sh sv) (n:Nat):Inv g V (upd P n none) (upd U n false) Lt pl sh sv:=
 { I with
  tL:=λk hk p hp=>by
   by_cases e:k=n
   ·subst e;rw [upd_same] at hp;cases hp
   rw [upd_ne e] at hp⊢;exact I.tL k hk p hp
  KH:=by
   rcases I.KH with h | ⟨h1,h2,h3,h4⟩
   ·exact .inl h
   refine .inr ⟨h1,h2,?_,h4⟩;by_cases e:g.o=n
   ·rw [e,upd_same]
   rw [upd_ne e];exact h3
  upF:=λh=>by
   by_cases e:g.o=n
   ·rw [e,upd_same] at h;cases h
   rw [upd_ne e] at h;exact I.upF h }
theorem Inv.up (I:Inv g V P U Lt pl sh sv) (n:Nat) (h:n=g.o->g.t=g.m/\g.F=g.G.length):Inv g V P (upd U n true) Lt pl sh sv:=
 { I with
  tL:=λk hk p hp=>by
   obtain ⟨h1,h2⟩:=I.tL k hk p hp;refine ⟨?_,h2⟩;by_cases e:k=n
   ·rw [e,upd_same]
   rw [upd_ne e];exact h1
  KH:=by
   by_cases e:g.o=n
   ·obtain ⟨h1,h2⟩:=h e.symm
    rcases I.KH with h | ⟨h3,_⟩
    ·exact .inl h
    omega
   rw [upd_ne e];exact I.KH
  upF:=λh'=>by
   by_cases e:g.o=n
   ·exact (h e.symm).2
   rw [upd_ne e] at h';exact I.upF h' }
theorem He.mono {V':Nat->bK} {p:fM} (h:He g V n p) (hv:V' n=V n) (ho:(V g.o).role=3->(V' g.o).role=3/\(V' g.o).tg=(V g.o).tg):He g V' n p:=by
 cases p with
 | serve q evs op num a=>unfold He at h⊢;rw [hv];exact h
 | begun q b=>unfold He at h⊢;rw [hv];exact h
 | got q b last=>
  unfold He at h⊢;rw [hv];refine ⟨h.1,h.2.1,λhl=>?_⟩;obtain ⟨h1,h2,h3,h4⟩:=h.2.2 hl;obtain ⟨h5,h6⟩:=ho h2;exact ⟨h1,h5,h6.trans h3,h4⟩
 | iN q b at_=>unfold He at h⊢;rw [hv];exact h
 | forget q b=>unfold He at h⊢;rw [hv];exact h
theorem KF.mono {V':Nat->bK} (h:KF g V pl l) (ho:(V g.o).role=3->(V' g.o).role=3/\(V' g.o).tg=(V g.o).tg):KF g V' pl l:=by
 obtain ⟨h1,h2,h3⟩:=h;refine ⟨h1,λhk=>?_,h3⟩;obtain ⟨k,a,b,c,d,e,f,i,j⟩:=h2 hk;refine ⟨k,a,b,c,d,e,f,i,λhl=>?_⟩
 rcases j hl with j | ⟨j1,j2,j3,j4⟩
 ·exact .inl j
 obtain ⟨h5,h6⟩:=ho j2;exact .inr ⟨j1,h5,h6.trans j3,j4⟩
theorem Inv.QW (I:Inv g V P U Lt pl sh sv) (hn:n<5) (hno:n≠g.o) (hp:P n=none) (hb:Oth g n b) (hge:(V n).ep<=b.ep):Inv g (upd V n b) P U Lt pl sh sv:=by
 have ho:upd V n b g.o=V g.o:=upd_ne (λe=>hno e.symm);exact { I with
  zT:=by rw [ho];exact I.zT
  KG:=by rw [ho];exact I.KG
  arl:=by rw [ho];exact I.arl
  Uz:=by rw [ho];exact I.Uz
  slF:=by rw [ho];exact I.slF
  uN:=λk hk hko=>by
   by_cases e:k=n
   ·subst e;rw [upd_same];exact hb
   rw [upd_ne e];exact I.uN k hk hko
  ge:=λk h1 h2=>by
   have:=I.ge k h1 h2;by_cases e:g.own k=n
   ·rw [e] at this⊢;rw [upd_same];omega
   rw [upd_ne e];exact this
  vE:=λl hl=>(I.vE l hl).mono λh=>by rw [ho];exact ⟨h,rfl⟩
  tL:=λk hk p hk'=>by
   obtain ⟨h1,h2⟩:=I.tL k hk p hk';refine ⟨h1,h2.mono (upd_ne λe=>?_) λh=>by rw [ho];exact ⟨h,rfl⟩⟩;subst e;rw [hp] at hk';cases hk' }
theorem Inv.aal (I:Inv g V P U Lt pl sh sv) (hp: ∀ p,P g.o=some p->He g (upd V g.o b) g.o p) (h1:b.ep=g.m) (h2:b.evs=g.G) (h3:b.role=1\/b.role=2\/b.role=3) (h4:b.role≠1->pl.epoch=g.m/\b.tg≠g.o/\0<=b.tg/\b.tg<5)
  (h5:(V g.o).role=3->b.role=3/\b.tg=(V g.o).tg) (h6:b.role=3->g.F=g.G.length):Inv g (upd V g.o b) P U Lt pl sh sv:=by
 have ho:upd V g.o b g.o=b:=upd_same _ _ _;exact { I with
  zT:=by rw [ho];exact h1
  KG:=by rw [ho];exact h2
  arl:=by rw [ho];exact h3
  Uz:=by rw [ho];exact h4
  slF:=by rw [ho];exact h6
  uN:=λk hk hko=>by rw [upd_ne hko];exact I.uN k hk hko
  ge:=λk j1 j2=>by
   have:=I.ge k j1 j2;by_cases e:g.own k=g.o
   ·rw [e] at this⊢;rw [ho,h1];rw [I.zT] at this;exact this
   rw [upd_ne e];exact this
  vE:=λl hl=>(I.vE l hl).mono λh=>by rw [ho];exact h5 h
  tL:=λk hk p hk'=>by
   obtain ⟨j1,j2⟩:=I.tL k hk p hk';refine ⟨j1,?_⟩;by_cases e:k=g.o
   ·subst e;exact hp p hk'
   exact j2.mono (upd_ne e) λh=>by rw [ho];exact h5 h }
theorem pO {l x:List Ev} {k:Nat} (h:k<=l.length):(l++x).take k=l.take k:=List.take_append_of_le_length h
theorem CQ {l x:List Ev} {a k:Nat} (h:a+k<=l.length):((l++x).drop a).take k=(l.drop a).take k:=by
 rw [List.drop_append_of_le_length (by omega),List.take_append_of_le_length (by rw [List.length_drop];omega)]
def Gh.app (g:Gh) (e:Ev):Gh:={ g with G:=g.G++[e] }
theorem Gh.ND {g:Gh} {e:Ev} {k:Nat} (h:g.bd k<=g.G.length):g.bd k<=(g.app e).bd k:=by
 unfold Gh.bd Gh.app at*;dsimp only
 split
 ·rw [List.length_append];omega
 exact Nat.le_refl _
theorem Inv.append {e:Ev} (I:Inv g V P U Lt pl sh sv) (hp:P g.o=none) (hu:U g.o=false) (hr:(V g.o).role≠3) (ht:g.t=g.m) (hg:good (g.G++[e])) (hb:b.ep=(V g.o).ep) (hb1:b.role=(V g.o).role) (hb2:b.tg=(V g.o).tg) (hb3:b.evs=g.G++[e]):
  Inv (g.app e) (upd V g.o b) P U Lt pl sh sv:=by
 have ho:upd V g.o b g.o=b:=upd_same _ _ _;have hoo:(g.app e).o=g.o:=rfl;have hle:=λk h1 h2=>I.aak (k:=k) h1 h2;have hF:g.F<=g.G.length:=by rcases I.KH with ⟨_,_,h⟩ | ⟨h,_⟩<;>omega
 refine ⟨I.m1,I.QV,I.adj,I.dir,?_,?_,?_,?_,hg,?_,?_,?_,?_,?_,?_,?_,?_,I.sho,?_,I.svs⟩
 ·rw [hoo,ho,hb];exact I.zT
 ·rw [hoo,ho,hb3];rfl
 ·rw [hoo,ho,hb1];exact I.arl
 ·rw [hoo,ho,hb1,hb2];exact I.Uz
 ·intro n hn hno;rw [hoo] at hno;rw [upd_ne hno]
  rcases I.uN n hn hno with h | ⟨k,h1,h2,h3,h4,h5,h6,h7⟩ | ⟨k,h1,h2,h3,h4,h5,h6,h7,h8⟩
  ·exact .inl h
  ·refine .inr (.inl ⟨k,h1,h2,h3,h4,h5,?_,h7⟩)
   show _=(g.G++[e]).take _
   have:=I.LM h3 h4;rw [h6];exact (pO (Nat.le_of_lt this)).symm
  refine .inr (.inr ⟨k,h1,h2,h3,h4,h5,?_,Nat.le_trans h7 (Gh.ND (hle k h3 h4)),h8⟩)
  show _=(g.G++[e]).take _
  have:=hle k h3 h4;rw [pO (by omega)];exact h6
 ·intro k h1 h2;have:=I.ge k h1 h2;by_cases e:g.own k=g.o
  ·show (k:Int)<=(upd V g.o b (g.own k)).ep
   rw [e] at this⊢;rw [ho,hb];exact this
  show (k:Int)<=(upd V g.o b (g.own k)).ep
  rw [upd_ne e];exact this
 ·intro k h1 h2;obtain ⟨h3,h4⟩:=I.brk k h1 h2;refine ⟨?_,Nat.lt_of_lt_of_le h4 (Gh.ND (hle (k+1) (by omega) h2))⟩
  show (g.G++[e])[g.len k]? =_
  rw [List.getElem?_append_left (I.LM h1 h2)];exact h3
 ·intro l hl;obtain ⟨h1,h2,h3⟩:=I.vE l hl;refine ⟨h1,λhk=>?_,h3⟩;obtain ⟨k,a,b',c,d,e',f,i,j⟩:=h2 hk;have hbd:=hle k b' c;refine ⟨k,a,b',c,d,e',?_,Nat.le_trans i (Gh.ND hbd),λhlast=>?_⟩
  ·show _=((g.G++[e]).drop _).take _
   rw [CQ (by omega)];exact f
  rcases j hlast with j | ⟨_,j2,_⟩
  ·exact .inl j
  exact absurd j2 hr
 ·intro k hk p hk';obtain ⟨j1,j2⟩:=I.tL k hk p hk';refine ⟨j1,?_⟩;by_cases e':k=g.o
  ·subst e';rw [hp] at hk';cases hk'
  cases p with
  | serve q evs op num a=>exact absurd j2.1 e'
  | begun q b'=>unfold He at j2⊢;rw [upd_ne e'];exact j2
  | got q b' last=>
   unfold He at j2⊢;rw [upd_ne e'];refine ⟨j2.1,λhl=>?_,λhl=>?_⟩
   ·obtain ⟨j,a1,a2,a3⟩:=j2.2.1 hl
    rcases I.uN k hk e' with h | ⟨k',h,_⟩ | ⟨k',h,h1,h2,h3,_⟩
    ·omega
    ·omega
    have hj:=a3 k' h1;have hbd:=hle k' h2 h3;refine ⟨j,?_,a2,λk2 hk2=>?_⟩
    ·show _={ V k with evs:=(g.G++[e]).take j }
     rw [pO (by omega)];exact a1
    have:k2=k':=by omega
    subst this;exact Nat.le_trans hj (Gh.ND hbd)
   exact absurd (j2.2.2 hl).2.1 hr
  | iN q b' at_=>exact absurd j2.1 e'
  | forget q b'=>unfold He at j2⊢;rw [upd_ne e'];exact j2
 ·rcases I.KH with ⟨h1,h2,h3⟩ | ⟨h1,_⟩
  ·exact .inl ⟨h1,h2,by show g.F<=(g.G++[e]).length;rw [List.length_append];omega⟩
  omega
 ·intro h;rw [hoo,hu] at h;cases h
 ·intro h;rw [hoo,ho,hb1] at h;exact absurd h hr
 show rp dV sv=some (aH ((g.G++[e]).take g.F)).1
 rw [pO hF];exact I.rps
theorem Qe.app {own:Nat->Nat} {t:Nat} (ht:1<=t): ∀ {sv2 sv:List kH},Qe own t sv->(∀ s∈sv2,s.ep=t/\s.nd=own t)->Qe own t (sv++sv2)
 | [],sv,h,_=>by rw [List.append_nil];exact h
 | s::r,sv,h,h2=>by
  have hs:=h2 s (by simp);have h1:Qe own t (sv++[s]):=by
   refine ⟨λx hx=>?_,λi a b ha hb=>?_,λx hx=>?_,λhn=>by simp at hn⟩
   ·rcases List.mem_append.1 hx with hx | hx
    ·exact h.each x hx
    rw [List.mem_singleton] at hx;subst hx;exact ⟨t,hs.1,ht,Nat.le_refl _,hs.2⟩
   ·by_cases hi:i+1<sv.length
    ·rw [List.getElem?_append_left (by omega)] at ha;rw [List.getElem?_append_left hi] at hb;exact h.two i a b ha hb
    have hil:i+1< (sv++[s]).length:=(List.getElem?_eq_some_iff.1 hb).1;rw [List.length_append,List.length_singleton] at hil;rw [List.getElem?_append_left (by omega)] at ha;rw [List.getElem?_append_right (by omega),show i+1-sv.length=0 by omega] at hb
    cases hb;refine .inl ?_;rw [hs.1];refine (h.last a ?_).symm;rw [List.getLast?_eq_getElem?,show sv.length-1=i by omega];exact ha
   rw [List.getLast?_concat] at hx
   cases hx;exact hs.1
  have:=Qe.app ht (sv2:=r) h1 λx hx=>h2 x (by simp [hx]);rwa [List.append_assoc] at this
theorem Qe.brk {own:Nat->Nat} {t:Nat} {s:kH} (h:Qe own t sv) (dZ:s.ep=(t:Int)+1) (hnd:s.nd=own (t+1)) (hop:s.op=aM):Qe own (t+1) (sv++[s]):=by
 refine ⟨λx hx=>?_,λi a b ha hb=>?_,λx hx=>?_,λhn=>by simp at hn⟩
 ·rcases List.mem_append.1 hx with hx | hx
  ·obtain ⟨k,a,b,c,d⟩:=h.each x hx;exact ⟨k,a,b,by omega,d⟩
  rw [List.mem_singleton] at hx;subst hx;exact ⟨t+1,by rw [dZ];rfl,by omega,Nat.le_refl _,hnd⟩
 ·by_cases hi:i+1<sv.length
  ·rw [List.getElem?_append_left (by omega)] at ha;rw [List.getElem?_append_left hi] at hb;exact h.two i a b ha hb
  have hil:i+1< (sv++[s]).length:=(List.getElem?_eq_some_iff.1 hb).1;rw [List.length_append,List.length_singleton] at hil;rw [List.getElem?_append_left (by omega)] at ha;rw [List.getElem?_append_right (by omega),show i+1-sv.length=0 by omega] at hb
  cases hb;refine .inr ⟨?_,hop⟩;rw [dZ,h.last a (by rw [List.getLast?_eq_getElem?,show sv.length-1=i by omega];exact ha)]
 rw [List.getLast?_concat] at hx
 cases hx;rw [dZ];rfl
theorem Qe.own {own own':Nat->Nat} {t:Nat} (h:Qe own t sv) (he: ∀ k,k<=t->own' k=own k):Qe own' t sv:=
 ⟨λs hs=>by obtain ⟨k,a,b,c,d⟩:=h.each s hs;exact ⟨k,a,b,c,by rw [he k c];exact d⟩,h.two,h.last,h.nil⟩
def Gh.all (g:Gh):Gh:={ g with F:=g.G.length,t:=g.m }
theorem Inv.told (I:Inv g V P U Lt pl sh sv) (ht:g.t=g.m) {sv2:List kH} (hrp:rp dV (sv++sv2)=some (aH g.G).1) (he: ∀ s∈sv2,s.ep=g.m/\s.nd=g.o):Inv g.all V P U Lt pl (upd sh g.o ((g.m:Int),(g.G.length:Int))) (sv++sv2):=
 { I with
  KH:= .inl ⟨rfl,upd_same _ _ _,Nat.le_refl _⟩
  upF:=λ_=>rfl
  slF:=λ_=>rfl
  sho:=λn hn hno=>by
   have:n≠g.o:=hno;rw [upd_ne this];exact I.sho n hn hno
  rps:=by show rp _ _=some (aH (g.G.take g.G.length)).1;rw [List.take_length];exact hrp
  svs:=by
   have h:=I.svs;rw [ht] at h;exact Qe.app I.m1 h he }
theorem Inv.Yv (I:Inv g V P U Lt pl sh sv) (ht: ¬ g.t=g.m) {s:kH} (hop:s.op=aM) (ha:s.ans=eH) (dZ:s.ep=g.m) (hnd:s.nd=g.o):Inv g.all V P U Lt pl (upd sh g.o ((g.m:Int),(g.G.length:Int))) (sv++[s]):=by
 rcases I.KH with ⟨h,_⟩ | ⟨h1,h2,h3,h4,h5⟩
 ·exact absurd h ht
 have hF:g.F<g.G.length:=by omega
 have e:g.G=g.G.take g.F++[aM]:=by
  have:=oI hF;rw [h4,List.take_length] at this;have h6:g.G[g.F]=aM:=by
   have:=List.getElem?_eq_getElem hF;rw [h5] at this;exact (Option.some.inj this).symm
  rw [h6] at this;exact this
 have hgd:=I.gd;rw [e] at hgd;obtain ⟨s1,s2,s3⟩:=good_step hgd;exact { I with
  KH:= .inl ⟨rfl,upd_same _ _ _,Nat.le_refl _⟩
  upF:=λ_=>rfl
  slF:=λ_=>rfl
  sho:=λn hn hno=>by
   have:n≠g.o:=hno;rw [upd_ne this];exact I.sho n hn hno
  rps:=by
   show rp _ _=some (aH (g.G.take g.G.length)).1
   rw [List.take_length,Dv I.rps (by rw [hop];exact s1) (by rw [hop,ha];exact ac9 s2),hop,e,s3,<-e]
  svs:=by
   have h:=I.svs.brk (s:=s) (by rw [dZ,<-h1];rfl) (by rw [hnd,h1];rfl) hop;rw [h1] at h;exact h }
theorem Inv.aue (I:Inv g V P U Lt pl sh sv) {p':Pl} (h:p'=⟨g.own g.m,g.m⟩):Inv g V P U Lt p' sh sv:=by
 subst h;exact { I with
  dir:=⟨g.m,rfl,I.m1,.inl rfl⟩
  Uz:=λhr=>⟨rfl,(I.Uz hr).2⟩
  vE:=λl hl=>by
   obtain ⟨h1,h2,h3,h4⟩:=I.vE l hl;refine ⟨h1,h2,h3,λhk=>?_⟩;obtain ⟨k,a,b,c,d⟩:=h4 hk;refine ⟨k,a,b,?_,d⟩;obtain ⟨d',hd,_,hd2⟩:=I.dir;rw [hd] at c;dsimp only at c⊢;omega }
def Gh.act (g:Gh) (T:Nat):Gh:={ g with m:=g.m+1,own:=upd g.own (g.m+1) T,len:=upd g.len g.m g.G.length,G:=g.G++[aM] }
theorem Inv.activate {T:Nat} (I:Inv g V P U Lt pl sh sv) (hr:(V g.o).role=3) (qo:(V g.o).tg=T) (hp:P T=none) (hu:U T=false) (hg:good (g.G++[aM])) (hge:(V T).ep<=(g.m:Int)+1):
  Inv (g.act T) (upd V T ⟨1,(g.m:Int)+1,0,0,0,g.G++[aM]⟩) P U Lt pl sh sv:=by
 obtain ⟨ha1,ha2,ha3,ha4⟩:=I.Uz (by omega);rw [qo] at ha2 ha4;have hT5:T<5:=by omega
 have hTo:T≠g.o:=by omega
 have hF:=I.slF hr;have htm:g.t=g.m/\sh g.o=((g.m:Int),(g.F:Int)):=by
  rcases I.KH with h | ⟨_,_,_,h,_⟩
  ·exact ⟨h.1,h.2.1⟩
  omega
 have hno:(g.act T).o=T:=upd_same _ _ _;have hown: ∀ k,k<=g.m->(g.act T).own k=g.own k:=λk hk=>upd_ne (by omega);have LP:(g.act T).own (g.m+1)=T:=upd_same _ _ _;have hm:(g.act T).m=g.m+1:=rfl;have hG:(g.act T).G=g.G++[aM]:=rfl;have hlen: ∀ k,k<g.m->(g.act T).len k=g.len k:=λk hk=>upd_ne (by omega);have hbd: ∀ k,k<=g.m->(g.act T).bd k=g.bd k:=λk hk=>by
  unfold Gh.bd;rw [if_neg (by rw [hm];omega)];by_cases e:k=g.m
  ·rw [if_pos e];subst e;exact upd_same _ _ _
  rw [if_neg e];exact hlen k (by omega)
 have hvT:upd V T (⟨1,(g.m:Int)+1,0,0,0,g.G++[aM]⟩:bK) (g.act T).o=⟨1,(g.m:Int)+1,0,0,0,g.G++[aM]⟩:=by rw [hno];exact upd_same _ _ _
 have hle:=λk h1 h2=>I.aak (k:=k) h1 h2;refine ⟨by rw [hm];omega,?_,?_,?_,by rw [hvT,hm];rfl,by rw [hvT,hG],by rw [hvT];exact .inl rfl,λh=>by rw [hvT] at h;exact absurd rfl h,by rw [hG];exact hg,?_,?_,?_,?_,?_,?_,?_,λh=>by rw [hvT] at h;exact absurd h (by simp),?_,?_,?_⟩
 ·intro k h1 h2;rw [hm] at h2;by_cases e:k=g.m+1
  ·rw [e,LP];exact hT5
  rw [hown k (by omega)];exact I.QV k h1 (by omega)
 ·intro k h1 h2;rw [hm] at h2;by_cases e:k=g.m
  ·rw [hown k (by omega),e,LP];exact λh=>hTo h.symm
  rw [hown k (by omega),hown (k+1) (by omega)];exact I.adj k h1 (by omega)
 ·obtain ⟨d,h1,h2,h3⟩:=I.dir;have:d=g.m:=by rw [h1] at ha1;dsimp only at ha1;omega
  refine ⟨d,?_,h2,.inr (by rw [hm,this])⟩;rw [h1,hown d (by omega)]
 ·intro n hn hn2;rw [hno] at hn2;rw [upd_ne hn2];by_cases e:n=g.o
  ·subst e;refine .inr (.inl ⟨g.m,hr,I.zT,I.m1,by rw [hm];omega,hown _ (Nat.le_refl _),?_,?_⟩)
   ·rw [hG,show (g.act T).len g.m=g.G.length from upd_same _ _ _,List.take_left];exact I.KG
   rw [LP];exact qo
  rcases I.uN n hn e with h | ⟨k,h1,h2,h3,h4,h5,h6,h7⟩ | ⟨k,h1,h2,h3,h4,h5,h6,h7,h8⟩
  ·exact .inl ⟨h.1,h.2.1,by rw [hm];have:=h.2.2;omega⟩
  ·refine .inr (.inl ⟨k,h1,h2,h3,by rw [hm];omega,by rw [hown k (by omega)];exact h5,?_,by rw [hown (k+1) (by omega)];exact h7⟩);rw [hlen k h4,hG,pO (Nat.le_of_lt (I.LM h3 h4))];exact h6
  refine .inr (.inr ⟨k,h1,h2,h3,by rw [hm];omega,by rw [hown k h4];exact h5,?_,by rw [hbd k h4];exact h7,λhk=>?_⟩)
  ·have:=hle k h3 h4;rw [hG,pO (by omega)];exact h6
  by_cases e2:k=g.m
  ·rw [e2,LP];exact λh=>hn2 h.symm
  rw [hown (k+1) (by omega)];exact h8 (by omega)
 ·intro k h1 h2;rw [hm] at h2;by_cases e:k=g.m+1
  ·rw [e,LP,upd_same];dsimp only;omega
  rw [hown k (by omega)];have:=I.ge k h1 (by omega);by_cases e2:g.own k=T
  ·rw [e2,upd_same];dsimp only;omega
  rw [upd_ne e2];exact this
 ·intro k h1 h2;rw [hm] at h2;by_cases e:k=g.m
  ·subst e;rw [show (g.act T).len g.m=g.G.length from upd_same _ _ _,hG];refine ⟨by rw [List.getElem?_append_right (Nat.le_refl _),Nat.sub_self];rfl,?_⟩;unfold Gh.bd;rw [if_pos hm.symm,hG,List.length_append];exact Nat.lt_succ_self _
  obtain ⟨h3,h4⟩:=I.brk k h1 (by omega);rw [hlen k (by omega),hbd (k+1) (by omega),hG,List.getElem?_append_left (I.LM h1 (by omega))];exact ⟨h3,h4⟩
 ·intro l hl;obtain ⟨h1,h2,h3,h4⟩:=I.vE l hl;refine ⟨λhk=>?_,λhk=>?_,λhk hd=>?_,λhk=>?_⟩
  ·obtain ⟨k,a,b,c,d⟩:=h1 hk;exact ⟨k,a,b,by rw [hm];omega,by rw [hown k c];exact d⟩
  ·obtain ⟨k,a,b,c,d,e,f,i,j⟩:=h2 hk;have:=hle k b c;refine ⟨k,a,b,by rw [hm];omega,by rw [hown k c];exact d,e,by rw [hG,CQ (by omega)];exact f,by rw [hbd k c];exact i,λhlast=> .inl ?_⟩
   rcases j hlast with ⟨j1,j2⟩ | ⟨j1,j2,j3,j4⟩
   ·exact ⟨by rw [hm];omega,by rw [hown (k+1) (by omega)];exact j2⟩
   subst j1;exact ⟨by rw [hm];omega,by rw [LP,<-qo];exact j3⟩
  ·obtain ⟨k,a,b,c,d⟩:=h3 hk hd;exact ⟨k,a,b,by rw [hm];omega,by rw [hown (k+1) (by omega)];exact d⟩
  obtain ⟨k,a,b,c,d⟩:=h4 hk;exact ⟨k,a,b,c,by rw [hown k (by omega)];exact d⟩
 ·intro n hn p hp';have hnT:n≠T:=λe=>by subst e;rw [hp] at hp';cases hp'
  obtain ⟨j1,j2⟩:=I.tL n hn p hp';refine ⟨j1,?_⟩
  cases p with
  | serve q evs op num a=>
   obtain ⟨k1,k2,_⟩:=j2;subst k1;unfold serves at k2;omega
  | begun q b=>
   unfold He at j2⊢;obtain ⟨k,k1,k2,k3,k4⟩:=j2;rw [upd_ne hnT];exact ⟨k,by rw [hown k k3];exact k1,k2,by rw [hm];omega,k4⟩
  | got q b last=>
   unfold He at j2⊢;rw [upd_ne hnT];refine ⟨j2.1,λhl=>?_,λhl=>?_⟩
   ·obtain ⟨j,a1,a2,a3⟩:=j2.2.1 hl
    rcases I.uN n hn (λe=>by subst e;omega) with h | ⟨k',h,_⟩ | ⟨k',h,h1,h2,h3,_⟩
    ·omega
    ·omega
    have hj:=a3 k' h1;have:=hle k' h2 h3;refine ⟨j,by rw [hG,pO (by omega)];exact a1,a2,λk2 hk2=>?_⟩;have:k2=k':=by omega
    subst this;rw [hbd k2 h3];exact hj
   have:=(j2.2.2 hl).2.2.1;omega
  | iN q b at_=>
   obtain ⟨k1,k2,_⟩:=j2;subst k1;omega
  | forget q b=>
   unfold He at j2⊢;rw [upd_ne hnT];exact ⟨j2.1,j2.2.1,by rw [hm];have:=j2.2.2;omega⟩
 ·refine .inr ⟨by show g.t+1=g.m+1;omega,?_,?_,?_,?_⟩
  ·rw [hno,hm];have:=I.sho T hT5 hTo;omega
  ·rw [hno];exact hu
  ·show g.F+1=(g.G++[aM]).length;rw [List.length_append,hF];rfl
  show (g.G++[aM])[g.F]? =_
  rw [hF,List.getElem?_append_right (Nat.le_refl _),Nat.sub_self];rfl
 ·intro h;rw [hno,hu] at h;cases h
 ·intro n hn hn2;rw [hno] at hn2;rw [hm];by_cases e:n=g.o
  ·subst e;rw [htm.2];dsimp only;omega
  have:=I.sho n hn e;omega
 ·show rp dV sv=some (aH ((g.G++[aM]).take g.F)).1
  rw [pO (by omega)];exact I.rps
 exact I.svs.own λk hk=>hown k (by show k<=g.m;have:k<=g.t:=hk;omega)
end
def jO (b:bK):bK:=if b.role=2 then ⟨1,b.ep,0,0,0,b.evs⟩ else b
def vB (f:Nat->bK):List bK:=[f 0,f 1,f 2,f 3]
section
variable {f:Nat->bK} {q:Nat} {b:bK} {rs:List dB} {r:dB}
theorem adf (hq:q<4):II (vB f) (q:Int)=f q:=by
 have h:q=0\/q=1\/q=2\/q=3:=by omega
 rcases h with rfl | rfl | rfl | rfl<;>rfl
theorem UA (hq:q<4):(vB f).set q b=vB (upd f q b):=by
 have h:q=0\/q=1\/q=2\/q=3:=by omega
 rcases h with rfl | rfl | rfl | rfl<;>rfl
theorem zU {f':Nat->bK} (h: ∀ q,q<4->f q=f' q):vB f=vB f':=by unfold vB;rw [h 0 (by omega),h 1 (by omega),h 2 (by omega),h 3 (by omega)]
def iH (rs:List dB) (f:Nat->bK):Prop:=(∀ r∈rs,aL r=0)/\(allM rs).1=some (vB f)
theorem KI: ∀ (a:List dB) (i:Nat) (T T':List bK),(nH a i T).1=some T'->nH (a++[r]) i T=nH [r] (i+a.length) T'
 | [],i,T,T',h=>by
  rw [nH] at h
  cases h;rfl
 | x::a,i,T,T',h=>by
  rw [List.cons_append,nH];rw [nH] at h
  split at h
  ·cases h
  rename_i h1
  rw [if_neg h1]
  split at h
  ·cases h
  rename_i h2
  rw [if_neg h2,KI a (i+1) _ T' h,List.length_cons,show i+1+a.length=i+(a.length+1) by omega]
theorem iH.nil:iH [] λ_=>bG:=⟨λr h=>by simp at h,rfl⟩
theorem iH.snoc (h:iH rs f) (hr:aL r=0) (hq:q<4) (hrq:r.queue=q) (ha:dR (f q) r=(b,0)):iH (rs++[r]) (upd f q b):=by
 refine ⟨λx hx=>?_,?_⟩
 ·rcases List.mem_append.1 hx with hx | hx
  ·exact h.1 x hx
  rw [List.mem_singleton] at hx;subst hx;exact hr
 have h2:=h.2;unfold allM at h2⊢;rw [KI _ _ _ _ h2,nH,hrq,adf hq,if_neg (by simpa using hr),if_neg (by rw [ha];simp),ha,show ((q:Int)).toNat=q from rfl,UA hq,nH]
theorem iH.congr {f':Nat->bK} (h:iH rs f) (he: ∀ q,q<4->f q=f' q):iH rs f':=⟨h.1,by rw [h.2,zU he]⟩
theorem iH.read {t data:List UInt8} {syn:Int} (h:iH rs f) (hd:data=bJ rs++t) (ht:(firstM t).2=0) (hz:data.length<=100000) (h0:0<=syn) (h1:syn<=data.length):
  jD data syn=(bJ rs,min syn (bJ rs).length,0)/\Ck data syn=some (vB f)/\ ∀ q,q<4->bI data syn q=f q:=by
 have hm:cO data syn=true:=by simp [cO];omega
 have hrd:bQ data=(rs,(bJ rs).length):=by rw [hd];exact yg h.1 ht
 have hrep:jD data syn=(bJ rs,min syn (bJ rs).length,0):=by
  unfold jD;rw [if_pos hm,hrd,hd,List.take_left]
 have hl:(bJ rs).length<=data.length:=by rw [hd,List.length_append];omega
 have hrb:Ck data syn=some (vB f):=by
  unfold Ck;rw [hrep];unfold uh;rw [if_pos (by simp [cO];omega)];have:=yg (t:=[]) h.1 xG;rw [List.append_nil] at this;dsimp only;rw [this];exact h.2
 refine ⟨hrep,hrb,λq hq=>?_⟩;unfold bI;rw [hrb];exact adf hq
theorem fO (h:au b=0):bD b:=(dQ h).1
theorem jl (h:au b=0):good b.evs:=(dQ h).2
theorem ou (h:bD b) (hr:b.role≠0) (l:List Ev):bD ⟨b.role,b.ep,b.fr,b.tg,b.rd,l⟩:=h.elim (λh=>absurd h.1 hr) .inr
theorem Ba {ep:Int} (h:1<=ep) (h1:ep<=1048576) (l:List Ev):bD ⟨1,ep,0,0,0,l⟩:= .inr ⟨h,h1,.inl ⟨rfl,rfl,rfl,rfl⟩⟩
theorem xJ {k ep pe:Int} {e:Ev} (hk:1<=k/\k<=7) (hq:q<4) (dZ:0<=ep/\ep<=1048576) (hpe:0<=pe/\pe<=4) (he:if jX k=true then bq e=0 else e=aP):aL (fI k q ep pe e)=0:=by
 unfold aL fI;dsimp only;rw [if_neg (by simp [jU];omega),if_neg (by simp [jU];omega)];by_cases hh:jX k=true
 ·rw [if_pos hh] at he⊢;exact he
 rw [if_neg hh] at he⊢;rw [if_pos he]
theorem OT (hb:au b=0) (hr:b.role=0) (he:b.ep<1) (hq:q<4):iX b 1=(⟨1,1,0,0,0,[]⟩,0)/\dR b (fI 1 q 1 0 aP)=(⟨1,1,0,0,0,[]⟩,0):=by
 have hm:iX b 1=(⟨1,1,0,0,0,[]⟩,0):=by unfold iX;rw [if_neg (by simp [hb]),if_neg (by omega),if_neg (by simp [hr]),if_neg (by omega)]
 have ha:jW b (fI 1 q 1 0 aP)=(⟨1,1,0,0,0,[]⟩,0):=by unfold jW fI;simpa using hm
 exact ⟨hm,by rw [jR hb (xJ (by omega) hq (by omega) (by omega) (by decide)) (by simp [fI];omega) (by rw [ha]),ha]⟩
theorem RY {e:Ev} {ep:Int} (hb:au b=0) (hr:b.role=1) (dZ:b.ep=ep) (hq:q<4) (he:bq e=0) (hg:good (b.evs++[e])):dR b (fI 2 q ep 0 e)=({ b with evs:=b.evs++[e] },0)/\aL (fI 2 q ep 0 e)=0:=by
 subst dZ;have hs:=fO hb;unfold bD at hs;have hrec:aL (fI 2 q b.ep 0 e)=0:=xJ (by omega) hq (by omega) (by omega) (by simpa [jX] using he);have hok:au ⟨b.role,b.ep,b.fr,b.tg,b.rd,b.evs++[e]⟩=0:=l9 (ou (fO hb) (by omega) _) hg;have ha:jW b (fI 2 q b.ep 0 e)=({ b with evs:=b.evs++[e] },0):=by
  have h1:=ac4 (b:=b) (qu:=q) (e:=b.ep) (pe:=0) (x:=e);rw [if_neg (λh=>h ⟨hr,rfl⟩)] at h1;unfold Cj at h1;rw [if_neg (λh=>h hok)] at h1;exact h1
 exact ⟨by rw [jR hb hrec (by simp [fI];omega) (by rw [ha]),ha],hrec⟩
theorem aan {e:Ev} {ep:Int} (hb:au b=0) (hr:b.role=4) (dZ:b.ep=ep) (hq:q<4) (he:bq e=0) (hg:good (b.evs++[e])):dR b (fI 5 q ep 0 e)=({ b with evs:=b.evs++[e] },0)/\aL (fI 5 q ep 0 e)=0/\au { b with evs:=b.evs++[e] }=0:=by
 subst dZ;have hs:=fO hb;unfold bD at hs;have hrec:aL (fI 5 q b.ep 0 e)=0:=xJ (by omega) hq (by omega) (by omega) (by simpa [jX] using he);have hok:au ⟨b.role,b.ep,b.fr,b.tg,b.rd,b.evs++[e]⟩=0:=l9 (ou (fO hb) (by omega) _) hg;have ha:jW b (fI 5 q b.ep 0 e)=({ b with evs:=b.evs++[e] },0):=by
  have h1:=ac5 (b:=b) (qu:=q) (e:=b.ep) (pe:=0) (x:=e);rw [if_neg (λh=>h ⟨hr,rfl⟩)] at h1;unfold Cj at h1;rw [if_neg (λh=>h hok)] at h1;exact h1
 exact ⟨by rw [jR hb hrec (by simp [fI];omega) (by rw [ha]),ha],hrec,hok⟩
theorem aiT {ep tg:Int} (hb:au b=0) (hr:b.role=1) (dZ:b.ep=ep) (hq:q<4) (ht:0<=tg/\tg<=4):dR b (fI 3 q ep tg aP)=(⟨3,b.ep,0,tg,0,b.evs⟩,0)/\aL (fI 3 q ep tg aP)=0:=by
 subst dZ;have hs:=fO hb;unfold bD at hs;have hrec:aL (fI 3 q b.ep tg aP)=0:=xJ (by omega) hq (by omega) (by omega) (by decide);have ha:jW b (fI 3 q b.ep tg aP)=(⟨3,b.ep,0,tg,0,b.evs⟩,0):=by
  unfold jW fI Vl;have h1:b.fr=0:=by omega
  have h2:b.rd=0:=by omega
  simp [hr,h1,h2]
 exact ⟨by rw [jR hb hrec (by simp [fI];omega) (by rw [ha]),ha],hrec⟩
theorem aeL {ep fr:Int} (hb:au b=0) (hr:b.role=0\/b.role=4) (dZ:b.ep<ep) (h1:1<=ep/\ep<=1048576) (hq:q<4) (ht:0<=fr/\fr<=4):dR b (fI 4 q ep fr aP)=(⟨4,ep,fr,0,0,[]⟩,0)/\aL (fI 4 q ep fr aP)=0:=by
 have hrec:aL (fI 4 q ep fr aP)=0:=xJ (by omega) hq (by omega) (by omega) (by decide);have ha:jW b (fI 4 q ep fr aP)=(⟨4,ep,fr,0,0,[]⟩,0):=by
  unfold jW fI dz;rw [if_neg (by simp),if_pos rfl];dsimp only;rw [if_neg (by simp [hb]),if_neg (by omega),if_neg (by omega),if_neg (by omega),if_neg (by omega)]
 exact ⟨by rw [jR hb hrec (by simp [fI];omega) (by rw [ha]),ha],hrec⟩
theorem aoR {ep:Int} (hb:au b=0) (hr:b.role=4) (dZ:b.ep=ep) (hq:q<4) (hg:good (b.evs++[aM])):dR b (fI 6 q ep 0 aP)=(⟨1,b.ep,0,0,0,b.evs++[aM]⟩,0)/\aL (fI 6 q ep 0 aP)=0:=by
 subst dZ;have hs:=fO hb;unfold bD at hs;have hrec:aL (fI 6 q b.ep 0 aP)=0:=xJ (by omega) hq (by omega) (by omega) (by decide);have hok:au ⟨1,b.ep,0,0,0,b.evs++[aM]⟩=0:=l9 (Ba (by omega) (by omega) _) hg;have hi:dh b b.ep b.evs.length [] true=(⟨1,b.ep,0,0,0,b.evs++[aM]⟩,0):=by
  unfold dh;rw [if_neg (by simp [hb]),if_neg (by simp [hr]),if_neg (by simp),if_neg (by omega),if_neg (by simp),if_neg (by simp)];simp only [if_pos,List.drop_nil,List.append_nil];rw [if_neg (by simpa using hok)]
 have ha:jW b (fI 6 q b.ep 0 aP)=(⟨1,b.ep,0,0,0,b.evs++[aM]⟩,0):=by
  unfold jW fI;simp [hr,hi]
 exact ⟨by rw [jR hb hrec (by simp [fI];omega) (by rw [ha]),ha],hrec⟩
theorem aao {ep:Int} (hb:au b=0) (hr:b.role=3) (dZ:b.ep=ep) (hq:q<4):dR b (fI 7 q ep 0 aP)=(⟨0,b.ep,0,0,0,[]⟩,0)/\aL (fI 7 q ep 0 aP)=0:=by
 subst dZ;have hs:=fO hb;unfold bD at hs;have hrec:aL (fI 7 q b.ep 0 aP)=0:=xJ (by omega) hq (by omega) (by omega) (by decide);have ha:jW b (fI 7 q b.ep 0 aP)=(⟨0,b.ep,0,0,0,[]⟩,0):=by
  unfold jW fI gq;simp [hr,hb];omega
 exact ⟨by rw [jR hb hrec (by simp [fI];omega) (by rw [ha]),ha],hrec⟩
theorem uw (h:au b=0):au (jO b)=0:=by
 unfold jO
 split
 ·rename_i hr
  have hs:=fO h;unfold bD at hs;exact l9 (Ba (by omega) (by omega) _) (jl (b:=b) h)
 exact h
theorem UC:(jO b).ep=b.ep:=by unfold jO;split<;>rfl
theorem aiU:(jO b).evs=b.evs:=by unfold jO;split<;>rfl
theorem JN:(jO b).role≠2:=by unfold jO;split<;>first | assumption | simp
theorem Eh (h:b.role≠2):jO b=b:=if_neg h
theorem yB (h:serves b) (hb:au b=0):jO b=⟨1,b.ep,0,0,0,b.evs⟩:=by
 unfold jO
 split
 ·rfl
 have hs:=fO hb;unfold bD at hs;unfold serves at h;obtain ⟨ro,ep,fr,tg,rd,evs⟩:=b;dsimp only at*;simp only [bK.mk.injEq,and_true,true_and];omega
end
def fM.q:fM->Nat
 | .serve q .. =>q
 | .begun q _=>q
 | .got q .. =>q
 | .iN q .. =>q
 | .forget q _=>q
def fM.b (bs:Nat->bK):fM->bK
 | .serve q evs _ _ _=>{ bs q with evs:=evs }
 | .begun _ b=>b
 | .got _ b _=>b
 | .iN _ b _=>b
 | .forget _ b=>b
def fM.rs (bs:Nat->bK):fM->List dB
 | .serve q _ op _ _=>[fI 2 q (bs q).ep 0 op]
 | .begun q b=>[fI 4 q b.ep b.fr aP]
 | .got q b last=>uq q b (bs q).evs.length (b.evs.length-if last=true then 1 else 0) last
 | .iN q b _=>[fI 3 q b.ep b.tg aP]
 | .forget q _=>[fI 7 q (bs q).ep 0 aP]
def fM.ok (bs:Nat->bK):fM->Prop
 | .serve q evs op _ _=>serves (bs q)/\evs=(bs q).evs++[op]/\bq op=0/\good evs
 | .begun q b=>((bs q).role=0\/(bs q).role=4)/\ ∃ e f,b=⟨4,e,f,0,0,[]⟩/\(bs q).ep<e/\1<=e/\e<=1048576/\0<=f/\f<=4
 | .got q b last=>(bs q).role=4/\good b.evs/\(∀ e∈b.evs,bq e=0)/\(last=false->b={ bs q with evs:=b.evs }/\(bs q).evs=b.evs.take (bs q).evs.length)/\
   (last=true-> ∃ es,b=⟨1,(bs q).ep,0,0,0,es++[aM]⟩/\(bs q).evs=es.take (bs q).evs.length)
 | .iN q b _=>(bs q).role=2/\b={ bs q with role:=3,rd:=0 }
 | .forget q b=>(bs q).role=3/\b=⟨0,(bs q).ep,0,0,0,[]⟩
def iD.ok (l:iD):Prop:=l.q<4/\l.evs.length<=2000/\(l.kd=0\/l.kd=2\/l.kd=3\/l.kd=4\/l.kd=6)
theorem Hf {b:bK} {hv:Int} (h:au b=0) (h2:(bP b hv).2=0):au (bP b hv).1=0:=by
 have hb:=dQ h;have hs:=hb.1;unfold bD at hs;unfold bP at h2⊢;rw [if_neg (λe=>e h)] at h2⊢;by_cases c1:b.role≠2/\b.role≠3
 ·rw [if_pos c1] at h2;exact absurd h2 (by decide)
 rw [if_neg c1] at h2⊢;by_cases c2: ¬ (0<=hv/\hv<=b.evs.length)
 ·rw [if_pos c2] at h2;exact absurd h2 (by decide)
 rw [if_neg c2] at h2⊢;by_cases c3:b.role=3
 ·rw [if_pos c3];exact h
 rw [if_neg c3];have key: ∀ r d,bD ⟨r,b.ep,b.fr,b.tg,d,b.evs⟩->au ⟨r,b.ep,b.fr,b.tg,d,b.evs⟩=0:=λr d h=>l9 h hb.2;by_cases c4:hv=b.evs.length\/b.rd=4
 ·rw [if_pos c4];refine key 3 0 ?_;clear h2 key h hb;unfold bD;dsimp only;omega
 rw [if_neg c4];have hr:b.role=2:=by clear h2 key h hb c2 c4;omega
 have hd: ¬ b.rd=4:=λe=>c4 (.inr e);rw [hr] at hs;have hs2:1<=b.ep/\b.ep<=1048576/\b.fr=0/\0<=b.tg/\b.tg<5/\0<=b.rd/\b.rd<=4:=by clear h2 key h hb c1 c2 c3 c4;omega
 refine key b.role (b.rd+1) (.inr ⟨hs2.1,hs2.2.1,.inr (.inl ⟨hr,hs2.2.2.1,hs2.2.2.2.1,hs2.2.2.2.2.1,?_,?_⟩)⟩)
 ·show 0<=b.rd+1
  have:=hs2.2.2.2.2.2;clear h2 key h hb c1 c2 c3 c4 hs;omega
 show b.rd+1<=4
 have:=hs2.2.2.2.2.2;clear h2 key h hb c1 c2 c3 c4 hs;omega
structure Cm (m m':Cl) (n:Nat):Prop where
 uN: ∀ j,j≠n->m'.ah j=m.ah j
 up:(m'.ah n).up=(m.ah n).up
 mK:(m'.ah n).inbox=(m.ah n).inbox
 RZ:(m'.ah n).turn=(m.ah n).turn
 nu:(∀ q,q<4->au ((m.ah n).bs q)=0)-> ∀ q,q<4->au ((m'.ah n).bs q)=0
 fly:m'.fly.length<=m.fly.length+1
 aV:m'.aV.length<=m.aV.length+1
section
variable {m m':Cl} {n:Nat} {l:iD}
theorem zV (h:m'.ah=m.ah) (h1:m'.fly.length<=m.fly.length+1) (h2:m'.aV.length<=m.aV.length+1):Cm m m' n:=
 ⟨λj _=>by rw [h],by rw [h],by rw [h],by rw [h],λhb=>by rw [h];exact hb,h1,h2⟩
theorem pQ:Cm m m n:=zV rfl (Nat.le_succ _) (Nat.le_succ _)
theorem Dw {X:Nd} (h:m'.ah=upd m.ah n X) (h0:X.up=(m.ah n).up) (h3:X.inbox=(m.ah n).inbox) (h4:X.turn=(m.ah n).turn) (h5:(∀ q,q<4->au ((m.ah n).bs q)=0)-> ∀ q,q<4->au (X.bs q)=0) (h1:m'.fly.length<=m.fly.length+1) (h2:m'.aV.length<=m.aV.length+1):Cm m m' n:=by
 have e:m'.ah n=X:=by rw [h];exact if_pos rfl
 exact ⟨λj hj=>by rw [h];exact if_neg hj,by rw [e,h0],by rw [e,h3],by rw [e,h4],λhb=>by rw [e];exact h5 hb,h1,h2⟩
theorem R4 {q:Nat} {op:Ev} {num:Int} {a:iZ}:Cm m (m.done n q op num a) n:=by
 unfold Cl.done
 split
 ·exact zV rfl (by simp [Cl.send,Cl.tell]) (by simp [Cl.send,Cl.tell])
 exact zV rfl (by simp [Cl.send]) (by simp [Cl.send])
theorem R6 {q:Nat}:Cm m (m.have_ n q) n:=zV rfl (by simp [Cl.have_,Cl.send]) (by simp [Cl.have_,Cl.send])
theorem aeM {q:Nat} {a:Int}:Cm m (m.part n q a) n:=by
 unfold Cl.part
 split
 ·exact pQ
 exact zV rfl (by simp [Cl.send]) (by simp [Cl.send])
theorem NH {X x:Nd} {rs:List dB} (h:X.write rs=some x):x.up=X.up/\x.inbox=X.inbox/\x.turn=X.turn/\x.bs=X.bs:=by
 unfold Nd.write at h;rw [Option.map_eq_some_iff] at h;obtain ⟨d,_,rfl⟩:=h;exact ⟨rfl,rfl,rfl,rfl⟩
theorem Ei {x:Nd} {p:fM} {rs:List dB} (h:(m.ah n).write rs=some x):Cm m (m.put n { x with pend:=some p }) n:=by
 obtain ⟨h1,h2,h3,h4⟩:=NH h;exact Dw rfl h1 h2 h3 (λhb q hq=>by show au (x.bs q)=0;rw [h4];exact hb q hq) (Nat.le_succ _) (Nat.le_succ _)
theorem Cm.aoS {m2:Cl} (h:Cm m m2 n) (h1:m2.fly.length<=m.fly.length) (h2:m2.aV.length<=m.aV.length) (h3:Cm m2 m' n):Cm m m' n:=
 ⟨λj hj=>(h3.uN j hj).trans (h.uN j hj),h3.up.trans h.up,h3.mK.trans h.mK,h3.RZ.trans h.RZ,λhb=>h3.nu (h.nu hb),by have:=h3.fly;omega,by have:=h3.aV;omega⟩
theorem yC (hq:l.q<4):Cm m (m.handle n l) n:=by
 unfold Cl.handle
 split
 ·unfold Cl.serve
  split
  ·exact R4
  split
  ·exact R4
  exact Ei (by assumption)
 split
 ·unfold Cl.offered
  split
  ·exact pQ
  split
  ·exact R6
  split
  ·exact pQ
  exact Ei (by assumption)
 split
 ·unfold Cl.caught
  split
  ·exact pQ
  split
  ·exact pQ
  rename_i h1 h2
  split
  ·refine Cm.aoS (m2:=m.aZ n l.q (bP ((m.ah n).bs l.q) l.at_).1) (Dw rfl rfl rfl rfl (λhb q hq'=>?_) (Nat.le_succ _) (Nat.le_succ _)) (Nat.le_refl _) (Nat.le_refl _) aeM
   show au (upd (m.ah n).bs l.q (bP ((m.ah n).bs l.q) l.at_).1 q)=0
   unfold upd
   split
   ·exact Hf (hb _ hq) (by omega)
   exact hb q hq'
  split
  ·exact pQ
  exact Ei (by assumption)
 split
 ·unfold Cl.got
  split
  ·exact pQ
  split
  ·exact R6
  split
  ·exact pQ
  split
  ·exact pQ
  exact Ei (by assumption)
 unfold Cl.learnt
 split
 ·exact Dw rfl rfl rfl rfl (λhb=>hb) (Nat.le_succ _) (Nat.le_succ _)
 split
 ·exact Dw rfl rfl rfl rfl (λhb=>hb) (Nat.le_succ _) (Nat.le_succ _)
 rename_i x h
 obtain ⟨h1,h2,h3,h4⟩:=NH h;exact Dw rfl h1 h2 h3 (λhb q hq=>by show au (x.bs q)=0;rw [h4];exact hb q hq) (Nat.le_succ _) (Nat.le_succ _)
end
end
section
open ChangeShapes WideShapes ChangeAt RowKit
structure LX where
 l:iD
 A:Option Addr
 c:Nat
def aeN (l:iD) (s:Value):List Value:=[iV l.kd,iV l.fr,iV l.tg,iV ((l.q:Nat):Int),iV l.ep,iV l.at_,iV l.nd,iV l.op.kind,iV l.op.producer,iV l.op.id,iV l.op.body,iV l.op.aO,iV l.op.hno,s,.bool l.last,iV l.num,
 iV l.bL.num,iV l.bL.ans.code,iV l.bL.ans.dZ,iV l.bL.ans.hno,iV l.bL.ans.body,iV l.bL.pl.node,iV l.bL.pl.epoch]
def LX.cells (x:LX):List Value:=aeN x.l (.slice x.A x.l.evs.length x.c)
def LX.row (x:LX):Array Value:=x.cells.toArray
def wE.cells (t:wE):List Value:=[iV t.num,iV t.ans.code,iV t.ans.dZ,iV t.ans.hno,iV t.ans.body,iV t.pl.node,iV t.pl.epoch]
def kH.cells (s:kH):List Value:=[iV ((s.nd:Nat):Int),iV ((s.q:Nat):Int),iV s.ep,iV s.op.kind,iV s.op.producer,iV s.op.id,iV s.op.body,iV s.op.aO,iV s.op.hno,iV s.ans.code,iV s.ans.dZ,iV s.ans.hno,iV s.ans.body,iV s.num]
theorem Dx (x:LX): ∀ u∈x.cells,u.oneCell'=true:=bX rfl
theorem aiV (l:List LX): ∀ u∈l.flatMap LX.cells,u.oneCell'=true:=by
 intro u hu;rw [List.mem_flatMap] at hu;obtain ⟨z,_,hz⟩:=hu;exact Dx z u hz
def dF (me:Nat) (up:Bool) (tv:Value) (syn:Int) (bv:Value) (H:Nat->Pl) (U:Nat->Bool) (iv pv:Value) (turn:Nat):Array Value:=
 #[iV ((me:Nat):Int),.bool up,tv,iV syn,bv,iV (H 0).node,iV (H 0).epoch,iV (H 1).node,iV (H 1).epoch,iV (H 2).node,iV (H 2).epoch,iV (H 3).node,iV (H 3).epoch,.bool (U 0),.bool (U 1),.bool (U 2),.bool (U 3),iv,pv,iV ((turn:Nat):Int)]
def Qf (p:Int×Int):List Value:=[iV p.1,iV p.2]
def Qg (sh:Nat->Nat->Int×Int) (n:Nat):List Value:=Qf (sh n 0)++(Qf (sh n 1)++(Qf (sh n 2)++Qf (sh n 3)))
def aiW (sh:Nat->Nat->Int×Int):List Value:=Qg sh 0++(Qg sh 1++(Qg sh 2++(Qg sh 3++Qg sh 4)))
def NI (nv:Value) (d:Dir) (fv:Value) (sh:Nat->Nat->Int×Int) (sv tv:Value) (calls:Nat):List Value:=
 nv::(d.cells++(fv::(aiW sh++[iV 0,.bool false,.bool false,.bool false,.bool false,.bool false,iV 0,iV 0,iV 0,iV 0,iV 0,iV 0,iV 0,iV 0,.slice none 0 0,sv,tv,iV ((calls:Nat):Int)])))
def kL (nv:Value) (d:Dir) (fv:Value) (sh:Nat->Nat->Int×Int) (sv tv:Value) (calls:Nat):Array Value:=(NI nv d fv sh sv tv calls).toArray
section
variable {me turn calls k:Nat} {up:Bool} {tv bv iv pv nv fv sv uv x:Value} {syn:Int} {H:Nat->Pl} {U:Nat->Bool} {d:Dir} {sh:Nat->Nat->Int×Int}
theorem zG:(kL nv d fv sh sv tv calls)[0]? =some nv:=rfl
theorem QX:(kL nv d fv sh sv tv calls)[9]? =some fv:=rfl
theorem auf:(kL nv d fv sh sv tv calls)[65]? =some sv:=rfl
theorem aug:(kL nv d fv sh sv tv calls)[66]? =some tv:=rfl
theorem akm:(kL nv d fv sh sv tv calls)[67]? =some (iV ((calls:Nat):Int)):=rfl
theorem H6 {nv' fv' sv' tv':Value} {d':Dir} {sh':Nat->Nat->Int×Int} {calls' o:Nat} {vs:List Value} (h:o+vs.length<=68) (he:(NI nv d fv sh sv tv calls).take o++vs++(NI nv d fv sh sv tv calls).drop (o+vs.length)=NI nv' d' fv' sh' sv' tv' calls'):
  cK (kL nv d fv sh sv tv calls) o vs=kL nv' d' fv' sh' sv' tv' calls':=Array.ext' (by rw [gU _ _ _ h];exact he)
theorem alL:cK (kL nv d fv sh sv tv calls) 9 [x]=kL nv d x sh sv tv calls:=H6 (Nat.le_of_ble_eq_true rfl) rfl
theorem auh:cK (kL nv d fv sh sv tv calls) 65 [x]=kL nv d fv sh x tv calls:=H6 (Nat.le_of_ble_eq_true rfl) rfl
theorem aui:cK (kL nv d fv sh sv tv calls) 66 [x]=kL nv d fv sh sv x calls:=H6 (Nat.le_of_ble_eq_true rfl) rfl
theorem auj {c':Nat}:cK (kL nv d fv sh sv tv calls) 67 [iV ((c':Nat):Int)]=kL nv d fv sh sv tv c':=H6 (Nat.le_of_ble_eq_true rfl) rfl
theorem alM {d':Dir}:cK (kL nv d fv sh sv tv calls) 1 d'.cells=kL nv d' fv sh sv tv calls:=H6 (Nat.le_of_ble_eq_true rfl) rfl
theorem xK: ∀ (j:Nat) (u:Value),d.cells[j]? =some u->(kL nv d fv sh sv tv calls)[1+j]? =some u:=by
 intro j u h;have hj:j<8:=(List.getElem?_eq_some_iff.1 h).1;have:j=0\/j=1\/j=2\/j=3\/j=4\/j=5\/j=6\/j=7:=by omega
 rcases this with rfl | rfl | rfl | rfl | rfl | rfl | rfl | rfl<;>exact h
theorem adg:(kL nv d fv sh sv tv calls).size=68:=rfl
theorem akn {n q:Nat} (hn:n<5) (hq:q<4) {a b:Int}:cK (kL nv d fv sh sv tv calls) (10+n*8+q*2) [iV a,iV b]=kL nv d fv (gX sh n q (a,b)) sv tv calls:=by
 have h1:n=0\/n=1\/n=2\/n=3\/n=4:=by omega
 have h2:q=0\/q=1\/q=2\/q=3:=by omega
 rcases h1 with rfl | rfl | rfl | rfl | rfl<;>rcases h2 with rfl | rfl | rfl | rfl<;>exact H6 (Nat.le_of_ble_eq_true rfl) rfl
theorem auk {n q:Nat} (hn:n<5) (hq:q<4): ∀ (j:Nat) (u:Value),(Qf (sh n q))[j]? =some u->(kL nv d fv sh sv tv calls)[10+n*8+q*2+j]? =some u:=by
 intro j u h;have hj:j<2:=(List.getElem?_eq_some_iff.1 h).1;have h0:j=0\/j=1:=by omega
 have h1:n=0\/n=1\/n=2\/n=3\/n=4:=by omega
 have h2:q=0\/q=1\/q=2\/q=3:=by omega
 rcases h1 with rfl | rfl | rfl | rfl | rfl<;>rcases h2 with rfl | rfl | rfl | rfl<;>rcases h0 with rfl | rfl<;>exact h
theorem Dy {q:Nat} (hq:q<4) {p:Pl}:cK (dF me up tv syn bv H U iv pv turn) (5+q*2) [iV p.node,iV p.epoch]=dF me up tv syn bv (upd H q p) U iv pv turn:=by
 have h2:q=0\/q=1\/q=2\/q=3:=by omega
 rcases h2 with rfl | rfl | rfl | rfl<;>rfl
theorem OU {q:Nat} (hq:q<4):(dF me up tv syn bv H U iv pv turn)[5+q*2]? =some (iV (H q).node)/\(dF me up tv syn bv H U iv pv turn)[5+q*2+1]? =some (iV (H q).epoch):=by
 have h2:q=0\/q=1\/q=2\/q=3:=by omega
 rcases h2 with rfl | rfl | rfl | rfl<;>exact ⟨rfl,rfl⟩
theorem Yw {q:Nat} (hq:q<4) {v:Bool}:cK (dF me up tv syn bv H U iv pv turn) (13+q*1) [.bool v]=dF me up tv syn bv H (upd U q v) iv pv turn:=by
 have h2:q=0\/q=1\/q=2\/q=3:=by omega
 rcases h2 with rfl | rfl | rfl | rfl<;>rfl
theorem aiX {q:Nat} (hq:q<4):(dF me up tv syn bv H U iv pv turn)[13+q*1]? =some (.bool (U q)):=by
 have h2:q=0\/q=1\/q=2\/q=3:=by omega
 rcases h2 with rfl | rfl | rfl | rfl<;>rfl
end
def Ro (L:List Fact) (s:Nat) (A:Option Addr) (n:Nat) (xs:List Value):Prop:= ∀ B w,(∀ f∈L,f.holds B w)->Rd w w.heap.size s A n xs
section
variable {L L':List Fact} {s n:Nat} {A:Option Addr} {xs:List Value} {B:Nat} {w w0:World} {fs:List Fact}
theorem Ro.mono (h:Ro L s A n xs) (hl: ∀ f∈L,f∈L'):Ro L' s A n xs:=λB w hw=>h B w λf hf=>hw f (hl f hf)
theorem Ro.rd (h:Ro L s A n xs) (S:St B w0 w fs) (hl: ∀ f∈L,f∈fs):Rd w w.heap.size s A n xs:=h B w λf hf=>S.has (hl f hf)
theorem Ro.none_:Ro L s none 0 []:=λ_ _ _=>Rd.none_
theorem Ro.cu (h:Fact.cu s A n xs∈L):Ro L s A n xs:=λ_ _ hw=>(hw _ h).1
theorem Ro.own {e:TypeId} {c:Nat} (h:Fact.own e s (.slice A n c) n xs∈L):Ro L s A n xs:=λ_ _ hw=>Rd.tq (hw _ h)
end
structure NX where
 bb:Nat
 tA:Option Addr
 tc:Nat
 bx:List BX
 iA:Option Addr
 ic:Nat
 ix:List LX
 pv:Value
structure CX where
 nx:Nat->NX
 fA:Option Addr
 fc:Nat
 fx:List LX
 sA:Option Addr
 sc:Nat
 tA:Option Addr
 tc:Nat
 nA:Option Addr
 nc:Nat
 L:List Fact
structure CK where
 wb:Nat
 nb:Nat->Nat
def gL (b:Nat):Value:= .pointer (some ⟨b,0,none⟩)
def aiY (n:Nat) (X:Nd) (x:NX):Array Value:=dF n X.up (.slice x.tA X.data.length x.tc) X.syn (.slice (some ⟨x.bb,0,none⟩) 4 4) X.hints X.sure (.slice x.iA x.ix.length x.ic) x.pv X.turn
def aul (R:CX) (m:Cl):Array Value:=kL (.slice R.nA 5 R.nc) m.off (.slice R.fA R.fx.length R.fc) m.shown (.slice R.sA m.aV.length R.sc) (.slice R.tA m.bL.length R.tc) m.calls
def CW (kn n:Nat) (X:Nd) (x:NX):List Fact:=
 [.blk kn (aiY n X x) 87,.own 43 6 (.slice (some ⟨x.bb,0,none⟩) 4 4) 4 (x.bx.flatMap BX.cells),.off 105 23 x.iA x.ix.length x.ic (x.ix.flatMap LX.cells)]
def jT (K:CK) (n:Nat) (X:Nd) (x:NX):List Fact:=CW (K.nb n) n X x
def CY (kw:Nat) (R:CX) (m:Cl):List Fact:=
 [.blk kw (aul R m) 79,.own 105 23 (.slice R.fA R.fx.length R.fc) R.fx.length (R.fx.flatMap LX.cells),.own 150 14 (.slice R.sA m.aV.length R.sc) m.aV.length (m.aV.flatMap kH.cells),.own 103 7 (.slice R.tA m.bL.length R.tc) m.bL.length (m.bL.flatMap wE.cells)]
def uy (K:CK) (R:CX) (m:Cl):List Fact:=CY K.wb R m
def lg (K:CK) (R:CX) (m:Cl) (n:Nat):List Fact:=((List.range 5).filter (· ≠n)).flatMap λj=>jT K j (m.ah j) (R.nx j)
def fV (K:CK) (R:CX) (m:Cl) (fs:List Fact) (n:Nat):List Fact:=fs++(lg K R m n++R.L)
def kP (K:CK) (R:CX) (m:Cl):List Fact:=uy K R m++(((List.range 5).flatMap λj=>jT K j (m.ah j) (R.nx j))++R.L)
def F7 (L:List Fact) (A:Option Addr) (c:Nat) (l:List Ev):Prop:=Ro L 6 A l.length (aN l)/\l.length<=c
def Qh (L:List Fact) (x:LX):Prop:=F7 L x.A x.c x.l.evs
def Bb (L:List Fact) (y:BX):Prop:=F7 L y.A y.c y.b.evs
theorem F7.mono {L L':List Fact} {A:Option Addr} {c:Nat} {l:List Ev} (h:F7 L A c l) (hl: ∀ f∈L,f∈L'):F7 L' A c l:=⟨h.1.mono hl,h.2⟩
def oQ (kn kw:Nat) (L:List Fact):Option fM->Value->Prop
 | none,v=>v= .nilFunc
 | some (.serve q evs op num a),v=> ∃ b1 b2 b3 b4 b5 b6 b7 y x,v= .func (.func 83) #[] #[gL b1,gL b2,gL b3,gL b4,gL b5]/\ .blk b1 (BX.cells y).toArray 43∈L/\y.b.evs=evs/\Bb L y/\ .blk b2 #[gL kn] 80∈L/\ .blk b3 #[.int .i64 ((q:Nat):Int)] 3∈L/\
   .blk b4 #[.func (.func 82) #[] #[gL b6,gL b2,gL b3,gL b7]] 176∈L/\ .blk b5 (iZ.cells a).toArray 101∈L/\ .blk b6 (LX.row x) 105∈L/\x.l.op=op/\x.l.num=num/\ .blk b7 #[gL kw] 69∈L
 | some (.begun q b),v=> ∃ b1 b2 b3 b4 y,v= .func (.func 86) #[] #[gL b1,gL b2,gL b3,gL b4]/\ .blk b1 (BX.cells y).toArray 43∈L/\y.b=b/\Bb L y/\ .blk b2 #[gL kn] 80∈L/\ .blk b3 #[.int .i64 ((q:Nat):Int)] 3∈L/\ .blk b4 #[gL kw] 69∈L
 | some (.got q b last),v=> ∃ b1 b2 b3 b4 b5 y x,v= .func (.func 91) #[] #[gL b1,gL b2,gL b3,gL b4,gL b5]/\ .blk b1 (BX.cells y).toArray 43∈L/\y.b=b/\Bb L y/\ .blk b2 #[gL kn] 80∈L/\ .blk b3 #[.int .i64 ((q:Nat):Int)] 3∈L/\
   .blk b4 (LX.row x) 105∈L/\x.l.last=last/\ .blk b5 #[gL kw] 69∈L
 | some (.iN q b at_),v=> ∃ b1 b2 b3 b4 b5 y x,v= .func (.func 89) #[] #[gL b1,gL b2,gL b3,gL b4,gL b5]/\ .blk b1 (BX.cells y).toArray 43∈L/\y.b=b/\Bb L y/\ .blk b2 #[gL kn] 80∈L/\ .blk b3 #[.int .i64 ((q:Nat):Int)] 3∈L/\
   .blk b4 #[gL kw] 69∈L/\ .blk b5 (LX.row x) 105∈L/\x.l.at_=at_
 | some (.forget q b),v=> ∃ b1 b2 b3 y,v= .func (.func 93) #[] #[gL b1,gL b2,gL b3]/\ .blk b1 (BX.cells y).toArray 43∈L/\y.b=b/\Bb L y/\ .blk b2 #[gL kn] 80∈L/\ .blk b3 #[.int .i64 ((q:Nat):Int)] 3∈L
def aza (K:CK) (L:List Fact) (n:Nat) (p:Option fM) (v:Value):Prop:=oQ (K.nb n) K.wb L p v
structure dN (K:CK) (L:List Fact) (n:Nat) (X:Nd) (x:NX):Prop where
 Qi:x.bx.map BX.b=vB X.bs
 R7: ∀ y∈x.bx,Bb L y
 xL:Ro L 1 x.tA X.data.length (byteCells X.data)
 ixm:x.ix.map LX.l=X.inbox
 ixo: ∀ y∈x.ix,Qh L y
 tL:aza K L n X.pend x.pv
structure Good (K:CK) (R:CX) (m:Cl) (H:List LX):Prop where
 fly:R.fx.map LX.l=m.fly
 flo: ∀ x∈R.fx,Qh R.L x
 kW: ∀ n,n<5->dN K R.L n (m.ah n) (R.nx n)
 arr:Ro R.L 1 R.nA 5 ((List.range 5).map λj=>gL (K.nb j))
 hld: ∀ x∈H,Qh R.L x
def Wd (K:CK) (B:Nat) (w0 w:World) (fs:List Fact) (m:Cl) (H:List LX):Prop:= ∃ R,Good K R m H/\St B w0 w (fs++kP K R m)
section
variable {K:CK} {B n:Nat} {w0 w w':World} {fs N:List Fact} {m m':Cl} {H H':List LX} {R R':CX}
theorem oQ.mono {kn kw:Nat} {L L':List Fact} {p:Option fM} {v:Value} (h:oQ kn kw L p v) (hl: ∀ f∈L,f∈L'):oQ kn kw L' p v:=by
 match p,h with
 | none,h=>exact h
 | some (.serve q evs op num a),⟨b1,b2,b3,b4,b5,b6,b7,y,x,h1,h2,h3,h4,h5,h6,h7,h8,h9,h10,h11,h12⟩=>
  exact ⟨b1,b2,b3,b4,b5,b6,b7,y,x,h1,hl _ h2,h3,F7.mono h4 hl,hl _ h5,hl _ h6,hl _ h7,hl _ h8,hl _ h9,h10,h11,hl _ h12⟩
 | some (.begun q b),⟨b1,b2,b3,b4,y,h1,h2,h3,h4,h5,h6,h7⟩=>exact ⟨b1,b2,b3,b4,y,h1,hl _ h2,h3,F7.mono h4 hl,hl _ h5,hl _ h6,hl _ h7⟩
 | some (.got q b last),⟨b1,b2,b3,b4,b5,y,x,h1,h2,h3,h4,h5,h6,h7,h8,h9⟩=>exact ⟨b1,b2,b3,b4,b5,y,x,h1,hl _ h2,h3,F7.mono h4 hl,hl _ h5,hl _ h6,hl _ h7,h8,hl _ h9⟩
 | some (.iN q b at_),⟨b1,b2,b3,b4,b5,y,x,h1,h2,h3,h4,h5,h6,h7,h8,h9⟩=>exact ⟨b1,b2,b3,b4,b5,y,x,h1,hl _ h2,h3,F7.mono h4 hl,hl _ h5,hl _ h6,hl _ h7,hl _ h8,h9⟩
 | some (.forget q b),⟨b1,b2,b3,y,h1,h2,h3,h4,h5,h6⟩=>exact ⟨b1,b2,b3,y,h1,hl _ h2,h3,F7.mono h4 hl,hl _ h5,hl _ h6⟩
theorem dN.mono {L L':List Fact} {X:Nd} {x:NX} (h:dN K L n X x) (hl: ∀ f∈L,f∈L'):dN K L' n X x:=
 ⟨h.Qi,λy hy=>(h.R7 y hy).mono hl,h.xL.mono hl,h.ixm,λy hy=>(h.ixo y hy).mono hl,oQ.mono h.tL hl⟩
theorem uO {α:Type} (f:Nat->List α) (hn:n<5):((List.range 5).flatMap f).Perm (f n++((List.range 5).filter (· ≠n)).flatMap f):=by
 have h:n=0\/n=1\/n=2\/n=3\/n=4:=by omega
 have key: ∀ l:List Nat,(List.range 5).Perm (n::l)->((List.range 5).flatMap f).Perm (f n++l.flatMap f):=λl hl=>by
  have:=hl.flatMap_right f;rwa [List.flatMap_cons] at this
 refine key _ ?_
 rcases h with rfl | rfl | rfl | rfl | rfl<;>decide
open Classical in
theorem Wd.open (h:Wd K B w0 w fs m H) (hn:n<5): ∃ R,Good K R m H/\St B w0 w (jT K n (m.ah n) (R.nx n)++(uy K R m++fV K R m fs n)):=by
 obtain ⟨R,hG,S⟩:=h;refine ⟨R,hG,S.perm (List.perm_iff_count.2 λa=>?_)⟩;have h1:=List.perm_iff_count.1 (uO (λj=>jT K j (m.ah j) (R.nx j)) hn) a;unfold kP fV lg;simp only [List.count_append] at h1⊢;omega
theorem aar (hs: ∀ j,j<5->j≠n->m'.ah j=m.ah j/\R'.nx j=R.nx j):lg K R' m' n=lg K R m n:=by
 unfold lg;rw [List.flatMap_def,List.flatMap_def]
 congr 1
 refine List.map_congr_left λj hj=>?_;rw [List.mem_filter,List.mem_range] at hj;obtain ⟨h1,h2⟩:=hs j hj.1 (by simpa using hj.2);rw [h1,h2]
open Classical in
theorem Wd.close {Ls:List Fact} (G:Good K R' m' H') (S:St B w0 w' (jT K n (m'.ah n) (R'.nx n)++(uy K R' m'++(Ls++(fV K R m fs n++N))))) (hn:n<5) (hL:R'.L=R.L++(N++Ls)) (hs: ∀ j,j<5->j≠n->m'.ah j=m.ah j/\R'.nx j=R.nx j):Wd K B w0 w' fs m' H':=by
 refine ⟨R',G,S.perm (List.perm_iff_count.2 λa=>?_)⟩;have h1:=List.perm_iff_count.1 (uO (λj=>jT K j (m'.ah j) (R'.nx j)) hn) a;unfold fV kP;rw [hL,<-aar hs];unfold lg;simp only [List.count_append] at h1⊢;omega
theorem memT {L gs fs:List Fact} (k:Nat) (h:gs.drop k=fs) (hL: ∀ f∈L,f∈fs): ∀ f∈L,f∈gs:=λf hf=>List.mem_of_mem_drop (h▸hL f hf)
theorem Vn {L fs N:List Fact} (hL: ∀ f∈L,f∈fs): ∀ f∈L++N,f∈fs++N:=λf hf=>(List.mem_append.1 hf).elim (λh=>List.mem_append_left _ (hL f h)) (λh=>List.mem_append_right _ h)
theorem dO {fs:List Fact}: ∀ f∈fs,f∈fs:=λ_ h=>h
theorem adi {L N:List Fact} {x:Fact}:x∈L++(N++[x]):=by simp
theorem St.toEnd {f:Fact} (i:Nat) (S:St B w0 w fs) (hi:fs[i]? =some f):St B w0 w (fs.eraseIdx i++[f]):=(S.bring i hi).perm (List.perm_append_comm (l₁:=[f]) (l₂:=fs.eraseIdx i))
theorem St.Qj {a b c d e f g:Fact} (S:St B w0 w (a::b::c::d::e::f::g::(fs++N))):St B w0 w (a::b::c::d::e::f::g::fs):=
 S.sub (((((((List.sublist_append_left fs N).cons_cons g).cons_cons f).cons_cons e).cons_cons d).cons_cons c).cons_cons b |>.cons_cons a)
theorem Ro.blk {L:List Fact} {b n s:Nat} {row:Array Value} {t:TypeId} {xs:List Value} (h:Fact.blk b row t∈L) (hx:row.toList=xs) (hl:xs.length=n*s):Ro L s (some ⟨b,0,none⟩) n xs:=λ_ _ hw=>
 ⟨hl,λ_=>⟨b,0,rfl,(hw _ h).2.lt,λj u hu=>by
  rw [Nat.zero_add];exact (hw _ h).2.cell (by rw [<-hx] at hu;simpa using hu)⟩⟩
end
end
section
open ChangeShapes WideShapes RowKit
abbrev oL (a:Option Addr) (l:List LX) (c:Nat):Fact:= .own 105 23 (.slice a l.length c) l.length (l.flatMap LX.cells)
abbrev oS (a:Option Addr) (l:List kH) (c:Nat):Fact:= .own 150 14 (.slice a l.length c) l.length (l.flatMap kH.cells)
abbrev oT (a:Option Addr) (l:List wE) (c:Nat):Fact:= .own 103 7 (.slice a l.length c) l.length (l.flatMap wE.cells)
abbrev oB (b:Nat) (l:List BX):Fact:= .own 43 6 (.slice (some ⟨b,0,none⟩) 4 4) 4 (l.flatMap BX.cells)
abbrev fL (a:Option Addr) (l:List LX) (c:Nat):Fact:= .off 105 23 a l.length c (l.flatMap LX.cells)
abbrev bW (k:Nat) (n:Value) (d:Dir) (fA:Option Addr) (fx:List LX) (fc:Nat) (sh:Nat->Nat->Int×Int) (sA:Option Addr) (sr:List kH) (sc:Nat) (tA:Option Addr) (tl:List wE) (tc cs:Nat):Fact:= .blk k (kL n d (.slice fA fx.length fc) sh (.slice sA sr.length sc) (.slice tA tl.length tc) cs) 79
abbrev bN (k n:Nat) (u:Bool) (tA:Option Addr) (dd:List UInt8) (tc:Nat) (sy:Int) (b:Nat) (H:Nat->Pl) (U:Nat->Bool) (iA:Option Addr) (ix:List LX) (ic:Nat) (pv:Value) (tn:Nat):Fact:= .blk k (dF n u (.slice tA dd.length tc) sy (.slice (some ⟨b,0,none⟩) 4 4) H U (.slice iA ix.length ic) pv tn) 87
abbrev wF (k:Nat) (n:Value) (d:Dir) (fA:Option Addr) (fx:List LX) (fc:Nat) (sh:Nat->Nat->Int×Int) (sA:Option Addr) (sr:List kH) (sc:Nat) (tA:Option Addr) (tl:List wE) (tc cs:Nat) (r:List Fact):List Fact:=bW k n d fA fx fc sh sA sr sc tA tl tc cs::oL fA fx fc::oS sA sr sc::oT tA tl tc::r
abbrev nF (k n:Nat) (u:Bool) (tA:Option Addr) (dd:List UInt8) (tc:Nat) (sy:Int) (b:Nat) (H:Nat->Pl) (U:Nat->Bool) (iA:Option Addr) (ix:List LX) (ic:Nat) (pv:Value) (tn:Nat) (bs:List BX) (r:List Fact):List Fact:=bN k n u tA dd tc sy b H U iA ix ic pv tn::oB b bs::fL iA ix ic::r
abbrev cF (k:Nat) (R:CX) (m:Cl) (r:List Fact):List Fact:=wF k (.slice R.nA 5 R.nc) m.off R.fA R.fx R.fc m.shown R.sA m.aV R.sc R.tA m.bL R.tc m.calls r
abbrev cN (k n:Nat) (X:Nd) (z:NX) (pv:Value) (r:List Fact):List Fact:=nF k n X.up z.tA X.data z.tc X.syn z.bb X.hints X.sure z.iA z.ix z.ic pv X.turn z.bx r
theorem Vo {x:LX}: ∀ (j:Nat) (u:Value),[Value.int .i64 x.l.op.kind,iV x.l.op.producer,iV x.l.op.id,iV x.l.op.body,iV x.l.op.aO,iV x.l.op.hno][j]? =some u->(LX.row x)[7+j]? =some u:=by
 intro j u h;have hj:j<6:=(List.getElem?_eq_some_iff.1 h).1;have:j=0\/j=1\/j=2\/j=3\/j=4\/j=5:=by omega
 rcases this with rfl | rfl | rfl | rfl | rfl | rfl<;>exact h
theorem aoT {x:LX}: ∀ (j:Nat) (u:Value),[Value.int .i64 x.l.bL.num,iV x.l.bL.ans.code,iV x.l.bL.ans.dZ,iV x.l.bL.ans.hno,iV x.l.bL.ans.body,iV x.l.bL.pl.node,iV x.l.bL.pl.epoch][j]? =some u->(LX.row x)[16+j]? =some u:=by
 intro j u h;have hj:j<7:=(List.getElem?_eq_some_iff.1 h).1;have:j=0\/j=1\/j=2\/j=3\/j=4\/j=5\/j=6:=by omega
 rcases this with rfl | rfl | rfl | rfl | rfl | rfl | rfl<;>exact h
theorem rJ {me turn:Nat} {up:Bool} {tv bv iv pv:Value} {syn:Int} {H:Nat->Pl} {U:Nat->Bool}: ∀ (j:Nat) (u:Value),[tv,iV syn][j]? =some u->(dF me up tv syn bv H U iv pv turn)[2+j]? =some u:=by
 intro j u h;have hj:j<2:=(List.getElem?_eq_some_iff.1 h).1;have:j=0\/j=1:=by omega
 rcases this with rfl | rfl<;>exact h
theorem vF (d:Dir): ∀ u∈d.cells.toArray.toList,u.oneCell'=true:=bX rfl
theorem aiZ {me turn q:Nat} {up:Bool} {tv bv iv pv:Value} {syn:Int} {H:Nat->Pl} {U:Nat->Bool} (hq:q<4): ∀ (j:Nat) (u:Value),[Value.int .i64 (H q).node,iV (H q).epoch][j]? =some u->(dF me up tv syn bv H U iv pv turn)[5+q*2+j]? =some u:=by
 intro j u h;have hj:j<2:=(List.getElem?_eq_some_iff.1 h).1;have:j=0\/j=1:=by omega
 rcases this with rfl | rfl
 ·rw [Nat.add_zero,(OU hq).1];exact h
 rw [(OU hq).2];exact h
theorem aoU {bs:List BX} {q c:Nat} {y:BX} {A:Option Addr} {evs:List Ev} (hy:bs[q]? =some y):rT (bs.flatMap BX.cells) (0+q*6+5) [.slice A evs.length c]=(bs.set q ⟨{ y.b with evs:=evs },A,c⟩).flatMap BX.cells:=by
 obtain ⟨hl,he⟩:=List.getElem?_eq_some_iff.1 hy;rw [<-qd (enc:=BX.cells) (sz:=6) (λ_=>rfl) ⟨{ y.b with evs:=evs },A,c⟩ q bs hl,Nat.zero_add];have hg: ∀ j u,(BX.cells y)[j]? =some u->(bs.flatMap BX.cells)[q*6+j]? =some u:=λj u h=>bg (enc:=BX.cells) (sz:=6) (λ_=>rfl) hy h;simp only [rT,BX.cells];have e: ∀ (l:List Value) (k:Nat) (u:Value),l[k]? =some u->l.set k u=l:=λl k u h=>by
  obtain ⟨h1,h2⟩:=List.getElem?_eq_some_iff.1 h;subst h2;exact List.set_getElem_self h1
 rw [e _ (q*6) _ (hg 0 _ rfl),e _ (q*6+1) _ (hg 1 _ rfl),e _ (q*6+1+1) _ (hg 2 _ rfl),e _ (q*6+1+1+1) _ (hg 3 _ rfl),e _ (q*6+1+1+1+1) _ (hg 4 _ rfl)]
theorem je (k:Int) (q:Nat) (y:BX) (w:World):
    Calls tP 40 #[iV k,iV ((q:Nat):Int),.agg (bR y.b y.A y.c)] w (λe w'=>e= .returned (.agg (dB.cells (fI k q y.b.ep 0 aP)).toArray)/\Below w.heap.size w w'):=by
 have S:=St.start w;refine gB 12 Tryz.func40 ?_;refine cw [0,1,2] ?_;refine zN 2 ?_;refine iK S ?_;intro b1 w2 S3;refine fF S3 wV ?_;intro b4 w5 S6;refine zN 8 ?_;refine vv (v:= .agg #[iV k,iV ((q:Nat):Int),iV y.b.ep,iV 0,iV 0,iV 0,iV 0,iV 0,iV 0,iV 0]) gD ?_;refine sa 0 S6 jZ ?_;intro w7 S8;refine zN 4 ?_;exact ⟨rfl,S8.low⟩
theorem gP {B kw calls fc sc tc:Nat} {fA sA tA:Option Addr} {nv:Value} {d:Dir} {sh:Nat->Nat->Int×Int} {fx:List LX} {aV:List kH} {tl:List wE} {w0 w:World} {fs:List Fact} {x:LX} (S:St B w0 w ((.blk kw (kL (nv) d (.slice fA fx.length fc) sh (.slice sA aV.length sc) (.slice tA tl.length tc) calls) 79)::(.own 105 23 (.slice fA fx.length fc) fx.length ((fx).flatMap LX.cells))::fs)) (hb:(fx.length+1)*200<=140737488355328):
    Calls tP 27 #[pV kw 0,.agg (LX.row x)] w (λe w'=>e= .returned (.tuple #[])/\ ∃ A' c' qp,qp=fx++[x]/\St B w0 w' ((.blk kw (kL (nv) d (.slice A' qp.length c') sh (.slice sA aV.length sc) (.slice tA tl.length tc) calls) 79)::(.own 105 23 (.slice A' qp.length c') qp.length ((qp).flatMap LX.cells))::fs)):=by
 refine gB 14 Tryz.func27 ?_;refine cw [0,1] ?_;refine zN 2 ?_;refine iK S ?_;intro b1 w2 S3;refine zN 2 ?_;have S4:=S3.drew;refine fC 11 8 S4 [2] ?_;iterate 4 refine gM ?_
 refine gk (v:= .slice fA fx.length fc) 4 rfl (St.del 2 S4) (λ_ Sx9=>(aj rfl rfl (ay Tryz.underlying73 rfl (St.cl 1 Sx9 rfl QX)))) ?_;refine gM ?_;refine eP (m:=4) (r:=6) (by kernel_rfl) ?_;refine lM (i:=6) rfl rfl (V:=λb=> .slice (aD b 0) 1 1) (row:=LX.row x) (t:=105) S4 (wn rfl) rfl rfl (aU (vs:=[(0,.agg (LX.row x))]) rfl ⟨rfl,rfl,trivial⟩ (by kernel_rfl)) ?_;intro b11 Zl wu;refine gM ?_;refine eP (m:=3) (r:=7) (by kernel_rfl) ?_;refine kK (i:=7) rfl rfl (news:=(LX.cells x)) (xs':=(fx++[x]).flatMap LX.cells) 3 wu (wn rfl) rfl rfl rfl rfl rfl rfl (St.lV (xs:=(LX.cells x)) 0 wu rfl rfl rfl) Tryz.underlying73 XT rfl (by decide) (Dx _) (by simp only [maxLen];omega) (by omega) (jM (enc:=LX.cells) rfl rfl) ?_;intro A14 c15 w16 hc18 aG9 lN;refine gM ?_;refine eD (by kernel_rfl) rfl rfl rfl ?_;refine zN 2 ?_;refine jq 2 lN BJ ?_ (hs:=by exact alL);intro Ux rG;refine zQ ?_;refine iU ?_;refine bT (l':=[]) trivial (aY (rs:=[]) (vs:=[]) rfl trivial ?_);have iR:=rG.aR [1,0];refine ⟨rfl,A14,c15,fx++[x],rfl,?_⟩;rw [List.length_append];exact iR
theorem mU {B kn kw bb n turn calls dc ic fc sc tc:Nat} {up:Bool} {dA iA fA sA tA:Option Addr} {data:List UInt8} {syn:Int} {Hh:Nat->Pl} {Us:Nat->Bool} {pv nv:Value} {d:Dir} {sh:Nat->Nat->Int×Int} {bs:List BX} {ix fx:List LX} {aV:List kH} {tl:List wE} {w0 w:World} {fs:List Fact} {q:Nat} (hn:n<5) (hq:q<4) {y:BX} (hy:bs[q]? =some y) (e:Ev) (a:iZ) (num:Int) (S:St B w0 w ((.blk kn (dF n up (.slice dA data.length dc) syn (.slice (aD bb 0) 4 4) Hh Us (.slice iA ix.length ic) (pv) turn) 87)::(.own 43 6 (.slice (aD bb 0) 4 4) 4 ((bs).flatMap BX.cells))::(.off 105 23 iA ix.length ic ((ix).flatMap LX.cells))::(.blk kw (kL (nv) d (.slice fA fx.length fc) sh (.slice sA aV.length sc) (.slice tA tl.length tc) calls) 79)::(.own 105 23 (.slice fA fx.length fc) fx.length ((fx).flatMap LX.cells))::(.own 150 14 (.slice sA aV.length sc) aV.length ((aV).flatMap kH.cells))::(.own 103 7 (.slice tA tl.length tc) tl.length ((tl).flatMap wE.cells))::fs)) (hb:(aV.length+1)*112<=140737488355328):
    Calls tP 51 #[pV kw 0,pV kn 0,iV ((q:Nat):Int),.agg #[iV e.kind,iV e.producer,iV e.id,iV e.body,iV e.aO,iV e.hno],.agg #[iV a.code,iV a.dZ,iV a.hno,iV a.body],iV num] w (λe' w'=>e'= .returned (.tuple #[])/\ ∃ A' c' Bc,Bc=aV++[(⟨n,q,y.b.ep,e,a,num⟩:kH)]/\St B w0 w' ((.blk kn (dF n up (.slice dA data.length dc) syn (.slice (aD bb 0) 4 4) Hh Us (.slice iA ix.length ic) (pv) turn) 87)::(.own 43 6 (.slice (aD bb 0) 4 4) 4 ((bs).flatMap BX.cells))::(.off 105 23 iA ix.length ic ((ix).flatMap LX.cells))::(.blk kw (kL (nv) d (.slice fA fx.length fc) (gX sh n q (y.b.ep,(y.b.evs.length:Int))) (.slice A' Bc.length c') (.slice tA tl.length tc) calls) 79)::(.own 105 23 (.slice fA fx.length fc) fx.length ((fx).flatMap LX.cells))::(.own 150 14 (.slice A' Bc.length c') Bc.length ((Bc).flatMap kH.cells))::(.own 103 7 (.slice tA tl.length tc) tl.length ((tl).flatMap wE.cells))::fs)):=by
 have hlen:=(S.own 1 rfl).1;rw [iG (sz:=6) (λ_=>rfl)] at hlen;refine gB 68 Tryz.func51 ?_;refine cw [0,1,2,3,4,5] ?_;refine zN 2 ?_;refine iK S ?_;intro b1 w2 S3;refine iK S3 ?_;intro b4 w5 S6;refine zN 3 ?_;have S7:=S6.drew;refine fC 29 25 S7 [7] ?_;iterate 5 refine gM ?_
 refine gk (v:= .slice sA aV.length sc) 5 rfl (St.del 7 S7) (λ_ QK=>(aj rfl rfl (ay Tryz.underlying37 rfl (St.cl 5 QK rfl auf)))) ?_;iterate 10 refine gM ?_
 refine gk 16 rfl (St.del 7 S7) (λ_ _=>jh q) ?_;refine gM ?_;refine gk (v:=iV y.b.ep) 18 rfl (St.del 7 S7) (λ_ alu=>(aj rfl rfl (ay Tryz.underlying3 rfl (Rd.XL (i:=1) (St.ord 3 alu rfl) (bg (enc:=BX.cells) (sz:=6) (λ_=>rfl) hy rfl))))) ?_;iterate 3 refine gM ?_
 refine gk (v:= .agg #[iV ((n:Nat):Int),iV ((q:Nat):Int),iV y.b.ep,iV e.kind,iV e.producer,iV e.id,iV e.body,iV e.aO,iV e.hno,iV a.code,iV a.dZ,iV a.hno,iV a.body,iV num]) 22 rfl (St.del 7 S7) (λ_ _=>gD) ?_;refine eP (m:=5) (r:=23) (by kernel_rfl) ?_;refine lM (i:=23) rfl rfl (V:=λb=> .slice (aD b 0) 1 1) (row:= #[iV ((n:Nat):Int),iV ((q:Nat):Int),iV y.b.ep,iV e.kind,iV e.producer,iV e.id,iV e.body,iV e.aO,iV e.hno,iV a.code,iV a.dZ,iV a.hno,iV a.body,iV num]) (t:=150) S7 (wn rfl) rfl rfl (aU (vs:=[(0,.agg #[iV ((n:Nat):Int),iV ((q:Nat):Int),iV y.b.ep,iV e.kind,iV e.producer,iV e.id,iV e.body,iV e.aO,iV e.hno,iV a.code,iV a.dZ,iV a.hno,iV a.body,iV num])]) rfl ⟨rfl,rfl,trivial⟩ (by kernel_rfl)) ?_;intro b31 w32 qm;refine gM ?_;refine eP (m:=4) (r:=24) (by kernel_rfl) ?_;refine kK (i:=24) rfl rfl (news:=[iV ((n:Nat):Int),iV ((q:Nat):Int),iV y.b.ep,iV e.kind,iV e.producer,iV e.id,iV e.body,iV e.aO,iV e.hno,iV a.code,iV a.dZ,iV a.hno,iV a.body,iV num]) (xs':=(aV++[(⟨n,q,y.b.ep,e,a,num⟩:kH)]).flatMap kH.cells) 8 qm (wn rfl) rfl rfl rfl rfl rfl rfl (St.lV (xs:=[iV ((n:Nat):Int),iV ((q:Nat):Int),iV y.b.ep,iV e.kind,iV e.producer,iV e.id,iV e.body,iV e.aO,iV e.hno,iV a.code,iV a.dZ,iV a.hno,iV a.body,iV num]) 0 qm rfl rfl rfl) Tryz.underlying37 anP rfl (by decide) (bX rfl) (by simp only [maxLen];omega) (by omega) (jM (enc:=kH.cells) rfl rfl) ?_;intro A34 c35 w36 hc38 azb lY;refine gM ?_;refine eD (by kernel_rfl) rfl rfl rfl ?_;refine zN 3 ?_;refine jq 6 lY ajM ?_ (hs:=by exact auh);intro w40 Je;refine zQ ?_;refine iU ?_;refine zQ ?_;have pz:=Je.drew;refine aG 29 pz [6] ?_;refine aJ 11 ?_;refine ak 11 rfl (St.del 6 pz) (λ_ _=>jh q) ?_;refine bZ ?_;refine ak (v:=iV y.b.ep) 13 rfl (St.del 6 pz) (λ_ aas=>(aj rfl rfl (ay Tryz.underlying3 rfl (Rd.XL (i:=1) (St.ord 4 aas rfl) (bg (enc:=BX.cells) (sz:=6) (λ_=>rfl) hy rfl))))) ?_;refine aJ 5 ?_;refine ak 19 rfl (St.del 6 pz) (λ_ _=>jh q) ?_;refine bZ ?_;refine ak (v:= .slice y.A y.b.evs.length y.c) 21 rfl (St.del 6 pz) (λ_ Zi=>(aj rfl rfl (ay Tryz.underlying41 rfl (Rd.XL (i:=5) (St.ord 4 Zi rfl) (bg (enc:=BX.cells) (sz:=6) (λ_=>rfl) hy rfl))))) ?_;refine bZ ?_;refine ak (v:= .agg #[iV y.b.ep,iV ((y.b.evs.length:Nat):Int)]) 23 rfl (St.del 6 pz) (λ_ _=>gD) ?_;refine aJ 2 ?_;refine ak (v:=pV kw (10+n*8)) 26 rfl (St.del 6 pz) (λ_ _=>(aT rfl rfl rfl (eZ n Tryz.underlying77 M9 rfl hn))) ?_;refine ak (v:=pV kw (10+n*8+q*2)) 27 rfl (St.del 6 pz) (λ_ _=>(aT rfl rfl rfl (eZ q Tryz.underlying76 zh rfl hq))) ?_;refine aW 28 ?_;refine tT (i:=28) rfl rfl (cs:= #[iV y.b.ep,iV ((y.b.evs.length:Nat):Int)]) (row':=kL (nv) d (.slice fA fx.length fc) (gX sh n q (y.b.ep,((y.b.evs.length:Nat):Int))) (.slice A34 (aV.length+1) c35) (.slice tA tl.length tc) calls) (fs':=(_::_::_::_::_::_::(.blk kw (kL (nv) d (.slice fA fx.length fc) (gX sh n q (y.b.ep,((y.b.evs.length:Nat):Int))) (.slice A34 (aV.length+1) c35) (.slice tA tl.length tc) calls) 79)::_::_::_::fs)) 6 pz (wn rfl) rfl rfl rfl rfl rfl rfl zh rfl (bX rfl) (by rw [adg];omega) (akn hn hq (a:=y.b.ep) (b:=((y.b.evs.length:Nat):Int))) rfl ?_;intro w71 ES
 refine aJ 2 ?_;refine bT (l':=[]) trivial (aY (rs:=[]) (vs:=[]) rfl trivial ?_);have tH:=ES.aR [2,1,0];refine ⟨rfl,A34,c35,aV++[(⟨n,q,y.b.ep,e,a,num⟩:kH)],rfl,?_⟩;rw [List.length_append];exact tH
theorem yD {B kn kw bb n turn calls dc ic fc sc tc:Nat} {up:Bool} {dA iA fA sA tA:Option Addr} {data:List UInt8} {syn:Int} {Hh:Nat->Pl} {Us:Nat->Bool} {pv nv:Value} {d:Dir} {sh:Nat->Nat->Int×Int} {bs:List BX} {ix fx:List LX} {aV:List kH} {tl:List wE} {w0 w:World} {fs:List Fact} {q:Nat} (hn:n<5) (hq:q<4) {y:BX} (hy:bs[q]? =some y) (S:St B w0 w (nF kn n up dA data dc syn bb Hh Us iA ix ic pv turn bs (wF kw nv d fA fx fc sh sA aV sc tA tl tc calls fs))) (hb:(fx.length+1)*200<=140737488355328):
    Calls Tryz.prog 85 #[pV kw 0,pV kn 0,iV ((q:Nat):Int)] w (λe w'=>e= .returned (.tuple #[])/\ ∃ A' c' qp,qp=fx++[⟨qX n q y.b,none,0⟩]/\St B w0 w' (nF kn n up dA data dc syn bb Hh Us iA ix ic pv turn bs (wF kw nv d A' qp c' sh sA aV sc tA tl tc calls fs))):=by
 have hlen:=(S.own 1 rfl).1;rw [iG (sz:=6) (λ_=>rfl)] at hlen;refine gB 29 Tryz.func85 ?_;refine cw [0,1,2] ?_;refine zN 7 ?_;refine vv (jh q) ?_;refine vv (aj rfl rfl (aA (cs:=BX.cells y) Tryz.underlying43 rfl aB rfl (Rd.vM (St.ord 1 S rfl) (λ_ _ h=>bg (enc:=BX.cells) (sz:=6) (λ_=>rfl) hy h)))) ?_;refine fF S fD ?_;intro b1 w2 S3;refine sa 0 S3 aB ?_;intro w4 S5;refine zN 2 ?_;have S6:=S5.dU [5,5];have S7:=S6.drew;refine aG 15 S7 [1,0] ?_;refine aJ 13 ?_;refine ak (v:= .agg #[iV 3,iV ((n:Nat):Int),iV y.b.fr,iV ((q:Nat):Int),iV y.b.ep,iV ((y.b.evs.length:Nat):Int),iV 0,iV 0,iV 0,iV 0,iV 0,iV 0,iV 0,.slice none 0 0,.bool false,iV 0,iV 0,iV 0,iV 0,iV 0,iV 0,iV 0,iV 0]) 13 rfl (S7.pI [1,0]) (λ_ _=>gD) ?_;refine aW 14 ?_;refine iY 14 rfl xX (gP (x:=⟨qX n q y.b,none,0⟩) S7 (by omega)) ?_;rintro _ Nh ⟨rfl,A22,c23,azc,azd,tF⟩;refine ⟨_,rfl,?_⟩;refine aJ 2 ?_;refine bT (l':=[]) trivial (aY (rs:=[]) (vs:=[]) rfl trivial ?_);have rF:=tF.aR [2];have sD:=rF.dU [6,6,3,3,6,6,6];exact ⟨rfl,A22,c23,azc,azd,sD⟩
noncomputable def nI (n q:Nat) (b:bK) (at_:Int) (fl:List iD):List iD:=if (iI b at_).2.2≠0 then fl else fl++[LK n q b at_]
theorem aze {B:Nat} {w0 w:World} {a b c d e f g x:Fact} {fs:List Fact} (S:St B w0 w (a::b::c::d::e::f::g::x::fs)):St B w0 w (a::b::c::d::e::f::g::(fs++[x])):=
 S.perm (List.Perm.cons _ (List.Perm.cons _ (List.Perm.cons _ (List.Perm.cons _ (List.Perm.cons _ (List.Perm.cons _ (List.Perm.cons _ (List.perm_append_comm (l₁:=[x]) (l₂:=fs)))))))))
theorem KJ {B kn kw bb n turn calls dc ic fc sc tc:Nat} {up:Bool} {dA iA fA sA tA:Option Addr} {data:List UInt8} {syn:Int} {Hh:Nat->Pl} {Us:Nat->Bool} {pv nv:Value} {d:Dir} {sh:Nat->Nat->Int×Int} {bs:List BX} {ix fx:List LX} {aV:List kH} {tl:List wE} {w0 w:World} {fs:List Fact} {q:Nat} {L:List Fact} (hn:n<5) (hq:q<4) {y:BX} (hy:bs[q]? =some y) (at_:Int) (hev:Bb L y) (hL: ∀ f∈L,f∈fs) (alN:y.b.evs.length*48<=reachBytes) (dZ: -2<=y.b.ep/\y.b.ep<=2000000) (S:St B w0 w (nF kn n up dA data dc syn bb Hh Us iA ix ic pv turn bs (wF kw nv d fA fx fc sh sA aV sc tA tl tc calls fs))) (hb:(fx.length+1)*200<=140737488355328):
    Calls Tryz.prog 88 #[pV kw 0,pV kn 0,iV ((q:Nat):Int),iV at_] w (λe w'=>e= .returned (.tuple #[])/\ ∃ (A':Option Addr) (c':Nat) (qp:List LX) (N:List Fact),qp.map LX.l=nI n q y.b at_ (fx.map LX.l)/\(∀ x∈qp,x∈fx\/Qh N x)/\St B w0 w' (nF kn n up dA data dc syn bb Hh Us iA ix ic pv turn bs (wF kw nv d A' qp c' sh sA aV sc tA tl tc calls (fs++N)))):=by
 have hlen:=(S.own 1 rfl).1;rw [iG (sz:=6) (λ_=>rfl)] at hlen;refine gB 44 Tryz.func88 ?_;refine cw [0,1,2,3] ?_;refine zN 7 ?_;refine vv (jh q) ?_;refine vv (aj rfl rfl (aA (cs:=BX.cells y) Tryz.underlying43 rfl aB rfl (Rd.vM (St.ord 1 S rfl) (λ_ _ h=>bg (enc:=BX.cells) (sz:=6) (λ_=>rfl) hy h)))) ?_;refine fF S fD ?_;intro b1 w2 S3;refine sa 0 S3 aB ?_;intro w4 S5;refine zN 6 ?_;refine dI atz ((show Calls _ _ _ _ (RI _ (iI y.b at_)) from WT y.b.role y.b.ep y.b.fr y.b.tg y.b.rd y.A y.c y.b.evs at_ hev.2 _ (hev.1.rd S5 (memT 8 rfl hL)) alN)) ?_;rintro _ w9 ⟨A6,c7,azf,rfl,T11⟩;refine ⟨_,rfl,?_⟩;have oC:=S5.ext T11 rfl;refine zN 13 ?_;by_cases h12:(iI y.b at_).2.2=0
 ·refine zN 6 ?_;have wu:=oC.dU [6,6];have kg:=wu.drew;refine aG 16 kg [1,0] ?_;refine aJ 10 ?_;refine ak (v:=iV (y.b.ep+1)) 10 rfl (kg.pI [1,0]) (λ_ _=>gN) ?_;refine aJ 3 ?_;refine ak (v:= .agg #[iV 4,iV ((n:Nat):Int),iV y.b.tg,iV ((q:Nat):Int),iV (y.b.ep+1),iV at_,iV 0,iV 0,iV 0,iV 0,iV 0,iV 0,iV 0,.slice A6 ((iI y.b at_).1.length) c7,.bool ((iI y.b at_).2.1),iV 0,iV 0,iV 0,iV 0,iV 0,iV 0,iV 0,iV 0]) 14 rfl (kg.pI [1,0]) (λ_ _=>gD) ?_;refine aW 15 ?_;refine iY 15 rfl xX (gP (x:=⟨LK n q y.b at_,A6,c7⟩) kg (by omega)) ?_;rintro _ Yq ⟨rfl,nV,c31,azg,arj,sG⟩;refine ⟨_,rfl,?_⟩;refine aJ 2 ?_;refine bT (l':=[]) trivial (aY (rs:=[]) (vs:=[]) rfl trivial ?_);have nT:=sG.aR [3];have lY:=nT.dU [7,7,3,3,7,7,7];refine ⟨rfl,nV,c31,azg,[.cu 6 A6 ((iI y.b at_).1.length) (((iI y.b at_).1).flatMap Ev.cells)],?_,?_,?_⟩
  · rw [nI,if_neg (λh=>h h12),arj,List.map_append];rfl
  · intro x hx;rw [arj] at hx;rcases List.mem_append.1 hx with hx | hx;exact .inl hx;rw [List.mem_singleton] at hx;subst hx;exact .inr ⟨Ro.cu (List.mem_singleton.2 rfl),azf⟩
  · exact aze lY
 refine zN 7 ?_;have tJ:=oC.aR [1];have CJ:=tJ.dU [7,7,7,7,7,7,7];have uj:=CJ.aR [7];refine ⟨rfl,fA,fc,fx,[],?_,?_,?_⟩
 · rw [nI,if_pos h12]
 · exact λx hx=> .inl hx
 · rw [List.append_nil];exact uj
def azh (w:World) (r:List UInt8×Int×Int) (e:Ending) (w':World):Prop:=
 ∃ A c,e= .returned (.tuple #[.agg #[.slice A r.1.length c,iV r.2.1],iV r.2.2])/\St w.heap.size w w' [.cu 1 A r.1.length (byteCells r.1)]
theorem Ap {P:Program} {f:FuncId} {vs:Array Value} {w:World} {r:List UInt8×Int×Int} (h:Calls P f vs w (rD w r)):Calls P f vs w (azh w r):=h.mono λe w' ⟨A,c,h1,h2,h3,h4⟩=>
 ⟨A,c,h1,((St.start w).on h2).cons ⟨h3,h4⟩ λk _ i g hg=>by simp at hg⟩
theorem IJ {d:List UInt8} {s:Int} {rs:List dB} {k:Nat} {r:dB} (hk:rs[k]? =some r):eG d s (rs.drop k)=if (iO d s r).2.2≠0 then none else eG (iO d s r).1 s (rs.drop (k+1)):=by rw [drop_cons hk,eG]
theorem adk {d:List UInt8} {s:Int} {r:dB} (h:(iO d s r).2.2=0):(iO d s r).2.1=s:=by rw [(Ns h).1]
theorem oU {B kn kw bb n turn calls dc ic fc sc tc:Nat} {up:Bool} {dA iA fA sA tA:Option Addr} {data:List UInt8} {syn:Int} {Hh:Nat->Pl} {Us:Nat->Bool} {pv nv:Value} {d:Dir} {sh:Nat->Nat->Int×Int} {bs:List BX} {ix fx:List LX} {aV:List kH} {tl:List wE} {w0 w:World} {fs:List Fact} {L:List Fact} {rs:List dB} {RA:Option Addr} {rc:Nat} (hrs:Ro fs 10 RA rs.length (rs.flatMap dB.cells)) (htp:Ro L 1 dA data.length (byteCells data)) (hL: ∀ f∈L,f∈fs) (hrl:rs.length<=1000000) (S:St B w0 w (nF kn n up dA data dc syn bb Hh Us iA ix ic pv turn bs (wF kw nv d fA fx fc sh sA aV sc tA tl tc calls fs))):
    Calls Tryz.prog 39 #[pV kn 0,.slice RA rs.length rc] w (λe w'=>(eG data syn rs=none/\e= .returned (.bool false)/\St B w0 w' (nF kn n up dA data dc syn bb Hh Us iA ix ic pv turn bs (wF kw nv d fA fx fc sh sA aV sc tA tl tc calls fs)))\/ ∃ d' A' c' N,eG data syn rs=some d'/\e= .returned (.bool true)/\Ro (L++N) 1 A' d'.length (byteCells d')/\St B w0 w' (nF kn n up A' d' c' syn bb Hh Us iA ix ic pv turn bs (wF kw nv d fA fx fc sh sA aV sc tA tl tc calls (fs++N)))):=by
 refine gB 34 Tryz.func39 ?_;refine cw [0,1] ?_;refine zN 10 ?_;refine vv (aj rfl rfl (aA (cs:=[.slice dA data.length dc,iV syn]) Tryz.underlying83 rfl fB rfl (St.rg 0 S rfl (rJ)))) ?_;refine fF S yP ?_;intro b1 w2 S3;refine sa 0 S3 fB ?_;intro w4 S5;refine zN 11 ?_;refine dW (X:=Nat×(Option Addr)×Nat×(List UInt8)×(List Fact)) (λxv=>[(0,pV kn 0),(5,pV b1 0),(14,.slice RA rs.length rc),(15,iV ((rs.length:Nat):Int)),(16,iV ((xv.1:Nat):Int))]) (λxv wr=>(xv.1<=rs.length)/\(eG data syn rs=eG xv.2.2.2.1 syn (rs.drop xv.1))/\(Ro (L++xv.2.2.2.2) 1 xv.2.1 xv.2.2.2.1.length (byteCells xv.2.2.2.1))/\St B w0 wr ((.blk b1 #[.slice xv.2.1 xv.2.2.2.1.length xv.2.2.1,iV syn] 83)::(nF kn n up dA data dc syn bb Hh Us iA ix ic pv turn bs (wF kw nv d fA fx fc sh sA aV sc tA tl tc calls (fs++xv.2.2.2.2))))) (λxv=>rs.length-xv.1) (0,dA,dc,data,[]) ?_ ?_ ?_
 ·exact ⟨Nat.zero_le _,rfl,by rw [List.append_nil];exact htp,by rw [List.append_nil];exact S5⟩
 ·exact ⟨rfl,rfl,rfl,rfl,rfl,trivial⟩
 rintro ⟨k,A1,c1,d1,N1⟩ w6 ⟨zW,hi9,ni,S7⟩
 try dsimp only at zW hi9 ni S7
 refine bC (l':=[(0,pV kn 0),(5,pV b1 0),(14,.slice RA rs.length rc),(15,iV ((rs.length:Nat):Int)),(16,iV ((k:Nat):Int))]) ⟨rfl,rfl,rfl,rfl,rfl,trivial⟩ (aQ (aC ?_));by_cases h11:((k:Nat):Int)< ((rs.length:Nat):Int)
 ·refine zN 10 ?_;obtain ⟨x,hx⟩: ∃ x,rs[k]? =some x:=⟨_,List.getElem?_eq_getElem (by omega)⟩;refine zQ ?_;obtain ⟨rb,ro,hra,_,hrc⟩:=(hrs.rd S7 (memT 8 rfl (λf hf=>List.mem_append_left _ hf))).2 (by omega);subst hra;refine vv (jh k) ?_;refine vv (v:= .agg #[iV x.kind,iV x.queue,iV x.epoch,iV x.peer,iV x.ev.kind,iV x.ev.producer,iV x.ev.id,iV x.ev.body,iV x.ev.aO,iV x.ev.hno]) (aj rfl rfl (aA (cs:=dB.cells x) Tryz.underlying124 rfl jZ rfl (λj u hu=>by rw [Nat.add_assoc];exact hrc (k*10+j) u (bg (enc:=dB.cells) (sz:=10) (λ_=>rfl) hx hu)))) ?_;refine fF S7 wV ?_;intro b12 Dr kg;refine stA 0 kg jZ ?_;intro G8 kQ;refine zN 6 ?_;refine dI ajR (Ap (GN A1 d1.length c1 d1 syn x _ (ni.rd kQ (memT 9 rfl (Vn hL))))) ?_;rintro _ FX ⟨Me,c18,rfl,T21⟩;refine ⟨_,rfl,?_⟩;have lQ:=kQ.ext T21 rfl;refine zN 3 ?_;refine fF lQ yP ?_;intro RH Jg jw;refine stA 0 jw fB ?_;intro w25 lS;refine zN 7 ?_;by_cases h27:(iO d1 syn x).2.2=0
  ·have hsy:=adk h27;rw [hsy] at lS;refine zN 8 ?_;refine stA 3 lS fB ?_;intro Yb sD;refine zN 4 ?_;refine vv (v:=iV ((k+1:Nat):Int)) gN ?_;refine zN 2 ?_;have sH:=sD.aR [2,0];have kU:=sH.dU [8,8,8,8,8,8,8,8];have o8:St B w0 Yb (_::_::_::_::_::_::_::_::((fs++N1)++[.cu 1 Me ((iO d1 syn x).1.length) (byteCells ((iO d1 syn x).1))])):=kU.toEnd 8 rfl;have qm:=o8;rw [List.append_assoc] at qm;refine aS (k+1,Me,c18,(iO d1 syn x).1,N1++[.cu 1 Me ((iO d1 syn x).1.length) (byteCells ((iO d1 syn x).1))]) ?_ ⟨rfl,rfl,rfl,rfl,rfl,trivial⟩ (by first | omega | (dsimp only;omega));exact ⟨(by dsimp only;omega),(by dsimp only;rw [hi9,IJ hx,if_neg (λh=>h h27)]),(Ro.cu adi),qm⟩
  refine zN 17 ?_;have qG:=lS.aR [3,2,1,0];exact .inl ⟨by rw [hi9,IJ hx,if_pos h27],rfl,qG.Qj⟩
 refine zN 16 ?_;refine jq (row':=dF n up (.slice A1 d1.length c1) syn (.slice (aD bb 0) 4 4) Hh Us (.slice iA ix.length ic) (pv) turn) 1 S7 fB ?_;intro Yc nT;refine zQ ?_;refine bT (l':=[]) trivial (gT (aQ (aC (va ?_))));refine zN 4 ?_;have lY:=nT.aR [0];exact .inr ⟨d1,A1,c1,N1,by rw [hi9,List.drop_eq_nil_of_le (by omega)];rfl,rfl,ni,lY⟩
structure Uk (B:Nat) (w0:World):Prop where
 u0:w0.cell? ⟨1,0,none⟩=some (iV (-1))
 u1:w0.cell? ⟨1,1,none⟩=some (iV 0)
 ul:1<B
 n0:w0.cell? ⟨0,0,none⟩=some (iV (-1))
 n1:w0.cell? ⟨0,1,none⟩=some (iV 0)
 nl:0<B
theorem Uk.rg {B:Nat} {w0 w:World} {fs:List Fact} (h:Uk B w0) (S:St B w0 w fs):w.rangeAt 1 0 [iV (-1),iV 0]:=λj u hu=>by
 have hj:j<2:=(List.getElem?_eq_some_iff.1 hu).1;have:j=0\/j=1:=by omega
 rcases this with rfl | rfl
 ·rw [<-hu];exact (S.low.cell (p:=⟨1,0,none⟩) h.ul).trans h.u0
 rw [<-hu];exact (S.low.cell (p:=⟨1,1,none⟩) h.ul).trans h.u1
theorem Uk.nw {B:Nat} {w0 w:World} {fs:List Fact} (h:Uk B w0) (S:St B w0 w fs):Nw w:=
 ⟨(S.low.cell (p:=⟨0,0,none⟩) h.nl).trans h.n0,(S.low.cell (p:=⟨0,1,none⟩) h.nl).trans h.n1,Nat.lt_of_lt_of_le h.nl S.base⟩
theorem sj {P:Program} {t:TypeId} {w:World} {b m:Nat} {row:Array Value} {tt:TypeId} {ds:TypeDesc} (hb:fQ w b row tt) (hu:P.underlying t=some ds) (hd:ds.isRow=true) (hz:(P.info? t).map (·.size)=some m) (hm:row.size=m):(Instr.loadAt t (pV b 0)).run P w= .ok (.agg row) w:=by
 have:=aA (P:=P) (w:=w) (t:=t) (b:=b) (off:=0) (cs:=row.toList) hu hd hz (by simpa using hm) (λj u h=>by rw [Nat.zero_add];exact hb.cell (by simpa using h));simpa using this
theorem CZ {B kn kw bb n turn calls dc ic fc sc tc:Nat} {up:Bool} {dA iA fA sA tA:Option Addr} {data:List UInt8} {syn:Int} {Hh:Nat->Pl} {Us:Nat->Bool} {pv nv:Value} {d:Dir} {sh:Nat->Nat->Int×Int} {bs:List BX} {ix fx:List LX} {aV:List kH} {tl:List wE} {w0 w:World} {fs:List Fact} {q b6 b2 b3 b7:Nat} (hn:n<5) (hq:q<4) {y:BX} (hy:bs[q]? =some y) (x:LX) (a:iZ) (S:St B w0 w (nF kn n up dA data dc syn bb Hh Us iA ix ic pv turn bs (wF kw nv d fA fx fc sh sA aV sc tA tl tc calls fs))) (hm6:Fact.blk b6 (LX.row x) 105∈fs) (hm2:Fact.blk b2 #[gL kn] 80∈fs) (wJ:Fact.blk b3 #[iV ((q:Nat):Int)] 3∈fs) (hm7:Fact.blk b7 #[gL kw] 69∈fs) (hu:Uk B w0) (hb:(fx.length+1)*200<=140737488355328) (hb2:(aV.length+1)*112<=140737488355328):
    Calls Tryz.prog 82 #[.agg #[iV a.code,iV a.dZ,iV a.hno,iV a.body],pV b6 0,pV b2 0,pV b3 0,pV b7 0] w (λe w'=>e= .returned (.tuple #[])/\(serves y.b-> ∃ sA' sc' Bc Dz DC qp,Bc=aV++[(⟨n,q,y.b.ep,x.l.op,a,x.l.num⟩:kH)]/\qp=fx++[⟨mJ n x.l.num a nowhere,none,0⟩]/\St B w0 w' (nF kn n up dA data dc syn bb Hh Us iA ix ic pv turn bs (wF kw nv d Dz qp DC (gX sh n q (y.b.ep,(y.b.evs.length:Int))) sA' Bc sc' tA tl tc calls fs)))/\(¬ serves y.b-> ∃ Dz DC qp,qp=fx++[⟨mJ n x.l.num a (Hh q),none,0⟩]/\St B w0 w' (nF kn n up dA data dc syn bb Hh Us iA ix ic pv turn bs (wF kw nv d Dz qp DC sh sA aV sc tA tl tc calls fs)))):=by
 have hlen:=(S.own 1 rfl).1;rw [iG (sz:=6) (λ_=>rfl)] at hlen;refine gB 51 Tryz.func82 ?_;refine cw [0,1,2,3,4] ?_;refine zN 2 ?_;refine iK S ?_;intro b1 w2 S3;refine zN 5 ?_;refine vv (aj rfl rfl (ay Tryz.underlying3 rfl ((St.hblk S3 (memT 8 rfl dO _ hm6)).cell rfl))) ?_;refine zQ ?_;refine vv (aj rfl rfl (aA (cs:=[iV (-1),iV 0]) Tryz.underlying32 rfl iM rfl (Uk.rg hu S3))) ?_;refine vv (v:= .agg #[iV x.l.num,iV a.code,iV a.dZ,iV a.hno,iV a.body,iV (-1),iV 0]) gD ?_;refine fF S3 axT ?_;intro b4 w5 S6;refine sa 0 S6 abQ ?_;intro w7 S8;refine zN 4 ?_;refine fu S8 mixed (by kernel_rfl) ?_;refine uv (v:=pV kn 0) (λ_ Sx9=>(aj rfl rfl (ay Tryz.underlying80 rfl ((St.hblk Sx9 (memT 9 rfl dO _ hm2)).cell rfl)))) ?_;refine zN 3 ?_;refine uv (v:=iV ((q:Nat):Int)) (λ_ QK=>(aj rfl rfl (ay Tryz.underlying3 rfl ((St.hblk QK (memT 9 rfl dO _ wJ)).cell rfl)))) ?_;refine uv (λ_ _=>jh q) ?_;refine zQ ?_;refine uv (v:=iV y.b.role) (λ_ azi=>(aj rfl rfl (ay Tryz.underlying3 rfl (Rd.XL (i:=0) (St.ord 3 azi rfl) (bg (enc:=BX.cells) (sz:=6) (λ_=>rfl) hy rfl))))) ?_;refine zQ ?_;refine eO λNg lX=>?_;refine zN 4 ?_;by_cases h20:y.b.role=1
 ·refine zN 9 ?_;refine vv (aj rfl rfl (ay Tryz.underlying69 rfl ((St.hblk lX (memT 9 rfl dO _ hm7)).cell rfl))) ?_;refine vv (aj rfl rfl (ay Tryz.underlying80 rfl ((St.hblk lX (memT 9 rfl dO _ hm2)).cell rfl))) ?_;refine vv (aj rfl rfl (ay Tryz.underlying3 rfl ((St.hblk lX (memT 9 rfl dO _ wJ)).cell rfl))) ?_;refine zQ ?_;refine vv (aj rfl rfl (aA (cs:=[iV x.l.op.kind,iV x.l.op.producer,iV x.l.op.id,iV x.l.op.body,iV x.l.op.aO,iV x.l.op.hno]) Tryz.underlying53 rfl iE rfl (λj u hj=>(St.hblk lX (memT 9 rfl dO _ hm6)).cell (Vo j u hj)))) ?_;refine zN 2 ?_;refine vv (aj rfl rfl (ay Tryz.underlying3 rfl ((St.hblk lX (memT 9 rfl dO _ hm6)).cell rfl))) ?_;have rG:=lX.dU [8,8,8,8,8,8,8];refine dI Hz (mU hn hq hy x.l.op a x.l.num rG (by omega)) ?_;rintro _ Nh ⟨rfl,A22,c23,azj,azk,tF⟩;refine ⟨_,rfl,?_⟩;refine zN 2 ?_;have rF:=tF.dU [4,4];have sD:=rF.drew;refine aG 8 sD [1,0] ?_;refine ak (v:=pV kw 0) 0 rfl (sD.pI [1,0]) (λ_ aaw=>(aj rfl rfl (ay Tryz.underlying69 rfl ((St.hblk aaw (memT 7 rfl dO _ hm7)).cell rfl)))) ?_;refine ak (v:=pV kn 0) 1 rfl (sD.pI [1,0]) (λ_ ZE=>(aj rfl rfl (ay Tryz.underlying80 rfl ((St.hblk ZE (memT 7 rfl dO _ hm2)).cell rfl)))) ?_;refine aJ 4 ?_;refine ak (v:= .agg #[iV 1,iV ((n:Nat):Int),iV (-1),iV 0,iV 0,iV 0,iV 0,iV 0,iV 0,iV 0,iV 0,iV 0,iV 0,.slice none 0 0,.bool false,iV 0,iV x.l.num,iV a.code,iV a.dZ,iV a.hno,iV a.body,iV (-1),iV 0]) 6 rfl (sD.pI [1,0]) (λ_ _=>gD) ?_;refine aW 7 ?_;refine iY 7 rfl xX (gP (x:=⟨mJ n x.l.num a nowhere,none,0⟩) sD (by omega)) ?_;rintro _ w41 ⟨rfl,A37,c38,ark,alO,pz⟩;refine ⟨_,rfl,?_⟩;refine aJ 2 ?_;refine bT (l':=[]) trivial (aY (rs:=[]) (vs:=[]) rfl trivial ?_);have p9:=pz.aR [8,7];have EU:=p9.dU [6,6,3,3,6,6,6];exact ⟨rfl,λ_=>⟨A22,c23,azj,A37,c38,ark,azk,alO,EU⟩,λh=>absurd (by unfold serves;omega) h⟩
 refine zN 3 ?_;by_cases h45:y.b.role=2
 ·refine zN 6 ?_;refine vv (aj rfl rfl (ay Tryz.underlying69 rfl ((St.hblk lX (memT 9 rfl dO _ hm7)).cell rfl))) ?_;refine vv (aj rfl rfl (ay Tryz.underlying80 rfl ((St.hblk lX (memT 9 rfl dO _ hm2)).cell rfl))) ?_;refine vv (aj rfl rfl (ay Tryz.underlying3 rfl ((St.hblk lX (memT 9 rfl dO _ wJ)).cell rfl))) ?_;refine zQ ?_;refine vv (aj rfl rfl (aA (cs:=[iV x.l.op.kind,iV x.l.op.producer,iV x.l.op.id,iV x.l.op.body,iV x.l.op.aO,iV x.l.op.hno]) Tryz.underlying53 rfl iE rfl (λj u hj=>(St.hblk lX (memT 9 rfl dO _ hm6)).cell (Vo j u hj)))) ?_;refine zN 2 ?_;refine vv (aj rfl rfl (ay Tryz.underlying3 rfl ((St.hblk lX (memT 9 rfl dO _ hm6)).cell rfl))) ?_;have nG:=lX.dU [8,8,8,8,8,8,8];refine dI Hz (mU hn hq hy x.l.op a x.l.num nG (by omega)) ?_;rintro _ Zm ⟨rfl,Mc,c48,alP,af9,oZ⟩;refine ⟨_,rfl,?_⟩;refine zN 2 ?_;have yR:=oZ.dU [4,4];have mG:=yR.drew;refine aG 8 mG [1,0] ?_;refine ak (v:=pV kw 0) 0 rfl (mG.pI [1,0]) (λ_ alQ=>(aj rfl rfl (ay Tryz.underlying69 rfl ((St.hblk alQ (memT 7 rfl dO _ hm7)).cell rfl)))) ?_;refine ak (v:=pV kn 0) 1 rfl (mG.pI [1,0]) (λ_ aas=>(aj rfl rfl (ay Tryz.underlying80 rfl ((St.hblk aas (memT 7 rfl dO _ hm2)).cell rfl)))) ?_;refine aJ 4 ?_;refine ak (v:= .agg #[iV 1,iV ((n:Nat):Int),iV (-1),iV 0,iV 0,iV 0,iV 0,iV 0,iV 0,iV 0,iV 0,iV 0,iV 0,.slice none 0 0,.bool false,iV 0,iV x.l.num,iV a.code,iV a.dZ,iV a.hno,iV a.body,iV (-1),iV 0]) 6 rfl (mG.pI [1,0]) (λ_ _=>gD) ?_;refine aW 7 ?_;refine iY 7 rfl xX (gP (x:=⟨mJ n x.l.num a nowhere,none,0⟩) mG (by omega)) ?_;rintro _ Ut ⟨rfl,A62,c63,azl,azm,uf⟩;refine ⟨_,rfl,?_⟩;refine aJ 2 ?_;refine bT (l':=[]) trivial (aY (rs:=[]) (vs:=[]) rfl trivial ?_);have zM:=uf.aR [8,7];have vC:=zM.dU [6,6,3,3,6,6,6];exact ⟨rfl,λ_=>⟨Mc,c48,alP,A62,c63,azl,af9,azm,vC⟩,λh=>absurd (by unfold serves;omega) h⟩
 refine zN 5 ?_;have qc:=lX.drew;refine fC 8 6 qc [] ?_;refine gk (v:=pV kn 0) 0 rfl qc (λ_ azn=>(aj rfl rfl (ay Tryz.underlying80 rfl ((St.hblk azn (memT 9 rfl dO _ hm2)).cell rfl)))) ?_;refine gk (v:=iV ((q:Nat):Int)) 1 rfl qc (λ_ azo=>(aj rfl rfl (ay Tryz.underlying3 rfl ((St.hblk azo (memT 9 rfl dO _ wJ)).cell rfl)))) ?_;iterate 2 refine gM ?_
 refine gk (v:=pV kn (5+q*2)) 4 rfl qc (λ_ _=>(aT rfl rfl rfl (eZ q Tryz.underlying33 iM rfl hq))) ?_;refine gk (v:= .agg #[iV ((Hh q).node),iV ((Hh q).epoch)]) 5 rfl qc (λ_ alR=>(aj rfl rfl (aA (cs:=[iV ((Hh q).node),iV ((Hh q).epoch)]) Tryz.underlying32 rfl iM rfl (St.rg 2 alR rfl (aiZ hq))))) ?_;refine eD (by kernel_rfl) rfl rfl rfl ?_;refine zQ ?_;refine jq (row':= #[iV x.l.num,iV a.code,iV a.dZ,iV a.hno,iV a.body,iV ((Hh q).node),iV ((Hh q).epoch)]) 0 qc iM ?_;intro w77 EZ;refine zQ ?_;refine iU ?_;refine zQ ?_;have AQ:=EZ.dU [6,6];have AY:=AQ.drew;refine aG 8 AY [1,0] ?_;refine ak (v:=pV kw 0) 0 rfl (AY.pI [1,0]) (λ_ azp=>(aj rfl rfl (ay Tryz.underlying69 rfl ((St.hblk azp (memT 7 rfl dO _ hm7)).cell rfl)))) ?_;refine ak (v:=pV kn 0) 1 rfl (AY.pI [1,0]) (λ_ azq=>(aj rfl rfl (ay Tryz.underlying80 rfl ((St.hblk azq (memT 7 rfl dO _ hm2)).cell rfl)))) ?_;refine aJ 4 ?_;refine ak (v:= .agg #[iV 1,iV ((n:Nat):Int),iV (-1),iV 0,iV 0,iV 0,iV 0,iV 0,iV 0,iV 0,iV 0,iV 0,iV 0,.slice none 0 0,.bool false,iV 0,iV x.l.num,iV a.code,iV a.dZ,iV a.hno,iV a.body,iV ((Hh q).node),iV ((Hh q).epoch)]) 6 rfl (AY.pI [1,0]) (λ_ _=>gD) ?_;refine aW 7 ?_;refine iY 7 rfl xX (gP (x:=⟨mJ n x.l.num a (Hh q),none,0⟩) AY (by omega)) ?_;rintro _ w92 ⟨rfl,A88,c89,azr,azs,CF⟩;refine ⟨_,rfl,?_⟩;refine aJ 2 ?_;refine bT (l':=[]) trivial (aY (rs:=[]) (vs:=[]) rfl trivial ?_);have ET:=CF.aR [3,2];have Du:=ET.dU [6,6,3,3,6,6,6];exact ⟨rfl,λh=>absurd h (by unfold serves;omega),λ_=>⟨A88,c89,azr,azs,Du⟩⟩
end
section
open ChangeShapes WideShapes ChangeAt RowKit
section
variable {K:CK} {B n q:Nat} {w0 w w':World} {fs N Ls L:List Fact} {m m':Cl} {H H':List LX} {R:CX} {X X':Nd} {z z':NX}
theorem wZ {b:bK} (h:au b=0): -2<=b.ep/\b.ep<=2000000:=by
 have h1:=(dQ h).1;unfold bD at h1;omega
theorem dN.at_ (h:dN K L n X z) (hq:q<4): ∃ y,z.bx[q]? =some y/\y.b=X.bs q/\Bb L y:=by
 have hl:z.bx.length=4:=by have:=congrArg List.length h.Qi;simpa [vB] using this
 refine ⟨z.bx[q],List.getElem?_eq_getElem (by omega),?_,h.R7 _ (List.getElem_mem _)⟩;have h1:(z.bx.map BX.b)[q]? =some (z.bx[q]).b:=by rw [List.getElem?_map,List.getElem?_eq_getElem (by omega)];rfl
 rw [h.Qi] at h1;have h2:q=0\/q=1\/q=2\/q=3:=by omega
 rcases h2 with rfl | rfl | rfl | rfl<;>(simp only [vB] at h1;exact (Option.some.inj h1).symm)
theorem IK {bx:List BX} {f:Nat->bK} {y:BX} (h:bx.map BX.b=vB f) (hq:q<4):(bx.set q y).map BX.b=vB (upd f q y.b):=by rw [List.map_set,h,UA hq]
theorem DF {bx:List BX} {y:BX} (h: ∀ u∈bx,Bb L u) (hy:Bb L y): ∀ u∈bx.set q y,Bb L u:=λu hu=>by
 rcases List.mem_or_eq_of_mem_set hu with h1 | h1
 ·exact h u h1
 rw [h1];exact hy
def CX.go (R:CX) (n:Nat) (z':NX) (fA:Option Addr) (fc:Nat) (fx:List LX) (sA:Option Addr) (sc:Nat) (tA:Option Addr) (tc:Nat) (N:List Fact):CX:=
 { R with nx:=upd R.nx n z',fA:=fA,fc:=fc,fx:=fx,sA:=sA,sc:=sc,tA:=tA,tc:=tc,L:=R.L++N }
theorem Wd.fin {fA sA tA:Option Addr} {fc sc tc kn kw:Nat} {fx:List LX} {rr:List Fact} (hkn:K.nb n=kn) (bY:K.wb=kw) (hrr:fV K R m fs n=rr) (G:Good K R m H) (hn:n<5)
  (S:St B w0 w' (CW kn n X' z'++(CY kw (R.go n z' fA fc fx sA sc tA tc (N++Ls)) m'++(Ls++(rr++N)))))
  (hX:dN K (R.L++(N++Ls)) n X' z') (hf: ∀ u∈fx,u∈R.fx\/Qh (R.L++(N++Ls)) u) (h1:m'.ah=upd m.ah n X') (h2:m'.fly=fx.map LX.l) (hH: ∀ u∈H',u∈H\/Qh (R.L++(N++Ls)) u):Wd K B w0 w' fs m' H':=by
 subst hkn;subst bY;subst hrr;have hsub: ∀ f∈R.L,f∈R.L++(N++Ls):=λf h=>List.mem_append_left _ h;have ez:(R.go n z' fA fc fx sA sc tA tc (N++Ls)).nx n=z':=upd_same _ _ _;have eX:m'.ah n=X':=by rw [h1];exact upd_same _ _ _
 refine Wd.close (n:=n) (R:=R) (m:=m) (N:=N) (Ls:=Ls) (R':=R.go n z' fA fc fx sA sc tA tc (N++Ls)) ?_ (by rw [ez,eX];exact S) hn rfl ?_
 ·refine ⟨h2.symm,λu hu=>(hf u hu).elim (λh=>(G.flo u h).mono hsub) id,λj hj=>?_,G.arr.mono hsub,λu hu=>(hH u hu).elim (λh=>(G.hld u h).mono hsub) id⟩;by_cases e:j=n
  ·subst e;rw [ez,eX];exact hX
  rw [h1,upd_ne e]
  show dN K _ j _ (upd R.nx n z' j)
  rw [upd_ne e];exact (G.kW j hj).mono hsub
 intro j _ hj;exact ⟨by rw [h1,upd_ne hj],upd_ne hj⟩
theorem Wd.dJ {fA sA tA:Option Addr} {fc sc tc kn kw:Nat} {fx:List LX} {rr:List Fact} (hkn:K.nb n=kn) (bY:K.wb=kw) (hrr:fV K R m fs n=rr) (G:Good K R m H) (hn:n<5)
  (S:St B w0 w' (CW kn n X' z'++(CY kw (R.go n z' fA fc fx sA sc tA tc Ls) m'++(Ls++rr))))
  (hX:dN K (R.L++Ls) n X' z') (hf: ∀ u∈fx,u∈R.fx\/Qh (R.L++Ls) u) (h1:m'.ah=upd m.ah n X') (h2:m'.fly=fx.map LX.l) (hH: ∀ u∈H',u∈H\/Qh (R.L++Ls) u):Wd K B w0 w' fs m' H':=
 Wd.fin (N:=[]) hkn bY hrr G hn (by rw [List.append_nil];exact S) hX hf h1 h2 hH
theorem dN.more (h:dN K L n X z):dN K (L++N) n X z:=h.mono λ_ hf=>List.mem_append_left _ hf
theorem dN.hear {hs:Nat->Pl} {su:Nat->Bool} (h:dN K L n X z):dN K L n { X with hints:=hs,sure:=su } z:=⟨h.Qi,h.R7,h.xL,h.ixm,h.ixo,h.tL⟩
theorem mH {x:LX} {P:LX->Prop}: ∀ u∈H,u∈x::H\/P u:=λ_ h=> .inl (List.mem_cons_of_mem _ h)
theorem nZ {fx:List LX} {x:LX} {P:LX->Prop} (hx:P x): ∀ u∈fx++[x],u∈fx\/P u:=λu hu=>(List.mem_append.1 hu).elim .inl λh=>by rw [List.mem_singleton] at h;subst h;exact .inr hx
theorem iQ {l:iD} {c:Nat} (h:l.evs=[]):Qh L ⟨l,none,c⟩:=by
 unfold Qh F7;dsimp only;rw [h];exact ⟨Ro.none_,Nat.zero_le _⟩
theorem rM {f:Fact} (h:f∈Ls):f∈L++(N++Ls):=List.mem_append_right _ (List.mem_append_right _ h)
theorem mLN: ∀ f∈L++N,f∈L++(N++Ls):=λf h=>by rw [<-List.append_assoc];exact List.mem_append_left _ h
end
section
variable {m:Cl} {n q:Nat} {X:Nd} {b:bK} {op:Ev} {num:Int} {a:iZ} {l:iD} {d:List UInt8}
theorem Ej (hX:m.ah n=X) (hb:X.bs q=b) (h:serves b):m.done n q op num a={ m with aV:=m.aV++[⟨n,q,b.ep,op,a,num⟩],shown:=gX m.shown n q (b.ep,b.evs.length),fly:=m.fly++[mJ n num a nowhere] }:=by
 subst hX;subst hb;unfold Cl.done;rw [if_pos h];rfl
theorem IL (hX:m.ah n=X) (hb:X.bs q=b) (h: ¬ serves b):m.done n q op num a={ m with fly:=m.fly++[mJ n num a (X.hints q)] }:=by
 subst hX;subst hb;unfold Cl.done;rw [if_neg h];rfl
theorem aeO {SR:bK×iZ×Bool×Int} (hX:m.ah n=X) (hb:X.bs l.q=b) (hR:gJ b l.op=SR) (h:SR.2.2.1=false):m.serve n l=m.done n l.q l.op l.num SR.2.1:=by
 subst hX;subst hb;subst hR;unfold Cl.serve;rw [if_pos h]
theorem WV {SR:bK×iZ×Bool×Int} (hX:m.ah n=X) (hb:X.bs l.q=b) (hR:gJ b l.op=SR) (h:SR.2.2.1=true) (hw:eG X.data X.syn [fI 2 l.q SR.1.ep 0 l.op]=none):m.serve n l=m.done n l.q l.op l.num (rU 14):=by
 subst hX;subst hb;subst hR;unfold Cl.serve Nd.write;rw [if_neg (by rw [h];simp),hw];rfl
theorem aeP {SR:bK×iZ×Bool×Int} (hX:m.ah n=X) (hb:X.bs l.q=b) (hR:gJ b l.op=SR) (h:SR.2.2.1=true) (hw:eG X.data X.syn [fI 2 l.q SR.1.ep 0 l.op]=some d):
  m.serve n l=m.put n { X with data:=d,pend:=some (.serve l.q SR.1.evs l.op l.num SR.2.1) }:=by
 subst hX;subst hb;subst hR;unfold Cl.serve Nd.write;rw [if_neg (by rw [h];simp),hw];rfl
theorem WW {BR:bK×Int} (hX:m.ah n=X) (hb:X.bs l.q=b) (hR:dz b l.ep l.fr=BR) (h:BR.2≠0):m.offered n l=m:=by
 subst hX;subst hb;subst hR;unfold Cl.offered;rw [if_pos h]
theorem Qk {BR:bK×Int} (hX:m.ah n=X) (hb:X.bs l.q=b) (hR:dz b l.ep l.fr=BR) (h:BR.2=0) (h2:BR.1.ep=b.ep):m.offered n l={ m with fly:=m.fly++[qX n l.q b] }:=by
 subst hX;subst hb;subst hR;unfold Cl.offered;rw [if_neg (λe=>e h),if_pos h2];rfl
theorem Ql {BR:bK×Int} (hX:m.ah n=X) (hb:X.bs l.q=b) (hR:dz b l.ep l.fr=BR) (h:BR.2=0) (h2:BR.1.ep≠b.ep) (hw:eG X.data X.syn [fI 4 l.q BR.1.ep l.fr aP]=none):m.offered n l=m:=by
 subst hX;subst hb;subst hR;unfold Cl.offered Nd.write;rw [if_neg (λe=>e h),if_neg h2,hw];rfl
theorem WX {BR:bK×Int} (hX:m.ah n=X) (hb:X.bs l.q=b) (hR:dz b l.ep l.fr=BR) (h:BR.2=0) (h2:BR.1.ep≠b.ep) (hw:eG X.data X.syn [fI 4 l.q BR.1.ep l.fr aP]=some d):
  m.offered n l=m.put n { X with data:=d,pend:=some (.begun l.q BR.1) }:=by
 subst hX;subst hb;subst hR;unfold Cl.offered Nd.write;rw [if_neg (λe=>e h),if_neg h2,hw];rfl
theorem NJ (hX:m.ah n=X) (hb:X.bs l.q=b) (h:b.tg≠l.fr\/b.ep+1≠l.ep):m.caught n l=m:=by
 subst hX;subst hb;unfold Cl.caught;rw [if_pos h]
theorem WY {BR:bK×Int} (hX:m.ah n=X) (hb:X.bs l.q=b) (hR:bP b l.at_=BR) (h1: ¬ (b.tg≠l.fr\/b.ep+1≠l.ep)) (h:BR.2≠0):m.caught n l=m:=by
 subst hX;subst hb;subst hR;unfold Cl.caught;rw [if_neg h1,if_pos h]
theorem TL {BR:bK×Int} (hX:m.ah n=X) (hb:X.bs l.q=b) (hR:bP b l.at_=BR) (h1: ¬ (b.tg≠l.fr\/b.ep+1≠l.ep)) (h:BR.2=0) (h2:BR.1.role=b.role):
  m.caught n l={ (m.put n { X with bs:=upd X.bs l.q BR.1 }) with fly:=nI n l.q BR.1 l.at_ m.fly }:=by
 subst hX;subst hb;subst hR;unfold Cl.caught;rw [if_neg h1,if_neg (λe=>e h),if_pos h2];have e:((m.aZ n l.q (bP ((m.ah n).bs l.q) l.at_).1).ah n).bs l.q=(bP ((m.ah n).bs l.q) l.at_).1:=by
  unfold Cl.aZ Cl.put;dsimp only;rw [upd_same];exact upd_same _ _ _
 unfold Cl.part nI;rw [e]
 split
 ·rfl
 rfl
theorem TM {BR:bK×Int} (hX:m.ah n=X) (hb:X.bs l.q=b) (hR:bP b l.at_=BR) (h1: ¬ (b.tg≠l.fr\/b.ep+1≠l.ep)) (h:BR.2=0) (h2:BR.1.role≠b.role) (hw:eG X.data X.syn [fI 3 l.q BR.1.ep BR.1.tg aP]=none):m.caught n l=m:=by
 subst hX;subst hb;subst hR;unfold Cl.caught Nd.write;rw [if_neg h1,if_neg (λe=>e h),if_neg h2,hw];rfl
theorem aay {BR:bK×Int} (hX:m.ah n=X) (hb:X.bs l.q=b) (hR:bP b l.at_=BR) (h1: ¬ (b.tg≠l.fr\/b.ep+1≠l.ep)) (h:BR.2=0) (h2:BR.1.role≠b.role) (hw:eG X.data X.syn [fI 3 l.q BR.1.ep BR.1.tg aP]=some d):
  m.caught n l=m.put n { X with data:=d,pend:=some (.iN l.q BR.1 l.at_) }:=by
 subst hX;subst hb;subst hR;unfold Cl.caught Nd.write;rw [if_neg h1,if_neg (λe=>e h),if_neg h2,hw];rfl
theorem adl (hX:m.ah n=X) (hb:X.bs l.q=b) (h:b.role≠4\/b.fr≠l.fr):m.got n l=m:=by
 subst hX;subst hb;unfold Cl.got;rw [if_pos h]
theorem aeQ {BR:bK×Int} (hX:m.ah n=X) (hb:X.bs l.q=b) (hR:dh b l.ep l.at_ l.evs l.last=BR) (h1: ¬ (b.role≠4\/b.fr≠l.fr)) (h:BR.2=2):m.got n l={ m with fly:=m.fly++[qX n l.q b] }:=by
 subst hX;subst hb;subst hR;unfold Cl.got;rw [if_neg h1,if_pos h];rfl
theorem R8 {BR:bK×Int} (hX:m.ah n=X) (hb:X.bs l.q=b) (hR:dh b l.ep l.at_ l.evs l.last=BR) (h1: ¬ (b.role≠4\/b.fr≠l.fr)) (h:BR.2≠2) (h2:BR.2≠0\/BR.1.evs.length=b.evs.length):m.got n l=m:=by
 subst hX;subst hb;subst hR;unfold Cl.got;rw [if_neg h1,if_neg h,if_pos h2]
theorem R9 {BR:bK×Int} (hX:m.ah n=X) (hb:X.bs l.q=b) (hR:dh b l.ep l.at_ l.evs l.last=BR) (h1: ¬ (b.role≠4\/b.fr≠l.fr)) (h:BR.2≠2) (h2: ¬ (BR.2≠0\/BR.1.evs.length=b.evs.length))
  (hw:eG X.data X.syn (uq l.q BR.1 b.evs.length (l.at_.toNat+l.evs.length) l.last)=none):m.got n l=m:=by
 subst hX;subst hb;subst hR;unfold Cl.got Nd.write;rw [if_neg h1,if_neg h,if_neg h2,hw];rfl
theorem adn {BR:bK×Int} (hX:m.ah n=X) (hb:X.bs l.q=b) (hR:dh b l.ep l.at_ l.evs l.last=BR) (h1: ¬ (b.role≠4\/b.fr≠l.fr)) (h:BR.2≠2) (h2: ¬ (BR.2≠0\/BR.1.evs.length=b.evs.length))
  (hw:eG X.data X.syn (uq l.q BR.1 b.evs.length (l.at_.toNat+l.evs.length) l.last)=some d):m.got n l=m.put n { X with data:=d,pend:=some (.got l.q BR.1 l.last) }:=by
 subst hX;subst hb;subst hR;unfold Cl.got Nd.write;rw [if_neg h1,if_neg h,if_neg h2,hw];rfl
theorem aaz {BR:bK×Int} (hX:m.ah n=X) (hb:X.bs l.q=b) (hR:gq b l.ep=BR) (h:BR.2≠0):m.learnt n l=m.put n (X.hear n l):=by
 subst hX;subst hb;subst hR;unfold Cl.learnt;rw [if_pos h]
theorem TN {BR:bK×Int} (hX:m.ah n=X) (hb:X.bs l.q=b) (hR:gq b l.ep=BR) (h:BR.2=0) (hw:eG X.data X.syn [fI 7 l.q b.ep 0 aP]=none):m.learnt n l=m.put n (X.hear n l):=by
 subst hX;subst hb;subst hR;unfold Cl.learnt Nd.write;rw [if_neg (λe=>e h)];have hw':eG ((m.ah n).hear n l).data ((m.ah n).hear n l).syn [fI 7 l.q ((m.ah n).bs l.q).ep 0 aP]=none:=hw;rw [hw'];rfl
theorem aaA {BR:bK×Int} (hX:m.ah n=X) (hb:X.bs l.q=b) (hR:gq b l.ep=BR) (h:BR.2=0) (hw:eG X.data X.syn [fI 7 l.q b.ep 0 aP]=some d):
  m.learnt n l=m.put n { (X.hear n l) with data:=d,pend:=some (.forget l.q BR.1) }:=by
 subst hX;subst hb;subst hR;unfold Cl.learnt Nd.write;rw [if_neg (λe=>e h)];have hw':eG ((m.ah n).hear n l).data ((m.ah n).hear n l).syn [fI 7 l.q ((m.ah n).bs l.q).ep 0 aP]=some d:=hw;rw [hw'];rfl
end
end
section
open ChangeShapes WideShapes RowKit
section
variable {xo yo:Operand} {w:World} {f:Fn} {xs ys:Array Value}
theorem aks {d:Nat}:(Op.equalIn (d+1) 85 (.func f xs ys) .nilFunc).run Tryz.prog w= .ok false w:=by
 unfold Op.equalIn;simp [Tryz.underlying85]
theorem akt {d:Nat}:(Op.equalIn (d+1) 85 .nilFunc .nilFunc).run Tryz.prog w= .ok true w:=by
 unfold Op.equalIn;simp [Tryz.underlying85]
theorem xg:(do eqGuard .neq 85 xo yo (.func f xs ys) .nilFunc;binOp .neq 85 (.func f xs ys) .nilFunc:Sem Value).run Tryz.prog w= .ok (.bool true) w:=by
 have h1:(eqGuard .neq 85 xo yo (.func f xs ys) .nilFunc)=pure ():=by unfold eqGuard;rfl
 have h2:binOp .neq 85 (.func f xs ys) .nilFunc=(do let b<-Op.equalIn (9999+1) 85 (.func f xs ys) .nilFunc;pure (.bool (!b))):=by unfold binOp;rfl
 rw [h1,h2];simp [aks]
theorem JO:(do eqGuard .neq 85 xo yo .nilFunc .nilFunc;binOp .neq 85 .nilFunc .nilFunc:Sem Value).run Tryz.prog w= .ok (.bool false) w:=by
 have h1:(eqGuard .neq 85 xo yo .nilFunc .nilFunc)=pure ():=by unfold eqGuard;rfl
 have h2:binOp .neq 85 .nilFunc .nilFunc=(do let b<-Op.equalIn (9999+1) 85 .nilFunc .nilFunc;pure (.bool (!b))):=by unfold binOp;rfl
 rw [h1,h2];simp [akt]
theorem JQ:(do eqGuard .eql 85 xo yo (.func f xs ys) .nilFunc;binOp .eql 85 (.func f xs ys) .nilFunc:Sem Value).run Tryz.prog w= .ok (.bool false) w:=by
 have h1:(eqGuard .eql 85 xo yo (.func f xs ys) .nilFunc)=pure ():=by unfold eqGuard;rfl
 have h2:binOp .eql 85 (.func f xs ys) .nilFunc=(do let b<-Op.equalIn (9999+1) 85 (.func f xs ys) .nilFunc;pure (.bool b)):=by unfold binOp;rfl
 rw [h1,h2];simp [aks]
theorem Sb:(do eqGuard .eql 85 xo yo .nilFunc .nilFunc;binOp .eql 85 .nilFunc .nilFunc:Sem Value).run Tryz.prog w= .ok (.bool true) w:=by
 have h1:(eqGuard .eql 85 xo yo .nilFunc .nilFunc)=pure ():=by unfold eqGuard;rfl
 have h2:binOp .eql 85 .nilFunc .nilFunc=(do let b<-Op.equalIn (9999+1) 85 .nilFunc .nilFunc;pure (.bool b)):=by unfold binOp;rfl
 rw [h1,h2];simp [akt]
end
def fM.fit:fM->Prop
 | .serve q evs _ _ _=>q<4/\evs.length<=2000
 | .begun q _=>q<4
 | .got q _ _=>q<4
 | .iN q b _=>q<4/\au b=0
 | .forget q _=>q<4
noncomputable def Cl.more (w:Cl) (n:Nat):Cl:=if (w.ah n).pend=none then Cl.drain n (w.ah n).inbox w else w
def Nd.box (X:Nd) (r:List iD):Nd:={ X with inbox:=r }
section
variable {m:Cl} {n q:Nat} {X:Nd} {b b':bK}
theorem sS {α:Type} (f:Nat->α) (k:Nat) (u v:α):upd (upd f k u) k v=upd f k v:=by
 funext j
 unfold upd
 split<;>rfl
theorem F8 (h:(m.ah n).pend≠none):m.more n=m:=if_neg h
theorem Sc (h:(m.ah n).inbox=[]):m.more n=m:=by
 unfold Cl.more;rw [h]
 split<;>rfl
theorem uz {l:iD} {r:List iD} (h:(m.ah n).pend=none) (h1:(m.ah n).inbox=l::r) (hq:l.q<4):m.more n=((m.put n ((m.ah n).box r)).handle n l).more n:=by
 show m.more n=((m.put n { m.ah n with inbox:=r }).handle n l).more n
 have e:=(yC (m:=m.put n { m.ah n with inbox:=r }) (n:=n) (l:=l) hq).mK;rw [show (m.put n { m.ah n with inbox:=r }).ah n={ m.ah n with inbox:=r } from upd_same _ _ _] at e;unfold Cl.more;rw [if_pos h,h1,Cl.drain,e]
theorem Bd (h:(m.ah n).up=false):m.step n=m:=if_pos h
theorem uD (h:(m.ah n).up=true) (h1:(m.ah n).pend=none):m.step n=if ((m.more n).ah n).pend=none then (m.more n).Ld n else m.more n:=by
 unfold Cl.step;rw [if_neg (by rw [h];simp),h1];unfold Cl.more;rw [if_pos h1]
def Nd.jI (X:Nd):Nd:={ X with syn:=X.data.length,pend:=none }
def Nd.aZ (X:Nd) (q:Nat) (b:bK):Nd:={ X with bs:=upd X.bs q b }
theorem uH (X:Nd) (q:Nat) (b:bK):(m.put n X).aZ n q b=m.put n (X.aZ q b):=by
 unfold Cl.aZ Cl.put;dsimp only;rw [upd_same,sS];rfl
theorem qM {p:fM} (hX:m.ah n=X) (hu:X.up=true) (hp:X.pend=some p):m.step n=(m.put n X.jI).zn n p:=by
 subst hX;unfold Cl.step;rw [if_neg (by rw [hu];simp),hp];rfl
theorem bM (X:Nd):(m.put n X).ah n=X:=upd_same _ _ _
theorem qg {evs:List Ev} {op:Ev} {num:Int} {a:iZ} (hX:m.ah n=X) (hu:X.up=true) (hp:X.pend=some (.serve q evs op num a)) (hb:X.bs q=b) (hs:serves b):
  m.step n={ (m.put n (X.jI.aZ q { b with evs:=evs })) with aV:=m.aV++[⟨n,q,b.ep,op,a,num⟩],shown:=gX m.shown n q (b.ep,evs.length),fly:=m.fly++[mJ n num a nowhere] }:=by
 rw [qM hX hu hp]
 show ((m.put n X.jI).aZ n q { ((m.put n X.jI).ah n).bs q with evs:=evs }).done n q op num a=_
 rw [bM,uH,show X.jI.bs q=b from hb];rw [Ej (b:={ b with evs:=evs }) (bM _) (upd_same _ _ _) hs];rfl
theorem Ms {evs:List Ev} {op:Ev} {num:Int} {a:iZ} (hX:m.ah n=X) (hu:X.up=true) (hp:X.pend=some (.serve q evs op num a)) (hb:X.bs q=b) (hs: ¬ serves b):
  m.step n={ (m.put n (X.jI.aZ q { b with evs:=evs })) with fly:=m.fly++[mJ n num a (X.hints q)] }:=by
 rw [qM hX hu hp]
 show ((m.put n X.jI).aZ n q { ((m.put n X.jI).ah n).bs q with evs:=evs }).done n q op num a=_
 rw [bM,uH,show X.jI.bs q=b from hb];rw [IL (b:={ b with evs:=evs }) (bM _) (upd_same _ _ _) hs];rfl
theorem yE (hX:m.ah n=X) (hu:X.up=true) (hp:X.pend=some (.begun q b)):m.step n={ (m.put n (X.jI.aZ q b)) with fly:=m.fly++[qX n q b] }:=by
 rw [qM hX hu hp]
 show ((m.put n X.jI).aZ n q b).have_ n q=_
 rw [uH];unfold Cl.have_ Cl.send;rw [bM,show (X.jI.aZ q b).bs q=b from upd_same _ _ _];rfl
theorem rX (hX:m.ah n=X) (hu:X.up=true) (hp:X.pend=some (.got q b true)):
  m.step n={ (m.put n { (X.jI.aZ q b) with sure:=upd X.sure q false }) with aV:=m.aV++[⟨n,q,b.ep,aM,eH,-1⟩],shown:=gX m.shown n q (b.ep,b.evs.length) }:=by
 rw [qM hX hu hp];unfold Cl.zn;dsimp only;rw [if_pos rfl,uH];simp only [bM];unfold Cl.tell Cl.put;dsimp only;rw [sS,upd_same]
 show ({ m with ah:=_,aV:=m.aV++[⟨n,q,((X.jI.aZ q b).bs q).ep,aM,eH,-1⟩],shown:=gX m.shown n q (((X.jI.aZ q b).bs q).ep,((X.jI.aZ q b).bs q).evs.length) }:Cl)=_
 rw [show (X.jI.aZ q b).bs q=b from upd_same _ _ _];rfl
theorem El (hX:m.ah n=X) (hu:X.up=true) (hp:X.pend=some (.got q b false)):m.step n={ (m.put n (X.jI.aZ q b)) with fly:=m.fly++[qX n q b] }:=by
 rw [qM hX hu hp];unfold Cl.zn;dsimp only;rw [if_neg (by simp),uH];unfold Cl.have_ Cl.send;rw [bM,show (X.jI.aZ q b).bs q=b from upd_same _ _ _];rfl
theorem Bf {at_:Int} (hX:m.ah n=X) (hu:X.up=true) (hp:X.pend=some (.iN q b at_)):m.step n={ (m.put n (X.jI.aZ q b)) with fly:=nI n q b at_ m.fly }:=by
 rw [qM hX hu hp]
 show ((m.put n X.jI).aZ n q b).part n q at_=_
 rw [uH];unfold Cl.part Cl.send nI;rw [bM,show (X.jI.aZ q b).bs q=b from upd_same _ _ _]
 split
 ·rfl
 rfl
theorem vX (hX:m.ah n=X) (hu:X.up=true) (hp:X.pend=some (.forget q b)):m.step n=m.put n (X.jI.aZ q b):=by
 rw [qM hX hu hp]
 show (m.put n X.jI).aZ n q b=_
 rw [uH]
end
theorem ai0 {P:Program} {t e:TypeId} {A:Option Addr} {n c s:Nat} (k:Nat) (hu:P.underlying t=some (.slice e)) (hz:(P.info? e).map (·.size)=some s) (hk:k<=n) (w:World):
  (Instr.sliceAt t (.slice A n c) (some (.int .i64 ((k:Nat):Int))) none none).run P w= .ok (.slice (if c=k then A else A.map (·.add (k*s))) (n-k) (c-k)) w:=by
 obtain ⟨z,hq,hs⟩: ∃ z,P.info? e=some z/\z.size=s:=by
  cases h:P.info? e with
  | none=>simp [h] at hz
  | some z=>exact ⟨z,rfl,by simpa [h] using hz⟩
 have h1:(sizeOf e).run P w= .ok s w:=by simp [sizeOf,typeInfo,hq,hs,Sem.run_bind,Result.andThen]
 have hb:=λw=>afP (P:=P) (n:=n) (c:=c) (kd:= .i64) k rfl hk w;simp [Instr.sliceAt,Instr.slice,run_underlying hu,Sem.run_bind,Result.andThen,hb,h1]
section
variable {K:CK} {B n:Nat} {w0 w w':World} {fs gs:List Fact} {m:Cl} {H:List LX}
theorem Wd.on (h:Wd K B w0 w fs m H) (hb:Below w.heap.size w w'):Wd K B w0 w' fs m H:=by
 obtain ⟨R,G,S⟩:=h;exact ⟨R,G,S.on hb⟩
theorem Wd.ext (h:Wd K B w0 w fs m H) (T:St w.heap.size w w' gs) (hg:gs.all Fact.Hr=true):Wd K B w0 w' (gs++fs) m H:=by
 obtain ⟨R,G,S⟩:=h;refine ⟨R,G,?_⟩;have:=S.ext T hg;rwa [<-List.append_assoc] at this
theorem Wd.wM (h:Wd K B w0 w (gs++fs) m H):St B w0 w gs:=by
 obtain ⟨R,_,S⟩:=h;exact S.sub (by rw [List.append_assoc];exact List.sublist_append_left _ _)
theorem Wd.less (h:Wd K B w0 w (gs++fs) m H):Wd K B w0 w fs m H:=by
 obtain ⟨R,G,S⟩:=h;exact ⟨R,G,S.sub (by rw [List.append_assoc];exact List.sublist_append_right _ _)⟩
theorem Wd.drew (h:Wd K B w0 w fs m H):Wd K B w0 w.drew fs m H:=by
 obtain ⟨R,G,S⟩:=h;exact ⟨R,G,S.drew⟩
end
theorem rO: ∀ {rs:List dB} {l:List UInt8} {s:Int} {d:List UInt8},eG l s rs=some d->d=l++bJ rs/\(∀ r∈rs,aL r=0)/\(l.length<=100000->d.length<=100000)
 | [],l,s,d,h=>by
  cases h;exact ⟨by simp [bJ],λr hr=>by simp at hr,λh=>h⟩
 | r::rs,l,s,d,h=>by
  rw [eG] at h
  split at h
  ·cases h
  rename_i h1
  obtain ⟨h2,h3,h4⟩:=Ns (Classical.not_not.1 h1);rw [h2] at h;obtain ⟨h5,h6,h7⟩:=rO h;refine ⟨by rw [h5];simp [bJ,List.flatMap_cons],λx hx=>?_,λhl=>h7 (by rw [List.length_append];omega)⟩
  rcases List.mem_cons.1 hx with rfl | hx
  ·exact h3
  exact h6 x hx
theorem C8: ∀ {rs:List dB} {l:List UInt8} {s:Int},(∀ r∈rs,aL r=0)->0<=s->s<=l.length->l.length+46*rs.length<=100000->eG l s rs=some (l++bJ rs)
 | [],l,s,_,_,_,_=>by simp [eG,bJ]
 | r::rs,l,s,h,h0,h1,h2=>by
  rw [List.length_cons] at h2;have hw:=aem (h r (by simp)) h0 h1 (by omega);have:=zK r;rw [eG,hw,if_neg (by simp),C8 (λx hx=>h x (by simp [hx])) h0 (by rw [List.length_append];omega) (by rw [List.length_append];omega)];simp [bJ,List.flatMap_cons]
theorem ai1 {Q:Qd} {e:Ev} (h:(iL Q e).2.2.1=true):(iL Q e).2.2.2=0:=by
 unfold iL at h⊢
 split at h
 ·cases h
 rename_i h1
 rw [if_neg h1]
 split at h
 ·cases h
 rename_i h2;rw [if_neg h2]
theorem ai2 {Q:Qd} {e:Ev} (h:(iL Q e).2.2.2=0):bq e=0:=by
 unfold iL at h
 split at h
 ·rename_i h1;exact absurd h h1
 split at h
 ·rename_i h2;exact absurd h h2
 rename_i h2;exact Classical.not_not.1 h2
theorem JR: ∀ {n:Nat} {l:List Ev},l.length=n->good l-> ∀ e∈l,bq e=0
 | 0,l,hn,_,e,he=>by rw [List.length_eq_zero_iff.1 hn] at he;simp at he
 | n+1,l,hn,h,e,he=>by
  have e1:l=l.take n++[l[n]]:=by rw [<-oI (by omega),<-hn,List.take_length]
  have h':good (l.take n++[l[n]]):=e1▸h;rw [e1] at he
  rcases List.mem_append.1 he with he | he
  ·exact JR (n:=n) (by rw [List.length_take];omega) (qL h) e he
  rw [List.mem_singleton] at he;rw [he];exact ai2 (good_step h').1
section
variable {b:bK} {e:Ev}
theorem WZ (h: ¬ (gJ b e).2.2.1=false):au b=0/\bq e=0/\serves b/\(iL (aH b.evs).1 e).2.2.1=true/\b.evs.length<1999/\e.kind≠4/\gJ b e=({ b with evs:=b.evs++[e] },(iL (aH b.evs).1 e).2.1,true,0):=by
 unfold gJ at h⊢;by_cases c1:au b≠0
 ·rw [if_pos c1] at h;exact absurd rfl h
 rw [if_neg c1] at h⊢;by_cases c2:bq e≠0
 ·rw [if_pos c2] at h;exact absurd rfl h
 rw [if_neg c2] at h⊢;by_cases c3:e.kind=4
 ·rw [if_pos c3] at h;exact absurd rfl h
 rw [if_neg c3] at h⊢;by_cases c4:b.role=3
 ·rw [if_pos c4] at h;exact absurd rfl h
 rw [if_neg c4] at h⊢;by_cases c5:b.role≠1/\b.role≠2
 ·rw [if_pos c5] at h;exact absurd rfl h
 rw [if_neg c5] at h⊢;by_cases c6:(iL (aH b.evs).1 e).2.2.1=false
 ·rw [if_pos c6] at h;exact absurd rfl h
 rw [if_neg c6] at h⊢;by_cases c7:1999<=b.evs.length
 ·rw [if_pos c7] at h;exact absurd rfl h
 rw [if_neg c7];exact ⟨Classical.not_not.1 c1,Classical.not_not.1 c2,by unfold serves;omega,by simpa using c6,by omega,c3,rfl⟩
theorem aeR {ep fr:Int} (h: ¬ (dz b ep fr).2≠0) (h2: ¬ (dz b ep fr).1.ep=b.ep):(b.role=0\/b.role=4)/\b.ep<ep/\1<=ep/\ep<=1048576/\0<=fr/\fr<=4/\dz b ep fr=(⟨4,ep,fr,0,0,[]⟩,0):=by
 unfold dz at h h2⊢;by_cases c1:au b≠0
 ·rw [if_pos c1] at h;exact absurd c1 h
 rw [if_neg c1] at h h2⊢;by_cases c2: ¬ (1<=ep/\ep<=1048576/\0<=fr/\fr<=4)
 ·rw [if_pos c2] at h;exact absurd (by decide) h
 rw [if_neg c2] at h h2⊢;by_cases c3:b.role≠0/\b.role≠4
 ·rw [if_pos c3] at h;exact absurd (by decide) h
 rw [if_neg c3] at h h2⊢;by_cases c4:b.role=4/\b.ep=ep/\b.fr=fr
 ·rw [if_pos c4] at h2;exact absurd rfl h2
 rw [if_neg c4] at h h2⊢;by_cases c5:ep<=b.ep
 ·rw [if_pos c5] at h;exact absurd (by decide) h
 rw [if_neg c5];have c2':=Classical.not_not.1 c2;exact ⟨by omega,by omega,c2'.1,c2'.2.1,c2'.2.2.1,c2'.2.2.2,rfl⟩
theorem W9 {ep fr:Int} (h: ¬ (dz b ep fr).2≠0) (h2:(dz b ep fr).1.ep=b.ep):b.role=4/\b.ep=ep/\b.fr=fr:=by
 unfold dz at h h2;by_cases c1:au b≠0
 ·rw [if_pos c1] at h;exact absurd c1 h
 rw [if_neg c1] at h h2;by_cases c2: ¬ (1<=ep/\ep<=1048576/\0<=fr/\fr<=4)
 ·rw [if_pos c2] at h;exact absurd (by decide) h
 rw [if_neg c2] at h h2;by_cases c3:b.role≠0/\b.role≠4
 ·rw [if_pos c3] at h;exact absurd (by decide) h
 rw [if_neg c3] at h h2;by_cases c4:b.role=4/\b.ep=ep/\b.fr=fr
 ·exact c4
 rw [if_neg c4] at h h2;by_cases c5:ep<=b.ep
 ·rw [if_pos c5] at h;exact absurd (by decide) h
 rw [if_neg c5] at h2;exact absurd (show ep=b.ep from h2) (by omega)
def IQ (b:bK) (at_:Int) (l:List Ev):List Ev:=b.evs++l.drop (b.evs.length-at_.toNat)
def vY (b:bK) (at_:Int) (l:List Ev) (last:Bool):bK:=if last=true then ⟨1,b.ep,0,0,0,IQ b at_ l++[aM]⟩ else { b with evs:=IQ b at_ l }
theorem aaB {ep at_:Int} {l:List Ev} {last:Bool} (h: ¬ (dh b ep at_ l last).2≠0):b.role=4/\b.ep=ep/\0<=at_/\at_<=b.evs.length/\(b.evs.drop at_.toNat).take l.length=l.take (b.evs.length-at_.toNat)/\
  (last=true->b.evs.length<=at_.toNat+l.length)/\au (vY b at_ l last)=0/\dh b ep at_ l last=(vY b at_ l last,0):=by
 unfold dh at h⊢;by_cases c1:au b≠0
 ·rw [if_pos c1] at h;exact absurd c1 h
 rw [if_neg c1] at h⊢;by_cases c2:b.role≠4
 ·rw [if_pos c2] at h;exact absurd (by decide) h
 rw [if_neg c2] at h⊢;by_cases c3:b.ep≠ep
 ·rw [if_pos c3] at h;exact absurd (by decide) h
 rw [if_neg c3] at h⊢;have c3':b.ep=ep:=Classical.not_not.1 c3;subst c3';by_cases c4: ¬ (0<=at_/\at_<=b.evs.length)
 ·rw [if_pos c4] at h;exact absurd (by decide) h
 rw [if_neg c4] at h⊢;by_cases c5: ¬ (b.evs.drop at_.toNat).take l.length=l.take (b.evs.length-at_.toNat)
 ·rw [if_pos c5] at h;exact absurd (by decide) h
 rw [if_neg c5] at h⊢;by_cases c6:last=true/\at_.toNat+l.length<b.evs.length
 ·rw [if_pos c6] at h;exact absurd (by decide) h
 rw [if_neg c6] at h⊢;change ¬ (if au (vY b at_ l last)≠0 then (bG,(3:Int)) else (vY b at_ l last,0)).2≠0 at h
 show _/\_/\_/\_/\_/\_/\_/\(if au (vY b at_ l last)≠0 then (bG,(3:Int)) else (vY b at_ l last,0))=_
 by_cases c7:au (vY b at_ l last)≠0
 ·rw [if_pos c7] at h;exact absurd (by decide) h
 have c4':=Classical.not_not.1 c4;rw [if_neg c7];exact ⟨Classical.not_not.1 c2,rfl,c4'.1,c4'.2,Classical.not_not.1 c5,λhl=>by by_cases h9:at_.toNat+l.length<b.evs.length;exact absurd ⟨hl,h9⟩ c6;omega,Classical.not_not.1 c7,rfl⟩
theorem Qm {hv:Int} (h: ¬ (bP b hv).2≠0):0<=hv/\hv<=b.evs.length/\((b.role=3/\bP b hv=(b,0))\/(b.role=2/\(hv=b.evs.length\/b.rd=4)/\bP b hv=({ b with role:=3,rd:=0 },0))\/(b.role=2/\ ¬ (hv=b.evs.length\/b.rd=4)/\bP b hv=({ b with rd:=b.rd+1 },0))):=by
 unfold bP at h⊢;by_cases c1:au b≠0
 ·rw [if_pos c1] at h;exact absurd c1 h
 rw [if_neg c1] at h⊢;by_cases c2:b.role≠2/\b.role≠3
 ·rw [if_pos c2] at h;exact absurd (by decide) h
 rw [if_neg c2] at h⊢;by_cases c3: ¬ (0<=hv/\hv<=b.evs.length)
 ·rw [if_pos c3] at h;exact absurd (by decide) h
 rw [if_neg c3] at h⊢;have c3':=Classical.not_not.1 c3;refine ⟨c3'.1,c3'.2,?_⟩;by_cases c4:b.role=3
 ·rw [if_pos c4];exact .inl ⟨c4,rfl⟩
 rw [if_neg c4];by_cases c5:hv=b.evs.length\/b.rd=4
 ·rw [if_pos c5];exact .inr (.inl ⟨by omega,c5,rfl⟩)
 rw [if_neg c5];exact .inr (.inr ⟨by omega,c5,rfl⟩)
theorem aaC {ep:Int} (h: ¬ (gq b ep).2≠0):b.role=3/\b.ep<ep/\gq b ep=(⟨0,b.ep,0,0,0,[]⟩,0):=by
 unfold gq at h⊢;by_cases c1:au b≠0
 ·rw [if_pos c1] at h;exact absurd c1 h
 rw [if_neg c1] at h⊢;by_cases c2:b.role≠3
 ·rw [if_pos c2] at h;exact absurd (by decide) h
 rw [if_neg c2] at h⊢;by_cases c3:ep<=b.ep
 ·rw [if_pos c3] at h;exact absurd (by decide) h
 rw [if_neg c3];exact ⟨Classical.not_not.1 c2,by omega,rfl⟩
theorem ai3 {ep:Int} (h: ¬ (iX b ep).2≠0):b.role=0/\b.ep<ep/\iX b ep=(⟨1,ep,0,0,0,[]⟩,0):=by
 unfold iX at h⊢;by_cases c1:au b≠0
 ·rw [if_pos c1] at h;exact absurd c1 h
 rw [if_neg c1] at h⊢;by_cases c2: ¬ (1<=ep/\ep<=1048576)
 ·rw [if_pos c2] at h;exact absurd (by decide) h
 rw [if_neg c2] at h⊢;by_cases c3:b.role≠0
 ·rw [if_pos c3] at h;exact absurd (by decide) h
 rw [if_neg c3] at h⊢;by_cases c4:ep<=b.ep
 ·rw [if_pos c4] at h;exact absurd (by decide) h
 rw [if_neg c4];exact ⟨Classical.not_not.1 c3,by omega,rfl⟩
theorem go_ok {tg:Int} (h:(zL b tg).2=0):b.role=1/\0<=tg/\tg<=4/\zL b tg=(⟨2,b.ep,0,tg,0,b.evs⟩,0):=by
 unfold zL at h⊢;by_cases c1:au b≠0
 ·rw [if_pos c1] at h;exact absurd h c1
 rw [if_neg c1] at h⊢;by_cases c2: ¬ (0<=tg/\tg<=4)
 ·rw [if_pos c2] at h;exact absurd h (by decide)
 rw [if_neg c2] at h⊢;by_cases c3:b.role=2\/b.role=3
 ·rw [if_pos c3] at h;exact absurd h (by decide)
 rw [if_neg c3] at h⊢;by_cases c4:b.role≠1
 ·rw [if_pos c4] at h;exact absurd h (by decide)
 rw [if_neg c4] at h⊢;by_cases c5:b.ep=1048576
 ·rw [if_pos c5] at h;exact absurd h (by decide)
 rw [if_neg c5];have c2':=Classical.not_not.1 c2;exact ⟨Classical.not_not.1 c4,c2'.1,c2'.2,rfl⟩
theorem Yx (hr:b.role=1) (h: ¬ (eU b).2≠0):au ⟨1,b.ep,0,0,0,b.evs++[aM]⟩=0/\eU b=(⟨1,b.ep,0,0,0,b.evs++[aM]⟩,0):=by
 unfold eU at h⊢;by_cases c1:au b≠0
 ·rw [if_pos c1] at h;exact absurd c1 h
 rw [if_neg c1] at h⊢;rw [if_neg (by omega)] at h⊢;by_cases c3:au ⟨1,b.ep,0,0,0,b.evs++[aM]⟩≠0
 ·rw [if_pos c3] at h;exact absurd (by decide) h
 rw [if_neg c3];exact ⟨Classical.not_not.1 c3,rfl⟩
theorem NK {hv:Int} (h: ¬ (iI b hv).2.2≠0):(b.role=2\/b.role=3)/\0<=hv/\hv<=b.evs.length/\iI b hv=((b.evs.drop hv.toNat).take 3,decide (b.role=3/\b.evs.length<=hv.toNat+3),0):=by
 unfold iI at h⊢;by_cases c1:au b≠0
 ·rw [if_pos c1] at h;exact absurd c1 h
 rw [if_neg c1] at h⊢;by_cases c2:b.role≠2/\b.role≠3
 ·rw [if_pos c2] at h;exact absurd (by decide) h
 rw [if_neg c2] at h⊢;by_cases c3: ¬ (0<=hv/\hv<=b.evs.length)
 ·rw [if_pos c3] at h;exact absurd (by decide) h
 rw [if_neg c3];have c3':=Classical.not_not.1 c3;exact ⟨by omega,c3'.1,c3'.2,rfl⟩
end
structure uX (X:Nd) (rs us:List dB):Prop where
 data:X.data=bJ (rs++us)
 syn:X.syn=(bJ rs).length
 tape:iH rs λq=>jO (X.bs q)
 nu: ∀ q,q<4->au (X.bs q)=0
 Yy:X.pend=none->us=[]
 UD: ∀ p,X.pend=some p->us=p.rs X.bs/\p.ok X.bs/\p.q<4
 len:X.data.length<=100000
structure F9 (X:Nd) (rs:List dB) (t:List UInt8) (f:Nat->bK):Prop where
 data:X.data=bJ rs++t
 arn:(firstM t).2=0
 tape:iH rs f
 nu: ∀ q,q<4->au (f q)=0/\(f q).role≠2
 syn:0<=X.syn/\X.syn<=X.data.length
 len:X.data.length<=100000
 tL:X.pend=none
 mK:X.inbox=[]
 bz: ∀ q,q<4->au (X.bs q)=0
theorem OV:au bG=0:=l9 (.inl ⟨rfl,by decide,by decide,rfl,rfl,rfl,rfl⟩) wY
def Ga (X:Nd):Prop:=(X.up=true/\ ∃ rs us,uX X rs us)\/(X.up=false/\ ∃ rs t f,F9 X rs t f)
section
variable {X:Nd} {rs us:List dB} {t:List UInt8} {f:Nat->bK} {q:Nat} {p:fM}
theorem Ga.Le (h:Ga X) (hu:X.up=true): ∃ rs us,uX X rs us:=h.elim (λh=>h.2) λh=>by rw [h.1] at hu;cases hu
theorem Ga.azt (h:Ga X) (hu:X.up=false): ∃ rs t f,F9 X rs t f:=h.elim (λh=>by rw [h.1] at hu;cases hu) λh=>h.2
theorem uX.may (h:uX X rs us):cO X.data X.syn=true:=by
 have h1:=h.len;have h2:=h.data;rw [kV] at h2;have h3:=congrArg List.length h2;rw [List.length_append] at h3;simp only [cO,h.syn,Bool.and_eq_true,decide_eq_true_eq];omega
theorem F9.may (h:F9 X rs t f):cO X.data X.syn=true:=by
 simp only [cO,Bool.and_eq_true,decide_eq_true_eq];exact ⟨⟨h.len,h.syn.1⟩,h.syn.2⟩
theorem F9.rd (h:F9 X rs t f):jD X.data X.syn=(bJ rs,min X.syn (bJ rs).length,0)/\Ck X.data X.syn=some (vB f)/\ ∀ q,q<4->bI X.data X.syn q=f q:=h.tape.read h.data h.arn h.len h.syn.1 h.syn.2
theorem F9.view (h:F9 X rs t f) (hu:X.up=false) (hq:q<4):X.view q=f q:=by
 unfold Nd.view;rw [if_neg (by rw [hu];simp)];exact h.rd.2.2 q hq
theorem gK (hu:X.up=true):X.view=X.bs:=if_pos hu
def LQ (bs:Nat->bK) (p:fM) (x:bK):Prop:=
 x=jO (bs p.q)\/x=jO (p.b bs)\/ ∃ q b last j,p= .got q b last/\x={ bs q with evs:=b.evs.take ((bs q).evs.length+j) }/\(bs q).evs.length+j+(if last=true then 1 else 0)<=b.evs.length
theorem IU {b:bK} (h:b.role=4\/b.role=0\/b.role=3\/b.role=1):jO b=b:=Eh (by omega)
theorem ai4 {bs:Nat->bK} {b:bK}:upd (λq=>jO (bs q)) q (jO b)=λk=>jO (upd bs q b k):=by
 funext k
 unfold upd
 split<;>rfl
theorem imports {bs:Nat->bK} {ep:Int} {es:List Ev} (h:iH rs λq=>jO (bs q)) (hb:au (bs q)=0) (hr:(bs q).role=4) (dZ:(bs q).ep=ep) (hq:q<4) (hg:good es) (he:(bs q).evs=es.take (bs q).evs.length):
  ∀ j,(bs q).evs.length+j<=es.length->iH (rs++((es.drop (bs q).evs.length).take j).map λx=>fI 5 q ep 0 x) (upd (λq=>jO (bs q)) q { bs q with evs:=es.take ((bs q).evs.length+j) })
 | 0,_=>by
  rw [Nat.add_zero,<-he,List.take_zero,List.map_nil,List.append_nil];exact h.congr λk _=>by
   unfold upd
   split
   ·rename_i e;subst e;exact IU (.inl hr)
   rfl
 | j+1,hj=>by
  have ih:=imports h hb hr dZ hq hg he j (by omega);have hk:(bs q).evs.length+j<es.length:=by omega
  have e1:(es.drop (bs q).evs.length).take (j+1)=(es.drop (bs q).evs.length).take j++[es[(bs q).evs.length+j]]:=by
   rw [oI (by rw [List.length_drop];omega),List.getElem_drop]
  have hg2:good (es.take ((bs q).evs.length+j)++[es[(bs q).evs.length+j]]):=by rw [<-oI hk];exact qL hg
  have hb2:au { bs q with evs:=es.take ((bs q).evs.length+j) }=0:=l9 (ou (fO hb) (by omega) _) (qL hg);obtain ⟨h1,h2,h3⟩:=aan (b:={ bs q with evs:=es.take ((bs q).evs.length+j) }) hb2 hr dZ hq (JR rfl hg _ (List.getElem_mem hk)) hg2;rw [e1,List.map_append,<-List.append_assoc];have:=ih.snoc (q:=q) h2 hq rfl (by rw [upd_same];exact h1);refine this.congr λk _=>?_;unfold upd
  split
  ·dsimp only;rw [<-oI hk,Nat.add_assoc]
  rfl
theorem Jo {bs:Nat->bK} {r:dB} {x:bK} (h:iH rs λq=>jO (bs q)) (hq:q<4) (hr:aL r=0) (hrq:r.queue=q) (ha:dR (jO (bs q)) r=(jO x,0)):iH (rs++[r]) λk=>jO (upd bs q x k):=by
 rw [<-ai4];exact h.snoc hr hq hrq ha
theorem Gb {bs:Nat->bK} {b:bK} {last:Bool} (hp:(fM.got q b last).ok bs): ∃ es,good es/\(bs q).evs=es.take (bs q).evs.length/\(bs q).evs.length<=es.length/\es=b.evs.take es.length/\es.length+(if last=true then 1 else 0)=b.evs.length/\b.ep=(bs q).ep/\
  (fM.got q b last).rs bs=((es.drop (bs q).evs.length).map λx=>fI 5 q b.ep 0 x)++if last=true then [fI 6 q b.ep 0 aP] else []:=by
 obtain ⟨h1,h2,h3,h4,h5⟩:=hp;have hlen: ∀ {es:List Ev},(bs q).evs=es.take (bs q).evs.length->(bs q).evs.length<=es.length:=λ{es} h=>by
  have:=congrArg List.length h;rw [List.length_take] at this;omega
 cases last with
 | false=>
  obtain ⟨h6,h7⟩:=h4 rfl;refine ⟨b.evs,h2,h7,hlen h7,by rw [List.take_length],by simp,by rw [h6],?_⟩;unfold fM.rs uq;simp
 | true=>
  obtain ⟨es,h6,h7⟩:=h5 rfl;subst h6;refine ⟨es,RV h2,h7,hlen h7,by simp,by simp,rfl,?_⟩;unfold fM.rs uq;simp
theorem oJ (h:iH rs λq=>jO (X.bs q)) (hb: ∀ q,q<4->au (X.bs q)=0) (hp:p.ok X.bs) (hq:p.q<4):iH (rs++p.rs X.bs) (λk=>jO (upd X.bs p.q (p.b X.bs) k))/\au (p.b X.bs)=0:=by
 have hbq:=hb _ hq
 cases p with
 | serve q evs op num a=>
  obtain ⟨h1,h2,h3,h4⟩:=hp;have hbq:au (X.bs q)=0:=hbq;have hr:(X.bs q).role≠0:=by unfold serves at h1;omega
  have hb2:au { X.bs q with evs:=evs }=0:=l9 (ou (fO hbq) hr _) h4;have hd:=yB h1 hbq;have hd2:jO { X.bs q with evs:=evs }=⟨1,(X.bs q).ep,0,0,0,evs⟩:=yB (b:={ X.bs q with evs:=evs }) h1 hb2;obtain ⟨a1,a2⟩:=RY (b:=jO (X.bs q)) (q:=q) (e:=op) (uw hbq) (by rw [hd]) UC hq h3 (by rw [aiU,<-h2];exact h4);refine ⟨Jo h hq a2 rfl ?_,hb2⟩
  show dR (jO (X.bs q)) (fI 2 q (X.bs q).ep 0 op)=(jO { X.bs q with evs:=evs },0)
  rw [a1,hd2,hd,h2]
 | begun q b=>
  obtain ⟨h1,e,f,rfl,h2,h3,h4,h5,h6⟩:=hp;have hd:jO (X.bs q)=X.bs q:=IU (by omega);obtain ⟨a1,a2⟩:=aeL (q:=q) hbq h1 h2 ⟨h3,h4⟩ hq ⟨h5,h6⟩;refine ⟨Jo h hq a2 rfl ?_,l9 (.inr ⟨h3,h4,.inr (.inr (.inr ⟨rfl,h5,by show f<5;omega,rfl,rfl⟩))⟩) wY⟩
  show dR (jO (X.bs q)) _=_
  rw [hd];exact a1
 | got q b last=>
  obtain ⟨es,g1,g2,g3,g4,g5,g6,g7⟩:=Gb hp;have hr:(X.bs q).role=4:=hp.1;have hgb:good b.evs:=hp.2.1;have hbq:au (X.bs q)=0:=hbq;have hs:=fO hbq;unfold bD at hs;have hi:=imports h hbq hr g6.symm hq g1 g2 (es.length-(X.bs q).evs.length) (by omega);rw [show (X.bs q).evs.length+(es.length-(X.bs q).evs.length)=es.length by omega,List.take_length,List.take_of_length_le (by rw [List.length_drop];omega)] at hi;rw [g7]
  cases last with
  | false=>
   have e1:=(hp.2.2.2.1 rfl).1;have e2:es=b.evs:=by rw [g4];simp only [Bool.false_eq_true,if_false,Nat.add_zero] at g5;rw [g5,List.take_length]
   subst e2;simp only [Bool.false_eq_true,if_false,List.append_nil];have hr0:(X.bs q).role≠0:=by rw [hr];decide
   have hbk:au b=0:=by rw [e1];exact l9 (ou (fO hbq) hr0 _) hgb
   refine ⟨hi.congr λk _=>?_,hbk⟩
   show _=jO (upd X.bs q b k)
   unfold upd
   split
   ·rw [<-e1];exact (IU (.inl (by rw [e1];exact hr))).symm
   rfl
  | true=>
   obtain ⟨es',e1,e2⟩:=hp.2.2.2.2 rfl;have e3:es=es':=by rw [g4,e1];rw [e1] at g5;simp only [if_true,List.length_append,List.length_singleton] at g5;rw [show es.length=es'.length by omega];simp
   subst e3;subst e1;have hr0:(X.bs q).role≠0:=by rw [hr];decide
   have hb2:au { X.bs q with evs:=es }=0:=l9 (ou (fO hbq) hr0 _) g1;obtain ⟨a1,a2⟩:=aoR (b:={ X.bs q with evs:=es }) (q:=q) hb2 hr rfl hq hgb;have hk:=l9 (b:=⟨1,(X.bs q).ep,0,0,0,es++[aM]⟩) (Ba (by omega) (by omega) _) hgb;simp only [if_true];rw [<-List.append_assoc];have:=hi.snoc (q:=q) a2 hq rfl (by rw [upd_same];exact a1);refine ⟨this.congr λk _=>?_,hk⟩
   show _=jO (upd X.bs q _ k)
   unfold upd
   split
   ·rfl
   rfl
 | iN q b at_=>
  obtain ⟨h1,rfl⟩:=hp;have hbq:au (X.bs q)=0:=hbq;have hs:=fO hbq;unfold bD at hs;have hd:=yB (.inr h1) hbq;obtain ⟨a1,a2⟩:=aiT (b:=jO (X.bs q)) (q:=q) (tg:=(X.bs q).tg) (uw hbq) (by rw [hd]) UC hq (by omega);rw [UC] at a1;have hbk:au { X.bs q with role:=3,rd:=0 }=0:=l9 (.inr ⟨by show 1<=(X.bs q).ep;omega,by show (X.bs q).ep<=_;omega,.inr (.inr (.inl ⟨rfl,by show (X.bs q).fr=0;omega,by show 0<=(X.bs q).tg;omega,by show (X.bs q).tg<5;omega,rfl⟩))⟩) (jl (b:=X.bs q) hbq);refine ⟨Jo h hq a2 rfl ?_,hbk⟩
  show dR (jO (X.bs q)) (fI 3 q (X.bs q).ep (X.bs q).tg aP)=(jO { X.bs q with role:=3,rd:=0 },0)
  rw [a1,IU (b:={ X.bs q with role:=3,rd:=0 }) (.inr (.inr (.inl rfl))),hd]
  show ((⟨3,(X.bs q).ep,0,(X.bs q).tg,0,(X.bs q).evs⟩:bK),(0:Int))=(⟨3,(X.bs q).ep,(X.bs q).fr,(X.bs q).tg,0,(X.bs q).evs⟩,0)
  have:(X.bs q).fr=0:=by omega
  rw [this]
 | forget q b=>
  obtain ⟨h1,rfl⟩:=hp;have hbq:au (X.bs q)=0:=hbq;have hs:=fO hbq;unfold bD at hs;obtain ⟨a1,a2⟩:=aao (q:=q) hbq h1 rfl hq;refine ⟨Jo h hq a2 rfl ?_,l9 (.inl ⟨rfl,by show 0<=(X.bs q).ep;omega,by show (X.bs q).ep<=_;omega,rfl,rfl,rfl,rfl⟩) wY⟩
  show dR (jO (X.bs q)) _=_
  rw [IU (.inr (.inr (.inl h1)))];exact a1
theorem UE {bs:Nat->bK} (hb: ∀ q,q<4->au (bs q)=0) (hq:q<4):au (jO (bs q))=0/\(jO (bs q)).role≠2:=⟨uw (hb q hq),JN⟩
theorem aaD (h:iH rs λq=>jO (X.bs q)) (hb: ∀ q,q<4->au (X.bs q)=0) (hp:p.ok X.bs) (hq:p.q<4) (j:Nat):
  ∃ f',iH (rs++(p.rs X.bs).take j) f'/\(∀ q,q<4->q≠p.q->f' q=jO (X.bs q))/\LQ X.bs p (f' p.q)/\au (f' p.q)=0/\(f' p.q).role≠2:=by
 obtain ⟨hf,hfb⟩:=oJ h hb hp hq;have full: ∃ f',iH (rs++p.rs X.bs) f'/\(∀ q,q<4->q≠p.q->f' q=jO (X.bs q))/\LQ X.bs p (f' p.q)/\au (f' p.q)=0/\(f' p.q).role≠2:=
  ⟨_,hf,λq _ hne=>by rw [upd_ne hne],.inr (.inl (by rw [upd_same])),by rw [upd_same];exact uw hfb,JN⟩
 have zero: ∃ f',iH (rs++([]:List dB)) f'/\(∀ q,q<4->q≠p.q->f' q=jO (X.bs q))/\LQ X.bs p (f' p.q)/\au (f' p.q)=0/\(f' p.q).role≠2:=
  ⟨_,by rw [List.append_nil];exact h,λ_ _ _=>rfl,.inl rfl,uw (hb _ hq),JN⟩
 have one: ∀ r,p.rs X.bs=[r]-> ∃ f',iH (rs++(p.rs X.bs).take j) f'/\(∀ q,q<4->q≠p.q->f' q=jO (X.bs q))/\LQ X.bs p (f' p.q)/\au (f' p.q)=0/\(f' p.q).role≠2:=λr hr=>by
  cases j with
  | zero=>rw [List.take_zero];exact zero
  | succ j=>rw [hr,List.take_of_length_le (by simp),<-hr];exact full
 cases p with
 | serve q evs op num a=>exact one _ rfl
 | begun q b=>exact one _ rfl
 | iN q b at_=>exact one _ rfl
 | forget q b=>exact one _ rfl
 | got q b last=>
  obtain ⟨es,g1,g2,g3,g4,g5,g6,g7⟩:=Gb hp;have hr:(X.bs q).role=4:=hp.1;by_cases hj:j<=es.length-(X.bs q).evs.length
  ·have hbq:au (X.bs q)=0:=hb _ hq;have hi:=imports h hbq hr g6.symm hq g1 g2 j (by omega);have e1:((fM.got q b last).rs X.bs).take j=((es.drop (X.bs q).evs.length).take j).map λx=>fI 5 q b.ep 0 x:=by
    rw [g7,List.take_append_of_le_length (by rw [List.length_map,List.length_drop];omega),List.map_take]
   have e2:es.take ((X.bs q).evs.length+j)=b.evs.take ((X.bs q).evs.length+j):=by
    rw [g4,List.take_take,Nat.min_eq_left (by omega)]
   rw [e1];refine ⟨_,hi,λk _ hk=>upd_ne hk,?_,?_,?_⟩
   ·refine .inr (.inr ⟨q,b,last,j,rfl,?_,by omega⟩)
    show upd _ q _ q=_
    rw [upd_same,e2]
   ·show au (upd _ q _ q)=0
    rw [upd_same];exact l9 (ou (fO hbq) (by omega) _) (qL g1)
   show (upd (λq=>jO (X.bs q)) q { X.bs q with evs:=es.take ((X.bs q).evs.length+j) } q).role≠2
   rw [upd_same]
   show (X.bs q).role≠2
   omega
  have:((fM.got q b last).rs X.bs).take j=(fM.got q b last).rs X.bs:=by
   refine List.take_of_length_le ?_;rw [g7,List.length_append,List.length_map,List.length_drop]
   cases last<;>simp<;>omega
  rw [this];exact full
end
def Nd.crashed (X:Nd) (keep:Int):Nd:={ X.blank with up:=false,data:=(mo X.data X.syn keep).1,syn:=(mo X.data X.syn keep).2.1 }
section
variable {X:Nd} {rs us:List dB} {t:List UInt8} {f:Nat->bK} {q:Nat} {p:fM} {keep:Int}
theorem Sd (h:uX X rs us) (hk:0<=keep): ∃ rs' t f,F9 (X.crashed keep) rs' t f/\ ∀ q,q<4->f q=jO (X.bs q)\/ ∃ p,X.pend=some p/\p.q=q/\LQ X.bs p (f q):=by
 have hm:=h.may;have hd:X.data=bJ rs++bJ us:=by rw [h.data,kV]
 have hl:=congrArg List.length hd;rw [List.length_append] at hl;have hs:=h.syn;obtain ⟨N,h1,h2,e⟩: ∃ N:Nat,(bJ rs).length<=N/\N<=X.data.length/\mo X.data X.syn keep=(X.data.take N,(N:Int),0):=by
  unfold mo;rw [if_pos hm,if_neg (by omega)];by_cases c:(X.data.length:Int)-X.syn<keep
  ·rw [if_pos c];exact ⟨X.data.length,by omega,Nat.le_refl _,by rw [List.take_length]⟩
  rw [if_neg c];refine ⟨(X.syn+keep).toNat,by omega,by omega,?_⟩;rw [show (((X.syn+keep).toNat:Nat):Int)=X.syn+keep by omega]
 obtain ⟨j,t,g1,g2,g3⟩:=Nr us (N-(bJ rs).length) (by omega);have e2:X.data.take N=bJ (rs++us.take j)++t:=by
  rw [hd,List.take_append,List.take_of_length_le h1,g1,kV,List.append_assoc]
 have hlen:(X.data.take N).length=N:=by rw [List.length_take];omega
 have key: ∀ f,iH (rs++us.take j) f->(∀ q,q<4->au (f q)=0/\(f q).role≠2)->F9 (X.crashed keep) (rs++us.take j) t f:=λf hf hb=>by
  have hd':(X.crashed keep).data=X.data.take N:=by unfold Nd.crashed;dsimp only;rw [e]
  have hs':(X.crashed keep).syn=N:=by unfold Nd.crashed;dsimp only;rw [e]
  have:=h.len;exact ⟨by rw [hd',e2],g2,hf,hb,by rw [hd',hs',hlen];omega,by rw [hd',hlen];omega,rfl,rfl,λ_ _=>OV⟩
 cases hp:X.pend with
 | none=>
  have hu:=h.Yy hp;refine ⟨_,t,λq=>jO (X.bs q),key _ ?_ λq hq=>UE h.nu hq,λq _=> .inl rfl⟩;rw [hu,List.take_nil,List.append_nil];exact h.tape
 | some p=>
  obtain ⟨hu,hpo,hq⟩:=h.UD p hp;obtain ⟨f',f1,f2,f3,f4,f5⟩:=aaD h.tape h.nu hpo hq j;rw [<-hu] at f1;refine ⟨_,t,f',key _ f1 λq hq4=>?_,λq hq4=>?_⟩
  ·by_cases c:q=p.q
   ·subst c;exact ⟨f4,f5⟩
   rw [f2 q hq4 c];exact UE h.nu hq4
  by_cases c:q=p.q
  ·subst c;exact .inr ⟨p,rfl,rfl,f3⟩
  exact .inl (f2 q hq4 c)
def iy (b:bK):bK:=⟨1,b.ep,0,0,0,b.evs++[aM]⟩
theorem OW {s:Int} {f:Nat->bK}: ∀ {ql:List Nat} {rs:List dB} {g:Nat->bK} {d:List UInt8},ql.Nodup->(∀ q∈ql,q<4/\g q=f q)->iH rs g->(∀ q,q<4->au (g q)=0)->(bJ rs).length<=100000->eF s f ql (bJ rs)=some d->
  ∃ ws,d=bJ (rs++ws)/\iH (rs++ws) (λq=>if q∈ql/\(f q).role=1 then iy (f q) else g q)/\d.length<=100000/\ ∀ q∈ql,(f q).role=1->au (iy (f q))=0/\eU (f q)=(iy (f q),0)
 | [],rs,g,d,_,_,hT,hb,hl,h=>by
  cases h;exact ⟨[],by simp,by simpa using hT,hl,by simp⟩
 | q::r,rs,g,d,hnd,hq,hT,hb,hl,h=>by
  rw [eF] at h;obtain ⟨h1,h2⟩:=List.nodup_cons.1 hnd;obtain ⟨hq4,hgq⟩:=hq q (by simp);by_cases c1:(f q).role≠1
  ·rw [if_pos c1] at h;obtain ⟨ws,e1,e2,e3,e4⟩:=OW h2 (λk hk=>hq k (by simp [hk])) hT hb hl h;refine ⟨ws,e1,e2.congr λk _=>?_,e3,λk hk hr=>?_⟩
   ·by_cases e:k=q
    ·subst e;rw [if_neg (λh=>c1 h.2),if_neg (λh=>c1 h.2)]
    simp [e]
   rcases List.mem_cons.1 hk with rfl | hk
   ·exact absurd hr c1
   exact e4 k hk hr
  rw [if_neg c1] at h;by_cases c2:(eU (f q)).2≠0
  ·rw [if_pos c2] at h;cases h
  rw [if_neg c2] at h;have hr1:=Classical.not_not.1 c1;obtain ⟨k1,k2⟩:=Yx hr1 c2
  split at h
  ·cases h
  rename_i d' hw
  obtain ⟨w1,w2,w3⟩:=rO hw;have hd':d'=bJ (rs++[fI 2 q (f q).ep 0 aM]):=by rw [w1,kV]
  have hbq:=hb q hq4;obtain ⟨a1,a2⟩:=RY (b:=g q) (q:=q) (e:=aM) hbq (by rw [hgq];exact hr1) rfl hq4 (by decide) (by rw [hgq];exact (dQ k1).2);rw [hgq] at a1 a2 hbq;have hs:=fO hbq;unfold bD at hs;have hx:({ f q with evs:=(f q).evs++[aM] }:bK)=iy (f q):=by
   unfold iy;simp only [bK.mk.injEq,and_true,true_and];omega
  rw [hx] at a1;have hT2:=hT.snoc (q:=q) a2 hq4 rfl (by rw [hgq];exact a1);rw [hd'] at h;obtain ⟨ws,e1,e2,e3,e4⟩:=OW h2 (g:=upd g q (iy (f q))) (λk hk=>⟨(hq k (by simp [hk])).1,by rw [upd_ne (λe:k=q=>h1 (e▸hk))];exact (hq k (by simp [hk])).2⟩) hT2
   (λk hk=>by
    by_cases e:k=q
    ·subst e;rw [upd_same];exact k1
    rw [upd_ne e];exact hb k hk) (by rw [<-hd'];exact w3 hl) h
  refine ⟨fI 2 q (f q).ep 0 aM::ws,by rw [e1,List.append_assoc];rfl,?_,e3,λk hk hr=>?_⟩
  ·rw [show rs++fI 2 q (f q).ep 0 aM::ws=rs++[fI 2 q (f q).ep 0 aM]++ws by rw [List.append_assoc];rfl];refine e2.congr λk _=>?_;by_cases e:k=q
   ·subst e;rw [if_neg (λh=>h1 h.1),upd_same,if_pos ⟨by simp,hr1⟩]
   rw [upd_ne e];simp [e]
  rcases List.mem_cons.1 hk with rfl | hk
  ·exact ⟨k1,k2⟩
  exact e4 k hk hr
end
section
variable {n q:Nat} {evs:List Ev} {an:List iZ} {bs:Nat->bK}
structure sU (m m':Cl):Prop where
 ah:m'.ah=m.ah
 off:m'.off=m.off
 fly:m'.fly=m.fly
 bL:m'.bL=m.bL
 calls:m'.calls=m.calls
theorem sU.refl (m:Cl):sU m m:=⟨rfl,rfl,rfl,rfl,rfl⟩
theorem sU.trans {a b c:Cl} (h:sU a b) (h':sU b c):sU a c:=⟨h'.ah.trans h.ah,h'.off.trans h.off,h'.fly.trans h.fly,h'.bL.trans h.bL,h'.calls.trans h.calls⟩
theorem NM (m:Cl) {e:Ev} {a:iZ} {u:Int}:sU m (m.tell n q e a u):=⟨rfl,rfl,rfl,rfl,rfl⟩
theorem Bg: ∀ (il:List Nat) (m:Cl),sU m (m.recovered n q evs an il)/\(m.recovered n q evs an il).aV.length=m.aV.length+il.length
 | [],m=>⟨.refl m,rfl⟩
 | i::r,m=>by
  obtain ⟨h1,h2⟩:=Bg r (m.tell n q (evs.getD i aP) (an.getD i eH) (-1));rw [Cl.recovered];refine ⟨(NM m).trans h1,?_⟩;rw [h2];unfold Cl.tell;simp only [List.length_append,List.length_cons,List.length_nil];omega
theorem Fb (m:Cl) (hl:((m.ah n).bs q).evs.length<=2000):sU m (m.recover n q)/\(m.recover n q).aV.length<=m.aV.length+2000:=by
 unfold Cl.recover
 split
 ·exact ⟨NM m,by simp [Cl.tell]⟩
 obtain ⟨h1,h2⟩:=Bg (n:=n) (q:=q) (evs:=((m.ah n).bs q).evs) (an:=(aH ((m.ah n).bs q).evs).2.1) ((List.range ((m.ah n).bs q).evs.length).drop (m.shown n q).2.toNat) m;refine ⟨h1,?_⟩;rw [h2,List.length_drop,List.length_range];omega
structure Sg (m m':Cl) (n:Nat) (bs:Nat->bK):Prop where
 ah:m'.ah=upd m.ah n { m.ah n with bs:=bs }
 off:m'.off=m.off
 fly:m'.fly=m.fly
 bL:m'.bL=m.bL
 calls:m'.calls=m.calls
theorem C9: ∀ (ql:List Nat) (m:Cl),ql.Nodup->(∀ q∈ql,(m.ah n).bs q=bs q/\(bs q).evs.length<=2000)->
  Sg m (Cl.woken n bs ql m) n (λq=>if q∈ql/\(bs q).role=1 then (eU (bs q)).1 else (m.ah n).bs q)/\(Cl.woken n bs ql m).aV.length<=m.aV.length+2001*ql.length
 | [],m,_,_=>by
  refine ⟨⟨?_,rfl,rfl,rfl,rfl⟩,Nat.le_refl _⟩
  show m.ah=_
  refine (aI ?_).symm;simp
 | q::r,m,hnd,hq=>by
  obtain ⟨h1,h2⟩:=List.nodup_cons.1 hnd;obtain ⟨hq1,hq2⟩:=hq q (by simp);rw [Cl.woken];by_cases c:(bs q).role≠1
  ·rw [if_pos c];obtain ⟨g1,g2⟩:=C9 r m h2 λk hk=>hq k (by simp [hk]);refine ⟨⟨?_,g1.off,g1.fly,g1.bL,g1.calls⟩,by rw [List.length_cons];omega⟩;rw [g1.ah];refine congrArg (λb=>upd m.ah n { m.ah n with bs:=b }) (funext λk=>?_);by_cases e:k=q
   ·subst e;rw [if_neg (λh=>c h.2),if_neg (λh=>c h.2)]
   simp [e]
  rw [if_neg c];obtain ⟨r1,r2⟩:=Fb (n:=n) (q:=q) m (by rw [hq1];exact hq2);have e1:((((m.recover n q).aZ n q (eU (bs q)).1).tell n q aM eH (-1)).ah)=upd m.ah n { m.ah n with bs:=upd (m.ah n).bs q (eU (bs q)).1 }:=by
   show upd (m.recover n q).ah n { (m.recover n q).ah n with bs:=upd ((m.recover n q).ah n).bs q (eU (bs q)).1 }=_
   rw [r1.ah]
  obtain ⟨g1,g2⟩:=C9 r (((m.recover n q).aZ n q (eU (bs q)).1).tell n q aM eH (-1)) h2 λk hk=>by
   rw [e1,upd_same];dsimp only;rw [upd_ne (λe:k=q=>h1 (e▸hk))];exact hq k (by simp [hk])
  refine ⟨⟨?_,g1.off.trans r1.off,g1.fly.trans r1.fly,g1.bL.trans r1.bL,g1.calls.trans r1.calls⟩,?_⟩
  ·rw [g1.ah,e1,sS,upd_same];refine congrArg (λb=>upd m.ah n { m.ah n with bs:=b }) (funext λk=>?_)
   show (if k∈r/\(bs k).role=1 then (eU (bs k)).1 else upd (m.ah n).bs q (eU (bs q)).1 k)=if k∈q::r/\(bs k).role=1 then (eU (bs k)).1 else (m.ah n).bs k
   by_cases e:k=q
   ·subst e;rw [if_neg (λh=>h1 h.1),upd_same,if_pos ⟨by simp,Classical.not_not.1 c⟩]
   rw [upd_ne e];simp [e]
  have:(((m.recover n q).aZ n q (eU (bs q)).1).tell n q aM eH (-1)).aV.length=(m.recover n q).aV.length+1:=by
   unfold Cl.tell;simp [Cl.aZ,Cl.put]
  rw [this] at g2;rw [List.length_cons];omega
end
def Src (b:bK) (l:iD):fM->Prop
 | .serve _ _ op num a=>l.kd=0/\op=l.op/\num=l.num/\a=(iL (aH b.evs).1 l.op).2.1/\l.op.kind≠4/\b.evs.length<1999
 | .begun _ x=>l.kd=2/\x=⟨4,l.ep,l.fr,0,0,[]⟩
 | .got _ x last=>l.kd=4/\b.fr=l.fr/\b.ep=l.ep/\0<=l.at_/\l.at_<=b.evs.length/\(b.evs.drop l.at_.toNat).take l.evs.length=l.evs.take (b.evs.length-l.at_.toNat)/\b.evs.length<=l.at_.toNat+l.evs.length/\last=l.last/\x=vY b l.at_ l.evs l.last
 | .iN _ _ a=>l.kd=3/\b.tg=l.fr/\b.ep+1=l.ep/\a=l.at_/\0<=l.at_/\l.at_<=b.evs.length
 | .forget _ _=>l.kd=6/\b.ep<l.ep
inductive Hnd (m:Cl) (n:Nat) (l:iD):Cl->Prop
 | same:Hnd m n l m
 | done (a:iZ):l.kd=0->((gJ ((m.ah n).bs l.q) l.op).2.2.1=false/\a=(gJ ((m.ah n).bs l.q) l.op).2.1\/
   a=rU 14/\serves ((m.ah n).bs l.q)/\bq l.op=0/\eG (m.ah n).data (m.ah n).syn [fI 2 l.q ((m.ah n).bs l.q).ep 0 l.op]=none/\good (((m.ah n).bs l.q).evs++[l.op]))->Hnd m n l (m.done n l.q l.op l.num a)
 | have_:((m.ah n).bs l.q).role=4->Hnd m n l (m.have_ n l.q)
 | part (b:bK):l.kd=3->0<=l.at_->l.at_<=((m.ah n).bs l.q).evs.length->(((m.ah n).bs l.q).role=2/\b={ (m.ah n).bs l.q with rd:=((m.ah n).bs l.q).rd+1 }/\((m.ah n).bs l.q).rd≠4\/((m.ah n).bs l.q).role=3/\b=(m.ah n).bs l.q)->
   ((m.ah n).bs l.q).tg=l.fr->au b=0->Hnd m n l ((m.aZ n l.q b).part n l.q l.at_)
 | pend (p:fM) (Y:Nd) (d:List UInt8):(Y=m.ah n\/l.kd=6/\Y=(m.ah n).hear n l)->p.q=l.q->p.ok (m.ah n).bs->eG (m.ah n).data (m.ah n).syn (p.rs (m.ah n).bs)=some d->Src ((m.ah n).bs l.q) l p->Hnd m n l (m.put n { Y with data:=d,pend:=some p })
 | hear:l.kd=6->Hnd m n l (m.put n ((m.ah n).hear n l))
section
variable {m:Cl} {n:Nat} {l:iD}
theorem qY {X x:Nd} {rs:List dB} (h:X.write rs=some x): ∃ d,eG X.data X.syn rs=some d/\x={ X with data:=d }:=by
 unfold Nd.write at h;rw [Option.map_eq_some_iff] at h;obtain ⟨d,h1,h2⟩:=h;exact ⟨d,h1,h2.symm⟩
theorem Xa {X:Nd} {rs:List dB} (h:X.write rs=none):eG X.data X.syn rs=none:=by
 unfold Nd.write at h;rwa [Option.map_eq_none_iff] at h
theorem Xb {b:bK} {e:Ev} (h:au b=0) (hl:b.evs.length<1999) (hd:(iL (aH b.evs).1 e).2.2.1=true):good (b.evs++[e]):=aai (jl h) (by omega) (ai1 hd) hd
theorem aaF (hk:l.kd=0):Hnd m n l (m.serve n l):=by
 unfold Cl.serve
 split
 ·rename_i h
  exact .done _ hk (.inl ⟨h,rfl⟩)
 rename_i h
 obtain ⟨h1,h2,h3,h4,h5,h6,h7⟩:=WZ h;have hg:=Xb h1 h5 h4;rw [h7]
 split
 ·rename_i hw
  exact .done _ hk (.inr ⟨rfl,h3,h2,Xa hw,hg⟩)
 rename_i x hw
 obtain ⟨d,hd,rfl⟩:=qY hw;exact .pend (.serve l.q (((m.ah n).bs l.q).evs++[l.op]) l.op l.num (iL (aH ((m.ah n).bs l.q).evs).1 l.op).2.1) (m.ah n) d (.inl rfl) rfl ⟨h3,rfl,h2,hg⟩ hd ⟨hk,rfl,rfl,rfl,h6,h5⟩
theorem TP (hk:l.kd=2):Hnd m n l (m.offered n l):=by
 unfold Cl.offered
 split
 ·exact .same
 rename_i h
 split
 ·rename_i h2
  exact .have_ (W9 h h2).1
 rename_i h2
 obtain ⟨h3,h4,h5,h6,h7,h8,h9⟩:=aeR h h2;rw [h9]
 split
 ·exact .same
 rename_i x hw
 obtain ⟨d,hd,rfl⟩:=qY hw;exact .pend (.begun l.q ⟨4,l.ep,l.fr,0,0,[]⟩) (m.ah n) d (.inl rfl) rfl ⟨h3,l.ep,l.fr,rfl,h4,h5,h6,h7,h8⟩ hd ⟨hk,rfl⟩
theorem Xc (hb:au ((m.ah n).bs l.q)=0) (hk:l.kd=3):Hnd m n l (m.caught n l):=by
 unfold Cl.caught
 split
 ·exact .same
 rename_i h0
 split
 ·exact .same
 rename_i h
 obtain ⟨h1,h2,h3⟩:=Qm h;have qo:((m.ah n).bs l.q).tg=l.fr:=by
  by_cases e:((m.ah n).bs l.q).tg=l.fr
  ·exact e
  exact absurd (.inl e) h0
 have dZ:((m.ah n).bs l.q).ep+1=l.ep:=by
  by_cases e:((m.ah n).bs l.q).ep+1=l.ep
  ·exact e
  exact absurd (.inr e) h0
 have hcg:=Hf hb (Classical.not_not.1 h)
 rcases h3 with ⟨h4,h5⟩ | ⟨h4,h6,h5⟩ | ⟨h4,h6,h5⟩
 ·rw [h5] at hcg⊢;rw [if_pos rfl];exact .part _ hk h1 h2 (.inr ⟨h4,rfl⟩) qo hcg
 ·rw [h5,if_neg (by show ¬ (3:Int)=_;omega)]
  split
  ·exact .same
  rename_i x hw
  obtain ⟨d,hd,rfl⟩:=qY hw;exact .pend (.iN l.q { (m.ah n).bs l.q with role:=3,rd:=0 } l.at_) (m.ah n) d (.inl rfl) rfl ⟨h4,rfl⟩ hd ⟨hk,qo,dZ,rfl,h1,h2⟩
 rw [h5] at hcg⊢;rw [if_pos rfl];exact .part _ hk h1 h2 (.inl ⟨h4,rfl,λe=>h6 (.inr e)⟩) qo hcg
theorem NP {b:bK} {at_:Int} {l:List Ev}:b.evs=(IQ b at_ l).take b.evs.length:=by unfold IQ;rw [List.take_left]
theorem Si {b:bK} {at_:Int} {l:List Ev} (h0:0<=at_) (h1:at_<=b.evs.length) (h:b.evs.length<=at_.toNat+l.length):(IQ b at_ l).length=at_.toNat+l.length:=by
 unfold IQ;rw [List.length_append,List.length_drop];omega
theorem ai5 (hk:l.kd=4):Hnd m n l (m.got n l):=by
 unfold Cl.got
 split
 ·exact .same
 rename_i h0
 have hr:((m.ah n).bs l.q).role=4:=by
  by_cases e:((m.ah n).bs l.q).role=4
  ·exact e
  exact absurd (.inl e) h0
 have hfr:((m.ah n).bs l.q).fr=l.fr:=by
  by_cases e:((m.ah n).bs l.q).fr=l.fr
  ·exact e
  exact absurd (.inr e) h0
 split
 ·exact .have_ hr
 split
 ·exact .same
 rename_i h2 h3
 have h: ¬ (dh ((m.ah n).bs l.q) l.ep l.at_ l.evs l.last).2≠0:=λe=>h3 (.inl e);have hne: ¬ (dh ((m.ah n).bs l.q) l.ep l.at_ l.evs l.last).1.evs.length=((m.ah n).bs l.q).evs.length:=λe=>h3 (.inr e);obtain ⟨g1,g2,g3,g4,g5,g6,g7,g8⟩:=aaB h;rw [g8] at hne⊢;have hlen:((m.ah n).bs l.q).evs.length<=l.at_.toNat+l.evs.length:=by
  cases hl:l.last with
  | true=>exact g6 hl
  | false=>
   unfold vY IQ at hne;rw [if_neg (by rw [hl];simp)] at hne;dsimp only at hne;rw [List.length_append,List.length_drop] at hne;omega
 have hil:=Si g3 g4 hlen;have hgd:=jl g7;have hrs:(fM.got l.q (vY ((m.ah n).bs l.q) l.at_ l.evs l.last) l.last).rs (m.ah n).bs=uq l.q (vY ((m.ah n).bs l.q) l.at_ l.evs l.last) ((m.ah n).bs l.q).evs.length (l.at_.toNat+l.evs.length) l.last:=by
  show uq _ _ _ _ _=_
  congr 1
  unfold vY
  cases l.last with
  | true=>simp only [if_true,List.length_append,List.length_singleton];omega
  | false=>simp only [Bool.false_eq_true,if_false];omega
 split
 ·exact .same
 rename_i x hw
 obtain ⟨d,hd,rfl⟩:=qY hw;refine .pend (.got l.q (vY ((m.ah n).bs l.q) l.at_ l.evs l.last) l.last) (m.ah n) d (.inl rfl) rfl ⟨hr,hgd,JR rfl hgd,λhl=>?_,λhl=>?_⟩ (by rw [hrs];exact hd) ⟨hk,hfr,g2,g3,g4,g5,hlen,rfl,rfl⟩
 ·unfold vY;rw [hl,if_neg (by simp)];exact ⟨rfl,NP⟩
 refine ⟨IQ ((m.ah n).bs l.q) l.at_ l.evs,?_,NP⟩;unfold vY;rw [if_pos hl]
theorem Xd (hk:l.kd=6):Hnd m n l (m.learnt n l):=by
 unfold Cl.learnt
 split
 ·exact .hear hk
 rename_i h
 obtain ⟨h1,h2,h3⟩:=aaC h;rw [h3]
 split
 ·exact .hear hk
 rename_i x hw
 obtain ⟨d,hd,rfl⟩:=qY hw;exact .pend (.forget l.q ⟨0,((m.ah n).bs l.q).ep,0,0,0,[]⟩) ((m.ah n).hear n l) d (.inr ⟨hk,rfl⟩) rfl ⟨h1,rfl⟩ hd ⟨hk,h2⟩
theorem hnd (hb: ∀ q,q<4->au ((m.ah n).bs q)=0) (hl:l.ok):Hnd m n l (m.handle n l):=by
 obtain ⟨h1,h2,h3⟩:=hl;unfold Cl.handle
 rcases h3 with h | h | h | h | h
 ·rw [if_pos h];exact aaF h
 ·rw [if_neg (by omega),if_pos h];exact TP h
 ·rw [if_neg (by omega),if_neg (by omega),if_pos h];exact Xc (hb _ h1) h
 ·rw [if_neg (by omega),if_neg (by omega),if_neg (by omega),if_pos h];exact ai5 h
 rw [if_neg (by omega),if_neg (by omega),if_neg (by omega),if_neg (by omega)];exact Xd h
end
structure Lf (a:Ac):Prop where
 kd:1<=a.kd/\a.kd<=10
 nd:0<=a.nd/\a.nd<=4
 qu:0<=a.qu/\a.qu<=3
 at_:0<=a.at_/\a.at_<=1048576
 kp:0<=a.kp/\a.kp<=100000
 op:a.kd=2->bq a.op=0/\a.op.kind≠4
theorem ab4 {x:Ac} (h:dH x=0):Lf x:=by
 cases hf:bS x.kd x.ek with
 | none=>rw [X4 hf] at h;cases h
 | some l=>
  by_cases ha:l.all (Nb x)=true
  ·by_cases hz:fin x l=zeros
   ·have hk:=ah5 ((ad3 hf).2 hz);clear h hz;obtain ⟨kd,nd,qu,at_,kp,ek,ep,ei,eb,eh,en⟩:=x
    rcases kinds kd ek with rfl | rfl | rfl | rfl | rfl | rfl | rfl | rfl | rfl | ⟨rfl,rfl⟩ | ⟨rfl,rfl⟩ | ⟨rfl,rfl⟩ | hn
    all_goals first
     | (dsimp only at hf;rw [hn] at hf;cases hf;done)
     | (simp [bS] at hf;subst hf;simp [keep] at hk;simp [Nb,Ac.get,Ac.ints] at ha;exact ⟨by dsimp only;omega,by dsimp only;omega,by dsimp only;omega,by dsimp only;omega,by dsimp only;omega,by (intro hk2;first | (simp at hk2;done) | (refine ⟨?_,by simp [Ac.op]⟩;simp [Ac.op,bq,jU,hk,ha]))⟩)
   rw [OM hf ha hz] at h;cases h
  rw [JD hf ha] at h;cases h
def lU (l:iD):Prop:=l.q<4/\l.evs.length<=3/\(l.tg= -1\/(l.tg= -2/\0<=l.fr/\l.fr<5/\l.kd=5)\/(0<=l.tg/\l.tg<5/\(l.kd=0\/l.kd=2\/l.kd=3\/l.kd=4\/l.kd=6)))/\(l.kd=0->bq l.op=0/\l.op.kind≠4)
theorem nk {k:Int} {P:Prop} (h:k≠0):k=0->P:=λe=>absurd e h
theorem lU.ok {l:iD} (h:lU l) (ht:0<=l.tg):l.ok:=by
 obtain ⟨h1,h2,h3 | h3 | h3,_⟩:=h
 ·omega
 ·omega
 exact ⟨h1,by omega,h3.2.2⟩
section
variable {n q:Nat} {b:bK} {u:Int} {a:iZ} {p:Pl}
theorem JU:lU (mJ n u a p):=⟨by show 0<4;omega,by show 0<=3;omega,.inl rfl,nk (by show (1:Int)≠0;decide)⟩
theorem OY (hq:q<4) (hr:b.role=4) (hb:au b=0):lU (qX n q b):=by
 have hs:=fO hb;unfold bD at hs;refine ⟨hq,by show 0<=3;omega,.inr (.inr ⟨by show 0<=b.fr;omega,by show b.fr<5;omega,.inr (.inr (.inl rfl))⟩),nk (by show (3:Int)≠0;decide)⟩
theorem akv (hr:b.role=2\/b.role=3) (hb:au b=0):0<=b.tg/\b.tg<5:=by
 have hs:=fO hb;unfold bD at hs;omega
theorem ai6 {at_:Int} (hq:q<4) (hb:au b=0) (h: ¬ (iI b at_).2.2≠0):lU (LK n q b at_):=by
 obtain ⟨h1,h2,h3,h4⟩:=NK h;obtain ⟨h5,h6⟩:=akv h1 hb;refine ⟨hq,?_,.inr (.inr ⟨h5,h6,.inr (.inr (.inr (.inl rfl)))⟩),nk (by show (4:Int)≠0;decide)⟩
 show (iI b at_).1.length<=3
 rw [h4];dsimp only;rw [List.length_take];omega
theorem aeS (hq:q<4) (hr:b.role=2\/b.role=3) (hb:au b=0):lU (zm n q b):=by
 obtain ⟨h5,h6⟩:=akv hr hb;exact ⟨hq,by show 0<=3;omega,.inr (.inr ⟨h5,h6,.inr (.inl rfl)⟩),nk (by show (2:Int)≠0;decide)⟩
theorem aoW (hq:q<4) (hn:n<5):lU (Vm n q):=⟨hq,by show 0<=3;omega,.inr (.inl ⟨rfl,by show 0<=(n:Int);omega,by show (n:Int)<5;omega,rfl⟩),nk (by show (5:Int)≠0;decide)⟩
theorem ai7 (hq:q<4) (hn:n<5):lU (Qb n q b):=⟨hq,by show 0<=3;omega,.inr (.inl ⟨rfl,by show 0<=(n:Int);omega,by show (n:Int)<5;omega,rfl⟩),nk (by show (5:Int)≠0;decide)⟩
theorem ai8 {s:Bool} (hq:q<4) (hn:n<5) (hb:au b=0):(∀ l∈ko n q b s,lU l)/\(ko n q b s).length<=3:=by
 unfold ko;refine ⟨λl hl=>?_,?_⟩
 ·rcases List.mem_append.1 hl with hl | hl
  ·rcases List.mem_append.1 hl with hl | hl
   ·split at hl
    ·rename_i hr;rw [List.mem_singleton] at hl;subst hl;exact aeS hq hr hb
    simp at hl
   split at hl
   ·rw [List.mem_singleton] at hl;subst hl;exact aoW hq hn
   simp at hl
  split at hl
  ·rw [List.mem_singleton] at hl;subst hl;exact ai7 hq hn
  simp at hl
 rw [List.length_append,List.length_append]
 split<;>split<;>split<;>simp
end
def Cl.tot (m:Cl):Nat:=m.fly.length+((m.ah 0).inbox.length+((m.ah 1).inbox.length+((m.ah 2).inbox.length+((m.ah 3).inbox.length+(m.ah 4).inbox.length))))
theorem five {n:Nat} (hn:n<5):n=0\/n=1\/n=2\/n=3\/n=4:=by omega
theorem aoX {m m':Cl} {n d:Nat} (hn:n<5) (ho: ∀ j,j≠n->m'.ah j=m.ah j) (h:m'.fly.length+(m'.ah n).inbox.length<=m.fly.length+(m.ah n).inbox.length+d):m'.tot<=m.tot+d:=by
 unfold Cl.tot
 rcases five hn with rfl | rfl | rfl | rfl | rfl
 ·rw [ho 1 (by decide),ho 2 (by decide),ho 3 (by decide),ho 4 (by decide)];omega
 ·rw [ho 0 (by decide),ho 2 (by decide),ho 3 (by decide),ho 4 (by decide)];omega
 ·rw [ho 0 (by decide),ho 1 (by decide),ho 3 (by decide),ho 4 (by decide)];omega
 ·rw [ho 0 (by decide),ho 1 (by decide),ho 2 (by decide),ho 4 (by decide)];omega
 rw [ho 0 (by decide),ho 1 (by decide),ho 2 (by decide),ho 3 (by decide)];omega
theorem Em {l:iD} {n:Nat} (h:lU l/\l.tg=n):l.ok:=h.1.ok (by rw [h.2];omega)
theorem NQ (m:Cl) {n:Nat} (hn:n<5):m.fly.length+(m.ah n).inbox.length<=m.tot:=by
 unfold Cl.tot
 rcases five hn with rfl | rfl | rfl | rfl | rfl<;>omega
structure fJ (m:Cl) (T S D K:Nat):Prop where
 kW: ∀ n,n<5->Ga (m.ah n)
 vE: ∀ l∈m.fly,lU l
 mK: ∀ n,n<5-> ∀ l∈(m.ah n).inbox,lU l/\l.tg=n
 room:m.tot<=T
 aV:m.aV.length<=S
 bL:m.bL.length<=D
 turn: ∀ n,n<5->(m.ah n).turn<=K
 calls:m.calls<=K
theorem fJ.mono {m:Cl} {T S D K T' S' D' K':Nat} (h:fJ m T S D K) (h1:T<=T') (h2:S<=S') (h3:D<=D') (h4:K<=K'):fJ m T' S' D' K':=
 ⟨h.kW,h.vE,h.mK,Nat.le_trans h.room h1,Nat.le_trans h.aV h2,Nat.le_trans h.bL h3,λn hn=>Nat.le_trans (h.turn n hn) h4,Nat.le_trans h.calls h4⟩
section
variable {m m':Cl} {n:Nat} {l:iD} {rs:List dB} {T S D K:Nat}
theorem fJ.at_ (h:fJ m T S D K) (hn:n<5) (ho: ∀ j,j≠n->m'.ah j=m.ah j) (hk:Ga (m'.ah n)) (hl: ∀ l∈m'.fly,l∈m.fly\/lU l) (hi: ∀ l∈(m'.ah n).inbox,l∈(m.ah n).inbox\/(lU l/\l.tg=n))
  {c s d u:Nat} (h1:m'.fly.length+(m'.ah n).inbox.length<=m.fly.length+(m.ah n).inbox.length+c) (h2:m'.aV.length<=m.aV.length+s) (h3:m'.bL.length<=m.bL.length+d) (h4:(m'.ah n).turn<=(m.ah n).turn+u) (h5:m'.calls<=m.calls+u):fJ m' (T+c) (S+s) (D+d) (K+u):=by
 refine ⟨λj hj=>?_,λl hl'=>(hl l hl').elim (h.vE l) id,λj hj=>?_,?_,?_,?_,λj hj=>?_,?_⟩
 ·by_cases e:j=n
  ·subst e;exact hk
  rw [ho j e];exact h.kW j hj
 ·by_cases e:j=n
  ·subst e;exact λl hl'=>(hi l hl').elim (h.mK j hj l) id
  rw [ho j e];exact h.mK j hj
 ·have:=aoX hn ho h1;have:=h.room;omega
 ·have:=h.aV;omega
 ·have:=h.bL;omega
 ·by_cases e:j=n
  ·subst e;have:=h.turn j hj;omega
  rw [ho j e];have:=h.turn j hj;omega
 have:=h.calls;omega
structure Keep (m m':Cl):Prop where
 bL:m'.bL=m.bL
 calls:m'.calls=m.calls
 off:m'.off=m.off
theorem Keep.refl (m:Cl):Keep m m:=⟨rfl,rfl,rfl⟩
theorem Keep.trans {a b c:Cl} (h:Keep a b) (h':Keep b c):Keep a c:=⟨h'.bL.trans h.bL,h'.calls.trans h.calls,h'.off.trans h.off⟩
theorem Gc {q:Nat} {op:Ev} {u:Int} {a:iZ}:Keep m (m.done n q op u a)/\(m.done n q op u a).ah=m.ah/\ ∃ l,lU l/\(m.done n q op u a).fly=m.fly++[l]:=by
 unfold Cl.done
 split
 ·exact ⟨⟨rfl,rfl,rfl⟩,rfl,_,JU,rfl⟩
 exact ⟨⟨rfl,rfl,rfl⟩,rfl,_,JU,rfl⟩
theorem Gd {q:Nat} {a:Int}:Keep m (m.part n q a)/\(m.part n q a).ah=m.ah/\(m.part n q a).fly=nI n q ((m.ah n).bs q) a m.fly:=by
 unfold Cl.part nI
 split
 ·exact ⟨⟨rfl,rfl,rfl⟩,rfl,rfl⟩
 exact ⟨⟨rfl,rfl,rfl⟩,rfl,rfl⟩
theorem NR {q:Nat} {b:bK} {a:Int} {fl:List iD} (hq:q<4) (hb:au b=0): ∀ l∈nI n q b a fl,l∈fl\/lU l:=λl hl=>by
 unfold nI at hl
 split at hl
 ·exact .inl hl
 rename_i h
 rcases List.mem_append.1 hl with hl | hl
 ·exact .inl hl
 rw [List.mem_singleton] at hl;subst hl;exact .inr (ai6 hq hb h)
theorem aaG {q:Nat} {b:bK} {a:Int} {fl:List iD}:(nI n q b a fl).length<=fl.length+1:=by
 unfold nI
 split
 ·omega
 simp
theorem zX {fl:List iD} {x:iD} (hx:lU x): ∀ l∈fl++[x],l∈fl\/lU l:=λl hl=>by
 rcases List.mem_append.1 hl with hl | hl
 ·exact .inl hl
 rw [List.mem_singleton] at hl;subst hl;exact .inr hx
theorem aoY (hq:l.q<4) (h:uX (m.ah n) rs []) (hp:(m.ah n).pend=none) (H:Hnd m n l m'):(∃ us,uX (m'.ah n) rs us)/\(∀ x∈m'.fly,x∈m.fly\/lU x)/\Keep m m':=by
 cases H with
 | same=>exact ⟨⟨_,h⟩,λx hx=> .inl hx,.refl m⟩
 | done a h1 h2=>
  obtain ⟨h3,h4,l',h5,h6⟩:=Gc (m:=m) (n:=n) (q:=l.q) (op:=l.op) (u:=l.num) (a:=a);exact ⟨⟨[],by rw [h4];exact h⟩,by rw [h6];exact zX h5,h3⟩
 | have_ h1=>exact ⟨⟨[],h⟩,zX (OY hq h1 (h.nu _ hq)),⟨rfl,rfl,rfl⟩⟩
 | part b h1 h2 h3 h4 h5 h6=>
  obtain ⟨g1,g2,g3⟩:=Gd (m:=m.aZ n l.q b) (n:=n) (q:=l.q) (a:=l.at_);have e:(m.aZ n l.q b).ah n=(m.ah n).aZ l.q b:=bM _;refine ⟨⟨[],?_⟩,?_,?_⟩
  ·rw [g2,e];refine ⟨h.data,h.syn,h.tape.congr λk hk=>?_,λk hk=>?_,h.Yy,λp hp'=>?_,h.len⟩
   ·show jO ((m.ah n).bs k)=jO (upd (m.ah n).bs l.q b k)
    by_cases e:k=l.q
    ·rw [e,upd_same]
     rcases h4 with ⟨h4,h7,_⟩ | ⟨_,h7⟩
     ·rw [h7];unfold jO;rw [if_pos h4,if_pos h4]
     rw [h7]
    rw [upd_ne e]
   ·show au (upd (m.ah n).bs l.q b k)=0
    by_cases e:k=l.q
    ·rw [e,upd_same];exact h6
    rw [upd_ne e];exact h.nu k hk
   exact absurd (hp'.symm.trans hp) (by simp)
  ·rw [g3,e,show ((m.ah n).aZ l.q b).bs l.q=b from upd_same _ _ _];exact NR hq h6
  exact (⟨rfl,rfl,rfl⟩:Keep m (m.aZ n l.q b)).trans g1
 | pend p Y d h1 h2 h3 h4 h5=>
  obtain ⟨w1,w2,w3⟩:=rO h4;have hY:Y.bs=(m.ah n).bs/\Y.syn=(m.ah n).syn:=by rcases h1 with h1 | ⟨_,h1⟩<;>rw [h1]<;>exact ⟨rfl,rfl⟩
  refine ⟨⟨p.rs (m.ah n).bs,?_⟩,λx hx=> .inl hx,⟨rfl,rfl,rfl⟩⟩;rw [bM];refine ⟨?_,hY.2.trans h.syn,?_,?_,λe=>(by cases e),λp' e=>?_,w3 h.len⟩
  ·show d=_;rw [w1,h.data,List.append_nil,kV]
  ·dsimp only;rw [hY.1];exact h.tape
  ·dsimp only;rw [hY.1];exact h.nu
  cases e;dsimp only;rw [hY.1];exact ⟨rfl,h3,by rw [h2];exact hq⟩
 | hear h1=>
  refine ⟨⟨[],?_⟩,λx hx=> .inl hx,⟨rfl,rfl,rfl⟩⟩;rw [bM];exact ⟨h.data,h.syn,h.tape,h.nu,h.Yy,h.UD,h.len⟩
theorem Sj {n:Nat} (P:Cl->Prop) (hstep: ∀ m l r,P m->(m.ah n).pend=none->(m.ah n).inbox=l::r->l.q<4/\P ((m.put n ((m.ah n).box r)).handle n l)): ∀ (k:Nat) (m:Cl),(m.ah n).inbox.length=k->P m->P (m.more n):=by
 intro k
 induction k with
 | zero=>
  intro m hk h;rw [Sc (List.length_eq_zero_iff.1 hk)];exact h
 | succ k ih=>
  intro m hk h
  cases hp:(m.ah n).pend with
  | some p=>rw [F8 (by rw [hp];simp)];exact h
  | none=>
   cases hi:(m.ah n).inbox with
   | nil=>rw [hi] at hk;simp at hk
   | cons l r=>
    obtain ⟨hq,h2⟩:=hstep m l r h hp hi;rw [uz hp hi hq];have e:=(yC (m:=m.put n ((m.ah n).box r)) (n:=n) (l:=l) hq).mK;have e2:((m.put n ((m.ah n).box r)).ah n).inbox=r:=by rw [bM];rfl
    exact ih _ (by rw [e,e2];rw [hi] at hk;simpa using hk) h2
structure Rdg (m0:Cl) (n:Nat) (rs:List dB) (m:Cl):Prop where
 up:(m.ah n).up=true
 tape: ∃ us,uX (m.ah n) rs us
 uN: ∀ j,j≠n->m.ah j=m0.ah j
 vE: ∀ l∈m.fly,l∈m0.fly\/lU l
 mK: ∀ l∈(m.ah n).inbox,l∈(m0.ah n).inbox
 cnt:m.fly.length+(m.ah n).inbox.length<=m0.fly.length+(m0.ah n).inbox.length
 aV:m.aV.length+(m.ah n).inbox.length<=m0.aV.length+(m0.ah n).inbox.length
 keep:Keep m0 m
 RZ:(m.ah n).turn=(m0.ah n).turn
theorem ado {X:Nd} {r:List iD} {us:List dB} (h:uX X rs us):uX (X.box r) rs us:=⟨h.data,h.syn,h.tape,h.nu,h.Yy,h.UD,h.len⟩
theorem Sk {m1:Cl} {r:List iD} (hi: ∀ l∈(m.ah n).inbox,l.ok) (H:Rdg m n rs m1) (hp:(m1.ah n).pend=none) (hin:(m1.ah n).inbox=l::r):
  l.ok/\uX ((m1.put n ((m1.ah n).box r)).ah n) rs []/\Hnd (m1.put n ((m1.ah n).box r)) n l ((m1.put n ((m1.ah n).box r)).handle n l)/\Rdg m n rs ((m1.put n ((m1.ah n).box r)).handle n l):=by
 have hl:l∈(m1.ah n).inbox:=by rw [hin];simp
 have hok:=hi l (H.mK l hl);obtain ⟨us,hU⟩:=H.tape;have hus:=hU.Yy hp;subst hus;have hq:=hok.1;have e0:(m1.put n ((m1.ah n).box r)).ah n=(m1.ah n).box r:=bM _;have Qn:uX ((m1.put n ((m1.ah n).box r)).ah n) rs []:=by rw [e0];exact ado hU
 have hH:=hnd Qn.nu hok;refine ⟨hok,Qn,hH,?_⟩;have E:=yC (m:=m1.put n ((m1.ah n).box r)) (n:=n) (l:=l) hq;obtain ⟨g1,g2,g3⟩:=aoY hq Qn (by rw [e0];exact hp) hH;have ei:=E.mK;rw [e0] at ei;have e1:(m1.put n ((m1.ah n).box r)).fly=m1.fly:=rfl;have e2:(m1.put n ((m1.ah n).box r)).aV=m1.aV:=rfl;have e3:((m1.ah n).box r).inbox=r:=rfl;have c1:=H.cnt;have c2:=H.aV;have c3:=E.fly;have c4:=E.aV;rw [hin,List.length_cons] at c1 c2;rw [e1] at c3;rw [e2] at c4;refine ⟨by rw [E.up,e0];exact H.up,g1,λj hj=>?_,λx hx=>(g2 x hx).elim (H.vE x) .inr,λx hx=>?_,?_,?_,H.keep.trans ((⟨rfl,rfl,rfl⟩:Keep m1 (m1.put n ((m1.ah n).box r))).trans g3),by rw [E.RZ,e0];exact H.RZ⟩
 ·rw [E.uN j hj]
  show upd m1.ah n _ j=_
  rw [upd_ne hj];exact H.uN j hj
 ·rw [ei,e3] at hx;exact H.mK x (by rw [hin];simp [hx])
 ·rw [ei,e3];omega
 rw [ei,e3];omega
theorem akx (hu:(m.ah n).up=true) (h: ∃ us,uX (m.ah n) rs us):Rdg m n rs m:=⟨hu,h,λ_ _=>rfl,λ_ h=> .inl h,λ_ h=>h,Nat.le_refl _,Nat.le_refl _,.refl m,rfl⟩
theorem Sl (hu:(m.ah n).up=true) (h: ∃ us,uX (m.ah n) rs us) (hi: ∀ l∈(m.ah n).inbox,l.ok):Rdg m n rs (m.more n):=
 Sj (n:=n) (Rdg m n rs) (λ_ _ _ H hp hin=>by obtain ⟨h1,_,_,h4⟩:=Sk hi H hp hin;exact ⟨h1.1,h4⟩) _ m rfl (akx hu h)
theorem UF {X:Nd} {p:fM} (hX:m.ah n=X) (hu:X.up=true) (hp:X.pend=some p) (hq:p.q<4) (hf:au (p.b X.bs)=0) (hpo:p.ok X.bs):
  ∃ Y:Nd,(m.step n).ah=upd m.ah n Y/\Y.bs=upd X.bs p.q (p.b X.bs)/\Y.data=X.data/\Y.syn=X.data.length/\Y.pend=none/\Y.up=true/\Y.inbox=X.inbox/\Y.turn=X.turn/\Keep m (m.step n)/\
   (∀ l∈(m.step n).fly,l∈m.fly\/lU l)/\(m.step n).fly.length<=m.fly.length+1/\(m.step n).aV.length<=m.aV.length+1:=by
 cases p with
 | serve q evs op num a=>
  rw [qg hX hu hp rfl hpo.1];exact ⟨_,rfl,rfl,rfl,rfl,rfl,hu,rfl,rfl,⟨rfl,rfl,rfl⟩,zX JU,by simp,by simp⟩
 | begun q b=>
  rw [yE hX hu hp];obtain ⟨_,e,f,rfl,_⟩:=hpo;exact ⟨_,rfl,rfl,rfl,rfl,rfl,hu,rfl,rfl,⟨rfl,rfl,rfl⟩,zX (OY hq rfl hf),by simp,by simp [Cl.put]⟩
 | got q b last=>
  cases last with
  | true=>
   rw [rX hX hu hp];exact ⟨_,rfl,rfl,rfl,rfl,rfl,hu,rfl,rfl,⟨rfl,rfl,rfl⟩,λl hl=> .inl hl,by simp [Cl.put],by simp⟩
  | false=>
   rw [El hX hu hp];have hr:b.role=4:=by
    have:=(hpo.2.2.2.1 rfl).1;rw [this];exact hpo.1
   exact ⟨_,rfl,rfl,rfl,rfl,rfl,hu,rfl,rfl,⟨rfl,rfl,rfl⟩,zX (OY hq hr hf),by simp,by simp [Cl.put]⟩
 | iN q b at_=>
  rw [Bf hX hu hp];exact ⟨_,rfl,rfl,rfl,rfl,rfl,hu,rfl,rfl,⟨rfl,rfl,rfl⟩,NR hq hf,aaG,by simp [Cl.put]⟩
 | forget q b=>
  rw [vX hX hu hp];exact ⟨_,rfl,rfl,rfl,rfl,rfl,hu,rfl,rfl,⟨rfl,rfl,rfl⟩,λl hl=> .inl hl,by simp [Cl.put],by simp [Cl.put]⟩
theorem aaH {X Y:Nd} {p:fM} {us:List dB} (h:uX X rs us) (hp:X.pend=some p) (hb:Y.bs=upd X.bs p.q (p.b X.bs)) (hd:Y.data=X.data) (hs:Y.syn=X.data.length) (hn:Y.pend=none):uX Y (rs++us) []:=by
 obtain ⟨hu,hpo,hq⟩:=h.UD p hp;obtain ⟨h1,h2⟩:=oJ h.tape h.nu hpo hq;refine ⟨by rw [hd,h.data,List.append_nil],by rw [hs,h.data],?_,λk hk=>?_,λ_=>rfl,λp' e=>(by rw [hn] at e;cases e),by rw [hd];exact h.len⟩
 ·rw [hb,hu];exact h1
 rw [hb];by_cases e:k=p.q
 ·rw [e,upd_same];exact h2
 rw [upd_ne e];exact h.nu k hk
theorem aaI (h:fJ m T S D K) (hn:n<5):fJ (m.step n) (T+3) (S+T+1) D (K+1):=by
 cases hu:(m.ah n).up with
 | false=>rw [Bd hu];exact h.mono (by omega) (by omega) (by omega) (by omega)
 | true=>
  obtain ⟨rs,us,hU⟩:=(h.kW n hn).Le hu;have hT:=NQ m hn;have hT2:=h.room
  cases hp:(m.ah n).pend with
  | some p=>
   obtain ⟨h1,h2,h3⟩:=hU.UD p hp;obtain ⟨_,hf⟩:=oJ hU.tape hU.nu h2 h3;obtain ⟨Y,y1,y2,y3,y4,y5,y6,y7,y8,y9,y10,y11,y12⟩:=UF rfl hu hp h3 hf h2;have eY:(m.step n).ah n=Y:=by rw [y1];exact upd_same _ _ _
   have hUY:=aaH hU hp y2 y3 y4 y5;refine (h.at_ (c:=1) (s:=1) (d:=0) (u:=0) hn (λj hj=>by rw [y1,upd_ne hj]) ?_ y10 ?_ ?_ y12 (by rw [y9.bL];omega) (by rw [eY,y8];omega) (by rw [y9.calls];omega)).mono (by omega) (by omega) (by omega) (by omega)
   ·rw [eY];exact .inl ⟨y6,_,_,hUY⟩
   ·rw [eY,y7];exact λl hl=> .inl hl
   rw [eY,y7];omega
  | none=>
   have R:=Sl hu ⟨us,hU⟩ λl hl=>Em (h.mK n hn l hl);have c:=R.cnt;have c2:=R.aV;obtain ⟨us',Qn⟩:=R.tape;rw [uD hu hp]
   split
   ·rename_i hp2
    have e:(((m.more n).Ld n).ah n)={ (m.more n).ah n with turn:=((m.more n).ah n).turn+1 }:=bM _;have hqq:((m.more n).ah n).turn % 4<4:=Nat.mod_lt _ (by decide);obtain ⟨d1,d2⟩:=ai8 (n:=n) (s:=((m.more n).ah n).sure (((m.more n).ah n).turn % 4)) hqq hn (Qn.nu _ hqq);refine (h.at_ (c:=3) (s:=T) (d:=0) (u:=1) hn (λj hj=>?_) ?_ (λl hl=>?_) ?_ ?_ ?_ ?_ ?_ ?_).mono (by omega) (by omega) (by omega) (by omega)
    ·show upd (m.more n).ah n _ j=_
     rw [upd_ne hj];exact R.uN j hj
    ·rw [e];exact .inl ⟨R.up,rs,us',⟨Qn.data,Qn.syn,Qn.tape,Qn.nu,Qn.Yy,Qn.UD,Qn.len⟩⟩
    ·rcases List.mem_append.1 hl with hl | hl
     ·exact R.vE l hl
     exact .inr (d1 l hl)
    ·rw [e];exact λl hl=> .inl (R.mK l hl)
    ·rw [e]
     show ((m.more n).fly++_).length+((m.more n).ah n).inbox.length<=_
     rw [List.length_append];have:=d2;omega
    ·show (m.more n).aV.length<=_;omega
    ·show (m.more n).bL.length<=_;rw [R.keep.bL];omega
    ·rw [e];show ((m.more n).ah n).turn+1<=_;rw [R.RZ];exact Nat.le_refl _
    show (m.more n).calls<=_;rw [R.keep.calls];omega
   refine (h.at_ (c:=0) (s:=T) (d:=0) (u:=0) hn R.uN (.inl ⟨R.up,rs,us',Qn⟩) R.vE (λl hl=> .inl (R.mK l hl)) (by omega) (by omega) (by rw [R.keep.bL];omega) (by rw [R.RZ];omega) (by rw [R.keep.calls];omega)).mono (by omega) (by omega) (by omega) (by omega)
theorem Gf (h:fJ m T S D K) (hl:lU l):fJ (m.come l) (T+1) S (D+1) K:=by
 have hroom:=h.room;have htot: ∀ fl,({ m with fly:=fl }:Cl).tot+m.fly.length=m.tot+fl.length:=λfl=>by unfold Cl.tot;dsimp only;omega
 obtain ⟨hq,hv,h1 | ⟨h1,h2,h3,_⟩ | ⟨h1,h2,h3⟩,_⟩:=id hl
 ·have e:m.come l={ m with bL:=m.bL++[l.bL] }:=if_pos h1;rw [e];exact ⟨h.kW,h.vE,h.mK,by show m.tot<=_;omega,h.aV,by show (m.bL++_).length<=_;have:=h.bL;simp;omega,h.turn,h.calls⟩
 ·unfold Cl.come;rw [if_neg (by omega),if_pos h1]
  split
  ·refine ⟨h.kW,λx hx=>?_,h.mK,?_,h.aV,by have:=h.bL;show m.bL.length<=_;omega,h.turn,h.calls⟩
   ·rcases List.mem_append.1 hx with hx | hx
    ·exact h.vE x hx
    rw [List.mem_singleton] at hx;subst hx;exact ⟨hq,by show 0<=3;omega,.inr (.inr ⟨h2,h3,.inr (.inr (.inr (.inr rfl)))⟩),nk (by show (6:Int)≠0;decide)⟩
   have:=htot (m.fly++[nR l.fr l.q (bn (eT m.off l) l.q).1]);rw [List.length_append,List.length_singleton] at this
   show Cl.tot { m with fly:=_ }<=_
   omega
  exact ⟨h.kW,h.vE,h.mK,by show m.tot<=_;omega,h.aV,by have:=h.bL;show m.bL.length<=_;omega,h.turn,h.calls⟩
 have hn:l.tg.toNat<5:=by omega
 unfold Cl.come;rw [if_neg (by omega),if_neg (by omega)]
 split
 ·rename_i hu
  have e:(m.put l.tg.toNat { m.ah l.tg.toNat with inbox:=(m.ah l.tg.toNat).inbox++[l] }).ah l.tg.toNat=(m.ah l.tg.toNat).box ((m.ah l.tg.toNat).inbox++[l]):=bM _;obtain ⟨rs,us,hU⟩:=(h.kW _ hn).Le hu;refine (h.at_ (m':=m.put l.tg.toNat { m.ah l.tg.toNat with inbox:=(m.ah l.tg.toNat).inbox++[l] }) (c:=1) (s:=0) (d:=0) (u:=0) hn (λj hj=>upd_ne hj) (by rw [e];exact .inl ⟨hu,rs,us,ado hU⟩) (λx hx=> .inl hx) ?_ ?_ (Nat.le_refl _) (Nat.le_refl _) (by rw [e];exact Nat.le_refl _) (Nat.le_refl _)).mono (by omega) (by omega) (by omega) (by omega)
  ·rw [e];intro x hx
   rcases List.mem_append.1 hx with hx | hx
   ·exact .inl hx
   rw [List.mem_singleton] at hx;subst hx;exact .inr ⟨hl,by omega⟩
  rw [e]
  show m.fly.length+((m.ah l.tg.toNat).inbox++[l]).length<=_
  rw [List.length_append,List.length_singleton];omega
 exact h.mono (by omega) (by omega) (by omega) (by omega)
theorem KL: ∀ (ls:List iD) {m:Cl} {T D:Nat},fJ m T S D K->(∀ l∈ls,lU l)->fJ (ls.foldl Cl.come m) (T+ls.length) S (D+ls.length) K
 | [],m,T,D,h,_=>h
 | l::ls,m,T,D,h,hl=>(KL ls (Gf h (hl l (by simp))) λx hx=>hl x (by simp [hx])).mono (by simp;omega) (Nat.le_refl _) (by simp;omega) (Nat.le_refl _)
theorem aeT (h:fJ m T S D K):fJ m.all T S (D+T) K:=by
 have hroom:=h.room;have h0:fJ { m with fly:=[] } (T-m.fly.length) S D K:=by
  refine ⟨h.kW,λl hl=>by simp at hl,h.mK,?_,h.aV,h.bL,h.turn,h.calls⟩;unfold Cl.tot at hroom⊢;dsimp only [List.length_nil];omega
 have hle:m.fly.length<=T:=by unfold Cl.tot at hroom;omega
 exact (KL m.fly h0 h.vE).mono (by omega) (Nat.le_refl _) (by omega) (Nat.le_refl _)
theorem aaJ {at_:Nat} {c s:Bool} (h:fJ m T S D K):fJ (m.pick at_ c s) (T+1) S (D+1) K:=by
 unfold Cl.pick
 split
 ·exact h.mono (by omega) (by omega) (by omega) (by omega)
 rename_i l hl
 have hm:lU l:=h.vE l (List.mem_of_getElem? hl);have h1:fJ (if s=true then m else { m with fly:=m.fly.eraseIdx (at_ % m.fly.length) }) T S D K:=by
  split
  ·exact h
  refine ⟨h.kW,λx hx=>h.vE x (List.mem_of_mem_eraseIdx hx),h.mK,?_,h.aV,h.bL,h.turn,h.calls⟩;have:=h.room;have h2:=List.length_eraseIdx_le m.fly (at_ % m.fly.length);unfold Cl.tot at this⊢;dsimp only;omega
 dsimp only
 split
 ·exact Gf h1 hm
 exact h1.mono (by omega) (by omega) (by omega) (by omega)
theorem aaK {q:Nat} (h:fJ m T S D K) (hn:n<5) (hq:q<4):fJ (m.make n q) T S D K:=by
 unfold Cl.make
 split
 ·exact h
 rename_i h0
 have hu:(m.ah n).up=true:=by
  cases e:(m.ah n).up with
  | true=>rfl
  | false=>exact absurd (.inl e) h0
 have hp:(m.ah n).pend=none:=by
  cases e:(m.ah n).pend with
  | none=>rfl
  | some p=>exact absurd (.inr (.inl (by rw [e];rfl))) h0
 split
 ·exact h
 rename_i h1
 obtain ⟨h2,h3,h4⟩:=ai3 h1;rw [h4]
 split
 ·exact h
 rename_i x hw
 obtain ⟨d,hd,rfl⟩:=qY hw;obtain ⟨rs,us,hU⟩:=(h.kW n hn).Le hu;have hus:=hU.Yy hp;subst hus;obtain ⟨w1,w2,w3⟩:=rO hd;obtain ⟨_,a2⟩:=OT (q:=q) (hU.nu q hq) h2 h3 hq;have hok:au ⟨1,1,0,0,0,[]⟩=0:=l9 (Ba (by omega) (by omega) _) wY;refine h.at_ (m':={ m.put n { m.ah n with data:=d,syn:=d.length,bs:=upd (m.ah n).bs q ⟨1,1,0,0,0,[]⟩ } with off:=(rC m.off q n).1,shown:=gX m.shown n q (1,0) }) (c:=0) (s:=0) (d:=0) (u:=0) hn (λj hj=>upd_ne hj) ?_ (λx hx=> .inl hx) ?_ ?_ (Nat.le_refl _) (Nat.le_refl _) ?_ (Nat.le_refl _)
 ·refine .inl ⟨?_,rs++[fI 1 q 1 0 aP],[],?_⟩
  ·show (upd m.ah n _ n).up=true;rw [upd_same];exact hu
  show uX (upd m.ah n _ n) _ _
  rw [upd_same];refine ⟨?_,?_,?_,λk hk=>?_,λ_=>rfl,λp e=>?_,w3 hU.len⟩
  ·show d=_;rw [w1,hU.data,List.append_nil,List.append_nil,kV]
  ·show (d.length:Int)=_;rw [w1,hU.data,List.append_nil,kV]
  ·refine Jo (x:=⟨1,1,0,0,0,[]⟩) hU.tape hq (w2 _ (by simp)) rfl ?_;rw [IU (.inr (.inl h2)),a2];rfl
  ·show au (upd (m.ah n).bs q _ k)=0
   by_cases e:k=q
   ·rw [e,upd_same];exact hok
   rw [upd_ne e];exact hU.nu k hk
  exact absurd (e.symm.trans hp) (by simp)
 ·show ∀ l∈(upd m.ah n _ n).inbox,_;rw [upd_same];exact λl hl=> .inl hl
 ·show m.fly.length+(upd m.ah n _ n).inbox.length<=_;rw [upd_same];exact Nat.le_refl _
 show (upd m.ah n _ n).turn<=_;rw [upd_same];exact Nat.le_refl _
theorem uP {d:Dir} {q:Int} (h: ¬ (bn d q).2≠0):(bn d q).1.node.toNat<5/\0<=(bn d q).1.node/\(bn d q).1=d.at q.toNat:=by
 obtain ⟨h1,h2,h3,h4,h5⟩:=Gw (Classical.not_not.1 h);unfold xV at h5
 rcases h5 with ⟨h5,h6⟩ | h5
 ·exfalso
  apply h4;generalize bn d q=r at*;obtain ⟨⟨a,b⟩,c⟩:=r;dsimp only at h5 h6⊢;rw [h5,h6];rfl
 exact ⟨by omega,by omega,h3⟩
theorem Yz {bs:Nat->bK} {q:Nat} {p:fM} {tg:Int} (hr:(bs q).role=1) (h:p.ok bs):p.rs (upd bs q ⟨2,(bs q).ep,0,tg,0,(bs q).evs⟩)=p.rs bs/\p.ok (upd bs q ⟨2,(bs q).ep,0,tg,0,(bs q).evs⟩):=by
 cases p with
 | serve k evs op num a=>
  simp only [fM.ok,fM.rs] at h⊢;by_cases e:k=q
  ·subst e;rw [upd_same];exact ⟨rfl,.inr rfl,h.2⟩
  rw [upd_ne e];exact ⟨rfl,h⟩
 | begun k b=>
  simp only [fM.ok] at h⊢;refine ⟨rfl,?_⟩;by_cases e:k=q
  ·subst e;exfalso;have:=h.1;omega
  rw [upd_ne e];exact h
 | got k b last=>
  simp only [fM.ok,fM.rs] at h⊢;by_cases e:k=q
  ·subst e;exfalso;have:=h.1;omega
  rw [upd_ne e];exact ⟨rfl,h⟩
 | iN k b a=>
  simp only [fM.ok] at h⊢;refine ⟨rfl,?_⟩;by_cases e:k=q
  ·subst e;exfalso;have:=h.1;omega
  rw [upd_ne e];exact h
 | forget k b=>
  simp only [fM.ok,fM.rs] at h⊢;by_cases e:k=q
  ·subst e;exfalso;have:=h.1;omega
  rw [upd_ne e];exact ⟨rfl,h⟩
theorem aaL {q:Nat} {tg:Int} (h:fJ m T S D K) (hq:q<4):fJ (m.move q tg) T S D K:=by
 unfold Cl.move
 split
 ·exact h
 rename_i h0
 have hw: ¬ (bn m.off q).2≠0:=λe=>h0 (.inl e);obtain ⟨hn,_,_⟩:=uP hw;have hu:(m.ah (bn m.off q).1.node.toNat).up=true:=by
  cases e:(m.ah (bn m.off q).1.node.toNat).up with
  | true=>rfl
  | false=>exact absurd (.inr (.inr e)) h0
 generalize hnn:(bn m.off q).1.node.toNat=n at*
 split
 ·rename_i h1
  obtain ⟨g1,g2,g3,g4⟩:=go_ok h1.1;rw [g4];obtain ⟨rs,us,hU⟩:=(h.kW n hn).Le hu;have hs:=fO (hU.nu q hq);unfold bD at hs;have hok:au ⟨2,((m.ah n).bs q).ep,0,tg,0,((m.ah n).bs q).evs⟩=0:=l9 (.inr ⟨by dsimp only;omega,by dsimp only;omega,.inr (.inl ⟨rfl,rfl,g2,by dsimp only;omega,by dsimp only;omega,by dsimp only;omega⟩)⟩) (jl (b:=(m.ah n).bs q) (hU.nu q hq));have hd: ∀ k,jO ((m.ah n).bs k)=jO (upd (m.ah n).bs q ⟨2,((m.ah n).bs q).ep,0,tg,0,((m.ah n).bs q).evs⟩ k):=λk=>by
   by_cases e:k=q
   ·rw [e,upd_same,yB (.inl g1) (hU.nu q hq)];rfl
   rw [upd_ne e]
  have e:((m.aZ n q ⟨2,((m.ah n).bs q).ep,0,tg,0,((m.ah n).bs q).evs⟩).ah n)=(m.ah n).aZ q ⟨2,((m.ah n).bs q).ep,0,tg,0,((m.ah n).bs q).evs⟩:=bM _;refine h.at_ (m':=m.aZ n q ⟨2,((m.ah n).bs q).ep,0,tg,0,((m.ah n).bs q).evs⟩) (c:=0) (s:=0) (d:=0) (u:=0) hn (λj hj=>upd_ne hj) ?_ (λx hx=> .inl hx) (by rw [e];exact λl hl=> .inl hl) (by rw [e];exact Nat.le_refl _) (Nat.le_refl _) (Nat.le_refl _) (by rw [e];exact Nat.le_refl _) (Nat.le_refl _);rw [e];refine .inl ⟨hu,rs,us,⟨hU.data,hU.syn,hU.tape.congr λk _=>hd k,λk hk=>?_,hU.Yy,λp hp=>?_,hU.len⟩⟩
  ·show au (upd (m.ah n).bs q _ k)=0
   by_cases e:k=q
   ·rw [e,upd_same];exact hok
   rw [upd_ne e];exact hU.nu k hk
  obtain ⟨p1,p2,p3⟩:=hU.UD p hp;exact ⟨by rw [p1];exact (Yz (tg:=tg) g1 p2).1.symm,(Yz (tg:=tg) g1 p2).2,p3⟩
 exact h
end
section
variable {m:Cl} {n:Nat} {T S D K:Nat}
theorem Xe {keep:Int} (h:fJ m T S D K) (hn:n<5) (hk:0<=keep):fJ (m.crash n keep) T S D K:=by
 unfold Cl.crash
 split
 ·rename_i hu
  obtain ⟨rs,us,hU⟩:=(h.kW n hn).Le hu;obtain ⟨rs',t,f,hd,_⟩:=Sd hU hk;have e:(m.put n ((m.ah n).crashed keep)).ah n=(m.ah n).crashed keep:=bM _;refine h.at_ (m':=m.put n ((m.ah n).crashed keep)) (c:=0) (s:=0) (d:=0) (u:=0) hn (λj hj=>upd_ne hj) (by rw [e];exact .inr ⟨rfl,rs',t,f,hd⟩) (λx hx=> .inl hx) ?_ ?_ (Nat.le_refl _) (Nat.le_refl _) ?_ (Nat.le_refl _)
  ·rw [e,hd.mK];simp
  ·rw [e,hd.mK];show m.fly.length+0<=_;omega
  rw [e];exact Nat.le_refl _
 exact h
theorem Hg (h:Ga (m.ah n)):(m.ah n).up=true/\m.start n=m\/(m.ah n).up=false/\ ∃ rs t f,F9 (m.ah n) rs t f/\(m.start n=m\/ ∃ ws,
  let m1:=m.put n { (m.ah n).blank with up:=true,data:=bJ (rs++ws),syn:=(bJ (rs++ws)).length,bs:=bI (m.ah n).data (m.ah n).syn }
  m.start n=Cl.woken n (bI (m.ah n).data (m.ah n).syn) [0,1,2,3] m1/\(bJ (rs++ws)).length<=100000/\
  eF (jD (m.ah n).data (m.ah n).syn).2.1 (bI (m.ah n).data (m.ah n).syn) [0,1,2,3] (jD (m.ah n).data (m.ah n).syn).1=some (bJ (rs++ws))/\
  Sg m1 (m.start n) n (λq=>if q∈[0,1,2,3]/\(bI (m.ah n).data (m.ah n).syn q).role=1 then iy (bI (m.ah n).data (m.ah n).syn q) else bI (m.ah n).data (m.ah n).syn q)/\
  (m.start n).aV.length<=m.aV.length+8004/\uX ((m.start n).ah n) (rs++ws) []/\
  ∀ q,q<4->(f q).role=1->au (iy (f q))=0):=by
 cases hu:(m.ah n).up with
 | true=>exact .inl ⟨rfl,by unfold Cl.start;rw [if_pos hu]⟩
 | false=>
  refine .inr ⟨rfl,?_⟩;obtain ⟨rs,t,f,hd⟩:=h.azt hu;refine ⟨rs,t,f,hd,?_⟩;obtain ⟨r1,r2,r3⟩:=hd.rd;have hst:m.start n=match eF (jD (m.ah n).data (m.ah n).syn).2.1 (bI (m.ah n).data (m.ah n).syn) [0,1,2,3] (jD (m.ah n).data (m.ah n).syn).1 with
   | none=>m
   | some d=>Cl.woken n (bI (m.ah n).data (m.ah n).syn) [0,1,2,3] (m.put n { (m.ah n).blank with up:=true,data:=d,syn:=d.length,bs:=bI (m.ah n).data (m.ah n).syn }):=by
   unfold Cl.start;rw [if_neg (by rw [hu];simp)]
   all_goals rfl
  cases hw:eF (jD (m.ah n).data (m.ah n).syn).2.1 (bI (m.ah n).data (m.ah n).syn) [0,1,2,3] (jD (m.ah n).data (m.ah n).syn).1 with
  | none=>rw [hw] at hst;exact .inl hst
  | some d=>
   rw [hw] at hst;refine .inr ?_;have Fe: ∀ q∈[0,1,2,3],q<4:=by decide
   have hin: ∀ q,q<4->q∈[0,1,2,3]:=by decide
   have hll:(bJ rs).length<=100000:=by
    have h1:=hd.len;rw [hd.data,List.length_append] at h1;omega
   have hw':=hw;rw [r1] at hw';obtain ⟨ws,e1,e2,e3,e4⟩:=OW (g:=f) (by decide) (λq hq=>⟨Fe q hq,(r3 q (Fe q hq)).symm⟩) hd.tape (λq hq=>(hd.nu q hq).1) hll hw';subst e1;refine ⟨ws,hst,e3,rfl,?_⟩;have hev: ∀ q∈[0,1,2,3],(bI (m.ah n).data (m.ah n).syn q).evs.length<=2000:=λq hq=>by
    rw [r3 q (Fe q hq)];exact jS (jl (hd.nu q (Fe q hq)).1)
   obtain ⟨g1,g2⟩:=C9 (n:=n) (bs:=bI (m.ah n).data (m.ah n).syn) [0,1,2,3] (m.put n { (m.ah n).blank with up:=true,data:=bJ (rs++ws),syn:=(bJ (rs++ws)).length,bs:=bI (m.ah n).data (m.ah n).syn }) (by decide) λq hq=>⟨by rw [bM],hev q hq⟩;have hbs:(λq=>if q∈[0,1,2,3]/\(bI (m.ah n).data (m.ah n).syn q).role=1 then (eU (bI (m.ah n).data (m.ah n).syn q)).1 else ((m.put n { (m.ah n).blank with up:=true,data:=bJ (rs++ws),syn:=(bJ (rs++ws)).length,bs:=bI (m.ah n).data (m.ah n).syn }).ah n).bs q)=
     λq=>if q∈[0,1,2,3]/\(bI (m.ah n).data (m.ah n).syn q).role=1 then iy (bI (m.ah n).data (m.ah n).syn q) else bI (m.ah n).data (m.ah n).syn q:=by
    funext q
    rw [bM];by_cases c:q∈[0,1,2,3]/\(bI (m.ah n).data (m.ah n).syn q).role=1
    ·rw [if_pos c,if_pos c,(e4 q c.1 c.2).2]
    rw [if_neg c,if_neg c]
   have hst':m.start n=Cl.woken n (bI (m.ah n).data (m.ah n).syn) [0,1,2,3] (m.put n { (m.ah n).blank with up:=true,data:=bJ (rs++ws),syn:=(bJ (rs++ws)).length,bs:=bI (m.ah n).data (m.ah n).syn }):=hst;rw [hbs,<-hst'] at g1;rw [<-hst'] at g2;refine ⟨g1,g2,?_,λq hq hr=>?_⟩
   ·have e:(m.start n).ah n={ (m.ah n).blank with up:=true,data:=bJ (rs++ws),syn:=(bJ (rs++ws)).length,bs:=λq=>if q∈[0,1,2,3]/\(bI (m.ah n).data (m.ah n).syn q).role=1 then iy (bI (m.ah n).data (m.ah n).syn q) else bI (m.ah n).data (m.ah n).syn q }:=by
     rw [g1.ah,upd_same,bM]
    rw [e];have hbb: ∀ q,q<4->au (if q∈[0,1,2,3]/\(bI (m.ah n).data (m.ah n).syn q).role=1 then iy (bI (m.ah n).data (m.ah n).syn q) else bI (m.ah n).data (m.ah n).syn q)=0:=λq hq=>by
     split
     ·rename_i c;exact (e4 q c.1 c.2).1
     rw [r3 q hq];exact (hd.nu q hq).1
    refine ⟨by rw [List.append_nil],rfl,e2.congr λq hq=>?_,hbb,λ_=>rfl,λp hp=>(by cases hp),e3⟩;dsimp only;by_cases c:q∈[0,1,2,3]/\(bI (m.ah n).data (m.ah n).syn q).role=1
    ·rw [if_pos c,if_pos c];rfl
    rw [if_neg c,if_neg c,r3 q hq];exact (Eh (hd.nu q hq).2).symm
   have:=(e4 q (hin q hq) (by rw [r3 q hq];exact hr)).1;rwa [r3 q hq] at this
theorem base_start (h:fJ m T S D K) (hn:n<5):fJ (m.start n) T (S+8004) D K:=by
 rcases Hg (h.kW n hn) with ⟨_,e⟩ | ⟨hu,rs,t,f,hd,e | ⟨ws,e1,e2,e3,W,e5,e6,e7⟩⟩
 ·rw [e];exact h.mono (by omega) (by omega) (by omega) (by omega)
 ·rw [e];exact h.mono (by omega) (by omega) (by omega) (by omega)
 have hN:=W.ah;have eX:(m.start n).ah n={ (m.ah n).blank with up:=true,data:=bJ (rs++ws),syn:=(bJ (rs++ws)).length,bs:=λq=>if q∈[0,1,2,3]/\(bI (m.ah n).data (m.ah n).syn q).role=1 then iy (bI (m.ah n).data (m.ah n).syn q) else bI (m.ah n).data (m.ah n).syn q }:=by
  rw [hN,upd_same,bM]
 refine h.at_ (c:=0) (s:=8004) (d:=0) (u:=0) hn (λj hj=>?_) (.inl ⟨by rw [eX],rs++ws,[],e6⟩) (λx hx=> .inl (by rw [W.fly] at hx;exact hx)) (by rw [eX];intro l hl;exact absurd hl (by simp [Nd.blank])) ?_ e5 (by rw [W.bL];exact Nat.le_refl _) ?_ (by rw [W.calls];exact Nat.le_refl _)
 ·rw [hN,upd_ne hj];exact upd_ne hj
 ·rw [eX,W.fly];show m.fly.length+0<=_;omega
 rw [eX];exact Nat.le_refl _
theorem aaM {l:iD} (h:fJ m T S D K) (hl:lU l):fJ { m with fly:=m.fly++[l],calls:=m.calls+1 } (T+1) S D (K+1):=by
 have hr:=h.room;refine ⟨h.kW,λx hx=>?_,h.mK,?_,h.aV,h.bL,λn hn=>Nat.le_succ_of_le (h.turn n hn),by have:=h.calls;show m.calls+1<=_;omega⟩
 ·rcases List.mem_append.1 hx with hx | hx
  ·exact h.vE x hx
  rw [List.mem_singleton] at hx;subst hx;exact hl
 unfold Cl.tot at hr⊢;dsimp only;rw [List.length_append,List.length_singleton];omega
theorem aeU {a:Ac} (h:fJ m T S D K) (ha:Lf a):fJ (m.act a) (T+3) (S+T+8004) (D+T+1) (K+1):=by
 obtain ⟨h1,h2,h3,h4,h5,h6⟩:=ha;have hn:a.nd.toNat<5:=by omega
 have hq:a.qu.toNat<4:=by omega
 unfold Cl.act
 split
 ·exact (aaK h hn hq).mono (by omega) (by omega) (by omega) (by omega)
 split
 ·rename_i hk2
  exact (aaM h ⟨hq,by show 0<=3;omega,.inr (.inr ⟨h2.1,by show a.nd<5;omega,.inl rfl⟩),λ_=>h6 hk2⟩).mono (by omega) (by omega) (by omega) (by omega)
 split
 ·exact (aaI h hn).mono (by omega) (by omega) (by omega) (by omega)
 split
 ·exact (aaJ h).mono (by omega) (by omega) (by omega) (by omega)
 split
 ·exact (aeT h).mono (by omega) (by omega) (by omega) (by omega)
 split
 ·exact (Xe h hn h5.1).mono (by omega) (by omega) (by omega) (by omega)
 split
 ·exact (base_start h hn).mono (by omega) (by omega) (by omega) (by omega)
 exact (aaL h hq).mono (by omega) (by omega) (by omega) (by omega)
end
def Bs (m:Cl) (k:Nat):Prop:=fJ m (4*k) (500000*k) (500000*k) k
theorem alS:Bs fG 0:=by
 refine ⟨λn _=> .inl ⟨rfl,[],[],⟨rfl,rfl,iH.nil,λq _=>by show au bG=0;exact l9 (.inl ⟨rfl,by decide,by decide,rfl,rfl,rfl,rfl⟩) wY,λ_=>rfl,λp hp=>(by cases hp),Nat.zero_le _⟩⟩,λl hl=>(by cases hl),λn _ l hl=>(by cases hl),Nat.le_refl _,Nat.le_refl _,Nat.le_refl _,λ_ _=>Nat.le_refl _,Nat.le_refl _⟩
theorem Jp {m:Cl} {k:Nat} {a:Ac} (h:Bs m k) (ha:Lf a) (hk:k<=100000):Bs (m.act a) (k+1):=by
 have:=aeU h ha;exact this.mono (by omega) (by omega) (by omega) (by omega)
theorem adp: ∀ (l:List Ac) {m:Cl} {k:Nat},Bs m k->(∀ a∈l,Lf a)->k+l.length<=100000->Bs (m.run l) (k+l.length)
 | [],m,k,h,_,_=>h
 | a::l,m,k,h,ha,hk=>by
  rw [List.length_cons] at hk;have:=adp l (Jp h (ha a (by simp)) (by omega)) (λx hx=>ha x (by simp [hx])) (by omega);rw [List.length_cons,show k+(l.length+1)=k+1+l.length by omega];exact this
def pq (q:Nat):Option fM->Option fM
 | none=>none
 | some p=>if p.q=q then some p else none
def zo (m:Cl) (q:Nat):List kH:=m.aV.filter λs=>decide (s.q=q)
def Mf (m:Cl) (q:Nat) (l:iD):Prop:=l.q=q/\(l∈m.fly\/ ∃ n,n<5/\l∈(m.ah n).inbox)
noncomputable def vw (m:Cl) (q:Nat) (n:Nat):bK:=(m.ah n).view q
def zq (m:Cl) (q:Nat) (n:Nat):Option fM:=pq q (m.ah n).pend
def DI (m:Cl) (n:Nat):Bool:=(m.ah n).up
def zu (m:Cl) (q:Nat) (n:Nat):Int×Int:=m.shown n q
def QI (m:Cl) (q:Nat) (g:Gh):Prop:=Inv g (vw m q) (zq m q) (DI m) (Mf m q) (m.off.at q) (zu m q) (zo m q)
structure qZ (g g':Gh):Prop where
 m:g'.m=g.m
 own:g'.own=g.own
 len:g'.len=g.len
 G:g'.G=g.G
theorem qZ.refl (g:Gh):qZ g g:=⟨rfl,rfl,rfl,rfl⟩
theorem qZ.trans {a b c:Gh} (h:qZ a b) (h':qZ b c):qZ a c:=⟨h'.m.trans h.m,h'.own.trans h.own,h'.len.trans h.len,h'.G.trans h.G⟩
theorem ao0 (g:Gh):qZ g g.all:=⟨rfl,rfl,rfl,rfl⟩
theorem qZ.o {g g':Gh} (h:qZ g g'):g'.o=g.o:=by unfold Gh.o;rw [h.m,h.own]
section
variable {m m':Cl} {n q:Nat} {g g':Gh} {l:iD} {V:Nat->bK} {P:Nat->Option fM} {U:Nat->Bool} {Lt:iD->Prop} {pl:Pl} {sh:Nat->Int×Int} {sv:List kH} {X:Nd}
theorem QI.mk' (I:Inv g V P U Lt pl sh sv) (hV:vw m q=V) (hP:zq m q=P) (hU:DI m=U) (hL: ∀ l,Mf m q l->Lt l\/KF g V pl l) (hpl:m.off.at q=pl) (hsh:zu m q=sh) (hsv:zo m q=sv):QI m q g:=by
 unfold QI;rw [hV,hP,hU,hpl,hsh,hsv];exact I.yA hL
theorem tN (h:m'.ah=upd m.ah n X):vw m' q=upd (vw m q) n (X.view q):=by
 funext j
 unfold vw;rw [h];unfold upd
 split<;>rfl
theorem sV (h:m'.ah=upd m.ah n X):zq m' q=upd (zq m q) n (pq q X.pend):=by
 funext j
 unfold zq;rw [h];unfold upd
 split<;>rfl
theorem UG (h:m'.ah=upd m.ah n X):DI m'=upd (DI m) n X.up:=by
 funext j
 unfold DI;rw [h];unfold upd
 split<;>rfl
theorem nS (h:m'.ah=upd m.ah n X) (hv:X.view q=(m.ah n).view q):vw m' q=vw m q:=by rw [tN h];exact aI hv.symm
theorem rP (h:m'.ah=upd m.ah n X) (hv:pq q X.pend=pq q (m.ah n).pend):zq m' q=zq m q:=by rw [sV h];exact aI hv.symm
theorem lK (h:m'.ah=upd m.ah n X) (hv:X.up=(m.ah n).up):DI m'=DI m:=by rw [UG h];exact aI hv.symm
theorem NS {q':Nat} {p:Int×Int} {s:Nat->Nat->Int×Int} (h:q'≠q):(λk=>gX s n q' p k q)=λk=>s k q:=by
 funext k
 unfold gX;rw [if_neg (λe=>h e.2.symm)]
theorem Fg {p:Int×Int} {s:Nat->Nat->Int×Int}:(λk=>gX s n q p k q)=upd (λk=>s k q) n p:=by
 funext k
 unfold gX upd;by_cases e:k=n
 ·rw [if_pos ⟨e,rfl⟩,if_pos e]
 rw [if_neg (λh=>e h.1),if_neg e]
theorem sW {sv:List kH} {s:kH}:(sv++[s]).filter (λs=>decide (s.q=q))=sv.filter (λs=>decide (s.q=q))++if s.q=q then [s] else []:=by
 rw [List.filter_append]
 congr 1
 by_cases e:s.q=q
 ·rw [if_pos e];simp [e]
 rw [if_neg e];simp [e]
theorem lZ (h:l.kd=0\/l.kd=1\/l.kd=3):KF g V pl l:=⟨λe=>by omega,λe=>by omega,λe=>by omega,λe=>by omega⟩
theorem JV {x:iD} (hn:m'.ah=upd m.ah n X) (hi: ∀ l∈X.inbox,l∈(m.ah n).inbox) (hn5:n<5) (hf:m'.fly=m.fly++[x]) {R:iD->Prop} (hx:x.q=q->R x): ∀ l,Mf m' q l->Mf m q l\/R l:=λl hl=>by
 obtain ⟨h1,h2⟩:=hl
 rcases h2 with h2 | ⟨j,hj,h2⟩
 ·rw [hf] at h2
  rcases List.mem_append.1 h2 with h2 | h2
  ·exact .inl ⟨h1,.inl h2⟩
  rw [List.mem_singleton] at h2;subst h2;exact .inr (hx h1)
 rw [hn] at h2;by_cases e:j=n
 ·subst e;rw [upd_same] at h2;exact .inl ⟨h1,.inr ⟨j,hj,hi l h2⟩⟩
 rw [upd_ne e] at h2;exact .inl ⟨h1,.inr ⟨j,hj,h2⟩⟩
theorem xk (hn:m'.ah=upd m.ah n X) (hi: ∀ l∈X.inbox,l∈(m.ah n).inbox) (hn5:n<5) (hf:m'.fly=m.fly) {R:iD->Prop}: ∀ l,Mf m' q l->Mf m q l\/R l:=λl hl=>by
 obtain ⟨h1,h2⟩:=hl
 rcases h2 with h2 | ⟨j,hj,h2⟩
 ·rw [hf] at h2;exact .inl ⟨h1,.inl h2⟩
 rw [hn] at h2;by_cases e:j=n
 ·subst e;rw [upd_same] at h2;exact .inl ⟨h1,.inr ⟨j,hj,hi l h2⟩⟩
 rw [upd_ne e] at h2;exact .inl ⟨h1,.inr ⟨j,hj,h2⟩⟩
theorem zY:m.ah=upd m.ah n (m.ah n):=(aI rfl).symm
theorem QI.far (I:QI m q g) (hn5:n<5) (hn:m'.ah=upd m.ah n X) (hv:X.view q=(m.ah n).view q) (hp:pq q X.pend=pq q (m.ah n).pend) (hu:X.up=(m.ah n).up) (hi: ∀ l∈X.inbox,l∈(m.ah n).inbox) (hf: ∀ l∈m'.fly,l∈m.fly\/(l.q=q->KF g (vw m q) (m.off.at q) l))
  (ho:m'.off.at q=m.off.at q) (hs:zu m' q=zu m q) (hsv:zo m' q=zo m q):QI m' q g:=
 QI.mk' I (nS hn hv) (rP hn hp) (lK hn hu) (λl hl=>by
  obtain ⟨h1,h2⟩:=hl
  rcases h2 with h2 | ⟨j,hj,h2⟩
  ·rcases hf l h2 with h3 | h3
   ·exact .inl ⟨h1,.inl h3⟩
   exact .inr (h3 h1)
  rw [hn] at h2;by_cases e:j=n
  ·subst e;rw [upd_same] at h2;exact .inl ⟨h1,.inr ⟨j,hj,hi l h2⟩⟩
  rw [upd_ne e] at h2;exact .inl ⟨h1,.inr ⟨j,hj,h2⟩⟩) ho hs hsv
theorem Inv.Qo (I:Inv g V P U Lt pl sh sv) (hu:U g.o=true):g.t=g.m/\g.F=g.G.length/\rp dV sv=some (aH g.G).1:=by
 have hF:=I.upF hu;refine ⟨?_,hF,?_⟩
 ·rcases I.KH with h | ⟨_,_,h,_⟩
  ·exact h.1
  rw [hu] at h;cases h
 have:=I.rps;rwa [hF,List.take_length] at this
theorem Inv.oEp (I:Inv g V P U Lt pl sh sv) (hn:n<5) (hr:(V n).role=1\/(V n).role=2):n=g.o:=I.who hn hr
theorem Bh {L:List Ev} {K at_:Nat} (h:at_<=K) (hK:K<=L.length):((L.take K).drop at_).take 3=(L.drop at_).take (((L.take K).drop at_).take 3).length/\at_+(((L.take K).drop at_).take 3).length<=K:=by
 have e:(((L.take K).drop at_).take 3).length=min 3 (K-at_):=by
  rw [List.length_take,List.length_drop,List.length_take];omega
 refine ⟨?_,by rw [e];omega⟩;rw [e,List.drop_take,List.take_take]
theorem aeV {b:bK} {at_:Int} (I:Inv g V P U Lt pl sh sv) (hn:n<5) (hb:V n=b) (h: ¬ (iI b at_).2.2≠0):KF g V pl (LK n q b at_):=by
 obtain ⟨h1,h2,h3,h4⟩:=NK h;have hkd:(LK n q b at_).kd=4:=rfl;refine ⟨λe=>by rw [hkd] at e;omega,λ_=>?_,λe=>by rw [hkd] at e;omega,λe=>by rw [hkd] at e;omega⟩
 show ∃ k:Nat,b.ep+1=(k:Int)+1/\1<=k/\k<=g.m/\(n:Int)=g.own k/\0<=at_/\(iI b at_).1=(g.G.drop at_.toNat).take (iI b at_).1.length/\at_.toNat+(iI b at_).1.length<=g.bd k/\((iI b at_).2.1=true->_)
 rw [h4];dsimp only;by_cases e:n=g.o
 ·subst e;have dZ:b.ep=g.m:=by rw [<-hb];exact I.zT
  have hev:b.evs=g.G:=by rw [<-hb];exact I.KG
  rw [hev] at h3⊢;obtain ⟨d1,d2⟩:=Bh (L:=g.G) (K:=g.G.length) (at_:=at_.toNat) (by omega) (Nat.le_refl _);rw [List.take_length] at d1 d2;refine ⟨g.m,by rw [dZ],I.m1,Nat.le_refl _,rfl,h2,d1,by unfold Gh.bd;rw [if_pos rfl];exact d2,λhl=> .inr ⟨rfl,?_⟩⟩;rw [decide_eq_true_eq] at hl;refine ⟨by rw [hb];exact hl.1,by rw [hb];rfl,?_⟩
  show at_.toNat+(iI b at_).1.length=g.G.length
  rw [h4]
  show at_.toNat+((b.evs.drop at_.toNat).take 3).length=g.G.length
  rw [hev,List.length_take,List.length_drop];omega
 rcases I.uN n hn e with ⟨h5,_⟩ | ⟨k,k1,k2,k3,k4,k5,k6,k7⟩ | ⟨k,k1,_⟩
 ·rw [hb] at h5;omega
 ·rw [hb] at k1 k2 k6 k7;have hlt:=I.LM k3 k4;rw [k6] at h3⊢;rw [List.length_take] at h3;obtain ⟨d1,d2⟩:=Bh (L:=g.G) (K:=g.len k) (at_:=at_.toNat) (by omega) (Nat.le_of_lt hlt);refine ⟨k,by rw [k2],k3,Nat.le_of_lt k4,by rw [k5],h2,d1,?_,λ_=> .inl ⟨k4,by rw [<-k7];rfl⟩⟩;unfold Gh.bd;rw [if_neg (by omega)];exact d2
 rw [hb] at k1;omega
theorem Gg {b:bK} {at_:Int} {fl:List iD} (I:Inv g V P U Lt pl sh sv) (hn:n<5) (hb:V n=b): ∀ l∈nI n q b at_ fl,l∈fl\/KF g V pl l:=λl hl=>by
 unfold nI at hl
 split at hl
 ·exact .inl hl
 rename_i h
 rcases List.mem_append.1 hl with hl | hl
 ·exact .inl hl
 rw [List.mem_singleton] at hl;subst hl;exact .inr (aeV I hn hb h)
theorem ao1 {b:bK} {p:fM} {bs:Nat->bK} (I:Inv g V P U Lt pl sh sv) (hn:n<5) (hb:V n=b) (hbs:bs q=b) (hL:KF g V pl l) (qo:l.tg=n) (hpq:p.q=q) (hlq:l.q=q) (hp:p.ok bs) (hS:Src b l p) (hf:au (p.b bs)=0):He g V n p:=by
 cases p with
 | serve k evs op num a=>
  have hk:k=q:=hpq;subst hk;obtain ⟨h1,h2,h3,h4⟩:=hp;rw [hbs] at h1 h2;obtain ⟨s1,s2,s3,s4,s5,s6⟩:=hS;have ho:=I.oEp hn (by rw [hb];exact h1);have hev:b.evs=g.G:=by rw [<-hb,ho];exact I.KG
  rw [hev] at h2 s4;exact ⟨ho,by rw [hb];exact h1,h2,by rw [s2,s4],h4⟩
 | begun k x=>
  have hk:k=q:=hpq;subst hk;obtain ⟨h1,e,f,rfl,h2,_⟩:=hp;rw [hbs] at h1 h2;obtain ⟨s1,s2⟩:=hS;obtain ⟨j,j1,j2,j3,j4⟩:=hL.1 s1;simp only [bK.mk.injEq,true_and,and_true] at s2;refine ⟨j,?_,j2,j3,by rw [hb];exact h1,by rw [hb];omega⟩;rw [s2.1,s2.2,j1,j4]
 | got k x last=>
  have hk:k=q:=hpq;subst hk;obtain ⟨s1,s2,s3,s4,s5,s6,s7,s8,s9⟩:=hS;have hr:b.role=4:=by have:=hp.1;rwa [hbs] at this
  have hno:n≠g.o:=λe=>by
   have:=I.arl;rw [<-e,hb] at this;omega
  obtain ⟨j,j1,j2,j3,j4,j5,j6,j7,j8⟩:=hL.2.1 s1
  rcases I.uN n hn hno with ⟨h5,_⟩ | ⟨_,h5,_⟩ | ⟨k',k1,k2,k3,k4,k5,k6,k7,k8⟩
  ·rw [hb] at h5;omega
  ·rw [hb] at h5;omega
  rw [hb] at k2 k5 k6 k7;have hkj:k'=j:=by omega
  subst hkj;have hbd:=I.aak k3 k4;have e2:l.evs.drop (b.evs.length-l.at_.toNat)=(g.G.drop b.evs.length).take (l.at_.toNat+l.evs.length-b.evs.length):=by
   have:=congrArg (List.drop (b.evs.length-l.at_.toNat)) j6;rw [this,List.drop_take,List.drop_drop,show l.at_.toNat+(b.evs.length-l.at_.toNat)=b.evs.length by omega]
   congr 1
   omega
  have hE:IQ b l.at_ l.evs=g.G.take (l.at_.toNat+l.evs.length):=by
   unfold IQ;rw [e2];have e3:=congrArg (· ++(g.G.drop b.evs.length).take (l.at_.toNat+l.evs.length-b.evs.length)) k6;rw [e3,<-List.take_add]
   congr 1
   omega
  have hx: ∀ (h:last=true),k'=g.m->l.at_.toNat+l.evs.length=g.G.length->x=⟨1,(g.m:Int)+1,0,0,0,g.G++[aM]⟩:=λh h1 h2=>by
   rw [s9];unfold vY;rw [if_pos (by rw [<-s8];exact h),hE,h2,List.take_length,k2,h1]
  refine ⟨by rw [hb];exact hr,λhl=>⟨l.at_.toNat+l.evs.length,?_,by rw [hb];exact s7,λk2' hk2=>?_⟩,λhl=>?_⟩
  ·rw [s9,hb];unfold vY;rw [if_neg (by rw [<-s8,hl];simp),hE]
  ·rw [hb] at hk2;have:k2'=k':=by omega
   subst this;exact j7
  rcases j8 (by rw [<-s8];exact hl) with ⟨a1,a2⟩ | ⟨a1,a2,a3,a4⟩
  ·exact absurd (by omega) (k8 a1)
  have hx':=hx hl a1 a4;have hf':au x=0:=hf;rw [hx'] at hf';exact ⟨by rw [hb,k2,a1],a2,a3.trans qo,hx',(dQ hf').2⟩
 | iN k x a=>
  obtain ⟨h1,h2⟩:=hp;have hk:k=q:=hpq;subst hk;rw [hbs] at h1 h2;exact ⟨I.oEp hn (by rw [hb];exact .inr h1),by rw [hb];exact h1,by rw [hb];exact h2⟩
 | forget k x=>
  obtain ⟨h1,h2⟩:=hp;have hk:k=q:=hpq;subst hk;rw [hbs] at h1 h2;obtain ⟨s1,s2⟩:=hS;obtain ⟨j,j1,j2,j3,j4⟩:=hL.2.2.2 s1;obtain ⟨d,d1,d2,d3⟩:=I.dir;rw [d1] at j3;dsimp only at j3;exact ⟨by rw [hb];exact h1,by rw [hb];exact h2,by rw [hb];omega⟩
end
theorem ai9: ∀ {k:Nat} {l:List Ev},l.length=k->good l->(aH l).1.fault=0
 | 0,l,hk,h=>by
  rw [List.length_eq_zero_iff.1 hk];rw [Ao (l:=[]) (by simp) (show ig dV [] []=some (dV,[]) from rfl)];exact ZH
 | k+1,l,hk,h=>by
  have e1:l=l.take k++[l[k]]:=by rw [<-oI (by omega),<-hk,List.take_length]
  have h':good (l.take k++[l[k]]):=e1▸h;obtain ⟨h1,_,h3⟩:=good_step h';rw [e1,h3];exact aoA h1
theorem aja {Q:Qd} {e:Ev} (h:Q.fault=0) (he:bq e=0):(iL Q e).2.2.2=0:=by rw [Cg h he]
section
variable {m m':Cl} {n q:Nat} {g g':Gh} {l:iD} {rs:List dB}
theorem Cn (hu:(m.ah n).up=true):vw m q n=(m.ah n).bs q:=by unfold vw;rw [gK hu]
theorem aeW (hp:(m.ah n).pend=none):zq m q n=none:=by unfold zq;rw [hp];rfl
theorem aeX {a:iZ} (I:QI m q g) (hn:n<5) (hu:(m.ah n).up=true) (h2:(gJ ((m.ah n).bs l.q) l.op).2.2.1=false/\a=(gJ ((m.ah n).bs l.q) l.op).2.1) (he:bq l.op=0/\l.op.kind≠4) (hb:au ((m.ah n).bs l.q)=0)
  (hG:g.G.length<1999): ∃ g',QI (m.done n l.q l.op l.num a) q g'/\qZ g g':=by
 obtain ⟨h2,h3⟩:=h2;by_cases hs:serves ((m.ah n).bs l.q)
 ·rw [Ej rfl rfl hs];by_cases hq:l.q=q
  ·subst hq;have hV:=Cn (q:=l.q) hu;have ho:=I.oEp hn (by rw [hV];exact hs);have dZ:((m.ah n).bs l.q).ep=g.m:=by rw [<-hV,ho];exact I.zT
   have hev:((m.ah n).bs l.q).evs=g.G:=by rw [<-hV,ho];exact I.KG
   obtain ⟨t1,t2,t3⟩:=I.Qo (by rw [<-ho];exact hu);have hs':=hs;unfold serves at hs';have hsv:gJ ((m.ah n).bs l.q) l.op=((m.ah n).bs l.q,(iL (aH ((m.ah n).bs l.q).evs).1 l.op).2.1,false,0)/\(iL (aH ((m.ah n).bs l.q).evs).1 l.op).2.2.1=false:=by
    have hl: ¬ 1999<=((m.ah n).bs l.q).evs.length:=by rw [hev];omega
    unfold gJ at h2⊢;rw [if_neg (λe=>e hb),if_neg (λe=>e he.1),if_neg he.2,if_neg (by omega),if_neg (by omega)] at h2⊢;by_cases c:(iL (aH ((m.ah n).bs l.q).evs).1 l.op).2.2.1=false
    ·rw [if_pos c];exact ⟨rfl,c⟩
    rw [if_neg c,if_neg hl] at h2;cases h2
   rw [hsv.1,hev] at h3;rw [hev] at hsv;have hgq:(aH g.G).1.fault=0:=ai9 rfl I.gd;have hc:(iL (aH g.G).1 l.op).2.2.2=0:=aja hgq he.1;have hr:rp dV (zo m l.q++[⟨n,l.q,g.m,l.op,a,l.num⟩])=some (aH g.G).1:=by
    rw [Dv t3 hc h3.symm,aiS hc hsv.2]
   refine ⟨g.all,QI.mk' (I.told t1 hr λs hs=>by rw [List.mem_singleton] at hs;subst hs;exact ⟨rfl,ho⟩) rfl rfl rfl ?_ rfl ?_ ?_,ao0 g⟩
   ·rintro x ⟨x1,x2 | x2⟩
    ·rcases List.mem_append.1 x2 with x2 | x2
     ·exact .inl ⟨x1,.inl x2⟩
     rw [List.mem_singleton] at x2;subst x2;exact .inr (lZ (.inr (.inl rfl)))
    exact .inl ⟨x1,.inr x2⟩
   ·show (λk=>gX m.shown n l.q _ k l.q)=_
    rw [Fg,dZ,hev,ho];rfl
   show (m.aV++_).filter _=_
   rw [sW,if_pos rfl,dZ];rfl
  refine ⟨g,I.far (n:=n) (X:=m.ah n) hn zY rfl rfl rfl (λ_ h=>h) (λx hx=>?_) rfl (NS hq) ?_,.refl g⟩
  ·rcases List.mem_append.1 hx with hx | hx
   ·exact .inl hx
   rw [List.mem_singleton] at hx;subst hx;exact .inr λ_=>lZ (.inr (.inl rfl))
  show (m.aV++_).filter _=_
  rw [sW,if_neg hq,List.append_nil];rfl
 rw [IL rfl rfl hs];refine ⟨g,I.far (n:=n) (X:=m.ah n) hn zY rfl rfl rfl (λ_ h=>h) (λx hx=>?_) rfl rfl rfl,.refl g⟩
 rcases List.mem_append.1 hx with hx | hx
 ·exact .inl hx
 rw [List.mem_singleton] at hx;subst hx;exact .inr λ_=>lZ (.inr (.inl rfl))
theorem ab5 {p:fM} (h:p.q=q):pq q (some p)=some p:=if_pos h
theorem aky {p:fM} (h:p.q≠q):pq q (some p)=none:=if_neg h
theorem ajb (I:QI m q g) (hn:n<5) (hu:(m.ah n).up=true) (hU:uX (m.ah n) rs []) (hp:(m.ah n).pend=none) (hL:l.q=q->KF g (vw m q) (m.off.at q) l) (qo:l.tg=n) (hk:l.kd=0->bq l.op=0/\l.op.kind≠4) (hlq:l.q<4)
  (hroom:(m.ah n).data.length+46<=100000) (hG:g.G.length<1999) (H:Hnd m n l m'): ∃ g',QI m' q g'/\qZ g g'/\((vw m q g.o).role=3->(vw m' q g.o).role=3):=by
 have hbq:=hU.nu _ hlq
 cases H with
 | same=>exact ⟨g,I,.refl g,id⟩
 | done a h1 h2=>
  have hvw:vw (m.done n l.q l.op l.num a) q=vw m q:=nS (n:=n) (X:=m.ah n) (by rw [(Gc (m:=m)).2.1];exact zY) rfl
  rcases h2 with h2 | ⟨h2,h3,h4,h5,h6⟩
  ·obtain ⟨g',h7,h8⟩:=aeX I hn hu h2 (hk h1) hbq hG;exact ⟨g',h7,h8,by rw [hvw];exact id⟩
  exfalso
  have hs:=fO hbq;unfold bD at hs;unfold serves at h3;have hr:aL (fI 2 l.q ((m.ah n).bs l.q).ep 0 l.op)=0:=xJ (by omega) hlq (by omega) (by omega) (by simpa [jX] using h4);have hsy:=hU.syn;have hd:=congrArg List.length hU.data;rw [List.append_nil] at hd;rw [C8 (λr hr'=>by rw [List.mem_singleton] at hr';subst hr';exact hr) (by omega) (by omega) (by simpa using hroom)] at h5
  cases h5
 | have_ h1=>
  refine ⟨g,I.far (n:=n) (X:=m.ah n) hn zY rfl rfl rfl (λ_ h=>h) (λx hx=>?_) rfl rfl rfl,.refl g,id⟩
  rcases List.mem_append.1 hx with hx | hx
  ·exact .inl hx
  rw [List.mem_singleton] at hx;subst hx;exact .inr λ_=>lZ (.inr (.inr rfl))
 | part b h1 h2 h3 h4 h5 h6=>
  obtain ⟨g1,g2,g3⟩:=Gd (m:=m.aZ n l.q b) (n:=n) (q:=l.q) (a:=l.at_);have e:(m.aZ n l.q b).ah n=(m.ah n).aZ l.q b:=bM _;rw [e,show ((m.ah n).aZ l.q b).bs l.q=b from upd_same _ _ _] at g3;have dS:((m.aZ n l.q b).part n l.q l.at_).ah=upd m.ah n ((m.ah n).aZ l.q b):=g2;have hoff:((m.aZ n l.q b).part n l.q l.at_).off.at q=m.off.at q:=by rw [g1.off];rfl
  have hrest:zu ((m.aZ n l.q b).part n l.q l.at_) q=zu m q/\zo ((m.aZ n l.q b).part n l.q l.at_) q=zo m q:=by
   unfold Cl.part
   split<;>exact ⟨rfl,rfl⟩
  by_cases hq:l.q=q
  ·subst hq;have hV:=Cn (q:=l.q) hu;have gF:((m.ah n).aZ l.q b).view l.q=b:=by rw [gK (X:=(m.ah n).aZ l.q b) hu];exact upd_same _ _ _
   have hvw:vw ((m.aZ n l.q b).part n l.q l.at_) l.q=upd (vw m l.q) n b:=by rw [tN dS,gF]
   rcases h4 with ⟨h4,h7,h8⟩ | ⟨h4,h7⟩
   ·have ho:=I.oEp hn (by rw [hV];exact .inr h4);have Vp:=I.Uz (by rw [<-ho,hV];omega);have I2:Inv g (upd (vw m l.q) g.o b) (zq m l.q) (DI m) (Mf m l.q) (m.off.at l.q) (zu m l.q) (zo m l.q):=by
     refine Inv.aal I (λp hp'=>?_) ?_ ?_ ?_ ?_ ?_ ?_
     ·rw [<-ho,aeW hp] at hp';cases hp'
     ·rw [h7];show ((m.ah n).bs l.q).ep=_;rw [<-hV,ho];exact I.zT
     ·rw [h7];show ((m.ah n).bs l.q).evs=_;rw [<-hV,ho];exact I.KG
     ·rw [h7];exact .inr (.inl h4)
     ·intro _;rw [h7,<-ho];rw [<-ho,hV] at Vp;exact Vp
     ·intro h;rw [<-ho,hV] at h;omega
     intro h;rw [h7] at h;exact absurd (h4.symm.trans h) (by decide)
    rw [<-ho] at I2;refine ⟨g,QI.mk' I2 hvw (rP dS rfl) (lK dS rfl) (λx hx=>?_) hoff hrest.1 hrest.2,.refl g,λh=>?_⟩
    ·obtain ⟨x1,x2⟩:=hx
     rcases x2 with x2 | ⟨j,hj,x2⟩
     ·rw [g3] at x2
      rcases Gg I2 hn (upd_same _ _ _) x x2 with x3 | x3
      ·exact .inl ⟨x1,.inl x3⟩
      exact .inr x3
     rw [dS] at x2;by_cases e:j=n
     ·subst e;rw [upd_same] at x2;exact .inl ⟨x1,.inr ⟨j,hj,x2⟩⟩
     rw [upd_ne e] at x2;exact .inl ⟨x1,.inr ⟨j,hj,x2⟩⟩
    rw [<-ho,hV] at h;omega
   have aro:vw ((m.aZ n l.q b).part n l.q l.at_) l.q=vw m l.q:=by rw [hvw,h7,<-hV];exact aI rfl
   refine ⟨g,QI.mk' I aro (rP dS rfl) (lK dS rfl) (λx hx=>?_) hoff hrest.1 hrest.2,.refl g,by rw [aro];exact id⟩;obtain ⟨x1,x2⟩:=hx
   rcases x2 with x2 | ⟨j,hj,x2⟩
   ·rw [g3] at x2
    rcases Gg I hn (hV.trans h7.symm) x x2 with x3 | x3
    ·exact .inl ⟨x1,.inl x3⟩
    exact .inr x3
   rw [dS] at x2;by_cases e:j=n
   ·subst e;rw [upd_same] at x2;exact .inl ⟨x1,.inr ⟨j,hj,x2⟩⟩
   rw [upd_ne e] at x2;exact .inl ⟨x1,.inr ⟨j,hj,x2⟩⟩
  have gF:((m.ah n).aZ l.q b).view q=(m.ah n).view q:=by
   rw [gK (X:=(m.ah n).aZ l.q b) hu,gK hu];exact upd_ne (λe=>hq e.symm)
  refine ⟨g,I.far hn dS gF rfl rfl (λ_ h=>h) (λx hx=>?_) hoff hrest.1 hrest.2,.refl g,by rw [nS dS gF];exact id⟩;rw [g3] at hx;unfold nI at hx
  split at hx
  ·exact .inl hx
  rcases List.mem_append.1 hx with hx | hx
  ·exact .inl hx
  rw [List.mem_singleton] at hx;subst hx;exact .inr λh=>absurd h hq
 | pend p Y d h1 h2 h3 h4 h5=>
  have hY:Y.bs=(m.ah n).bs/\Y.up=(m.ah n).up/\Y.inbox=(m.ah n).inbox:=by rcases h1 with h1 | ⟨_,h1⟩<;>rw [h1]<;>exact ⟨rfl,rfl,rfl⟩
  have gF: ∀ q,({ Y with data:=d,pend:=some p }:Nd).view q=(m.ah n).view q:=λq=>by
   rw [gK (X:={ Y with data:=d,pend:=some p }) (hY.2.1.trans hu),gK hu];exact congrFun hY.1 q
  have dS:(m.put n { Y with data:=d,pend:=some p }).ah=upd m.ah n { Y with data:=d,pend:=some p }:=rfl;have hvw:=nS (q:=q) dS (gF q);by_cases hq:l.q=q
  ·subst hq;have hfull:=(oJ hU.tape hU.nu h3 (by rw [h2];exact hlq)).2;have azu:=ao1 I hn (Cn (q:=l.q) hu) rfl (hL rfl) qo h2 rfl h3 h5 hfull;refine ⟨g,QI.mk' (I.ari (P':=upd (zq m l.q) n (some p)) λk p' hk hp'=>?_) hvw (by rw [sV dS];show upd _ n (pq l.q (some p))=_;rw [ab5 h2]) (lK dS hY.2.1) (xk dS (λx hx=>by rw [<-hY.2.2];exact hx) hn rfl) rfl rfl rfl,.refl g,by rw [hvw];exact id⟩;by_cases e:k=n
   ·subst e;rw [upd_same] at hp'
    cases hp';exact .inr ⟨hu,azu⟩
   rw [upd_ne e] at hp';exact .inl hp'
  refine ⟨g,I.far hn dS (gF q) ?_ hY.2.1 (λx hx=>by rw [<-hY.2.2];exact hx) (λx hx=> .inl hx) rfl rfl rfl,.refl g,by rw [hvw];exact id⟩;rw [hp];exact aky (by rw [h2];exact hq)
 | hear h1=>
  have dS:(m.put n ((m.ah n).hear n l)).ah=upd m.ah n ((m.ah n).hear n l):=rfl;have gF:((m.ah n).hear n l).view q=(m.ah n).view q:=by rw [gK (X:=(m.ah n).hear n l) hu,gK hu];rfl
  exact ⟨g,I.far hn dS gF rfl rfl (λ_ h=>h) (λx hx=> .inl hx) rfl rfl rfl,.refl g,by rw [nS dS gF];exact id⟩
theorem aeY {V:Nat->bK} {P:Nat->Option fM} {U:Nat->Bool} {Lt:iD->Prop} {pl:Pl} {sh:Nat->Int×Int} {sv:List kH} {b:bK} {s:Bool} (I:Inv g V P U Lt pl sh sv) (hn:n<5) (hb:V n=b): ∀ l∈ko n q b s,KF g V pl l:=λl hl=>by
 unfold ko at hl
 rcases List.mem_append.1 hl with hl | hl
 ·rcases List.mem_append.1 hl with hl | hl
  ·split at hl
   ·rename_i hr
    rw [List.mem_singleton] at hl;subst hl;have hkd:(zm n q b).kd=2:=rfl;refine ⟨λ_=>?_,λe=>by rw [hkd] at e;omega,λe=>by rw [hkd] at e;omega,λe=>by rw [hkd] at e;omega⟩
    show ∃ k:Nat,b.ep+1=(k:Int)+1/\1<=k/\k<=g.m/\(n:Int)=g.own k
    by_cases e:n=g.o
    ·subst e;exact ⟨g.m,by rw [<-hb,I.zT],I.m1,Nat.le_refl _,rfl⟩
    rcases I.uN n hn e with ⟨h5,_⟩ | ⟨k,k1,k2,k3,k4,k5,_⟩ | ⟨k,k1,_⟩
    ·rw [hb] at h5;omega
    ·rw [hb] at k2;exact ⟨k,by rw [k2],k3,Nat.le_of_lt k4,by rw [k5]⟩
    rw [hb] at k1;omega
   simp at hl
  split at hl
  ·rw [List.mem_singleton] at hl;subst hl;have hkd:(Vm n q).kd=5:=rfl;refine ⟨λe=>by rw [hkd] at e;omega,λe=>by rw [hkd] at e;omega,λ_ e=>?_,λe=>by rw [hkd] at e;omega⟩;exact absurd e (by show ¬ (0:Int)<= -1;decide)
  simp at hl
 split at hl
 ·rename_i hr
  rw [List.mem_singleton] at hl;subst hl;have hkd:(Qb n q b).kd=5:=rfl;refine ⟨λe=>by rw [hkd] at e;omega,λe=>by rw [hkd] at e;omega,λ_ _=>?_,λe=>by rw [hkd] at e;omega⟩;have ho:=I.oEp hn (by rw [hb];exact .inl hr.1);have dZ:b.ep=g.m:=by rw [<-hb,ho];exact I.zT
  show ∃ k:Nat,b.ep-1=(k:Int)/\1<=k/\k<g.m/\((g.own (k+1):Nat):Int)=(n:Int)
  refine ⟨g.m-1,by omega,by omega,by omega,?_⟩;rw [show g.m-1+1=g.m by have:=I.m1;omega];exact congrArg Int.ofNat ho.symm
 simp at hl
theorem aeZ (I:QI m q g) (hn:n<5) (hu:(m.ah n).up=true):QI (m.Ld n) q g/\vw (m.Ld n) q=vw m q:=by
 have dS:(m.Ld n).ah=upd m.ah n { m.ah n with turn:=(m.ah n).turn+1 }:=rfl;have gF:({ m.ah n with turn:=(m.ah n).turn+1 }:Nd).view q=(m.ah n).view q:=rfl;refine ⟨I.far hn dS gF rfl rfl (λ_ h=>h) (λx hx=>?_) rfl rfl rfl,nS dS gF⟩
 rcases List.mem_append.1 hx with hx | hx
 ·exact .inl hx
 refine .inr λhxq=>?_;have hxx:x.q=(m.ah n).turn % 4:=by
  unfold ko at hx
  rcases List.mem_append.1 hx with hx | hx
  ·rcases List.mem_append.1 hx with hx | hx
   ·split at hx
    ·rw [List.mem_singleton] at hx;subst hx;rfl
    simp at hx
   split at hx
   ·rw [List.mem_singleton] at hx;subst hx;rfl
   simp at hx
  split at hx
  ·rw [List.mem_singleton] at hx;subst hx;rfl
  simp at hx
 rw [hxx] at hxq;rw [hxq] at hx;exact aeY I hn (Cn hu) x hx
end
structure mg (g g':Gh):Prop where
 m:g.m<=g'.m
 own: ∀ k,k<=g.m->g'.own k=g.own k
 alT:g'.G.length<=g.G.length+1
theorem qZ.next {g g':Gh} (h:qZ g g'):mg g g':=⟨by rw [h.m];exact Nat.le_refl _,λk _=>by rw [h.own],by rw [h.G];omega⟩
theorem mg.refl (g:Gh):mg g g:=(qZ.refl g).next
theorem mg.same {g g' g2:Gh} (h:mg g g') (h2:qZ g' g2):mg g g2:=⟨by rw [h2.m];exact h.m,λk hk=>by rw [h2.own];exact h.own k hk,by rw [h2.G];exact h.alT⟩
def Co (q:Nat) (g g':Gh) (m m':Cl):Prop:=g'.m=g.m->(vw m q g.o).role=3->(vw m' q g.o).role=3
section
variable {m m':Cl} {n q:Nat} {g g':Gh} {l:iD} {rs us:List dB} {X:Nd} {V:Nat->bK} {P:Nat->Option fM} {U:Nat->Bool} {Lt:iD->Prop} {pl:Pl} {sh:Nat->Int×Int} {sv:List kH}
theorem Inv.Vq (I:Inv g V P U Lt pl sh sv) (n:Nat):Inv g V (upd P n none) U Lt pl sh sv:=I.ari λk p _ hp=>by
 by_cases e:k=n
 ·subst e;rw [upd_same] at hp;cases hp
 rw [upd_ne e] at hp;exact .inl hp
theorem Inv.Fh (I:Inv g V P U Lt pl sh sv) (hr:(V n).role=0\/(V n).role=4):n≠g.o:=λe=>by
 have:=I.arl;rw [<-e] at this;omega
theorem Inv.NT (I:Inv g V P U Lt pl sh sv) {k:Nat} (h1:1<=k) (h2:k<=g.m) (h3:(V n).ep< (k:Int)+1):Oth g n ⟨4,(k:Int)+1,g.own k,0,0,[]⟩:=by
 refine .inr (.inr ⟨k,rfl,rfl,h1,h2,rfl,rfl,Nat.zero_le _,λh e=>?_⟩);have:=I.ge (k+1) (by omega) h;rw [e] at this;omega
theorem Inv.JW (I:Inv g V P U Lt pl sh sv) (hn:n<5) (hr:(V n).role=4) {j:Nat} (hj: ∀ k:Nat,(V n).ep=(k:Int)+1->j<=g.bd k):Oth g n { V n with evs:=g.G.take j }:=by
 rcases I.uN n hn (I.Fh (.inr hr)) with ⟨h5,_⟩ | ⟨_,h5,_⟩ | ⟨k,k1,k2,k3,k4,k5,k6,k7,k8⟩
 ·omega
 ·omega
 have h1:=hj k k2;have h2:=I.aak k3 k4;have e:(g.G.take j).length=j:=by rw [List.length_take];omega
 exact .inr (.inr ⟨k,k1,k2,k3,k4,k5,by show g.G.take j=g.G.take (g.G.take j).length;rw [e],by show (g.G.take j).length<=_;rw [e];exact h1,k8⟩)
theorem Inv.KM (I:Inv g V P U Lt pl sh sv) (hn:n<5) (hr:(V n).role=3) (h:(V n).ep<g.m):n≠g.o/\Oth g n ⟨0,(V n).ep,0,0,0,[]⟩:=by
 have hne:n≠g.o:=λe=>by have:=I.zT;rw [<-e] at this;omega
 refine ⟨hne,?_⟩
 rcases I.uN n hn hne with ⟨h5,_⟩ | ⟨k,k1,k2,k3,_⟩ | ⟨_,h5,_⟩
 ·omega
 ·exact .inl ⟨rfl,by show 0<=(V n).ep;omega,h⟩
 omega
theorem Inv.serve {op:Ev} {a:iZ} {num:Int} {b:bK} {qq:Nat} (I:Inv g V P U Lt pl sh sv) (ho:n=g.o) (hu:U n=true) (hr:(V n).role≠3) (hg:good (g.G++[op])) (ha:(iL (aH g.G).1 op).2.1=a) (hb:b.ep=(V n).ep) (hb1:b.role=(V n).role) (hb2:b.tg=(V n).tg) (hb3:b.evs=g.G++[op]):
  Inv (g.app op).all (upd V n b) (upd P n none) U Lt pl (upd sh n ((g.m:Int),((g.G++[op]).length:Int))) (sv++[⟨n,qq,g.m,op,a,num⟩]):=by
 subst ho;obtain ⟨t1,t2,t3⟩:=I.Qo hu;obtain ⟨s1,s2,s3⟩:=good_step hg;have I2:=(I.down g.o).append (e:=op) (b:=b) (upd_same _ _ _) (upd_same _ _ _) hr t1 hg hb hb1 hb2 hb3;have I3:=I2.told (sv2:=[⟨g.o,qq,g.m,op,a,num⟩]) t1 (by rw [Dv t3 s1 ha];show _=some (aH (g.G++[op])).1;rw [s3]) λs hs=>by rw [List.mem_singleton] at hs;subst hs;exact ⟨rfl,rfl⟩
 have I4:=I3.up g.o λ_=>⟨rfl,rfl⟩;rw [sS,aI hu] at I4;exact I4
theorem Inv.activated {qq:Nat} (I:Inv g V P U Lt pl sh sv) (hu:U n=true) (hr:(V g.o).role=3) (qo:(V g.o).tg=n) (hg:good (g.G++[aM])) (hge:(V n).ep<=(g.m:Int)+1):
  Inv (g.act n).all (upd V n ⟨1,(g.m:Int)+1,0,0,0,g.G++[aM]⟩) (upd P n none) U Lt pl (upd sh n ((g.m:Int)+1,((g.G++[aM]).length:Int))) (sv++[⟨n,qq,(g.m:Int)+1,aM,eH,-1⟩]):=by
 have ht: ¬ (g.act n).t=(g.act n).m:=by
  show ¬ g.t=g.m+1
  rcases I.KH with ⟨h,_⟩ | ⟨h,_⟩<;>omega
 have ho:(g.act n).o=n:=upd_same _ _ _;have I2:=(I.down n).activate (T:=n) hr qo (upd_same _ _ _) (upd_same _ _ _) hg hge;have I3:=I2.Yv ht (s:=⟨n,qq,(g.m:Int)+1,aM,eH,-1⟩) rfl rfl (by show (g.m:Int)+1=((g.m+1:Nat):Int);omega) ho.symm;have I4:=I3.up n λ_=>⟨rfl,rfl⟩;rw [sS,aI hu,ho] at I4;have e:(((g.act n).m:Nat):Int)=(g.m:Int)+1:=by show ((g.m+1:Nat):Int)=_;omega
 rw [e] at I4;exact I4
theorem ae0 (g:Gh) (n:Nat):mg g (g.act n).all:=⟨by show g.m<=g.m+1;omega,λk hk=>upd_ne (by omega),by show (g.G++[aM]).length<=_;simp⟩
theorem ae1 (g:Gh) (e:Ev):mg g (g.app e).all:=⟨Nat.le_refl _,λ_ _=>rfl,by show (g.G++[e]).length<=_;simp⟩
theorem ae2 {p:fM} (I:QI m q g) (hn:n<5) (hX:m.ah n=X) (hu:X.up=true) (hp:X.pend=some p) (hpo:p.ok X.bs): ∃ g',QI (m.step n) q g'/\mg g g'/\Co q g g' m (m.step n):=by
 have hu':(m.ah n).up=true:=by rw [hX];exact hu
 by_cases hq:p.q=q
 ·have hpv:zq m q n=some p:=by unfold zq;rw [hX,hp];exact ab5 hq
  obtain ⟨_,hk⟩:=I.tL n hn p hpv;have hV:vw m q n=X.bs q:=by rw [Cn hu',hX]
  cases p with
  | serve k evs op num a=>
   have e:k=q:=hq;subst e;obtain ⟨k1,k2,k3,k4,k5⟩:=hk;have hr:(vw m k n).role≠3:=by unfold serves at k2;omega
   have dZ:(X.bs k).ep=g.m:=by rw [<-hV,k1];exact I.zT
   rw [qg hX hu hp rfl (by rw [hV] at k2;exact k2)];have I2:=I.serve (b:={ X.bs k with evs:=evs }) (qq:=k) (num:=num) k1 hu' hr (by rw [<-k3];exact k5) k4 (by rw [hV]) (by rw [hV]) (by rw [hV]) k3;have dS:({ (m.put n (X.jI.aZ k { X.bs k with evs:=evs })) with aV:=m.aV++[⟨n,k,(X.bs k).ep,op,a,num⟩],shown:=gX m.shown n k ((X.bs k).ep,evs.length),fly:=m.fly++[mJ n num a nowhere] }:Cl).ah=upd m.ah n (X.jI.aZ k { X.bs k with evs:=evs }):=rfl;have gF:(X.jI.aZ k { X.bs k with evs:=evs }).view k={ X.bs k with evs:=evs }:=by rw [gK (X:=X.jI.aZ k _) hu];exact upd_same _ _ _
   refine ⟨_,QI.mk' I2 (by rw [tN dS,gF]) (by rw [sV dS];rfl) (lK dS (by rw [hX];rfl)) ?_ rfl ?_ ?_,ae1 g op,λ_ h=>absurd h (by rw [<-k1];exact hr)⟩
   ·exact JV (x:=mJ n num a nowhere) dS (λx hx=>by rw [hX];exact hx) hn rfl λ_=>lZ (.inr (.inl rfl))
   ·show (λj=>gX m.shown n k _ j k)=_
    rw [Fg,dZ,k3];rfl
   show (m.aV++_).filter _=_
   rw [sW,if_pos rfl,dZ];rfl
  | begun k b=>
   have e:k=q:=hq;subst e;obtain ⟨j,j1,j2,j3,j4,j5⟩:=hk;rw [yE hX hu hp];have hne:=I.Fh j4;have I2:=(I.Vq n).QW (b:=b) hn hne (upd_same _ _ _) (by rw [j1];exact I.NT j2 j3 j5) (by rw [j1];show _<=(j:Int)+1;omega);have dS:({ (m.put n (X.jI.aZ k b)) with fly:=m.fly++[qX n k b] }:Cl).ah=upd m.ah n (X.jI.aZ k b):=rfl;have gF:(X.jI.aZ k b).view k=b:=by rw [gK (X:=X.jI.aZ k _) hu];exact upd_same _ _ _
   have hvw:vw ({ (m.put n (X.jI.aZ k b)) with fly:=m.fly++[qX n k b] }:Cl) k=upd (vw m k) n b:=by rw [tN dS,gF]
   exact ⟨g,QI.mk' I2 hvw (by rw [sV dS];rfl) (lK dS (by rw [hX];rfl)) (JV (x:=qX n k b) dS (λx hx=>by rw [hX];exact hx) hn rfl λ_=>lZ (.inr (.inr rfl))) rfl rfl rfl,.refl g,λ_ h=>by rw [hvw,upd_ne (λe=>hne e.symm)];exact h⟩
  | got k b last=>
   have e:k=q:=hq;subst e;obtain ⟨j1,j2,j3⟩:=hk;have hne:=I.Fh (.inr j1)
   cases last with
   | true=>
    obtain ⟨a1,a2,a3,a4,a5⟩:=j3 rfl;subst a4;rw [rX hX hu hp];have I2:=I.activated (qq:=k) hu' a2 a3 a5 (by rw [a1];exact Int.le_refl _);have dS:({ (m.put n { (X.jI.aZ k ⟨1,(g.m:Int)+1,0,0,0,g.G++[aM]⟩) with sure:=upd X.sure k false }) with aV:=m.aV++[⟨n,k,(g.m:Int)+1,aM,eH,-1⟩],shown:=gX m.shown n k ((g.m:Int)+1,(g.G++[aM]).length) }:Cl).ah=upd m.ah n { (X.jI.aZ k ⟨1,(g.m:Int)+1,0,0,0,g.G++[aM]⟩) with sure:=upd X.sure k false }:=rfl;have gF:({ (X.jI.aZ k ⟨1,(g.m:Int)+1,0,0,0,g.G++[aM]⟩) with sure:=upd X.sure k false }:Nd).view k=⟨1,(g.m:Int)+1,0,0,0,g.G++[aM]⟩:=by rw [gK (X:={ (X.jI.aZ k _) with sure:=upd X.sure k false }) hu];exact upd_same _ _ _
    refine ⟨_,QI.mk' I2 (by rw [tN dS,gF]) (by rw [sV dS];rfl) (lK dS (by rw [hX];rfl)) (xk dS (λx hx=>by rw [hX];exact hx) hn rfl) rfl ?_ ?_,ae0 g n,λh=>by
     have:g.m+1=g.m:=h;omega⟩
    ·show (λj=>gX m.shown n k _ j k)=_
     rw [Fg];rfl
    show (m.aV++_).filter _=_
    rw [sW,if_pos rfl];rfl
   | false=>
    obtain ⟨j,a1,a2,a3⟩:=j2 rfl;rw [El hX hu hp];have I2:=(I.Vq n).QW (b:=b) hn hne (upd_same _ _ _) (by rw [a1];exact I.JW hn j1 a3) (by rw [a1];exact Int.le_refl _);have dS:({ (m.put n (X.jI.aZ k b)) with fly:=m.fly++[qX n k b] }:Cl).ah=upd m.ah n (X.jI.aZ k b):=rfl;have gF:(X.jI.aZ k b).view k=b:=by rw [gK (X:=X.jI.aZ k _) hu];exact upd_same _ _ _
    have hvw:vw ({ (m.put n (X.jI.aZ k b)) with fly:=m.fly++[qX n k b] }:Cl) k=upd (vw m k) n b:=by rw [tN dS,gF]
    exact ⟨g,QI.mk' I2 hvw (by rw [sV dS];rfl) (lK dS (by rw [hX];rfl)) (JV (x:=qX n k b) dS (λx hx=>by rw [hX];exact hx) hn rfl λ_=>lZ (.inr (.inr rfl))) rfl rfl rfl,.refl g,λ_ h=>by rw [hvw,upd_ne (λe=>hne e.symm)];exact h⟩
  | iN k b at_=>
   have e:k=q:=hq;subst e;obtain ⟨ho,j1,j2⟩:=hk;rw [Bf hX hu hp];obtain ⟨t1,t2,t3⟩:=I.Qo (by rw [<-ho];exact hu');have Vp:=I.Uz (by rw [<-ho];omega);have I2:Inv g (upd (vw m k) g.o b) (upd (zq m k) n none) (DI m) (Mf m k) (m.off.at k) (zu m k) (zo m k):=by
    refine Inv.aal (I.Vq n) (λp' hp'=>?_) ?_ ?_ ?_ ?_ ?_ λ_=>t2
    ·rw [<-ho,upd_same] at hp';cases hp'
    ·rw [j2,ho];exact I.zT
    ·rw [j2,ho];exact I.KG
    ·rw [j2];exact .inr (.inr rfl)
    ·intro _;rw [j2,ho];exact Vp
    intro h;rw [<-ho] at h;omega
   rw [<-ho] at I2;have dS:({ (m.put n (X.jI.aZ k b)) with fly:=nI n k b at_ m.fly }:Cl).ah=upd m.ah n (X.jI.aZ k b):=rfl;have gF:(X.jI.aZ k b).view k=b:=by rw [gK (X:=X.jI.aZ k _) hu];exact upd_same _ _ _
   have hvw:vw ({ (m.put n (X.jI.aZ k b)) with fly:=nI n k b at_ m.fly }:Cl) k=upd (vw m k) n b:=by rw [tN dS,gF]
   refine ⟨g,QI.mk' I2 hvw (by rw [sV dS];rfl) (lK dS (by rw [hX];rfl)) (λx hx=>?_) rfl rfl rfl,.refl g,λ_ h=>by rw [hvw,<-ho,upd_same,j2]⟩;obtain ⟨x1,x2⟩:=hx
   rcases x2 with x2 | ⟨j,hj,x2⟩
   ·rcases Gg I2 hn (upd_same _ _ _) x x2 with x3 | x3
    ·exact .inl ⟨x1,.inl x3⟩
    exact .inr x3
   rw [dS] at x2;by_cases e:j=n
   ·subst e;rw [upd_same] at x2;exact .inl ⟨x1,.inr ⟨j,hj,by rw [hX];exact x2⟩⟩
   rw [upd_ne e] at x2;exact .inl ⟨x1,.inr ⟨j,hj,x2⟩⟩
  | forget k b=>
   have e:k=q:=hq;subst e;obtain ⟨j1,j2,j3⟩:=hk;obtain ⟨hne,hoth⟩:=I.KM hn j1 j3;rw [vX hX hu hp];have I2:=(I.Vq n).QW (b:=b) hn hne (upd_same _ _ _) (by rw [j2];exact hoth) (by rw [j2];exact Int.le_refl _);have dS:(m.put n (X.jI.aZ k b)).ah=upd m.ah n (X.jI.aZ k b):=rfl;have gF:(X.jI.aZ k b).view k=b:=by rw [gK (X:=X.jI.aZ k _) hu];exact upd_same _ _ _
   have hvw:vw (m.put n (X.jI.aZ k b)) k=upd (vw m k) n b:=by rw [tN dS,gF]
   exact ⟨g,QI.mk' I2 hvw (by rw [sV dS];rfl) (lK dS (by rw [hX];rfl)) (xk dS (λx hx=>by rw [hX];exact hx) hn rfl) rfl rfl rfl,.refl g,λ_ h=>by rw [hvw,upd_ne (λe=>hne e.symm)];exact h⟩
 have far: ∀ {m':Cl} {Y:Nd},m'.ah=upd m.ah n Y->Y.bs=upd X.bs p.q (p.b X.bs)->Y.up=true->Y.pend=none->Y.inbox=X.inbox->(∀ l∈m'.fly,l∈m.fly\/(l.q=q->KF g (vw m q) (m.off.at q) l))->m'.off.at q=m.off.at q->zu m' q=zu m q->zo m' q=zo m q-> ∃ g',QI m' q g'/\mg g g'/\Co q g g' m m':=by
  intro m' Y h1 h2 h3 h4 h5 h6 h7 h8 h9;have gF:Y.view q=(m.ah n).view q:=by rw [gK h3,gK hu',h2,hX];exact upd_ne (λe=>hq e.symm)
  refine ⟨g,I.far hn h1 gF ?_ (by rw [hu'];exact h3) (λx hx=>by rw [hX,<-h5];exact hx) h6 h7 h8 h9,.refl g,λ_ h=>by rw [nS h1 gF];exact h⟩;rw [h4,hX,hp];exact (aky hq).symm
 have snoc: ∀ {x:iD} {fl:List iD},(x.q=q->KF g (vw m q) (m.off.at q) x)-> ∀ l∈fl++[x],l∈fl\/(l.q=q->KF g (vw m q) (m.off.at q) l):=λ{x fl} hx l hl=>by
  rcases List.mem_append.1 hl with hl | hl
  ·exact .inl hl
  rw [List.mem_singleton] at hl;subst hl;exact .inr hx
 cases p with
 | serve k evs op num a=>
  rw [qg hX hu hp rfl hpo.1];refine far (Y:=X.jI.aZ k { X.bs k with evs:=evs }) rfl rfl hu rfl rfl (snoc λ_=>lZ (.inr (.inl rfl))) rfl (NS hq) ?_
  show (m.aV++_).filter _=_
  rw [sW,if_neg (show ¬ k=q from hq),List.append_nil];rfl
 | begun k b=>
  rw [yE hX hu hp];exact far (Y:=X.jI.aZ k b) rfl rfl hu rfl rfl (snoc λ_=>lZ (.inr (.inr rfl))) rfl rfl rfl
 | got k b last=>
  cases last with
  | true=>
   rw [rX hX hu hp];refine far (Y:={ (X.jI.aZ k b) with sure:=upd X.sure k false }) rfl rfl hu rfl rfl (λl hl=> .inl hl) rfl (NS hq) ?_
   show (m.aV++_).filter _=_
   rw [sW,if_neg (show ¬ k=q from hq),List.append_nil];rfl
  | false=>
   rw [El hX hu hp];exact far (Y:=X.jI.aZ k b) rfl rfl hu rfl rfl (snoc λ_=>lZ (.inr (.inr rfl))) rfl rfl rfl
 | iN k b at_=>
  rw [Bf hX hu hp];refine far (Y:=X.jI.aZ k b) rfl rfl hu rfl rfl (λl hl=>?_) rfl rfl rfl;unfold nI at hl;dsimp only at hl
  split at hl
  ·exact .inl hl
  exact snoc (λh=>absurd h hq) l hl
 | forget k b=>
  rw [vX hX hu hp];exact far (Y:=X.jI.aZ k b) rfl rfl hu rfl rfl (λl hl=> .inl hl) rfl rfl rfl
theorem En: ∀ (rs:List dB),(bJ rs).length<=46*rs.length
 | []=>by simp [bJ]
 | r::rs=>by
  have h1:=(zK r).2;have h2:=En rs;have e:bJ (r::rs)=lI r++bJ rs:=by simp [bJ,List.flatMap_cons]
  rw [e,List.length_append,List.length_cons];omega
theorem ajc {bs:Nat->bK} {p:fM} (hq:p.q=l.q) (hp:p.ok bs) (hS:Src (bs l.q) l p) (hl:l.evs.length<=3):(p.rs bs).length<=4:=by
 cases p with
 | serve k evs op num a=>exact Nat.le_of_ble_eq_true rfl
 | begun k b=>exact Nat.le_of_ble_eq_true rfl
 | iN k b a=>exact Nat.le_of_ble_eq_true rfl
 | forget k b=>exact Nat.le_of_ble_eq_true rfl
 | got k b last=>
  have e:k=l.q:=hq;subst e;obtain ⟨es,g1,g2,g3,g4,g5,g6,g7⟩:=Gb hp;obtain ⟨s1,s2,s3,s4,s5,s6,s7,s8,s9⟩:=hS;have hil:=Si s4 s5 s7;have hbl:b.evs.length=l.at_.toNat+l.evs.length+if last=true then 1 else 0:=by
   rw [s9];unfold vY;rw [<-s8]
   cases last with
   | true=>simp only [if_true,List.length_append,List.length_singleton];omega
   | false=>simp only [Bool.false_eq_true,if_false];omega
  rw [g7,List.length_append,List.length_map,List.length_drop]
  cases last with
  | true=>simp only [if_true,List.length_singleton] at*;omega
  | false=>simp only [Bool.false_eq_true,if_false,List.length_nil] at*;omega
theorem ajd (hl:l.evs.length<=3) (H:Hnd m n l m'):(m'.ah n).data.length<=(m.ah n).data.length+184:=by
 cases H with
 | same=>omega
 | done a h1 h2=>rw [(Gc (m:=m)).2.1];omega
 | have_ h1=>exact Nat.le_add_right _ _
 | part b h1 h2 h3 h4 h5 h6=>
  rw [(Gd (m:=m.aZ n l.q b)).2.1,show (m.aZ n l.q b).ah n=(m.ah n).aZ l.q b from bM _];exact Nat.le_add_right _ _
 | pend p Y d h1 h2 h3 h4 h5=>
  rw [bM]
  show d.length<=_
  obtain ⟨w1,_,_⟩:=rO h4;have h6:=ajc h2 h3 h5 hl;have h7:=En (p.rs (m.ah n).bs);rw [w1,List.length_append];omega
 | hear h1=>rw [bM];exact Nat.le_add_right _ _
theorem ae3 {T S D K:Nat} (I:QI m q g) (hB:fJ m T S D K) (hn:n<5) (hroom:(m.ah n).data.length+46<=100000) (hG:g.G.length<1999):(∃ g',QI (m.step n) q g'/\mg g g'/\Co q g g' m (m.step n))/\((m.step n).ah n).data.length<=(m.ah n).data.length+184:=by
 cases hu:(m.ah n).up with
 | false=>rw [Bd hu];exact ⟨⟨g,I,.refl g,λ_ h=>h⟩,by omega⟩
 | true=>
  obtain ⟨rs,us,hU⟩:=(hB.kW n hn).Le hu
  cases hp:(m.ah n).pend with
  | some p=>
   obtain ⟨h1,h2,h3⟩:=hU.UD p hp;obtain ⟨_,hf⟩:=oJ hU.tape hU.nu h2 h3;obtain ⟨Y,y1,y2,y3,_⟩:=UF rfl hu hp h3 hf h2;refine ⟨ae2 I hn rfl hu hp h2,?_⟩;rw [y1,upd_same,y3];omega
  | none=>
   have hus:=hU.Yy hp;subst hus;have hd:(bJ rs).length+46<=100000:=by have:=hU.data;rw [List.append_nil] at this;rw [<-this];exact hroom
   have key:=Sj (n:=n) (λm1=>(Rdg m n rs m1/\(m1.ah n).data.length<=(bJ rs).length+184)/\ ∃ g1,QI m1 q g1/\qZ g g1/\((vw m q g.o).role=3->(vw m1 q g.o).role=3)) (λm1 l r H hp1 hin=>by
    obtain ⟨⟨H1,D1⟩,g1,I1,S1,R1⟩:=H;obtain ⟨h1,h2,h3,h4⟩:=Sk (λl hl=>Em (hB.mK n hn l hl)) H1 hp1 hin;have hl0:l∈(m1.ah n).inbox:=by rw [hin];simp
    obtain ⟨b1,b2⟩:=hB.mK n hn l (H1.mK l hl0);have dS:(m1.put n ((m1.ah n).box r)).ah=upd m1.ah n ((m1.ah n).box r):=rfl;have gF:((m1.ah n).box r).view q=(m1.ah n).view q:=rfl;have hvw:=nS dS gF;have I2:QI (m1.put n ((m1.ah n).box r)) q g1:=I1.far hn dS gF rfl rfl (λx hx=>by rw [hin];exact List.mem_cons_of_mem _ hx) (λx hx=> .inl hx) rfl rfl rfl;have e0:(m1.put n ((m1.ah n).box r)).ah n=(m1.ah n).box r:=bM _;have hdd:=h2.data;rw [List.append_nil] at hdd;obtain ⟨g2,I3,S3,R3⟩:=ajb I2 hn (by rw [e0];exact H1.up) h2 (by rw [e0];exact hp1) (λhlq=>by rw [hvw];exact I1.vE l ⟨hlq,.inr ⟨n,hn,hl0⟩⟩) b2 b1.2.2.2 h1.1 (by rw [hdd];exact hd) (by rw [S1.G];exact hG) h3;have D2:=ajd b1.2.1 h3;rw [hdd] at D2;refine ⟨h1.1,⟨h4,D2⟩,g2,I3,S1.trans S3,λh=>?_⟩;have h9:=R1 h;rw [<-S1.o] at h9⊢;rw [<-hvw] at h9;exact R3 h9) _ m rfl ⟨⟨akx hu ⟨_,hU⟩,by have:=hU.data;rw [List.append_nil] at this;rw [this];omega⟩,g,I,.refl g,id⟩
   obtain ⟨⟨H1,D1⟩,g1,I1,S1,R1⟩:=key;have hd0:=congrArg List.length hU.data;rw [List.append_nil] at hd0;rw [uD hu hp]
   split
   ·obtain ⟨I2,e2⟩:=aeZ I1 hn H1.up;refine ⟨⟨g1,I2,S1.next,λ_ h=>by rw [e2];exact R1 h⟩,?_⟩;have e:(((m.more n).Ld n).ah n)={ (m.more n).ah n with turn:=((m.more n).ah n).turn+1 }:=bM _;rw [e]
    show ((m.more n).ah n).data.length<=_
    omega
   exact ⟨⟨g1,I1,S1.next,λ_ h=>R1 h⟩,by omega⟩
end
def QIx (m:Cl) (q:Nat) (g:Gh) (ls:List iD):Prop:=Inv g (vw m q) (zq m q) (DI m) (λl=>Mf m q l\/(l.q=q/\l∈ls)) (m.off.at q) (zu m q) (zo m q)
theorem Xf {d:Dir} {k q:Nat} {p:Pl} (hk:k<4) (hq:q<4):(d.set k p).at q=if q=k then p else d.at q:=by
 have h1:k=0\/k=1\/k=2\/k=3:=by omega
 have h2:q=0\/q=1\/q=2\/q=3:=by omega
 rcases h1 with rfl | rfl | rfl | rfl<;>rcases h2 with rfl | rfl | rfl | rfl<;>rfl
theorem aje {d:Dir} {q ep nd:Int} (h:(zZ d q ep nd).2=0):(bn d q).2=0/\0<=nd/\nd<=4/\(bn d q).1.epoch=ep/\zZ d q ep nd=(d.set q.toNat ⟨nd,ep+1⟩,0):=by
 unfold zZ at h⊢;by_cases c1:(bn d q).2≠0
 ·rw [if_pos c1] at h;exact absurd h c1
 rw [if_neg c1] at h⊢;by_cases c2:nd<0\/4<nd
 ·rw [if_pos c2] at h;exact absurd h (by decide)
 rw [if_neg c2] at h⊢;by_cases c3:(bn d q).1.epoch≠ep
 ·rw [if_pos c3] at h;exact absurd h (by decide)
 rw [if_neg c3] at h⊢;by_cases c4:(bn d q).1.node=nd
 ·rw [if_pos c4] at h;exact absurd h (by decide)
 rw [if_neg c4] at h⊢;by_cases c5:ep=1048576
 ·rw [if_pos c5] at h;exact absurd h (by decide)
 rw [if_neg c5];exact ⟨Classical.not_not.1 c1,by omega,by omega,Classical.not_not.1 c3,rfl⟩
section
variable {m m':Cl} {n q:Nat} {g g':Gh} {l:iD} {ls:List iD} {rs us:List dB} {X:Nd} {V:Nat->bK} {P:Nat->Option fM} {U:Nat->Bool} {Lt:iD->Prop} {pl:Pl} {sh:Nat->Int×Int} {sv:List kH}
theorem Sm (I:QIx m q g (l::ls)) (hl:lU l) (hq:q<4):QIx (m.come l) q g ls/\vw (m.come l) q=vw m q:=by
 have drop: ∀ {x:iD},(Mf m q x\/(x.q=q/\x∈ls))->(Mf m q x\/(x.q=q/\x∈l::ls)):=λh=>h.imp id λh=>⟨h.1,List.mem_cons_of_mem _ h.2⟩;obtain ⟨hlq,_,h1 | ⟨h1,h2,h3,h4⟩ | ⟨h1,h2,h3⟩,_⟩:=id hl
 ·have e:m.come l={ m with bL:=m.bL++[l.bL] }:=if_pos h1;rw [e];exact ⟨I.yA λx hx=> .inl (drop hx),rfl⟩
 ·have key:Inv g (vw m q) (zq m q) (DI m) (λx=>Mf m q x\/(x.q=q/\x∈l::ls)) ((eT m.off l).at q) (zu m q) (zo m q):=by
   unfold eT;by_cases c:0<=l.nd/\(zZ m.off l.q l.ep l.nd).2=0
   ·rw [if_pos c];obtain ⟨f1,f2,f3,f4,f5⟩:=aje c.2;rw [f5];dsimp only;rw [Int.toNat_natCast,Xf hlq hq];by_cases e:q=l.q
    ·rw [if_pos e];obtain ⟨_,_,w3⟩:=uP (d:=m.off) (q:=l.q) (λh=>h f1);have w3':(bn m.off l.q).1=m.off.at q:=by rw [w3,Int.toNat_natCast,e]
     rw [w3'] at f4;obtain ⟨d,d1,d2,d3⟩:=I.dir;rw [d1] at f4;dsimp only at f4;obtain ⟨k,k1,k2,k3,k4⟩:=(I.vE l (.inr ⟨e.symm,List.mem_cons_self ..⟩)).2.2.1 h4 f2;have hk:k+1=g.m:=by omega
     rw [hk] at k4;refine I.aue ?_;simp only [Pl.mk.injEq];omega
    rw [if_neg e];exact I
   rw [if_neg c];exact I
  unfold Cl.come;rw [if_neg (by omega),if_pos h1]
  split
  ·rename_i hw
   refine ⟨key.yA λx hx=>?_,rfl⟩
   rcases hx with ⟨x1,x2⟩ | hx
   ·rcases x2 with x2 | x2
    ·rcases List.mem_append.1 x2 with x2 | x2
     ·exact .inl (.inl ⟨x1,.inl x2⟩)
     rw [List.mem_singleton] at x2;subst x2;refine .inr ?_;have hkd:(nR l.fr l.q (bn (eT m.off l) l.q).1).kd=6:=rfl;refine ⟨λe=>by rw [hkd] at e;omega,λe=>by rw [hkd] at e;omega,λe=>by rw [hkd] at e;omega,λ_=>?_⟩;have x1':l.q=q:=x1;subst x1';obtain ⟨_,_,w3⟩:=uP (d:=eT m.off l) (q:=l.q) (λh=>h hw);rw [Int.toNat_natCast] at w3;obtain ⟨d,d1,d2,d3⟩:=key.dir
     show ∃ k:Nat,(bn (eT m.off l) l.q).1.epoch=k/\1<=k/\(k:Int)<=((eT m.off l).at l.q).epoch/\((g.own k:Nat):Int)=(bn (eT m.off l) l.q).1.node
     rw [w3,d1];exact ⟨d,rfl,d2,Int.le_refl _,rfl⟩
    exact .inl (.inl ⟨x1,.inr x2⟩)
   exact .inl (.inr ⟨hx.1,List.mem_cons_of_mem _ hx.2⟩)
  exact ⟨key.yA λx hx=> .inl (drop hx),rfl⟩
 unfold Cl.come;rw [if_neg (by omega),if_neg (by omega)];have hn:l.tg.toNat<5:=by omega
 split
 ·rename_i hu
  have dS:(m.put l.tg.toNat { m.ah l.tg.toNat with inbox:=(m.ah l.tg.toNat).inbox++[l] }).ah=upd m.ah l.tg.toNat ((m.ah l.tg.toNat).box ((m.ah l.tg.toNat).inbox++[l])):=rfl;have hvw:=nS (q:=q) dS rfl;refine ⟨?_,hvw⟩;unfold QIx;rw [hvw,rP dS rfl,lK dS rfl];refine I.yA λx hx=> .inl ?_
  rcases hx with ⟨x1,x2⟩ | hx
  ·rcases x2 with x2 | ⟨j,hj,x2⟩
   ·exact .inl ⟨x1,.inl x2⟩
   rw [dS] at x2;by_cases e:j=l.tg.toNat
   ·subst e;rw [upd_same] at x2
    rcases List.mem_append.1 x2 with x2 | x2
    ·exact .inl ⟨x1,.inr ⟨_,hj,x2⟩⟩
    rw [List.mem_singleton] at x2;subst x2;exact .inr ⟨x1,List.mem_cons_self ..⟩
   rw [upd_ne e] at x2;exact .inl ⟨x1,.inr ⟨j,hj,x2⟩⟩
  exact .inr ⟨hx.1,List.mem_cons_of_mem _ hx.2⟩
 exact ⟨I.yA λx hx=> .inl (drop hx),rfl⟩
theorem NU: ∀ (ls:List iD) {m:Cl},QIx m q g ls->(∀ l∈ls,lU l)->q<4->QIx (ls.foldl Cl.come m) q g []/\vw (ls.foldl Cl.come m) q=vw m q
 | [],m,I,_,_=>⟨I,rfl⟩
 | l::ls,m,I,hl,hq=>by
  obtain ⟨I2,e⟩:=Sm I (hl l (by simp)) hq;obtain ⟨I3,e3⟩:=NU ls I2 (λx hx=>hl x (by simp [hx])) hq;exact ⟨I3,e3.trans e⟩
theorem OZ:QIx m q g []↔QI m q g:=by
 constructor
 ·intro I;exact I.yA λx hx=> .inl (.inl hx)
 intro I;exact I.yA λx hx=> .inl (hx.elim id λh=>by simp at h)
theorem ajf (I:QI m q g) (hl: ∀ l∈m.fly,lU l) (hq:q<4):QI m.all q g/\vw m.all q=vw m q:=by
 have I0:QIx { m with fly:=[] } q g m.fly:=I.yA λx hx=> .inl (by
  rcases hx with ⟨x1,x2⟩ | ⟨x1,x2⟩
  ·rcases x2 with x2 | x2
   ·simp at x2
   exact ⟨x1,.inr x2⟩
  exact ⟨x1,.inl x2⟩)
 obtain ⟨I1,e⟩:=NU m.fly I0 hl hq;exact ⟨OZ.1 I1,e⟩
theorem ae4 {at_:Nat} {c s:Bool} (I:QI m q g) (hl: ∀ l∈m.fly,lU l) (hq:q<4):QI (m.pick at_ c s) q g/\vw (m.pick at_ c s) q=vw m q:=by
 unfold Cl.pick
 split
 ·exact ⟨I,rfl⟩
 rename_i l hl2
 have hm:=List.mem_of_getElem? hl2;have I0:QIx (if s=true then m else { m with fly:=m.fly.eraseIdx (at_ % m.fly.length) }) q g [l]/\vw (if s=true then m else { m with fly:=m.fly.eraseIdx (at_ % m.fly.length) }) q=vw m q:=by
  split
  ·exact ⟨I.yA λx hx=> .inl (hx.elim id λh=>by have:=h.2;rw [List.mem_singleton] at this;subst this;exact ⟨h.1,.inl hm⟩),rfl⟩
  exact ⟨I.yA λx hx=> .inl (by
   rcases hx with ⟨x1,x2⟩ | ⟨x1,x2⟩
   ·rcases x2 with x2 | x2
    ·exact ⟨x1,.inl (List.mem_of_mem_eraseIdx x2)⟩
    exact ⟨x1,.inr x2⟩
   rw [List.mem_singleton] at x2;subst x2;exact ⟨x1,.inl hm⟩),rfl⟩
 dsimp only
 split
 ·obtain ⟨I1,e⟩:=Sm I0.1 (hl l hm) hq;exact ⟨OZ.1 I1,e.trans I0.2⟩
 exact ⟨OZ.1 (I0.1.yA λx hx=> .inl (hx.elim .inl λh=>by simp at h)),I0.2⟩
theorem ae5 (I:QI m q g) {c:Nat} (hk:l.kd=0):QI { m with fly:=m.fly++[l],calls:=c } q g/\vw { m with fly:=m.fly++[l],calls:=c } q=vw m q:=by
 refine ⟨I.yA λx hx=>?_,rfl⟩;obtain ⟨x1,x2⟩:=hx
 rcases x2 with x2 | x2
 ·rcases List.mem_append.1 x2 with x2 | x2
  ·exact .inl ⟨x1,.inl x2⟩
  rw [List.mem_singleton] at x2;subst x2;exact .inr (lZ (.inl hk))
 exact .inl ⟨x1,.inr x2⟩
end
end
end Go.Proofs.YthhnonpehllibaaGreatDoor
