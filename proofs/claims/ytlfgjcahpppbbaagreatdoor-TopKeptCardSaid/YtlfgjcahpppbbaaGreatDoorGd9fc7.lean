import Derived.Test.YtlfgjcahpppbbaaGreatDoorG37f24
import Derived.Test.YtlfgjcahpppbbaaGreatDoorG6e26f
import Derived.Test.YtlfgjcahpppbbaaGreatDoorGba5b0
set_option maxRecDepth 100000
set_option maxHeartbeats 8000000
set_option linter.unusedSimpArgs false
set_option linter.unusedVariables false
namespace Go.Proofs.YtlfgjcahpppbbaaGreatDoor
section
open ChangeShapes WideShapes RowKit
structure xk where
 num:Int
 ans:iM
 pl:Pl
structure dK where
 kd:Int:=0
 fr:Int:=0
 tg:Int:=0
 q:Nat:=0
 ep:Int:=0
 at_:Int:=0
 nd:Int:=0
 op:Ev:=aO
 evs:List Ev:=[]
 last:Bool:=false
 num:Int:=0
 bH:xk:=⟨0,eD,mZ⟩
structure fD where
 nd:Nat
 q:Nat
 ep:Int
 op:Ev
 ans:iM
 num:Int
inductive dB
 | serve (q:Nat) (evs:List Ev) (op:Ev) (num:Int) (a:iM)
 | begun (q:Nat) (b:bn)
 | got (q:Nat) (b:bn) (last:Bool)
 | gI (q:Nat) (b:bn) (at_:Int)
 | forget (q:Nat) (b:bn)
structure Nd where
 up:Bool
 data:List UInt8
 syn:Int
 bs:Nat->bn
 hints:Nat->Pl
 sure:Nat->Bool
 inbox:List dK
 pend:Option dB
 turn:Nat
structure Cl where
 ah:Nat->Nd
 off:Dir
 fly:List dK
 shown:Nat->Nat->Int×Int
 aQ:List fD
 bH:List xk
 calls:Nat
def upd {α:Type} (f:Nat->α) (k:Nat) (v:α):Nat->α:=λj=>if j=k then v else f j
def iy {α:Type} (f:Nat->Nat->α) (n q:Nat) (v:α):Nat->Nat->α:=λi j=>if i=n/\j=q then v else f i j
def Cl.put (w:Cl) (n:Nat) (x:Nd):Cl:={ w with ah:=upd w.ah n x }
def Cl.aK (w:Cl) (n q:Nat) (b:bn):Cl:=w.put n { w.ah n with bs:=upd (w.ah n).bs q b }
def Cl.send (w:Cl) (l:dK):Cl:={ w with fly:=w.fly++[l] }
def Nd.blank (x:Nd):Nd:={ x with bs:=λ_=>bF,sure:=λ_=>false,hints:=λ_=>nowhere,inbox:=[],pend:=none }
def nd0:Nd:=⟨true,[],0,λ_=>bF,λ_=>nowhere,λ_=>false,[],none,0⟩
def mD:Cl:=⟨λ_=>nd0,⟨nowhere,nowhere,nowhere,nowhere⟩,[],λ_ _=>(0,0),[],[],0⟩
def eZ (l:List UInt8) (s:Int):List dD->Option (List UInt8)
 | []=>some l
 | r::rs=>if (iT l s r).2.2≠0 then none else eZ (iT l s r).1 s rs
def Nd.write (x:Nd) (rs:List dD):Option Nd:=(eZ x.data x.syn rs).map λd=>{ x with data:=d }
def fG (k:Int) (q:Nat) (ep pe:Int) (e:Ev):dD:=⟨k,q,ep,pe,e⟩
def Cl.tell (w:Cl) (n q:Nat) (e:Ev) (a:iM) (num:Int):Cl:=
 { w with aQ:=w.aQ++[⟨n,q,((w.ah n).bs q).ep,e,a,num⟩],shown:=iy w.shown n q (((w.ah n).bs q).ep,((w.ah n).bs q).evs.length) }
def serves (b:bn):Prop:=b.role=1\/b.role=2
instance (b:bn):Decidable (serves b):=by unfold serves;exact inferInstance
def lK (n:Nat) (num:Int) (a:iM) (p:Pl):dK:={ kd:=1,fr:=n,tg:= -1,bH:=⟨num,a,p⟩ }
def Cl.done (w:Cl) (n q:Nat) (op:Ev) (num:Int) (a:iM):Cl:=
 if serves ((w.ah n).bs q) then (w.tell n q op a num).send (lK n num a nowhere) else w.send (lK n num a ((w.ah n).hints q))
noncomputable def Cl.serve (w:Cl) (n:Nat) (l:dK):Cl:=
 if (gP ((w.ah n).bs l.q) l.op).2.2.1=false then w.done n l.q l.op l.num (gP ((w.ah n).bs l.q) l.op).2.1
 else match (w.ah n).write [fG 2 l.q (gP ((w.ah n).bs l.q) l.op).1.ep 0 l.op] with
  | none=>w.done n l.q l.op l.num (qU 14)
  | some x=>w.put n { x with pend:=some (.serve l.q (gP ((w.ah n).bs l.q) l.op).1.evs l.op l.num (gP ((w.ah n).bs l.q) l.op).2.1) }
def oC (n q:Nat) (b:bn):dK:={ kd:=3,fr:=n,tg:=b.fr,q:=q,ep:=b.ep,at_:=b.evs.length }
def Cl.have_ (w:Cl) (n q:Nat):Cl:=w.send (oC n q ((w.ah n).bs q))
noncomputable def Cl.offered (w:Cl) (n:Nat) (l:dK):Cl:=
 if (dG ((w.ah n).bs l.q) l.ep l.fr).2≠0 then w
 else if (dG ((w.ah n).bs l.q) l.ep l.fr).1.ep=((w.ah n).bs l.q).ep then w.have_ n l.q
 else match (w.ah n).write [fG 4 l.q (dG ((w.ah n).bs l.q) l.ep l.fr).1.ep l.fr aO] with
  | none=>w
  | some x=>w.put n { x with pend:=some (.begun l.q (dG ((w.ah n).bs l.q) l.ep l.fr).1) }
def uK (q:Nat) (b:bn) (k m:Nat) (last:Bool):List dD:=
 ((b.evs.take m).drop k).map (λx=>fG 5 q b.ep 0 x)++if last=true then [fG 6 q b.ep 0 aO] else []
noncomputable def Cl.got (w:Cl) (n:Nat) (l:dK):Cl:=
 if ((w.ah n).bs l.q).role≠4\/((w.ah n).bs l.q).fr≠l.fr then w
 else if (dn ((w.ah n).bs l.q) l.ep l.at_ l.evs l.last).2=2 then w.have_ n l.q
 else if (dn ((w.ah n).bs l.q) l.ep l.at_ l.evs l.last).2≠0\/(dn ((w.ah n).bs l.q) l.ep l.at_ l.evs l.last).1.evs.length=((w.ah n).bs l.q).evs.length then w
 else match (w.ah n).write (uK l.q (dn ((w.ah n).bs l.q) l.ep l.at_ l.evs l.last).1 ((w.ah n).bs l.q).evs.length (l.at_.toNat+l.evs.length) l.last) with
  | none=>w
  | some x=>w.put n { x with pend:=some (.got l.q (dn ((w.ah n).bs l.q) l.ep l.at_ l.evs l.last).1 l.last) }
noncomputable def II (n q:Nat) (b:bn) (at_:Int):dK:={ kd:=4,fr:=n,tg:=b.tg,q:=q,ep:=b.ep+1,at_:=at_,evs:=(iK b at_).1,last:=(iK b at_).2.1 }
noncomputable def Cl.part (w:Cl) (n q:Nat) (at_:Int):Cl:=if (iK ((w.ah n).bs q) at_).2.2≠0 then w else w.send (II n q ((w.ah n).bs q) at_)
noncomputable def Cl.caught (w:Cl) (n:Nat) (l:dK):Cl:=
 if ((w.ah n).bs l.q).tg≠l.fr\/((w.ah n).bs l.q).ep+1≠l.ep then w
 else if (bK ((w.ah n).bs l.q) l.at_).2≠0 then w
 else if (bK ((w.ah n).bs l.q) l.at_).1.role=((w.ah n).bs l.q).role then (w.aK n l.q (bK ((w.ah n).bs l.q) l.at_).1).part n l.q l.at_
 else match (w.ah n).write [fG 3 l.q (bK ((w.ah n).bs l.q) l.at_).1.ep (bK ((w.ah n).bs l.q) l.at_).1.tg aO] with
  | none=>w
  | some x=>w.put n { x with pend:=some (.gI l.q (bK ((w.ah n).bs l.q) l.at_).1 l.at_) }
def Nd.hear (x:Nd) (n:Nat) (l:dK):Nd:=
 { x with hints:=if (x.hints l.q).epoch<l.ep then upd x.hints l.q ⟨l.nd,l.ep⟩ else x.hints,sure:=if l.nd=n/\(x.bs l.q).ep=l.ep then upd x.sure l.q true else x.sure }
noncomputable def Cl.learnt (w:Cl) (n:Nat) (l:dK):Cl:=
 if (fZ ((w.ah n).bs l.q) l.ep).2≠0 then w.put n ((w.ah n).hear n l)
 else match ((w.ah n).hear n l).write [fG 7 l.q ((w.ah n).bs l.q).ep 0 aO] with
  | none=>w.put n ((w.ah n).hear n l)
  | some x=>w.put n { x with pend:=some (.forget l.q (fZ ((w.ah n).bs l.q) l.ep).1) }
def vQ (n q:Nat) (b:bn):dK:={ kd:=2,fr:=n,tg:=b.tg,q:=q,ep:=b.ep+1 }
def Si (n q:Nat):dK:={ kd:=5,fr:=n,tg:= -2,q:=q,nd:= -1 }
def MK (n q:Nat) (b:bn):dK:={ kd:=5,fr:=n,tg:= -2,q:=q,ep:=b.ep-1,nd:=n }
def iN (n q:Nat) (b:bn) (sure:Bool):List dK:=
 (if b.role=2\/b.role=3 then [vQ n q b] else [])++(if b.role=3 then [Si n q] else [])++if b.role=1/\1<b.ep/\sure=false then [MK n q b] else []
def Cl.wY (w:Cl) (n:Nat):Cl:=
 let q:=(w.ah n).turn % 4
 { (w.put n { w.ah n with turn:=(w.ah n).turn+1 }) with fly:=w.fly++iN n q ((w.ah n).bs q) ((w.ah n).sure q) }
noncomputable def Cl.yA (w:Cl) (n:Nat):dB->Cl
 | .serve q evs op num a=>(w.aK n q { (w.ah n).bs q with evs:=evs }).done n q op num a
 | .begun q b=>(w.aK n q b).have_ n q
 | .got q b last=>if last=true then ((w.aK n q b).put n { (w.aK n q b).ah n with sure:=upd (w.ah n).sure q false }).tell n q aI eD (-1) else (w.aK n q b).have_ n q
 | .gI q b at_=>(w.aK n q b).part n q at_
 | .forget q b=>w.aK n q b
noncomputable def Cl.handle (w:Cl) (n:Nat) (l:dK):Cl:=
 if l.kd=0 then w.serve n l else if l.kd=2 then w.offered n l else if l.kd=3 then w.caught n l else if l.kd=4 then w.got n l else w.learnt n l
noncomputable def Cl.drain (n:Nat):List dK->Cl->Cl
 | [],w=>w
 | l::r,w=>if ((w.put n { w.ah n with inbox:=r }).handle n l |>.ah n).pend=none then Cl.drain n r ((w.put n { w.ah n with inbox:=r }).handle n l) else (w.put n { w.ah n with inbox:=r }).handle n l
noncomputable def Cl.step (w:Cl) (n:Nat):Cl:=
 if (w.ah n).up=false then w else match (w.ah n).pend with
  | some p=>(w.put n { w.ah n with syn:=(w.ah n).data.length,pend:=none }).yA n p
  | none=>if ((Cl.drain n (w.ah n).inbox w).ah n).pend=none then (Cl.drain n (w.ah n).inbox w).wY n else Cl.drain n (w.ah n).inbox w
def lS (tg:Int) (q:Nat) (p:Pl):dK:={ kd:=6,fr:= -2,tg:=tg,q:=q,ep:=p.epoch,nd:=p.node }
noncomputable def fu (d:Dir) (l:dK):Dir:=if 0<=l.nd/\(BJ d l.q l.ep l.nd).2=0 then (BJ d l.q l.ep l.nd).1 else d
noncomputable def Cl.come (w:Cl) (l:dK):Cl:=
 if l.tg= -1 then { w with bH:=w.bH++[l.bH] }
 else if l.tg= -2 then
  if (aY (fu w.off l) l.q).2=0 then { w with off:=fu w.off l,fly:=w.fly++[lS l.fr l.q (aY (fu w.off l) l.q).1] } else { w with off:=fu w.off l }
 else if (w.ah l.tg.toNat).up=true then w.put l.tg.toNat { w.ah l.tg.toNat with inbox:=(w.ah l.tg.toNat).inbox++[l] } else w
noncomputable def Cl.pick (w:Cl) (at_:Nat) (comes stays:Bool):Cl:=
 match w.fly[at_ % w.fly.length]? with
 | none=>w
 | some l=>
  let w1:=if stays=true then w else { w with fly:=w.fly.eraseIdx (at_ % w.fly.length) }
  if comes=true then w1.come l else w1
noncomputable def Cl.make (w:Cl) (n q:Nat):Cl:=
 if (w.ah n).up=false\/(w.ah n).pend.isSome=true\/(rZ w.off q n).2≠0 then w
 else if (iR ((w.ah n).bs q) 1).2≠0 then w
 else match (w.ah n).write [fG 1 q (iR ((w.ah n).bs q) 1).1.ep 0 aO] with
  | none=>w
  | some x=>{ w.put n { x with syn:=x.data.length,bs:=upd x.bs q (iR ((w.ah n).bs q) 1).1 } with off:=(rZ w.off q n).1,shown:=iy w.shown n q (1,0) }
noncomputable def Cl.move (w:Cl) (q:Nat) (tg:Int):Cl:=
 if (aY w.off q).2≠0\/(aY w.off q).1.node=tg\/(w.ah (aY w.off q).1.node.toNat).up=false then w
 else if (zO ((w.ah (aY w.off q).1.node.toNat).bs q) tg).2=0/\(zO ((w.ah (aY w.off q).1.node.toNat).bs q) tg).1.ep=(aY w.off q).1.epoch then
  w.aK (aY w.off q).1.node.toNat q (zO ((w.ah (aY w.off q).1.node.toNat).bs q) tg).1
 else w
noncomputable def DC (data:List UInt8) (syn:Int):Option (List bn):=(allM (uI (jr data syn).1 (jr data syn).2.1).1).1
noncomputable def bC (data:List UInt8) (syn:Int):Nat->bn:=λq=>Jj ((DC data syn).getD []) q
def Cl.recovered (w:Cl) (n q:Nat) (evs:List Ev) (an:List iM):List Nat->Cl
 | []=>w
 | i::r=>Cl.recovered (w.tell n q (evs.getD i aO) (an.getD i eD) (-1)) n q evs an r
noncomputable def Cl.recover (w:Cl) (n q:Nat):Cl:=
 if (w.shown n q).1≠((w.ah n).bs q).ep then w.tell n q aI eD (-1)
 else w.recovered n q ((w.ah n).bs q).evs (av ((w.ah n).bs q).evs).2.1 ((List.range ((w.ah n).bs q).evs.length).drop (w.shown n q).2.toNat)
noncomputable def eB (syn:Int) (bs:Nat->bn):List Nat->List UInt8->Option (List UInt8)
 | [],d=>some d
 | q::r,d=>if (bs q).role≠1 then eB syn bs r d else if (dV (bs q)).2≠0 then none else
  match eZ d syn [fG 2 q (bs q).ep 0 aI] with
  | none=>none
  | some d'=>eB syn bs r d'
noncomputable def Cl.woken (n:Nat) (bs:Nat->bn):List Nat->Cl->Cl
 | [],w=>w
 | q::r,w=>if (bs q).role≠1 then Cl.woken n bs r w else Cl.woken n bs r (((w.recover n q).aK n q (dV (bs q)).1).tell n q aI eD (-1))
noncomputable def Cl.start (w:Cl) (n:Nat):Cl:=
 if (w.ah n).up=true then w else
 match eB (jr (w.ah n).data (w.ah n).syn).2.1 (bC (w.ah n).data (w.ah n).syn) [0,1,2,3] (jr (w.ah n).data (w.ah n).syn).1 with
 | none=>w
 | some d=>Cl.woken n (bC (w.ah n).data (w.ah n).syn) [0,1,2,3] (w.put n { (w.ah n).blank with up:=true,data:=d,syn:=d.length,bs:=bC (w.ah n).data (w.ah n).syn })
def Cl.crash (w:Cl) (n:Nat) (keep:Int):Cl:=
 if (w.ah n).up=true then w.put n { (w.ah n).blank with up:=false,data:=(mY (w.ah n).data (w.ah n).syn keep).1,syn:=(mY (w.ah n).data (w.ah n).syn keep).2.1 } else w
def Ac.op (a:Ac):Ev:=⟨a.ek,a.ep,a.ei,a.eb,a.eh,a.en⟩
def F9 (n:Int) (q:Nat) (op:Ev) (num:Int):dK:={ kd:=0,fr:= -1,tg:=n,q:=q,op:=op,num:=num }
noncomputable def Cl.all (w:Cl):Cl:=w.fly.foldl Cl.come { w with fly:=[] }
noncomputable def Cl.act (w:Cl) (a:Ac):Cl:=
 if a.kd=1 then w.make a.nd.toNat a.qu.toNat
 else if a.kd=2 then { w with fly:=w.fly++[F9 a.nd a.qu.toNat a.op w.calls],calls:=w.calls+1 }
 else if a.kd=3 then w.step a.nd.toNat
 else if a.kd=4\/a.kd=5\/a.kd=6 then w.pick a.at_.toNat (decide (a.kd≠5)) (decide (a.kd=6))
 else if a.kd=7 then w.all
 else if a.kd=8 then w.crash a.nd.toNat a.kp
 else if a.kd=9 then w.start a.nd.toNat
 else w.move a.qu.toNat a.nd
noncomputable def Cl.run (w:Cl) (l:List Ac):Cl:=l.foldl Cl.act w
noncomputable def Nd.view (x:Nd):Nat->bn:=if x.up=true then x.bs else bC x.data x.syn
theorem vk: ∀ (a b:List Ev) (Q:Qd) (an:List iM),gX Q an (a++b)=(gX Q an a).bind λr=>gX r.1 r.2 b
 | [],b,Q,an=>rfl
 | e::a,b,Q,an=>by
  simp only [List.cons_append,gX]
  split
  ·exact vk a b _ _
  rfl
def good (l:List Ev):Prop:=(av l).2.2=0
section
variable {l:List Ev} {e:Ev} {k:Nat}
theorem uT:good l↔l.length<=2000/\ ∃ r,gX bS [] l=some r:=by
 unfold good
 constructor
 ·intro h;refine ⟨gJ h,?_⟩;have hl: ¬ 2000<l.length:=by have:=gJ h;omega
  cases hr:gX bS [] l with
  | none=>rw [Kl hl hr] at h;cases h
  | some r=>exact ⟨r,rfl⟩
 rintro ⟨h,r,hr⟩;rw [EY oQ hr]
theorem yM {r:Qd×List iM} (h:l.length<=2000) (hr:gX bS [] l=some r):av l=(r.1,r.2,0):=EY oQ hr
theorem xI:good []:=uT.2 ⟨by simp,_,rfl⟩
theorem Tx {a b:List Ev} (h:good (a++b)):good a:=by
 obtain ⟨h1,r,hr⟩:=uT.1 h;rw [vk] at hr;rw [List.length_append] at h1
 cases ha:gX bS [] a with
 | none=>rw [ha] at hr;cases hr
 | some s=>exact uT.2 ⟨by omega,s,ha⟩
theorem pE (h:good l):good (l.take k):=Tx (b:=l.drop k) (by rwa [List.take_append_drop])
theorem jZ (h:good l):l.length<=2000:=gJ h
theorem good_step (h:good (l++[e])):(iw (av l).1 e).2.2.2=0/\(iw (av l).1 e).2.2.1=true/\av (l++[e])=((iw (av l).1 e).1,(av l).2.1++[(iw (av l).1 e).2.1],0):=by
 obtain ⟨h1,r,hr⟩:=uT.1 h;rw [List.length_append] at h1;rw [vk] at hr
 cases ha:gX bS [] l with
 | none=>rw [ha] at hr;cases hr
 | some s=>
  have hs:=yM oQ ha;rw [ha] at hr;simp only [Option.bind_some,gX] at hr
  split at hr
  ·rename_i hc
   rw [hs];refine ⟨hc.1,hc.2,?_⟩
   cases hr;refine yM (r:=((iw s.1 e).1,s.2++[(iw s.1 e).2.1])) (by rw [List.length_append];exact h1) ?_;rw [vk,ha];simp only [Option.bind_some,gX];rw [if_pos hc]
  cases hr
theorem OL (h:good l) (hl:l.length<2000) (hc:(iw (av l).1 e).2.2.2=0) (hd:(iw (av l).1 e).2.2.1=true):good (l++[e]):=by
 obtain ⟨h1,s,ha⟩:=uT.1 h;have hs:=yM h1 ha;rw [hs] at hc hd;refine uT.2 ⟨by simp;omega,((iw s.1 e).1,s.2++[(iw s.1 e).2.1]),?_⟩;rw [vk,ha];simp only [Option.bind_some,gX];rw [if_pos ⟨hc,hd⟩]
theorem OM (h:good l):(av l).2.1.length=l.length:=by
 obtain ⟨h1,s,ha⟩:=uT.1 h;rw [yM h1 ha];have:=(Eb (by simp [bS]) ha).2;simpa using this
theorem nK (hk:k<l.length):l.take (k+1)=l.take k++[l[k]]:=by rw [List.take_add_one,List.getElem?_eq_getElem hk];rfl
theorem Tz: ∀ (n:Nat) {l:List Ev},l.length=n->good l-> ∀ k (hk:k<l.length),(av l).2.1[k]? =some (iw (av (l.take k)).1 l[k]).2.1
 | 0,l,hn,_,k,hk=>absurd hk oQ
 | n+1,l,hn,h,k,hk=>by
  have e:l=l.take n++[l[n]]:=by rw [<-nK oQ,<-hn,List.take_length]
  have h':good (l.take n++[l[n]]):=e▸h;obtain ⟨h1,h2,h3⟩:=good_step h';have hlen:(av (l.take n)).2.1.length=n:=by rw [OM (pE h),List.length_take];omega
  have hm:(av l).2.1=(av (l.take n)).2.1++[(iw (av (l.take n)).1 l[n]).2.1]:=by
   have:=congrArg (λx=>x.2.1) h3;rw [<-e] at this;exact this
  rw [hm];by_cases hkn:k=n
  ·subst hkn;rw [List.getElem?_append_right oQ,hlen,Nat.sub_self];rfl
  rw [List.getElem?_append_left oQ];have hk':k< (l.take n).length:=by rw [List.length_take];omega
  have:=Tz n (l:=l.take n) (by rw [List.length_take];omega) (pE h) k hk';rw [this,List.take_take,Nat.min_eq_left oQ];simp
theorem aeY {Q:Qd} (h:(iw Q aI).2.2.1=true):(iw Q aI).2.1=eD:=by
 by_cases h0:Q.fault=0
 ·have he:aX aI=0:=by decide
  rw [zM h0 he] at h⊢
  show (stepM Q aI).2.1=eD
  have h1:(stepM Q aI).2.2=true:=h;unfold stepM at h1⊢;simp only [aI,Int.reduceEq,if_false] at h1⊢;unfold Dp at h1⊢
  split at h1
  ·cases h1
  rename_i h2;rw [if_neg h2]
 rw [MI h0] at h
 cases h
theorem ale {Q:Qd} {e:Ev} (hc:(iw Q e).2.2.2=0) (h:(iw Q e).2.2.1=false):(iw Q e).1=Q:=by
 by_cases h0:Q.fault=0
 ·by_cases h1:aX e=0
  ·rw [zM h0 h1] at h⊢
   show (stepM Q e).1=Q
   have h2:(stepM Q e).2.2=false:=h;unfold stepM at h2⊢
   split at h2
   ·rename_i g;rw [if_pos g]
    unfold AL at h2⊢
    repeat' split at h2
    all_goals first
     | (cases h2;done)
     | (simp_all)
   rename_i g;rw [if_neg g]
   split at h2
   ·rename_i g1;rw [if_pos g1]
    unfold EW at h2⊢
    split at h2
    ·simp_all
    split at h2
    ·simp_all
    cases h2
   rename_i g1;rw [if_neg g1]
   split at h2
   ·rename_i g2;rw [if_pos g2]
    unfold Dn at h2⊢
    repeat' split at h2
    all_goals first
     | (cases h2;done)
     | (simp_all)
   rename_i g2;rw [if_neg g2]
   unfold Dp at h2⊢
   split at h2
   ·simp_all
   cases h2
  rw [QS h0 h1] at hc;exact absurd hc h1
 rw [MI h0] at hc;exact absurd hc h0
end
noncomputable def rp:Qd->List fD->Option Qd
 | x,[]=>some x
 | x,s::r=>if (iw x s.op).2.2.2=0/\(iw x s.op).2.1=s.ans then rp (iw x s.op).1 r else none
theorem aeZ: ∀ (a b:List fD) (x:Qd),rp x (a++b)=(rp x a).bind λy=>rp y b
 | [],b,x=>rfl
 | s::a,b,x=>by
  simp only [List.cons_append,rp]
  split
  ·exact aeZ a b _
  rfl
theorem ED {x y:Qd} {a:List fD} {s:fD} (h:rp x a=some y) (hc:(iw y s.op).2.2.2=0) (ha:(iw y s.op).2.1=s.ans):rp x (a++[s])=some (iw y s.op).1:=by
 rw [aeZ,h];simp only [Option.bind_some,rp];rw [if_pos ⟨hc,ha⟩]
structure Gh where
 m:Nat
 own:Nat->Nat
 len:Nat->Nat
 G:List Ev
 F:Nat
 t:Nat
def Gh.bd (g:Gh) (k:Nat):Nat:=if k=g.m then g.G.length else g.len k
def Gh.o (g:Gh):Nat:=g.own g.m
def Oth (g:Gh) (n:Nat) (b:bn):Prop:=
 (b.role=0/\0<=b.ep/\b.ep<g.m)\/
 (∃ k:Nat,b.role=3/\b.ep=k/\1<=k/\k<g.m/\g.own k=n/\b.evs=g.G.take (g.len k)/\b.tg=g.own (k+1))\/
 (∃ k:Nat,b.role=4/\b.ep=(k:Int)+1/\1<=k/\k<=g.m/\b.fr=g.own k/\b.evs=g.G.take b.evs.length/\b.evs.length<=g.bd k/\(k<g.m->g.own (k+1)≠n))
def J2 (g:Gh) (V:Nat->bn) (pl:Pl) (l:dK):Prop:=
 (l.kd=2-> ∃ k:Nat,l.ep=(k:Int)+1/\1<=k/\k<=g.m/\l.fr=g.own k)/\
 (l.kd=4-> ∃ k:Nat,l.ep=(k:Int)+1/\1<=k/\k<=g.m/\l.fr=g.own k/\0<=l.at_/\l.evs=(g.G.drop l.at_.toNat).take l.evs.length/\l.at_.toNat+l.evs.length<=g.bd k/\
  (l.last=true->(k<g.m/\(g.own (k+1):Int)=l.tg)\/(k=g.m/\(V g.o).role=3/\(V g.o).tg=l.tg/\l.at_.toNat+l.evs.length=g.G.length)))/\
 (l.kd=5->0<=l.nd-> ∃ k:Nat,l.ep=k/\1<=k/\k<g.m/\(g.own (k+1):Int)=l.nd)/\
 (l.kd=6-> ∃ k:Nat,l.ep=k/\1<=k/\(k:Int)<=pl.epoch/\(g.own k:Int)=l.nd)
def GY (g:Gh) (V:Nat->bn) (n:Nat):dB->Prop
 | .serve _ evs op _ a=>n=g.o/\serves (V n)/\evs=g.G++[op]/\(iw (av g.G).1 op).2.1=a/\good evs
 | .begun _ b=> ∃ k:Nat,b=⟨4,(k:Int)+1,g.own k,0,0,[]⟩/\1<=k/\k<=g.m/\((V n).role=0\/(V n).role=4)/\(V n).ep< (k:Int)+1
 | .got _ b last=>(V n).role=4/\(last=false-> ∃ j,b={ V n with evs:=g.G.take j }/\(V n).evs.length<=j/\ ∀ k:Nat,(V n).ep=(k:Int)+1->j<=g.bd k)/\
   (last=true->(V n).ep=(g.m:Int)+1/\(V g.o).role=3/\(V g.o).tg=n/\b=⟨1,(g.m:Int)+1,0,0,0,g.G++[aI]⟩/\good (g.G++[aI]))
 | .gI _ b _=>n=g.o/\(V n).role=2/\b={ V n with role:=3,rd:=0 }
 | .forget _ b=>(V n).role=3/\b=⟨0,(V n).ep,0,0,0,[]⟩/\(V n).ep<g.m
structure Rp (own:Nat->Nat) (t:Nat) (sv:List fD):Prop where
 each: ∀ s∈sv,∃ k:Nat,s.ep=k/\1<=k/\k<=t/\s.nd=own k
 two: ∀ i a b,sv[i]? =some a->sv[i+1]? =some b->b.ep=a.ep\/(b.ep=a.ep+1/\b.op=aI)
 last: ∀ s,sv.getLast?=some s->s.ep=t
 nil:sv=[]->t=1
structure Inv (g:Gh) (V:Nat->bn) (P:Nat->Option dB) (U:Nat->Bool) (Lt:dK->Prop) (pl:Pl) (sh:Nat->Int×Int) (sv:List fD):Prop where
 m1:1<=g.m
 aoz: ∀ k,1<=k->k<=g.m->g.own k<5
 adj: ∀ k,1<=k->k<g.m->g.own k≠g.own (k+1)
 dir: ∃ d:Nat,pl=⟨g.own d,d⟩/\1<=d/\(d=g.m\/d+1=g.m)
 zW:(V g.o).ep=g.m
 Ga:(V g.o).evs=g.G
 arl:(V g.o).role=1\/(V g.o).role=2\/(V g.o).role=3
 ZP:(V g.o).role≠1->pl.epoch=g.m/\(V g.o).tg≠g.o/\0<=(V g.o).tg/\(V g.o).tg<5
 gd:good g.G
 sj: ∀ n,n<5->n≠g.o->Oth g n (V n)
 ge: ∀ k,1<=k->k<=g.m->(k:Int)<=(V (g.own k)).ep
 brk: ∀ k,1<=k->k<g.m->g.G[g.len k]? =some aI/\g.len k<g.bd (k+1)
 qC: ∀ l,Lt l->J2 g V pl l
 nL: ∀ n,n<5-> ∀ p,P n=some p->U n=true/\GY g V n p
 LB:(g.t=g.m/\sh g.o=((g.m:Int),(g.F:Int))/\g.F<=g.G.length)\/(g.t+1=g.m/\(sh g.o).1<g.m/\U g.o=false/\g.F+1=g.G.length/\g.G[g.F]? =some aI)
 upF:U g.o=true->g.F=g.G.length
 slF:(V g.o).role=3->g.F=g.G.length
 sho: ∀ n,n<5->n≠g.o->(sh n).1<g.m
 rps:rp bS sv=some (av (g.G.take g.F)).1
 svs:Rp g.own g.t sv
section
variable {g:Gh} {V:Nat->bn} {P:Nat->Option dB} {U:Nat->Bool} {Lt:dK->Prop} {pl:Pl} {sh:Nat->Int×Int} {sv:List fD} {n:Nat} {l:dK} {b:bn}
theorem Inv.o5 (I:Inv g V P U Lt pl sh sv):g.o<5:=I.aoz _ I.m1 (Nat.le_refl _)
theorem Inv.aiq (I:Inv g V P U Lt pl sh sv) {k:Nat} (h:1<=k) (h1:k<=g.m):g.bd k<=g.G.length:=by
 unfold Gh.bd
 split
 ·exact Nat.le_refl _
 have:=(I.brk k h oQ).1;exact Nat.le_of_lt (List.getElem?_eq_some_iff.1 this).1
theorem Inv.ML (I:Inv g V P U Lt pl sh sv) {k:Nat} (h:1<=k) (h1:k<g.m):g.len k<g.G.length:=(List.getElem?_eq_some_iff.1 (I.brk k h h1).1).1
theorem Inv.who (I:Inv g V P U Lt pl sh sv) (hn:n<5) (h:serves (V n)):n=g.o:=by
 by_cases e:n=g.o
 ·exact e
 have:=I.sj n hn e;unfold serves at h
 rcases this with ⟨h1,_⟩ | ⟨k,h1,_⟩ | ⟨k,h1,_⟩<;>omega
theorem upd_same {α:Type} (f:Nat->α) (k:Nat) (v:α):upd f k v k=v:=if_pos rfl
theorem upd_ne {α:Type} {f:Nat->α} {k j:Nat} {v:α} (h:j≠k):upd f k v j=f j:=if_neg h
theorem aF {α:Type} {f:Nat->α} {k:Nat} {v:α} (h:f k=v):upd f k v=f:=by
 funext j
 unfold upd
 split
 ·rename_i e;rw [e,h]
 rfl
theorem Inv.zx {Lt':dK->Prop} (I:Inv g V P U Lt pl sh sv) (h: ∀ l,Lt' l->Lt l\/J2 g V pl l):Inv g V P U Lt' pl sh sv:=
 { I with qC:=λl hl=>(h l hl).elim (I.qC l) id }
theorem Inv.auw {P':Nat->Option dB} (I:Inv g V P U Lt pl sh sv) (h: ∀ n p,n<5->P' n=some p->P n=some p\/(U n=true/\GY g V n p)):Inv g V P' U Lt pl sh sv:=
 { I with nL:=λn hn p hp=>(h n p hn hp).elim (I.nL n hn p) id }
theorem Inv.down (I:Inv g V P U Lt pl sh sv) (n:Nat):Inv g V (upd P n none) (upd U n false) Lt pl sh sv:=
 { I with
  nL:=λk hk p hp=>by
   by_cases e:k=n
   ·subst e;rw [upd_same] at hp;cases hp
   rw [upd_ne e] at hp⊢;exact I.nL k hk p hp
  LB:=by
   rcases I.LB with h | ⟨h1,h2,h3,h4⟩
   ·exact .inl h
   refine .inr ⟨h1,h2,?_,h4⟩;by_cases e:g.o=n
   ·rw [e,upd_same]
   rw [upd_ne e];exact h3
  upF:=λh=>by
   by_cases e:g.o=n
   ·rw [e,upd_same] at h;cases h
   rw [upd_ne e] at h;exact I.upF h }
theorem Inv.up (I:Inv g V P U Lt pl sh sv) (n:Nat) (h:n=g.o->g.t=g.m/\g.F=g.G.length):Inv g V P (upd U n true) Lt pl sh sv:=
 { I with
  nL:=λk hk p hp=>by
   obtain ⟨h1,h2⟩:=I.nL k hk p hp;refine ⟨?_,h2⟩;by_cases e:k=n
   ·rw [e,upd_same]
   rw [upd_ne e];exact h1
  LB:=by
   by_cases e:g.o=n
   ·obtain ⟨h1,h2⟩:=h e.symm
    rcases I.LB with h | ⟨h3,_⟩
    ·exact .inl h
    omega
   rw [upd_ne e];exact I.LB
  upF:=λh'=>by
   by_cases e:g.o=n
   ·exact (h e.symm).2
   rw [upd_ne e] at h';exact I.upF h' }
theorem GY.mono {V':Nat->bn} {p:dB} (h:GY g V n p) (hv:V' n=V n) (ho:(V g.o).role=3->(V' g.o).role=3/\(V' g.o).tg=(V g.o).tg):GY g V' n p:=by
 cases p with
 | serve q evs op num a=>unfold GY at h⊢;rw [hv];exact h
 | begun q b=>unfold GY at h⊢;rw [hv];exact h
 | got q b last=>
  unfold GY at h⊢;rw [hv];refine ⟨h.1,h.2.1,λhl=>?_⟩;obtain ⟨h1,h2,h3,h4⟩:=h.2.2 hl;obtain ⟨h5,h6⟩:=ho h2;exact ⟨h1,h5,h6.trans h3,h4⟩
 | gI q b at_=>unfold GY at h⊢;rw [hv];exact h
 | forget q b=>unfold GY at h⊢;rw [hv];exact h
theorem J2.mono {V':Nat->bn} (h:J2 g V pl l) (ho:(V g.o).role=3->(V' g.o).role=3/\(V' g.o).tg=(V g.o).tg):J2 g V' pl l:=by
 obtain ⟨h1,h2,h3⟩:=h;refine ⟨h1,λhk=>?_,h3⟩;obtain ⟨k,a,b,c,d,e,f,i,j⟩:=h2 hk;refine ⟨k,a,b,c,d,e,f,i,λhl=>?_⟩
 rcases j hl with j | ⟨j1,j2,j3,j4⟩
 ·exact .inl j
 obtain ⟨h5,h6⟩:=ho j2;exact .inr ⟨j1,h5,h6.trans j3,j4⟩
theorem Inv.Sj (I:Inv g V P U Lt pl sh sv) (hn:n<5) (hno:n≠g.o) (hp:P n=none) (hb:Oth g n b) (hge:(V n).ep<=b.ep):Inv g (upd V n b) P U Lt pl sh sv:=by
 have ho:upd V n b g.o=V g.o:=upd_ne (λe=>hno e.symm);exact { I with
  zW:=by rw [ho];exact I.zW
  Ga:=by rw [ho];exact I.Ga
  arl:=by rw [ho];exact I.arl
  ZP:=by rw [ho];exact I.ZP
  slF:=by rw [ho];exact I.slF
  sj:=λk hk hko=>by
   by_cases e:k=n
   ·subst e;rw [upd_same];exact hb
   rw [upd_ne e];exact I.sj k hk hko
  ge:=λk h1 h2=>by
   have:=I.ge k h1 h2;by_cases e:g.own k=n
   ·rw [e] at this⊢;rw [upd_same];omega
   rw [upd_ne e];exact this
  qC:=λl hl=>(I.qC l hl).mono λh=>by rw [ho];exact ⟨h,rfl⟩
  nL:=λk hk p hk'=>by
   obtain ⟨h1,h2⟩:=I.nL k hk p hk';refine ⟨h1,h2.mono (upd_ne λe=>?_) λh=>by rw [ho];exact ⟨h,rfl⟩⟩;subst e;rw [hp] at hk';cases hk' }
theorem Inv.ab4 (I:Inv g V P U Lt pl sh sv) (hp: ∀ p,P g.o=some p->GY g (upd V g.o b) g.o p) (h1:b.ep=g.m) (h2:b.evs=g.G) (h3:b.role=1\/b.role=2\/b.role=3) (h4:b.role≠1->pl.epoch=g.m/\b.tg≠g.o/\0<=b.tg/\b.tg<5)
  (h5:(V g.o).role=3->b.role=3/\b.tg=(V g.o).tg) (h6:b.role=3->g.F=g.G.length):Inv g (upd V g.o b) P U Lt pl sh sv:=by
 have ho:upd V g.o b g.o=b:=upd_same _ _ _;exact { I with
  zW:=by rw [ho];exact h1
  Ga:=by rw [ho];exact h2
  arl:=by rw [ho];exact h3
  ZP:=by rw [ho];exact h4
  slF:=by rw [ho];exact h6
  sj:=λk hk hko=>by rw [upd_ne hko];exact I.sj k hk hko
  ge:=λk j1 j2=>by
   have:=I.ge k j1 j2;by_cases e:g.own k=g.o
   ·rw [e] at this⊢;rw [ho,h1];rw [I.zW] at this;exact this
   rw [upd_ne e];exact this
  qC:=λl hl=>(I.qC l hl).mono λh=>by rw [ho];exact h5 h
  nL:=λk hk p hk'=>by
   obtain ⟨j1,j2⟩:=I.nL k hk p hk';refine ⟨j1,?_⟩;by_cases e:k=g.o
   ·subst e;exact hp p hk'
   exact j2.mono (upd_ne e) λh=>by rw [ho];exact h5 h }
theorem qh {l x:List Ev} {k:Nat} (h:k<=l.length):(l++x).take k=l.take k:=List.take_append_of_le_length h
theorem D9 {l x:List Ev} {a k:Nat} (h:a+k<=l.length):((l++x).drop a).take k=(l.drop a).take k:=by
 rw [List.drop_append_of_le_length oQ,List.take_append_of_le_length (by rw [List.length_drop];omega)]
def Gh.app (g:Gh) (e:Ev):Gh:={ g with G:=g.G++[e] }
theorem Gh.OO {g:Gh} {e:Ev} {k:Nat} (h:g.bd k<=g.G.length):g.bd k<=(g.app e).bd k:=by
 unfold Gh.bd Gh.app at*;dsimp only
 split
 ·rw [List.length_append];omega
 exact Nat.le_refl _
theorem Inv.append {e:Ev} (I:Inv g V P U Lt pl sh sv) (hp:P g.o=none) (hu:U g.o=false) (hr:(V g.o).role≠3) (ht:g.t=g.m) (hg:good (g.G++[e])) (hb:b.ep=(V g.o).ep) (hb1:b.role=(V g.o).role) (hb2:b.tg=(V g.o).tg) (hb3:b.evs=g.G++[e]):
  Inv (g.app e) (upd V g.o b) P U Lt pl sh sv:=by
 have ho:upd V g.o b g.o=b:=upd_same _ _ _;have hoo:(g.app e).o=g.o:=rfl;have hle:=λk h1 h2=>I.aiq (k:=k) h1 h2;have hF:g.F<=g.G.length:=by rcases I.LB with ⟨_,_,h⟩ | ⟨h,_⟩<;>omega
 refine ⟨I.m1,I.aoz,I.adj,I.dir,?_,?_,?_,?_,hg,?_,?_,?_,?_,?_,?_,?_,?_,I.sho,?_,I.svs⟩
 ·rw [hoo,ho,hb];exact I.zW
 ·rw [hoo,ho,hb3];rfl
 ·rw [hoo,ho,hb1];exact I.arl
 ·rw [hoo,ho,hb1,hb2];exact I.ZP
 ·intro n hn hno;rw [hoo] at hno;rw [upd_ne hno]
  rcases I.sj n hn hno with h | ⟨k,h1,h2,h3,h4,h5,h6,h7⟩ | ⟨k,h1,h2,h3,h4,h5,h6,h7,h8⟩
  ·exact .inl h
  ·refine .inr (.inl ⟨k,h1,h2,h3,h4,h5,?_,h7⟩)
   show _=(g.G++[e]).take _
   have:=I.ML h3 h4;rw [h6];exact (qh (Nat.le_of_lt this)).symm
  refine .inr (.inr ⟨k,h1,h2,h3,h4,h5,?_,Nat.le_trans h7 (Gh.OO (hle k h3 h4)),h8⟩)
  show _=(g.G++[e]).take _
  have:=hle k h3 h4;rw [qh oQ];exact h6
 ·intro k h1 h2;have:=I.ge k h1 h2;by_cases e:g.own k=g.o
  ·show (k:Int)<=(upd V g.o b (g.own k)).ep
   rw [e] at this⊢;rw [ho,hb];exact this
  show (k:Int)<=(upd V g.o b (g.own k)).ep
  rw [upd_ne e];exact this
 ·intro k h1 h2;obtain ⟨h3,h4⟩:=I.brk k h1 h2;refine ⟨?_,Nat.lt_of_lt_of_le h4 (Gh.OO (hle (k+1) oQ h2))⟩
  show (g.G++[e])[g.len k]? =_
  rw [List.getElem?_append_left (I.ML h1 h2)];exact h3
 ·intro l hl;obtain ⟨h1,h2,h3⟩:=I.qC l hl;refine ⟨h1,λhk=>?_,h3⟩;obtain ⟨k,a,b',c,d,e',f,i,j⟩:=h2 hk;have hbd:=hle k b' c;refine ⟨k,a,b',c,d,e',?_,Nat.le_trans i (Gh.OO hbd),λhlast=>?_⟩
  ·show _=((g.G++[e]).drop _).take _
   rw [D9 oQ];exact f
  rcases j hlast with j | ⟨_,j2,_⟩
  ·exact .inl j
  exact absurd j2 hr
 ·intro k hk p hk';obtain ⟨j1,j2⟩:=I.nL k hk p hk';refine ⟨j1,?_⟩;by_cases e':k=g.o
  ·subst e';rw [hp] at hk';cases hk'
  cases p with
  | serve q evs op num a=>exact absurd j2.1 e'
  | begun q b'=>unfold GY at j2⊢;rw [upd_ne e'];exact j2
  | got q b' last=>
   unfold GY at j2⊢;rw [upd_ne e'];refine ⟨j2.1,λhl=>?_,λhl=>?_⟩
   ·obtain ⟨j,a1,a2,a3⟩:=j2.2.1 hl
    rcases I.sj k hk e' with h | ⟨k',h,_⟩ | ⟨k',h,h1,h2,h3,_⟩
    ·omega
    ·omega
    have hj:=a3 k' h1;have hbd:=hle k' h2 h3;refine ⟨j,?_,a2,λk2 hk2=>?_⟩
    ·show _={ V k with evs:=(g.G++[e]).take j }
     rw [qh oQ];exact a1
    have:k2=k':=oQ;subst this;exact Nat.le_trans hj (Gh.OO hbd)
   exact absurd (j2.2.2 hl).2.1 hr
  | gI q b' at_=>exact absurd j2.1 e'
  | forget q b'=>unfold GY at j2⊢;rw [upd_ne e'];exact j2
 ·rcases I.LB with ⟨h1,h2,h3⟩ | ⟨h1,_⟩
  ·exact .inl ⟨h1,h2,by show g.F<=(g.G++[e]).length;rw [List.length_append];omega⟩
  omega
 ·intro h;rw [hoo,hu] at h;cases h
 ·intro h;rw [hoo,ho,hb1] at h;exact absurd h hr
 show rp bS sv=some (av ((g.G++[e]).take g.F)).1
 rw [qh hF];exact I.rps
theorem Rp.app {own:Nat->Nat} {t:Nat} (ht:1<=t): ∀ {sv2 sv:List fD},Rp own t sv->(∀ s∈sv2,s.ep=t/\s.nd=own t)->Rp own t (sv++sv2)
 | [],sv,h,_=>by rw [List.append_nil];exact h
 | s::r,sv,h,h2=>by
  have hs:=h2 s iQ;have h1:Rp own t (sv++[s]):=by
   refine ⟨λx hx=>?_,λi a b ha hb=>?_,λx hx=>?_,λhn=>by simp at hn⟩
   ·rcases List.mem_append.1 hx with hx | hx
    ·exact h.each x hx
    rw [List.mem_singleton] at hx;subst hx;exact ⟨t,hs.1,ht,Nat.le_refl _,hs.2⟩
   ·by_cases hi:i+1<sv.length
    ·rw [List.getElem?_append_left oQ] at ha;rw [List.getElem?_append_left hi] at hb;exact h.two i a b ha hb
    have hil:i+1< (sv++[s]).length:=(List.getElem?_eq_some_iff.1 hb).1;rw [List.length_append,List.length_singleton] at hil;rw [List.getElem?_append_left oQ] at ha;rw [List.getElem?_append_right oQ,show i+1-sv.length=0 by omega] at hb
    cases hb;refine .inl ?_;rw [hs.1];refine (h.last a ?_).symm;rw [List.getLast?_eq_getElem?,show sv.length-1=i by omega];exact ha
   rw [List.getLast?_concat] at hx
   cases hx;exact hs.1
  have:=Rp.app ht (sv2:=r) h1 λx hx=>h2 x (by simp [hx]);rwa [List.append_assoc] at this
theorem Rp.brk {own:Nat->Nat} {t:Nat} {s:fD} (h:Rp own t sv) (eF:s.ep=(t:Int)+1) (hnd:s.nd=own (t+1)) (hop:s.op=aI):Rp own (t+1) (sv++[s]):=by
 refine ⟨λx hx=>?_,λi a b ha hb=>?_,λx hx=>?_,λhn=>by simp at hn⟩
 ·rcases List.mem_append.1 hx with hx | hx
  ·obtain ⟨k,a,b,c,d⟩:=h.each x hx;exact ⟨k,a,b,by omega,d⟩
  rw [List.mem_singleton] at hx;subst hx;exact ⟨t+1,by rw [eF];rfl,by omega,Nat.le_refl _,hnd⟩
 ·by_cases hi:i+1<sv.length
  ·rw [List.getElem?_append_left oQ] at ha;rw [List.getElem?_append_left hi] at hb;exact h.two i a b ha hb
  have hil:i+1< (sv++[s]).length:=(List.getElem?_eq_some_iff.1 hb).1;rw [List.length_append,List.length_singleton] at hil;rw [List.getElem?_append_left oQ] at ha;rw [List.getElem?_append_right oQ,show i+1-sv.length=0 by omega] at hb
  cases hb;refine .inr ⟨?_,hop⟩;rw [eF,h.last a (by rw [List.getLast?_eq_getElem?,show sv.length-1=i by omega];exact ha)]
 rw [List.getLast?_concat] at hx
 cases hx;rw [eF];rfl
theorem Rp.own {own own':Nat->Nat} {t:Nat} (h:Rp own t sv) (he: ∀ k,k<=t->own' k=own k):Rp own' t sv:=
 ⟨λs hs=>by obtain ⟨k,a,b,c,d⟩:=h.each s hs;exact ⟨k,a,b,c,by rw [he k c];exact d⟩,h.two,h.last,h.nil⟩
def Gh.all (g:Gh):Gh:={ g with F:=g.G.length,t:=g.m }
theorem Inv.told (I:Inv g V P U Lt pl sh sv) (ht:g.t=g.m) {sv2:List fD} (hrp:rp bS (sv++sv2)=some (av g.G).1) (he: ∀ s∈sv2,s.ep=g.m/\s.nd=g.o):Inv g.all V P U Lt pl (upd sh g.o ((g.m:Int),(g.G.length:Int))) (sv++sv2):=
 { I with
  LB:= .inl ⟨rfl,upd_same _ _ _,Nat.le_refl _⟩
  upF:=λ_=>rfl
  slF:=λ_=>rfl
  sho:=λn hn hno=>by
   have:n≠g.o:=hno;rw [upd_ne this];exact I.sho n hn hno
  rps:=by show rp _ _=some (av (g.G.take g.G.length)).1;rw [List.take_length];exact hrp
  svs:=by
   have h:=I.svs;rw [ht] at h;exact Rp.app I.m1 h he }
theorem Inv.ZQ (I:Inv g V P U Lt pl sh sv) (ht: ¬ g.t=g.m) {s:fD} (hop:s.op=aI) (ha:s.ans=eD) (eF:s.ep=g.m) (hnd:s.nd=g.o):Inv g.all V P U Lt pl (upd sh g.o ((g.m:Int),(g.G.length:Int))) (sv++[s]):=by
 rcases I.LB with ⟨h,_⟩ | ⟨h1,h2,h3,h4,h5⟩
 ·exact absurd h ht
 have hF:g.F<g.G.length:=oQ;have e:g.G=g.G.take g.F++[aI]:=by
  have:=nK hF;rw [h4,List.take_length] at this;have h6:g.G[g.F]=aI:=by
   have:=List.getElem?_eq_getElem hF;rw [h5] at this;exact (Option.some.inj this).symm
  rw [h6] at this;exact this
 have hgd:=I.gd;rw [e] at hgd;obtain ⟨s1,s2,s3⟩:=good_step hgd;exact { I with
  LB:= .inl ⟨rfl,upd_same _ _ _,Nat.le_refl _⟩
  upF:=λ_=>rfl
  slF:=λ_=>rfl
  sho:=λn hn hno=>by
   have:n≠g.o:=hno;rw [upd_ne this];exact I.sho n hn hno
  rps:=by
   show rp _ _=some (av (g.G.take g.G.length)).1
   rw [List.take_length,ED I.rps (by rw [hop];exact s1) (by rw [hop,ha];exact aeY s2),hop,e,s3,<-e]
  svs:=by
   have h:=I.svs.brk (s:=s) (by rw [eF,<-h1];rfl) (by rw [hnd,h1];rfl) hop;rw [h1] at h;exact h }
theorem Inv.awH (I:Inv g V P U Lt pl sh sv) {p':Pl} (h:p'=⟨g.own g.m,g.m⟩):Inv g V P U Lt p' sh sv:=by
 subst h;exact { I with
  dir:=⟨g.m,rfl,I.m1,.inl rfl⟩
  ZP:=λhr=>⟨rfl,(I.ZP hr).2⟩
  qC:=λl hl=>by
   obtain ⟨h1,h2,h3,h4⟩:=I.qC l hl;refine ⟨h1,h2,h3,λhk=>?_⟩;obtain ⟨k,a,b,c,d⟩:=h4 hk;refine ⟨k,a,b,?_,d⟩;obtain ⟨d',hd,_,hd2⟩:=I.dir;rw [hd] at c;dsimp only at c⊢;omega }
def Gh.act (g:Gh) (T:Nat):Gh:={ g with m:=g.m+1,own:=upd g.own (g.m+1) T,len:=upd g.len g.m g.G.length,G:=g.G++[aI] }
theorem Inv.activate {T:Nat} (I:Inv g V P U Lt pl sh sv) (hr:(V g.o).role=3) (nY:(V g.o).tg=T) (hp:P T=none) (hu:U T=false) (hg:good (g.G++[aI])) (hge:(V T).ep<=(g.m:Int)+1):
  Inv (g.act T) (upd V T ⟨1,(g.m:Int)+1,0,0,0,g.G++[aI]⟩) P U Lt pl sh sv:=by
 obtain ⟨ha1,ha2,ha3,ha4⟩:=I.ZP oQ;rw [nY] at ha2 ha4;have hT5:T<5:=oQ;have hTo:T≠g.o:=oQ;have hF:=I.slF hr;have htm:g.t=g.m/\sh g.o=((g.m:Int),(g.F:Int)):=by
  rcases I.LB with h | ⟨_,_,_,h,_⟩
  ·exact ⟨h.1,h.2.1⟩
  omega
 have hno:(g.act T).o=T:=upd_same _ _ _;have hown: ∀ k,k<=g.m->(g.act T).own k=g.own k:=λk hk=>upd_ne oQ;have MN:(g.act T).own (g.m+1)=T:=upd_same _ _ _;have hm:(g.act T).m=g.m+1:=rfl;have hG:(g.act T).G=g.G++[aI]:=rfl;have hlen: ∀ k,k<g.m->(g.act T).len k=g.len k:=λk hk=>upd_ne oQ;have hbd: ∀ k,k<=g.m->(g.act T).bd k=g.bd k:=λk hk=>by
  unfold Gh.bd;rw [if_neg (by rw [hm];omega)];by_cases e:k=g.m
  ·rw [if_pos e];subst e;exact upd_same _ _ _
  rw [if_neg e];exact hlen k oQ
 have hvT:upd V T (⟨1,(g.m:Int)+1,0,0,0,g.G++[aI]⟩:bn) (g.act T).o=⟨1,(g.m:Int)+1,0,0,0,g.G++[aI]⟩:=by rw [hno];exact upd_same _ _ _
 have hle:=λk h1 h2=>I.aiq (k:=k) h1 h2;refine ⟨by rw [hm];omega,?_,?_,?_,by rw [hvT,hm];rfl,by rw [hvT,hG],by rw [hvT];exact .inl rfl,λh=>by rw [hvT] at h;exact absurd rfl h,by rw [hG];exact hg,?_,?_,?_,?_,?_,?_,?_,λh=>by rw [hvT] at h;exact absurd h iQ,?_,?_,?_⟩
 ·intro k h1 h2;rw [hm] at h2;by_cases e:k=g.m+1
  ·rw [e,MN];exact hT5
  rw [hown k oQ];exact I.aoz k h1 oQ
 ·intro k h1 h2;rw [hm] at h2;by_cases e:k=g.m
  ·rw [hown k oQ,e,MN];exact λh=>hTo h.symm
  rw [hown k oQ,hown (k+1) oQ];exact I.adj k h1 oQ
 ·obtain ⟨d,h1,h2,h3⟩:=I.dir;have:d=g.m:=by rw [h1] at ha1;dsimp only at ha1;omega
  refine ⟨d,?_,h2,.inr (by rw [hm,this])⟩;rw [h1,hown d oQ]
 ·intro n hn hn2;rw [hno] at hn2;rw [upd_ne hn2];by_cases e:n=g.o
  ·subst e;refine .inr (.inl ⟨g.m,hr,I.zW,I.m1,by rw [hm];omega,hown _ (Nat.le_refl _),?_,?_⟩)
   ·rw [hG,show (g.act T).len g.m=g.G.length from upd_same _ _ _,List.take_left];exact I.Ga
   rw [MN];exact nY
  rcases I.sj n hn e with h | ⟨k,h1,h2,h3,h4,h5,h6,h7⟩ | ⟨k,h1,h2,h3,h4,h5,h6,h7,h8⟩
  ·exact .inl ⟨h.1,h.2.1,by rw [hm];have:=h.2.2;omega⟩
  ·refine .inr (.inl ⟨k,h1,h2,h3,by rw [hm];omega,by rw [hown k oQ];exact h5,?_,by rw [hown (k+1) oQ];exact h7⟩);rw [hlen k h4,hG,qh (Nat.le_of_lt (I.ML h3 h4))];exact h6
  refine .inr (.inr ⟨k,h1,h2,h3,by rw [hm];omega,by rw [hown k h4];exact h5,?_,by rw [hbd k h4];exact h7,λhk=>?_⟩)
  ·have:=hle k h3 h4;rw [hG,qh oQ];exact h6
  by_cases e2:k=g.m
  ·rw [e2,MN];exact λh=>hn2 h.symm
  rw [hown (k+1) oQ];exact h8 oQ
 ·intro k h1 h2;rw [hm] at h2;by_cases e:k=g.m+1
  ·rw [e,MN,upd_same];dsimp only;omega
  rw [hown k oQ];have:=I.ge k h1 oQ;by_cases e2:g.own k=T
  ·rw [e2,upd_same];dsimp only;omega
  rw [upd_ne e2];exact this
 ·intro k h1 h2;rw [hm] at h2;by_cases e:k=g.m
  ·subst e;rw [show (g.act T).len g.m=g.G.length from upd_same _ _ _,hG];refine ⟨by rw [List.getElem?_append_right (Nat.le_refl _),Nat.sub_self];rfl,?_⟩;unfold Gh.bd;rw [if_pos hm.symm,hG,List.length_append];exact Nat.lt_succ_self _
  obtain ⟨h3,h4⟩:=I.brk k h1 oQ;rw [hlen k oQ,hbd (k+1) oQ,hG,List.getElem?_append_left (I.ML h1 oQ)];exact ⟨h3,h4⟩
 ·intro l hl;obtain ⟨h1,h2,h3,h4⟩:=I.qC l hl;refine ⟨λhk=>?_,λhk=>?_,λhk hd=>?_,λhk=>?_⟩
  ·obtain ⟨k,a,b,c,d⟩:=h1 hk;exact ⟨k,a,b,by rw [hm];omega,by rw [hown k c];exact d⟩
  ·obtain ⟨k,a,b,c,d,e,f,i,j⟩:=h2 hk;have:=hle k b c;refine ⟨k,a,b,by rw [hm];omega,by rw [hown k c];exact d,e,by rw [hG,D9 oQ];exact f,by rw [hbd k c];exact i,λhlast=> .inl ?_⟩
   rcases j hlast with ⟨j1,j2⟩ | ⟨j1,j2,j3,j4⟩
   ·exact ⟨by rw [hm];omega,by rw [hown (k+1) oQ];exact j2⟩
   subst j1;exact ⟨by rw [hm];omega,by rw [MN,<-nY];exact j3⟩
  ·obtain ⟨k,a,b,c,d⟩:=h3 hk hd;exact ⟨k,a,b,by rw [hm];omega,by rw [hown (k+1) oQ];exact d⟩
  obtain ⟨k,a,b,c,d⟩:=h4 hk;exact ⟨k,a,b,c,by rw [hown k oQ];exact d⟩
 ·intro n hn p hp';have hnT:n≠T:=λe=>by subst e;rw [hp] at hp';cases hp'
  obtain ⟨j1,j2⟩:=I.nL n hn p hp';refine ⟨j1,?_⟩
  cases p with
  | serve q evs op num a=>
   obtain ⟨k1,k2,_⟩:=j2;subst k1;unfold serves at k2;omega
  | begun q b=>
   unfold GY at j2⊢;obtain ⟨k,k1,k2,k3,k4⟩:=j2;rw [upd_ne hnT];exact ⟨k,by rw [hown k k3];exact k1,k2,by rw [hm];omega,k4⟩
  | got q b last=>
   unfold GY at j2⊢;rw [upd_ne hnT];refine ⟨j2.1,λhl=>?_,λhl=>?_⟩
   ·obtain ⟨j,a1,a2,a3⟩:=j2.2.1 hl
    rcases I.sj n hn (λe=>by subst e;omega) with h | ⟨k',h,_⟩ | ⟨k',h,h1,h2,h3,_⟩
    ·omega
    ·omega
    have hj:=a3 k' h1;have:=hle k' h2 h3;refine ⟨j,by rw [hG,qh oQ];exact a1,a2,λk2 hk2=>?_⟩;have:k2=k':=oQ;subst this;rw [hbd k2 h3];exact hj
   have:=(j2.2.2 hl).2.2.1;omega
  | gI q b at_=>
   obtain ⟨k1,k2,_⟩:=j2;subst k1;omega
  | forget q b=>
   unfold GY at j2⊢;rw [upd_ne hnT];exact ⟨j2.1,j2.2.1,by rw [hm];have:=j2.2.2;omega⟩
 ·refine .inr ⟨by show g.t+1=g.m+1;omega,?_,?_,?_,?_⟩
  ·rw [hno,hm];have:=I.sho T hT5 hTo;omega
  ·rw [hno];exact hu
  ·show g.F+1=(g.G++[aI]).length;rw [List.length_append,hF];rfl
  show (g.G++[aI])[g.F]? =_
  rw [hF,List.getElem?_append_right (Nat.le_refl _),Nat.sub_self];rfl
 ·intro h;rw [hno,hu] at h;cases h
 ·intro n hn hn2;rw [hno] at hn2;rw [hm];by_cases e:n=g.o
  ·subst e;rw [htm.2];dsimp only;omega
  have:=I.sho n hn e;omega
 ·show rp bS sv=some (av ((g.G++[aI]).take g.F)).1
  rw [qh oQ];exact I.rps
 exact I.svs.own λk hk=>hown k (by show k<=g.m;have:k<=g.t:=hk;omega)
end
def jV (b:bn):bn:=if b.role=2 then ⟨1,b.ep,0,0,0,b.evs⟩ else b
def vB (f:Nat->bn):List bn:=[f 0,f 1,f 2,f 3]
section
variable {f:Nat->bn} {q:Nat} {b:bn} {rs:List dD} {r:dD}
theorem ae2 (hq:q<4):Jj (vB f) (q:Int)=f q:=by
 have h:q=0\/q=1\/q=2\/q=3:=oQ
 rcases h with rfl | rfl | rfl | rfl<;>rfl
theorem VZ (hq:q<4):(vB f).set q b=vB (upd f q b):=by
 have h:q=0\/q=1\/q=2\/q=3:=oQ
 rcases h with rfl | rfl | rfl | rfl<;>rfl
theorem Bl {f':Nat->bn} (h: ∀ q,q<4->f q=f' q):vB f=vB f':=by unfold vB;rw [h 0 oQ,h 1 oQ,h 2 oQ,h 3 oQ]
def iJ (rs:List dD) (f:Nat->bn):Prop:=(∀ r∈rs,aJ r=0)/\(allM rs).1=some (vB f)
theorem LD: ∀ (a:List dD) (i:Nat) (T T':List bn),(nT a i T).1=some T'->nT (a++[r]) i T=nT [r] (i+a.length) T'
 | [],i,T,T',h=>by
  rw [nT] at h
  cases h;rfl
 | x::a,i,T,T',h=>by
  rw [List.cons_append,nT];rw [nT] at h
  split at h
  ·cases h
  rename_i h1
  rw [if_neg h1]
  split at h
  ·cases h
  rename_i h2
  rw [if_neg h2,LD a (i+1) _ T' h,List.length_cons,show i+1+a.length=i+(a.length+1) by omega]
theorem iJ.nil:iJ [] λ_=>bF:=⟨λr h=>by simp at h,rfl⟩
theorem iJ.snoc (h:iJ rs f) (hr:aJ r=0) (hq:q<4) (hrq:r.queue=q) (ha:eu (f q) r=(b,0)):iJ (rs++[r]) (upd f q b):=by
 refine ⟨λx hx=>?_,?_⟩
 ·rcases List.mem_append.1 hx with hx | hx
  ·exact h.1 x hx
  rw [List.mem_singleton] at hx;subst hx;exact hr
 have h2:=h.2;unfold allM at h2⊢;rw [LD _ _ _ _ h2,nT,hrq,ae2 hq,if_neg (by simpa using hr),if_neg (by rw [ha];simp),ha,show ((q:Int)).toNat=q from rfl,VZ hq,nT]
theorem iJ.congr {f':Nat->bn} (h:iJ rs f) (he: ∀ q,q<4->f q=f' q):iJ rs f':=⟨h.1,by rw [h.2,Bl he]⟩
theorem iJ.read {t data:List UInt8} {syn:Int} (h:iJ rs f) (hd:data=bG rs++t) (ht:(firstM t).2=0) (hz:data.length<=100000) (h0:0<=syn) (h1:syn<=data.length):
  jr data syn=(bG rs,min syn (bG rs).length,0)/\DC data syn=some (vB f)/\ ∀ q,q<4->bC data syn q=f q:=by
 have hm:cB data syn=true:=by simp [cB];omega
 have hrd:bO data=(rs,(bG rs).length):=by rw [hd];exact zq h.1 ht
 have hrep:jr data syn=(bG rs,min syn (bG rs).length,0):=by
  unfold jr;rw [if_pos hm,hrd,hd,List.take_left]
 have hl:(bG rs).length<=data.length:=by rw [hd,List.length_append];omega
 have hrb:DC data syn=some (vB f):=by
  unfold DC;rw [hrep];unfold uI;rw [if_pos (by simp [cB];omega)];have:=zq (t:=[]) h.1 yw;rw [List.append_nil] at this;dsimp only;rw [this];exact h.2
 refine ⟨hrep,hrb,λq hq=>?_⟩;unfold bC;rw [hrb];exact ae2 hq
theorem fI (h:au b=0):bq b:=(eO h).1
theorem jv (h:au b=0):good b.evs:=(eO h).2
theorem oK (h:bq b) (hr:b.role≠0) (l:List Ev):bq ⟨b.role,b.ep,b.fr,b.tg,b.rd,l⟩:=h.elim (λh=>absurd h.1 hr) .inr
theorem yB {ep:Int} (h:1<=ep) (h1:ep<=1048576) (l:List Ev):bq ⟨1,ep,0,0,0,l⟩:= .inr ⟨h,h1,.inl ⟨rfl,rfl,rfl,rfl⟩⟩
theorem vR {k ep pe:Int} {e:Ev} (hk:1<=k/\k<=7) (hq:q<4) (eF:0<=ep/\ep<=1048576) (hpe:0<=pe/\pe<=4) (he:if kC k=true then aX e=0 else e=aO):aJ (fG k q ep pe e)=0:=by
 unfold aJ fG;dsimp only;rw [if_neg (by simp [jP];omega),if_neg (by simp [jP];omega)];by_cases hh:kC k=true
 ·rw [if_pos hh] at he⊢;exact he
 rw [if_neg hh] at he⊢;rw [if_pos he]
theorem Qk (hb:au b=0) (hr:b.role=0) (he:b.ep<1) (hq:q<4):iR b 1=(⟨1,1,0,0,0,[]⟩,0)/\eu b (fG 1 q 1 0 aO)=(⟨1,1,0,0,0,[]⟩,0):=by
 have hm:iR b 1=(⟨1,1,0,0,0,[]⟩,0):=by unfold iR;rw [if_neg (by simp [hb]),if_neg oQ,if_neg (by simp [hr]),if_neg oQ]
 have ha:ku b (fG 1 q 1 0 aO)=(⟨1,1,0,0,0,[]⟩,0):=by unfold ku fG;simpa using hm
 exact ⟨hm,by rw [jY hb (vR oQ hq oQ oQ dQ) (by simp [fG];omega) (by rw [ha]),ha]⟩
theorem TA {e:Ev} {ep:Int} (hb:au b=0) (hr:b.role=1) (eF:b.ep=ep) (hq:q<4) (he:aX e=0) (hg:good (b.evs++[e])):eu b (fG 2 q ep 0 e)=({ b with evs:=b.evs++[e] },0)/\aJ (fG 2 q ep 0 e)=0:=by
 subst eF;have hs:=fI hb;unfold bq at hs;have hrec:aJ (fG 2 q b.ep 0 e)=0:=vR oQ hq oQ oQ (by simpa [kC] using he);have hok:au ⟨b.role,b.ep,b.fr,b.tg,b.rd,b.evs++[e]⟩=0:=mE (oK (fI hb) oQ _) hg;have ha:ku b (fG 2 q b.ep 0 e)=({ b with evs:=b.evs++[e] },0):=by
  have h1:=aeP (b:=b) (qu:=q) (e:=b.ep) (pe:=0) (x:=e);rw [if_neg (λh=>h ⟨hr,rfl⟩)] at h1;unfold Dw at h1;rw [if_neg (λh=>h hok)] at h1;exact h1
 exact ⟨by rw [jY hb hrec (by simp [fG];omega) (by rw [ha]),ha],hrec⟩
theorem ab6 {e:Ev} {ep:Int} (hb:au b=0) (hr:b.role=4) (eF:b.ep=ep) (hq:q<4) (he:aX e=0) (hg:good (b.evs++[e])):eu b (fG 5 q ep 0 e)=({ b with evs:=b.evs++[e] },0)/\aJ (fG 5 q ep 0 e)=0/\au { b with evs:=b.evs++[e] }=0:=by
 subst eF;have hs:=fI hb;unfold bq at hs;have hrec:aJ (fG 5 q b.ep 0 e)=0:=vR oQ hq oQ oQ (by simpa [kC] using he);have hok:au ⟨b.role,b.ep,b.fr,b.tg,b.rd,b.evs++[e]⟩=0:=mE (oK (fI hb) oQ _) hg;have ha:ku b (fG 5 q b.ep 0 e)=({ b with evs:=b.evs++[e] },0):=by
  have h1:=aeQ (b:=b) (qu:=q) (e:=b.ep) (pe:=0) (x:=e);rw [if_neg (λh=>h ⟨hr,rfl⟩)] at h1;unfold Dw at h1;rw [if_neg (λh=>h hok)] at h1;exact h1
 exact ⟨by rw [jY hb hrec (by simp [fG];omega) (by rw [ha]),ha],hrec,hok⟩
theorem alf {ep tg:Int} (hb:au b=0) (hr:b.role=1) (eF:b.ep=ep) (hq:q<4) (ht:0<=tg/\tg<=4):eu b (fG 3 q ep tg aO)=(⟨3,b.ep,0,tg,0,b.evs⟩,0)/\aJ (fG 3 q ep tg aO)=0:=by
 subst eF;have hs:=fI hb;unfold bq at hs;have hrec:aJ (fG 3 q b.ep tg aO)=0:=vR oQ hq oQ oQ dQ;have ha:ku b (fG 3 q b.ep tg aO)=(⟨3,b.ep,0,tg,0,b.evs⟩,0):=by
  unfold ku fG WS;have h1:b.fr=0:=oQ;have h2:b.rd=0:=oQ;simp [hr,h1,h2]
 exact ⟨by rw [jY hb hrec (by simp [fG];omega) (by rw [ha]),ha],hrec⟩
theorem agS {ep fr:Int} (hb:au b=0) (hr:b.role=0\/b.role=4) (eF:b.ep<ep) (h1:1<=ep/\ep<=1048576) (hq:q<4) (ht:0<=fr/\fr<=4):eu b (fG 4 q ep fr aO)=(⟨4,ep,fr,0,0,[]⟩,0)/\aJ (fG 4 q ep fr aO)=0:=by
 have hrec:aJ (fG 4 q ep fr aO)=0:=vR oQ hq oQ oQ dQ;have ha:ku b (fG 4 q ep fr aO)=(⟨4,ep,fr,0,0,[]⟩,0):=by
  unfold ku fG dG;rw [if_neg iQ,if_pos rfl];dsimp only;rw [if_neg (by simp [hb]),if_neg oQ,if_neg oQ,if_neg oQ,if_neg oQ]
 exact ⟨by rw [jY hb hrec (by simp [fG];omega) (by rw [ha]),ha],hrec⟩
theorem arJ {ep:Int} (hb:au b=0) (hr:b.role=4) (eF:b.ep=ep) (hq:q<4) (hg:good (b.evs++[aI])):eu b (fG 6 q ep 0 aO)=(⟨1,b.ep,0,0,0,b.evs++[aI]⟩,0)/\aJ (fG 6 q ep 0 aO)=0:=by
 subst eF;have hs:=fI hb;unfold bq at hs;have hrec:aJ (fG 6 q b.ep 0 aO)=0:=vR oQ hq oQ oQ dQ;have hok:au ⟨1,b.ep,0,0,0,b.evs++[aI]⟩=0:=mE (yB oQ oQ _) hg;have hi:dn b b.ep b.evs.length [] true=(⟨1,b.ep,0,0,0,b.evs++[aI]⟩,0):=by
  unfold dn;rw [if_neg (by simp [hb]),if_neg (by simp [hr]),if_neg iQ,if_neg oQ,if_neg iQ,if_neg iQ];simp only [if_pos,List.drop_nil,List.append_nil];rw [if_neg (by simpa using hok)]
 have ha:ku b (fG 6 q b.ep 0 aO)=(⟨1,b.ep,0,0,0,b.evs++[aI]⟩,0):=by
  unfold ku fG;simp [hr,hi]
 exact ⟨by rw [jY hb hrec (by simp [fG];omega) (by rw [ha]),ha],hrec⟩
theorem ab7 {ep:Int} (hb:au b=0) (hr:b.role=3) (eF:b.ep=ep) (hq:q<4):eu b (fG 7 q ep 0 aO)=(⟨0,b.ep,0,0,0,[]⟩,0)/\aJ (fG 7 q ep 0 aO)=0:=by
 subst eF;have hs:=fI hb;unfold bq at hs;have hrec:aJ (fG 7 q b.ep 0 aO)=0:=vR oQ hq oQ oQ dQ;have ha:ku b (fG 7 q b.ep 0 aO)=(⟨0,b.ep,0,0,0,[]⟩,0):=by
  unfold ku fG fZ;simp [hr,hb];omega
 exact ⟨by rw [jY hb hrec (by simp [fG];omega) (by rw [ha]),ha],hrec⟩
theorem uL (h:au b=0):au (jV b)=0:=by
 unfold jV
 split
 ·rename_i hr
  have hs:=fI h;unfold bq at hs;exact mE (yB oQ oQ _) (jv (b:=b) h)
 exact h
theorem V3:(jV b).ep=b.ep:=by unfold jV;split<;>rfl
theorem alg:(jV b).evs=b.evs:=by unfold jV;split<;>rfl
theorem Ku:(jV b).role≠2:=by unfold jV;split<;>first | assumption | simp
theorem Bn (h:b.role≠2):jV b=b:=if_neg h
theorem zy (h:serves b) (hb:au b=0):jV b=⟨1,b.ep,0,0,0,b.evs⟩:=by
 unfold jV
 split
 ·rfl
 have hs:=fI hb;unfold bq at hs;unfold serves at h;obtain ⟨ro,ep,fr,tg,rd,evs⟩:=b;dsimp only at*;simp only [bn.mk.injEq,and_true,true_and];omega
end
def dB.q:dB->Nat
 | .serve q .. =>q
 | .begun q _=>q
 | .got q .. =>q
 | .gI q .. =>q
 | .forget q _=>q
def dB.b (bs:Nat->bn):dB->bn
 | .serve q evs _ _ _=>{ bs q with evs:=evs }
 | .begun _ b=>b
 | .got _ b _=>b
 | .gI _ b _=>b
 | .forget _ b=>b
def dB.rs (bs:Nat->bn):dB->List dD
 | .serve q _ op _ _=>[fG 2 q (bs q).ep 0 op]
 | .begun q b=>[fG 4 q b.ep b.fr aO]
 | .got q b last=>uK q b (bs q).evs.length (b.evs.length-if last=true then 1 else 0) last
 | .gI q b _=>[fG 3 q b.ep b.tg aO]
 | .forget q _=>[fG 7 q (bs q).ep 0 aO]
def dB.ok (bs:Nat->bn):dB->Prop
 | .serve q evs op _ _=>serves (bs q)/\evs=(bs q).evs++[op]/\aX op=0/\good evs
 | .begun q b=>((bs q).role=0\/(bs q).role=4)/\ ∃ e f,b=⟨4,e,f,0,0,[]⟩/\(bs q).ep<e/\1<=e/\e<=1048576/\0<=f/\f<=4
 | .got q b last=>(bs q).role=4/\good b.evs/\(∀ e∈b.evs,aX e=0)/\(last=false->b={ bs q with evs:=b.evs }/\(bs q).evs=b.evs.take (bs q).evs.length)/\
   (last=true-> ∃ es,b=⟨1,(bs q).ep,0,0,0,es++[aI]⟩/\(bs q).evs=es.take (bs q).evs.length)
 | .gI q b _=>(bs q).role=2/\b={ bs q with role:=3,rd:=0 }
 | .forget q b=>(bs q).role=3/\b=⟨0,(bs q).ep,0,0,0,[]⟩
def dK.ok (l:dK):Prop:=l.q<4/\l.evs.length<=2000/\(l.kd=0\/l.kd=2\/l.kd=3\/l.kd=4\/l.kd=6)
theorem Iq {b:bn} {hv:Int} (h:au b=0) (h2:(bK b hv).2=0):au (bK b hv).1=0:=by
 have hb:=eO h;have hs:=hb.1;unfold bq at hs;unfold bK at h2⊢;rw [if_neg (λe=>e h)] at h2⊢;by_cases c1:b.role≠2/\b.role≠3
 ·rw [if_pos c1] at h2;exact absurd h2 dQ
 rw [if_neg c1] at h2⊢;by_cases c2: ¬ (0<=hv/\hv<=b.evs.length)
 ·rw [if_pos c2] at h2;exact absurd h2 dQ
 rw [if_neg c2] at h2⊢;by_cases c3:b.role=3
 ·rw [if_pos c3];exact h
 rw [if_neg c3];have key: ∀ r d,bq ⟨r,b.ep,b.fr,b.tg,d,b.evs⟩->au ⟨r,b.ep,b.fr,b.tg,d,b.evs⟩=0:=λr d h=>mE h hb.2;by_cases c4:hv=b.evs.length\/b.rd=4
 ·rw [if_pos c4];refine key 3 0 ?_;clear h2 key h hb;unfold bq;dsimp only;omega
 rw [if_neg c4];have hr:b.role=2:=by clear h2 key h hb c2 c4;omega
 have hd: ¬ b.rd=4:=λe=>c4 (.inr e);rw [hr] at hs;have hs2:1<=b.ep/\b.ep<=1048576/\b.fr=0/\0<=b.tg/\b.tg<5/\0<=b.rd/\b.rd<=4:=by clear h2 key h hb c1 c2 c3 c4;omega
 refine key b.role (b.rd+1) (.inr ⟨hs2.1,hs2.2.1,.inr (.inl ⟨hr,hs2.2.2.1,hs2.2.2.2.1,hs2.2.2.2.2.1,?_,?_⟩)⟩)
 ·show 0<=b.rd+1
  have:=hs2.2.2.2.2.2;clear h2 key h hb c1 c2 c3 c4 hs;omega
 show b.rd+1<=4
 have:=hs2.2.2.2.2.2;clear h2 key h hb c1 c2 c3 c4 hs;omega
structure Cr (m m':Cl) (n:Nat):Prop where
 sj: ∀ j,j≠n->m'.ah j=m.ah j
 up:(m'.ah n).up=(m.ah n).up
 lC:(m'.ah n).inbox=(m.ah n).inbox
 trn:(m'.ah n).turn=(m.ah n).turn
 mP:(∀ q,q<4->au ((m.ah n).bs q)=0)-> ∀ q,q<4->au ((m'.ah n).bs q)=0
 fly:m'.fly.length<=m.fly.length+1
 aQ:m'.aQ.length<=m.aQ.length+1
section
variable {m m':Cl} {n:Nat} {l:dK}
theorem Bo (h:m'.ah=m.ah) (h1:m'.fly.length<=m.fly.length+1) (h2:m'.aQ.length<=m.aQ.length+1):Cr m m' n:=
 ⟨λj _=>by rw [h],by rw [h],by rw [h],by rw [h],λhb=>by rw [h];exact hb,h1,h2⟩
theorem qj:Cr m m n:=Bo rfl (Nat.le_succ _) (Nat.le_succ _)
theorem EF {X:Nd} (h:m'.ah=upd m.ah n X) (h0:X.up=(m.ah n).up) (h3:X.inbox=(m.ah n).inbox) (h4:X.turn=(m.ah n).turn) (h5:(∀ q,q<4->au ((m.ah n).bs q)=0)-> ∀ q,q<4->au (X.bs q)=0) (h1:m'.fly.length<=m.fly.length+1) (h2:m'.aQ.length<=m.aQ.length+1):Cr m m' n:=by
 have e:m'.ah n=X:=by rw [h];exact if_pos rfl
 exact ⟨λj hj=>by rw [h];exact if_neg hj,by rw [e,h0],by rw [e,h3],by rw [e,h4],λhb=>by rw [e];exact h5 hb,h1,h2⟩
theorem TD {q:Nat} {op:Ev} {num:Int} {a:iM}:Cr m (m.done n q op num a) n:=by
 unfold Cl.done
 split
 ·exact Bo rfl (by simp [Cl.send,Cl.tell]) (by simp [Cl.send,Cl.tell])
 exact Bo rfl (by simp [Cl.send]) (by simp [Cl.send])
theorem TF {q:Nat}:Cr m (m.have_ n q) n:=Bo rfl (by simp [Cl.have_,Cl.send]) (by simp [Cl.have_,Cl.send])
theorem agT {q:Nat} {a:Int}:Cr m (m.part n q a) n:=by
 unfold Cl.part
 split
 ·exact qj
 exact Bo rfl (by simp [Cl.send]) (by simp [Cl.send])
theorem OP {X x:Nd} {rs:List dD} (h:X.write rs=some x):x.up=X.up/\x.inbox=X.inbox/\x.turn=X.turn/\x.bs=X.bs:=by
 unfold Nd.write at h;rw [Option.map_eq_some_iff] at h;obtain ⟨d,_,rfl⟩:=h;exact ⟨rfl,rfl,rfl,rfl⟩
theorem Fu {x:Nd} {p:dB} {rs:List dD} (h:(m.ah n).write rs=some x):Cr m (m.put n { x with pend:=some p }) n:=by
 obtain ⟨h1,h2,h3,h4⟩:=OP h;exact EF rfl h1 h2 h3 (λhb q hq=>by show au (x.bs q)=0;rw [h4];exact hb q hq) (Nat.le_succ _) (Nat.le_succ _)
theorem Cr.arK {m2:Cl} (h:Cr m m2 n) (h1:m2.fly.length<=m.fly.length) (h2:m2.aQ.length<=m.aQ.length) (h3:Cr m2 m' n):Cr m m' n:=
 ⟨λj hj=>(h3.sj j hj).trans (h.sj j hj),h3.up.trans h.up,h3.lC.trans h.lC,h3.trn.trans h.trn,λhb=>h3.mP (h.mP hb),by have:=h3.fly;omega,by have:=h3.aQ;omega⟩
theorem vo (hq:l.q<4):Cr m (m.handle n l) n:=by
 unfold Cl.handle
 split
 ·unfold Cl.serve
  split
  ·exact TD
  split
  ·exact TD
  exact Fu ‹_›
 split
 ·unfold Cl.offered
  split
  ·exact qj
  split
  ·exact TF
  split
  ·exact qj
  exact Fu ‹_›
 split
 ·unfold Cl.caught
  split
  ·exact qj
  split
  ·exact qj
  rename_i h1 h2
  split
  ·refine Cr.arK (m2:=m.aK n l.q (bK ((m.ah n).bs l.q) l.at_).1) (EF rfl rfl rfl rfl (λhb q hq'=>?_) (Nat.le_succ _) (Nat.le_succ _)) (Nat.le_refl _) (Nat.le_refl _) agT
   show au (upd (m.ah n).bs l.q (bK ((m.ah n).bs l.q) l.at_).1 q)=0
   unfold upd
   split
   ·exact Iq (hb _ hq) oQ
   exact hb q hq'
  split
  ·exact qj
  exact Fu ‹_›
 split
 ·unfold Cl.got
  split
  ·exact qj
  split
  ·exact TF
  split
  ·exact qj
  split
  ·exact qj
  exact Fu ‹_›
 unfold Cl.learnt
 split
 ·exact EF rfl rfl rfl rfl (λhb=>hb) (Nat.le_succ _) (Nat.le_succ _)
 split
 ·exact EF rfl rfl rfl rfl (λhb=>hb) (Nat.le_succ _) (Nat.le_succ _)
 rename_i x h
 obtain ⟨h1,h2,h3,h4⟩:=OP h;exact EF rfl h1 h2 h3 (λhb q hq=>by show au (x.bs q)=0;rw [h4];exact hb q hq) (Nat.le_succ _) (Nat.le_succ _)
end
end
section
open ChangeShapes WideShapes ChangeAt RowKit
structure LX where
 l:dK
 A:Option Addr
 c:Nat
def agU (l:dK) (s:Value):List Value:=[iV l.kd,iV l.fr,iV l.tg,iV ((l.q:Nat):Int),iV l.ep,iV l.at_,iV l.nd,iV l.op.kind,iV l.op.producer,iV l.op.id,iV l.op.body,iV l.op.aG,iV l.op.hno,s,.bool l.last,iV l.num,
 iV l.bH.num,iV l.bH.ans.code,iV l.bH.ans.eF,iV l.bH.ans.hno,iV l.bH.ans.body,iV l.bH.pl.node,iV l.bH.pl.epoch]
def LX.cells (x:LX):List Value:=agU x.l (.slice x.A x.l.evs.length x.c)
def LX.row (x:LX):Array Value:=x.cells.toArray
def xk.cells (t:xk):List Value:=[iV t.num,iV t.ans.code,iV t.ans.eF,iV t.ans.hno,iV t.ans.body,iV t.pl.node,iV t.pl.epoch]
def fD.cells (s:fD):List Value:=[iV ((s.nd:Nat):Int),iV ((s.q:Nat):Int),iV s.ep,iV s.op.kind,iV s.op.producer,iV s.op.id,iV s.op.body,iV s.op.aG,iV s.op.hno,iV s.ans.code,iV s.ans.eF,iV s.ans.hno,iV s.ans.body,iV s.num]
theorem EG (x:LX): ∀ u∈x.cells,u.oneCell'=true:=bM rfl
theorem alh (l:List LX): ∀ u∈l.flatMap LX.cells,u.oneCell'=true:=by
 intro u hu;rw [List.mem_flatMap] at hu;obtain ⟨z,_,hz⟩:=hu;exact EG z u hz
def dI (me:Nat) (up:Bool) (tv:Value) (syn:Int) (bv:Value) (H:Nat->Pl) (U:Nat->Bool) (iv pv:Value) (turn:Nat):Array Value:=
 #[iV ((me:Nat):Int),.bool up,tv,iV syn,bv,iV (H 0).node,iV (H 0).epoch,iV (H 1).node,iV (H 1).epoch,iV (H 2).node,iV (H 2).epoch,iV (H 3).node,iV (H 3).epoch,.bool (U 0),.bool (U 1),.bool (U 2),.bool (U 3),iv,pv,iV ((turn:Nat):Int)]
def Rq (p:Int×Int):List Value:=[iV p.1,iV p.2]
def Rs (sh:Nat->Nat->Int×Int) (n:Nat):List Value:=Rq (sh n 0)++(Rq (sh n 1)++(Rq (sh n 2)++Rq (sh n 3)))
def ali (sh:Nat->Nat->Int×Int):List Value:=Rs sh 0++(Rs sh 1++(Rs sh 2++(Rs sh 3++Rs sh 4)))
def OQ (nv:Value) (d:Dir) (fv:Value) (sh:Nat->Nat->Int×Int) (sv tv:Value) (calls:Nat):List Value:=
 nv::(d.cells++(fv::(ali sh++[iV 0,.bool false,.bool false,.bool false,.bool false,.bool false,iV 0,iV 0,iV 0,iV 0,iV 0,iV 0,iV 0,iV 0,.slice none 0 0,sv,tv,iV ((calls:Nat):Int)])))
def kS (nv:Value) (d:Dir) (fv:Value) (sh:Nat->Nat->Int×Int) (sv tv:Value) (calls:Nat):Array Value:=(OQ nv d fv sh sv tv calls).toArray
section
variable {me turn calls k:Nat} {up:Bool} {tv bv iv pv nv fv sv uv x:Value} {syn:Int} {H:Nat->Pl} {U:Nat->Bool} {d:Dir} {sh:Nat->Nat->Int×Int}
theorem AV:(kS nv d fv sh sv tv calls)[0]? =some nv:=rfl
theorem Sk:(kS nv d fv sh sv tv calls)[9]? =some fv:=rfl
theorem awI:(kS nv d fv sh sv tv calls)[65]? =some sv:=rfl
theorem awJ:(kS nv d fv sh sv tv calls)[66]? =some tv:=rfl
theorem amZ:(kS nv d fv sh sv tv calls)[67]? =some (iV ((calls:Nat):Int)):=rfl
theorem IJ {nv' fv' sv' tv':Value} {d':Dir} {sh':Nat->Nat->Int×Int} {calls' o:Nat} {vs:List Value} (h:o+vs.length<=68) (he:(OQ nv d fv sh sv tv calls).take o++vs++(OQ nv d fv sh sv tv calls).drop (o+vs.length)=OQ nv' d' fv' sh' sv' tv' calls'):
  cu (kS nv d fv sh sv tv calls) o vs=kS nv' d' fv' sh' sv' tv' calls':=Array.ext' (by rw [iq _ _ _ h];exact he)
theorem aoA:cu (kS nv d fv sh sv tv calls) 9 [x]=kS nv d x sh sv tv calls:=IJ (Nat.le_of_ble_eq_true rfl) rfl
theorem awK:cu (kS nv d fv sh sv tv calls) 65 [x]=kS nv d fv sh x tv calls:=IJ (Nat.le_of_ble_eq_true rfl) rfl
theorem awL:cu (kS nv d fv sh sv tv calls) 66 [x]=kS nv d fv sh sv x calls:=IJ (Nat.le_of_ble_eq_true rfl) rfl
theorem awM {c':Nat}:cu (kS nv d fv sh sv tv calls) 67 [iV ((c':Nat):Int)]=kS nv d fv sh sv tv c':=IJ (Nat.le_of_ble_eq_true rfl) rfl
theorem aoB {d':Dir}:cu (kS nv d fv sh sv tv calls) 1 d'.cells=kS nv d' fv sh sv tv calls:=IJ (Nat.le_of_ble_eq_true rfl) rfl
theorem yC: ∀ (j:Nat) (u:Value),d.cells[j]? =some u->(kS nv d fv sh sv tv calls)[1+j]? =some u:=by
 intro j u h;have hj:j<8:=(List.getElem?_eq_some_iff.1 h).1;have:j=0\/j=1\/j=2\/j=3\/j=4\/j=5\/j=6\/j=7:=oQ
 rcases this with rfl | rfl | rfl | rfl | rfl | rfl | rfl | rfl<;>exact h
theorem ae4:(kS nv d fv sh sv tv calls).size=68:=rfl
theorem am0 {n q:Nat} (hn:n<5) (hq:q<4) {a b:Int}:cu (kS nv d fv sh sv tv calls) (10+n*8+q*2) [iV a,iV b]=kS nv d fv (iy sh n q (a,b)) sv tv calls:=by
 have h1:n=0\/n=1\/n=2\/n=3\/n=4:=oQ;have h2:q=0\/q=1\/q=2\/q=3:=oQ
 rcases h1 with rfl | rfl | rfl | rfl | rfl<;>rcases h2 with rfl | rfl | rfl | rfl<;>exact IJ (Nat.le_of_ble_eq_true rfl) rfl
theorem awN {n q:Nat} (hn:n<5) (hq:q<4): ∀ (j:Nat) (u:Value),(Rq (sh n q))[j]? =some u->(kS nv d fv sh sv tv calls)[10+n*8+q*2+j]? =some u:=by
 intro j u h;have hj:j<2:=(List.getElem?_eq_some_iff.1 h).1;have h0:j=0\/j=1:=oQ;have h1:n=0\/n=1\/n=2\/n=3\/n=4:=oQ;have h2:q=0\/q=1\/q=2\/q=3:=oQ
 rcases h1 with rfl | rfl | rfl | rfl | rfl<;>rcases h2 with rfl | rfl | rfl | rfl<;>rcases h0 with rfl | rfl<;>exact h
theorem EH {q:Nat} (hq:q<4) {p:Pl}:cu (dI me up tv syn bv H U iv pv turn) (5+q*2) [iV p.node,iV p.epoch]=dI me up tv syn bv (upd H q p) U iv pv turn:=by
 have h2:q=0\/q=1\/q=2\/q=3:=oQ
 rcases h2 with rfl | rfl | rfl | rfl<;>rfl
theorem Ql {q:Nat} (hq:q<4):(dI me up tv syn bv H U iv pv turn)[5+q*2]? =some (iV (H q).node)/\(dI me up tv syn bv H U iv pv turn)[5+q*2+1]? =some (iV (H q).epoch):=by
 have h2:q=0\/q=1\/q=2\/q=3:=oQ
 rcases h2 with rfl | rfl | rfl | rfl<;>exact ⟨rfl,rfl⟩
theorem ZR {q:Nat} (hq:q<4) {v:Bool}:cu (dI me up tv syn bv H U iv pv turn) (13+q*1) [.bool v]=dI me up tv syn bv H (upd U q v) iv pv turn:=by
 have h2:q=0\/q=1\/q=2\/q=3:=oQ
 rcases h2 with rfl | rfl | rfl | rfl<;>rfl
theorem alj {q:Nat} (hq:q<4):(dI me up tv syn bv H U iv pv turn)[13+q*1]? =some (.bool (U q)):=by
 have h2:q=0\/q=1\/q=2\/q=3:=oQ
 rcases h2 with rfl | rfl | rfl | rfl<;>rfl
end
def Ro (L:List Fact) (s:Nat) (A:Option Addr) (n:Nat) (xs:List Value):Prop:= ∀ B w,(∀ f∈L,f.holds B w)->Rd w w.heap.size s A n xs
section
variable {L L':List Fact} {s n:Nat} {A:Option Addr} {xs:List Value} {B:Nat} {w w0:World} {fs:List Fact}
theorem Ro.mono (h:Ro L s A n xs) (hl: ∀ f∈L,f∈L'):Ro L' s A n xs:=λB w hw=>h B w λf hf=>hw f (hl f hf)
theorem Ro.rd (h:Ro L s A n xs) (S:St B w0 w fs) (hl: ∀ f∈L,f∈fs):Rd w w.heap.size s A n xs:=h B w λf hf=>S.has (hl f hf)
theorem Ro.none_:Ro L s none 0 []:=λ_ _ _=>Rd.none_
theorem Ro.bJ (h:Fact.bJ s A n xs∈L):Ro L s A n xs:=λ_ _ hw=>(hw _ h).1
theorem Ro.own {e:TypeId} {c:Nat} (h:Fact.own e s (.slice A n c) n xs∈L):Ro L s A n xs:=λ_ _ hw=>Rd.tO (hw _ h)
end
structure NX where
 bb:Nat
 tA:Option Addr
 tc:Nat
 bx:List BX
 iA:Option Addr
 ic:Nat
 ix:List LX
 pv:Value
structure CX where
 nx:Nat->NX
 fA:Option Addr
 fc:Nat
 fx:List LX
 sA:Option Addr
 sc:Nat
 tA:Option Addr
 tc:Nat
 nA:Option Addr
 nc:Nat
 L:List Fact
structure CK where
 wb:Nat
 nb:Nat->Nat
def gT (b:Nat):Value:= .pointer (some ⟨b,0,none⟩)
def alk (n:Nat) (X:Nd) (x:NX):Array Value:=dI n X.up (.slice x.tA X.data.length x.tc) X.syn (.slice (some ⟨x.bb,0,none⟩) 4 4) X.hints X.sure (.slice x.iA x.ix.length x.ic) x.pv X.turn
def awO (R:CX) (m:Cl):Array Value:=kS (.slice R.nA 5 R.nc) m.off (.slice R.fA R.fx.length R.fc) m.shown (.slice R.sA m.aQ.length R.sc) (.slice R.tA m.bH.length R.tc) m.calls
def Ee (kn n:Nat) (X:Nd) (x:NX):List Fact:=
 [.blk kn (alk n X x) 113,.own 57 6 (.slice (some ⟨x.bb,0,none⟩) 4 4) 4 (x.bx.flatMap BX.cells),.off 140 23 x.iA x.ix.length x.ic (x.ix.flatMap LX.cells)]
def kg (K:CK) (n:Nat) (X:Nd) (x:NX):List Fact:=Ee (K.nb n) n X x
def Ef (kw:Nat) (R:CX) (m:Cl):List Fact:=
 [.blk kw (awO R m) 105,.own 140 23 (.slice R.fA R.fx.length R.fc) R.fx.length (R.fx.flatMap LX.cells),.own 69 14 (.slice R.sA m.aQ.length R.sc) m.aQ.length (m.aQ.flatMap fD.cells),.own 138 7 (.slice R.tA m.bH.length R.tc) m.bH.length (m.bH.flatMap xk.cells)]
def uM (K:CK) (R:CX) (m:Cl):List Fact:=Ef K.wb R m
def lT (K:CK) (R:CX) (m:Cl) (n:Nat):List Fact:=((List.range 5).filter (· ≠n)).flatMap λj=>kg K j (m.ah j) (R.nx j)
def gy (K:CK) (R:CX) (m:Cl) (fs:List Fact) (n:Nat):List Fact:=fs++(lT K R m n++R.L)
def kY (K:CK) (R:CX) (m:Cl):List Fact:=uM K R m++(((List.range 5).flatMap λj=>kg K j (m.ah j) (R.nx j))++R.L)
def GZ (L:List Fact) (A:Option Addr) (c:Nat) (l:List Ev):Prop:=Ro L 6 A l.length (bg l)/\l.length<=c
def Rt (L:List Fact) (x:LX):Prop:=GZ L x.A x.c x.l.evs
def Ct (L:List Fact) (y:BX):Prop:=GZ L y.A y.c y.b.evs
theorem GZ.mono {L L':List Fact} {A:Option Addr} {c:Nat} {l:List Ev} (h:GZ L A c l) (hl: ∀ f∈L,f∈L'):GZ L' A c l:=⟨h.1.mono hl,h.2⟩
def pI (kn kw:Nat) (L:List Fact):Option dB->Value->Prop
 | none,v=>v= .nilFunc
 | some (.serve q evs op num a),v=> ∃ b1 b2 b3 b4 b5 b6 b7 y x,v= .func (.func 118) #[] #[gT b1,gT b2,gT b3,gT b4,gT b5]/\ .blk b1 (BX.cells y).toArray 57∈L/\y.b.evs=evs/\Ct L y/\ .blk b2 #[gT kn] 106∈L/\ .blk b3 #[.int .i64 ((q:Nat):Int)] 3∈L/\
   .blk b4 #[.func (.func 117) #[] #[gT b6,gT b2,gT b3,gT b7]] 224∈L/\ .blk b5 (iM.cells a).toArray 67∈L/\ .blk b6 (LX.row x) 140∈L/\x.l.op=op/\x.l.num=num/\ .blk b7 #[gT kw] 95∈L
 | some (.begun q b),v=> ∃ b1 b2 b3 b4 y,v= .func (.func 121) #[] #[gT b1,gT b2,gT b3,gT b4]/\ .blk b1 (BX.cells y).toArray 57∈L/\y.b=b/\Ct L y/\ .blk b2 #[gT kn] 106∈L/\ .blk b3 #[.int .i64 ((q:Nat):Int)] 3∈L/\ .blk b4 #[gT kw] 95∈L
 | some (.got q b last),v=> ∃ b1 b2 b3 b4 b5 y x,v= .func (.func 126) #[] #[gT b1,gT b2,gT b3,gT b4,gT b5]/\ .blk b1 (BX.cells y).toArray 57∈L/\y.b=b/\Ct L y/\ .blk b2 #[gT kn] 106∈L/\ .blk b3 #[.int .i64 ((q:Nat):Int)] 3∈L/\
   .blk b4 (LX.row x) 140∈L/\x.l.last=last/\ .blk b5 #[gT kw] 95∈L
 | some (.gI q b at_),v=> ∃ b1 b2 b3 b4 b5 y x,v= .func (.func 124) #[] #[gT b1,gT b2,gT b3,gT b4,gT b5]/\ .blk b1 (BX.cells y).toArray 57∈L/\y.b=b/\Ct L y/\ .blk b2 #[gT kn] 106∈L/\ .blk b3 #[.int .i64 ((q:Nat):Int)] 3∈L/\
   .blk b4 #[gT kw] 95∈L/\ .blk b5 (LX.row x) 140∈L/\x.l.at_=at_
 | some (.forget q b),v=> ∃ b1 b2 b3 y,v= .func (.func 128) #[] #[gT b1,gT b2,gT b3]/\ .blk b1 (BX.cells y).toArray 57∈L/\y.b=b/\Ct L y/\ .blk b2 #[gT kn] 106∈L/\ .blk b3 #[.int .i64 ((q:Nat):Int)] 3∈L
def aBC (K:CK) (L:List Fact) (n:Nat) (p:Option dB) (v:Value):Prop:=pI (K.nb n) K.wb L p v
structure dW (K:CK) (L:List Fact) (n:Nat) (X:Nd) (x:NX):Prop where
 Ru:x.bx.map BX.b=vB X.bs
 TG: ∀ y∈x.bx,Ct L y
 yD:Ro L 1 x.tA X.data.length (byteCells X.data)
 ixm:x.ix.map LX.l=X.inbox
 ixo: ∀ y∈x.ix,Rt L y
 nL:aBC K L n X.pend x.pv
structure Good (K:CK) (R:CX) (m:Cl) (H:List LX):Prop where
 fly:R.fx.map LX.l=m.fly
 flo: ∀ x∈R.fx,Rt R.L x
 kr: ∀ n,n<5->dW K R.L n (m.ah n) (R.nx n)
 arr:Ro R.L 1 R.nA 5 ((List.range 5).map λj=>gT (K.nb j))
 hld: ∀ x∈H,Rt R.L x
def Wd (K:CK) (B:Nat) (w0 w:World) (fs:List Fact) (m:Cl) (H:List LX):Prop:= ∃ R,Good K R m H/\St B w0 w (fs++kY K R m)
section
variable {K:CK} {B n:Nat} {w0 w w':World} {fs N:List Fact} {m m':Cl} {H H':List LX} {R R':CX}
theorem pI.mono {kn kw:Nat} {L L':List Fact} {p:Option dB} {v:Value} (h:pI kn kw L p v) (hl: ∀ f∈L,f∈L'):pI kn kw L' p v:=by
 match p,h with
 | none,h=>exact h
 | some (.serve q evs op num a),⟨b1,b2,b3,b4,b5,b6,b7,y,x,h1,h2,h3,h4,h5,h6,h7,h8,h9,h10,h11,h12⟩=>
  exact ⟨b1,b2,b3,b4,b5,b6,b7,y,x,h1,hl _ h2,h3,GZ.mono h4 hl,hl _ h5,hl _ h6,hl _ h7,hl _ h8,hl _ h9,h10,h11,hl _ h12⟩
 | some (.begun q b),⟨b1,b2,b3,b4,y,h1,h2,h3,h4,h5,h6,h7⟩=>exact ⟨b1,b2,b3,b4,y,h1,hl _ h2,h3,GZ.mono h4 hl,hl _ h5,hl _ h6,hl _ h7⟩
 | some (.got q b last),⟨b1,b2,b3,b4,b5,y,x,h1,h2,h3,h4,h5,h6,h7,h8,h9⟩=>exact ⟨b1,b2,b3,b4,b5,y,x,h1,hl _ h2,h3,GZ.mono h4 hl,hl _ h5,hl _ h6,hl _ h7,h8,hl _ h9⟩
 | some (.gI q b at_),⟨b1,b2,b3,b4,b5,y,x,h1,h2,h3,h4,h5,h6,h7,h8,h9⟩=>exact ⟨b1,b2,b3,b4,b5,y,x,h1,hl _ h2,h3,GZ.mono h4 hl,hl _ h5,hl _ h6,hl _ h7,hl _ h8,h9⟩
 | some (.forget q b),⟨b1,b2,b3,y,h1,h2,h3,h4,h5,h6⟩=>exact ⟨b1,b2,b3,y,h1,hl _ h2,h3,GZ.mono h4 hl,hl _ h5,hl _ h6⟩
theorem dW.mono {L L':List Fact} {X:Nd} {x:NX} (h:dW K L n X x) (hl: ∀ f∈L,f∈L'):dW K L' n X x:=
 ⟨h.Ru,λy hy=>(h.TG y hy).mono hl,h.yD.mono hl,h.ixm,λy hy=>(h.ixo y hy).mono hl,pI.mono h.nL hl⟩
theorem vC {α:Type} (f:Nat->List α) (hn:n<5):((List.range 5).flatMap f).Perm (f n++((List.range 5).filter (· ≠n)).flatMap f):=by
 have h:n=0\/n=1\/n=2\/n=3\/n=4:=oQ;have key: ∀ l:List Nat,(List.range 5).Perm (n::l)->((List.range 5).flatMap f).Perm (f n++l.flatMap f):=λl hl=>by
  have:=hl.flatMap_right f;rwa [List.flatMap_cons] at this
 refine key _ ?_
 rcases h with rfl | rfl | rfl | rfl | rfl<;>decide
open Classical in
theorem Wd.open (h:Wd K B w0 w fs m H) (hn:n<5): ∃ R,Good K R m H/\St B w0 w (kg K n (m.ah n) (R.nx n)++(uM K R m++gy K R m fs n)):=by
 obtain ⟨R,hG,S⟩:=h;refine ⟨R,hG,S.perm (List.perm_iff_count.2 λa=>?_)⟩;have h1:=List.perm_iff_count.1 (vC (λj=>kg K j (m.ah j) (R.nx j)) hn) a;unfold kY gy lT;simp only [List.count_append] at h1⊢;omega
theorem acd (hs: ∀ j,j<5->j≠n->m'.ah j=m.ah j/\R'.nx j=R.nx j):lT K R' m' n=lT K R m n:=by
 unfold lT;rw [List.flatMap_def,List.flatMap_def]
 congr 1
 refine List.map_congr_left λj hj=>?_;rw [List.mem_filter,List.mem_range] at hj;obtain ⟨h1,h2⟩:=hs j hj.1 (by simpa using hj.2);rw [h1,h2]
open Classical in
theorem Wd.close {Ls:List Fact} (G:Good K R' m' H') (S:St B w0 w' (kg K n (m'.ah n) (R'.nx n)++(uM K R' m'++(Ls++(gy K R m fs n++N))))) (hn:n<5) (hL:R'.L=R.L++(N++Ls)) (hs: ∀ j,j<5->j≠n->m'.ah j=m.ah j/\R'.nx j=R.nx j):Wd K B w0 w' fs m' H':=by
 refine ⟨R',G,S.perm (List.perm_iff_count.2 λa=>?_)⟩;have h1:=List.perm_iff_count.1 (vC (λj=>kg K j (m'.ah j) (R'.nx j)) hn) a;unfold gy kY;rw [hL,<-acd hs];unfold lT;simp only [List.count_append] at h1⊢;omega
theorem memT {L gs fs:List Fact} (k:Nat) (h:gs.drop k=fs) (hL: ∀ f∈L,f∈fs): ∀ f∈L,f∈gs:=λf hf=>List.mem_of_mem_drop (h▸hL f hf)
theorem WX {L fs N:List Fact} (hL: ∀ f∈L,f∈fs): ∀ f∈L++N,f∈fs++N:=λf hf=>(List.mem_append.1 hf).elim (λh=>List.mem_append_left _ (hL f h)) (λh=>List.mem_append_right _ h)
theorem dX {fs:List Fact}: ∀ f∈fs,f∈fs:=λ_ h=>h
theorem ae6 {L N:List Fact} {x:Fact}:x∈L++(N++[x]):=by simp
theorem St.toEnd {f:Fact} (i:Nat) (S:St B w0 w fs) (hi:fs[i]? =some f):St B w0 w (fs.eraseIdx i++[f]):=(S.bring i hi).perm (List.perm_append_comm (l₁:=[f]) (l₂:=fs.eraseIdx i))
theorem St.Rv {a b c d e f g:Fact} (S:St B w0 w (a::b::c::d::e::f::g::(fs++N))):St B w0 w (a::b::c::d::e::f::g::fs):=
 S.sub (((((((List.sublist_append_left fs N).cons_cons g).cons_cons f).cons_cons e).cons_cons d).cons_cons c).cons_cons b |>.cons_cons a)
theorem Ro.blk {L:List Fact} {b n s:Nat} {row:Array Value} {t:TypeId} {xs:List Value} (h:Fact.blk b row t∈L) (hx:row.toList=xs) (hl:xs.length=n*s):Ro L s (some ⟨b,0,none⟩) n xs:=λ_ _ hw=>
 ⟨hl,λ_=>⟨b,0,rfl,(hw _ h).2.lt,λj u hu=>by
  rw [Nat.zero_add];exact (hw _ h).2.cell (by rw [<-hx] at hu;simpa using hu)⟩⟩
end
end
section
open ChangeShapes WideShapes RowKit
abbrev oL (a:Option Addr) (l:List LX) (c:Nat):Fact:= .own 140 23 (.slice a l.length c) l.length (l.flatMap LX.cells)
abbrev oS (a:Option Addr) (l:List fD) (c:Nat):Fact:= .own 69 14 (.slice a l.length c) l.length (l.flatMap fD.cells)
abbrev oT (a:Option Addr) (l:List xk) (c:Nat):Fact:= .own 138 7 (.slice a l.length c) l.length (l.flatMap xk.cells)
abbrev oB (b:Nat) (l:List BX):Fact:= .own 57 6 (.slice (some ⟨b,0,none⟩) 4 4) 4 (l.flatMap BX.cells)
abbrev fL (a:Option Addr) (l:List LX) (c:Nat):Fact:= .off 140 23 a l.length c (l.flatMap LX.cells)
abbrev bW (k:Nat) (n:Value) (d:Dir) (fA:Option Addr) (fx:List LX) (fc:Nat) (sh:Nat->Nat->Int×Int) (sA:Option Addr) (sr:List fD) (sc:Nat) (tA:Option Addr) (tl:List xk) (tc cs:Nat):Fact:= .blk k (kS n d (.slice fA fx.length fc) sh (.slice sA sr.length sc) (.slice tA tl.length tc) cs) 105
abbrev bN (k n:Nat) (u:Bool) (tA:Option Addr) (dd:List UInt8) (tc:Nat) (sy:Int) (b:Nat) (H:Nat->Pl) (U:Nat->Bool) (iA:Option Addr) (ix:List LX) (ic:Nat) (pv:Value) (tn:Nat):Fact:= .blk k (dI n u (.slice tA dd.length tc) sy (.slice (some ⟨b,0,none⟩) 4 4) H U (.slice iA ix.length ic) pv tn) 113
abbrev wF (k:Nat) (n:Value) (d:Dir) (fA:Option Addr) (fx:List LX) (fc:Nat) (sh:Nat->Nat->Int×Int) (sA:Option Addr) (sr:List fD) (sc:Nat) (tA:Option Addr) (tl:List xk) (tc cs:Nat) (r:List Fact):List Fact:=bW k n d fA fx fc sh sA sr sc tA tl tc cs::oL fA fx fc::oS sA sr sc::oT tA tl tc::r
abbrev nF (k n:Nat) (u:Bool) (tA:Option Addr) (dd:List UInt8) (tc:Nat) (sy:Int) (b:Nat) (H:Nat->Pl) (U:Nat->Bool) (iA:Option Addr) (ix:List LX) (ic:Nat) (pv:Value) (tn:Nat) (bs:List BX) (r:List Fact):List Fact:=bN k n u tA dd tc sy b H U iA ix ic pv tn::oB b bs::fL iA ix ic::r
abbrev cF (k:Nat) (R:CX) (m:Cl) (r:List Fact):List Fact:=wF k (.slice R.nA 5 R.nc) m.off R.fA R.fx R.fc m.shown R.sA m.aQ R.sc R.tA m.bH R.tc m.calls r
abbrev cN (k n:Nat) (X:Nd) (z:NX) (pv:Value) (r:List Fact):List Fact:=nF k n X.up z.tA X.data z.tc X.syn z.bb X.hints X.sure z.iA z.ix z.ic pv X.turn z.bx r
theorem WY {x:LX}: ∀ (j:Nat) (u:Value),[Value.int .i64 x.l.op.kind,iV x.l.op.producer,iV x.l.op.id,iV x.l.op.body,iV x.l.op.aG,iV x.l.op.hno][j]? =some u->(LX.row x)[7+j]? =some u:=by
 intro j u h;have hj:j<6:=(List.getElem?_eq_some_iff.1 h).1;have:j=0\/j=1\/j=2\/j=3\/j=4\/j=5:=oQ
 rcases this with rfl | rfl | rfl | rfl | rfl | rfl<;>exact h
theorem arL {x:LX}: ∀ (j:Nat) (u:Value),[Value.int .i64 x.l.bH.num,iV x.l.bH.ans.code,iV x.l.bH.ans.eF,iV x.l.bH.ans.hno,iV x.l.bH.ans.body,iV x.l.bH.pl.node,iV x.l.bH.pl.epoch][j]? =some u->(LX.row x)[16+j]? =some u:=by
 intro j u h;have hj:j<7:=(List.getElem?_eq_some_iff.1 h).1;have:j=0\/j=1\/j=2\/j=3\/j=4\/j=5\/j=6:=oQ
 rcases this with rfl | rfl | rfl | rfl | rfl | rfl | rfl<;>exact h
theorem sw {me turn:Nat} {up:Bool} {tv bv iv pv:Value} {syn:Int} {H:Nat->Pl} {U:Nat->Bool}: ∀ (j:Nat) (u:Value),[tv,iV syn][j]? =some u->(dI me up tv syn bv H U iv pv turn)[2+j]? =some u:=by
 intro j u h;have hj:j<2:=(List.getElem?_eq_some_iff.1 h).1;have:j=0\/j=1:=oQ
 rcases this with rfl | rfl<;>exact h
theorem vS (d:Dir): ∀ u∈d.cells.toArray.toList,u.oneCell'=true:=bM rfl
theorem alm {me turn q:Nat} {up:Bool} {tv bv iv pv:Value} {syn:Int} {H:Nat->Pl} {U:Nat->Bool} (hq:q<4): ∀ (j:Nat) (u:Value),[Value.int .i64 (H q).node,iV (H q).epoch][j]? =some u->(dI me up tv syn bv H U iv pv turn)[5+q*2+j]? =some u:=by
 intro j u h;have hj:j<2:=(List.getElem?_eq_some_iff.1 h).1;have:j=0\/j=1:=oQ
 rcases this with rfl | rfl
 ·rw [Nat.add_zero,(Ql hq).1];exact h
 rw [(Ql hq).2];exact h
theorem arM {bs:List BX} {q c:Nat} {y:BX} {A:Option Addr} {evs:List Ev} (hy:bs[q]? =some y):sH (bs.flatMap BX.cells) (0+q*6+5) [.slice A evs.length c]=(bs.set q ⟨{ y.b with evs:=evs },A,c⟩).flatMap BX.cells:=by
 obtain ⟨hl,he⟩:=List.getElem?_eq_some_iff.1 hy;rw [<-qA (enc:=BX.cells) (sz:=6) (λ_=>rfl) ⟨{ y.b with evs:=evs },A,c⟩ q bs hl,Nat.zero_add];have hg: ∀ j u,(BX.cells y)[j]? =some u->(bs.flatMap BX.cells)[q*6+j]? =some u:=λj u h=>aW (enc:=BX.cells) (sz:=6) (λ_=>rfl) hy h;simp only [sH,BX.cells];have e: ∀ (l:List Value) (k:Nat) (u:Value),l[k]? =some u->l.set k u=l:=λl k u h=>by
  obtain ⟨h1,h2⟩:=List.getElem?_eq_some_iff.1 h;subst h2;exact List.set_getElem_self h1
 rw [e _ (q*6) _ (hg 0 _ rfl),e _ (q*6+1) _ (hg 1 _ rfl),e _ (q*6+1+1) _ (hg 2 _ rfl),e _ (q*6+1+1+1) _ (hg 3 _ rfl),e _ (q*6+1+1+1+1) _ (hg 4 _ rfl)]
theorem jh (k:Int) (q:Nat) (y:BX) (w:World):
    Calls tP 62 #[iV k,iV ((q:Nat):Int),.agg (bR y.b y.A y.c)] w (λe w'=>e= .returned (.agg (dD.cells (fG k q y.b.ep 0 aO)).toArray)/\Below w.heap.size w w'):=by
 have S:=St.start w;refine gu 12 Tryz.func62 ?_;refine cw [0,1,2] ?_;refine zN 2 ?_;refine iH S ?_;intro b1 w2 S3;refine gq S3 xE ?_;intro b4 w5 S6;refine zN 8 ?_;refine vv (v:= .agg #[iV k,iV ((q:Nat):Int),iV y.b.ep,iV 0,iV 0,iV 0,iV 0,iV 0,iV 0,iV 0]) gD ?_;refine sa 0 S6 kQ ?_;intro w7 S8;refine zN 4 ?_;exact ⟨rfl,S8.low⟩
theorem gV {B kw calls fc sc tc:Nat} {fA sA tA:Option Addr} {nv:Value} {d:Dir} {sh:Nat->Nat->Int×Int} {fx:List LX} {aQ:List fD} {tl:List xk} {w0 w:World} {fs:List Fact} {x:LX} (S:St B w0 w ((.blk kw (kS (nv) d (.slice fA fx.length fc) sh (.slice sA aQ.length sc) (.slice tA tl.length tc) calls) 105)::(.own 140 23 (.slice fA fx.length fc) fx.length ((fx).flatMap LX.cells))::fs)) (hb:(fx.length+1)*200<=140737488355328):
    Calls tP 40 #[pV kw 0,.agg (LX.row x)] w (λe w'=>e= .returned (.tuple #[])/\ ∃ A' c' qL,qL=fx++[x]/\St B w0 w' ((.blk kw (kS (nv) d (.slice A' qL.length c') sh (.slice sA aQ.length sc) (.slice tA tl.length tc) calls) 105)::(.own 140 23 (.slice A' qL.length c') qL.length ((qL).flatMap LX.cells))::fs)):=by
 refine gu 14 Tryz.func40 ?_;refine cw [0,1] ?_;refine zN 2 ?_;refine iH S ?_;intro b1 w2 S3;refine zN 2 ?_;have S4:=S3.drew;refine fC 11 8 S4 [2] ?_;iterate 4 refine gU ?_
 refine gk (v:= .slice fA fx.length fc) 4 rfl (St.del 2 S4) (λ_ Sx9=>(aj rfl rfl (aC (St.cl 1 Sx9 rfl Sk)))) ?_;refine gU ?_;refine fq (m:=4) (r:=6) kQ ?_;refine mo (i:=6) rfl rfl (V:=λb=> .slice (aD b 0) 1 1) (row:=LX.row x) (t:=140) S4 (wn rfl) rfl rfl (aS (vs:=[(0,.agg (LX.row x))]) rfl xU kQ) ?_;intro b11 ZC uZ;refine gU ?_;refine fq (m:=3) (r:=7) kQ ?_;refine kN (i:=7) rfl rfl (news:=(LX.cells x)) (xs':=(fx++[x]).flatMap LX.cells) 3 uZ (wn rfl) rfl rfl rfl rfl rfl rfl (St.lD (xs:=(LX.cells x)) 0 uZ rfl rfl rfl) Tryz.underlying99 Ze rfl dQ (EG _) lQ oQ (iU (enc:=LX.cells) rfl rfl) ?_;intro A14 c15 w16 hc18 aKm kP;refine gU ?_;refine eU kQ rfl rfl rfl ?_;refine zN 2 ?_;refine jD 2 kP kQ ?_ (hs:=by exact aoA);intro ZF tZ;refine zQ ?_;refine iY ?_;refine bQ (l':=[]) trivial (aV (rs:=[]) (vs:=[]) rfl trivial ?_);have iX:=tZ.aP [1,0];refine ⟨rfl,A14,c15,fx++[x],rfl,?_⟩;rw [List.length_append];exact iX
theorem nE {B kn kw bb n turn calls dc ic fc sc tc:Nat} {up:Bool} {dA iA fA sA tA:Option Addr} {data:List UInt8} {syn:Int} {Hh:Nat->Pl} {Us:Nat->Bool} {pv nv:Value} {d:Dir} {sh:Nat->Nat->Int×Int} {bs:List BX} {ix fx:List LX} {aQ:List fD} {tl:List xk} {w0 w:World} {fs:List Fact} {q:Nat} (hn:n<5) (hq:q<4) {y:BX} (hy:bs[q]? =some y) (e:Ev) (a:iM) (num:Int) (S:St B w0 w ((.blk kn (dI n up (.slice dA data.length dc) syn (.slice (aD bb 0) 4 4) Hh Us (.slice iA ix.length ic) (pv) turn) 113)::(.own 57 6 (.slice (aD bb 0) 4 4) 4 ((bs).flatMap BX.cells))::(.off 140 23 iA ix.length ic ((ix).flatMap LX.cells))::(.blk kw (kS (nv) d (.slice fA fx.length fc) sh (.slice sA aQ.length sc) (.slice tA tl.length tc) calls) 105)::(.own 140 23 (.slice fA fx.length fc) fx.length ((fx).flatMap LX.cells))::(.own 69 14 (.slice sA aQ.length sc) aQ.length ((aQ).flatMap fD.cells))::(.own 138 7 (.slice tA tl.length tc) tl.length ((tl).flatMap xk.cells))::fs)) (hb:(aQ.length+1)*112<=140737488355328):
    Calls tP 73 #[pV kw 0,pV kn 0,iV ((q:Nat):Int),.agg #[iV e.kind,iV e.producer,iV e.id,iV e.body,iV e.aG,iV e.hno],.agg #[iV a.code,iV a.eF,iV a.hno,iV a.body],iV num] w (λe' w'=>e'= .returned (.tuple #[])/\ ∃ A' c' Cu,Cu=aQ++[(⟨n,q,y.b.ep,e,a,num⟩:fD)]/\St B w0 w' ((.blk kn (dI n up (.slice dA data.length dc) syn (.slice (aD bb 0) 4 4) Hh Us (.slice iA ix.length ic) (pv) turn) 113)::(.own 57 6 (.slice (aD bb 0) 4 4) 4 ((bs).flatMap BX.cells))::(.off 140 23 iA ix.length ic ((ix).flatMap LX.cells))::(.blk kw (kS (nv) d (.slice fA fx.length fc) (iy sh n q (y.b.ep,(y.b.evs.length:Int))) (.slice A' Cu.length c') (.slice tA tl.length tc) calls) 105)::(.own 140 23 (.slice fA fx.length fc) fx.length ((fx).flatMap LX.cells))::(.own 69 14 (.slice A' Cu.length c') Cu.length ((Cu).flatMap fD.cells))::(.own 138 7 (.slice tA tl.length tc) tl.length ((tl).flatMap xk.cells))::fs)):=by
 have hlen:=(S.own 1 rfl).1;rw [gL (sz:=6) (λ_=>rfl)] at hlen;refine gu 68 Tryz.func73 ?_;refine cw [0,1,2,3,4,5] ?_;refine zN 2 ?_;refine iH S ?_;intro b1 w2 S3;refine iH S3 ?_;intro b4 w5 S6;refine zN 3 ?_;have S7:=S6.drew;refine fC 29 25 S7 [7] ?_;iterate 5 refine gU ?_
 refine gk (v:= .slice sA aQ.length sc) 5 rfl (St.del 7 S7) (λ_ Sb=>(aj rfl rfl (aC (St.cl 5 Sb rfl awI)))) ?_;iterate 10 refine gU ?_
 refine gk 16 rfl (St.del 7 S7) (λ_ _=>jf q) ?_;refine gU ?_;refine gk (v:=iV y.b.ep) 18 rfl (St.del 7 S7) (λ_ abe=>(aj rfl rfl (aC (Rd.KU (i:=1) (St.ord 3 abe rfl) (aW (enc:=BX.cells) (sz:=6) (λ_=>rfl) hy rfl))))) ?_;iterate 3 refine gU ?_
 refine gk (v:= .agg #[iV ((n:Nat):Int),iV ((q:Nat):Int),iV y.b.ep,iV e.kind,iV e.producer,iV e.id,iV e.body,iV e.aG,iV e.hno,iV a.code,iV a.eF,iV a.hno,iV a.body,iV num]) 22 rfl (St.del 7 S7) (λ_ _=>gD) ?_;refine fq (m:=5) (r:=23) kQ ?_;refine mo (i:=23) rfl rfl (V:=λb=> .slice (aD b 0) 1 1) (row:= #[iV ((n:Nat):Int),iV ((q:Nat):Int),iV y.b.ep,iV e.kind,iV e.producer,iV e.id,iV e.body,iV e.aG,iV e.hno,iV a.code,iV a.eF,iV a.hno,iV a.body,iV num]) (t:=69) S7 (wn rfl) rfl rfl (aS (vs:=[(0,.agg #[iV ((n:Nat):Int),iV ((q:Nat):Int),iV y.b.ep,iV e.kind,iV e.producer,iV e.id,iV e.body,iV e.aG,iV e.hno,iV a.code,iV a.eF,iV a.hno,iV a.body,iV num])]) rfl xU kQ) ?_;intro b31 w32 rW;refine gU ?_;refine fq (m:=4) (r:=24) kQ ?_;refine kN (i:=24) rfl rfl (news:=[iV ((n:Nat):Int),iV ((q:Nat):Int),iV y.b.ep,iV e.kind,iV e.producer,iV e.id,iV e.body,iV e.aG,iV e.hno,iV a.code,iV a.eF,iV a.hno,iV a.body,iV num]) (xs':=(aQ++[(⟨n,q,y.b.ep,e,a,num⟩:fD)]).flatMap fD.cells) 8 rW (wn rfl) rfl rfl rfl rfl rfl rfl (St.lD (xs:=[iV ((n:Nat):Int),iV ((q:Nat):Int),iV y.b.ep,iV e.kind,iV e.producer,iV e.id,iV e.body,iV e.aG,iV e.hno,iV a.code,iV a.eF,iV a.hno,iV a.body,iV num]) 0 rW rfl rfl rfl) Tryz.underlying32 aer rfl dQ (bM rfl) lQ oQ (iU (enc:=fD.cells) rfl rfl) ?_;intro A34 c35 w36 hc38 aBD qz;refine gU ?_;refine eU kQ rfl rfl rfl ?_;refine zN 3 ?_;refine jD 6 qz kQ ?_ (hs:=by exact awK);intro w40 JL;refine zQ ?_;refine iY ?_;refine zQ ?_;have wo:=JL.drew;refine aN 29 wo [6] ?_;refine aL 11 ?_;refine ak 11 rfl (St.del 6 wo) (λ_ _=>jf q) ?_;refine cO ?_;refine ak (v:=iV y.b.ep) 13 rfl (St.del 6 wo) (λ_ ace=>(aj rfl rfl (aC (Rd.KU (i:=1) (St.ord 4 ace rfl) (aW (enc:=BX.cells) (sz:=6) (λ_=>rfl) hy rfl))))) ?_;refine aL 5 ?_;refine ak 19 rfl (St.del 6 wo) (λ_ _=>jf q) ?_;refine cO ?_;refine ak (v:= .slice y.A y.b.evs.length y.c) 21 rfl (St.del 6 wo) (λ_ aaZ=>(aj rfl rfl (aC (Rd.KU (i:=5) (St.ord 4 aaZ rfl) (aW (enc:=BX.cells) (sz:=6) (λ_=>rfl) hy rfl))))) ?_;refine cO ?_;refine ak (v:= .agg #[iV y.b.ep,iV ((y.b.evs.length:Nat):Int)]) 23 rfl (St.del 6 wo) (λ_ _=>gD) ?_;refine aL 2 ?_;refine ak (v:=pV kw (10+n*8)) 26 rfl (St.del 6 wo) (λ_ _=>(aR rfl rfl rfl (fH n Tryz.underlying103 kQ rfl hn))) ?_;refine ak (v:=pV kw (10+n*8+q*2)) 27 rfl (St.del 6 wo) (λ_ _=>(aR rfl rfl rfl (fH q Tryz.underlying102 kQ rfl hq))) ?_;refine aU 28 ?_;refine uw (i:=28) rfl rfl (cs:= #[iV y.b.ep,iV ((y.b.evs.length:Nat):Int)]) (row':=kS (nv) d (.slice fA fx.length fc) (iy sh n q (y.b.ep,((y.b.evs.length:Nat):Int))) (.slice A34 (aQ.length+1) c35) (.slice tA tl.length tc) calls) (fs':=(_::_::_::_::_::_::(.blk kw (kS (nv) d (.slice fA fx.length fc) (iy sh n q (y.b.ep,((y.b.evs.length:Nat):Int))) (.slice A34 (aQ.length+1) c35) (.slice tA tl.length tc) calls) 105)::_::_::_::fs)) 6 wo (wn rfl) rfl rfl rfl rfl rfl rfl VF rfl (bM rfl) (by rw [ae4];omega) (am0 hn hq (a:=y.b.ep) (b:=((y.b.evs.length:Nat):Int))) rfl ?_;intro w71 Bb;refine aL 2 ?_;refine bQ (l':=[]) trivial (aV (rs:=[]) (vs:=[]) rfl trivial ?_)
 have tY:=Bb.aP [2,1,0];refine ⟨rfl,A34,c35,aQ++[(⟨n,q,y.b.ep,e,a,num⟩:fD)],rfl,?_⟩;rw [List.length_append];exact tY
theorem zA {B kn kw bb n turn calls dc ic fc sc tc:Nat} {up:Bool} {dA iA fA sA tA:Option Addr} {data:List UInt8} {syn:Int} {Hh:Nat->Pl} {Us:Nat->Bool} {pv nv:Value} {d:Dir} {sh:Nat->Nat->Int×Int} {bs:List BX} {ix fx:List LX} {aQ:List fD} {tl:List xk} {w0 w:World} {fs:List Fact} {q:Nat} (hn:n<5) (hq:q<4) {y:BX} (hy:bs[q]? =some y) (S:St B w0 w (nF kn n up dA data dc syn bb Hh Us iA ix ic pv turn bs (wF kw nv d fA fx fc sh sA aQ sc tA tl tc calls fs))) (hb:(fx.length+1)*200<=140737488355328):
    Calls Tryz.prog 120 #[pV kw 0,pV kn 0,iV ((q:Nat):Int)] w (λe w'=>e= .returned (.tuple #[])/\ ∃ A' c' qL,qL=fx++[⟨oC n q y.b,none,0⟩]/\St B w0 w' (nF kn n up dA data dc syn bb Hh Us iA ix ic pv turn bs (wF kw nv d A' qL c' sh sA aQ sc tA tl tc calls fs))):=by
 have hlen:=(S.own 1 rfl).1;rw [gL (sz:=6) (λ_=>rfl)] at hlen;refine gu 29 Tryz.func120 ?_;refine cw [0,1,2] ?_;refine zN 7 ?_;refine vv (jf q) ?_;refine vv (aj rfl rfl (cZ (cs:=BX.cells y) (Rd.uq (St.ord 1 S rfl) (λ_ _ h=>aW (enc:=BX.cells) (sz:=6) (λ_=>rfl) hy h)))) ?_;refine gq S fP ?_;intro b1 w2 S3;refine sa 0 S3 kQ ?_;intro w4 S5;refine zN 2 ?_;have S6:=S5.eG [5,5];have S7:=S6.drew;refine aN 15 S7 [1,0] ?_;refine aL 13 ?_;refine ak (v:= .agg #[iV 3,iV ((n:Nat):Int),iV y.b.fr,iV ((q:Nat):Int),iV y.b.ep,iV ((y.b.evs.length:Nat):Int),iV 0,iV 0,iV 0,iV 0,iV 0,iV 0,iV 0,.slice none 0 0,.bool false,iV 0,iV 0,iV 0,iV 0,iV 0,iV 0,iV 0,iV 0]) 13 rfl (S7.pX [1,0]) (λ_ _=>gD) ?_;refine aU 14 ?_;refine jI 14 rfl eQ (gV (x:=⟨oC n q y.b,none,0⟩) S7 oQ) ?_;rintro _ Om ⟨rfl,A22,c23,aBE,aBF,tX⟩;refine ⟨_,rfl,?_⟩;refine aL 2 ?_;refine bQ (l':=[]) trivial (aV (rs:=[]) (vs:=[]) rfl trivial ?_);have qy:=tX.aP [2];have qH:=qy.eG [6,6,3,3,6,6,6];exact ⟨rfl,A22,c23,aBE,aBF,qH⟩
noncomputable def kZ (n q:Nat) (b:bn) (at_:Int) (fl:List dK):List dK:=if (iK b at_).2.2≠0 then fl else fl++[II n q b at_]
theorem aBG {B:Nat} {w0 w:World} {a b c d e f g x:Fact} {fs:List Fact} (S:St B w0 w (a::b::c::d::e::f::g::x::fs)):St B w0 w (a::b::c::d::e::f::g::(fs++[x])):=
 S.perm (List.Perm.cons _ (List.Perm.cons _ (List.Perm.cons _ (List.Perm.cons _ (List.Perm.cons _ (List.Perm.cons _ (List.Perm.cons _ (List.perm_append_comm (l₁:=[x]) (l₂:=fs)))))))))
theorem LG {B kn kw bb n turn calls dc ic fc sc tc:Nat} {up:Bool} {dA iA fA sA tA:Option Addr} {data:List UInt8} {syn:Int} {Hh:Nat->Pl} {Us:Nat->Bool} {pv nv:Value} {d:Dir} {sh:Nat->Nat->Int×Int} {bs:List BX} {ix fx:List LX} {aQ:List fD} {tl:List xk} {w0 w:World} {fs:List Fact} {q:Nat} {L:List Fact} (hn:n<5) (hq:q<4) {y:BX} (hy:bs[q]? =some y) (at_:Int) (hev:Ct L y) (hL: ∀ f∈L,f∈fs) (aoC:y.b.evs.length*48<=reachBytes) (eF: -2<=y.b.ep/\y.b.ep<=2000000) (S:St B w0 w (nF kn n up dA data dc syn bb Hh Us iA ix ic pv turn bs (wF kw nv d fA fx fc sh sA aQ sc tA tl tc calls fs))) (hb:(fx.length+1)*200<=140737488355328):
    Calls Tryz.prog 123 #[pV kw 0,pV kn 0,iV ((q:Nat):Int),iV at_] w (λe w'=>e= .returned (.tuple #[])/\ ∃ (A':Option Addr) (c':Nat) (qL:List LX) (N:List Fact),qL.map LX.l=kZ n q y.b at_ (fx.map LX.l)/\(∀ x∈qL,x∈fx\/Rt N x)/\St B w0 w' (nF kn n up dA data dc syn bb Hh Us iA ix ic pv turn bs (wF kw nv d A' qL c' sh sA aQ sc tA tl tc calls (fs++N)))):=by
 have hlen:=(S.own 1 rfl).1;rw [gL (sz:=6) (λ_=>rfl)] at hlen;refine gu 44 Tryz.func123 ?_;refine cw [0,1,2,3] ?_;refine zN 7 ?_;refine vv (jf q) ?_;refine vv (aj rfl rfl (cZ (cs:=BX.cells y) (Rd.uq (St.ord 1 S rfl) (λ_ _ h=>aW (enc:=BX.cells) (sz:=6) (λ_=>rfl) hy h)))) ?_;refine gq S fP ?_;intro b1 w2 S3;refine sa 0 S3 kQ ?_;intro w4 S5;refine zN 6 ?_;refine dF eQ ((show Calls _ _ _ _ (Tc _ (iK y.b at_)) from Yk y.b.role y.b.ep y.b.fr y.b.tg y.b.rd y.A y.c y.b.evs at_ hev.2 _ (hev.1.rd S5 (memT 8 rfl hL)) aoC)) ?_;rintro _ w9 ⟨A6,c7,aBH,rfl,T11⟩;refine ⟨_,rfl,?_⟩;have qx:=S5.ext T11 rfl;refine zN 13 ?_;by_cases h12:(iK y.b at_).2.2=0
 ·refine zN 6 ?_;have uZ:=qx.eG [6,6];have kD:=uZ.drew;refine aN 16 kD [1,0] ?_;refine aL 10 ?_;refine ak (v:=iV (y.b.ep+1)) 10 rfl (kD.pX [1,0]) (λ_ _=>fJ) ?_;refine aL 3 ?_;refine ak (v:= .agg #[iV 4,iV ((n:Nat):Int),iV y.b.tg,iV ((q:Nat):Int),iV (y.b.ep+1),iV at_,iV 0,iV 0,iV 0,iV 0,iV 0,iV 0,iV 0,.slice A6 ((iK y.b at_).1.length) c7,.bool ((iK y.b at_).2.1),iV 0,iV 0,iV 0,iV 0,iV 0,iV 0,iV 0,iV 0]) 14 rfl (kD.pX [1,0]) (λ_ _=>gD) ?_;refine aU 15 ?_;refine jI 15 rfl eQ (gV (x:=⟨II n q y.b at_,A6,c7⟩) kD oQ) ?_;rintro _ w34 ⟨rfl,om,c31,aBI,auy,uf⟩;refine ⟨_,rfl,?_⟩;refine aL 2 ?_;refine bQ (l':=[]) trivial (aV (rs:=[]) (vs:=[]) rfl trivial ?_);have nQ:=uf.aP [3];have qz:=nQ.eG [7,7,3,3,7,7,7];refine ⟨rfl,om,c31,aBI,[.bJ 6 A6 ((iK y.b at_).1.length) (((iK y.b at_).1).flatMap Ev.cells)],?_,?_,?_⟩
  · rw [kZ,if_neg (λh=>h h12),auy,List.map_append];rfl
  · intro x hx;rw [auy] at hx;rcases List.mem_append.1 hx with hx | hx;exact .inl hx;rw [List.mem_singleton] at hx;subst hx;exact .inr ⟨Ro.bJ (List.mem_singleton.2 rfl),aBH⟩
  · exact aBG qz
 refine zN 7 ?_;have qJ:=qx.aP [1];have Ck:=qJ.eG [7,7,7,7,7,7,7];have rY:=Ck.aP [7];refine ⟨rfl,fA,fc,fx,[],?_,?_,?_⟩
 · rw [kZ,if_pos h12]
 · exact λx hx=> .inl hx
 · rw [List.append_nil];exact rY
def aBJ (w:World) (r:List UInt8×Int×Int) (e:Ending) (w':World):Prop:=
 ∃ A c,e= .returned (.tuple #[.agg #[.slice A r.1.length c,iV r.2.1],iV r.2.2])/\St w.heap.size w w' [.bJ 1 A r.1.length (byteCells r.1)]
theorem BM {P:Program} {f:FuncId} {vs:Array Value} {w:World} {r:List UInt8×Int×Int} (h:Calls P f vs w (rV w r)):Calls P f vs w (aBJ w r):=h.mono λe w' ⟨A,c,h1,h2,h3,h4⟩=>
 ⟨A,c,h1,((St.start w).on h2).cons ⟨h3,h4⟩ λk _ i g hg=>by simp at hg⟩
theorem Jp {d:List UInt8} {s:Int} {rs:List dD} {k:Nat} {r:dD} (hk:rs[k]? =some r):eZ d s (rs.drop k)=if (iT d s r).2.2≠0 then none else eZ (iT d s r).1 s (rs.drop (k+1)):=by rw [drop_cons hk,eZ]
theorem ae7 {d:List UInt8} {s:Int} {r:dD} (h:(iT d s r).2.2=0):(iT d s r).2.1=s:=by rw [(OH h).1]
theorem pJ {B kn kw bb n turn calls dc ic fc sc tc:Nat} {up:Bool} {dA iA fA sA tA:Option Addr} {data:List UInt8} {syn:Int} {Hh:Nat->Pl} {Us:Nat->Bool} {pv nv:Value} {d:Dir} {sh:Nat->Nat->Int×Int} {bs:List BX} {ix fx:List LX} {aQ:List fD} {tl:List xk} {w0 w:World} {fs:List Fact} {L:List Fact} {rs:List dD} {RA:Option Addr} {rc:Nat} (hrs:Ro fs 10 RA rs.length (rs.flatMap dD.cells)) (htp:Ro L 1 dA data.length (byteCells data)) (hL: ∀ f∈L,f∈fs) (hrl:rs.length<=1000000) (S:St B w0 w (nF kn n up dA data dc syn bb Hh Us iA ix ic pv turn bs (wF kw nv d fA fx fc sh sA aQ sc tA tl tc calls fs))):
    Calls Tryz.prog 61 #[pV kn 0,.slice RA rs.length rc] w (λe w'=>(eZ data syn rs=none/\e= .returned (.bool false)/\St B w0 w' (nF kn n up dA data dc syn bb Hh Us iA ix ic pv turn bs (wF kw nv d fA fx fc sh sA aQ sc tA tl tc calls fs)))\/ ∃ d' A' c' N,eZ data syn rs=some d'/\e= .returned (.bool true)/\Ro (L++N) 1 A' d'.length (byteCells d')/\St B w0 w' (nF kn n up A' d' c' syn bb Hh Us iA ix ic pv turn bs (wF kw nv d fA fx fc sh sA aQ sc tA tl tc calls (fs++N)))):=by
 refine gu 34 Tryz.func61 ?_;refine cw [0,1] ?_;refine zN 10 ?_;refine vv (aj rfl rfl (cZ (cs:=[.slice dA data.length dc,iV syn]) (St.rg 0 S rfl (sw)))) ?_;refine gq S zI ?_;intro b1 w2 S3;refine sa 0 S3 kQ ?_;intro w4 S5;refine zN 11 ?_;refine dN (X:=Nat×(Option Addr)×Nat×(List UInt8)×(List Fact)) (λxv=>[(0,pV kn 0),(5,pV b1 0),(14,.slice RA rs.length rc),(15,iV ((rs.length:Nat):Int)),(16,iV ((xv.1:Nat):Int))]) (λxv wr=>(xv.1<=rs.length)/\(eZ data syn rs=eZ xv.2.2.2.1 syn (rs.drop xv.1))/\(Ro (L++xv.2.2.2.2) 1 xv.2.1 xv.2.2.2.1.length (byteCells xv.2.2.2.1))/\St B w0 wr ((.blk b1 #[.slice xv.2.1 xv.2.2.2.1.length xv.2.2.1,iV syn] 109)::(nF kn n up dA data dc syn bb Hh Us iA ix ic pv turn bs (wF kw nv d fA fx fc sh sA aQ sc tA tl tc calls (fs++xv.2.2.2.2))))) (λxv=>rs.length-xv.1) (0,dA,dc,data,[]) ?_ ?_ ?_
 ·exact ⟨Nat.zero_le _,rfl,by rw [List.append_nil];exact htp,by rw [List.append_nil];exact S5⟩
 ·exact vJ
 rintro ⟨k,A1,c1,d1,N1⟩ w6 ⟨G6,hi9,oz,S7⟩
 try dsimp only at G6 hi9 oz S7
 refine aZ (l':=[(0,pV kn 0),(5,pV b1 0),(14,.slice RA rs.length rc),(15,iV ((rs.length:Nat):Int)),(16,iV ((k:Nat):Int))]) vJ (aH (ay ?_));by_cases h11:((k:Nat):Int)< ((rs.length:Nat):Int)
 ·refine zN 10 ?_;obtain ⟨x,hx⟩: ∃ x,rs[k]? =some x:=⟨_,List.getElem?_eq_getElem oQ⟩;refine zQ ?_;obtain ⟨rb,ro,hra,_,hrc⟩:=(hrs.rd S7 (memT 8 rfl (λf hf=>List.mem_append_left _ hf))).2 oQ;subst hra;refine vv (jf k) ?_;refine vv (v:= .agg #[iV x.kind,iV x.queue,iV x.epoch,iV x.peer,iV x.ev.kind,iV x.ev.producer,iV x.ev.id,iV x.ev.body,iV x.ev.aG,iV x.ev.hno]) (aj rfl rfl (cZ (cs:=dD.cells x) (λj u hu=>by rw [Nat.add_assoc];exact hrc (k*10+j) u (aW (enc:=dD.cells) (sz:=10) (λ_=>rfl) hx hu)))) ?_;refine gq S7 xE ?_;intro b12 Ey kD;refine stA 0 kD kQ ?_;intro JV lV;refine zN 6 ?_;refine dF eQ (BM (Ii A1 d1.length c1 d1 syn x _ (oz.rd lV (memT 9 rfl (WX hL))))) ?_;rintro _ FX ⟨M6,c18,rfl,T21⟩;refine ⟨_,rfl,?_⟩;have mM:=lV.ext T21 rfl;refine zN 3 ?_;refine gq mM zI ?_;intro Ta H9 iP;refine stA 0 iP kQ ?_;intro w25 l6;refine zN 7 ?_;by_cases h27:(iT d1 syn x).2.2=0
  ·have hsy:=ae7 h27;rw [hsy] at l6;refine zN 8 ?_;refine stA 3 l6 kQ ?_;intro VN qH;refine zN 4 ?_;refine vv (v:=iV ((k+1:Nat):Int)) fJ ?_;refine zN 2 ?_;have Cj:=qH.aP [2,0];have kV:=Cj.eG [8,8,8,8,8,8,8,8];have pU:St B w0 VN (_::_::_::_::_::_::_::_::((fs++N1)++[.bJ 1 M6 ((iT d1 syn x).1.length) (byteCells ((iT d1 syn x).1))])):=kV.toEnd 8 rfl;have rW:=pU;rw [List.append_assoc] at rW;refine aM (k+1,M6,c18,(iT d1 syn x).1,N1++[.bJ 1 M6 ((iT d1 syn x).1.length) (byteCells ((iT d1 syn x).1))]) ?_ vJ (by first | omega | (dsimp only;omega));exact ⟨uQ,(by dsimp only;rw [hi9,Jp hx,if_neg (λh=>h h27)]),(Ro.bJ ae6),rW⟩
  refine zN 17 ?_;have qo:=l6.aP [3,2,1,0];exact .inl ⟨by rw [hi9,Jp hx,if_pos h27],rfl,qo.Rv⟩
 refine zN 16 ?_;refine jD (row':=dI n up (.slice A1 d1.length c1) syn (.slice (aD bb 0) 4 4) Hh Us (.slice iA ix.length ic) (pv) turn) 1 S7 kQ ?_;intro VO nQ;refine zQ ?_;refine bQ (l':=[]) trivial (gF (aH (ay (va ?_))));refine zN 4 ?_;have qz:=nQ.aP [0];exact .inr ⟨d1,A1,c1,N1,by rw [hi9,List.drop_eq_nil_of_le oQ];rfl,rfl,oz,qz⟩
structure Uk (B:Nat) (w0:World):Prop where
 u0:w0.cell? ⟨1,0,none⟩=some (iV (-1))
 u1:w0.cell? ⟨1,1,none⟩=some (iV 0)
 ul:1<B
 n0:w0.cell? ⟨0,0,none⟩=some (iV (-1))
 n1:w0.cell? ⟨0,1,none⟩=some (iV 0)
 nl:0<B
theorem Uk.rg {B:Nat} {w0 w:World} {fs:List Fact} (h:Uk B w0) (S:St B w0 w fs):w.rangeAt 1 0 [iV (-1),iV 0]:=λj u hu=>by
 have hj:j<2:=(List.getElem?_eq_some_iff.1 hu).1;have:j=0\/j=1:=oQ
 rcases this with rfl | rfl
 ·rw [<-hu];exact (S.low.cell (p:=⟨1,0,none⟩) h.ul).trans h.u0
 rw [<-hu];exact (S.low.cell (p:=⟨1,1,none⟩) h.ul).trans h.u1
theorem Uk.nw {B:Nat} {w0 w:World} {fs:List Fact} (h:Uk B w0) (S:St B w0 w fs):Nw w:=
 ⟨(S.low.cell (p:=⟨0,0,none⟩) h.nl).trans h.n0,(S.low.cell (p:=⟨0,1,none⟩) h.nl).trans h.n1,Nat.lt_of_lt_of_le h.nl S.base⟩
theorem sP {P:Program} {t:TypeId} {w:World} {b m:Nat} {row:Array Value} {tt:TypeId} {ds:TypeDesc} (hb:fV w b row tt) (hu:P.underlying t=some ds) (hd:ds.isRow=true) (hz:(P.info? t).map (·.size)=some m) (hm:row.size=m):(Instr.loadAt t (pV b 0)).run P w= .ok (.agg row) w:=by
 have:=yV (P:=P) (w:=w) (t:=t) (b:=b) (off:=0) (cs:=row.toList) hu hd hz (by simpa using hm) (λj u h=>by rw [Nat.zero_add];exact hb.cell (by simpa using h));simpa using this
theorem Eh {B kn kw bb n turn calls dc ic fc sc tc:Nat} {up:Bool} {dA iA fA sA tA:Option Addr} {data:List UInt8} {syn:Int} {Hh:Nat->Pl} {Us:Nat->Bool} {pv nv:Value} {d:Dir} {sh:Nat->Nat->Int×Int} {bs:List BX} {ix fx:List LX} {aQ:List fD} {tl:List xk} {w0 w:World} {fs:List Fact} {q b6 b2 b3 b7:Nat} (hn:n<5) (hq:q<4) {y:BX} (hy:bs[q]? =some y) (x:LX) (a:iM) (S:St B w0 w (nF kn n up dA data dc syn bb Hh Us iA ix ic pv turn bs (wF kw nv d fA fx fc sh sA aQ sc tA tl tc calls fs))) (hm6:Fact.blk b6 (LX.row x) 140∈fs) (hm2:Fact.blk b2 #[gT kn] 106∈fs) (xq:Fact.blk b3 #[iV ((q:Nat):Int)] 3∈fs) (ZT:Fact.blk b7 #[gT kw] 95∈fs) (hu:Uk B w0) (hb:(fx.length+1)*200<=140737488355328) (hb2:(aQ.length+1)*112<=140737488355328):
    Calls Tryz.prog 117 #[.agg #[iV a.code,iV a.eF,iV a.hno,iV a.body],pV b6 0,pV b2 0,pV b3 0,pV b7 0] w (λe w'=>e= .returned (.tuple #[])/\(serves y.b-> ∃ sA' sc' Cu EI EJ qL,Cu=aQ++[(⟨n,q,y.b.ep,x.l.op,a,x.l.num⟩:fD)]/\qL=fx++[⟨lK n x.l.num a nowhere,none,0⟩]/\St B w0 w' (nF kn n up dA data dc syn bb Hh Us iA ix ic pv turn bs (wF kw nv d EI qL EJ (iy sh n q (y.b.ep,(y.b.evs.length:Int))) sA' Cu sc' tA tl tc calls fs)))/\(¬ serves y.b-> ∃ EI EJ qL,qL=fx++[⟨lK n x.l.num a (Hh q),none,0⟩]/\St B w0 w' (nF kn n up dA data dc syn bb Hh Us iA ix ic pv turn bs (wF kw nv d EI qL EJ sh sA aQ sc tA tl tc calls fs)))):=by
 have hlen:=(S.own 1 rfl).1;rw [gL (sz:=6) (λ_=>rfl)] at hlen;refine gu 51 Tryz.func117 ?_;refine cw [0,1,2,3,4] ?_;refine zN 2 ?_;refine iH S ?_;intro b1 w2 S3;refine zN 5 ?_;refine vv (aj rfl rfl (aC ((St.hblk S3 (memT 8 rfl dX _ hm6)).cell rfl))) ?_;refine zQ ?_;refine vv (aj rfl rfl (cZ (cs:=[iV (-1),iV 0]) (Uk.rg hu S3))) ?_;refine vv (v:= .agg #[iV x.l.num,iV a.code,iV a.eF,iV a.hno,iV a.body,iV (-1),iV 0]) gD ?_;refine gq S3 azR ?_;intro b4 w5 S6;refine sa 0 S6 kQ ?_;intro w7 S8;refine zN 4 ?_;refine bV S8 mixed kQ ?_;refine uv (v:=pV kn 0) (λ_ Sx9=>(aj rfl rfl (aC ((St.hblk Sx9 (memT 9 rfl dX _ hm2)).cell rfl)))) ?_;refine zN 3 ?_;refine uv (v:=iV ((q:Nat):Int)) (λ_ Sb=>(aj rfl rfl (aC ((St.hblk Sb (memT 9 rfl dX _ xq)).cell rfl)))) ?_;refine uv (λ_ _=>jf q) ?_;refine zQ ?_;refine uv (v:=iV y.b.role) (λ_ aBK=>(aj rfl rfl (aC (Rd.KU (i:=0) (St.ord 3 aBK rfl) (aW (enc:=BX.cells) (sz:=6) (λ_=>rfl) hy rfl))))) ?_;refine zQ ?_;refine dh λMX mq=>?_;refine zN 4 ?_;by_cases h20:y.b.role=1
 ·refine zN 9 ?_;refine vv (aj rfl rfl (aC ((St.hblk mq (memT 9 rfl dX _ ZT)).cell rfl))) ?_;refine vv (aj rfl rfl (aC ((St.hblk mq (memT 9 rfl dX _ hm2)).cell rfl))) ?_;refine vv (aj rfl rfl (aC ((St.hblk mq (memT 9 rfl dX _ xq)).cell rfl))) ?_;refine zQ ?_;refine vv (aj rfl rfl (cZ (cs:=[iV x.l.op.kind,iV x.l.op.producer,iV x.l.op.id,iV x.l.op.body,iV x.l.op.aG,iV x.l.op.hno]) (λj u hj=>(St.hblk mq (memT 9 rfl dX _ hm6)).cell (WY j u hj)))) ?_;refine zN 2 ?_;refine vv (aj rfl rfl (aC ((St.hblk mq (memT 9 rfl dX _ hm6)).cell rfl))) ?_;have tZ:=mq.eG [8,8,8,8,8,8,8];refine dF eQ (nE hn hq hy x.l.op a x.l.num tZ oQ) ?_;rintro _ Om ⟨rfl,A22,c23,aBL,aBM,tX⟩;refine ⟨_,rfl,?_⟩;refine zN 2 ?_;have qy:=tX.eG [4,4];have qH:=qy.drew;refine aN 8 qH [1,0] ?_;refine ak (v:=pV kw 0) 0 rfl (qH.pX [1,0]) (λ_ ach=>(aj rfl rfl (aC ((St.hblk ach (memT 7 rfl dX _ ZT)).cell rfl)))) ?_;refine ak (v:=pV kn 0) 1 rfl (qH.pX [1,0]) (λ_ aa7=>(aj rfl rfl (aC ((St.hblk aa7 (memT 7 rfl dX _ hm2)).cell rfl)))) ?_;refine aL 4 ?_;refine ak (v:= .agg #[iV 1,iV ((n:Nat):Int),iV (-1),iV 0,iV 0,iV 0,iV 0,iV 0,iV 0,iV 0,iV 0,iV 0,iV 0,.slice none 0 0,.bool false,iV 0,iV x.l.num,iV a.code,iV a.eF,iV a.hno,iV a.body,iV (-1),iV 0]) 6 rfl (qH.pX [1,0]) (λ_ _=>gD) ?_;refine aU 7 ?_;refine jI 7 rfl eQ (gV (x:=⟨lK n x.l.num a nowhere,none,0⟩) qH oQ) ?_;rintro _ w41 ⟨rfl,A37,c38,auz,aoD,wo⟩;refine ⟨_,rfl,?_⟩;refine aL 2 ?_;refine bQ (l':=[]) trivial (aV (rs:=[]) (vs:=[]) rfl trivial ?_);have tT:=wo.aP [8,7];have Dc:=tT.eG [6,6,3,3,6,6,6];exact ⟨rfl,λ_=>⟨A22,c23,aBL,A37,c38,auz,aBM,aoD,Dc⟩,λh=>absurd (by unfold serves;omega) h⟩
 refine zN 3 ?_;by_cases h45:y.b.role=2
 ·refine zN 6 ?_;refine vv (aj rfl rfl (aC ((St.hblk mq (memT 9 rfl dX _ ZT)).cell rfl))) ?_;refine vv (aj rfl rfl (aC ((St.hblk mq (memT 9 rfl dX _ hm2)).cell rfl))) ?_;refine vv (aj rfl rfl (aC ((St.hblk mq (memT 9 rfl dX _ xq)).cell rfl))) ?_;refine zQ ?_;refine vv (aj rfl rfl (cZ (cs:=[iV x.l.op.kind,iV x.l.op.producer,iV x.l.op.id,iV x.l.op.body,iV x.l.op.aG,iV x.l.op.hno]) (λj u hj=>(St.hblk mq (memT 9 rfl dX _ hm6)).cell (WY j u hj)))) ?_;refine zN 2 ?_;refine vv (aj rfl rfl (aC ((St.hblk mq (memT 9 rfl dX _ hm6)).cell rfl))) ?_;have rX:=mq.eG [8,8,8,8,8,8,8];refine dF eQ (nE hn hq hy x.l.op a x.l.num rX oQ) ?_;rintro _ SX ⟨rfl,M7,c48,aoE,air,lU⟩;refine ⟨_,rfl,?_⟩;refine zN 2 ?_;have zP:=lU.eG [4,4];have l7:=zP.drew;refine aN 8 l7 [1,0] ?_;refine ak (v:=pV kw 0) 0 rfl (l7.pX [1,0]) (λ_ aoF=>(aj rfl rfl (aC ((St.hblk aoF (memT 7 rfl dX _ ZT)).cell rfl)))) ?_;refine ak (v:=pV kn 0) 1 rfl (l7.pX [1,0]) (λ_ ace=>(aj rfl rfl (aC ((St.hblk ace (memT 7 rfl dX _ hm2)).cell rfl)))) ?_;refine aL 4 ?_;refine ak (v:= .agg #[iV 1,iV ((n:Nat):Int),iV (-1),iV 0,iV 0,iV 0,iV 0,iV 0,iV 0,iV 0,iV 0,iV 0,iV 0,.slice none 0 0,.bool false,iV 0,iV x.l.num,iV a.code,iV a.eF,iV a.hno,iV a.body,iV (-1),iV 0]) 6 rfl (l7.pX [1,0]) (λ_ _=>gD) ?_;refine aU 7 ?_;refine jI 7 rfl eQ (gV (x:=⟨lK n x.l.num a nowhere,none,0⟩) l7 oQ) ?_;rintro _ VL ⟨rfl,A62,c63,aBN,aBO,uD⟩;refine ⟨_,rfl,?_⟩;refine aL 2 ?_;refine bQ (l':=[]) trivial (aV (rs:=[]) (vs:=[]) rfl trivial ?_);have Bc:=uD.aP [8,7];have uE:=Bc.eG [6,6,3,3,6,6,6];exact ⟨rfl,λ_=>⟨M7,c48,aoE,A62,c63,aBN,air,aBO,uE⟩,λh=>absurd (by unfold serves;omega) h⟩
 refine zN 5 ?_;have uh:=mq.drew;refine fC 8 6 uh [] ?_;refine gk (v:=pV kn 0) 0 rfl uh (λ_ aBP=>(aj rfl rfl (aC ((St.hblk aBP (memT 9 rfl dX _ hm2)).cell rfl)))) ?_;refine gk (v:=iV ((q:Nat):Int)) 1 rfl uh (λ_ aBQ=>(aj rfl rfl (aC ((St.hblk aBQ (memT 9 rfl dX _ xq)).cell rfl)))) ?_;iterate 2 refine gU ?_
 refine gk (v:=pV kn (5+q*2)) 4 rfl uh (λ_ _=>(aR rfl rfl rfl (fH q Tryz.underlying28 kQ rfl hq))) ?_;refine gk (v:= .agg #[iV ((Hh q).node),iV ((Hh q).epoch)]) 5 rfl uh (λ_ aoG=>(aj rfl rfl (cZ (cs:=[iV ((Hh q).node),iV ((Hh q).epoch)]) (St.rg 2 aoG rfl (alm hq))))) ?_;refine eU kQ rfl rfl rfl ?_;refine zQ ?_;refine jD (row':= #[iV x.l.num,iV a.code,iV a.eF,iV a.hno,iV a.body,iV ((Hh q).node),iV ((Hh q).epoch)]) 0 uh kQ ?_;intro w77 GU;refine zQ ?_;refine iY ?_;refine zQ ?_;have Ci:=GU.eG [6,6];have Cm:=Ci.drew;refine aN 8 Cm [1,0] ?_;refine ak (v:=pV kw 0) 0 rfl (Cm.pX [1,0]) (λ_ aBR=>(aj rfl rfl (aC ((St.hblk aBR (memT 7 rfl dX _ ZT)).cell rfl)))) ?_;refine ak (v:=pV kn 0) 1 rfl (Cm.pX [1,0]) (λ_ aBS=>(aj rfl rfl (aC ((St.hblk aBS (memT 7 rfl dX _ hm2)).cell rfl)))) ?_;refine aL 4 ?_;refine ak (v:= .agg #[iV 1,iV ((n:Nat):Int),iV (-1),iV 0,iV 0,iV 0,iV 0,iV 0,iV 0,iV 0,iV 0,iV 0,iV 0,.slice none 0 0,.bool false,iV 0,iV x.l.num,iV a.code,iV a.eF,iV a.hno,iV a.body,iV ((Hh q).node),iV ((Hh q).epoch)]) 6 rfl (Cm.pX [1,0]) (λ_ _=>gD) ?_;refine aU 7 ?_;refine jI 7 rfl eQ (gV (x:=⟨lK n x.l.num a (Hh q),none,0⟩) Cm oQ) ?_;rintro _ w92 ⟨rfl,A88,c89,aBT,aBU,DZ⟩;refine ⟨_,rfl,?_⟩;refine aL 2 ?_;refine bQ (l':=[]) trivial (aV (rs:=[]) (vs:=[]) rfl trivial ?_);have FY:=DZ.aP [3,2];have Lu:=FY.eG [6,6,3,3,6,6,6];exact ⟨rfl,λh=>absurd h (by unfold serves;omega),λ_=>⟨A88,c89,aBT,aBU,Lu⟩⟩
end
section
open ChangeShapes WideShapes ChangeAt RowKit
section
variable {K:CK} {B n q:Nat} {w0 w w':World} {fs N Ls L:List Fact} {m m':Cl} {H H':List LX} {R:CX} {X X':Nd} {z z':NX}
theorem xJ {b:bn} (h:au b=0): -2<=b.ep/\b.ep<=2000000:=by
 have h1:=(eO h).1;unfold bq at h1;omega
theorem dW.at_ (h:dW K L n X z) (hq:q<4): ∃ y,z.bx[q]? =some y/\y.b=X.bs q/\Ct L y:=by
 have hl:z.bx.length=4:=by have:=congrArg List.length h.Ru;simpa [vB] using this
 refine ⟨z.bx[q],List.getElem?_eq_getElem oQ,?_,h.TG _ (List.getElem_mem _)⟩;have h1:(z.bx.map BX.b)[q]? =some (z.bx[q]).b:=by rw [List.getElem?_map,List.getElem?_eq_getElem oQ];rfl
 rw [h.Ru] at h1;have h2:q=0\/q=1\/q=2\/q=3:=oQ
 rcases h2 with rfl | rfl | rfl | rfl<;>(simp only [vB] at h1;exact (Option.some.inj h1).symm)
theorem Jq {bx:List BX} {f:Nat->bn} {y:BX} (h:bx.map BX.b=vB f) (hq:q<4):(bx.set q y).map BX.b=vB (upd f q y.b):=by rw [List.map_set,h,VZ hq]
theorem EK {bx:List BX} {y:BX} (h: ∀ u∈bx,Ct L u) (hy:Ct L y): ∀ u∈bx.set q y,Ct L u:=λu hu=>by
 rcases List.mem_or_eq_of_mem_set hu with h1 | h1
 ·exact h u h1
 rw [h1];exact hy
def CX.go (R:CX) (n:Nat) (z':NX) (fA:Option Addr) (fc:Nat) (fx:List LX) (sA:Option Addr) (sc:Nat) (tA:Option Addr) (tc:Nat) (N:List Fact):CX:=
 { R with nx:=upd R.nx n z',fA:=fA,fc:=fc,fx:=fx,sA:=sA,sc:=sc,tA:=tA,tc:=tc,L:=R.L++N }
theorem Wd.fin {fA sA tA:Option Addr} {fc sc tc kn kw:Nat} {fx:List LX} {rr:List Fact} (hkn:K.nb n=kn) (bU:K.wb=kw) (hrr:gy K R m fs n=rr) (G:Good K R m H) (hn:n<5)
  (S:St B w0 w' (Ee kn n X' z'++(Ef kw (R.go n z' fA fc fx sA sc tA tc (N++Ls)) m'++(Ls++(rr++N)))))
  (hX:dW K (R.L++(N++Ls)) n X' z') (hf: ∀ u∈fx,u∈R.fx\/Rt (R.L++(N++Ls)) u) (h1:m'.ah=upd m.ah n X') (h2:m'.fly=fx.map LX.l) (hH: ∀ u∈H',u∈H\/Rt (R.L++(N++Ls)) u):Wd K B w0 w' fs m' H':=by
 subst hkn;subst bU;subst hrr;have hsub: ∀ f∈R.L,f∈R.L++(N++Ls):=λf h=>List.mem_append_left _ h;have ez:(R.go n z' fA fc fx sA sc tA tc (N++Ls)).nx n=z':=upd_same _ _ _;have eX:m'.ah n=X':=by rw [h1];exact upd_same _ _ _
 refine Wd.close (n:=n) (R:=R) (m:=m) (N:=N) (Ls:=Ls) (R':=R.go n z' fA fc fx sA sc tA tc (N++Ls)) ?_ (by rw [ez,eX];exact S) hn rfl ?_
 ·refine ⟨h2.symm,λu hu=>(hf u hu).elim (λh=>(G.flo u h).mono hsub) id,λj hj=>?_,G.arr.mono hsub,λu hu=>(hH u hu).elim (λh=>(G.hld u h).mono hsub) id⟩;by_cases e:j=n
  ·subst e;rw [ez,eX];exact hX
  rw [h1,upd_ne e]
  show dW K _ j _ (upd R.nx n z' j)
  rw [upd_ne e];exact (G.kr j hj).mono hsub
 intro j _ hj;exact ⟨by rw [h1,upd_ne hj],upd_ne hj⟩
theorem Wd.dL {fA sA tA:Option Addr} {fc sc tc kn kw:Nat} {fx:List LX} {rr:List Fact} (hkn:K.nb n=kn) (bU:K.wb=kw) (hrr:gy K R m fs n=rr) (G:Good K R m H) (hn:n<5)
  (S:St B w0 w' (Ee kn n X' z'++(Ef kw (R.go n z' fA fc fx sA sc tA tc Ls) m'++(Ls++rr))))
  (hX:dW K (R.L++Ls) n X' z') (hf: ∀ u∈fx,u∈R.fx\/Rt (R.L++Ls) u) (h1:m'.ah=upd m.ah n X') (h2:m'.fly=fx.map LX.l) (hH: ∀ u∈H',u∈H\/Rt (R.L++Ls) u):Wd K B w0 w' fs m' H':=
 Wd.fin (N:=[]) hkn bU hrr G hn (by rw [List.append_nil];exact S) hX hf h1 h2 hH
theorem dW.more (h:dW K L n X z):dW K (L++N) n X z:=h.mono λ_ hf=>List.mem_append_left _ hf
theorem dW.hear {hs:Nat->Pl} {su:Nat->Bool} (h:dW K L n X z):dW K L n { X with hints:=hs,sure:=su } z:=⟨h.Ru,h.TG,h.yD,h.ixm,h.ixo,h.nL⟩
theorem mH {x:LX} {P:LX->Prop}: ∀ u∈H,u∈x::H\/P u:=λ_ h=> .inl (List.mem_cons_of_mem _ h)
theorem oD {fx:List LX} {x:LX} {P:LX->Prop} (hx:P x): ∀ u∈fx++[x],u∈fx\/P u:=λu hu=>(List.mem_append.1 hu).elim .inl λh=>by rw [List.mem_singleton] at h;subst h;exact .inr hx
theorem iW {l:dK} {c:Nat} (h:l.evs=[]):Rt L ⟨l,none,c⟩:=by
 unfold Rt GZ;dsimp only;rw [h];exact ⟨Ro.none_,Nat.zero_le _⟩
theorem sD {f:Fact} (h:f∈Ls):f∈L++(N++Ls):=List.mem_append_right _ (List.mem_append_right _ h)
theorem mLN: ∀ f∈L++N,f∈L++(N++Ls):=λf h=>by rw [<-List.append_assoc];exact List.mem_append_left _ h
end
section
variable {m:Cl} {n q:Nat} {X:Nd} {b:bn} {op:Ev} {num:Int} {a:iM} {l:dK} {d:List UInt8}
theorem Fv (hX:m.ah n=X) (hb:X.bs q=b) (h:serves b):m.done n q op num a={ m with aQ:=m.aQ++[⟨n,q,b.ep,op,a,num⟩],shown:=iy m.shown n q (b.ep,b.evs.length),fly:=m.fly++[lK n num a nowhere] }:=by
 subst hX;subst hb;unfold Cl.done;rw [if_pos h];rfl
theorem Jr (hX:m.ah n=X) (hb:X.bs q=b) (h: ¬ serves b):m.done n q op num a={ m with fly:=m.fly++[lK n num a (X.hints q)] }:=by
 subst hX;subst hb;unfold Cl.done;rw [if_neg h];rfl
theorem agV {SR:bn×iM×Bool×Int} (hX:m.ah n=X) (hb:X.bs l.q=b) (hR:gP b l.op=SR) (h:SR.2.2.1=false):m.serve n l=m.done n l.q l.op l.num SR.2.1:=by
 subst hX;subst hb;subst hR;unfold Cl.serve;rw [if_pos h]
theorem Yt {SR:bn×iM×Bool×Int} (hX:m.ah n=X) (hb:X.bs l.q=b) (hR:gP b l.op=SR) (h:SR.2.2.1=true) (hw:eZ X.data X.syn [fG 2 l.q SR.1.ep 0 l.op]=none):m.serve n l=m.done n l.q l.op l.num (qU 14):=by
 subst hX;subst hb;subst hR;unfold Cl.serve Nd.write;rw [if_neg (by rw [h];simp),hw];rfl
theorem agW {SR:bn×iM×Bool×Int} (hX:m.ah n=X) (hb:X.bs l.q=b) (hR:gP b l.op=SR) (h:SR.2.2.1=true) (hw:eZ X.data X.syn [fG 2 l.q SR.1.ep 0 l.op]=some d):
  m.serve n l=m.put n { X with data:=d,pend:=some (.serve l.q SR.1.evs l.op l.num SR.2.1) }:=by
 subst hX;subst hb;subst hR;unfold Cl.serve Nd.write;rw [if_neg (by rw [h];simp),hw];rfl
theorem Yu {BR:bn×Int} (hX:m.ah n=X) (hb:X.bs l.q=b) (hR:dG b l.ep l.fr=BR) (h:BR.2≠0):m.offered n l=m:=by
 subst hX;subst hb;subst hR;unfold Cl.offered;rw [if_pos h]
theorem Rw {BR:bn×Int} (hX:m.ah n=X) (hb:X.bs l.q=b) (hR:dG b l.ep l.fr=BR) (h:BR.2=0) (h2:BR.1.ep=b.ep):m.offered n l={ m with fly:=m.fly++[oC n l.q b] }:=by
 subst hX;subst hb;subst hR;unfold Cl.offered;rw [if_neg (λe=>e h),if_pos h2];rfl
theorem Rx {BR:bn×Int} (hX:m.ah n=X) (hb:X.bs l.q=b) (hR:dG b l.ep l.fr=BR) (h:BR.2=0) (h2:BR.1.ep≠b.ep) (hw:eZ X.data X.syn [fG 4 l.q BR.1.ep l.fr aO]=none):m.offered n l=m:=by
 subst hX;subst hb;subst hR;unfold Cl.offered Nd.write;rw [if_neg (λe=>e h),if_neg h2,hw];rfl
theorem Yv {BR:bn×Int} (hX:m.ah n=X) (hb:X.bs l.q=b) (hR:dG b l.ep l.fr=BR) (h:BR.2=0) (h2:BR.1.ep≠b.ep) (hw:eZ X.data X.syn [fG 4 l.q BR.1.ep l.fr aO]=some d):
  m.offered n l=m.put n { X with data:=d,pend:=some (.begun l.q BR.1) }:=by
 subst hX;subst hb;subst hR;unfold Cl.offered Nd.write;rw [if_neg (λe=>e h),if_neg h2,hw];rfl
theorem OT (hX:m.ah n=X) (hb:X.bs l.q=b) (h:b.tg≠l.fr\/b.ep+1≠l.ep):m.caught n l=m:=by
 subst hX;subst hb;unfold Cl.caught;rw [if_pos h]
theorem Yw {BR:bn×Int} (hX:m.ah n=X) (hb:X.bs l.q=b) (hR:bK b l.at_=BR) (h1: ¬ (b.tg≠l.fr\/b.ep+1≠l.ep)) (h:BR.2≠0):m.caught n l=m:=by
 subst hX;subst hb;subst hR;unfold Cl.caught;rw [if_neg h1,if_pos h]
theorem Vh {BR:bn×Int} (hX:m.ah n=X) (hb:X.bs l.q=b) (hR:bK b l.at_=BR) (h1: ¬ (b.tg≠l.fr\/b.ep+1≠l.ep)) (h:BR.2=0) (h2:BR.1.role=b.role):
  m.caught n l={ (m.put n { X with bs:=upd X.bs l.q BR.1 }) with fly:=kZ n l.q BR.1 l.at_ m.fly }:=by
 subst hX;subst hb;subst hR;unfold Cl.caught;rw [if_neg h1,if_neg (λe=>e h),if_pos h2];have e:((m.aK n l.q (bK ((m.ah n).bs l.q) l.at_).1).ah n).bs l.q=(bK ((m.ah n).bs l.q) l.at_).1:=by
  unfold Cl.aK Cl.put;dsimp only;rw [upd_same];exact upd_same _ _ _
 unfold Cl.part kZ;rw [e]
 split
 ·rfl
 rfl
theorem Vi {BR:bn×Int} (hX:m.ah n=X) (hb:X.bs l.q=b) (hR:bK b l.at_=BR) (h1: ¬ (b.tg≠l.fr\/b.ep+1≠l.ep)) (h:BR.2=0) (h2:BR.1.role≠b.role) (hw:eZ X.data X.syn [fG 3 l.q BR.1.ep BR.1.tg aO]=none):m.caught n l=m:=by
 subst hX;subst hb;subst hR;unfold Cl.caught Nd.write;rw [if_neg h1,if_neg (λe=>e h),if_neg h2,hw];rfl
theorem acj {BR:bn×Int} (hX:m.ah n=X) (hb:X.bs l.q=b) (hR:bK b l.at_=BR) (h1: ¬ (b.tg≠l.fr\/b.ep+1≠l.ep)) (h:BR.2=0) (h2:BR.1.role≠b.role) (hw:eZ X.data X.syn [fG 3 l.q BR.1.ep BR.1.tg aO]=some d):
  m.caught n l=m.put n { X with data:=d,pend:=some (.gI l.q BR.1 l.at_) }:=by
 subst hX;subst hb;subst hR;unfold Cl.caught Nd.write;rw [if_neg h1,if_neg (λe=>e h),if_neg h2,hw];rfl
theorem ae8 (hX:m.ah n=X) (hb:X.bs l.q=b) (h:b.role≠4\/b.fr≠l.fr):m.got n l=m:=by
 subst hX;subst hb;unfold Cl.got;rw [if_pos h]
theorem agX {BR:bn×Int} (hX:m.ah n=X) (hb:X.bs l.q=b) (hR:dn b l.ep l.at_ l.evs l.last=BR) (h1: ¬ (b.role≠4\/b.fr≠l.fr)) (h:BR.2=2):m.got n l={ m with fly:=m.fly++[oC n l.q b] }:=by
 subst hX;subst hb;subst hR;unfold Cl.got;rw [if_neg h1,if_pos h];rfl
theorem TH {BR:bn×Int} (hX:m.ah n=X) (hb:X.bs l.q=b) (hR:dn b l.ep l.at_ l.evs l.last=BR) (h1: ¬ (b.role≠4\/b.fr≠l.fr)) (h:BR.2≠2) (h2:BR.2≠0\/BR.1.evs.length=b.evs.length):m.got n l=m:=by
 subst hX;subst hb;subst hR;unfold Cl.got;rw [if_neg h1,if_neg h,if_pos h2]
theorem TI {BR:bn×Int} (hX:m.ah n=X) (hb:X.bs l.q=b) (hR:dn b l.ep l.at_ l.evs l.last=BR) (h1: ¬ (b.role≠4\/b.fr≠l.fr)) (h:BR.2≠2) (h2: ¬ (BR.2≠0\/BR.1.evs.length=b.evs.length))
  (hw:eZ X.data X.syn (uK l.q BR.1 b.evs.length (l.at_.toNat+l.evs.length) l.last)=none):m.got n l=m:=by
 subst hX;subst hb;subst hR;unfold Cl.got Nd.write;rw [if_neg h1,if_neg h,if_neg h2,hw];rfl
theorem ae9 {BR:bn×Int} (hX:m.ah n=X) (hb:X.bs l.q=b) (hR:dn b l.ep l.at_ l.evs l.last=BR) (h1: ¬ (b.role≠4\/b.fr≠l.fr)) (h:BR.2≠2) (h2: ¬ (BR.2≠0\/BR.1.evs.length=b.evs.length))
  (hw:eZ X.data X.syn (uK l.q BR.1 b.evs.length (l.at_.toNat+l.evs.length) l.last)=some d):m.got n l=m.put n { X with data:=d,pend:=some (.got l.q BR.1 l.last) }:=by
 subst hX;subst hb;subst hR;unfold Cl.got Nd.write;rw [if_neg h1,if_neg h,if_neg h2,hw];rfl
theorem acn {BR:bn×Int} (hX:m.ah n=X) (hb:X.bs l.q=b) (hR:fZ b l.ep=BR) (h:BR.2≠0):m.learnt n l=m.put n (X.hear n l):=by
 subst hX;subst hb;subst hR;unfold Cl.learnt;rw [if_pos h]
theorem Vj {BR:bn×Int} (hX:m.ah n=X) (hb:X.bs l.q=b) (hR:fZ b l.ep=BR) (h:BR.2=0) (hw:eZ X.data X.syn [fG 7 l.q b.ep 0 aO]=none):m.learnt n l=m.put n (X.hear n l):=by
 subst hX;subst hb;subst hR;unfold Cl.learnt Nd.write;rw [if_neg (λe=>e h)];have hw':eZ ((m.ah n).hear n l).data ((m.ah n).hear n l).syn [fG 7 l.q ((m.ah n).bs l.q).ep 0 aO]=none:=hw;rw [hw'];rfl
theorem aco {BR:bn×Int} (hX:m.ah n=X) (hb:X.bs l.q=b) (hR:fZ b l.ep=BR) (h:BR.2=0) (hw:eZ X.data X.syn [fG 7 l.q b.ep 0 aO]=some d):
  m.learnt n l=m.put n { (X.hear n l) with data:=d,pend:=some (.forget l.q BR.1) }:=by
 subst hX;subst hb;subst hR;unfold Cl.learnt Nd.write;rw [if_neg (λe=>e h)];have hw':eZ ((m.ah n).hear n l).data ((m.ah n).hear n l).syn [fG 7 l.q ((m.ah n).bs l.q).ep 0 aO]=some d:=hw;rw [hw'];rfl
end
end
section
open ChangeShapes WideShapes RowKit
section
variable {xo yo:Operand} {w:World} {f:Fn} {xs ys:Array Value}
theorem am4 {d:Nat}:(Op.equalIn (d+1) 111 (.func f xs ys) .nilFunc).run Tryz.prog w= .ok false w:=by
 unfold Op.equalIn;simp [Tryz.underlying111]
theorem am5 {d:Nat}:(Op.equalIn (d+1) 111 .nilFunc .nilFunc).run Tryz.prog w= .ok true w:=by
 unfold Op.equalIn;simp [Tryz.underlying111]
theorem xK:(do eqGuard .neq 111 xo yo (.func f xs ys) .nilFunc;binOp .neq 111 (.func f xs ys) .nilFunc:Sem Value).run Tryz.prog w= .ok (.bool true) w:=by
 have h1:(eqGuard .neq 111 xo yo (.func f xs ys) .nilFunc)=pure ():=by unfold eqGuard;rfl
 have h2:binOp .neq 111 (.func f xs ys) .nilFunc=(do let b<-Op.equalIn (9999+1) 111 (.func f xs ys) .nilFunc;pure (.bool (!b))):=by unfold binOp;rfl
 rw [h1,h2];simp [am4]
theorem Kv:(do eqGuard .neq 111 xo yo .nilFunc .nilFunc;binOp .neq 111 .nilFunc .nilFunc:Sem Value).run Tryz.prog w= .ok (.bool false) w:=by
 have h1:(eqGuard .neq 111 xo yo .nilFunc .nilFunc)=pure ():=by unfold eqGuard;rfl
 have h2:binOp .neq 111 .nilFunc .nilFunc=(do let b<-Op.equalIn (9999+1) 111 .nilFunc .nilFunc;pure (.bool (!b))):=by unfold binOp;rfl
 rw [h1,h2];simp [am5]
theorem Kw:(do eqGuard .eql 111 xo yo (.func f xs ys) .nilFunc;binOp .eql 111 (.func f xs ys) .nilFunc:Sem Value).run Tryz.prog w= .ok (.bool false) w:=by
 have h1:(eqGuard .eql 111 xo yo (.func f xs ys) .nilFunc)=pure ():=by unfold eqGuard;rfl
 have h2:binOp .eql 111 (.func f xs ys) .nilFunc=(do let b<-Op.equalIn (9999+1) 111 (.func f xs ys) .nilFunc;pure (.bool b)):=by unfold binOp;rfl
 rw [h1,h2];simp [am4]
theorem TJ:(do eqGuard .eql 111 xo yo .nilFunc .nilFunc;binOp .eql 111 .nilFunc .nilFunc:Sem Value).run Tryz.prog w= .ok (.bool true) w:=by
 have h1:(eqGuard .eql 111 xo yo .nilFunc .nilFunc)=pure ():=by unfold eqGuard;rfl
 have h2:binOp .eql 111 .nilFunc .nilFunc=(do let b<-Op.equalIn (9999+1) 111 .nilFunc .nilFunc;pure (.bool b)):=by unfold binOp;rfl
 rw [h1,h2];simp [am5]
end
theorem Gb {B kn kw bb n turn calls dc ic fc sc tc:Nat} {up:Bool} {dA iA fA sA tA:Option Addr} {data:List UInt8} {syn:Int} {Hh:Nat->Pl} {Us:Nat->Bool} {pv nv:Value} {d:Dir} {sh:Nat->Nat->Int×Int} {bs:List BX} {ix fx:List LX} {aQ:List fD} {tl:List xk} {w0 w:World} {fs:List Fact} {L:List Fact} {rs:List dD} {RA:Option Addr} {rc nn:Nat} (hnn:nn=rs.length) (hrs:Ro fs 10 RA nn (rs.flatMap dD.cells)) (htp:Ro L 1 dA data.length (byteCells data)) (hL: ∀ f∈L,f∈fs) (hrl:nn<=1000000) (S:St B w0 w (nF kn n up dA data dc syn bb Hh Us iA ix ic pv turn bs (wF kw nv d fA fx fc sh sA aQ sc tA tl tc calls fs))):
  Calls tP 61 #[pV kn 0,.slice RA nn rc] w (λe w'=>(eZ data syn rs=none/\e= .returned (.bool false)/\St B w0 w' (nF kn n up dA data dc syn bb Hh Us iA ix ic pv turn bs (wF kw nv d fA fx fc sh sA aQ sc tA tl tc calls fs)))\/ ∃ d' A' c' N,eZ data syn rs=some d'/\e= .returned (.bool true)/\Ro (L++N) 1 A' d'.length (byteCells d')/\St B w0 w' (nF kn n up A' d' c' syn bb Hh Us iA ix ic pv turn bs (wF kw nv d fA fx fc sh sA aQ sc tA tl tc calls (fs++N)))):=by
 subst hnn;exact pJ hrs htp hL hrl S
theorem acp {b:bn} {ep at_:Int} {l:List Ev} {last:Bool} {BR:bn×Int} (hR:dn b ep at_ l last=BR) (h:au b=0) (h1:BR.2=0) (h2: ¬ BR.1.evs.length=b.evs.length):0<=at_/\b.evs.length<=at_.toNat+l.length/\at_.toNat+l.length<=BR.1.evs.length/\at_<=2000:=by
 have hl:=jZ (jv h);subst hR;unfold dn at h1 h2⊢;rw [if_neg (λe=>e h)] at h1 h2⊢;by_cases c0:b.role≠4
 ·rw [if_pos c0] at h1;exact absurd h1 dQ
 rw [if_neg c0] at h1 h2⊢;by_cases c1:b.ep≠ep
 ·rw [if_pos c1] at h1;exact absurd h1 dQ
 rw [if_neg c1] at h1 h2⊢;by_cases c2: ¬ (0<=at_/\at_<=b.evs.length)
 ·rw [if_pos c2] at h1;exact absurd h1 dQ
 rw [if_neg c2] at h1 h2⊢;by_cases c3: ¬ (b.evs.drop at_.toNat).take l.length=l.take (b.evs.length-at_.toNat)
 ·rw [if_pos c3] at h1;exact absurd h1 dQ
 rw [if_neg c3] at h1 h2⊢;by_cases c4:last=true/\at_.toNat+l.length<b.evs.length
 ·rw [if_pos c4] at h1;exact absurd h1 dQ
 rw [if_neg c4] at h1 h2⊢;by_cases c6:au (if last=true then (⟨1,ep,0,0,0,b.evs++l.drop (b.evs.length-at_.toNat)++[aI]⟩:bn) else { b with evs:=b.evs++l.drop (b.evs.length-at_.toNat) })≠0
 ·rw [if_pos c6] at h1;exact absurd h1 dQ
 rw [if_neg c6] at h2⊢;have hd:(l.drop (b.evs.length-at_.toNat)).length=l.length-(b.evs.length-at_.toNat):=List.length_drop;by_cases hla:last=true
 ·rw [if_pos hla] at h2⊢;have: ¬ (at_.toNat+l.length<b.evs.length):=λe=>c4 ⟨hla,e⟩;simp only [List.length_append,hd,List.length_singleton] at h2⊢;omega
 rw [if_neg hla] at h2⊢;simp only [List.length_append,hd] at h2⊢;omega
theorem Fw {q:Nat} {b:bn} {k m m0 kk:Nat} {last:Bool} {G:List Ev} {acc:List dD} (hG:G=(b.evs.drop k).take m0) (hm:m0=m-k) (hacc:acc=(G.take kk).map (λx=>fG 5 q b.ep 0 x)) (hk:G.length<=kk):uK q b k m last=acc++(if last=true then [fG 6 q b.ep 0 aO] else []):=by
 subst hm;subst hacc;unfold uK;rw [List.take_of_length_le hk,hG,List.drop_take]
theorem Yx {K:CK} {B n kn kw:Nat} {w0 w:World} {fs:List Fact} {m:Cl} {H:List LX} {x:LX} (hn:n<5) (hkn:K.nb n=kn) (bU:K.wb=kw) (hu:Uk B w0) (hB1:m.fly.length<=1000000000) (hB2:m.aQ.length<=1000000000000) (HW:Wd K B w0 w fs m (x::H)) (hq:x.l.q<4) (hv: ∀ q,q<4->au ((m.ah n).bs q)=0) (hxe:x.l.evs.length<=2000):
    Calls tP 89 #[pV kw 0,pV kn 0,.agg (LX.row x)] w (λe w'=>e= .returned (.tuple #[])/\Wd K B w0 w' fs (m.got n x.l) H):=by
 obtain ⟨R,G,S0⟩:=HW.open hn;have hfl:R.fx.length=m.fly.length:=by rw [<-G.fly,List.length_map]
 have NG:=G.kr n hn;obtain ⟨X,hX⟩: ∃ X,m.ah n=X:=⟨_,rfl⟩;obtain ⟨z,hz⟩: ∃ z,R.nx n=z:=⟨_,rfl⟩;rw [hX,hz] at S0 NG;have hL: ∀ f∈R.L,f∈gy K R m fs n:=λf h=>List.mem_append_right _ (List.mem_append_right _ h);obtain ⟨rr,hrr⟩: ∃ r,gy K R m fs n=r:=⟨_,rfl⟩;rw [hrr] at S0 hL;have S:St B w0 w (cN kn n X z z.pv (cF kw R m rr)):=by subst hkn;subst bU;exact S0
 clear S0 HW;have hlen:=(S.own 1 rfl).1;rw [gL (sz:=6) (λ_=>rfl)] at hlen;rw [hX] at hv;obtain ⟨y,hy,hyb,sW⟩:=NG.at_ hq;have hln:=jZ (jv (hyb▸hv _ hq));have zC:y.b.evs.length*48<=reachBytes:=by unfold reachBytes;omega
 have Mq:=xJ (hyb▸hv _ hq);have hxo:=G.hld x (List.mem_cons_self ..);have hbK:(x.l.evs.length+2001)*48<=reachBytes:=by unfold reachBytes;omega
 refine gu 108 Tryz.func89 ?_;refine cw [0,1,2] ?_;refine zN 2 ?_;refine VH S ?_;intro b1 w2 S3;refine VH S3 ?_;intro b4 w5 S6;refine iH S6 ?_;intro b7 w8 S9;refine zN 6 ?_;refine gq S9 zr3 ?_;intro b10 GI l5;refine jD (row':= #[iV ((x.l.q:Nat):Int)]) 0 l5 kQ ?_;intro Ey kD;refine zN 3 ?_;have iG:=kD.drew;refine fC 9 8 iG [] ?_;iterate 5 refine gU ?_
 refine gk 5 rfl iG (λ_ _=>jf x.l.q) ?_;refine gk (v:= .agg (bR y.b y.A y.c)) 6 rfl iG (λ_ GK=>(aj rfl rfl (cZ (cs:=BX.cells y) (Rd.uq (St.ord 5 GK rfl) (λ_ _ h=>aW (enc:=BX.cells) (sz:=6) (λ_=>rfl) hy h))))) ?_;refine fq (m:=1) (r:=7) kQ ?_;refine mo (i:=7) rfl rfl (V:=λb=>pV b 0) (row:=zB) (t:=57) iG (wn rfl) rfl rfl (dO rfl (Tryz.zeroValue57 _) rfl) ?_;intro Av Oq jE;refine gU ?_;refine eU kQ rfl rfl rfl ?_;refine sa 0 jE kQ ?_;intro Om tX;refine zQ ?_;refine iY ?_;refine zN 6 ?_;by_cases h28:y.b.role=4
 ·refine zN 6 ?_;by_cases h29:y.b.fr=x.l.fr
  ·refine zN 8 ?_;obtain ⟨BR,qp⟩: ∃ r,dn y.b x.l.ep x.l.at_ x.l.evs x.l.last=r:=⟨_,rfl⟩;have HP:=λw hK h=>F7 y.b.role y.b.ep y.b.fr y.b.tg y.b.rd y.A y.c y.b.evs x.l.ep x.l.at_ x.A x.c x.l.evs x.l.last sW.2 hxo.2 w hK h zC hbK;rw [show dn ⟨y.b.role,y.b.ep,y.b.fr,y.b.tg,y.b.rd,y.b.evs⟩ x.l.ep x.l.at_ x.l.evs x.l.last=BR from qp] at HP;refine zN 10 ?_;refine dF eQ (HP _ (hxo.1.rd tX (memT 12 rfl hL)) (sW.1.rd tX (memT 12 rfl hL))) ?_;rintro _ ZA ⟨om,c31,MO,rfl,T35⟩;refine ⟨_,rfl,?_⟩;have qo:=tX.ext T35 rfl;refine zN 3 ?_;refine gq qo fP ?_;intro qK Te qJ;refine sa 0 qJ kQ ?_;intro w39 rY;refine zN 7 ?_;by_cases h41:BR.2=2
   ·refine zN 9 ?_;have wo:=rY.eG [13,13,13,13,13,13,13];refine dF eQ (zA hn hq hy wo oQ) ?_;rintro _ w47 ⟨rfl,A43,c44,aBV,auA,vO⟩;refine ⟨_,rfl,?_⟩;refine zQ ?_;refine bQ (l':=[]) trivial (gF (nW (ig (dS (rs:=[]) (vs:=[]) rfl trivial ?_))));rw [agX hX hyb.symm qp oQ oQ];exact ⟨rfl,Wd.dL (X':=X) (z':=z) (Ls:=[.blk qK (bR BR.1 om c31) 57,.bJ 6 om BR.1.evs.length ((BR.1.evs).flatMap Ev.cells),.blk Av (bR y.b y.A y.c) 57,.blk b10 #[iV ((x.l.q:Nat):Int)] 3,.blk b7 (LX.row x) 140,.blk b4 #[pV kn 0] 106,.blk b1 #[pV kw 0] 95]) (fA:=A43) (fc:=c44) (fx:=aBV) (sA:=R.sA) (sc:=R.sc) (tA:=R.tA) (tc:=R.tc) hkn bU hrr G hn vO NG.more (by rw [auA];exact oD (iW rfl)) (aF hX).symm (by rw [auA,List.map_append,G.fly];rfl) mH⟩
   refine zN 10 ?_;by_cases h49:BR.2=0
   ·refine zN 8 ?_;by_cases h50:((BR.1.evs.length:Nat):Int)=((y.b.evs.length:Nat):Int)
    ·refine zN 8 ?_;have uX:=rY.eG [13,13,13,13,13,13,13];rw [TH hX hyb.symm qp oQ oQ oQ];exact ⟨rfl,Wd.dL (X':=X) (z':=z) (Ls:=[.blk qK (bR BR.1 om c31) 57,.bJ 6 om BR.1.evs.length ((BR.1.evs).flatMap Ev.cells),.blk Av (bR y.b y.A y.c) 57,.blk b10 #[iV ((x.l.q:Nat):Int)] 3,.blk b7 (LX.row x) 140,.blk b4 #[pV kn 0] 106,.blk b1 #[pV kw 0] 95]) (fA:=R.fA) (fc:=R.fc) (fx:=R.fx) (sA:=R.sA) (sc:=R.sc) (tA:=R.tA) (tc:=R.tc) hkn bU hrr G hn uX NG.more (λu hu=> .inl hu) (aF hX).symm G.fly.symm mH⟩
    refine zN 8 ?_;obtain ⟨ha0,ha1,ha2,ha3⟩:=acp qp (hyb▸hv _ hq) oQ oQ;obtain ⟨M,hM⟩: ∃ k,k=x.l.at_.toNat+x.l.evs.length:=⟨_,rfl⟩;rw [<-hM] at ha1 ha2;obtain ⟨m0,hm0⟩: ∃ k,k=M-y.b.evs.length:=⟨_,rfl⟩;refine zQ ?_;have lU:=rY.nil 171 10;refine zN 10 ?_;refine vv (v:=iV ((M:Nat):Int)) (bE rfl rfl rfl (adR (z:=((M:Nat):Int)) oQ oQ)) ?_;refine zN 12 ?_;obtain ⟨A2,hs2,hr2,_⟩:=FV (P:=tP) (t:=55) (enc:=Ev.cells) (s:=6) (λ_=>rfl) (A:=om) (b:=BR.1.evs) (n:=BR.1.evs.length) (c:=c31) (lo:=(some (iV ((y.b.evs.length:Nat):Int)))) (hi:=(some (iV ((M:Nat):Int)))) (mx:=none) (l:=y.b.evs.length) (k:=M) (q:=c31) (m:=m0) (c':=c31-y.b.evs.length) Tryz.underlying55 kQ (Wx (y.b.evs.length) M rfl rfl oQ oQ) oQ oQ oQ hm0.symm rfl;obtain ⟨GE,hG⟩: ∃ g,g=(BR.1.evs.drop y.b.evs.length).take m0:=⟨_,rfl⟩;rw [<-hG] at hr2;have hGl:GE.length=m0:=by rw [hG,List.length_take,List.length_drop];omega
    refine vv (v:= .slice A2 m0 (c31-y.b.evs.length)) (jR rfl rfl (jo rfl) (jo rfl) nO (hs2 _)) ?_;refine zN 5 ?_;refine dN (X:=(List dD)×Nat×(Option Addr)×Nat) (λxv=>[(3,pV b1 0),(4,pV b4 0),(5,pV b7 0),(6,pV b10 0),(8,pV qK 0),(76,.slice A2 m0 (c31-y.b.evs.length)),(77,iV ((m0:Nat):Int)),(10,.slice xv.2.2.1 xv.2.1 xv.2.2.2),(78,iV ((xv.2.1:Nat):Int))]) (λxv wr=>(xv.1=(GE.take xv.2.1).map (λu=>fG 5 x.l.q BR.1.ep 0 u))/\(xv.2.1<=m0)/\(xv.2.1=xv.1.length)/\St B w0 wr ((.own 171 10 (.slice xv.2.2.1 xv.2.1 xv.2.2.2) xv.2.1 ((xv.1).flatMap dD.cells))::(.blk qK (bR BR.1 om c31) 57)::(.bJ 6 om BR.1.evs.length ((BR.1.evs).flatMap Ev.cells))::(.blk Av (bR y.b y.A y.c) 57)::(.blk b10 #[iV ((x.l.q:Nat):Int)] 3)::(.blk b7 (LX.row x) 140)::(.blk b4 #[pV kn 0] 106)::(.blk b1 #[pV kw 0] 95)::(cN kn n X z z.pv (cF kw R m rr)))) (λxv=>m0-xv.2.1) ([],0,none,0) ?_ ?_ ?_
    ·exact ⟨iQ,Nat.zero_le _,rfl,lU⟩
    ·exact tU9
    rintro ⟨acc,k,A9,c9⟩ w53 ⟨Jm,aBW,ais,l7⟩
    try dsimp only at Jm aBW ais l7
    refine aZ (l':=[(3,pV b1 0),(4,pV b4 0),(5,pV b7 0),(6,pV b10 0),(8,pV qK 0),(76,.slice A2 m0 (c31-y.b.evs.length)),(77,iV ((m0:Nat):Int)),(10,.slice A9 k c9),(78,iV ((k:Nat):Int))]) tU9 (aH (ay ?_));by_cases h58:((k:Nat):Int)< ((m0:Nat):Int)
    ·refine zN 10 ?_;obtain ⟨e,he⟩: ∃ e,GE[k]? =some e:=⟨_,List.getElem?_eq_getElem oQ⟩;refine zQ ?_;obtain ⟨rb,ro,hra,_,hrc⟩:=(hr2 _ _ (St.bJ 2 l7 rfl)).2 oQ;subst hra;refine vv (jf k) ?_;refine vv (v:= .agg #[iV e.kind,iV e.producer,iV e.id,iV e.body,iV e.aG,iV e.hno]) (aj rfl rfl (cZ (cs:=Ev.cells e) (λj u hu=>by rw [Nat.add_assoc];exact hrc (k*6+j) u (aW (enc:=Ev.cells) (sz:=6) (λ_=>rfl) he hu)))) ?_;refine gq l7 aaI ?_;intro b59 w60 Ia;refine sa 0 Ia kQ ?_;intro VQ vP;refine zN 6 ?_;refine cab eQ vP (jh 5 x.l.q ⟨BR.1,om,c31⟩ _) ?_;intro ZK Bd;refine gq Bd xE ?_;intro b67 w68 uE;refine sa 0 uE kQ ?_;intro Zz lu;refine zN 6 ?_;refine jD (row':= #[iV 5,iV ((x.l.q:Nat):Int),iV BR.1.ep,iV 0,iV e.kind,iV e.producer,iV e.id,iV e.body,iV e.aG,iV e.hno]) 0 lu kQ ?_;intro w72 tY;refine zN 5 ?_;refine NY tY ?_;intro b74 w75 MZ;refine dx (news:=[iV 5,iV ((x.l.q:Nat):Int),iV BR.1.ep,iV 0,iV e.kind,iV e.producer,iV e.id,iV e.body,iV e.aG,iV e.hno]) (xs':=(acc++[fG 5 x.l.q BR.1.ep 0 e]).flatMap dD.cells) 3 MZ (wn rfl) rfl rfl rfl rfl rfl rfl (St.lD (xs:=[iV 5,iV ((x.l.q:Nat):Int),iV BR.1.ep,iV 0,iV e.kind,iV e.producer,iV e.id,iV e.body,iV e.aG,iV e.hno]) 0 MZ rfl rfl rfl) Tryz.underlying147 P9 rfl dQ (bM rfl) lQ oQ (iU (enc:=dD.cells) rfl rfl) ?_;intro A77 c78 w79 aKn aKo Cm;change St _ _ _ (_::_::_::(.own 171 10 (.slice A77 (k+1) c78) (k+1) ((acc++[fG 5 x.l.q BR.1.ep 0 e]).flatMap dD.cells))::_::_::_::_::_::_::_::_::_::_::_::_::_::_::rr) at Cm;refine zN 5 ?_;refine vv (v:=iV ((k+1:Nat):Int)) fJ ?_;refine zN 2 ?_;have DX:=Cm.aP [2,1,0];refine aM (acc++[fG 5 x.l.q BR.1.ep 0 e],k+1,A77,c78) ?_ tU9 (by first | omega | (dsimp only;omega));exact ⟨(by dsimp only;rw [Jm,List.take_add_one,he];simp),uQ,(by dsimp only;simp [ais]),DX⟩
    refine zN 14 ?_;refine vv (v:= .bool x.l.last) (aj rfl rfl (aC (St.cl 5 l7 rfl rfl))) ?_;refine qk [3,4,5,6,8,10,93] ?_;refine gF ?_
    cases aKp:(x.l.last)
    ·refine aZ (l':=[(3,pV b1 0),(4,pV b4 0),(5,pV b7 0),(6,pV b10 0),(8,pV qK 0),(10,.slice A9 k c9),(93,.bool false)]) tN (kM rfl (pQ (gF (aH (aH (ay (vv (aj rfl rfl (aC (St.cl 6 l7 rfl rfl))) ?_)))))));refine zQ ?_;have JW:=l7.eG [14,14,14,14,14,14,14];refine dF eQ (Gb (nn:=k) (rs:=acc) (by simp [<-ais]) (Ro.own (List.mem_iff_getElem?.2 ⟨0,rfl⟩)) NG.yD (by exact memT 8 rfl hL) oQ JW) ?_;rintro _ w92 (⟨aoH,rfl,DZ⟩ | ⟨auB,A87,c88,N89,aoH,rfl,awP,DZ⟩)
     ·refine ⟨_,rfl,?_⟩;refine zN 7 ?_;have hgr:uK x.l.q BR.1 y.b.evs.length (x.l.at_.toNat+x.l.evs.length) x.l.last=acc:=by
       rw [<-hM,Fw hG hm0 Jm oQ,if_neg (by simp [*])];exact List.append_nil _
      rw [TI hX hyb.symm qp oQ oQ oQ (by rw [hgr];exact aoH)];exact ⟨rfl,Wd.dL (X':=X) (z':=z) (Ls:=[.own 171 10 (.slice A9 k c9) k ((acc).flatMap dD.cells),.blk qK (bR BR.1 om c31) 57,.bJ 6 om BR.1.evs.length ((BR.1.evs).flatMap Ev.cells),.blk Av (bR y.b y.A y.c) 57,.blk b10 #[iV ((x.l.q:Nat):Int)] 3,.blk b7 (LX.row x) 140,.blk b4 #[pV kn 0] 106,.blk b1 #[pV kw 0] 95]) (fA:=R.fA) (fc:=R.fc) (fx:=R.fx) (sA:=R.sA) (sc:=R.sc) (tA:=R.tA) (tc:=R.tc) hkn bU hrr G hn DZ NG.more (λu hu=> .inl hu) (aF hX).symm G.fly.symm mH⟩
     refine ⟨_,rfl,?_⟩;refine zN 8 ?_;refine vv JK ?_;refine zN 2 ?_;refine jD (row':=dI n X.up (.slice A87 auB.length c88) X.syn (.slice (aD z.bb 0) 4 4) X.hints X.sure (.slice z.iA z.ix.length z.ic) (.func (.func 126) #[] #[pV qK 0,pV b4 0,pV b10 0,pV b7 0,pV b1 0]) X.turn) 0 DZ kQ ?_;intro w94 Lu;refine zQ ?_;refine bQ (l':=[]) trivial (aV (rs:=[]) (vs:=[]) rfl trivial ?_);have hgr:uK x.l.q BR.1 y.b.evs.length (x.l.at_.toNat+x.l.evs.length) x.l.last=acc:=by
      rw [<-hM,Fw hG hm0 Jm oQ,if_neg (by simp [*])];exact List.append_nil _
     rw [ae9 hX hyb.symm qp oQ oQ oQ (by rw [hgr];exact aoH)];refine ⟨rfl,Wd.fin (X':={ X with data:=auB,pend:=some (.got x.l.q BR.1 x.l.last) }) (z':={ z with tA:=A87,tc:=c88,pv:= .func (.func 126) #[] #[pV qK 0,pV b4 0,pV b10 0,pV b7 0,pV b1 0] }) (N:=N89) (Ls:=[.own 171 10 (.slice A9 k c9) k ((acc).flatMap dD.cells),.blk qK (bR BR.1 om c31) 57,.bJ 6 om BR.1.evs.length ((BR.1.evs).flatMap Ev.cells),.blk Av (bR y.b y.A y.c) 57,.blk b10 #[iV ((x.l.q:Nat):Int)] 3,.blk b7 (LX.row x) 140,.blk b4 #[pV kn 0] 106,.blk b1 #[pV kw 0] 95]) (fA:=R.fA) (fc:=R.fc) (fx:=R.fx) (sA:=R.sA) (sc:=R.sc) (tA:=R.tA) (tc:=R.tc) hkn bU hrr G hn Lu ?_ (λu hu=> .inl hu) rfl G.fly.symm mH⟩;refine { (NG.more:dW K _ n X z) with yD:=awP.mono mLN,nL:=?_ }
     show pI (K.nb n) K.wb _ _ _
     rw [hkn,bU];exact ⟨qK,b4,b10,b7,b1,⟨BR.1,om,c31⟩,x,rfl,(sD (List.mem_iff_getElem?.2 ⟨1,rfl⟩)),rfl,⟨(Ro.bJ (sD (List.mem_iff_getElem?.2 ⟨2,rfl⟩))),MO⟩,(sD (List.mem_iff_getElem?.2 ⟨6,rfl⟩)),(sD (List.mem_iff_getElem?.2 ⟨4,rfl⟩)),(sD (List.mem_iff_getElem?.2 ⟨5,rfl⟩)),rfl,(sD (List.mem_iff_getElem?.2 ⟨7,rfl⟩))⟩
    refine aZ (l':=[(3,pV b1 0),(4,pV b4 0),(5,pV b7 0),(6,pV b10 0),(8,pV qK 0),(10,.slice A9 k c9),(93,.bool true)]) tN (lY rfl (ay (vm ?_)));refine zN 2 ?_;refine cab eQ l7 (jh 6 x.l.q ⟨BR.1,om,c31⟩ _) ?_;intro w96 Au;refine NY Au ?_;intro b99 aif wT;refine dx (news:=[iV 6,iV ((x.l.q:Nat):Int),iV BR.1.ep,iV 0,iV 0,iV 0,iV 0,iV 0,iV 0,iV 0]) (xs':=(acc++[fG 6 x.l.q BR.1.ep 0 aO]).flatMap dD.cells) 1 wT (wn rfl) rfl rfl rfl rfl rfl rfl (St.lD (xs:=[iV 6,iV ((x.l.q:Nat):Int),iV BR.1.ep,iV 0,iV 0,iV 0,iV 0,iV 0,iV 0,iV 0]) 0 wT rfl rfl rfl) Tryz.underlying147 P9 rfl dQ (bM rfl) lQ oQ (iU (enc:=dD.cells) rfl rfl) ?_;intro aoI aoJ atY aGn aGo sJ;refine zN 8 ?_;have vG:=sJ.eG [15,15,15,15,15,15,15];refine dF eQ (Gb (nn:=k+1) (rs:=acc++[fG 6 x.l.q BR.1.ep 0 aO]) (by simp [<-ais]) (Ro.own (List.mem_iff_getElem?.2 ⟨1,rfl⟩)) NG.yD (by exact memT 9 rfl hL) oQ vG) ?_;rintro _ aoK (⟨ad3,rfl,uH⟩ | ⟨am6,ait,aiu,aBX,ad3,rfl,arO,uH⟩)
    ·refine ⟨_,rfl,?_⟩;refine zN 7 ?_;have hgr:uK x.l.q BR.1 y.b.evs.length (x.l.at_.toNat+x.l.evs.length) x.l.last=acc++[fG 6 x.l.q BR.1.ep 0 aO]:=by
      rw [<-hM,Fw hG hm0 Jm oQ,if_pos ‹_›]
     rw [TI hX hyb.symm qp oQ oQ oQ (by rw [hgr];exact ad3)];exact ⟨rfl,Wd.dL (X':=X) (z':=z) (Ls:=[.blk b99 #[iV 6,iV ((x.l.q:Nat):Int),iV BR.1.ep,iV 0,iV 0,iV 0,iV 0,iV 0,iV 0,iV 0] 171,.own 171 10 (.slice aoI (k+1) aoJ) (k+1) ((acc++[fG 6 x.l.q BR.1.ep 0 aO]).flatMap dD.cells),.blk qK (bR BR.1 om c31) 57,.bJ 6 om BR.1.evs.length ((BR.1.evs).flatMap Ev.cells),.blk Av (bR y.b y.A y.c) 57,.blk b10 #[iV ((x.l.q:Nat):Int)] 3,.blk b7 (LX.row x) 140,.blk b4 #[pV kn 0] 106,.blk b1 #[pV kw 0] 95]) (fA:=R.fA) (fc:=R.fc) (fx:=R.fx) (sA:=R.sA) (sc:=R.sc) (tA:=R.tA) (tc:=R.tc) hkn bU hrr G hn uH NG.more (λu hu=> .inl hu) (aF hX).symm G.fly.symm mH⟩
    refine ⟨_,rfl,?_⟩;refine zN 8 ?_;refine vv JK ?_;refine zN 2 ?_;refine jD (row':=dI n X.up (.slice ait am6.length aiu) X.syn (.slice (aD z.bb 0) 4 4) X.hints X.sure (.slice z.iA z.ix.length z.ic) (.func (.func 126) #[] #[pV qK 0,pV b4 0,pV b10 0,pV b7 0,pV b1 0]) X.turn) 0 uH kQ ?_;intro abJ wP;refine zQ ?_;refine bQ (l':=[]) trivial (aV (rs:=[]) (vs:=[]) rfl trivial ?_);have hgr:uK x.l.q BR.1 y.b.evs.length (x.l.at_.toNat+x.l.evs.length) x.l.last=acc++[fG 6 x.l.q BR.1.ep 0 aO]:=by
     rw [<-hM,Fw hG hm0 Jm oQ,if_pos ‹_›]
    rw [ae9 hX hyb.symm qp oQ oQ oQ (by rw [hgr];exact ad3)];refine ⟨rfl,Wd.fin (X':={ X with data:=am6,pend:=some (.got x.l.q BR.1 x.l.last) }) (z':={ z with tA:=ait,tc:=aiu,pv:= .func (.func 126) #[] #[pV qK 0,pV b4 0,pV b10 0,pV b7 0,pV b1 0] }) (N:=aBX) (Ls:=[.blk b99 #[iV 6,iV ((x.l.q:Nat):Int),iV BR.1.ep,iV 0,iV 0,iV 0,iV 0,iV 0,iV 0,iV 0] 171,.own 171 10 (.slice aoI (k+1) aoJ) (k+1) ((acc++[fG 6 x.l.q BR.1.ep 0 aO]).flatMap dD.cells),.blk qK (bR BR.1 om c31) 57,.bJ 6 om BR.1.evs.length ((BR.1.evs).flatMap Ev.cells),.blk Av (bR y.b y.A y.c) 57,.blk b10 #[iV ((x.l.q:Nat):Int)] 3,.blk b7 (LX.row x) 140,.blk b4 #[pV kn 0] 106,.blk b1 #[pV kw 0] 95]) (fA:=R.fA) (fc:=R.fc) (fx:=R.fx) (sA:=R.sA) (sc:=R.sc) (tA:=R.tA) (tc:=R.tc) hkn bU hrr G hn wP ?_ (λu hu=> .inl hu) rfl G.fly.symm mH⟩;refine { (NG.more:dW K _ n X z) with yD:=arO.mono mLN,nL:=?_ }
    show pI (K.nb n) K.wb _ _ _
    rw [hkn,bU];exact ⟨qK,b4,b10,b7,b1,⟨BR.1,om,c31⟩,x,rfl,(sD (List.mem_iff_getElem?.2 ⟨2,rfl⟩)),rfl,⟨(Ro.bJ (sD (List.mem_iff_getElem?.2 ⟨3,rfl⟩))),MO⟩,(sD (List.mem_iff_getElem?.2 ⟨7,rfl⟩)),(sD (List.mem_iff_getElem?.2 ⟨5,rfl⟩)),(sD (List.mem_iff_getElem?.2 ⟨6,rfl⟩)),rfl,(sD (List.mem_iff_getElem?.2 ⟨8,rfl⟩))⟩
   refine zN 16 ?_;have oZ:=rY.eG [13,13,13,13,13,13,13];rw [TH hX hyb.symm qp oQ oQ oQ];exact ⟨rfl,Wd.dL (X':=X) (z':=z) (Ls:=[.blk qK (bR BR.1 om c31) 57,.bJ 6 om BR.1.evs.length ((BR.1.evs).flatMap Ev.cells),.blk Av (bR y.b y.A y.c) 57,.blk b10 #[iV ((x.l.q:Nat):Int)] 3,.blk b7 (LX.row x) 140,.blk b4 #[pV kn 0] 106,.blk b1 #[pV kw 0] 95]) (fA:=R.fA) (fc:=R.fc) (fx:=R.fx) (sA:=R.sA) (sc:=R.sc) (tA:=R.tA) (tc:=R.tc) hkn bU hrr G hn oZ NG.more (λu hu=> .inl hu) (aF hX).symm G.fly.symm mH⟩
  refine zN 8 ?_;have oV:=tX.eG [11,11,11,11,11,11,11];rw [ae8 hX hyb.symm oQ];exact ⟨rfl,Wd.dL (X':=X) (z':=z) (Ls:=[.blk Av (bR y.b y.A y.c) 57,.blk b10 #[iV ((x.l.q:Nat):Int)] 3,.blk b7 (LX.row x) 140,.blk b4 #[pV kn 0] 106,.blk b1 #[pV kw 0] 95]) (fA:=R.fA) (fc:=R.fc) (fx:=R.fx) (sA:=R.sA) (sc:=R.sc) (tA:=R.tA) (tc:=R.tc) hkn bU hrr G hn oV NG.more (λu hu=> .inl hu) (aF hX).symm G.fly.symm mH⟩
 refine zN 14 ?_;have AQ:=tX.eG [11,11,11,11,11,11,11];rw [ae8 hX hyb.symm oQ];exact ⟨rfl,Wd.dL (X':=X) (z':=z) (Ls:=[.blk Av (bR y.b y.A y.c) 57,.blk b10 #[iV ((x.l.q:Nat):Int)] 3,.blk b7 (LX.row x) 140,.blk b4 #[pV kn 0] 106,.blk b1 #[pV kw 0] 95]) (fA:=R.fA) (fc:=R.fc) (fx:=R.fx) (sA:=R.sA) (sc:=R.sc) (tA:=R.tA) (tc:=R.tc) hkn bU hrr G hn AQ NG.more (λu hu=> .inl hu) (aF hX).symm G.fly.symm mH⟩
theorem V4 {P:Program} {t:TypeId} {xo yo:Operand} {w:World} {a b c:Nat} (h:c=a % b) (hb:b≠0):(do eqGuard .rem t xo yo (iV ((a:Nat):Int)) (iV ((b:Nat):Int));binOp .rem t (iV ((a:Nat):Int)) (iV ((b:Nat):Int)):Sem Value).run P w= .ok (iV ((c:Nat):Int)) w:=by
 subst h;have h1:((a:Int)).tmod (b:Int)=((a % b:Nat):Int):=by rw [Int.tmod_eq_emod_of_nonneg (Int.natCast_nonneg a)];rfl
 have h2: ¬ ((b:Int)=0):=oQ;simp [binOp,Op.intDiv,h2,h1,eqGuard_rem];exact λh=>absurd h hb
theorem BN {m:Cl} {n q:Nat} {X:Nd} {b:bn} (hX:m.ah n=X) (hq:q=X.turn % 4) (hb:X.bs q=b):m.wY n={ (m.put n { X with turn:=X.turn+1 }) with fly:=m.fly++iN n q b (X.sure q) }:=by
 subst hX;subst hq;subst hb;rfl
theorem dW.turn {K:CK} {L:List Fact} {n t:Nat} {X:Nd} {z:NX} (h:dW K L n X z):dW K L n { X with turn:=t } z:=⟨h.Ru,h.TG,h.yD,h.ixm,h.ixo,h.nL⟩
theorem awQ {fx:List LX} {x y:LX} {P:LX->Prop} (hx:P x) (hy:P y): ∀ u∈fx++[x,y],u∈fx\/P u:=λu hu=>(List.mem_append.1 hu).elim .inl λh=>by
 rcases List.mem_cons.1 h with h | h
 ·subst h;exact .inr hx
 rw [List.mem_singleton] at h;subst h;exact .inr hy
theorem Yy {K:CK} {B n kn kw:Nat} {w0 w:World} {fs:List Fact} {m:Cl} {H:List LX} (hn:n<5) (hkn:K.nb n=kn) (bU:K.wb=kw) (hu:Uk B w0) (hB1:m.fly.length<=1000000000) (hB2:m.aQ.length<=1000000000000) (HW:Wd K B w0 w fs m H) (htn:(m.ah n).turn<=1000000000000) (hv: ∀ q,q<4->au ((m.ah n).bs q)=0):
    Calls Tryz.prog 65 #[pV kw 0,pV kn 0] w (λe w'=>e= .returned (.tuple #[])/\Wd K B w0 w' fs (m.wY n) H):=by
 obtain ⟨R,G,S0⟩:=HW.open hn;have hfl:R.fx.length=m.fly.length:=by rw [<-G.fly,List.length_map]
 have NG:=G.kr n hn;obtain ⟨X,hX⟩: ∃ X,m.ah n=X:=⟨_,rfl⟩;obtain ⟨z,hz⟩: ∃ z,R.nx n=z:=⟨_,rfl⟩;rw [hX,hz] at S0 NG;have hL: ∀ f∈R.L,f∈gy K R m fs n:=λf h=>List.mem_append_right _ (List.mem_append_right _ h);obtain ⟨rr,hrr⟩: ∃ r,gy K R m fs n=r:=⟨_,rfl⟩;rw [hrr] at S0 hL;have S:St B w0 w (cN kn n X z z.pv (cF kw R m rr)):=by subst hkn;subst bU;exact S0
 clear S0 HW;have hlen:=(S.own 1 rfl).1;rw [gL (sz:=6) (λ_=>rfl)] at hlen;rw [hX] at hv htn;obtain ⟨q,hqt⟩: ∃ q,q=X.turn % 4:=⟨_,rfl⟩;have hq:q<4:=oQ;obtain ⟨y,hy,hyb,sW⟩:=NG.at_ hq;have Mq:=xJ (hyb▸hv _ hq);refine gu 89 Tryz.func65 ?_;refine cw [0,1] ?_;refine zN 6 ?_;refine vv (v:=iV ((q:Nat):Int)) (bE rfl rfl rfl (V4 hqt dQ)) ?_;refine zN 9 ?_;refine vv (v:=iV ((X.turn+1:Nat):Int)) fJ ?_;refine zN 2 ?_;refine jD (row':=dI n X.up (.slice z.tA X.data.length z.tc) X.syn (.slice (aD z.bb 0) 4 4) X.hints X.sure (.slice z.iA z.ix.length z.ic) (z.pv) (X.turn+1)) 0 S kQ ?_;intro w1 S2;refine zN 9 ?_;refine vv (jf q) ?_;refine vv (aj rfl rfl (cZ (cs:=BX.cells y) (Rd.uq (St.ord 1 S2 rfl) (λ_ _ h=>aW (enc:=BX.cells) (sz:=6) (λ_=>rfl) hy h)))) ?_;refine gq S2 fP ?_;intro b3 w4 S5;refine sa 0 S5 kQ ?_;intro w6 S7;refine zN 7 ?_;by_cases h8:y.b.role=2
 ·refine zN 9 ?_;have S9:=S7.eG [5,5];have qx:=S9.drew;refine aN 13 qx [1,0] ?_;refine aL 10 ?_;refine ak (v:=iV (y.b.ep+1)) 10 rfl (qx.pX [1,0]) (λ_ _=>fJ) ?_;refine ak (v:= .agg #[iV 2,iV ((n:Nat):Int),iV y.b.tg,iV ((q:Nat):Int),iV (y.b.ep+1),iV 0,iV 0,iV 0,iV 0,iV 0,iV 0,iV 0,iV 0,.slice none 0 0,.bool false,iV 0,iV 0,iV 0,iV 0,iV 0,iV 0,iV 0,iV 0]) 11 rfl (qx.pX [1,0]) (λ_ _=>gD) ?_;refine aU 12 ?_;refine jI 12 rfl eQ (gV (x:=⟨vQ n q y.b,none,0⟩) qx oQ) ?_;rintro _ MW ⟨rfl,A23,c24,aBY,aBZ,qy⟩;refine ⟨_,rfl,?_⟩;refine aL 2 ?_;refine zN 36 ?_;have qH:=qy.aP [2];have Cj:=qH.eG [6,6,3,3,6,6,6];have hdl:iN n q y.b (X.sure q)=[vQ n q y.b]:=by
   unfold iN
   (rw [if_pos (by first | omega | exact ⟨by omega,by omega,by assumption⟩),if_neg (by first | omega | (rintro ⟨h1,h2,h3⟩;first | omega | simp_all)),if_neg (by first | omega | (rintro ⟨h1,h2,h3⟩;first | omega | simp_all))])<;>rfl
  rw [BN hX hqt hyb.symm];have hfx:=aBZ;exact ⟨rfl,Wd.dL (X':={ X with turn:=X.turn+1 }) (z':=z) (Ls:=[]) (fA:=A23) (fc:=c24) (fx:=aBY) (sA:=R.sA) (sc:=R.sc) (tA:=R.tA) (tc:=R.tc) hkn bU hrr G hn Cj (dW.turn NG.more) (by rw [hfx];exact oD (iW rfl)) rfl (by rw [hfx,hdl,List.map_append,G.fly];rfl) (λu h=> .inl h)⟩
 refine zN 4 ?_;by_cases h31:y.b.role=3
 ·refine zN 5 ?_;have pU:=S7.eG [5,5];have rW:=pU.drew;refine aN 13 rW [1,0] ?_;refine aL 10 ?_;refine ak (v:=iV (y.b.ep+1)) 10 rfl (rW.pX [1,0]) (λ_ _=>fJ) ?_;refine ak (v:= .agg #[iV 2,iV ((n:Nat):Int),iV y.b.tg,iV ((q:Nat):Int),iV (y.b.ep+1),iV 0,iV 0,iV 0,iV 0,iV 0,iV 0,iV 0,iV 0,.slice none 0 0,.bool false,iV 0,iV 0,iV 0,iV 0,iV 0,iV 0,iV 0,iV 0]) 11 rfl (rW.pX [1,0]) (λ_ _=>gD) ?_;refine aU 12 ?_;refine jI 12 rfl eQ (gV (x:=⟨vQ n q y.b,none,0⟩) rW oQ) ?_;rintro _ VK ⟨rfl,A46,c47,aKq,auC,uX⟩;refine ⟨_,rfl,?_⟩;refine aL 2 ?_;refine zN 17 ?_;refine vv (v:= .agg #[iV 5,iV ((n:Nat):Int),iV (-2),iV ((q:Nat):Int),iV 0,iV 0,iV (-1),iV 0,iV 0,iV 0,iV 0,iV 0,iV 0,.slice none 0 0,.bool false,iV 0,iV 0,iV 0,iV 0,iV 0,iV 0,iV 0,iV 0]) gD ?_;refine dF eQ (gV (x:=⟨Si n q,none,0⟩) uX (by simp only [auC,List.length_append,List.length_cons,List.length_nil];omega)) ?_;rintro _ w56 ⟨rfl,A52,c53,auD,aB0,qW⟩;refine ⟨_,rfl,?_⟩;refine zN 26 ?_;have D6:=qW.aP [2];have Ar:=D6.eG [6,6,3,3,6,6,6];have hdl:iN n q y.b (X.sure q)=[vQ n q y.b,Si n q]:=by
   unfold iN
   (rw [if_pos (by first | omega | exact ⟨by omega,by omega,by assumption⟩),if_pos (by first | omega | exact ⟨by omega,by omega,by assumption⟩),if_neg (by first | omega | (rintro ⟨h1,h2,h3⟩;first | omega | simp_all))])<;>rfl
  rw [BN hX hqt hyb.symm];have hfx:auD=R.fx++[⟨vQ n q y.b,none,0⟩,⟨Si n q,none,0⟩]:=by rw [aB0,auC];simp
  exact ⟨rfl,Wd.dL (X':={ X with turn:=X.turn+1 }) (z':=z) (Ls:=[]) (fA:=A52) (fc:=c53) (fx:=auD) (sA:=R.sA) (sc:=R.sc) (tA:=R.tA) (tc:=R.tc) hkn bU hrr G hn Ar (dW.turn NG.more) (by rw [hfx];exact awQ (iW rfl) (iW rfl)) rfl (by rw [hfx,hdl,List.map_append,G.fly];rfl) (λu h=> .inl h)⟩
 refine zN 22 ?_;by_cases h60:y.b.role=1
 ·refine zN 4 ?_;by_cases h61:1<y.b.ep
  ·refine zN 7 ?_;refine vg (v:=pV kn (13+q*1)) (aR rfl rfl rfl (fH q Tryz.underlying110 kQ rfl hq)) ?_;refine vg (aj rfl rfl (aC (St.cl 1 S7 rfl (alj hq)))) ?_
   cases aud:(X.sure q)
   ·refine zN 5 ?_;have vP:=S7.eG [5,5];have S64:=vP.drew;refine aN 15 S64 [1,0] ?_;refine aL 8 ?_;refine ak (v:=iV (y.b.ep-1)) 8 rfl (S64.pX [1,0]) (λ_ _=>ysu) ?_;refine aL 4 ?_;refine ak (v:= .agg #[iV 5,iV ((n:Nat):Int),iV (-2),iV ((q:Nat):Int),iV (y.b.ep-1),iV 0,iV ((n:Nat):Int),iV 0,iV 0,iV 0,iV 0,iV 0,iV 0,.slice none 0 0,.bool false,iV 0,iV 0,iV 0,iV 0,iV 0,iV 0,iV 0,iV 0]) 13 rfl (S64.pX [1,0]) (λ_ _=>gD) ?_;refine aU 14 ?_;refine jI 14 rfl eQ (gV (x:=⟨MK n q y.b,none,0⟩) S64 oQ) ?_;rintro _ w83 ⟨rfl,A79,c80,aB1,aB2,FZ⟩;refine ⟨_,rfl,?_⟩;refine aL 2 ?_;refine bQ (l':=[]) trivial (aV (rs:=[]) (vs:=[]) rfl trivial ?_);have JW:=FZ.aP [2];have Cn:=JW.eG [6,6,3,3,6,6,6];have hdl:iN n q y.b (X.sure q)=[MK n q y.b]:=by
     unfold iN
     (rw [if_neg (by first | omega | (rintro ⟨h1,h2,h3⟩;first | omega | simp_all)),if_neg (by first | omega | (rintro ⟨h1,h2,h3⟩;first | omega | simp_all)),if_pos (by first | omega | exact ⟨by omega,by omega,by assumption⟩)])<;>rfl
    rw [BN hX hqt hyb.symm];have hfx:=aB2;exact ⟨rfl,Wd.dL (X':={ X with turn:=X.turn+1 }) (z':=z) (Ls:=[]) (fA:=A79) (fc:=c80) (fx:=aB1) (sA:=R.sA) (sc:=R.sc) (tA:=R.tA) (tc:=R.tc) hkn bU hrr G hn Cn (dW.turn NG.more) (by rw [hfx];exact oD (iW rfl)) rfl (by rw [hfx,hdl,List.map_append,G.fly];rfl) (λu h=> .inl h)⟩
   refine zN 7 ?_;have Ez:=S7.aP [0];have hdl:iN n q y.b (X.sure q)=[]:=by
    unfold iN
    (rw [if_neg (by first | omega | (rintro ⟨h1,h2,h3⟩;first | omega | simp_all)),if_neg (by first | omega | (rintro ⟨h1,h2,h3⟩;first | omega | simp_all)),if_neg (by first | omega | (rintro ⟨h1,h2,h3⟩;first | omega | simp_all))])<;>rfl
   rw [BN hX hqt hyb.symm];exact ⟨rfl,Wd.dL (X':={ X with turn:=X.turn+1 }) (z':=z) (Ls:=[]) (fA:=R.fA) (fc:=R.fc) (fx:=R.fx) (sA:=R.sA) (sc:=R.sc) (tA:=R.tA) (tc:=R.tc) hkn bU hrr G hn Ez (dW.turn NG.more) (λu hu=> .inl hu) rfl (by rw [hdl,G.fly,List.append_nil]) (λu h=> .inl h)⟩
  refine zN 16 ?_;have JN:=S7.aP [0];have hdl:iN n q y.b (X.sure q)=[]:=by
   unfold iN
   (rw [if_neg (by first | omega | (rintro ⟨h1,h2,h3⟩;first | omega | simp_all)),if_neg (by first | omega | (rintro ⟨h1,h2,h3⟩;first | omega | simp_all)),if_neg (by first | omega | (rintro ⟨h1,h2,h3⟩;first | omega | simp_all))])<;>rfl
  rw [BN hX hqt hyb.symm];exact ⟨rfl,Wd.dL (X':={ X with turn:=X.turn+1 }) (z':=z) (Ls:=[]) (fA:=R.fA) (fc:=R.fc) (fx:=R.fx) (sA:=R.sA) (sc:=R.sc) (tA:=R.tA) (tc:=R.tc) hkn bU hrr G hn JN (dW.turn NG.more) (λu hu=> .inl hu) rfl (by rw [hdl,G.fly,List.append_nil]) (λu h=> .inl h)⟩
 refine zN 20 ?_;have GJ:=S7.aP [0];have hdl:iN n q y.b (X.sure q)=[]:=by
  unfold iN
  (rw [if_neg (by first | omega | (rintro ⟨h1,h2,h3⟩;first | omega | simp_all)),if_neg (by first | omega | (rintro ⟨h1,h2,h3⟩;first | omega | simp_all)),if_neg (by first | omega | (rintro ⟨h1,h2,h3⟩;first | omega | simp_all))])<;>rfl
 rw [BN hX hqt hyb.symm];exact ⟨rfl,Wd.dL (X':={ X with turn:=X.turn+1 }) (z':=z) (Ls:=[]) (fA:=R.fA) (fc:=R.fc) (fx:=R.fx) (sA:=R.sA) (sc:=R.sc) (tA:=R.tA) (tc:=R.tc) hkn bU hrr G hn GJ (dW.turn NG.more) (λu hu=> .inl hu) rfl (by rw [hdl,G.fly,List.append_nil]) (λu h=> .inl h)⟩
abbrev hMf (kw:Nat):Int->Option Value:=λy=>if y=6 then some (.func (.func 90) #[pV kw 0] #[]) else (λy=>if y=4 then some (.func (.func 89) #[pV kw 0] #[]) else (λy=>if y=3 then some (.func (.func 88) #[pV kw 0] #[]) else (λy=>if y=2 then some (.func (.func 87) #[pV kw 0] #[]) else (λy=>if y=0 then some (.func (.func 86) #[pV kw 0] #[]) else (λ_=>none) y) y) y) y) y
abbrev hMk (kw:Nat):Obj->Prop:=p9 tP 3 (hMf kw) 5
theorem Mr (kw:Nat) (w:World):
    Calls Tryz.prog 64 #[pV kw 0] w (λe w'=> ∃ b,e= .returned (.map (some b))/\St w.heap.size w w' [.loc b (hMk kw)]):=by
 have S:=St.start w;refine gu 15 Tryz.func64 ?_;refine cw [0] ?_;refine zN 7 ?_;refine Kh (k:=3) S (wn rfl) rfl rfl rfl ?_;intro b1 w2 S3;refine zQ ?_;refine vv JK ?_;refine kG (e:=173) 0 S3 (wn rfl) rfl rfl rfl rfl rfl rfl Tryz.underlying3 Tryz.underlying174 dQ dQ ?_;intro w4 S5;refine zQ ?_;refine vv JK ?_;refine kG (e:=173) 0 S5 (wn rfl) rfl rfl rfl rfl rfl rfl Tryz.underlying3 Tryz.underlying174 dQ dQ ?_;intro w6 S7;refine zQ ?_;refine vv JK ?_;refine kG (e:=173) 0 S7 (wn rfl) rfl rfl rfl rfl rfl rfl Tryz.underlying3 Tryz.underlying174 dQ dQ ?_;intro w8 S9;refine zQ ?_;refine vv JK ?_;refine kG (e:=173) 0 S9 (wn rfl) rfl rfl rfl rfl rfl rfl Tryz.underlying3 Tryz.underlying174 dQ dQ ?_;intro ZE qI;refine zQ ?_;refine vv JK ?_;refine kG (e:=173) 0 qI (wn rfl) rfl rfl rfl rfl rfl rfl Tryz.underlying3 Tryz.underlying174 dQ dQ ?_;intro ZC uZ;refine zN 6 ?_;exact ⟨b1,rfl,uZ⟩
end
end Go.Proofs.YtlfgjcahpppbbaaGreatDoor
