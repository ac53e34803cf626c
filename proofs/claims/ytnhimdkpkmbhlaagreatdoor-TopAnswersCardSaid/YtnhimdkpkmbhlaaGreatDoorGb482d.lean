import Derived.Test.YtnhimdkpkmbhlaaGreatDoorG1b68e
import Derived.Test.YtnhimdkpkmbhlaaGreatDoorG73f2f
set_option maxRecDepth 100000
set_option maxHeartbeats 8000000
set_option linter.unusedSimpArgs false
set_option linter.unusedVariables false
namespace Go.Proofs.YtnhimdkpkmbhlaaGreatDoor
section
open ChangeShapes WideShapes RowKit
structure sO where
 num:Int
 ans:iH
 pl:Pl
structure iJ where
 kd:Int:=0
 fr:Int:=0
 tg:Int:=0
 q:Nat:=0
 ep:Int:=0
 at_:Int:=0
 nd:Int:=0
 op:Ev:=aS
 evs:List Ev:=[]
 last:Bool:=false
 num:Int:=0
 aZ:sO:=⟨0,gV,mg⟩
structure jA where
 nd:Nat
 q:Nat
 ep:Int
 op:Ev
 ans:iH
 num:Int
inductive gI
 | serve (q:Nat) (evs:List Ev) (op:Ev) (num:Int) (a:iH)
 | begun (q:Nat) (b:bI)
 | got (q:Nat) (b:bI) (last:Bool)
 | iZ (q:Nat) (b:bI) (at_:Int)
 | forget (q:Nat) (b:bI)
structure Nd where
 up:Bool
 data:List UInt8
 syn:Int
 bs:Nat->bI
 hints:Nat->Pl
 sure:Nat->Bool
 inbox:List iJ
 pend:Option gI
 turn:Nat
structure Cl where
 au:Nat->Nd
 off:Dir
 fly:List iJ
 shown:Nat->Nat->Int×Int
 aP:List jA
 aZ:List sO
 calls:Nat
def upd {α:Type} (f:Nat->α) (k:Nat) (v:α):Nat->α:=λj=>if j=k then v else f j
def nQ {α:Type} (f:Nat->Nat->α) (n q:Nat) (v:α):Nat->Nat->α:=λi j=>if i=n/\j=q then v else f i j
def Cl.put (w:Cl) (n:Nat) (x:Nd):Cl:={ w with au:=upd w.au n x }
def Cl.cK (w:Cl) (n q:Nat) (b:bI):Cl:=w.put n { w.au n with bs:=upd (w.au n).bs q b }
def Cl.send (w:Cl) (l:iJ):Cl:={ w with fly:=w.fly++[l] }
def Nd.blank (x:Nd):Nd:={ x with bs:=λ_=>bG,sure:=λ_=>false,hints:=λ_=>nowhere,inbox:=[],pend:=none }
def nd0:Nd:=⟨true,[],0,λ_=>bG,λ_=>nowhere,λ_=>false,[],none,0⟩
def zW:Cl:=⟨λ_=>nd0,⟨nowhere,nowhere,nowhere,nowhere⟩,[],λ_ _=>(0,0),[],[],0⟩
def fG (l:List UInt8) (s:Int):List dM->Option (List UInt8)
 | []=>some l
 | r::rs=>if (iU l s r).2.2≠0 then none else fG (iU l s r).1 s rs
def Nd.write (x:Nd) (rs:List dM):Option Nd:=(fG x.data x.syn rs).map λd=>{ x with data:=d }
def fU (k:Int) (q:Nat) (ep pe:Int) (e:Ev):dM:=⟨k,q,ep,pe,e⟩
def Cl.tell (w:Cl) (n q:Nat) (e:Ev) (a:iH) (num:Int):Cl:=
 { w with aP:=w.aP++[⟨n,q,((w.au n).bs q).ep,e,a,num⟩],shown:=nQ w.shown n q (((w.au n).bs q).ep,((w.au n).bs q).evs.length) }
def serves (b:bI):Prop:=b.role=1\/b.role=2
instance (b:bI):Decidable (serves b):=by unfold serves;exact inferInstance
def om (n:Nat) (num:Int) (a:iH) (p:Pl):iJ:={ kd:=1,fr:=n,tg:= -1,aZ:=⟨num,a,p⟩ }
def Cl.done (w:Cl) (n q:Nat) (op:Ev) (num:Int) (a:iH):Cl:=
 if serves ((w.au n).bs q) then (w.tell n q op a num).send (om n num a nowhere) else w.send (om n num a ((w.au n).hints q))
noncomputable def Cl.serve (w:Cl) (n:Nat) (l:iJ):Cl:=
 if (gN ((w.au n).bs l.q) l.op).2.2.1=false then w.done n l.q l.op l.num (gN ((w.au n).bs l.q) l.op).2.1
 else match (w.au n).write [fU 2 l.q (gN ((w.au n).bs l.q) l.op).1.ep 0 l.op] with
  | none=>w.done n l.q l.op l.num (qQ 14)
  | some x=>w.put n { x with pend:=some (.serve l.q (gN ((w.au n).bs l.q) l.op).1.evs l.op l.num (gN ((w.au n).bs l.q) l.op).2.1) }
def zy (n q:Nat) (b:bI):iJ:={ kd:=3,fr:=n,tg:=b.fr,q:=q,ep:=b.ep,at_:=b.evs.length }
def Cl.have_ (w:Cl) (n q:Nat):Cl:=w.send (zy n q ((w.au n).bs q))
noncomputable def Cl.offered (w:Cl) (n:Nat) (l:iJ):Cl:=
 if (dH ((w.au n).bs l.q) l.ep l.fr).2≠0 then w
 else if (dH ((w.au n).bs l.q) l.ep l.fr).1.ep=((w.au n).bs l.q).ep then w.have_ n l.q
 else match (w.au n).write [fU 4 l.q (dH ((w.au n).bs l.q) l.ep l.fr).1.ep l.fr aS] with
  | none=>w
  | some x=>w.put n { x with pend:=some (.begun l.q (dH ((w.au n).bs l.q) l.ep l.fr).1) }
def sP (q:Nat) (b:bI) (k m:Nat) (last:Bool):List dM:=
 ((b.evs.take m).drop k).map (λx=>fU 5 q b.ep 0 x)++if last=true then [fU 6 q b.ep 0 aS] else []
noncomputable def Cl.got (w:Cl) (n:Nat) (l:iJ):Cl:=
 if ((w.au n).bs l.q).role≠4\/((w.au n).bs l.q).fr≠l.fr then w
 else if (dB ((w.au n).bs l.q) l.ep l.at_ l.evs l.last).2=2 then w.have_ n l.q
 else if (dB ((w.au n).bs l.q) l.ep l.at_ l.evs l.last).2≠0\/(dB ((w.au n).bs l.q) l.ep l.at_ l.evs l.last).1.evs.length=((w.au n).bs l.q).evs.length then w
 else match (w.au n).write (sP l.q (dB ((w.au n).bs l.q) l.ep l.at_ l.evs l.last).1 ((w.au n).bs l.q).evs.length (l.at_.toNat+l.evs.length) l.last) with
  | none=>w
  | some x=>w.put n { x with pend:=some (.got l.q (dB ((w.au n).bs l.q) l.ep l.at_ l.evs l.last).1 l.last) }
noncomputable def Ti (n q:Nat) (b:bI) (at_:Int):iJ:={ kd:=4,fr:=n,tg:=b.tg,q:=q,ep:=b.ep+1,at_:=at_,evs:=(ji b at_).1,last:=(ji b at_).2.1 }
noncomputable def Cl.part (w:Cl) (n q:Nat) (at_:Int):Cl:=if (ji ((w.au n).bs q) at_).2.2≠0 then w else w.send (Ti n q ((w.au n).bs q) at_)
noncomputable def Cl.caught (w:Cl) (n:Nat) (l:iJ):Cl:=
 if ((w.au n).bs l.q).tg≠l.fr\/((w.au n).bs l.q).ep+1≠l.ep then w
 else if (bK ((w.au n).bs l.q) l.at_).2≠0 then w
 else if (bK ((w.au n).bs l.q) l.at_).1.role=((w.au n).bs l.q).role then (w.cK n l.q (bK ((w.au n).bs l.q) l.at_).1).part n l.q l.at_
 else match (w.au n).write [fU 3 l.q (bK ((w.au n).bs l.q) l.at_).1.ep (bK ((w.au n).bs l.q) l.at_).1.tg aS] with
  | none=>w
  | some x=>w.put n { x with pend:=some (.iZ l.q (bK ((w.au n).bs l.q) l.at_).1 l.at_) }
def Nd.hear (x:Nd) (n:Nat) (l:iJ):Nd:=
 { x with hints:=if (x.hints l.q).epoch<l.ep then upd x.hints l.q ⟨l.nd,l.ep⟩ else x.hints,sure:=if l.nd=n/\(x.bs l.q).ep=l.ep then upd x.sure l.q true else x.sure }
noncomputable def Cl.learnt (w:Cl) (n:Nat) (l:iJ):Cl:=
 if (gq ((w.au n).bs l.q) l.ep).2≠0 then w.put n ((w.au n).hear n l)
 else match ((w.au n).hear n l).write [fU 7 l.q ((w.au n).bs l.q).ep 0 aS] with
  | none=>w.put n ((w.au n).hear n l)
  | some x=>w.put n { x with pend:=some (.forget l.q (gq ((w.au n).bs l.q) l.ep).1) }
def AQ (n q:Nat) (b:bI):iJ:={ kd:=2,fr:=n,tg:=b.tg,q:=q,ep:=b.ep+1 }
def YP (n q:Nat):iJ:={ kd:=5,fr:=n,tg:= -2,q:=q,nd:= -1 }
def Tj (n q:Nat) (b:bI):iJ:={ kd:=5,fr:=n,tg:= -2,q:=q,ep:=b.ep-1,nd:=n }
def j6 (n q:Nat) (b:bI) (sure:Bool):List iJ:=
 (if b.role=2\/b.role=3 then [AQ n q b] else [])++(if b.role=3 then [YP n q] else [])++if b.role=1/\1<b.ep/\sure=false then [Tj n q b] else []
def Cl.Md (w:Cl) (n:Nat):Cl:=
 let q:=(w.au n).turn % 4
 { (w.put n { w.au n with turn:=(w.au n).turn+1 }) with fly:=w.fly++j6 n q ((w.au n).bs q) ((w.au n).sure q) }
noncomputable def Cl.sj (w:Cl) (n:Nat):gI->Cl
 | .serve q evs op num a=>(w.cK n q { (w.au n).bs q with evs:=evs }).done n q op num a
 | .begun q b=>(w.cK n q b).have_ n q
 | .got q b last=>if last=true then ((w.cK n q b).put n { (w.cK n q b).au n with sure:=upd (w.au n).sure q false }).tell n q bJ gV (-1) else (w.cK n q b).have_ n q
 | .iZ q b at_=>(w.cK n q b).part n q at_
 | .forget q b=>w.cK n q b
noncomputable def Cl.handle (w:Cl) (n:Nat) (l:iJ):Cl:=
 if l.kd=0 then w.serve n l else if l.kd=2 then w.offered n l else if l.kd=3 then w.caught n l else if l.kd=4 then w.got n l else w.learnt n l
noncomputable def Cl.drain (n:Nat):List iJ->Cl->Cl
 | [],w=>w
 | l::r,w=>if ((w.put n { w.au n with inbox:=r }).handle n l |>.au n).pend=none then Cl.drain n r ((w.put n { w.au n with inbox:=r }).handle n l) else (w.put n { w.au n with inbox:=r }).handle n l
noncomputable def Cl.step (w:Cl) (n:Nat):Cl:=
 if (w.au n).up=false then w else match (w.au n).pend with
  | some p=>(w.put n { w.au n with syn:=(w.au n).data.length,pend:=none }).sj n p
  | none=>if ((Cl.drain n (w.au n).inbox w).au n).pend=none then (Cl.drain n (w.au n).inbox w).Md n else Cl.drain n (w.au n).inbox w
def oQ (tg:Int) (q:Nat) (p:Pl):iJ:={ kd:=6,fr:= -2,tg:=tg,q:=q,ep:=p.epoch,nd:=p.node }
noncomputable def gu (d:Dir) (l:iJ):Dir:=if 0<=l.nd/\(Kg d l.q l.ep l.nd).2=0 then (Kg d l.q l.ep l.nd).1 else d
noncomputable def Cl.come (w:Cl) (l:iJ):Cl:=
 if l.tg= -1 then { w with aZ:=w.aZ++[l.aZ] }
 else if l.tg= -2 then
  if (bO (gu w.off l) l.q).2=0 then { w with off:=gu w.off l,fly:=w.fly++[oQ l.fr l.q (bO (gu w.off l) l.q).1] } else { w with off:=gu w.off l }
 else if (w.au l.tg.toNat).up=true then w.put l.tg.toNat { w.au l.tg.toNat with inbox:=(w.au l.tg.toNat).inbox++[l] } else w
noncomputable def Cl.pick (w:Cl) (at_:Nat) (comes stays:Bool):Cl:=
 match w.fly[at_ % w.fly.length]? with
 | none=>w
 | some l=>
  let w1:=if stays=true then w else { w with fly:=w.fly.eraseIdx (at_ % w.fly.length) }
  if comes=true then w1.come l else w1
noncomputable def Cl.make (w:Cl) (n q:Nat):Cl:=
 if (w.au n).up=false\/(w.au n).pend.isSome=true\/(vU w.off q n).2≠0 then w
 else if (iL ((w.au n).bs q) 1).2≠0 then w
 else match (w.au n).write [fU 1 q (iL ((w.au n).bs q) 1).1.ep 0 aS] with
  | none=>w
  | some x=>{ w.put n { x with syn:=x.data.length,bs:=upd x.bs q (iL ((w.au n).bs q) 1).1 } with off:=(vU w.off q n).1,shown:=nQ w.shown n q (1,0) }
noncomputable def Cl.move (w:Cl) (q:Nat) (tg:Int):Cl:=
 if (bO w.off q).2≠0\/(bO w.off q).1.node=tg\/(w.au (bO w.off q).1.node.toNat).up=false then w
 else if (yP ((w.au (bO w.off q).1.node.toNat).bs q) tg).2=0/\(yP ((w.au (bO w.off q).1.node.toNat).bs q) tg).1.ep=(bO w.off q).1.epoch then
  w.cK (bO w.off q).1.node.toNat q (yP ((w.au (bO w.off q).1.node.toNat).bs q) tg).1
 else w
noncomputable def Bl (data:List UInt8) (syn:Int):Option (List bI):=(allM (sJ (jw data syn).1 (jw data syn).2.1).1).1
noncomputable def cu (data:List UInt8) (syn:Int):Nat->bI:=λq=>GQ ((Bl data syn).getD []) q
def Cl.recovered (w:Cl) (n q:Nat) (evs:List Ev) (an:List iH):List Nat->Cl
 | []=>w
 | i::r=>Cl.recovered (w.tell n q (evs.getD i aS) (an.getD i gV) (-1)) n q evs an r
noncomputable def Cl.recover (w:Cl) (n q:Nat):Cl:=
 if (w.shown n q).1≠((w.au n).bs q).ep then w.tell n q bJ gV (-1)
 else w.recovered n q ((w.au n).bs q).evs (aR ((w.au n).bs q).evs).2.1 ((List.range ((w.au n).bs q).evs.length).drop (w.shown n q).2.toNat)
noncomputable def eT (syn:Int) (bs:Nat->bI):List Nat->List UInt8->Option (List UInt8)
 | [],d=>some d
 | q::r,d=>if (bs q).role≠1 then eT syn bs r d else if (fJ (bs q)).2≠0 then none else
  match fG d syn [fU 2 q (bs q).ep 0 bJ] with
  | none=>none
  | some d'=>eT syn bs r d'
noncomputable def Cl.woken (n:Nat) (bs:Nat->bI):List Nat->Cl->Cl
 | [],w=>w
 | q::r,w=>if (bs q).role≠1 then Cl.woken n bs r w else Cl.woken n bs r (((w.recover n q).cK n q (fJ (bs q)).1).tell n q bJ gV (-1))
noncomputable def Cl.start (w:Cl) (n:Nat):Cl:=
 if (w.au n).up=true then w else
 match eT (jw (w.au n).data (w.au n).syn).2.1 (cu (w.au n).data (w.au n).syn) [0,1,2,3] (jw (w.au n).data (w.au n).syn).1 with
 | none=>w
 | some d=>Cl.woken n (cu (w.au n).data (w.au n).syn) [0,1,2,3] (w.put n { (w.au n).blank with up:=true,data:=d,syn:=d.length,bs:=cu (w.au n).data (w.au n).syn })
def Cl.crash (w:Cl) (n:Nat) (keep:Int):Cl:=
 if (w.au n).up=true then w.put n { (w.au n).blank with up:=false,data:=(nY (w.au n).data (w.au n).syn keep).1,syn:=(nY (w.au n).data (w.au n).syn keep).2.1 } else w
def Ac.op (a:Ac):Ev:=⟨a.ek,a.ep,a.ei,a.eb,a.eh,a.en⟩
def Tk (n:Int) (q:Nat) (op:Ev) (num:Int):iJ:={ kd:=0,fr:= -1,tg:=n,q:=q,op:=op,num:=num }
noncomputable def Cl.all (w:Cl):Cl:=w.fly.foldl Cl.come { w with fly:=[] }
noncomputable def Cl.act (w:Cl) (a:Ac):Cl:=
 if a.kd=1 then w.make a.nd.toNat a.qu.toNat
 else if a.kd=2 then { w with fly:=w.fly++[Tk a.nd a.qu.toNat a.op w.calls],calls:=w.calls+1 }
 else if a.kd=3 then w.step a.nd.toNat
 else if a.kd=4\/a.kd=5\/a.kd=6 then w.pick a.at_.toNat (decide (a.kd≠5)) (decide (a.kd=6))
 else if a.kd=7 then w.all
 else if a.kd=8 then w.crash a.nd.toNat a.kp
 else if a.kd=9 then w.start a.nd.toNat
 else w.move a.qu.toNat a.nd
noncomputable def Cl.run (w:Cl) (l:List Ac):Cl:=l.foldl Cl.act w
noncomputable def Nd.view (x:Nd):Nat->bI:=if x.up=true then x.bs else cu x.data x.syn
theorem tQ: ∀ (a b:List Ev) (Q:Qd) (an:List iH),iq Q an (a++b)=(iq Q an a).bind λr=>iq r.1 r.2 b
 | [],b,Q,an=>rfl
 | e::a,b,Q,an=>by
  simp only [List.cons_append,iq]
  split
  ·exact tQ a b _ _
  rfl
def good (l:List Ev):Prop:=(aR l).2.2=0
section
variable {l:List Ev} {e:Ev} {k:Nat}
theorem tC:good l↔l.length<=2000/\ ∃ r,iq gH [] l=some r:=by
 unfold good
 constructor
 ·intro h;refine ⟨gB h,?_⟩;have hl: ¬ 2000<l.length:=by have:=gB h;omega
  cases hr:iq gH [] l with
  | none=>rw [Iw hl hr] at h;cases h
  | some r=>exact ⟨r,rfl⟩
 rintro ⟨h,r,hr⟩;rw [C8 (by omega) hr]
theorem GR {r:Qd×List iH} (h:l.length<=2000) (hr:iq gH [] l=some r):aR l=(r.1,r.2,0):=C8 (by omega) hr
theorem yV:good []:=tC.2 ⟨by simp,_,rfl⟩
theorem P5 {a b:List Ev} (h:good (a++b)):good a:=by
 obtain ⟨h1,r,hr⟩:=tC.1 h;rw [tQ] at hr;rw [List.length_append] at h1
 cases ha:iq gH [] a with
 | none=>rw [ha] at hr;cases hr
 | some s=>exact tC.2 ⟨by omega,s,ha⟩
theorem zX (h:good l):good (l.take k):=P5 (b:=l.drop k) (by rwa [List.take_append_drop])
theorem jS (h:good l):l.length<=2000:=gB h
theorem good_step (h:good (l++[e])):(jF (aR l).1 e).2.2.2=0/\(jF (aR l).1 e).2.2.1=true/\aR (l++[e])=((jF (aR l).1 e).1,(aR l).2.1++[(jF (aR l).1 e).2.1],0):=by
 obtain ⟨h1,r,hr⟩:=tC.1 h;rw [List.length_append] at h1;rw [tQ] at hr
 cases ha:iq gH [] l with
 | none=>rw [ha] at hr;cases hr
 | some s=>
  have hs:=GR (by omega) ha;rw [ha] at hr;simp only [Option.bind_some,iq] at hr
  split at hr
  ·rename_i hc
   rw [hs];refine ⟨hc.1,hc.2,?_⟩
   cases hr;refine GR (r:=((jF s.1 e).1,s.2++[(jF s.1 e).2.1])) (by rw [List.length_append];exact h1) ?_;rw [tQ,ha];simp only [Option.bind_some,iq];rw [if_pos hc]
  cases hr
theorem YQ (h:good l) (hl:l.length<2000) (hc:(jF (aR l).1 e).2.2.2=0) (hd:(jF (aR l).1 e).2.2.1=true):good (l++[e]):=by
 obtain ⟨h1,s,ha⟩:=tC.1 h;have hs:=GR h1 ha;rw [hs] at hc hd;refine tC.2 ⟨by simp;omega,((jF s.1 e).1,s.2++[(jF s.1 e).2.1]),?_⟩;rw [tQ,ha];simp only [Option.bind_some,iq];rw [if_pos ⟨hc,hd⟩]
theorem YR (h:good l):(aR l).2.1.length=l.length:=by
 obtain ⟨h1,s,ha⟩:=tC.1 h;rw [GR h1 ha];have:=(BM (by simp [gH]) ha).2;simpa using this
theorem zY (hk:k<l.length):l.take (k+1)=l.take k++[l[k]]:=by rw [List.take_add_one,List.getElem?_eq_getElem hk];rfl
end
noncomputable def rp:Qd->List jA->Option Qd
 | x,[]=>some x
 | x,s::r=>if (jF x s.op).2.2.2=0/\(jF x s.op).2.1=s.ans then rp (jF x s.op).1 r else none
theorem abD: ∀ (a b:List jA) (x:Qd),rp x (a++b)=(rp x a).bind λy=>rp y b
 | [],b,x=>rfl
 | s::a,b,x=>by
  simp only [List.cons_append,rp]
  split
  ·exact abD a b _
  rfl
theorem ahe {x y:Qd} {a:List jA} {s:jA} (h:rp x a=some y) (hc:(jF y s.op).2.2.2=0) (ha:(jF y s.op).2.1=s.ans):rp x (a++[s])=some (jF y s.op).1:=by
 rw [abD,h];simp only [Option.bind_some,rp];rw [if_pos ⟨hc,ha⟩]
structure Gh where
 m:Nat
 own:Nat->Nat
 len:Nat->Nat
 G:List Ev
 F:Nat
 t:Nat
def Gh.bd (g:Gh) (k:Nat):Nat:=if k=g.m then g.G.length else g.len k
def Gh.o (g:Gh):Nat:=g.own g.m
def Oth (g:Gh) (n:Nat) (b:bI):Prop:=
 (b.role=0/\0<=b.ep/\b.ep<g.m)\/
 (∃ k:Nat,b.role=3/\b.ep=k/\1<=k/\k<g.m/\g.own k=n/\b.evs=g.G.take (g.len k)/\b.tg=g.own (k+1))\/
 (∃ k:Nat,b.role=4/\b.ep=(k:Int)+1/\1<=k/\k<=g.m/\b.fr=g.own k/\b.evs=g.G.take b.evs.length/\b.evs.length<=g.bd k/\(k<g.m->g.own (k+1)≠n))
def LOk (g:Gh) (V:Nat->bI) (pl:Pl) (l:iJ):Prop:=
 (l.kd=2-> ∃ k:Nat,l.ep=(k:Int)+1/\1<=k/\k<=g.m/\l.fr=g.own k)/\
 (l.kd=4-> ∃ k:Nat,l.ep=(k:Int)+1/\1<=k/\k<=g.m/\l.fr=g.own k/\0<=l.at_/\l.evs=(g.G.drop l.at_.toNat).take l.evs.length/\l.at_.toNat+l.evs.length<=g.bd k/\
  (l.last=true->(k<g.m/\(g.own (k+1):Int)=l.tg)\/(k=g.m/\(V g.o).role=3/\(V g.o).tg=l.tg/\l.at_.toNat+l.evs.length=g.G.length)))/\
 (l.kd=5->0<=l.nd-> ∃ k:Nat,l.ep=k/\1<=k/\k<g.m/\(g.own (k+1):Int)=l.nd)/\
 (l.kd=6-> ∃ k:Nat,l.ep=k/\1<=k/\(k:Int)<=pl.epoch/\(g.own k:Int)=l.nd)
def Jz (g:Gh) (V:Nat->bI) (n:Nat):gI->Prop
 | .serve _ evs op _ a=>n=g.o/\serves (V n)/\evs=g.G++[op]/\(jF (aR g.G).1 op).2.1=a/\good evs
 | .begun _ b=> ∃ k:Nat,b=⟨4,(k:Int)+1,g.own k,0,0,[]⟩/\1<=k/\k<=g.m/\((V n).role=0\/(V n).role=4)/\(V n).ep< (k:Int)+1
 | .got _ b last=>(V n).role=4/\(last=false-> ∃ j,b={ V n with evs:=g.G.take j }/\(V n).evs.length<=j/\ ∀ k:Nat,(V n).ep=(k:Int)+1->j<=g.bd k)/\
   (last=true->(V n).ep=(g.m:Int)+1/\(V g.o).role=3/\(V g.o).tg=n/\b=⟨1,(g.m:Int)+1,0,0,0,g.G++[bJ]⟩/\good (g.G++[bJ]))
 | .iZ _ b _=>n=g.o/\(V n).role=2/\b={ V n with role:=3,rd:=0 }
 | .forget _ b=>(V n).role=3/\b=⟨0,(V n).ep,0,0,0,[]⟩/\(V n).ep<g.m
structure Oj (own:Nat->Nat) (t:Nat) (sv:List jA):Prop where
 each: ∀ s∈sv,∃ k:Nat,s.ep=k/\1<=k/\k<=t/\s.nd=own k
 two: ∀ i a b,sv[i]? =some a->sv[i+1]? =some b->b.ep=a.ep\/(b.ep=a.ep+1/\b.op=bJ)
 last: ∀ s,sv.getLast?=some s->s.ep=t
 nil:sv=[]->t=1
structure Inv (g:Gh) (V:Nat->bI) (P:Nat->Option gI) (U:Nat->Bool) (Lt:iJ->Prop) (pl:Pl) (sh:Nat->Int×Int) (sv:List jA):Prop where
 m1:1<=g.m
 apy: ∀ k,1<=k->k<=g.m->g.own k<5
 adj: ∀ k,1<=k->k<g.m->g.own k≠g.own (k+1)
 dir: ∃ d:Nat,pl=⟨g.own d,d⟩/\1<=d/\(d=g.m\/d+1=g.m)
 YS:(V g.o).ep=g.m
 aev:(V g.o).evs=g.G
 arl:(V g.o).role=1\/(V g.o).role=2\/(V g.o).role=3
 agd:(V g.o).role≠1->pl.epoch=g.m/\(V g.o).tg≠g.o/\0<=(V g.o).tg/\(V g.o).tg<5
 gd:good g.G
 ES: ∀ n,n<5->n≠g.o->Oth g n (V n)
 ge: ∀ k,1<=k->k<=g.m->(k:Int)<=(V (g.own k)).ep
 brk: ∀ k,1<=k->k<g.m->g.G[g.len k]? =some bJ/\g.len k<g.bd (k+1)
 wY: ∀ l,Lt l->LOk g V pl l
 qY: ∀ n,n<5-> ∀ p,P n=some p->U n=true/\Jz g V n p
 WM:(g.t=g.m/\sh g.o=((g.m:Int),(g.F:Int))/\g.F<=g.G.length)\/(g.t+1=g.m/\(sh g.o).1<g.m/\U g.o=false/\g.F+1=g.G.length/\g.G[g.F]? =some bJ)
 upF:U g.o=true->g.F=g.G.length
 slF:(V g.o).role=3->g.F=g.G.length
 sho: ∀ n,n<5->n≠g.o->(sh n).1<g.m
 rps:rp gH sv=some (aR (g.G.take g.F)).1
 svs:Oj g.own g.t sv
section
variable {g:Gh} {V:Nat->bI} {P:Nat->Option gI} {U:Nat->Bool} {Lt:iJ->Prop} {pl:Pl} {sh:Nat->Int×Int} {sv:List jA} {n:Nat} {l:iJ} {b:bI}
theorem Inv.aj0 (I:Inv g V P U Lt pl sh sv) {k:Nat} (h:1<=k) (h1:k<=g.m):g.bd k<=g.G.length:=by
 unfold Gh.bd
 split
 ·exact Nat.le_refl _
 have:=(I.brk k h (by omega)).1;exact Nat.le_of_lt (List.getElem?_eq_some_iff.1 this).1
theorem Inv.Tm (I:Inv g V P U Lt pl sh sv) {k:Nat} (h:1<=k) (h1:k<g.m):g.len k<g.G.length:=(List.getElem?_eq_some_iff.1 (I.brk k h h1).1).1
theorem Inv.who (I:Inv g V P U Lt pl sh sv) (hn:n<5) (h:serves (V n)):n=g.o:=by
 by_cases e:n=g.o
 ·exact e
 have:=I.ES n hn e;unfold serves at h
 rcases this with ⟨h1,_⟩ | ⟨k,h1,_⟩ | ⟨k,h1,_⟩<;>omega
theorem upd_same {α:Type} (f:Nat->α) (k:Nat) (v:α):upd f k v k=v:=if_pos rfl
theorem upd_ne {α:Type} {f:Nat->α} {k j:Nat} {v:α} (h:j≠k):upd f k v j=f j:=if_neg h
theorem aJ {α:Type} {f:Nat->α} {k:Nat} {v:α} (h:f k=v):upd f k v=f:=by
 funext j
 unfold upd
 split
 ·rename_i e;rw [e,h]
 rfl
theorem Inv.apB {Lt':iJ->Prop} (I:Inv g V P U Lt pl sh sv) (h: ∀ l,Lt' l->Lt l\/LOk g V pl l):Inv g V P U Lt' pl sh sv:=
 { I with wY:=λl hl=>(h l hl).elim (I.wY l) id }
theorem Inv.down (I:Inv g V P U Lt pl sh sv) (n:Nat):Inv g V (upd P n none) (upd U n false) Lt pl sh sv:=
 { I with
  qY:=λk hk p hp=>by
   by_cases e:k=n
   ·subst e;rw [upd_same] at hp;cases hp
   rw [upd_ne e] at hp⊢;exact I.qY k hk p hp
  WM:=by
   rcases I.WM with h | ⟨h1,h2,h3,h4⟩
   ·exact .inl h
   refine .inr ⟨h1,h2,?_,h4⟩;by_cases e:g.o=n
   ·rw [e,upd_same]
   rw [upd_ne e];exact h3
  upF:=λh=>by
   by_cases e:g.o=n
   ·rw [e,upd_same] at h;cases h
   rw [upd_ne e] at h;exact I.upF h }
theorem Inv.up (I:Inv g V P U Lt pl sh sv) (n:Nat) (h:n=g.o->g.t=g.m/\g.F=g.G.length):Inv g V P (upd U n true) Lt pl sh sv:=
 { I with
  qY:=λk hk p hp=>by
   obtain ⟨h1,h2⟩:=I.qY k hk p hp;refine ⟨?_,h2⟩;by_cases e:k=n
   ·rw [e,upd_same]
   rw [upd_ne e];exact h1
  WM:=by
   by_cases e:g.o=n
   ·obtain ⟨h1,h2⟩:=h e.symm
    rcases I.WM with h | ⟨h3,_⟩
    ·exact .inl h
    omega
   rw [upd_ne e];exact I.WM
  upF:=λh'=>by
   by_cases e:g.o=n
   ·exact (h e.symm).2
   rw [upd_ne e] at h';exact I.upF h' }
theorem Jz.mono {V':Nat->bI} {p:gI} (h:Jz g V n p) (hv:V' n=V n) (ho:(V g.o).role=3->(V' g.o).role=3/\(V' g.o).tg=(V g.o).tg):Jz g V' n p:=by
 cases p with
 | serve q evs op num a=>unfold Jz at h⊢;rw [hv];exact h
 | begun q b=>unfold Jz at h⊢;rw [hv];exact h
 | got q b last=>
  unfold Jz at h⊢;rw [hv];refine ⟨h.1,h.2.1,λhl=>?_⟩;obtain ⟨h1,h2,h3,h4⟩:=h.2.2 hl;obtain ⟨h5,h6⟩:=ho h2;exact ⟨h1,h5,h6.trans h3,h4⟩
 | iZ q b at_=>unfold Jz at h⊢;rw [hv];exact h
 | forget q b=>unfold Jz at h⊢;rw [hv];exact h
theorem LOk.mono {V':Nat->bI} (h:LOk g V pl l) (ho:(V g.o).role=3->(V' g.o).role=3/\(V' g.o).tg=(V g.o).tg):LOk g V' pl l:=by
 obtain ⟨h1,h2,h3⟩:=h;refine ⟨h1,λhk=>?_,h3⟩;obtain ⟨k,a,b,c,d,e,f,i,j⟩:=h2 hk;refine ⟨k,a,b,c,d,e,f,i,λhl=>?_⟩
 rcases j hl with j | ⟨j1,j2,j3,j4⟩
 ·exact .inl j
 obtain ⟨h5,h6⟩:=ho j2;exact .inr ⟨j1,h5,h6.trans j3,j4⟩
theorem Inv.ael (I:Inv g V P U Lt pl sh sv) (hn:n<5) (hno:n≠g.o) (hp:P n=none) (hb:Oth g n b) (hge:(V n).ep<=b.ep):Inv g (upd V n b) P U Lt pl sh sv:=by
 have ho:upd V n b g.o=V g.o:=upd_ne (λe=>hno e.symm);exact { I with
  YS:=by rw [ho];exact I.YS
  aev:=by rw [ho];exact I.aev
  arl:=by rw [ho];exact I.arl
  agd:=by rw [ho];exact I.agd
  slF:=by rw [ho];exact I.slF
  ES:=λk hk hko=>by
   by_cases e:k=n
   ·subst e;rw [upd_same];exact hb
   rw [upd_ne e];exact I.ES k hk hko
  ge:=λk h1 h2=>by
   have:=I.ge k h1 h2;by_cases e:g.own k=n
   ·rw [e] at this⊢;rw [upd_same];omega
   rw [upd_ne e];exact this
  wY:=λl hl=>(I.wY l hl).mono λh=>by rw [ho];exact ⟨h,rfl⟩
  qY:=λk hk p hk'=>by
   obtain ⟨h1,h2⟩:=I.qY k hk p hk';refine ⟨h1,h2.mono (upd_ne λe=>?_) λh=>by rw [ho];exact ⟨h,rfl⟩⟩;subst e;rw [hp] at hk';cases hk' }
theorem Inv.apC (I:Inv g V P U Lt pl sh sv) (hp: ∀ p,P g.o=some p->Jz g (upd V g.o b) g.o p) (h1:b.ep=g.m) (h2:b.evs=g.G) (h3:b.role=1\/b.role=2\/b.role=3) (h4:b.role≠1->pl.epoch=g.m/\b.tg≠g.o/\0<=b.tg/\b.tg<5)
  (h5:(V g.o).role=3->b.role=3/\b.tg=(V g.o).tg) (h6:b.role=3->g.F=g.G.length):Inv g (upd V g.o b) P U Lt pl sh sv:=by
 have ho:upd V g.o b g.o=b:=upd_same _ _ _;exact { I with
  YS:=by rw [ho];exact h1
  aev:=by rw [ho];exact h2
  arl:=by rw [ho];exact h3
  agd:=by rw [ho];exact h4
  slF:=by rw [ho];exact h6
  ES:=λk hk hko=>by rw [upd_ne hko];exact I.ES k hk hko
  ge:=λk j1 j2=>by
   have:=I.ge k j1 j2;by_cases e:g.own k=g.o
   ·rw [e] at this⊢;rw [ho,h1];rw [I.YS] at this;exact this
   rw [upd_ne e];exact this
  wY:=λl hl=>(I.wY l hl).mono λh=>by rw [ho];exact h5 h
  qY:=λk hk p hk'=>by
   obtain ⟨j1,j2⟩:=I.qY k hk p hk';refine ⟨j1,?_⟩;by_cases e:k=g.o
   ·subst e;exact hp p hk'
   exact j2.mono (upd_ne e) λh=>by rw [ho];exact h5 h }
theorem oU {l x:List Ev} {k:Nat} (h:k<=l.length):(l++x).take k=l.take k:=List.take_append_of_le_length h
theorem BG {l x:List Ev} {a k:Nat} (h:a+k<=l.length):((l++x).drop a).take k=(l.drop a).take k:=by
 rw [List.drop_append_of_le_length (by omega),List.take_append_of_le_length (by rw [List.length_drop];omega)]
def Gh.app (g:Gh) (e:Ev):Gh:={ g with G:=g.G++[e] }
theorem Gh.Me {g:Gh} {e:Ev} {k:Nat} (h:g.bd k<=g.G.length):g.bd k<=(g.app e).bd k:=by
 unfold Gh.bd Gh.app at*;dsimp only
 split
 ·rw [List.length_append];omega
 exact Nat.le_refl _
theorem Inv.append {e:Ev} (I:Inv g V P U Lt pl sh sv) (hp:P g.o=none) (hu:U g.o=false) (hr:(V g.o).role≠3) (ht:g.t=g.m) (hg:good (g.G++[e])) (hb:b.ep=(V g.o).ep) (hb1:b.role=(V g.o).role) (hb2:b.tg=(V g.o).tg) (hb3:b.evs=g.G++[e]):
  Inv (g.app e) (upd V g.o b) P U Lt pl sh sv:=by
 have ho:upd V g.o b g.o=b:=upd_same _ _ _;have hoo:(g.app e).o=g.o:=rfl;have hle:=λk h1 h2=>I.aj0 (k:=k) h1 h2;have hF:g.F<=g.G.length:=by rcases I.WM with ⟨_,_,h⟩ | ⟨h,_⟩<;>omega
 refine ⟨I.m1,I.apy,I.adj,I.dir,?_,?_,?_,?_,hg,?_,?_,?_,?_,?_,?_,?_,?_,I.sho,?_,I.svs⟩
 ·rw [hoo,ho,hb];exact I.YS
 ·rw [hoo,ho,hb3];rfl
 ·rw [hoo,ho,hb1];exact I.arl
 ·rw [hoo,ho,hb1,hb2];exact I.agd
 ·intro n hn hno;rw [hoo] at hno;rw [upd_ne hno]
  rcases I.ES n hn hno with h | ⟨k,h1,h2,h3,h4,h5,h6,h7⟩ | ⟨k,h1,h2,h3,h4,h5,h6,h7,h8⟩
  ·exact .inl h
  ·refine .inr (.inl ⟨k,h1,h2,h3,h4,h5,?_,h7⟩)
   show _=(g.G++[e]).take _
   have:=I.Tm h3 h4;rw [h6];exact (oU (Nat.le_of_lt this)).symm
  refine .inr (.inr ⟨k,h1,h2,h3,h4,h5,?_,Nat.le_trans h7 (Gh.Me (hle k h3 h4)),h8⟩)
  show _=(g.G++[e]).take _
  have:=hle k h3 h4;rw [oU (by omega)];exact h6
 ·intro k h1 h2;have:=I.ge k h1 h2;by_cases e:g.own k=g.o
  ·show (k:Int)<=(upd V g.o b (g.own k)).ep
   rw [e] at this⊢;rw [ho,hb];exact this
  show (k:Int)<=(upd V g.o b (g.own k)).ep
  rw [upd_ne e];exact this
 ·intro k h1 h2;obtain ⟨h3,h4⟩:=I.brk k h1 h2;refine ⟨?_,Nat.lt_of_lt_of_le h4 (Gh.Me (hle (k+1) (by omega) h2))⟩
  show (g.G++[e])[g.len k]? =_
  rw [List.getElem?_append_left (I.Tm h1 h2)];exact h3
 ·intro l hl;obtain ⟨h1,h2,h3⟩:=I.wY l hl;refine ⟨h1,λhk=>?_,h3⟩;obtain ⟨k,a,b',c,d,e',f,i,j⟩:=h2 hk;have hbd:=hle k b' c;refine ⟨k,a,b',c,d,e',?_,Nat.le_trans i (Gh.Me hbd),λhlast=>?_⟩
  ·show _=((g.G++[e]).drop _).take _
   rw [BG (by omega)];exact f
  rcases j hlast with j | ⟨_,j2,_⟩
  ·exact .inl j
  exact absurd j2 hr
 ·intro k hk p hk';obtain ⟨j1,j2⟩:=I.qY k hk p hk';refine ⟨j1,?_⟩;by_cases e':k=g.o
  ·subst e';rw [hp] at hk';cases hk'
  cases p with
  | serve q evs op num a=>exact absurd j2.1 e'
  | begun q b'=>unfold Jz at j2⊢;rw [upd_ne e'];exact j2
  | got q b' last=>
   unfold Jz at j2⊢;rw [upd_ne e'];refine ⟨j2.1,λhl=>?_,λhl=>?_⟩
   ·obtain ⟨j,a1,a2,a3⟩:=j2.2.1 hl
    rcases I.ES k hk e' with h | ⟨k',h,_⟩ | ⟨k',h,h1,h2,h3,_⟩
    ·omega
    ·omega
    have hj:=a3 k' h1;have hbd:=hle k' h2 h3;refine ⟨j,?_,a2,λk2 hk2=>?_⟩
    ·show _={ V k with evs:=(g.G++[e]).take j }
     rw [oU (by omega)];exact a1
    have:k2=k':=by omega
    subst this;exact Nat.le_trans hj (Gh.Me hbd)
   exact absurd (j2.2.2 hl).2.1 hr
  | iZ q b' at_=>exact absurd j2.1 e'
  | forget q b'=>unfold Jz at j2⊢;rw [upd_ne e'];exact j2
 ·rcases I.WM with ⟨h1,h2,h3⟩ | ⟨h1,_⟩
  ·exact .inl ⟨h1,h2,by show g.F<=(g.G++[e]).length;rw [List.length_append];omega⟩
  omega
 ·intro h;rw [hoo,hu] at h;cases h
 ·intro h;rw [hoo,ho,hb1] at h;exact absurd h hr
 show rp gH sv=some (aR ((g.G++[e]).take g.F)).1
 rw [oU hF];exact I.rps
theorem Oj.app {own:Nat->Nat} {t:Nat} (ht:1<=t): ∀ {sv2 sv:List jA},Oj own t sv->(∀ s∈sv2,s.ep=t/\s.nd=own t)->Oj own t (sv++sv2)
 | [],sv,h,_=>by rw [List.append_nil];exact h
 | s::r,sv,h,h2=>by
  have hs:=h2 s (by simp);have h1:Oj own t (sv++[s]):=by
   refine ⟨λx hx=>?_,λi a b ha hb=>?_,λx hx=>?_,λhn=>by simp at hn⟩
   ·rcases List.mem_append.1 hx with hx | hx
    ·exact h.each x hx
    rw [List.mem_singleton] at hx;subst hx;exact ⟨t,hs.1,ht,Nat.le_refl _,hs.2⟩
   ·by_cases hi:i+1<sv.length
    ·rw [List.getElem?_append_left (by omega)] at ha;rw [List.getElem?_append_left hi] at hb;exact h.two i a b ha hb
    have hil:i+1< (sv++[s]).length:=(List.getElem?_eq_some_iff.1 hb).1;rw [List.length_append,List.length_singleton] at hil;rw [List.getElem?_append_left (by omega)] at ha;rw [List.getElem?_append_right (by omega),show i+1-sv.length=0 by omega] at hb
    cases hb;refine .inl ?_;rw [hs.1];refine (h.last a ?_).symm;rw [List.getLast?_eq_getElem?,show sv.length-1=i by omega];exact ha
   rw [List.getLast?_concat] at hx
   cases hx;exact hs.1
  have:=Oj.app ht (sv2:=r) h1 λx hx=>h2 x (by simp [hx]);rwa [List.append_assoc] at this
theorem Oj.brk {own:Nat->Nat} {t:Nat} {s:jA} (h:Oj own t sv) (dQ:s.ep=(t:Int)+1) (hnd:s.nd=own (t+1)) (hop:s.op=bJ):Oj own (t+1) (sv++[s]):=by
 refine ⟨λx hx=>?_,λi a b ha hb=>?_,λx hx=>?_,λhn=>by simp at hn⟩
 ·rcases List.mem_append.1 hx with hx | hx
  ·obtain ⟨k,a,b,c,d⟩:=h.each x hx;exact ⟨k,a,b,by omega,d⟩
  rw [List.mem_singleton] at hx;subst hx;exact ⟨t+1,by rw [dQ];rfl,by omega,Nat.le_refl _,hnd⟩
 ·by_cases hi:i+1<sv.length
  ·rw [List.getElem?_append_left (by omega)] at ha;rw [List.getElem?_append_left hi] at hb;exact h.two i a b ha hb
  have hil:i+1< (sv++[s]).length:=(List.getElem?_eq_some_iff.1 hb).1;rw [List.length_append,List.length_singleton] at hil;rw [List.getElem?_append_left (by omega)] at ha;rw [List.getElem?_append_right (by omega),show i+1-sv.length=0 by omega] at hb
  cases hb;refine .inr ⟨?_,hop⟩;rw [dQ,h.last a (by rw [List.getLast?_eq_getElem?,show sv.length-1=i by omega];exact ha)]
 rw [List.getLast?_concat] at hx
 cases hx;rw [dQ];rfl
theorem Oj.own {own own':Nat->Nat} {t:Nat} (h:Oj own t sv) (he: ∀ k,k<=t->own' k=own k):Oj own' t sv:=
 ⟨λs hs=>by obtain ⟨k,a,b,c,d⟩:=h.each s hs;exact ⟨k,a,b,c,by rw [he k c];exact d⟩,h.two,h.last,h.nil⟩
def Gh.all (g:Gh):Gh:={ g with F:=g.G.length,t:=g.m }
theorem Inv.told (I:Inv g V P U Lt pl sh sv) (ht:g.t=g.m) {sv2:List jA} (hrp:rp gH (sv++sv2)=some (aR g.G).1) (he: ∀ s∈sv2,s.ep=g.m/\s.nd=g.o):Inv g.all V P U Lt pl (upd sh g.o ((g.m:Int),(g.G.length:Int))) (sv++sv2):=
 { I with
  WM:= .inl ⟨rfl,upd_same _ _ _,Nat.le_refl _⟩
  upF:=λ_=>rfl
  slF:=λ_=>rfl
  sho:=λn hn hno=>by
   have:n≠g.o:=hno;rw [upd_ne this];exact I.sho n hn hno
  rps:=by show rp _ _=some (aR (g.G.take g.G.length)).1;rw [List.take_length];exact hrp
  svs:=by
   have h:=I.svs;rw [ht] at h;exact Oj.app I.m1 h he }
def Gh.act (g:Gh) (T:Nat):Gh:={ g with m:=g.m+1,own:=upd g.own (g.m+1) T,len:=upd g.len g.m g.G.length,G:=g.G++[bJ] }
theorem Inv.activate {T:Nat} (I:Inv g V P U Lt pl sh sv) (hr:(V g.o).role=3) (uy:(V g.o).tg=T) (hp:P T=none) (hu:U T=false) (hg:good (g.G++[bJ])) (hge:(V T).ep<=(g.m:Int)+1):
  Inv (g.act T) (upd V T ⟨1,(g.m:Int)+1,0,0,0,g.G++[bJ]⟩) P U Lt pl sh sv:=by
 obtain ⟨ha1,ha2,ha3,ha4⟩:=I.agd (by omega);rw [uy] at ha2 ha4;have hT5:T<5:=by omega
 have hTo:T≠g.o:=by omega
 have hF:=I.slF hr;have htm:g.t=g.m/\sh g.o=((g.m:Int),(g.F:Int)):=by
  rcases I.WM with h | ⟨_,_,_,h,_⟩
  ·exact ⟨h.1,h.2.1⟩
  omega
 have hno:(g.act T).o=T:=upd_same _ _ _;have hown: ∀ k,k<=g.m->(g.act T).own k=g.own k:=λk hk=>upd_ne (by omega);have Ko:(g.act T).own (g.m+1)=T:=upd_same _ _ _;have hm:(g.act T).m=g.m+1:=rfl;have hG:(g.act T).G=g.G++[bJ]:=rfl;have hlen: ∀ k,k<g.m->(g.act T).len k=g.len k:=λk hk=>upd_ne (by omega);have hbd: ∀ k,k<=g.m->(g.act T).bd k=g.bd k:=λk hk=>by
  unfold Gh.bd;rw [if_neg (by rw [hm];omega)];by_cases e:k=g.m
  ·rw [if_pos e];subst e;exact upd_same _ _ _
  rw [if_neg e];exact hlen k (by omega)
 have hvT:upd V T (⟨1,(g.m:Int)+1,0,0,0,g.G++[bJ]⟩:bI) (g.act T).o=⟨1,(g.m:Int)+1,0,0,0,g.G++[bJ]⟩:=by rw [hno];exact upd_same _ _ _
 have hle:=λk h1 h2=>I.aj0 (k:=k) h1 h2;refine ⟨by rw [hm];omega,?_,?_,?_,by rw [hvT,hm];rfl,by rw [hvT,hG],by rw [hvT];exact .inl rfl,λh=>by rw [hvT] at h;exact absurd rfl h,by rw [hG];exact hg,?_,?_,?_,?_,?_,?_,?_,λh=>by rw [hvT] at h;exact absurd h (by simp),?_,?_,?_⟩
 ·intro k h1 h2;rw [hm] at h2;by_cases e:k=g.m+1
  ·rw [e,Ko];exact hT5
  rw [hown k (by omega)];exact I.apy k h1 (by omega)
 ·intro k h1 h2;rw [hm] at h2;by_cases e:k=g.m
  ·rw [hown k (by omega),e,Ko];exact λh=>hTo h.symm
  rw [hown k (by omega),hown (k+1) (by omega)];exact I.adj k h1 (by omega)
 ·obtain ⟨d,h1,h2,h3⟩:=I.dir;have:d=g.m:=by rw [h1] at ha1;dsimp only at ha1;omega
  refine ⟨d,?_,h2,.inr (by rw [hm,this])⟩;rw [h1,hown d (by omega)]
 ·intro n hn hn2;rw [hno] at hn2;rw [upd_ne hn2];by_cases e:n=g.o
  ·subst e;refine .inr (.inl ⟨g.m,hr,I.YS,I.m1,by rw [hm];omega,hown _ (Nat.le_refl _),?_,?_⟩)
   ·rw [hG,show (g.act T).len g.m=g.G.length from upd_same _ _ _,List.take_left];exact I.aev
   rw [Ko];exact uy
  rcases I.ES n hn e with h | ⟨k,h1,h2,h3,h4,h5,h6,h7⟩ | ⟨k,h1,h2,h3,h4,h5,h6,h7,h8⟩
  ·exact .inl ⟨h.1,h.2.1,by rw [hm];have:=h.2.2;omega⟩
  ·refine .inr (.inl ⟨k,h1,h2,h3,by rw [hm];omega,by rw [hown k (by omega)];exact h5,?_,by rw [hown (k+1) (by omega)];exact h7⟩);rw [hlen k h4,hG,oU (Nat.le_of_lt (I.Tm h3 h4))];exact h6
  refine .inr (.inr ⟨k,h1,h2,h3,by rw [hm];omega,by rw [hown k h4];exact h5,?_,by rw [hbd k h4];exact h7,λhk=>?_⟩)
  ·have:=hle k h3 h4;rw [hG,oU (by omega)];exact h6
  by_cases e2:k=g.m
  ·rw [e2,Ko];exact λh=>hn2 h.symm
  rw [hown (k+1) (by omega)];exact h8 (by omega)
 ·intro k h1 h2;rw [hm] at h2;by_cases e:k=g.m+1
  ·rw [e,Ko,upd_same];dsimp only;omega
  rw [hown k (by omega)];have:=I.ge k h1 (by omega);by_cases e2:g.own k=T
  ·rw [e2,upd_same];dsimp only;omega
  rw [upd_ne e2];exact this
 ·intro k h1 h2;rw [hm] at h2;by_cases e:k=g.m
  ·subst e;rw [show (g.act T).len g.m=g.G.length from upd_same _ _ _,hG];refine ⟨by rw [List.getElem?_append_right (Nat.le_refl _),Nat.sub_self];rfl,?_⟩;unfold Gh.bd;rw [if_pos hm.symm,hG,List.length_append];exact Nat.lt_succ_self _
  obtain ⟨h3,h4⟩:=I.brk k h1 (by omega);rw [hlen k (by omega),hbd (k+1) (by omega),hG,List.getElem?_append_left (I.Tm h1 (by omega))];exact ⟨h3,h4⟩
 ·intro l hl;obtain ⟨h1,h2,h3,h4⟩:=I.wY l hl;refine ⟨λhk=>?_,λhk=>?_,λhk hd=>?_,λhk=>?_⟩
  ·obtain ⟨k,a,b,c,d⟩:=h1 hk;exact ⟨k,a,b,by rw [hm];omega,by rw [hown k c];exact d⟩
  ·obtain ⟨k,a,b,c,d,e,f,i,j⟩:=h2 hk;have:=hle k b c;refine ⟨k,a,b,by rw [hm];omega,by rw [hown k c];exact d,e,by rw [hG,BG (by omega)];exact f,by rw [hbd k c];exact i,λhlast=> .inl ?_⟩
   rcases j hlast with ⟨j1,j2⟩ | ⟨j1,j2,j3,j4⟩
   ·exact ⟨by rw [hm];omega,by rw [hown (k+1) (by omega)];exact j2⟩
   subst j1;exact ⟨by rw [hm];omega,by rw [Ko,<-uy];exact j3⟩
  ·obtain ⟨k,a,b,c,d⟩:=h3 hk hd;exact ⟨k,a,b,by rw [hm];omega,by rw [hown (k+1) (by omega)];exact d⟩
  obtain ⟨k,a,b,c,d⟩:=h4 hk;exact ⟨k,a,b,c,by rw [hown k (by omega)];exact d⟩
 ·intro n hn p hp';have hnT:n≠T:=λe=>by subst e;rw [hp] at hp';cases hp'
  obtain ⟨j1,j2⟩:=I.qY n hn p hp';refine ⟨j1,?_⟩
  cases p with
  | serve q evs op num a=>
   obtain ⟨k1,k2,_⟩:=j2;subst k1;unfold serves at k2;omega
  | begun q b=>
   unfold Jz at j2⊢;obtain ⟨k,k1,k2,k3,k4⟩:=j2;rw [upd_ne hnT];exact ⟨k,by rw [hown k k3];exact k1,k2,by rw [hm];omega,k4⟩
  | got q b last=>
   unfold Jz at j2⊢;rw [upd_ne hnT];refine ⟨j2.1,λhl=>?_,λhl=>?_⟩
   ·obtain ⟨j,a1,a2,a3⟩:=j2.2.1 hl
    rcases I.ES n hn (λe=>by subst e;omega) with h | ⟨k',h,_⟩ | ⟨k',h,h1,h2,h3,_⟩
    ·omega
    ·omega
    have hj:=a3 k' h1;have:=hle k' h2 h3;refine ⟨j,by rw [hG,oU (by omega)];exact a1,a2,λk2 hk2=>?_⟩;have:k2=k':=by omega
    subst this;rw [hbd k2 h3];exact hj
   have:=(j2.2.2 hl).2.2.1;omega
  | iZ q b at_=>
   obtain ⟨k1,k2,_⟩:=j2;subst k1;omega
  | forget q b=>
   unfold Jz at j2⊢;rw [upd_ne hnT];exact ⟨j2.1,j2.2.1,by rw [hm];have:=j2.2.2;omega⟩
 ·refine .inr ⟨by show g.t+1=g.m+1;omega,?_,?_,?_,?_⟩
  ·rw [hno,hm];have:=I.sho T hT5 hTo;omega
  ·rw [hno];exact hu
  ·show g.F+1=(g.G++[bJ]).length;rw [List.length_append,hF];rfl
  show (g.G++[bJ])[g.F]? =_
  rw [hF,List.getElem?_append_right (Nat.le_refl _),Nat.sub_self];rfl
 ·intro h;rw [hno,hu] at h;cases h
 ·intro n hn hn2;rw [hno] at hn2;rw [hm];by_cases e:n=g.o
  ·subst e;rw [htm.2];dsimp only;omega
  have:=I.sho n hn e;omega
 ·show rp gH sv=some (aR ((g.G++[bJ]).take g.F)).1
  rw [oU (by omega)];exact I.rps
 exact I.svs.own λk hk=>hown k (by show k<=g.m;have:k<=g.t:=hk;omega)
end
def jK (b:bI):bI:=if b.role=2 then ⟨1,b.ep,0,0,0,b.evs⟩ else b
def vB (f:Nat->bI):List bI:=[f 0,f 1,f 2,f 3]
section
variable {f:Nat->bI} {q:Nat} {b:bI} {rs:List dM} {r:dM}
theorem abG (hq:q<4):GQ (vB f) (q:Int)=f q:=by
 have h:q=0\/q=1\/q=2\/q=3:=by omega
 rcases h with rfl | rfl | rfl | rfl<;>rfl
theorem Sc (hq:q<4):(vB f).set q b=vB (upd f q b):=by
 have h:q=0\/q=1\/q=2\/q=3:=by omega
 rcases h with rfl | rfl | rfl | rfl<;>rfl
theorem yX {f':Nat->bI} (h: ∀ q,q<4->f q=f' q):vB f=vB f':=by unfold vB;rw [h 0 (by omega),h 1 (by omega),h 2 (by omega),h 3 (by omega)]
def iw (rs:List dM) (f:Nat->bI):Prop:=(∀ r∈rs,aM r=0)/\(allM rs).1=some (vB f)
theorem JA: ∀ (a:List dM) (i:Nat) (T T':List bI),(nu a i T).1=some T'->nu (a++[r]) i T=nu [r] (i+a.length) T'
 | [],i,T,T',h=>by
  rw [nu] at h
  cases h;rfl
 | x::a,i,T,T',h=>by
  rw [List.cons_append,nu];rw [nu] at h
  split at h
  ·cases h
  rename_i h1
  rw [if_neg h1]
  split at h
  ·cases h
  rename_i h2
  rw [if_neg h2,JA a (i+1) _ T' h,List.length_cons,show i+1+a.length=i+(a.length+1) by omega]
theorem iw.nil:iw [] λ_=>bG:=⟨λr h=>by simp at h,rfl⟩
theorem iw.snoc (h:iw rs f) (hr:aM r=0) (hq:q<4) (hrq:r.queue=q) (ha:dX (f q) r=(b,0)):iw (rs++[r]) (upd f q b):=by
 refine ⟨λx hx=>?_,?_⟩
 ·rcases List.mem_append.1 hx with hx | hx
  ·exact h.1 x hx
  rw [List.mem_singleton] at hx;subst hx;exact hr
 have h2:=h.2;unfold allM at h2⊢;rw [JA _ _ _ _ h2,nu,hrq,abG hq,if_neg (by simpa using hr),if_neg (by rw [ha];simp),ha,show ((q:Int)).toNat=q from rfl,Sc hq,nu]
theorem iw.congr {f':Nat->bI} (h:iw rs f) (he: ∀ q,q<4->f q=f' q):iw rs f':=⟨h.1,by rw [h.2,yX he]⟩
theorem iw.read {t data:List UInt8} {syn:Int} (h:iw rs f) (hd:data=dx rs++t) (ht:(firstM t).2=0) (hz:data.length<=100000) (h0:0<=syn) (h1:syn<=data.length):
  jw data syn=(dx rs,min syn (dx rs).length,0)/\Bl data syn=some (vB f)/\ ∀ q,q<4->cu data syn q=f q:=by
 have hm:dz data syn=true:=by simp [dz];omega
 have hrd:bP data=(rs,(dx rs).length):=by rw [hd];exact xw h.1 ht
 have hrep:jw data syn=(dx rs,min syn (dx rs).length,0):=by
  unfold jw;rw [if_pos hm,hrd,hd,List.take_left]
 have hl:(dx rs).length<=data.length:=by rw [hd,List.length_append];omega
 have hrb:Bl data syn=some (vB f):=by
  unfold Bl;rw [hrep];unfold sJ;rw [if_pos (by simp [dz];omega)];have:=xw (t:=[]) h.1 wD;rw [List.append_nil] at this;dsimp only;rw [this];exact h.2
 refine ⟨hrep,hrb,λq hq=>?_⟩;unfold cu;rw [hrb];exact abG hq
theorem gF (h:aj b=0):bq b:=(eO h).1
theorem jf (h:aj b=0):good b.evs:=(eO h).2
theorem nX (h:bq b) (hr:b.role≠0) (l:List Ev):bq ⟨b.role,b.ep,b.fr,b.tg,b.rd,l⟩:=h.elim (λh=>absurd h.1 hr) .inr
theorem zZ {ep:Int} (h:1<=ep) (h1:ep<=1048576) (l:List Ev):bq ⟨1,ep,0,0,0,l⟩:= .inr ⟨h,h1,.inl ⟨rfl,rfl,rfl,rfl⟩⟩
theorem AU {k ep pe:Int} {e:Ev} (hk:1<=k/\k<=7) (hq:q<4) (dQ:0<=ep/\ep<=1048576) (hpe:0<=pe/\pe<=4) (he:if kG k=true then bE e=0 else e=aS):aM (fU k q ep pe e)=0:=by
 unfold aM fU;dsimp only;rw [if_neg (by simp [jU];omega),if_neg (by simp [jU];omega)];by_cases hh:kG k=true
 ·rw [if_pos hh] at he⊢;exact he
 rw [if_neg hh] at he⊢;rw [if_pos he]
theorem ahf (hb:aj b=0) (hr:b.role=0) (he:b.ep<1) (hq:q<4):iL b 1=(⟨1,1,0,0,0,[]⟩,0)/\dX b (fU 1 q 1 0 aS)=(⟨1,1,0,0,0,[]⟩,0):=by
 have hm:iL b 1=(⟨1,1,0,0,0,[]⟩,0):=by unfold iL;rw [if_neg (by simp [hb]),if_neg (by omega),if_neg (by simp [hr]),if_neg (by omega)]
 have ha:jV b (fU 1 q 1 0 aS)=(⟨1,1,0,0,0,[]⟩,0):=by unfold jV fU;simpa using hm
 exact ⟨hm,by rw [jR hb (AU (by omega) hq (by omega) (by omega) (by decide)) (by simp [fU];omega) (by rw [ha]),ha]⟩
theorem P6 {e:Ev} {ep:Int} (hb:aj b=0) (hr:b.role=1) (dQ:b.ep=ep) (hq:q<4) (he:bE e=0) (hg:good (b.evs++[e])):dX b (fU 2 q ep 0 e)=({ b with evs:=b.evs++[e] },0)/\aM (fU 2 q ep 0 e)=0:=by
 subst dQ;have hs:=gF hb;unfold bq at hs;have hrec:aM (fU 2 q b.ep 0 e)=0:=AU (by omega) hq (by omega) (by omega) (by simpa [kG] using he);have hok:aj ⟨b.role,b.ep,b.fr,b.tg,b.rd,b.evs++[e]⟩=0:=l8 (nX (gF hb) (by omega) _) hg;have ha:jV b (fU 2 q b.ep 0 e)=({ b with evs:=b.evs++[e] },0):=by
  have h1:=aby (b:=b) (qu:=q) (e:=b.ep) (pe:=0) (x:=e);rw [if_neg (λh=>h ⟨hr,rfl⟩)] at h1;unfold Bj at h1;rw [if_neg (λh=>h hok)] at h1;exact h1
 exact ⟨by rw [jR hb hrec (by simp [fU];omega) (by rw [ha]),ha],hrec⟩
theorem YT {e:Ev} {ep:Int} (hb:aj b=0) (hr:b.role=4) (dQ:b.ep=ep) (hq:q<4) (he:bE e=0) (hg:good (b.evs++[e])):dX b (fU 5 q ep 0 e)=({ b with evs:=b.evs++[e] },0)/\aM (fU 5 q ep 0 e)=0/\aj { b with evs:=b.evs++[e] }=0:=by
 subst dQ;have hs:=gF hb;unfold bq at hs;have hrec:aM (fU 5 q b.ep 0 e)=0:=AU (by omega) hq (by omega) (by omega) (by simpa [kG] using he);have hok:aj ⟨b.role,b.ep,b.fr,b.tg,b.rd,b.evs++[e]⟩=0:=l8 (nX (gF hb) (by omega) _) hg;have ha:jV b (fU 5 q b.ep 0 e)=({ b with evs:=b.evs++[e] },0):=by
  have h1:=abz (b:=b) (qu:=q) (e:=b.ep) (pe:=0) (x:=e);rw [if_neg (λh=>h ⟨hr,rfl⟩)] at h1;unfold Bj at h1;rw [if_neg (λh=>h hok)] at h1;exact h1
 exact ⟨by rw [jR hb hrec (by simp [fU];omega) (by rw [ha]),ha],hrec,hok⟩
theorem ahg {ep tg:Int} (hb:aj b=0) (hr:b.role=1) (dQ:b.ep=ep) (hq:q<4) (ht:0<=tg/\tg<=4):dX b (fU 3 q ep tg aS)=(⟨3,b.ep,0,tg,0,b.evs⟩,0)/\aM (fU 3 q ep tg aS)=0:=by
 subst dQ;have hs:=gF hb;unfold bq at hs;have hrec:aM (fU 3 q b.ep tg aS)=0:=AU (by omega) hq (by omega) (by omega) (by decide);have ha:jV b (fU 3 q b.ep tg aS)=(⟨3,b.ep,0,tg,0,b.evs⟩,0):=by
  unfold jV fU Tg;have h1:b.fr=0:=by omega
  have h2:b.rd=0:=by omega
  simp [hr,h1,h2]
 exact ⟨by rw [jR hb hrec (by simp [fU];omega) (by rw [ha]),ha],hrec⟩
theorem ac9 {ep fr:Int} (hb:aj b=0) (hr:b.role=0\/b.role=4) (dQ:b.ep<ep) (h1:1<=ep/\ep<=1048576) (hq:q<4) (ht:0<=fr/\fr<=4):dX b (fU 4 q ep fr aS)=(⟨4,ep,fr,0,0,[]⟩,0)/\aM (fU 4 q ep fr aS)=0:=by
 have hrec:aM (fU 4 q ep fr aS)=0:=AU (by omega) hq (by omega) (by omega) (by decide);have ha:jV b (fU 4 q ep fr aS)=(⟨4,ep,fr,0,0,[]⟩,0):=by
  unfold jV fU dH;rw [if_neg (by simp),if_pos rfl];dsimp only;rw [if_neg (by simp [hb]),if_neg (by omega),if_neg (by omega),if_neg (by omega),if_neg (by omega)]
 exact ⟨by rw [jR hb hrec (by simp [fU];omega) (by rw [ha]),ha],hrec⟩
theorem am6 {ep:Int} (hb:aj b=0) (hr:b.role=4) (dQ:b.ep=ep) (hq:q<4) (hg:good (b.evs++[bJ])):dX b (fU 6 q ep 0 aS)=(⟨1,b.ep,0,0,0,b.evs++[bJ]⟩,0)/\aM (fU 6 q ep 0 aS)=0:=by
 subst dQ;have hs:=gF hb;unfold bq at hs;have hrec:aM (fU 6 q b.ep 0 aS)=0:=AU (by omega) hq (by omega) (by omega) (by decide);have hok:aj ⟨1,b.ep,0,0,0,b.evs++[bJ]⟩=0:=l8 (zZ (by omega) (by omega) _) hg;have hi:dB b b.ep b.evs.length [] true=(⟨1,b.ep,0,0,0,b.evs++[bJ]⟩,0):=by
  unfold dB;rw [if_neg (by simp [hb]),if_neg (by simp [hr]),if_neg (by simp),if_neg (by omega),if_neg (by simp),if_neg (by simp)];simp only [if_pos,List.drop_nil,List.append_nil];rw [if_neg (by simpa using hok)]
 have ha:jV b (fU 6 q b.ep 0 aS)=(⟨1,b.ep,0,0,0,b.evs++[bJ]⟩,0):=by
  unfold jV fU;simp [hr,hi]
 exact ⟨by rw [jR hb hrec (by simp [fU];omega) (by rw [ha]),ha],hrec⟩
theorem YU {ep:Int} (hb:aj b=0) (hr:b.role=3) (dQ:b.ep=ep) (hq:q<4):dX b (fU 7 q ep 0 aS)=(⟨0,b.ep,0,0,0,[]⟩,0)/\aM (fU 7 q ep 0 aS)=0:=by
 subst dQ;have hs:=gF hb;unfold bq at hs;have hrec:aM (fU 7 q b.ep 0 aS)=0:=AU (by omega) hq (by omega) (by omega) (by decide);have ha:jV b (fU 7 q b.ep 0 aS)=(⟨0,b.ep,0,0,0,[]⟩,0):=by
  unfold jV fU gq;simp [hr,hb];omega
 exact ⟨by rw [jR hb hrec (by simp [fU];omega) (by rw [ha]),ha],hrec⟩
theorem sS (h:aj b=0):aj (jK b)=0:=by
 unfold jK
 split
 ·rename_i hr
  have hs:=gF h;unfold bq at hs;exact l8 (zZ (by omega) (by omega) _) (jf (b:=b) h)
 exact h
theorem Sd:(jK b).ep=b.ep:=by unfold jK;split<;>rfl
theorem ahh:(jK b).evs=b.evs:=by unfold jK;split<;>rfl
theorem IC:(jK b).role≠2:=by unfold jK;split<;>first | assumption | simp
theorem Dg (h:b.role≠2):jK b=b:=if_neg h
theorem xE (h:serves b) (hb:aj b=0):jK b=⟨1,b.ep,0,0,0,b.evs⟩:=by
 unfold jK
 split
 ·rfl
 have hs:=gF hb;unfold bq at hs;unfold serves at h;obtain ⟨ro,ep,fr,tg,rd,evs⟩:=b;dsimp only at*;simp only [bI.mk.injEq,and_true,true_and];omega
end
def gI.q:gI->Nat
 | .serve q .. =>q
 | .begun q _=>q
 | .got q .. =>q
 | .iZ q .. =>q
 | .forget q _=>q
def gI.b (bs:Nat->bI):gI->bI
 | .serve q evs _ _ _=>{ bs q with evs:=evs }
 | .begun _ b=>b
 | .got _ b _=>b
 | .iZ _ b _=>b
 | .forget _ b=>b
def gI.rs (bs:Nat->bI):gI->List dM
 | .serve q _ op _ _=>[fU 2 q (bs q).ep 0 op]
 | .begun q b=>[fU 4 q b.ep b.fr aS]
 | .got q b last=>sP q b (bs q).evs.length (b.evs.length-if last=true then 1 else 0) last
 | .iZ q b _=>[fU 3 q b.ep b.tg aS]
 | .forget q _=>[fU 7 q (bs q).ep 0 aS]
def gI.ok (bs:Nat->bI):gI->Prop
 | .serve q evs op _ _=>serves (bs q)/\evs=(bs q).evs++[op]/\bE op=0/\good evs
 | .begun q b=>((bs q).role=0\/(bs q).role=4)/\ ∃ e f,b=⟨4,e,f,0,0,[]⟩/\(bs q).ep<e/\1<=e/\e<=1048576/\0<=f/\f<=4
 | .got q b last=>(bs q).role=4/\good b.evs/\(∀ e∈b.evs,bE e=0)/\(last=false->b={ bs q with evs:=b.evs }/\(bs q).evs=b.evs.take (bs q).evs.length)/\
   (last=true-> ∃ es,b=⟨1,(bs q).ep,0,0,0,es++[bJ]⟩/\(bs q).evs=es.take (bs q).evs.length)
 | .iZ q b _=>(bs q).role=2/\b={ bs q with role:=3,rd:=0 }
 | .forget q b=>(bs q).role=3/\b=⟨0,(bs q).ep,0,0,0,[]⟩
def iJ.ok (l:iJ):Prop:=l.q<4/\l.evs.length<=2000/\(l.kd=0\/l.kd=2\/l.kd=3\/l.kd=4\/l.kd=6)
theorem FV {b:bI} {hv:Int} (h:aj b=0) (h2:(bK b hv).2=0):aj (bK b hv).1=0:=by
 have hb:=eO h;have hs:=hb.1;unfold bq at hs;unfold bK at h2⊢;rw [if_neg (λe=>e h)] at h2⊢;by_cases c1:b.role≠2/\b.role≠3
 ·rw [if_pos c1] at h2;exact absurd h2 (by decide)
 rw [if_neg c1] at h2⊢;by_cases c2: ¬ (0<=hv/\hv<=b.evs.length)
 ·rw [if_pos c2] at h2;exact absurd h2 (by decide)
 rw [if_neg c2] at h2⊢;by_cases c3:b.role=3
 ·rw [if_pos c3];exact h
 rw [if_neg c3];have key: ∀ r d,bq ⟨r,b.ep,b.fr,b.tg,d,b.evs⟩->aj ⟨r,b.ep,b.fr,b.tg,d,b.evs⟩=0:=λr d h=>l8 h hb.2;by_cases c4:hv=b.evs.length\/b.rd=4
 ·rw [if_pos c4];refine key 3 0 ?_;clear h2 key h hb;unfold bq;dsimp only;omega
 rw [if_neg c4];have hr:b.role=2:=by clear h2 key h hb c2 c4;omega
 have hd: ¬ b.rd=4:=λe=>c4 (.inr e);rw [hr] at hs;have hs2:1<=b.ep/\b.ep<=1048576/\b.fr=0/\0<=b.tg/\b.tg<5/\0<=b.rd/\b.rd<=4:=by clear h2 key h hb c1 c2 c3 c4;omega
 refine key b.role (b.rd+1) (.inr ⟨hs2.1,hs2.2.1,.inr (.inl ⟨hr,hs2.2.2.1,hs2.2.2.2.1,hs2.2.2.2.2.1,?_,?_⟩)⟩)
 ·show 0<=b.rd+1
  have:=hs2.2.2.2.2.2;clear h2 key h hb c1 c2 c3 c4 hs;omega
 show b.rd+1<=4
 have:=hs2.2.2.2.2.2;clear h2 key h hb c1 c2 c3 c4 hs;omega
structure Bn (m m':Cl) (n:Nat):Prop where
 ES: ∀ j,j≠n->m'.au j=m.au j
 up:(m'.au n).up=(m.au n).up
 kU:(m'.au n).inbox=(m.au n).inbox
 P7:(m'.au n).turn=(m.au n).turn
 nN:(∀ q,q<4->aj ((m.au n).bs q)=0)-> ∀ q,q<4->aj ((m'.au n).bs q)=0
 fly:m'.fly.length<=m.fly.length+1
 aP:m'.aP.length<=m.aP.length+1
section
variable {m m':Cl} {n:Nat} {l:iJ}
theorem yY (h:m'.au=m.au) (h1:m'.fly.length<=m.fly.length+1) (h2:m'.aP.length<=m.aP.length+1):Bn m m' n:=
 ⟨λj _=>by rw [h],by rw [h],by rw [h],by rw [h],λhb=>by rw [h];exact hb,h1,h2⟩
theorem oV:Bn m m n:=yY rfl (Nat.le_succ _) (Nat.le_succ _)
theorem Cq {X:Nd} (h:m'.au=upd m.au n X) (h0:X.up=(m.au n).up) (h3:X.inbox=(m.au n).inbox) (h4:X.turn=(m.au n).turn) (h5:(∀ q,q<4->aj ((m.au n).bs q)=0)-> ∀ q,q<4->aj (X.bs q)=0) (h1:m'.fly.length<=m.fly.length+1) (h2:m'.aP.length<=m.aP.length+1):Bn m m' n:=by
 have e:m'.au n=X:=by rw [h];exact if_pos rfl
 exact ⟨λj hj=>by rw [h];exact if_neg hj,by rw [e,h0],by rw [e,h3],by rw [e,h4],λhb=>by rw [e];exact h5 hb,h1,h2⟩
theorem P8 {q:Nat} {op:Ev} {num:Int} {a:iH}:Bn m (m.done n q op num a) n:=by
 unfold Cl.done
 split
 ·exact yY rfl (by simp [Cl.send,Cl.tell]) (by simp [Cl.send,Cl.tell])
 exact yY rfl (by simp [Cl.send]) (by simp [Cl.send])
theorem P9 {q:Nat}:Bn m (m.have_ n q) n:=yY rfl (by simp [Cl.have_,Cl.send]) (by simp [Cl.have_,Cl.send])
theorem ada {q:Nat} {a:Int}:Bn m (m.part n q a) n:=by
 unfold Cl.part
 split
 ·exact oV
 exact yY rfl (by simp [Cl.send]) (by simp [Cl.send])
theorem Mf {X x:Nd} {rs:List dM} (h:X.write rs=some x):x.up=X.up/\x.inbox=X.inbox/\x.turn=X.turn/\x.bs=X.bs:=by
 unfold Nd.write at h;rw [Option.map_eq_some_iff] at h;obtain ⟨d,_,rfl⟩:=h;exact ⟨rfl,rfl,rfl,rfl⟩
theorem Dh {x:Nd} {p:gI} {rs:List dM} (h:(m.au n).write rs=some x):Bn m (m.put n { x with pend:=some p }) n:=by
 obtain ⟨h1,h2,h3,h4⟩:=Mf h;exact Cq rfl h1 h2 h3 (λhb q hq=>by show aj (x.bs q)=0;rw [h4];exact hb q hq) (Nat.le_succ _) (Nat.le_succ _)
theorem Bn.am7 {m2:Cl} (h:Bn m m2 n) (h1:m2.fly.length<=m.fly.length) (h2:m2.aP.length<=m.aP.length) (h3:Bn m2 m' n):Bn m m' n:=
 ⟨λj hj=>(h3.ES j hj).trans (h.ES j hj),h3.up.trans h.up,h3.kU.trans h.kU,h3.P7.trans h.P7,λhb=>h3.nN (h.nN hb),by have:=h3.fly;omega,by have:=h3.aP;omega⟩
theorem xG (hq:l.q<4):Bn m (m.handle n l) n:=by
 unfold Cl.handle
 split
 ·unfold Cl.serve
  split
  ·exact P8
  split
  ·exact P8
  exact Dh (by assumption)
 split
 ·unfold Cl.offered
  split
  ·exact oV
  split
  ·exact P9
  split
  ·exact oV
  exact Dh (by assumption)
 split
 ·unfold Cl.caught
  split
  ·exact oV
  split
  ·exact oV
  rename_i h1 h2
  split
  ·refine Bn.am7 (m2:=m.cK n l.q (bK ((m.au n).bs l.q) l.at_).1) (Cq rfl rfl rfl rfl (λhb q hq'=>?_) (Nat.le_succ _) (Nat.le_succ _)) (Nat.le_refl _) (Nat.le_refl _) ada
   show aj (upd (m.au n).bs l.q (bK ((m.au n).bs l.q) l.at_).1 q)=0
   unfold upd
   split
   ·exact FV (hb _ hq) (by omega)
   exact hb q hq'
  split
  ·exact oV
  exact Dh (by assumption)
 split
 ·unfold Cl.got
  split
  ·exact oV
  split
  ·exact P9
  split
  ·exact oV
  split
  ·exact oV
  exact Dh (by assumption)
 unfold Cl.learnt
 split
 ·exact Cq rfl rfl rfl rfl (λhb=>hb) (Nat.le_succ _) (Nat.le_succ _)
 split
 ·exact Cq rfl rfl rfl rfl (λhb=>hb) (Nat.le_succ _) (Nat.le_succ _)
 rename_i x h
 obtain ⟨h1,h2,h3,h4⟩:=Mf h;exact Cq rfl h1 h2 h3 (λhb q hq=>by show aj (x.bs q)=0;rw [h4];exact hb q hq) (Nat.le_succ _) (Nat.le_succ _)
end
end
section
open ChangeShapes WideShapes ChangeAt RowKit
structure LX where
 l:iJ
 A:Option Addr
 c:Nat
def adb (l:iJ) (s:Value):List Value:=[iV l.kd,iV l.fr,iV l.tg,iV ((l.q:Nat):Int),iV l.ep,iV l.at_,iV l.nd,iV l.op.kind,iV l.op.producer,iV l.op.id,iV l.op.body,iV l.op.aQ,iV l.op.hno,s,.bool l.last,iV l.num,
 iV l.aZ.num,iV l.aZ.ans.code,iV l.aZ.ans.dQ,iV l.aZ.ans.hno,iV l.aZ.ans.body,iV l.aZ.pl.node,iV l.aZ.pl.epoch]
def LX.cells (x:LX):List Value:=adb x.l (.slice x.A x.l.evs.length x.c)
def LX.row (x:LX):Array Value:=x.cells.toArray
def sO.cells (t:sO):List Value:=[iV t.num,iV t.ans.code,iV t.ans.dQ,iV t.ans.hno,iV t.ans.body,iV t.pl.node,iV t.pl.epoch]
def jA.cells (s:jA):List Value:=[iV ((s.nd:Nat):Int),iV ((s.q:Nat):Int),iV s.ep,iV s.op.kind,iV s.op.producer,iV s.op.id,iV s.op.body,iV s.op.aQ,iV s.op.hno,iV s.ans.code,iV s.ans.dQ,iV s.ans.hno,iV s.ans.body,iV s.num]
theorem Cr (x:LX): ∀ u∈x.cells,u.oneCell'=true:=bL rfl
theorem ahi (l:List LX): ∀ u∈l.flatMap LX.cells,u.oneCell'=true:=by
 intro u hu;rw [List.mem_flatMap] at hu;obtain ⟨z,_,hz⟩:=hu;exact Cr z u hz
def dK (me:Nat) (up:Bool) (tv:Value) (syn:Int) (bv:Value) (H:Nat->Pl) (U:Nat->Bool) (iv pv:Value) (turn:Nat):Array Value:=
 #[iV ((me:Nat):Int),.bool up,tv,iV syn,bv,iV (H 0).node,iV (H 0).epoch,iV (H 1).node,iV (H 1).epoch,iV (H 2).node,iV (H 2).epoch,iV (H 3).node,iV (H 3).epoch,.bool (U 0),.bool (U 1),.bool (U 2),.bool (U 3),iv,pv,iV ((turn:Nat):Int)]
def Ol (p:Int×Int):List Value:=[iV p.1,iV p.2]
def Om (sh:Nat->Nat->Int×Int) (n:Nat):List Value:=Ol (sh n 0)++(Ol (sh n 1)++(Ol (sh n 2)++Ol (sh n 3)))
def ahj (sh:Nat->Nat->Int×Int):List Value:=Om sh 0++(Om sh 1++(Om sh 2++(Om sh 3++Om sh 4)))
def Mg (nv:Value) (d:Dir) (fv:Value) (sh:Nat->Nat->Int×Int) (sv tv:Value) (calls:Nat):List Value:=
 nv::(d.cells++(fv::(ahj sh++[iV 0,.bool false,.bool false,.bool false,.bool false,.bool false,iV 0,iV 0,iV 0,iV 0,iV 0,iV 0,iV 0,iV 0,.slice none 0 0,sv,tv,iV ((calls:Nat):Int)])))
def kN (nv:Value) (d:Dir) (fv:Value) (sh:Nat->Nat->Int×Int) (sv tv:Value) (calls:Nat):Array Value:=(Mg nv d fv sh sv tv calls).toArray
section
variable {me turn calls k:Nat} {up:Bool} {tv bv iv pv nv fv sv uv x:Value} {syn:Int} {H:Nat->Pl} {U:Nat->Bool} {d:Dir} {sh:Nat->Nat->Int×Int}
theorem yK:(kN nv d fv sh sv tv calls)[0]? =some nv:=rfl
theorem O5:(kN nv d fv sh sv tv calls)[9]? =some fv:=rfl
theorem asC:(kN nv d fv sh sv tv calls)[65]? =some sv:=rfl
theorem asD:(kN nv d fv sh sv tv calls)[66]? =some tv:=rfl
theorem aiK:(kN nv d fv sh sv tv calls)[67]? =some (iV ((calls:Nat):Int)):=rfl
theorem Gc {nv' fv' sv' tv':Value} {d':Dir} {sh':Nat->Nat->Int×Int} {calls' o:Nat} {vs:List Value} (h:o+vs.length<=68) (he:(Mg nv d fv sh sv tv calls).take o++vs++(Mg nv d fv sh sv tv calls).drop (o+vs.length)=Mg nv' d' fv' sh' sv' tv' calls'):
  dn (kN nv d fv sh sv tv calls) o vs=kN nv' d' fv' sh' sv' tv' calls':=Array.ext' (by rw [gQ _ _ _ h];exact he)
theorem aj1:dn (kN nv d fv sh sv tv calls) 9 [x]=kN nv d x sh sv tv calls:=Gc (Nat.le_of_ble_eq_true rfl) rfl
theorem asE:dn (kN nv d fv sh sv tv calls) 65 [x]=kN nv d fv sh x tv calls:=Gc (Nat.le_of_ble_eq_true rfl) rfl
theorem asF:dn (kN nv d fv sh sv tv calls) 66 [x]=kN nv d fv sh sv x calls:=Gc (Nat.le_of_ble_eq_true rfl) rfl
theorem asG {c':Nat}:dn (kN nv d fv sh sv tv calls) 67 [iV ((c':Nat):Int)]=kN nv d fv sh sv tv c':=Gc (Nat.le_of_ble_eq_true rfl) rfl
theorem aj2 {d':Dir}:dn (kN nv d fv sh sv tv calls) 1 d'.cells=kN nv d' fv sh sv tv calls:=Gc (Nat.le_of_ble_eq_true rfl) rfl
theorem wJ: ∀ (j:Nat) (u:Value),d.cells[j]? =some u->(kN nv d fv sh sv tv calls)[1+j]? =some u:=by
 intro j u h;have hj:j<8:=(List.getElem?_eq_some_iff.1 h).1;have:j=0\/j=1\/j=2\/j=3\/j=4\/j=5\/j=6\/j=7:=by omega
 rcases this with rfl | rfl | rfl | rfl | rfl | rfl | rfl | rfl<;>exact h
theorem abH:(kN nv d fv sh sv tv calls).size=68:=rfl
theorem aiL {n q:Nat} (hn:n<5) (hq:q<4) {a b:Int}:dn (kN nv d fv sh sv tv calls) (10+n*8+q*2) [iV a,iV b]=kN nv d fv (nQ sh n q (a,b)) sv tv calls:=by
 have h1:n=0\/n=1\/n=2\/n=3\/n=4:=by omega
 have h2:q=0\/q=1\/q=2\/q=3:=by omega
 rcases h1 with rfl | rfl | rfl | rfl | rfl<;>rcases h2 with rfl | rfl | rfl | rfl<;>exact Gc (Nat.le_of_ble_eq_true rfl) rfl
theorem asH {n q:Nat} (hn:n<5) (hq:q<4): ∀ (j:Nat) (u:Value),(Ol (sh n q))[j]? =some u->(kN nv d fv sh sv tv calls)[10+n*8+q*2+j]? =some u:=by
 intro j u h;have hj:j<2:=(List.getElem?_eq_some_iff.1 h).1;have h0:j=0\/j=1:=by omega
 have h1:n=0\/n=1\/n=2\/n=3\/n=4:=by omega
 have h2:q=0\/q=1\/q=2\/q=3:=by omega
 rcases h1 with rfl | rfl | rfl | rfl | rfl<;>rcases h2 with rfl | rfl | rfl | rfl<;>rcases h0 with rfl | rfl<;>exact h
theorem Ct {q:Nat} (hq:q<4) {p:Pl}:dn (dK me up tv syn bv H U iv pv turn) (5+q*2) [iV p.node,iV p.epoch]=dK me up tv syn bv (upd H q p) U iv pv turn:=by
 have h2:q=0\/q=1\/q=2\/q=3:=by omega
 rcases h2 with rfl | rfl | rfl | rfl<;>rfl
theorem Na {q:Nat} (hq:q<4):(dK me up tv syn bv H U iv pv turn)[5+q*2]? =some (iV (H q).node)/\(dK me up tv syn bv H U iv pv turn)[5+q*2+1]? =some (iV (H q).epoch):=by
 have h2:q=0\/q=1\/q=2\/q=3:=by omega
 rcases h2 with rfl | rfl | rfl | rfl<;>exact ⟨rfl,rfl⟩
theorem WO {q:Nat} (hq:q<4) {v:Bool}:dn (dK me up tv syn bv H U iv pv turn) (13+q*1) [.bool v]=dK me up tv syn bv H (upd U q v) iv pv turn:=by
 have h2:q=0\/q=1\/q=2\/q=3:=by omega
 rcases h2 with rfl | rfl | rfl | rfl<;>rfl
theorem ahk {q:Nat} (hq:q<4):(dK me up tv syn bv H U iv pv turn)[13+q*1]? =some (.bool (U q)):=by
 have h2:q=0\/q=1\/q=2\/q=3:=by omega
 rcases h2 with rfl | rfl | rfl | rfl<;>rfl
end
def Ro (L:List Fact) (s:Nat) (A:Option Addr) (n:Nat) (xs:List Value):Prop:= ∀ B w,(∀ f∈L,f.holds B w)->Rd w w.heap.size s A n xs
section
variable {L L':List Fact} {s n:Nat} {A:Option Addr} {xs:List Value} {B:Nat} {w w0:World} {fs:List Fact}
theorem Ro.mono (h:Ro L s A n xs) (hl: ∀ f∈L,f∈L'):Ro L' s A n xs:=λB w hw=>h B w λf hf=>hw f (hl f hf)
theorem Ro.rd (h:Ro L s A n xs) (S:St B w0 w fs) (hl: ∀ f∈L,f∈fs):Rd w w.heap.size s A n xs:=h B w λf hf=>S.has (hl f hf)
theorem Ro.none_:Ro L s none 0 []:=λ_ _ _=>Rd.none_
theorem Ro.cZ (h:Fact.cZ s A n xs∈L):Ro L s A n xs:=λ_ _ hw=>(hw _ h).1
theorem Ro.own {e:TypeId} {c:Nat} (h:Fact.own e s (.slice A n c) n xs∈L):Ro L s A n xs:=λ_ _ hw=>Rd.rO (hw _ h)
end
structure NX where
 bb:Nat
 tA:Option Addr
 tc:Nat
 bx:List BX
 iA:Option Addr
 ic:Nat
 ix:List LX
 pv:Value
structure CX where
 nx:Nat->NX
 fA:Option Addr
 fc:Nat
 fx:List LX
 sA:Option Addr
 sc:Nat
 tA:Option Addr
 tc:Nat
 nA:Option Addr
 nc:Nat
 L:List Fact
structure CK where
 wb:Nat
 nb:Nat->Nat
def gJ (b:Nat):Value:= .pointer (some ⟨b,0,none⟩)
def ahl (n:Nat) (X:Nd) (x:NX):Array Value:=dK n X.up (.slice x.tA X.data.length x.tc) X.syn (.slice (some ⟨x.bb,0,none⟩) 4 4) X.hints X.sure (.slice x.iA x.ix.length x.ic) x.pv X.turn
def asI (R:CX) (m:Cl):Array Value:=kN (.slice R.nA 5 R.nc) m.off (.slice R.fA R.fx.length R.fc) m.shown (.slice R.sA m.aP.length R.sc) (.slice R.tA m.aZ.length R.tc) m.calls
def BN (kn n:Nat) (X:Nd) (x:NX):List Fact:=
 [.blk kn (ahl n X x) 120,.own 73 6 (.slice (some ⟨x.bb,0,none⟩) 4 4) 4 (x.bx.flatMap BX.cells),.off 146 23 x.iA x.ix.length x.ic (x.ix.flatMap LX.cells)]
def jT (K:CK) (n:Nat) (X:Nd) (x:NX):List Fact:=BN (K.nb n) n X x
def BO (kw:Nat) (R:CX) (m:Cl):List Fact:=
 [.blk kw (asI R m) 112,.own 146 23 (.slice R.fA R.fx.length R.fc) R.fx.length (R.fx.flatMap LX.cells),.own 60 14 (.slice R.sA m.aP.length R.sc) m.aP.length (m.aP.flatMap jA.cells),.own 81 7 (.slice R.tA m.aZ.length R.tc) m.aZ.length (m.aZ.flatMap sO.cells)]
def sU (K:CK) (R:CX) (m:Cl):List Fact:=BO K.wb R m
def lu (K:CK) (R:CX) (m:Cl) (n:Nat):List Fact:=((List.range 5).filter (· ≠n)).flatMap λj=>jT K j (m.au j) (R.nx j)
def fP (K:CK) (R:CX) (m:Cl) (fs:List Fact) (n:Nat):List Fact:=fs++(lu K R m n++R.L)
def kR (K:CK) (R:CX) (m:Cl):List Fact:=sU K R m++(((List.range 5).flatMap λj=>jT K j (m.au j) (R.nx j))++R.L)
def ET (L:List Fact) (A:Option Addr) (c:Nat) (l:List Ev):Prop:=Ro L 6 A l.length (bg l)/\l.length<=c
def Oo (L:List Fact) (x:LX):Prop:=ET L x.A x.c x.l.evs
def Aa (L:List Fact) (y:BX):Prop:=ET L y.A y.c y.b.evs
theorem ET.mono {L L':List Fact} {A:Option Addr} {c:Nat} {l:List Ev} (h:ET L A c l) (hl: ∀ f∈L,f∈L'):ET L' A c l:=⟨h.1.mono hl,h.2⟩
def oG (kn kw:Nat) (L:List Fact):Option gI->Value->Prop
 | none,v=>v= .nilFunc
 | some (.serve q evs op num a),v=> ∃ b1 b2 b3 b4 b5 b6 b7 y x,v= .func (.func 128) #[] #[gJ b1,gJ b2,gJ b3,gJ b4,gJ b5]/\ .blk b1 (BX.cells y).toArray 73∈L/\y.b.evs=evs/\Aa L y/\ .blk b2 #[gJ kn] 113∈L/\ .blk b3 #[.int .i64 ((q:Nat):Int)] 3∈L/\
   .blk b4 #[.func (.func 127) #[] #[gJ b6,gJ b2,gJ b3,gJ b7]] 227∈L/\ .blk b5 (iH.cells a).toArray 58∈L/\ .blk b6 (LX.row x) 146∈L/\x.l.op=op/\x.l.num=num/\ .blk b7 #[gJ kw] 102∈L
 | some (.begun q b),v=> ∃ b1 b2 b3 b4 y,v= .func (.func 131) #[] #[gJ b1,gJ b2,gJ b3,gJ b4]/\ .blk b1 (BX.cells y).toArray 73∈L/\y.b=b/\Aa L y/\ .blk b2 #[gJ kn] 113∈L/\ .blk b3 #[.int .i64 ((q:Nat):Int)] 3∈L/\ .blk b4 #[gJ kw] 102∈L
 | some (.got q b last),v=> ∃ b1 b2 b3 b4 b5 y x,v= .func (.func 136) #[] #[gJ b1,gJ b2,gJ b3,gJ b4,gJ b5]/\ .blk b1 (BX.cells y).toArray 73∈L/\y.b=b/\Aa L y/\ .blk b2 #[gJ kn] 113∈L/\ .blk b3 #[.int .i64 ((q:Nat):Int)] 3∈L/\
   .blk b4 (LX.row x) 146∈L/\x.l.last=last/\ .blk b5 #[gJ kw] 102∈L
 | some (.iZ q b at_),v=> ∃ b1 b2 b3 b4 b5 y x,v= .func (.func 134) #[] #[gJ b1,gJ b2,gJ b3,gJ b4,gJ b5]/\ .blk b1 (BX.cells y).toArray 73∈L/\y.b=b/\Aa L y/\ .blk b2 #[gJ kn] 113∈L/\ .blk b3 #[.int .i64 ((q:Nat):Int)] 3∈L/\
   .blk b4 #[gJ kw] 102∈L/\ .blk b5 (LX.row x) 146∈L/\x.l.at_=at_
 | some (.forget q b),v=> ∃ b1 b2 b3 y,v= .func (.func 138) #[] #[gJ b1,gJ b2,gJ b3]/\ .blk b1 (BX.cells y).toArray 73∈L/\y.b=b/\Aa L y/\ .blk b2 #[gJ kn] 113∈L/\ .blk b3 #[.int .i64 ((q:Nat):Int)] 3∈L
def axT (K:CK) (L:List Fact) (n:Nat) (p:Option gI) (v:Value):Prop:=oG (K.nb n) K.wb L p v
structure dS (K:CK) (L:List Fact) (n:Nat) (X:Nd) (x:NX):Prop where
 Oq:x.bx.map BX.b=vB X.bs
 Qb: ∀ y∈x.bx,Aa L y
 wM:Ro L 1 x.tA X.data.length (byteCells X.data)
 YV:x.ix.map LX.l=X.inbox
 YW: ∀ y∈x.ix,Oo L y
 qY:axT K L n X.pend x.pv
structure Good (K:CK) (R:CX) (m:Cl) (H:List LX):Prop where
 fly:R.fx.map LX.l=m.fly
 flo: ∀ x∈R.fx,Oo R.L x
 lW: ∀ n,n<5->dS K R.L n (m.au n) (R.nx n)
 arr:Ro R.L 1 R.nA 5 ((List.range 5).map λj=>gJ (K.nb j))
 hld: ∀ x∈H,Oo R.L x
def Wd (K:CK) (B:Nat) (w0 w:World) (fs:List Fact) (m:Cl) (H:List LX):Prop:= ∃ R,Good K R m H/\St B w0 w (fs++kR K R m)
section
variable {K:CK} {B n:Nat} {w0 w w':World} {fs N:List Fact} {m m':Cl} {H H':List LX} {R R':CX}
theorem oG.mono {kn kw:Nat} {L L':List Fact} {p:Option gI} {v:Value} (h:oG kn kw L p v) (hl: ∀ f∈L,f∈L'):oG kn kw L' p v:=by
 match p,h with
 | none,h=>exact h
 | some (.serve q evs op num a),⟨b1,b2,b3,b4,b5,b6,b7,y,x,h1,h2,h3,h4,h5,h6,h7,h8,h9,h10,h11,h12⟩=>
  exact ⟨b1,b2,b3,b4,b5,b6,b7,y,x,h1,hl _ h2,h3,ET.mono h4 hl,hl _ h5,hl _ h6,hl _ h7,hl _ h8,hl _ h9,h10,h11,hl _ h12⟩
 | some (.begun q b),⟨b1,b2,b3,b4,y,h1,h2,h3,h4,h5,h6,h7⟩=>exact ⟨b1,b2,b3,b4,y,h1,hl _ h2,h3,ET.mono h4 hl,hl _ h5,hl _ h6,hl _ h7⟩
 | some (.got q b last),⟨b1,b2,b3,b4,b5,y,x,h1,h2,h3,h4,h5,h6,h7,h8,h9⟩=>exact ⟨b1,b2,b3,b4,b5,y,x,h1,hl _ h2,h3,ET.mono h4 hl,hl _ h5,hl _ h6,hl _ h7,h8,hl _ h9⟩
 | some (.iZ q b at_),⟨b1,b2,b3,b4,b5,y,x,h1,h2,h3,h4,h5,h6,h7,h8,h9⟩=>exact ⟨b1,b2,b3,b4,b5,y,x,h1,hl _ h2,h3,ET.mono h4 hl,hl _ h5,hl _ h6,hl _ h7,hl _ h8,h9⟩
 | some (.forget q b),⟨b1,b2,b3,y,h1,h2,h3,h4,h5,h6⟩=>exact ⟨b1,b2,b3,y,h1,hl _ h2,h3,ET.mono h4 hl,hl _ h5,hl _ h6⟩
theorem dS.mono {L L':List Fact} {X:Nd} {x:NX} (h:dS K L n X x) (hl: ∀ f∈L,f∈L'):dS K L' n X x:=
 ⟨h.Oq,λy hy=>(h.Qb y hy).mono hl,h.wM.mono hl,h.YV,λy hy=>(h.YW y hy).mono hl,oG.mono h.qY hl⟩
theorem tT {α:Type} (f:Nat->List α) (hn:n<5):((List.range 5).flatMap f).Perm (f n++((List.range 5).filter (· ≠n)).flatMap f):=by
 have h:n=0\/n=1\/n=2\/n=3\/n=4:=by omega
 have key: ∀ l:List Nat,(List.range 5).Perm (n::l)->((List.range 5).flatMap f).Perm (f n++l.flatMap f):=λl hl=>by
  have:=hl.flatMap_right f;rwa [List.flatMap_cons] at this
 refine key _ ?_
 rcases h with rfl | rfl | rfl | rfl | rfl<;>decide
open Classical in
theorem Wd.open (h:Wd K B w0 w fs m H) (hn:n<5): ∃ R,Good K R m H/\St B w0 w (jT K n (m.au n) (R.nx n)++(sU K R m++fP K R m fs n)):=by
 obtain ⟨R,hG,S⟩:=h;refine ⟨R,hG,S.perm (List.perm_iff_count.2 λa=>?_)⟩;have h1:=List.perm_iff_count.1 (tT (λj=>jT K j (m.au j) (R.nx j)) hn) a;unfold kR fP lu;simp only [List.count_append] at h1⊢;omega
theorem YX (hs: ∀ j,j<5->j≠n->m'.au j=m.au j/\R'.nx j=R.nx j):lu K R' m' n=lu K R m n:=by
 unfold lu;rw [List.flatMap_def,List.flatMap_def]
 congr 1
 refine List.map_congr_left λj hj=>?_;rw [List.mem_filter,List.mem_range] at hj;obtain ⟨h1,h2⟩:=hs j hj.1 (by simpa using hj.2);rw [h1,h2]
open Classical in
theorem Wd.close {Ls:List Fact} (G:Good K R' m' H') (S:St B w0 w' (jT K n (m'.au n) (R'.nx n)++(sU K R' m'++(Ls++(fP K R m fs n++N))))) (hn:n<5) (hL:R'.L=R.L++(N++Ls)) (hs: ∀ j,j<5->j≠n->m'.au j=m.au j/\R'.nx j=R.nx j):Wd K B w0 w' fs m' H':=by
 refine ⟨R',G,S.perm (List.perm_iff_count.2 λa=>?_)⟩;have h1:=List.perm_iff_count.1 (tT (λj=>jT K j (m'.au j) (R'.nx j)) hn) a;unfold fP kR;rw [hL,<-YX hs];unfold lu;simp only [List.count_append] at h1⊢;omega
theorem memT {L gs fs:List Fact} (k:Nat) (h:gs.drop k=fs) (hL: ∀ f∈L,f∈fs): ∀ f∈L,f∈gs:=λf hf=>List.mem_of_mem_drop (h▸hL f hf)
theorem Tn {L fs N:List Fact} (hL: ∀ f∈L,f∈fs): ∀ f∈L++N,f∈fs++N:=λf hf=>(List.mem_append.1 hf).elim (λh=>List.mem_append_left _ (hL f h)) (λh=>List.mem_append_right _ h)
theorem dO {fs:List Fact}: ∀ f∈fs,f∈fs:=λ_ h=>h
theorem abJ {L N:List Fact} {x:Fact}:x∈L++(N++[x]):=by simp
theorem St.toEnd {f:Fact} (i:Nat) (S:St B w0 w fs) (hi:fs[i]? =some f):St B w0 w (fs.eraseIdx i++[f]):=(S.bring i hi).perm (List.perm_append_comm (l₁:=[f]) (l₂:=fs.eraseIdx i))
theorem St.Ot {a b c d e f g:Fact} (S:St B w0 w (a::b::c::d::e::f::g::(fs++N))):St B w0 w (a::b::c::d::e::f::g::fs):=
 S.sub (((((((List.sublist_append_left fs N).cons_cons g).cons_cons f).cons_cons e).cons_cons d).cons_cons c).cons_cons b |>.cons_cons a)
theorem Ro.blk {L:List Fact} {b n s:Nat} {row:Array Value} {t:TypeId} {xs:List Value} (h:Fact.blk b row t∈L) (hx:row.toList=xs) (hl:xs.length=n*s):Ro L s (some ⟨b,0,none⟩) n xs:=λ_ _ hw=>
 ⟨hl,λ_=>⟨b,0,rfl,(hw _ h).2.lt,λj u hu=>by
  rw [Nat.zero_add];exact (hw _ h).2.cell (by rw [<-hx] at hu;simpa using hu)⟩⟩
end
end
section
open ChangeShapes WideShapes RowKit
abbrev oL (a:Option Addr) (l:List LX) (c:Nat):Fact:= .own 146 23 (.slice a l.length c) l.length (l.flatMap LX.cells)
abbrev oS (a:Option Addr) (l:List jA) (c:Nat):Fact:= .own 60 14 (.slice a l.length c) l.length (l.flatMap jA.cells)
abbrev oT (a:Option Addr) (l:List sO) (c:Nat):Fact:= .own 81 7 (.slice a l.length c) l.length (l.flatMap sO.cells)
abbrev oB (b:Nat) (l:List BX):Fact:= .own 73 6 (.slice (some ⟨b,0,none⟩) 4 4) 4 (l.flatMap BX.cells)
abbrev fL (a:Option Addr) (l:List LX) (c:Nat):Fact:= .off 146 23 a l.length c (l.flatMap LX.cells)
abbrev bW (k:Nat) (n:Value) (d:Dir) (fA:Option Addr) (fx:List LX) (fc:Nat) (sh:Nat->Nat->Int×Int) (sA:Option Addr) (sr:List jA) (sc:Nat) (tA:Option Addr) (tl:List sO) (tc cs:Nat):Fact:= .blk k (kN n d (.slice fA fx.length fc) sh (.slice sA sr.length sc) (.slice tA tl.length tc) cs) 112
abbrev bN (k n:Nat) (u:Bool) (tA:Option Addr) (dd:List UInt8) (tc:Nat) (sy:Int) (b:Nat) (H:Nat->Pl) (U:Nat->Bool) (iA:Option Addr) (ix:List LX) (ic:Nat) (pv:Value) (tn:Nat):Fact:= .blk k (dK n u (.slice tA dd.length tc) sy (.slice (some ⟨b,0,none⟩) 4 4) H U (.slice iA ix.length ic) pv tn) 120
abbrev wF (k:Nat) (n:Value) (d:Dir) (fA:Option Addr) (fx:List LX) (fc:Nat) (sh:Nat->Nat->Int×Int) (sA:Option Addr) (sr:List jA) (sc:Nat) (tA:Option Addr) (tl:List sO) (tc cs:Nat) (r:List Fact):List Fact:=bW k n d fA fx fc sh sA sr sc tA tl tc cs::oL fA fx fc::oS sA sr sc::oT tA tl tc::r
abbrev nF (k n:Nat) (u:Bool) (tA:Option Addr) (dd:List UInt8) (tc:Nat) (sy:Int) (b:Nat) (H:Nat->Pl) (U:Nat->Bool) (iA:Option Addr) (ix:List LX) (ic:Nat) (pv:Value) (tn:Nat) (bs:List BX) (r:List Fact):List Fact:=bN k n u tA dd tc sy b H U iA ix ic pv tn::oB b bs::fL iA ix ic::r
abbrev cF (k:Nat) (R:CX) (m:Cl) (r:List Fact):List Fact:=wF k (.slice R.nA 5 R.nc) m.off R.fA R.fx R.fc m.shown R.sA m.aP R.sc R.tA m.aZ R.tc m.calls r
abbrev cN (k n:Nat) (X:Nd) (z:NX) (pv:Value) (r:List Fact):List Fact:=nF k n X.up z.tA X.data z.tc X.syn z.bb X.hints X.sure z.iA z.ix z.ic pv X.turn z.bx r
theorem Tp {x:LX}: ∀ (j:Nat) (u:Value),[Value.int .i64 x.l.op.kind,iV x.l.op.producer,iV x.l.op.id,iV x.l.op.body,iV x.l.op.aQ,iV x.l.op.hno][j]? =some u->(LX.row x)[7+j]? =some u:=by
 intro j u h;have hj:j<6:=(List.getElem?_eq_some_iff.1 h).1;have:j=0\/j=1\/j=2\/j=3\/j=4\/j=5:=by omega
 rcases this with rfl | rfl | rfl | rfl | rfl | rfl<;>exact h
theorem am8 {x:LX}: ∀ (j:Nat) (u:Value),[Value.int .i64 x.l.aZ.num,iV x.l.aZ.ans.code,iV x.l.aZ.ans.dQ,iV x.l.aZ.ans.hno,iV x.l.aZ.ans.body,iV x.l.aZ.pl.node,iV x.l.aZ.pl.epoch][j]? =some u->(LX.row x)[16+j]? =some u:=by
 intro j u h;have hj:j<7:=(List.getElem?_eq_some_iff.1 h).1;have:j=0\/j=1\/j=2\/j=3\/j=4\/j=5\/j=6:=by omega
 rcases this with rfl | rfl | rfl | rfl | rfl | rfl | rfl<;>exact h
theorem qN {me turn:Nat} {up:Bool} {tv bv iv pv:Value} {syn:Int} {H:Nat->Pl} {U:Nat->Bool}: ∀ (j:Nat) (u:Value),[tv,iV syn][j]? =some u->(dK me up tv syn bv H U iv pv turn)[2+j]? =some u:=by
 intro j u h;have hj:j<2:=(List.getElem?_eq_some_iff.1 h).1;have:j=0\/j=1:=by omega
 rcases this with rfl | rfl<;>exact h
theorem uz (d:Dir): ∀ u∈d.cells.toArray.toList,u.oneCell'=true:=bL rfl
theorem ahm {me turn q:Nat} {up:Bool} {tv bv iv pv:Value} {syn:Int} {H:Nat->Pl} {U:Nat->Bool} (hq:q<4): ∀ (j:Nat) (u:Value),[Value.int .i64 (H q).node,iV (H q).epoch][j]? =some u->(dK me up tv syn bv H U iv pv turn)[5+q*2+j]? =some u:=by
 intro j u h;have hj:j<2:=(List.getElem?_eq_some_iff.1 h).1;have:j=0\/j=1:=by omega
 rcases this with rfl | rfl
 ·rw [Nat.add_zero,(Na hq).1];exact h
 rw [(Na hq).2];exact h
theorem am9 {bs:List BX} {q c:Nat} {y:BX} {A:Option Addr} {evs:List Ev} (hy:bs[q]? =some y):qP (bs.flatMap BX.cells) (0+q*6+5) [.slice A evs.length c]=(bs.set q ⟨{ y.b with evs:=evs },A,c⟩).flatMap BX.cells:=by
 obtain ⟨hl,he⟩:=List.getElem?_eq_some_iff.1 hy;rw [<-pO (enc:=BX.cells) (sz:=6) (λ_=>rfl) ⟨{ y.b with evs:=evs },A,c⟩ q bs hl,Nat.zero_add];have hg: ∀ j u,(BX.cells y)[j]? =some u->(bs.flatMap BX.cells)[q*6+j]? =some u:=λj u h=>bC (enc:=BX.cells) (sz:=6) (λ_=>rfl) hy h;simp only [qP,BX.cells];have e: ∀ (l:List Value) (k:Nat) (u:Value),l[k]? =some u->l.set k u=l:=λl k u h=>by
  obtain ⟨h1,h2⟩:=List.getElem?_eq_some_iff.1 h;subst h2;exact List.set_getElem_self h1
 rw [e _ (q*6) _ (hg 0 _ rfl),e _ (q*6+1) _ (hg 1 _ rfl),e _ (q*6+1+1) _ (hg 2 _ rfl),e _ (q*6+1+1+1) _ (hg 3 _ rfl),e _ (q*6+1+1+1+1) _ (hg 4 _ rfl)]
theorem iP (k:Int) (q:Nat) (y:BX) (w:World):
    Calls tP 71 #[iV k,iV ((q:Nat):Int),.agg (bR y.b y.A y.c)] w (λe w'=>e= .returned (.agg (dM.cells (fU k q y.b.ep 0 aS)).toArray)/\Below w.heap.size w w'):=by
 have S:=St.start w;refine gy 12 Tryz.func71 ?_;refine cw [0,1,2] ?_;refine zN 2 ?_;refine iC S ?_;intro b1 w2 S3;refine fO S3 vI ?_;intro b4 w5 S6;refine zN 8 ?_;refine vv (v:= .agg #[iV k,iV ((q:Nat):Int),iV y.b.ep,iV 0,iV 0,iV 0,iV 0,iV 0,iV 0,iV 0]) fT ?_;refine sa 0 S6 jW ?_;intro w7 S8;refine zN 4 ?_;exact ⟨rfl,S8.low⟩
theorem gL {B kw calls fc sc tc:Nat} {fA sA tA:Option Addr} {nv:Value} {d:Dir} {sh:Nat->Nat->Int×Int} {fx:List LX} {aP:List jA} {tl:List sO} {w0 w:World} {fs:List Fact} {x:LX} (S:St B w0 w ((.blk kw (kN (nv) d (.slice fA fx.length fc) sh (.slice sA aP.length sc) (.slice tA tl.length tc) calls) 112)::(.own 146 23 (.slice fA fx.length fc) fx.length ((fx).flatMap LX.cells))::fs)) (hb:(fx.length+1)*200<=140737488355328):
    Calls tP 53 #[pV kw 0,.agg (LX.row x)] w (λe w'=>e= .returned (.tuple #[])/\ ∃ A' c' pW,pW=fx++[x]/\St B w0 w' ((.blk kw (kN (nv) d (.slice A' pW.length c') sh (.slice sA aP.length sc) (.slice tA tl.length tc) calls) 112)::(.own 146 23 (.slice A' pW.length c') pW.length ((pW).flatMap LX.cells))::fs)):=by
 refine gy 14 Tryz.func53 ?_;refine cw [0,1] ?_;refine zN 2 ?_;refine iC S ?_;intro b1 w2 S3;refine zN 2 ?_;have S4:=S3.drew;refine fq 11 8 S4 [2] ?_;iterate 4 refine gK ?_
 refine gk (v:= .slice fA fx.length fc) 4 rfl (St.del 2 S4) (λ_ Sx9=>(ah rfl rfl (av Tryz.underlying106 rfl (St.cl 1 Sx9 rfl O5)))) ?_;refine gK ?_;refine eH (m:=4) (r:=6) (by kernel_rfl) ?_;refine lK (i:=6) rfl rfl (V:=λb=> .slice (aD b 0) 1 1) (row:=LX.row x) (t:=146) S4 (wn rfl) rfl rfl (aV (vs:=[(0,.agg (LX.row x))]) rfl ⟨rfl,rfl,trivial⟩ (by kernel_rfl)) ?_;intro b11 XW wX;refine gK ?_;refine eH (m:=3) (r:=7) (by kernel_rfl) ?_;refine kJ (i:=7) rfl rfl (news:=(LX.cells x)) (xs':=(fx++[x]).flatMap LX.cells) 3 wX (wn rfl) rfl rfl rfl rfl rfl rfl (St.lC (xs:=(LX.cells x)) 0 wX rfl rfl rfl) Tryz.underlying106 V3 rfl (by decide) (Cr _) (by simp only [maxLen];omega) (by omega) (iO (enc:=LX.cells) rfl rfl) ?_;intro A14 c15 w16 hc18 aFW jZ;refine gK ?_;refine eG (by kernel_rfl) rfl rfl rfl ?_;refine zN 2 ?_;refine jk 2 jZ AB ?_ (hs:=by exact aj1);intro WG r9;refine zQ ?_;refine iK ?_;refine bU (l':=[]) trivial (aY (rs:=[]) (vs:=[]) rfl trivial ?_);have iI:=r9.aT [1,0];refine ⟨rfl,A14,c15,fx++[x],rfl,?_⟩;rw [List.length_append];exact iI
theorem mM {B kn kw bb n turn calls dc ic fc sc tc:Nat} {up:Bool} {dA iA fA sA tA:Option Addr} {data:List UInt8} {syn:Int} {Hh:Nat->Pl} {Us:Nat->Bool} {pv nv:Value} {d:Dir} {sh:Nat->Nat->Int×Int} {bs:List BX} {ix fx:List LX} {aP:List jA} {tl:List sO} {w0 w:World} {fs:List Fact} {q:Nat} (hn:n<5) (hq:q<4) {y:BX} (hy:bs[q]? =some y) (e:Ev) (a:iH) (num:Int) (S:St B w0 w ((.blk kn (dK n up (.slice dA data.length dc) syn (.slice (aD bb 0) 4 4) Hh Us (.slice iA ix.length ic) (pv) turn) 120)::(.own 73 6 (.slice (aD bb 0) 4 4) 4 ((bs).flatMap BX.cells))::(.off 146 23 iA ix.length ic ((ix).flatMap LX.cells))::(.blk kw (kN (nv) d (.slice fA fx.length fc) sh (.slice sA aP.length sc) (.slice tA tl.length tc) calls) 112)::(.own 146 23 (.slice fA fx.length fc) fx.length ((fx).flatMap LX.cells))::(.own 60 14 (.slice sA aP.length sc) aP.length ((aP).flatMap jA.cells))::(.own 81 7 (.slice tA tl.length tc) tl.length ((tl).flatMap sO.cells))::fs)) (hb:(aP.length+1)*112<=140737488355328):
    Calls tP 82 #[pV kw 0,pV kn 0,iV ((q:Nat):Int),.agg #[iV e.kind,iV e.producer,iV e.id,iV e.body,iV e.aQ,iV e.hno],.agg #[iV a.code,iV a.dQ,iV a.hno,iV a.body],iV num] w (λe' w'=>e'= .returned (.tuple #[])/\ ∃ A' c' Ad,Ad=aP++[(⟨n,q,y.b.ep,e,a,num⟩:jA)]/\St B w0 w' ((.blk kn (dK n up (.slice dA data.length dc) syn (.slice (aD bb 0) 4 4) Hh Us (.slice iA ix.length ic) (pv) turn) 120)::(.own 73 6 (.slice (aD bb 0) 4 4) 4 ((bs).flatMap BX.cells))::(.off 146 23 iA ix.length ic ((ix).flatMap LX.cells))::(.blk kw (kN (nv) d (.slice fA fx.length fc) (nQ sh n q (y.b.ep,(y.b.evs.length:Int))) (.slice A' Ad.length c') (.slice tA tl.length tc) calls) 112)::(.own 146 23 (.slice fA fx.length fc) fx.length ((fx).flatMap LX.cells))::(.own 60 14 (.slice A' Ad.length c') Ad.length ((Ad).flatMap jA.cells))::(.own 81 7 (.slice tA tl.length tc) tl.length ((tl).flatMap sO.cells))::fs)):=by
 have hlen:=(S.own 1 rfl).1;rw [gX (sz:=6) (λ_=>rfl)] at hlen;refine gy 68 Tryz.func82 ?_;refine cw [0,1,2,3,4,5] ?_;refine zN 2 ?_;refine iC S ?_;intro b1 w2 S3;refine iC S3 ?_;intro b4 w5 S6;refine zN 3 ?_;have S7:=S6.drew;refine fq 29 25 S7 [7] ?_;iterate 5 refine gK ?_
 refine gk (v:= .slice sA aP.length sc) 5 rfl (St.del 7 S7) (λ_ OU=>(ah rfl rfl (av Tryz.underlying32 rfl (St.cl 5 OU rfl asC)))) ?_;iterate 10 refine gK ?_
 refine gk 16 rfl (St.del 7 S7) (λ_ _=>jX q) ?_;refine gK ?_;refine gk (v:=iV y.b.ep) 18 rfl (St.del 7 S7) (λ_ ajF=>(ah rfl rfl (av Tryz.underlying3 rfl (Rd.XF (i:=1) (St.ord 3 ajF rfl) (bC (enc:=BX.cells) (sz:=6) (λ_=>rfl) hy rfl))))) ?_;iterate 3 refine gK ?_
 refine gk (v:= .agg #[iV ((n:Nat):Int),iV ((q:Nat):Int),iV y.b.ep,iV e.kind,iV e.producer,iV e.id,iV e.body,iV e.aQ,iV e.hno,iV a.code,iV a.dQ,iV a.hno,iV a.body,iV num]) 22 rfl (St.del 7 S7) (λ_ _=>fT) ?_;refine eH (m:=5) (r:=23) (by kernel_rfl) ?_;refine lK (i:=23) rfl rfl (V:=λb=> .slice (aD b 0) 1 1) (row:= #[iV ((n:Nat):Int),iV ((q:Nat):Int),iV y.b.ep,iV e.kind,iV e.producer,iV e.id,iV e.body,iV e.aQ,iV e.hno,iV a.code,iV a.dQ,iV a.hno,iV a.body,iV num]) (t:=60) S7 (wn rfl) rfl rfl (aV (vs:=[(0,.agg #[iV ((n:Nat):Int),iV ((q:Nat):Int),iV y.b.ep,iV e.kind,iV e.producer,iV e.id,iV e.body,iV e.aQ,iV e.hno,iV a.code,iV a.dQ,iV a.hno,iV a.body,iV num])]) rfl ⟨rfl,rfl,trivial⟩ (by kernel_rfl)) ?_;intro b31 w32 qK;refine gK ?_;refine eH (m:=4) (r:=24) (by kernel_rfl) ?_;refine kJ (i:=24) rfl rfl (news:=[iV ((n:Nat):Int),iV ((q:Nat):Int),iV y.b.ep,iV e.kind,iV e.producer,iV e.id,iV e.body,iV e.aQ,iV e.hno,iV a.code,iV a.dQ,iV a.hno,iV a.body,iV num]) (xs':=(aP++[(⟨n,q,y.b.ep,e,a,num⟩:jA)]).flatMap jA.cells) 8 qK (wn rfl) rfl rfl rfl rfl rfl rfl (St.lC (xs:=[iV ((n:Nat):Int),iV ((q:Nat):Int),iV y.b.ep,iV e.kind,iV e.producer,iV e.id,iV e.body,iV e.aQ,iV e.hno,iV a.code,iV a.dQ,iV a.hno,iV a.body,iV num]) 0 qK rfl rfl rfl) Tryz.underlying32 al1 rfl (by decide) (bL rfl) (by simp only [maxLen];omega) (by omega) (iO (enc:=jA.cells) rfl rfl) ?_;intro A34 c35 w36 hc38 axU pK;refine gK ?_;refine eG (by kernel_rfl) rfl rfl rfl ?_;refine zN 3 ?_;refine jk 6 pK ah1 ?_ (hs:=by exact asE);intro w40 Hw;refine zQ ?_;refine iK ?_;refine zQ ?_;have uL:=Hw.drew;refine aK 29 uL [6] ?_;refine aL 11 ?_;refine ak 11 rfl (St.del 6 uL) (λ_ _=>jX q) ?_;refine dG ?_;refine ak (v:=iV y.b.ep) 13 rfl (St.del 6 uL) (λ_ YZ=>(ah rfl rfl (av Tryz.underlying3 rfl (Rd.XF (i:=1) (St.ord 4 YZ rfl) (bC (enc:=BX.cells) (sz:=6) (λ_=>rfl) hy rfl))))) ?_;refine aL 5 ?_;refine ak 19 rfl (St.del 6 uL) (λ_ _=>jX q) ?_;refine dG ?_;refine ak (v:= .slice y.A y.b.evs.length y.c) 21 rfl (St.del 6 uL) (λ_ XR=>(ah rfl rfl (av Tryz.underlying71 rfl (Rd.XF (i:=5) (St.ord 4 XR rfl) (bC (enc:=BX.cells) (sz:=6) (λ_=>rfl) hy rfl))))) ?_;refine dG ?_;refine ak (v:= .agg #[iV y.b.ep,iV ((y.b.evs.length:Nat):Int)]) 23 rfl (St.del 6 uL) (λ_ _=>fT) ?_;refine aL 2 ?_;refine ak (v:=pV kw (10+n*8)) 26 rfl (St.del 6 uL) (λ_ _=>(aO rfl rfl rfl (fD n Tryz.underlying110 Lp rfl hn))) ?_;refine ak (v:=pV kw (10+n*8+q*2)) 27 rfl (St.del 6 uL) (λ_ _=>(aO rfl rfl rfl (fD q Tryz.underlying109 yu rfl hq))) ?_;refine aX 28 ?_;refine sG (i:=28) rfl rfl (cs:= #[iV y.b.ep,iV ((y.b.evs.length:Nat):Int)]) (row':=kN (nv) d (.slice fA fx.length fc) (nQ sh n q (y.b.ep,((y.b.evs.length:Nat):Int))) (.slice A34 (aP.length+1) c35) (.slice tA tl.length tc) calls) (fs':=(_::_::_::_::_::_::(.blk kw (kN (nv) d (.slice fA fx.length fc) (nQ sh n q (y.b.ep,((y.b.evs.length:Nat):Int))) (.slice A34 (aP.length+1) c35) (.slice tA tl.length tc) calls) 112)::_::_::_::fs)) 6 uL (wn rfl) rfl rfl rfl rfl rfl rfl yu rfl (bL rfl) (by rw [abH];omega) (aiL hn hq (a:=y.b.ep) (b:=((y.b.evs.length:Nat):Int))) rfl ?_;intro w71 DV
 refine aL 2 ?_;refine bU (l':=[]) trivial (aY (rs:=[]) (vs:=[]) rfl trivial ?_);have rY:=DV.aT [2,1,0];refine ⟨rfl,A34,c35,aP++[(⟨n,q,y.b.ep,e,a,num⟩:jA)],rfl,?_⟩;rw [List.length_append];exact rY
theorem xH {B kn kw bb n turn calls dc ic fc sc tc:Nat} {up:Bool} {dA iA fA sA tA:Option Addr} {data:List UInt8} {syn:Int} {Hh:Nat->Pl} {Us:Nat->Bool} {pv nv:Value} {d:Dir} {sh:Nat->Nat->Int×Int} {bs:List BX} {ix fx:List LX} {aP:List jA} {tl:List sO} {w0 w:World} {fs:List Fact} {q:Nat} (hn:n<5) (hq:q<4) {y:BX} (hy:bs[q]? =some y) (S:St B w0 w (nF kn n up dA data dc syn bb Hh Us iA ix ic pv turn bs (wF kw nv d fA fx fc sh sA aP sc tA tl tc calls fs))) (hb:(fx.length+1)*200<=140737488355328):
    Calls Tryz.prog 130 #[pV kw 0,pV kn 0,iV ((q:Nat):Int)] w (λe w'=>e= .returned (.tuple #[])/\ ∃ A' c' pW,pW=fx++[⟨zy n q y.b,none,0⟩]/\St B w0 w' (nF kn n up dA data dc syn bb Hh Us iA ix ic pv turn bs (wF kw nv d A' pW c' sh sA aP sc tA tl tc calls fs))):=by
 have hlen:=(S.own 1 rfl).1;rw [gX (sz:=6) (λ_=>rfl)] at hlen;refine gy 29 Tryz.func130 ?_;refine cw [0,1,2] ?_;refine zN 7 ?_;refine vv (jX q) ?_;refine vv (ah rfl rfl (aA (cs:=BX.cells y) Tryz.underlying73 rfl aC rfl (Rd.uY (St.ord 1 S rfl) (λ_ _ h=>bC (enc:=BX.cells) (sz:=6) (λ_=>rfl) hy h)))) ?_;refine fO S fM ?_;intro b1 w2 S3;refine sa 0 S3 aC ?_;intro w4 S5;refine zN 2 ?_;have S6:=S5.dZ [5,5];have S7:=S6.drew;refine aK 15 S7 [1,0] ?_;refine aL 13 ?_;refine ak (v:= .agg #[iV 3,iV ((n:Nat):Int),iV y.b.fr,iV ((q:Nat):Int),iV y.b.ep,iV ((y.b.evs.length:Nat):Int),iV 0,iV 0,iV 0,iV 0,iV 0,iV 0,iV 0,.slice none 0 0,.bool false,iV 0,iV 0,iV 0,iV 0,iV 0,iV 0,iV 0,iV 0]) 13 rfl (S7.kL [1,0]) (λ_ _=>fT) ?_;refine aX 14 ?_;refine jC 14 rfl xk (gL (x:=⟨zy n q y.b,none,0⟩) S7 (by omega)) ?_;rintro _ LB ⟨rfl,A22,c23,axV,axW,rW⟩;refine ⟨_,rfl,?_⟩;refine aL 2 ?_;refine bU (l':=[]) trivial (aY (rs:=[]) (vs:=[]) rfl trivial ?_);have qJ:=rW.aT [2];have nH:=qJ.dZ [6,6,3,3,6,6,6];exact ⟨rfl,A22,c23,axV,axW,nH⟩
noncomputable def sV (n q:Nat) (b:bI) (at_:Int) (fl:List iJ):List iJ:=if (ji b at_).2.2≠0 then fl else fl++[Ti n q b at_]
theorem axX {B:Nat} {w0 w:World} {a b c d e f g x:Fact} {fs:List Fact} (S:St B w0 w (a::b::c::d::e::f::g::x::fs)):St B w0 w (a::b::c::d::e::f::g::(fs++[x])):=
 S.perm (List.Perm.cons _ (List.Perm.cons _ (List.Perm.cons _ (List.Perm.cons _ (List.Perm.cons _ (List.Perm.cons _ (List.Perm.cons _ (List.perm_append_comm (l₁:=[x]) (l₂:=fs)))))))))
theorem JB {B kn kw bb n turn calls dc ic fc sc tc:Nat} {up:Bool} {dA iA fA sA tA:Option Addr} {data:List UInt8} {syn:Int} {Hh:Nat->Pl} {Us:Nat->Bool} {pv nv:Value} {d:Dir} {sh:Nat->Nat->Int×Int} {bs:List BX} {ix fx:List LX} {aP:List jA} {tl:List sO} {w0 w:World} {fs:List Fact} {q:Nat} {L:List Fact} (hn:n<5) (hq:q<4) {y:BX} (hy:bs[q]? =some y) (at_:Int) (hev:Aa L y) (hL: ∀ f∈L,f∈fs) (aj3:y.b.evs.length*48<=reachBytes) (dQ: -2<=y.b.ep/\y.b.ep<=2000000) (S:St B w0 w (nF kn n up dA data dc syn bb Hh Us iA ix ic pv turn bs (wF kw nv d fA fx fc sh sA aP sc tA tl tc calls fs))) (hb:(fx.length+1)*200<=140737488355328):
    Calls Tryz.prog 133 #[pV kw 0,pV kn 0,iV ((q:Nat):Int),iV at_] w (λe w'=>e= .returned (.tuple #[])/\ ∃ (A':Option Addr) (c':Nat) (pW:List LX) (N:List Fact),pW.map LX.l=sV n q y.b at_ (fx.map LX.l)/\(∀ x∈pW,x∈fx\/Oo N x)/\St B w0 w' (nF kn n up dA data dc syn bb Hh Us iA ix ic pv turn bs (wF kw nv d A' pW c' sh sA aP sc tA tl tc calls (fs++N)))):=by
 have hlen:=(S.own 1 rfl).1;rw [gX (sz:=6) (λ_=>rfl)] at hlen;refine gy 44 Tryz.func133 ?_;refine cw [0,1,2,3] ?_;refine zN 7 ?_;refine vv (jX q) ?_;refine vv (ah rfl rfl (aA (cs:=BX.cells y) Tryz.underlying73 rfl aC rfl (Rd.uY (St.ord 1 S rfl) (λ_ _ h=>bC (enc:=BX.cells) (sz:=6) (λ_=>rfl) hy h)))) ?_;refine fO S fM ?_;intro b1 w2 S3;refine sa 0 S3 aC ?_;intro w4 S5;refine zN 6 ?_;refine dN arV ((show Calls _ _ _ _ (PL _ (ji y.b at_)) from U3 y.b.role y.b.ep y.b.fr y.b.tg y.b.rd y.A y.c y.b.evs at_ hev.2 _ (hev.1.rd S5 (memT 8 rfl hL)) aj3)) ?_;rintro _ w9 ⟨A6,c7,axY,rfl,T11⟩;refine ⟨_,rfl,?_⟩;have pI:=S5.ext T11 rfl;refine zN 13 ?_;by_cases h12:(ji y.b at_).2.2=0
 ·refine zN 6 ?_;have wX:=pI.dZ [6,6];have jY:=wX.drew;refine aK 16 jY [1,0] ?_;refine aL 10 ?_;refine ak (v:=iV (y.b.ep+1)) 10 rfl (jY.kL [1,0]) (λ_ _=>jg) ?_;refine aL 3 ?_;refine ak (v:= .agg #[iV 4,iV ((n:Nat):Int),iV y.b.tg,iV ((q:Nat):Int),iV (y.b.ep+1),iV at_,iV 0,iV 0,iV 0,iV 0,iV 0,iV 0,iV 0,.slice A6 ((ji y.b at_).1.length) c7,.bool ((ji y.b at_).2.1),iV 0,iV 0,iV 0,iV 0,iV 0,iV 0,iV 0,iV 0]) 14 rfl (jY.kL [1,0]) (λ_ _=>fT) ?_;refine aX 15 ?_;refine jC 15 rfl xk (gL (x:=⟨Ti n q y.b at_,A6,c7⟩) jY (by omega)) ?_;rintro _ YC ⟨rfl,nM,c31,axZ,apE,rZ⟩;refine ⟨_,rfl,?_⟩;refine aL 2 ?_;refine bU (l':=[]) trivial (aY (rs:=[]) (vs:=[]) rfl trivial ?_);have kF:=rZ.aT [3];have pK:=kF.dZ [7,7,3,3,7,7,7];refine ⟨rfl,nM,c31,axZ,[.cZ 6 A6 ((ji y.b at_).1.length) (((ji y.b at_).1).flatMap Ev.cells)],?_,?_,?_⟩
  · rw [sV,if_neg (λh=>h h12),apE,List.map_append];rfl
  · intro x hx;rw [apE] at hx;rcases List.mem_append.1 hx with hx | hx;exact .inl hx;rw [List.mem_singleton] at hx;subst hx;exact .inr ⟨Ro.cZ (List.mem_singleton.2 rfl),axY⟩
  · exact axX pK
 refine zN 7 ?_;have kT:=pI.aT [1];have zT:=kT.dZ [7,7,7,7,7,7,7];have u7:=zT.aT [7];refine ⟨rfl,fA,fc,fx,[],?_,?_,?_⟩
 · rw [sV,if_pos h12]
 · exact λx hx=> .inl hx
 · rw [List.append_nil];exact u7
def ax0 (w:World) (r:List UInt8×Int×Int) (e:Ending) (w':World):Prop:=
 ∃ A c,e= .returned (.tuple #[.agg #[.slice A r.1.length c,iV r.2.1],iV r.2.2])/\St w.heap.size w w' [.cZ 1 A r.1.length (byteCells r.1)]
theorem zA {P:Program} {f:FuncId} {vs:Array Value} {w:World} {r:List UInt8×Int×Int} (h:Calls P f vs w (qF w r)):Calls P f vs w (ax0 w r):=h.mono λe w' ⟨A,c,h1,h2,h3,h4⟩=>
 ⟨A,c,h1,((St.start w).on h2).cons ⟨h3,h4⟩ λk _ i g hg=>by simp at hg⟩
theorem GU {d:List UInt8} {s:Int} {rs:List dM} {k:Nat} {r:dM} (hk:rs[k]? =some r):fG d s (rs.drop k)=if (iU d s r).2.2≠0 then none else fG (iU d s r).1 s (rs.drop (k+1)):=by rw [drop_cons hk,fG]
theorem abK {d:List UInt8} {s:Int} {r:dM} (h:(iU d s r).2.2=0):(iU d s r).2.1=s:=by rw [(LV h).1]
theorem oH {B kn kw bb n turn calls dc ic fc sc tc:Nat} {up:Bool} {dA iA fA sA tA:Option Addr} {data:List UInt8} {syn:Int} {Hh:Nat->Pl} {Us:Nat->Bool} {pv nv:Value} {d:Dir} {sh:Nat->Nat->Int×Int} {bs:List BX} {ix fx:List LX} {aP:List jA} {tl:List sO} {w0 w:World} {fs:List Fact} {L:List Fact} {rs:List dM} {RA:Option Addr} {rc:Nat} (hrs:Ro fs 10 RA rs.length (rs.flatMap dM.cells)) (htp:Ro L 1 dA data.length (byteCells data)) (hL: ∀ f∈L,f∈fs) (hrl:rs.length<=1000000) (S:St B w0 w (nF kn n up dA data dc syn bb Hh Us iA ix ic pv turn bs (wF kw nv d fA fx fc sh sA aP sc tA tl tc calls fs))):
    Calls Tryz.prog 70 #[pV kn 0,.slice RA rs.length rc] w (λe w'=>(fG data syn rs=none/\e= .returned (.bool false)/\St B w0 w' (nF kn n up dA data dc syn bb Hh Us iA ix ic pv turn bs (wF kw nv d fA fx fc sh sA aP sc tA tl tc calls fs)))\/ ∃ d' A' c' N,fG data syn rs=some d'/\e= .returned (.bool true)/\Ro (L++N) 1 A' d'.length (byteCells d')/\St B w0 w' (nF kn n up A' d' c' syn bb Hh Us iA ix ic pv turn bs (wF kw nv d fA fx fc sh sA aP sc tA tl tc calls (fs++N)))):=by
 refine gy 34 Tryz.func70 ?_;refine cw [0,1] ?_;refine zN 10 ?_;refine vv (ah rfl rfl (aA (cs:=[.slice dA data.length dc,iV syn]) Tryz.underlying116 rfl eZ rfl (St.rg 0 S rfl (qN)))) ?_;refine fO S xV ?_;intro b1 w2 S3;refine sa 0 S3 eZ ?_;intro w4 S5;refine zN 11 ?_;refine eD (X:=Nat×(Option Addr)×Nat×(List UInt8)×(List Fact)) (λxv=>[(0,pV kn 0),(5,pV b1 0),(14,.slice RA rs.length rc),(15,iV ((rs.length:Nat):Int)),(16,iV ((xv.1:Nat):Int))]) (λxv wr=>(xv.1<=rs.length)/\(fG data syn rs=fG xv.2.2.2.1 syn (rs.drop xv.1))/\(Ro (L++xv.2.2.2.2) 1 xv.2.1 xv.2.2.2.1.length (byteCells xv.2.2.2.1))/\St B w0 wr ((.blk b1 #[.slice xv.2.1 xv.2.2.2.1.length xv.2.2.1,iV syn] 116)::(nF kn n up dA data dc syn bb Hh Us iA ix ic pv turn bs (wF kw nv d fA fx fc sh sA aP sc tA tl tc calls (fs++xv.2.2.2.2))))) (λxv=>rs.length-xv.1) (0,dA,dc,data,[]) ?_ ?_ ?_
 ·exact ⟨Nat.zero_le _,rfl,by rw [List.append_nil];exact htp,by rw [List.append_nil];exact S5⟩
 ·exact ⟨rfl,rfl,rfl,rfl,rfl,trivial⟩
 rintro ⟨k,A1,c1,d1,N1⟩ w6 ⟨yZ,hi9,lU,S7⟩
 try dsimp only at yZ hi9 lU S7
 refine bn (l':=[(0,pV kn 0),(5,pV b1 0),(14,.slice RA rs.length rc),(15,iV ((rs.length:Nat):Int)),(16,iV ((k:Nat):Int))]) ⟨rfl,rfl,rfl,rfl,rfl,trivial⟩ (aH (aB ?_));by_cases h11:((k:Nat):Int)< ((rs.length:Nat):Int)
 ·refine zN 10 ?_;obtain ⟨x,hx⟩: ∃ x,rs[k]? =some x:=⟨_,List.getElem?_eq_getElem (by omega)⟩;refine zQ ?_;obtain ⟨rb,ro,hra,_,hrc⟩:=(hrs.rd S7 (memT 8 rfl (λf hf=>List.mem_append_left _ hf))).2 (by omega);subst hra;refine vv (jX k) ?_;refine vv (v:= .agg #[iV x.kind,iV x.queue,iV x.epoch,iV x.peer,iV x.ev.kind,iV x.ev.producer,iV x.ev.id,iV x.ev.body,iV x.ev.aQ,iV x.ev.hno]) (ah rfl rfl (aA (cs:=dM.cells x) Tryz.underlying171 rfl jW rfl (λj u hu=>by rw [Nat.add_assoc];exact hrc (k*10+j) u (bC (enc:=dM.cells) (sz:=10) (λ_=>rfl) hx hu)))) ?_;refine fO S7 vI ?_;intro b12 Cm jY;refine stA 0 jY jW ?_;intro Jt lV;refine zN 6 ?_;refine dN ah6 (zA (FH A1 d1.length c1 d1 syn x _ (lU.rd lV (memT 9 rfl (Tn hL))))) ?_;rintro _ FN ⟨KF,c18,rfl,T21⟩;refine ⟨_,rfl,?_⟩;have nJ:=lV.ext T21 rfl;refine zN 3 ?_;refine fO nJ xV ?_;intro PK Jp jy;refine stA 0 jy eZ ?_;intro w25 nL;refine zN 7 ?_;by_cases h27:(iU d1 syn x).2.2=0
  ·have hsy:=abK h27;rw [hsy] at nL;refine zN 8 ?_;refine stA 3 nL eZ ?_;intro RY nH;refine zN 4 ?_;refine vv (v:=iV ((k+1:Nat):Int)) jg ?_;refine zN 2 ?_;have yB:=nH.aT [2,0];have ni:=yB.dZ [8,8,8,8,8,8,8,8];have qj:St B w0 RY (_::_::_::_::_::_::_::_::((fs++N1)++[.cZ 1 KF ((iU d1 syn x).1.length) (byteCells ((iU d1 syn x).1))])):=ni.toEnd 8 rfl;have qK:=qj;rw [List.append_assoc] at qK;refine aU (k+1,KF,c18,(iU d1 syn x).1,N1++[.cZ 1 KF ((iU d1 syn x).1.length) (byteCells ((iU d1 syn x).1))]) ?_ ⟨rfl,rfl,rfl,rfl,rfl,trivial⟩ (by first | omega | (dsimp only;omega));exact ⟨(by dsimp only;omega),(by dsimp only;rw [hi9,GU hx,if_neg (λh=>h h27)]),(Ro.cZ abJ),qK⟩
  refine zN 17 ?_;have oZ:=nL.aT [3,2,1,0];exact .inl ⟨by rw [hi9,GU hx,if_pos h27],rfl,oZ.Ot⟩
 refine zN 16 ?_;refine jk (row':=dK n up (.slice A1 d1.length c1) syn (.slice (aD bb 0) 4 4) Hh Us (.slice iA ix.length ic) (pv) turn) 1 S7 eZ ?_;intro RZ kF;refine zQ ?_;refine bU (l':=[]) trivial (aI (aH (aB (va ?_))));refine zN 4 ?_;have pK:=kF.aT [0];exact .inr ⟨d1,A1,c1,N1,by rw [hi9,List.drop_eq_nil_of_le (by omega)];rfl,rfl,lU,pK⟩
structure Uk (B:Nat) (w0:World):Prop where
 u0:w0.cell? ⟨1,0,none⟩=some (iV (-1))
 u1:w0.cell? ⟨1,1,none⟩=some (iV 0)
 ul:1<B
 n0:w0.cell? ⟨0,0,none⟩=some (iV (-1))
 n1:w0.cell? ⟨0,1,none⟩=some (iV 0)
 nl:0<B
theorem Uk.rg {B:Nat} {w0 w:World} {fs:List Fact} (h:Uk B w0) (S:St B w0 w fs):w.rangeAt 1 0 [iV (-1),iV 0]:=λj u hu=>by
 have hj:j<2:=(List.getElem?_eq_some_iff.1 hu).1;have:j=0\/j=1:=by omega
 rcases this with rfl | rfl
 ·rw [<-hu];exact (S.low.cell (p:=⟨1,0,none⟩) h.ul).trans h.u0
 rw [<-hu];exact (S.low.cell (p:=⟨1,1,none⟩) h.ul).trans h.u1
theorem Uk.nw {B:Nat} {w0 w:World} {fs:List Fact} (h:Uk B w0) (S:St B w0 w fs):Nw w:=
 ⟨(S.low.cell (p:=⟨0,0,none⟩) h.nl).trans h.n0,(S.low.cell (p:=⟨0,1,none⟩) h.nl).trans h.n1,Nat.lt_of_lt_of_le h.nl S.base⟩
theorem qZ {P:Program} {t:TypeId} {w:World} {b m:Nat} {row:Array Value} {tt:TypeId} {ds:TypeDesc} (hb:fK w b row tt) (hu:P.underlying t=some ds) (hd:ds.isRow=true) (hz:(P.info? t).map (·.size)=some m) (hm:row.size=m):(Instr.loadAt t (pV b 0)).run P w= .ok (.agg row) w:=by
 have:=aA (P:=P) (w:=w) (t:=t) (b:=b) (off:=0) (cs:=row.toList) hu hd hz (by simpa using hm) (λj u h=>by rw [Nat.zero_add];exact hb.cell (by simpa using h));simpa using this
theorem BP {B kn kw bb n turn calls dc ic fc sc tc:Nat} {up:Bool} {dA iA fA sA tA:Option Addr} {data:List UInt8} {syn:Int} {Hh:Nat->Pl} {Us:Nat->Bool} {pv nv:Value} {d:Dir} {sh:Nat->Nat->Int×Int} {bs:List BX} {ix fx:List LX} {aP:List jA} {tl:List sO} {w0 w:World} {fs:List Fact} {q b6 b2 b3 b7:Nat} (hn:n<5) (hq:q<4) {y:BX} (hy:bs[q]? =some y) (x:LX) (a:iH) (S:St B w0 w (nF kn n up dA data dc syn bb Hh Us iA ix ic pv turn bs (wF kw nv d fA fx fc sh sA aP sc tA tl tc calls fs))) (Y0:Fact.blk b6 (LX.row x) 146∈fs) (hm2:Fact.blk b2 #[gJ kn] 113∈fs) (vk:Fact.blk b3 #[iV ((q:Nat):Int)] 3∈fs) (WQ:Fact.blk b7 #[gJ kw] 102∈fs) (hu:Uk B w0) (hb:(fx.length+1)*200<=140737488355328) (hb2:(aP.length+1)*112<=140737488355328):
    Calls Tryz.prog 127 #[.agg #[iV a.code,iV a.dQ,iV a.hno,iV a.body],pV b6 0,pV b2 0,pV b3 0,pV b7 0] w (λe w'=>e= .returned (.tuple #[])/\(serves y.b-> ∃ Y1 sc' Ad Cu Cv pW,Ad=aP++[(⟨n,q,y.b.ep,x.l.op,a,x.l.num⟩:jA)]/\pW=fx++[⟨om n x.l.num a nowhere,none,0⟩]/\St B w0 w' (nF kn n up dA data dc syn bb Hh Us iA ix ic pv turn bs (wF kw nv d Cu pW Cv (nQ sh n q (y.b.ep,(y.b.evs.length:Int))) Y1 Ad sc' tA tl tc calls fs)))/\(¬ serves y.b-> ∃ Cu Cv pW,pW=fx++[⟨om n x.l.num a (Hh q),none,0⟩]/\St B w0 w' (nF kn n up dA data dc syn bb Hh Us iA ix ic pv turn bs (wF kw nv d Cu pW Cv sh sA aP sc tA tl tc calls fs)))):=by
 have hlen:=(S.own 1 rfl).1;rw [gX (sz:=6) (λ_=>rfl)] at hlen;refine gy 51 Tryz.func127 ?_;refine cw [0,1,2,3,4] ?_;refine zN 2 ?_;refine iC S ?_;intro b1 w2 S3;refine zN 5 ?_;refine vv (ah rfl rfl (av Tryz.underlying3 rfl ((St.hblk S3 (memT 8 rfl dO _ Y0)).cell rfl))) ?_;refine zQ ?_;refine vv (ah rfl rfl (aA (cs:=[iV (-1),iV 0]) Tryz.underlying27 rfl iY rfl (Uk.rg hu S3))) ?_;refine vv (v:= .agg #[iV x.l.num,iV a.code,iV a.dQ,iV a.hno,iV a.body,iV (-1),iV 0]) fT ?_;refine fO S3 awx ?_;intro b4 w5 S6;refine sa 0 S6 Kj ?_;intro w7 S8;refine zN 4 ?_;refine dY S8 mixed (by kernel_rfl) ?_;refine uv (v:=pV kn 0) (λ_ Sx9=>(ah rfl rfl (av Tryz.underlying113 rfl ((St.hblk Sx9 (memT 9 rfl dO _ hm2)).cell rfl)))) ?_;refine zN 3 ?_;refine uv (v:=iV ((q:Nat):Int)) (λ_ OU=>(ah rfl rfl (av Tryz.underlying3 rfl ((St.hblk OU (memT 9 rfl dO _ vk)).cell rfl)))) ?_;refine uv (λ_ _=>jX q) ?_;refine zQ ?_;refine uv (v:=iV y.b.role) (λ_ ax1=>(ah rfl rfl (av Tryz.underlying3 rfl (Rd.XF (i:=0) (St.ord 3 ax1 rfl) (bC (enc:=BX.cells) (sz:=6) (λ_=>rfl) hy rfl))))) ?_;refine zQ ?_;refine fC λHt kM=>?_;refine zN 4 ?_;by_cases h20:y.b.role=1
 ·refine zN 9 ?_;refine vv (ah rfl rfl (av Tryz.underlying102 rfl ((St.hblk kM (memT 9 rfl dO _ WQ)).cell rfl))) ?_;refine vv (ah rfl rfl (av Tryz.underlying113 rfl ((St.hblk kM (memT 9 rfl dO _ hm2)).cell rfl))) ?_;refine vv (ah rfl rfl (av Tryz.underlying3 rfl ((St.hblk kM (memT 9 rfl dO _ vk)).cell rfl))) ?_;refine zQ ?_;refine vv (ah rfl rfl (aA (cs:=[iV x.l.op.kind,iV x.l.op.producer,iV x.l.op.id,iV x.l.op.body,iV x.l.op.aQ,iV x.l.op.hno]) Tryz.underlying55 rfl iy rfl (λj u hj=>(St.hblk kM (memT 9 rfl dO _ Y0)).cell (Tp j u hj)))) ?_;refine zN 2 ?_;refine vv (ah rfl rfl (av Tryz.underlying3 rfl ((St.hblk kM (memT 9 rfl dO _ Y0)).cell rfl))) ?_;have r9:=kM.dZ [8,8,8,8,8,8,8];refine dN F8 (mM hn hq hy x.l.op a x.l.num r9 (by omega)) ?_;rintro _ LB ⟨rfl,A22,c23,ax2,ax3,rW⟩;refine ⟨_,rfl,?_⟩;refine zN 2 ?_;have qJ:=rW.dZ [4,4];have nH:=qJ.drew;refine aK 8 nH [1,0] ?_;refine ak (v:=pV kw 0) 0 rfl (nH.kL [1,0]) (λ_ Y2=>(ah rfl rfl (av Tryz.underlying102 rfl ((St.hblk Y2 (memT 7 rfl dO _ WQ)).cell rfl)))) ?_;refine ak (v:=pV kn 0) 1 rfl (nH.kL [1,0]) (λ_ Yg=>(ah rfl rfl (av Tryz.underlying113 rfl ((St.hblk Yg (memT 7 rfl dO _ hm2)).cell rfl)))) ?_;refine aL 4 ?_;refine ak (v:= .agg #[iV 1,iV ((n:Nat):Int),iV (-1),iV 0,iV 0,iV 0,iV 0,iV 0,iV 0,iV 0,iV 0,iV 0,iV 0,.slice none 0 0,.bool false,iV 0,iV x.l.num,iV a.code,iV a.dQ,iV a.hno,iV a.body,iV (-1),iV 0]) 6 rfl (nH.kL [1,0]) (λ_ _=>fT) ?_;refine aX 7 ?_;refine jC 7 rfl xk (gL (x:=⟨om n x.l.num a nowhere,none,0⟩) nH (by omega)) ?_;rintro _ w41 ⟨rfl,A37,c38,apF,aj4,uL⟩;refine ⟨_,rfl,?_⟩;refine aL 2 ?_;refine bU (l':=[]) trivial (aY (rs:=[]) (vs:=[]) rfl trivial ?_);have rX:=uL.aT [8,7];have DX:=rX.dZ [6,6,3,3,6,6,6];exact ⟨rfl,λ_=>⟨A22,c23,ax2,A37,c38,apF,ax3,aj4,DX⟩,λh=>absurd (by unfold serves;omega) h⟩
 refine zN 3 ?_;by_cases h45:y.b.role=2
 ·refine zN 6 ?_;refine vv (ah rfl rfl (av Tryz.underlying102 rfl ((St.hblk kM (memT 9 rfl dO _ WQ)).cell rfl))) ?_;refine vv (ah rfl rfl (av Tryz.underlying113 rfl ((St.hblk kM (memT 9 rfl dO _ hm2)).cell rfl))) ?_;refine vv (ah rfl rfl (av Tryz.underlying3 rfl ((St.hblk kM (memT 9 rfl dO _ vk)).cell rfl))) ?_;refine zQ ?_;refine vv (ah rfl rfl (aA (cs:=[iV x.l.op.kind,iV x.l.op.producer,iV x.l.op.id,iV x.l.op.body,iV x.l.op.aQ,iV x.l.op.hno]) Tryz.underlying55 rfl iy rfl (λj u hj=>(St.hblk kM (memT 9 rfl dO _ Y0)).cell (Tp j u hj)))) ?_;refine zN 2 ?_;refine vv (ah rfl rfl (av Tryz.underlying3 rfl ((St.hblk kM (memT 9 rfl dO _ Y0)).cell rfl))) ?_;have qL:=kM.dZ [8,8,8,8,8,8,8];refine dN F8 (mM hn hq hy x.l.op a x.l.num qL (by omega)) ?_;rintro _ XY ⟨rfl,KC,Y3,aj5,aem,nT⟩;refine ⟨_,rfl,?_⟩;refine zN 2 ?_;have wo:=nT.dZ [4,4];have mD:=wo.drew;refine aK 8 mD [1,0] ?_;refine ak (v:=pV kw 0) 0 rfl (mD.kL [1,0]) (λ_ aj6=>(ah rfl rfl (av Tryz.underlying102 rfl ((St.hblk aj6 (memT 7 rfl dO _ WQ)).cell rfl)))) ?_;refine ak (v:=pV kn 0) 1 rfl (mD.kL [1,0]) (λ_ YZ=>(ah rfl rfl (av Tryz.underlying113 rfl ((St.hblk YZ (memT 7 rfl dO _ hm2)).cell rfl)))) ?_;refine aL 4 ?_;refine ak (v:= .agg #[iV 1,iV ((n:Nat):Int),iV (-1),iV 0,iV 0,iV 0,iV 0,iV 0,iV 0,iV 0,iV 0,iV 0,iV 0,.slice none 0 0,.bool false,iV 0,iV x.l.num,iV a.code,iV a.dQ,iV a.hno,iV a.body,iV (-1),iV 0]) 6 rfl (mD.kL [1,0]) (λ_ _=>fT) ?_;refine aX 7 ?_;refine jC 7 rfl xk (gL (x:=⟨om n x.l.num a nowhere,none,0⟩) mD (by omega)) ?_;rintro _ R6 ⟨rfl,A62,c63,ax4,ax5,sI⟩;refine ⟨_,rfl,?_⟩;refine aL 2 ?_;refine bU (l':=[]) trivial (aY (rs:=[]) (vs:=[]) rfl trivial ?_);have yQ:=sI.aT [8,7];have uw:=yQ.dZ [6,6,3,3,6,6,6];exact ⟨rfl,λ_=>⟨KC,Y3,aj5,A62,c63,ax4,aem,ax5,uw⟩,λh=>absurd (by unfold serves;omega) h⟩
 refine zN 5 ?_;have tO:=kM.drew;refine fq 8 6 tO [] ?_;refine gk (v:=pV kn 0) 0 rfl tO (λ_ ax6=>(ah rfl rfl (av Tryz.underlying113 rfl ((St.hblk ax6 (memT 9 rfl dO _ hm2)).cell rfl)))) ?_;refine gk (v:=iV ((q:Nat):Int)) 1 rfl tO (λ_ aj7=>(ah rfl rfl (av Tryz.underlying3 rfl ((St.hblk aj7 (memT 9 rfl dO _ vk)).cell rfl)))) ?_;iterate 2 refine gK ?_
 refine gk (v:=pV kn (5+q*2)) 4 rfl tO (λ_ _=>(aO rfl rfl rfl (fD q Tryz.underlying28 iY rfl hq))) ?_;refine gk (v:= .agg #[iV ((Hh q).node),iV ((Hh q).epoch)]) 5 rfl tO (λ_ Y4=>(ah rfl rfl (aA (cs:=[iV ((Hh q).node),iV ((Hh q).epoch)]) Tryz.underlying27 rfl iY rfl (St.rg 2 Y4 rfl (ahm hq))))) ?_;refine eG (by kernel_rfl) rfl rfl rfl ?_;refine zQ ?_;refine jk (row':= #[iV x.l.num,iV a.code,iV a.dQ,iV a.hno,iV a.body,iV ((Hh q).node),iV ((Hh q).epoch)]) 0 tO iY ?_;intro w77 H6;refine zQ ?_;refine iK ?_;refine zQ ?_;have Bw:=H6.dZ [6,6];have zU:=Bw.drew;refine aK 8 zU [1,0] ?_;refine ak (v:=pV kw 0) 0 rfl (zU.kL [1,0]) (λ_ ax7=>(ah rfl rfl (av Tryz.underlying102 rfl ((St.hblk ax7 (memT 7 rfl dO _ WQ)).cell rfl)))) ?_;refine ak (v:=pV kn 0) 1 rfl (zU.kL [1,0]) (λ_ aj8=>(ah rfl rfl (av Tryz.underlying113 rfl ((St.hblk aj8 (memT 7 rfl dO _ hm2)).cell rfl)))) ?_;refine aL 4 ?_;refine ak (v:= .agg #[iV 1,iV ((n:Nat):Int),iV (-1),iV 0,iV 0,iV 0,iV 0,iV 0,iV 0,iV 0,iV 0,iV 0,iV 0,.slice none 0 0,.bool false,iV 0,iV x.l.num,iV a.code,iV a.dQ,iV a.hno,iV a.body,iV ((Hh q).node),iV ((Hh q).epoch)]) 6 rfl (zU.kL [1,0]) (λ_ _=>fT) ?_;refine aX 7 ?_;refine jC 7 rfl xk (gL (x:=⟨om n x.l.num a (Hh q),none,0⟩) zU (by omega)) ?_;rintro _ w92 ⟨rfl,A88,c89,ax8,ax9,Bv⟩;refine ⟨_,rfl,?_⟩;refine aL 2 ?_;refine bU (l':=[]) trivial (aY (rs:=[]) (vs:=[]) rfl trivial ?_);have FL:=Bv.aT [3,2];have Jv:=FL.dZ [6,6,3,3,6,6,6];exact ⟨rfl,λh=>absurd h (by unfold serves;omega),λ_=>⟨A88,c89,ax8,ax9,Jv⟩⟩
end
section
open ChangeShapes WideShapes ChangeAt RowKit
section
variable {K:CK} {B n q:Nat} {w0 w w':World} {fs N Ls L:List Fact} {m m':Cl} {H H':List LX} {R:CX} {X X':Nd} {z z':NX}
theorem vL {b:bI} (h:aj b=0): -2<=b.ep/\b.ep<=2000000:=by
 have h1:=(eO h).1;unfold bq at h1;omega
theorem dS.at_ (h:dS K L n X z) (hq:q<4): ∃ y,z.bx[q]? =some y/\y.b=X.bs q/\Aa L y:=by
 have hl:z.bx.length=4:=by have:=congrArg List.length h.Oq;simpa [vB] using this
 refine ⟨z.bx[q],List.getElem?_eq_getElem (by omega),?_,h.Qb _ (List.getElem_mem _)⟩;have h1:(z.bx.map BX.b)[q]? =some (z.bx[q]).b:=by rw [List.getElem?_map,List.getElem?_eq_getElem (by omega)];rfl
 rw [h.Oq] at h1;have h2:q=0\/q=1\/q=2\/q=3:=by omega
 rcases h2 with rfl | rfl | rfl | rfl<;>(simp only [vB] at h1;exact (Option.some.inj h1).symm)
theorem GV {bx:List BX} {f:Nat->bI} {y:BX} (h:bx.map BX.b=vB f) (hq:q<4):(bx.set q y).map BX.b=vB (upd f q y.b):=by rw [List.map_set,h,Sc hq]
theorem Cw {bx:List BX} {y:BX} (h: ∀ u∈bx,Aa L u) (hy:Aa L y): ∀ u∈bx.set q y,Aa L u:=λu hu=>by
 rcases List.mem_or_eq_of_mem_set hu with h1 | h1
 ·exact h u h1
 rw [h1];exact hy
def CX.go (R:CX) (n:Nat) (z':NX) (fA:Option Addr) (fc:Nat) (fx:List LX) (sA:Option Addr) (sc:Nat) (tA:Option Addr) (tc:Nat) (N:List Fact):CX:=
 { R with nx:=upd R.nx n z',fA:=fA,fc:=fc,fx:=fx,sA:=sA,sc:=sc,tA:=tA,tc:=tc,L:=R.L++N }
theorem Wd.fin {fA sA tA:Option Addr} {fc sc tc kn kw:Nat} {fx:List LX} {rr:List Fact} (hkn:K.nb n=kn) (cO:K.wb=kw) (hrr:fP K R m fs n=rr) (G:Good K R m H) (hn:n<5)
  (S:St B w0 w' (BN kn n X' z'++(BO kw (R.go n z' fA fc fx sA sc tA tc (N++Ls)) m'++(Ls++(rr++N)))))
  (hX:dS K (R.L++(N++Ls)) n X' z') (hf: ∀ u∈fx,u∈R.fx\/Oo (R.L++(N++Ls)) u) (h1:m'.au=upd m.au n X') (h2:m'.fly=fx.map LX.l) (hH: ∀ u∈H',u∈H\/Oo (R.L++(N++Ls)) u):Wd K B w0 w' fs m' H':=by
 subst hkn;subst cO;subst hrr;have hsub: ∀ f∈R.L,f∈R.L++(N++Ls):=λf h=>List.mem_append_left _ h;have ez:(R.go n z' fA fc fx sA sc tA tc (N++Ls)).nx n=z':=upd_same _ _ _;have eX:m'.au n=X':=by rw [h1];exact upd_same _ _ _
 refine Wd.close (n:=n) (R:=R) (m:=m) (N:=N) (Ls:=Ls) (R':=R.go n z' fA fc fx sA sc tA tc (N++Ls)) ?_ (by rw [ez,eX];exact S) hn rfl ?_
 ·refine ⟨h2.symm,λu hu=>(hf u hu).elim (λh=>(G.flo u h).mono hsub) id,λj hj=>?_,G.arr.mono hsub,λu hu=>(hH u hu).elim (λh=>(G.hld u h).mono hsub) id⟩;by_cases e:j=n
  ·subst e;rw [ez,eX];exact hX
  rw [h1,upd_ne e]
  show dS K _ j _ (upd R.nx n z' j)
  rw [upd_ne e];exact (G.lW j hj).mono hsub
 intro j _ hj;exact ⟨by rw [h1,upd_ne hj],upd_ne hj⟩
theorem Wd.dL {fA sA tA:Option Addr} {fc sc tc kn kw:Nat} {fx:List LX} {rr:List Fact} (hkn:K.nb n=kn) (cO:K.wb=kw) (hrr:fP K R m fs n=rr) (G:Good K R m H) (hn:n<5)
  (S:St B w0 w' (BN kn n X' z'++(BO kw (R.go n z' fA fc fx sA sc tA tc Ls) m'++(Ls++rr))))
  (hX:dS K (R.L++Ls) n X' z') (hf: ∀ u∈fx,u∈R.fx\/Oo (R.L++Ls) u) (h1:m'.au=upd m.au n X') (h2:m'.fly=fx.map LX.l) (hH: ∀ u∈H',u∈H\/Oo (R.L++Ls) u):Wd K B w0 w' fs m' H':=
 Wd.fin (N:=[]) hkn cO hrr G hn (by rw [List.append_nil];exact S) hX hf h1 h2 hH
theorem dS.more (h:dS K L n X z):dS K (L++N) n X z:=h.mono λ_ hf=>List.mem_append_left _ hf
theorem dS.hear {hs:Nat->Pl} {su:Nat->Bool} (h:dS K L n X z):dS K L n { X with hints:=hs,sure:=su } z:=⟨h.Oq,h.Qb,h.wM,h.YV,h.YW,h.qY⟩
theorem mH {x:LX} {P:LX->Prop}: ∀ u∈H,u∈x::H\/P u:=λ_ h=> .inl (List.mem_cons_of_mem _ h)
theorem nR {fx:List LX} {x:LX} {P:LX->Prop} (hx:P x): ∀ u∈fx++[x],u∈fx\/P u:=λu hu=>(List.mem_append.1 hu).elim .inl λh=>by rw [List.mem_singleton] at h;subst h;exact .inr hx
theorem iF {l:iJ} {c:Nat} (h:l.evs=[]):Oo L ⟨l,none,c⟩:=by
 unfold Oo ET;dsimp only;rw [h];exact ⟨Ro.none_,Nat.zero_le _⟩
theorem qO {f:Fact} (h:f∈Ls):f∈L++(N++Ls):=List.mem_append_right _ (List.mem_append_right _ h)
theorem mLN: ∀ f∈L++N,f∈L++(N++Ls):=λf h=>by rw [<-List.append_assoc];exact List.mem_append_left _ h
end
section
variable {m:Cl} {n q:Nat} {X:Nd} {b:bI} {op:Ev} {num:Int} {a:iH} {l:iJ} {d:List UInt8}
theorem vM (hX:m.au n=X) (hb:X.bs q=b) (h:serves b):m.done n q op num a={ m with aP:=m.aP++[⟨n,q,b.ep,op,a,num⟩],shown:=nQ m.shown n q (b.ep,b.evs.length),fly:=m.fly++[om n num a nowhere] }:=by
 subst hX;subst hb;unfold Cl.done;rw [if_pos h];rfl
theorem Cx (hX:m.au n=X) (hb:X.bs q=b) (h: ¬ serves b):m.done n q op num a={ m with fly:=m.fly++[om n num a (X.hints q)] }:=by
 subst hX;subst hb;unfold Cl.done;rw [if_neg h];rfl
theorem ade {SR:bI×iH×Bool×Int} (hX:m.au n=X) (hb:X.bs l.q=b) (hR:gN b l.op=SR) (h:SR.2.2.1=false):m.serve n l=m.done n l.q l.op l.num SR.2.1:=by
 subst hX;subst hb;subst hR;unfold Cl.serve;rw [if_pos h]
theorem U5 {SR:bI×iH×Bool×Int} (hX:m.au n=X) (hb:X.bs l.q=b) (hR:gN b l.op=SR) (h:SR.2.2.1=true) (hw:fG X.data X.syn [fU 2 l.q SR.1.ep 0 l.op]=none):m.serve n l=m.done n l.q l.op l.num (qQ 14):=by
 subst hX;subst hb;subst hR;unfold Cl.serve Nd.write;rw [if_neg (by rw [h];simp),hw];rfl
theorem adf {SR:bI×iH×Bool×Int} (hX:m.au n=X) (hb:X.bs l.q=b) (hR:gN b l.op=SR) (h:SR.2.2.1=true) (hw:fG X.data X.syn [fU 2 l.q SR.1.ep 0 l.op]=some d):
  m.serve n l=m.put n { X with data:=d,pend:=some (.serve l.q SR.1.evs l.op l.num SR.2.1) }:=by
 subst hX;subst hb;subst hR;unfold Cl.serve Nd.write;rw [if_neg (by rw [h];simp),hw];rfl
theorem U7 {BR:bI×Int} (hX:m.au n=X) (hb:X.bs l.q=b) (hR:dH b l.ep l.fr=BR) (h:BR.2≠0):m.offered n l=m:=by
 subst hX;subst hb;subst hR;unfold Cl.offered;rw [if_pos h]
theorem Ou {BR:bI×Int} (hX:m.au n=X) (hb:X.bs l.q=b) (hR:dH b l.ep l.fr=BR) (h:BR.2=0) (h2:BR.1.ep=b.ep):m.offered n l={ m with fly:=m.fly++[zy n l.q b] }:=by
 subst hX;subst hb;subst hR;unfold Cl.offered;rw [if_neg (λe=>e h),if_pos h2];rfl
theorem Ov {BR:bI×Int} (hX:m.au n=X) (hb:X.bs l.q=b) (hR:dH b l.ep l.fr=BR) (h:BR.2=0) (h2:BR.1.ep≠b.ep) (hw:fG X.data X.syn [fU 4 l.q BR.1.ep l.fr aS]=none):m.offered n l=m:=by
 subst hX;subst hb;subst hR;unfold Cl.offered Nd.write;rw [if_neg (λe=>e h),if_neg h2,hw];rfl
theorem U8 {BR:bI×Int} (hX:m.au n=X) (hb:X.bs l.q=b) (hR:dH b l.ep l.fr=BR) (h:BR.2=0) (h2:BR.1.ep≠b.ep) (hw:fG X.data X.syn [fU 4 l.q BR.1.ep l.fr aS]=some d):
  m.offered n l=m.put n { X with data:=d,pend:=some (.begun l.q BR.1) }:=by
 subst hX;subst hb;subst hR;unfold Cl.offered Nd.write;rw [if_neg (λe=>e h),if_neg h2,hw];rfl
theorem Mh (hX:m.au n=X) (hb:X.bs l.q=b) (h:b.tg≠l.fr\/b.ep+1≠l.ep):m.caught n l=m:=by
 subst hX;subst hb;unfold Cl.caught;rw [if_pos h]
theorem Va {BR:bI×Int} (hX:m.au n=X) (hb:X.bs l.q=b) (hR:bK b l.at_=BR) (h1: ¬ (b.tg≠l.fr\/b.ep+1≠l.ep)) (h:BR.2≠0):m.caught n l=m:=by
 subst hX;subst hb;subst hR;unfold Cl.caught;rw [if_neg h1,if_pos h]
theorem Rl {BR:bI×Int} (hX:m.au n=X) (hb:X.bs l.q=b) (hR:bK b l.at_=BR) (h1: ¬ (b.tg≠l.fr\/b.ep+1≠l.ep)) (h:BR.2=0) (h2:BR.1.role=b.role):
  m.caught n l={ (m.put n { X with bs:=upd X.bs l.q BR.1 }) with fly:=sV n l.q BR.1 l.at_ m.fly }:=by
 subst hX;subst hb;subst hR;unfold Cl.caught;rw [if_neg h1,if_neg (λe=>e h),if_pos h2];have e:((m.cK n l.q (bK ((m.au n).bs l.q) l.at_).1).au n).bs l.q=(bK ((m.au n).bs l.q) l.at_).1:=by
  unfold Cl.cK Cl.put;dsimp only;rw [upd_same];exact upd_same _ _ _
 unfold Cl.part sV;rw [e]
 split
 ·rfl
 rfl
theorem Rm {BR:bI×Int} (hX:m.au n=X) (hb:X.bs l.q=b) (hR:bK b l.at_=BR) (h1: ¬ (b.tg≠l.fr\/b.ep+1≠l.ep)) (h:BR.2=0) (h2:BR.1.role≠b.role) (hw:fG X.data X.syn [fU 3 l.q BR.1.ep BR.1.tg aS]=none):m.caught n l=m:=by
 subst hX;subst hb;subst hR;unfold Cl.caught Nd.write;rw [if_neg h1,if_neg (λe=>e h),if_neg h2,hw];rfl
theorem Y5 {BR:bI×Int} (hX:m.au n=X) (hb:X.bs l.q=b) (hR:bK b l.at_=BR) (h1: ¬ (b.tg≠l.fr\/b.ep+1≠l.ep)) (h:BR.2=0) (h2:BR.1.role≠b.role) (hw:fG X.data X.syn [fU 3 l.q BR.1.ep BR.1.tg aS]=some d):
  m.caught n l=m.put n { X with data:=d,pend:=some (.iZ l.q BR.1 l.at_) }:=by
 subst hX;subst hb;subst hR;unfold Cl.caught Nd.write;rw [if_neg h1,if_neg (λe=>e h),if_neg h2,hw];rfl
theorem abL (hX:m.au n=X) (hb:X.bs l.q=b) (h:b.role≠4\/b.fr≠l.fr):m.got n l=m:=by
 subst hX;subst hb;unfold Cl.got;rw [if_pos h]
theorem adg {BR:bI×Int} (hX:m.au n=X) (hb:X.bs l.q=b) (hR:dB b l.ep l.at_ l.evs l.last=BR) (h1: ¬ (b.role≠4\/b.fr≠l.fr)) (h:BR.2=2):m.got n l={ m with fly:=m.fly++[zy n l.q b] }:=by
 subst hX;subst hb;subst hR;unfold Cl.got;rw [if_neg h1,if_pos h];rfl
theorem Qc {BR:bI×Int} (hX:m.au n=X) (hb:X.bs l.q=b) (hR:dB b l.ep l.at_ l.evs l.last=BR) (h1: ¬ (b.role≠4\/b.fr≠l.fr)) (h:BR.2≠2) (h2:BR.2≠0\/BR.1.evs.length=b.evs.length):m.got n l=m:=by
 subst hX;subst hb;subst hR;unfold Cl.got;rw [if_neg h1,if_neg h,if_pos h2]
theorem Qe {BR:bI×Int} (hX:m.au n=X) (hb:X.bs l.q=b) (hR:dB b l.ep l.at_ l.evs l.last=BR) (h1: ¬ (b.role≠4\/b.fr≠l.fr)) (h:BR.2≠2) (h2: ¬ (BR.2≠0\/BR.1.evs.length=b.evs.length))
  (hw:fG X.data X.syn (sP l.q BR.1 b.evs.length (l.at_.toNat+l.evs.length) l.last)=none):m.got n l=m:=by
 subst hX;subst hb;subst hR;unfold Cl.got Nd.write;rw [if_neg h1,if_neg h,if_neg h2,hw];rfl
theorem abM {BR:bI×Int} (hX:m.au n=X) (hb:X.bs l.q=b) (hR:dB b l.ep l.at_ l.evs l.last=BR) (h1: ¬ (b.role≠4\/b.fr≠l.fr)) (h:BR.2≠2) (h2: ¬ (BR.2≠0\/BR.1.evs.length=b.evs.length))
  (hw:fG X.data X.syn (sP l.q BR.1 b.evs.length (l.at_.toNat+l.evs.length) l.last)=some d):m.got n l=m.put n { X with data:=d,pend:=some (.got l.q BR.1 l.last) }:=by
 subst hX;subst hb;subst hR;unfold Cl.got Nd.write;rw [if_neg h1,if_neg h,if_neg h2,hw];rfl
theorem Y6 {BR:bI×Int} (hX:m.au n=X) (hb:X.bs l.q=b) (hR:gq b l.ep=BR) (h:BR.2≠0):m.learnt n l=m.put n (X.hear n l):=by
 subst hX;subst hb;subst hR;unfold Cl.learnt;rw [if_pos h]
theorem Rn {BR:bI×Int} (hX:m.au n=X) (hb:X.bs l.q=b) (hR:gq b l.ep=BR) (h:BR.2=0) (hw:fG X.data X.syn [fU 7 l.q b.ep 0 aS]=none):m.learnt n l=m.put n (X.hear n l):=by
 subst hX;subst hb;subst hR;unfold Cl.learnt Nd.write;rw [if_neg (λe=>e h)];have hw':fG ((m.au n).hear n l).data ((m.au n).hear n l).syn [fU 7 l.q ((m.au n).bs l.q).ep 0 aS]=none:=hw;rw [hw'];rfl
theorem Y7 {BR:bI×Int} (hX:m.au n=X) (hb:X.bs l.q=b) (hR:gq b l.ep=BR) (h:BR.2=0) (hw:fG X.data X.syn [fU 7 l.q b.ep 0 aS]=some d):
  m.learnt n l=m.put n { (X.hear n l) with data:=d,pend:=some (.forget l.q BR.1) }:=by
 subst hX;subst hb;subst hR;unfold Cl.learnt Nd.write;rw [if_neg (λe=>e h)];have hw':fG ((m.au n).hear n l).data ((m.au n).hear n l).syn [fU 7 l.q ((m.au n).bs l.q).ep 0 aS]=some d:=hw;rw [hw'];rfl
end
end
section
open ChangeShapes WideShapes RowKit
section
variable {xo yo:Operand} {w:World} {f:Fn} {xs ys:Array Value}
theorem aiP {d:Nat}:(Op.equalIn (d+1) 118 (.func f xs ys) .nilFunc).run Tryz.prog w= .ok false w:=by
 unfold Op.equalIn;simp [Tryz.underlying118]
theorem aiQ {d:Nat}:(Op.equalIn (d+1) 118 .nilFunc .nilFunc).run Tryz.prog w= .ok true w:=by
 unfold Op.equalIn;simp [Tryz.underlying118]
theorem vN:(do eqGuard .neq 118 xo yo (.func f xs ys) .nilFunc;binOp .neq 118 (.func f xs ys) .nilFunc:Sem Value).run Tryz.prog w= .ok (.bool true) w:=by
 have h1:(eqGuard .neq 118 xo yo (.func f xs ys) .nilFunc)=pure ():=by unfold eqGuard;rfl
 have h2:binOp .neq 118 (.func f xs ys) .nilFunc=(do let b<-Op.equalIn (9999+1) 118 (.func f xs ys) .nilFunc;pure (.bool (!b))):=by unfold binOp;rfl
 rw [h1,h2];simp [aiP]
theorem IE:(do eqGuard .neq 118 xo yo .nilFunc .nilFunc;binOp .neq 118 .nilFunc .nilFunc:Sem Value).run Tryz.prog w= .ok (.bool false) w:=by
 have h1:(eqGuard .neq 118 xo yo .nilFunc .nilFunc)=pure ():=by unfold eqGuard;rfl
 have h2:binOp .neq 118 .nilFunc .nilFunc=(do let b<-Op.equalIn (9999+1) 118 .nilFunc .nilFunc;pure (.bool (!b))):=by unfold binOp;rfl
 rw [h1,h2];simp [aiQ]
theorem IG:(do eqGuard .eql 118 xo yo (.func f xs ys) .nilFunc;binOp .eql 118 (.func f xs ys) .nilFunc:Sem Value).run Tryz.prog w= .ok (.bool false) w:=by
 have h1:(eqGuard .eql 118 xo yo (.func f xs ys) .nilFunc)=pure ():=by unfold eqGuard;rfl
 have h2:binOp .eql 118 (.func f xs ys) .nilFunc=(do let b<-Op.equalIn (9999+1) 118 (.func f xs ys) .nilFunc;pure (.bool b)):=by unfold binOp;rfl
 rw [h1,h2];simp [aiP]
theorem Qf:(do eqGuard .eql 118 xo yo .nilFunc .nilFunc;binOp .eql 118 .nilFunc .nilFunc:Sem Value).run Tryz.prog w= .ok (.bool true) w:=by
 have h1:(eqGuard .eql 118 xo yo .nilFunc .nilFunc)=pure ():=by unfold eqGuard;rfl
 have h2:binOp .eql 118 .nilFunc .nilFunc=(do let b<-Op.equalIn (9999+1) 118 .nilFunc .nilFunc;pure (.bool b)):=by unfold binOp;rfl
 rw [h1,h2];simp [aiQ]
end
def gI.fit:gI->Prop
 | .serve q evs _ _ _=>q<4/\evs.length<=2000
 | .begun q _=>q<4
 | .got q _ _=>q<4
 | .iZ q b _=>q<4/\aj b=0
 | .forget q _=>q<4
noncomputable def Cl.more (w:Cl) (n:Nat):Cl:=if (w.au n).pend=none then Cl.drain n (w.au n).inbox w else w
def Nd.box (X:Nd) (r:List iJ):Nd:={ X with inbox:=r }
section
variable {m:Cl} {n q:Nat} {X:Nd} {b b':bI}
theorem Cy {α:Type} (f:Nat->α) (k:Nat) (u v:α):upd (upd f k u) k v=upd f k v:=by
 funext j
 unfold upd
 split<;>rfl
theorem EU (h:(m.au n).pend≠none):m.more n=m:=if_neg h
theorem Qg (h:(m.au n).inbox=[]):m.more n=m:=by
 unfold Cl.more;rw [h]
 split<;>rfl
theorem sW {l:iJ} {r:List iJ} (h:(m.au n).pend=none) (h1:(m.au n).inbox=l::r) (hq:l.q<4):m.more n=((m.put n ((m.au n).box r)).handle n l).more n:=by
 show m.more n=((m.put n { m.au n with inbox:=r }).handle n l).more n
 have e:=(xG (m:=m.put n { m.au n with inbox:=r }) (n:=n) (l:=l) hq).kU;rw [show (m.put n { m.au n with inbox:=r }).au n={ m.au n with inbox:=r } from upd_same _ _ _] at e;unfold Cl.more;rw [if_pos h,h1,Cl.drain,e]
theorem EW (h:(m.au n).up=false):m.step n=m:=if_pos h
theorem wO (h:(m.au n).up=true) (h1:(m.au n).pend=none):m.step n=if ((m.more n).au n).pend=none then (m.more n).Md n else m.more n:=by
 unfold Cl.step;rw [if_neg (by rw [h];simp),h1];unfold Cl.more;rw [if_pos h1]
def Nd.uD (X:Nd):Nd:={ X with syn:=X.data.length,pend:=none }
def Nd.cK (X:Nd) (q:Nat) (b:bI):Nd:={ X with bs:=upd X.bs q b }
theorem tF (X:Nd) (q:Nat) (b:bI):(m.put n X).cK n q b=m.put n (X.cK q b):=by
 unfold Cl.cK Cl.put;dsimp only;rw [upd_same,Cy];rfl
theorem qp {p:gI} (hX:m.au n=X) (hu:X.up=true) (hp:X.pend=some p):m.step n=(m.put n X.uD).sj n p:=by
 subst hX;unfold Cl.step;rw [if_neg (by rw [hu];simp),hp];rfl
theorem bV (X:Nd):(m.put n X).au n=X:=upd_same _ _ _
theorem Ae {evs:List Ev} {op:Ev} {num:Int} {a:iH} (hX:m.au n=X) (hu:X.up=true) (hp:X.pend=some (.serve q evs op num a)) (hb:X.bs q=b) (hs:serves b):
  m.step n={ (m.put n (X.uD.cK q { b with evs:=evs })) with aP:=m.aP++[⟨n,q,b.ep,op,a,num⟩],shown:=nQ m.shown n q (b.ep,evs.length),fly:=m.fly++[om n num a nowhere] }:=by
 rw [qp hX hu hp]
 show ((m.put n X.uD).cK n q { ((m.put n X.uD).au n).bs q with evs:=evs }).done n q op num a=_
 rw [bV,tF,show X.uD.bs q=b from hb];rw [vM (b:={ b with evs:=evs }) (bV _) (upd_same _ _ _) hs];rfl
theorem KQ {evs:List Ev} {op:Ev} {num:Int} {a:iH} (hX:m.au n=X) (hu:X.up=true) (hp:X.pend=some (.serve q evs op num a)) (hb:X.bs q=b) (hs: ¬ serves b):
  m.step n={ (m.put n (X.uD.cK q { b with evs:=evs })) with fly:=m.fly++[om n num a (X.hints q)] }:=by
 rw [qp hX hu hp]
 show ((m.put n X.uD).cK n q { ((m.put n X.uD).au n).bs q with evs:=evs }).done n q op num a=_
 rw [bV,tF,show X.uD.bs q=b from hb];rw [Cx (b:={ b with evs:=evs }) (bV _) (upd_same _ _ _) hs];rfl
theorem JC (hX:m.au n=X) (hu:X.up=true) (hp:X.pend=some (.begun q b)):m.step n={ (m.put n (X.uD.cK q b)) with fly:=m.fly++[zy n q b] }:=by
 rw [qp hX hu hp]
 show ((m.put n X.uD).cK n q b).have_ n q=_
 rw [tF];unfold Cl.have_ Cl.send;rw [bV,show (X.uD.cK q b).bs q=b from upd_same _ _ _];rfl
theorem BH (hX:m.au n=X) (hu:X.up=true) (hp:X.pend=some (.got q b true)):
  m.step n={ (m.put n { (X.uD.cK q b) with sure:=upd X.sure q false }) with aP:=m.aP++[⟨n,q,b.ep,bJ,gV,-1⟩],shown:=nQ m.shown n q (b.ep,b.evs.length) }:=by
 rw [qp hX hu hp];unfold Cl.sj;dsimp only;rw [if_pos rfl,tF];simp only [bV];unfold Cl.tell Cl.put;dsimp only;rw [Cy,upd_same]
 show ({ m with au:=_,aP:=m.aP++[⟨n,q,((X.uD.cK q b).bs q).ep,bJ,gV,-1⟩],shown:=nQ m.shown n q (((X.uD.cK q b).bs q).ep,((X.uD.cK q b).bs q).evs.length) }:Cl)=_
 rw [show (X.uD.cK q b).bs q=b from upd_same _ _ _];rfl
theorem Qh (hX:m.au n=X) (hu:X.up=true) (hp:X.pend=some (.got q b false)):m.step n={ (m.put n (X.uD.cK q b)) with fly:=m.fly++[zy n q b] }:=by
 rw [qp hX hu hp];unfold Cl.sj;dsimp only;rw [if_neg (by simp),tF];unfold Cl.have_ Cl.send;rw [bV,show (X.uD.cK q b).bs q=b from upd_same _ _ _];rfl
theorem Mi {at_:Int} (hX:m.au n=X) (hu:X.up=true) (hp:X.pend=some (.iZ q b at_)):m.step n={ (m.put n (X.uD.cK q b)) with fly:=sV n q b at_ m.fly }:=by
 rw [qp hX hu hp]
 show ((m.put n X.uD).cK n q b).part n q at_=_
 rw [tF];unfold Cl.part Cl.send sV;rw [bV,show (X.uD.cK q b).bs q=b from upd_same _ _ _]
 split
 ·rfl
 rfl
theorem FW (hX:m.au n=X) (hu:X.up=true) (hp:X.pend=some (.forget q b)):m.step n=m.put n (X.uD.cK q b):=by
 rw [qp hX hu hp]
 show (m.put n X.uD).cK n q b=_
 rw [tF]
end
theorem ahn {P:Program} {t e:TypeId} {A:Option Addr} {n c s:Nat} (k:Nat) (hu:P.underlying t=some (.slice e)) (hz:(P.info? e).map (·.size)=some s) (hk:k<=n) (w:World):
  (Instr.sliceAt t (.slice A n c) (some (.int .i64 ((k:Nat):Int))) none none).run P w= .ok (.slice (if c=k then A else A.map (·.add (k*s))) (n-k) (c-k)) w:=by
 obtain ⟨z,hq,hs⟩: ∃ z,P.info? e=some z/\z.size=s:=by
  cases h:P.info? e with
  | none=>simp [h] at hz
  | some z=>exact ⟨z,rfl,by simpa [h] using hz⟩
 have h1:(sizeOf e).run P w= .ok s w:=by simp [sizeOf,typeInfo,hq,hs,Sem.run_bind,Result.andThen]
 have hb:=λw=>ad7 (P:=P) (n:=n) (c:=c) (kd:= .i64) k rfl hk w;simp [Instr.sliceAt,Instr.slice,run_underlying hu,Sem.run_bind,Result.andThen,hb,h1]
section
variable {K:CK} {B n:Nat} {w0 w w':World} {fs gs:List Fact} {m:Cl} {H:List LX}
theorem Wd.on (h:Wd K B w0 w fs m H) (hb:Below w.heap.size w w'):Wd K B w0 w' fs m H:=by
 obtain ⟨R,G,S⟩:=h;exact ⟨R,G,S.on hb⟩
theorem Wd.ext (h:Wd K B w0 w fs m H) (T:St w.heap.size w w' gs) (hg:gs.all Fact.F3=true):Wd K B w0 w' (gs++fs) m H:=by
 obtain ⟨R,G,S⟩:=h;refine ⟨R,G,?_⟩;have:=S.ext T hg;rwa [<-List.append_assoc] at this
theorem Wd.vo (h:Wd K B w0 w (gs++fs) m H):St B w0 w gs:=by
 obtain ⟨R,_,S⟩:=h;exact S.sub (by rw [List.append_assoc];exact List.sublist_append_left _ _)
theorem Wd.less (h:Wd K B w0 w (gs++fs) m H):Wd K B w0 w fs m H:=by
 obtain ⟨R,G,S⟩:=h;exact ⟨R,G,S.sub (by rw [List.append_assoc];exact List.sublist_append_right _ _)⟩
theorem Wd.drew (h:Wd K B w0 w fs m H):Wd K B w0 w.drew fs m H:=by
 obtain ⟨R,G,S⟩:=h;exact ⟨R,G,S.drew⟩
end
theorem vO: ∀ {rs:List dM} {l:List UInt8} {s:Int} {d:List UInt8},fG l s rs=some d->d=l++dx rs/\(∀ r∈rs,aM r=0)/\(l.length<=100000->d.length<=100000)
 | [],l,s,d,h=>by
  cases h;exact ⟨by simp [dx],λr hr=>by simp at hr,λh=>h⟩
 | r::rs,l,s,d,h=>by
  rw [fG] at h
  split at h
  ·cases h
  rename_i h1
  obtain ⟨h2,h3,h4⟩:=LV (Classical.not_not.1 h1);rw [h2] at h;obtain ⟨h5,h6,h7⟩:=vO h;refine ⟨by rw [h5];simp [dx,List.flatMap_cons],λx hx=>?_,λhl=>h7 (by rw [List.length_append];omega)⟩
  rcases List.mem_cons.1 hx with rfl | hx
  ·exact h3
  exact h6 x hx
theorem aho {Q:Qd} {e:Ev} (h:(jF Q e).2.2.1=true):(jF Q e).2.2.2=0:=by
 unfold jF at h⊢
 split at h
 ·cases h
 rename_i h1
 rw [if_neg h1]
 split at h
 ·cases h
 rename_i h2;rw [if_neg h2]
theorem ahp {Q:Qd} {e:Ev} (h:(jF Q e).2.2.2=0):bE e=0:=by
 unfold jF at h
 split at h
 ·rename_i h1;exact absurd h h1
 split at h
 ·rename_i h2;exact absurd h h2
 rename_i h2;exact Classical.not_not.1 h2
theorem II: ∀ {n:Nat} {l:List Ev},l.length=n->good l-> ∀ e∈l,bE e=0
 | 0,l,hn,_,e,he=>by rw [List.length_eq_zero_iff.1 hn] at he;simp at he
 | n+1,l,hn,h,e,he=>by
  have e1:l=l.take n++[l[n]]:=by rw [<-zY (by omega),<-hn,List.take_length]
  have h':good (l.take n++[l[n]]):=e1▸h;rw [e1] at he
  rcases List.mem_append.1 he with he | he
  ·exact II (n:=n) (by rw [List.length_take];omega) (zX h) e he
  rw [List.mem_singleton] at he;rw [he];exact ahp (good_step h').1
section
variable {b:bI} {e:Ev}
theorem Vb (h: ¬ (gN b e).2.2.1=false):aj b=0/\bE e=0/\serves b/\(jF (aR b.evs).1 e).2.2.1=true/\b.evs.length<1999/\e.kind≠4/\gN b e=({ b with evs:=b.evs++[e] },(jF (aR b.evs).1 e).2.1,true,0):=by
 unfold gN at h⊢;by_cases c1:aj b≠0
 ·rw [if_pos c1] at h;exact absurd rfl h
 rw [if_neg c1] at h⊢;by_cases c2:bE e≠0
 ·rw [if_pos c2] at h;exact absurd rfl h
 rw [if_neg c2] at h⊢;by_cases c3:e.kind=4
 ·rw [if_pos c3] at h;exact absurd rfl h
 rw [if_neg c3] at h⊢;by_cases c4:b.role=3
 ·rw [if_pos c4] at h;exact absurd rfl h
 rw [if_neg c4] at h⊢;by_cases c5:b.role≠1/\b.role≠2
 ·rw [if_pos c5] at h;exact absurd rfl h
 rw [if_neg c5] at h⊢;by_cases c6:(jF (aR b.evs).1 e).2.2.1=false
 ·rw [if_pos c6] at h;exact absurd rfl h
 rw [if_neg c6] at h⊢;by_cases c7:1999<=b.evs.length
 ·rw [if_pos c7] at h;exact absurd rfl h
 rw [if_neg c7];exact ⟨Classical.not_not.1 c1,Classical.not_not.1 c2,by unfold serves;omega,by simpa using c6,by omega,c3,rfl⟩
theorem adh {ep fr:Int} (h: ¬ (dH b ep fr).2≠0) (h2: ¬ (dH b ep fr).1.ep=b.ep):(b.role=0\/b.role=4)/\b.ep<ep/\1<=ep/\ep<=1048576/\0<=fr/\fr<=4/\dH b ep fr=(⟨4,ep,fr,0,0,[]⟩,0):=by
 unfold dH at h h2⊢;by_cases c1:aj b≠0
 ·rw [if_pos c1] at h;exact absurd c1 h
 rw [if_neg c1] at h h2⊢;by_cases c2: ¬ (1<=ep/\ep<=1048576/\0<=fr/\fr<=4)
 ·rw [if_pos c2] at h;exact absurd (by decide) h
 rw [if_neg c2] at h h2⊢;by_cases c3:b.role≠0/\b.role≠4
 ·rw [if_pos c3] at h;exact absurd (by decide) h
 rw [if_neg c3] at h h2⊢;by_cases c4:b.role=4/\b.ep=ep/\b.fr=fr
 ·rw [if_pos c4] at h2;exact absurd rfl h2
 rw [if_neg c4] at h h2⊢;by_cases c5:ep<=b.ep
 ·rw [if_pos c5] at h;exact absurd (by decide) h
 rw [if_neg c5];have c2':=Classical.not_not.1 c2;exact ⟨by omega,by omega,c2'.1,c2'.2.1,c2'.2.2.1,c2'.2.2.2,rfl⟩
theorem Vd {ep fr:Int} (h: ¬ (dH b ep fr).2≠0) (h2:(dH b ep fr).1.ep=b.ep):b.role=4/\b.ep=ep/\b.fr=fr:=by
 unfold dH at h h2;by_cases c1:aj b≠0
 ·rw [if_pos c1] at h;exact absurd c1 h
 rw [if_neg c1] at h h2;by_cases c2: ¬ (1<=ep/\ep<=1048576/\0<=fr/\fr<=4)
 ·rw [if_pos c2] at h;exact absurd (by decide) h
 rw [if_neg c2] at h h2;by_cases c3:b.role≠0/\b.role≠4
 ·rw [if_pos c3] at h;exact absurd (by decide) h
 rw [if_neg c3] at h h2;by_cases c4:b.role=4/\b.ep=ep/\b.fr=fr
 ·exact c4
 rw [if_neg c4] at h h2;by_cases c5:ep<=b.ep
 ·rw [if_pos c5] at h;exact absurd (by decide) h
 rw [if_neg c5] at h2;exact absurd (show ep=b.ep from h2) (by omega)
def Mj (b:bI) (at_:Int) (l:List Ev):List Ev:=b.evs++l.drop (b.evs.length-at_.toNat)
def yL (b:bI) (at_:Int) (l:List Ev) (last:Bool):bI:=if last=true then ⟨1,b.ep,0,0,0,Mj b at_ l++[bJ]⟩ else { b with evs:=Mj b at_ l }
theorem Y8 {ep at_:Int} {l:List Ev} {last:Bool} (h: ¬ (dB b ep at_ l last).2≠0):b.role=4/\b.ep=ep/\0<=at_/\at_<=b.evs.length/\(b.evs.drop at_.toNat).take l.length=l.take (b.evs.length-at_.toNat)/\
  (last=true->b.evs.length<=at_.toNat+l.length)/\aj (yL b at_ l last)=0/\dB b ep at_ l last=(yL b at_ l last,0):=by
 unfold dB at h⊢;by_cases c1:aj b≠0
 ·rw [if_pos c1] at h;exact absurd c1 h
 rw [if_neg c1] at h⊢;by_cases c2:b.role≠4
 ·rw [if_pos c2] at h;exact absurd (by decide) h
 rw [if_neg c2] at h⊢;by_cases c3:b.ep≠ep
 ·rw [if_pos c3] at h;exact absurd (by decide) h
 rw [if_neg c3] at h⊢;have c3':b.ep=ep:=Classical.not_not.1 c3;subst c3';by_cases c4: ¬ (0<=at_/\at_<=b.evs.length)
 ·rw [if_pos c4] at h;exact absurd (by decide) h
 rw [if_neg c4] at h⊢;by_cases c5: ¬ (b.evs.drop at_.toNat).take l.length=l.take (b.evs.length-at_.toNat)
 ·rw [if_pos c5] at h;exact absurd (by decide) h
 rw [if_neg c5] at h⊢;by_cases c6:last=true/\at_.toNat+l.length<b.evs.length
 ·rw [if_pos c6] at h;exact absurd (by decide) h
 rw [if_neg c6] at h⊢;change ¬ (if aj (yL b at_ l last)≠0 then (bG,(3:Int)) else (yL b at_ l last,0)).2≠0 at h
 show _/\_/\_/\_/\_/\_/\_/\(if aj (yL b at_ l last)≠0 then (bG,(3:Int)) else (yL b at_ l last,0))=_
 by_cases c7:aj (yL b at_ l last)≠0
 ·rw [if_pos c7] at h;exact absurd (by decide) h
 have c4':=Classical.not_not.1 c4;rw [if_neg c7];exact ⟨Classical.not_not.1 c2,rfl,c4'.1,c4'.2,Classical.not_not.1 c5,λhl=>by by_cases h9:at_.toNat+l.length<b.evs.length;exact absurd ⟨hl,h9⟩ c6;omega,Classical.not_not.1 c7,rfl⟩
theorem Ow {hv:Int} (h: ¬ (bK b hv).2≠0):0<=hv/\hv<=b.evs.length/\((b.role=3/\bK b hv=(b,0))\/(b.role=2/\(hv=b.evs.length\/b.rd=4)/\bK b hv=({ b with role:=3,rd:=0 },0))\/(b.role=2/\ ¬ (hv=b.evs.length\/b.rd=4)/\bK b hv=({ b with rd:=b.rd+1 },0))):=by
 unfold bK at h⊢;by_cases c1:aj b≠0
 ·rw [if_pos c1] at h;exact absurd c1 h
 rw [if_neg c1] at h⊢;by_cases c2:b.role≠2/\b.role≠3
 ·rw [if_pos c2] at h;exact absurd (by decide) h
 rw [if_neg c2] at h⊢;by_cases c3: ¬ (0<=hv/\hv<=b.evs.length)
 ·rw [if_pos c3] at h;exact absurd (by decide) h
 rw [if_neg c3] at h⊢;have c3':=Classical.not_not.1 c3;refine ⟨c3'.1,c3'.2,?_⟩;by_cases c4:b.role=3
 ·rw [if_pos c4];exact .inl ⟨c4,rfl⟩
 rw [if_neg c4];by_cases c5:hv=b.evs.length\/b.rd=4
 ·rw [if_pos c5];exact .inr (.inl ⟨by omega,c5,rfl⟩)
 rw [if_neg c5];exact .inr (.inr ⟨by omega,c5,rfl⟩)
theorem Y9 {ep:Int} (h: ¬ (gq b ep).2≠0):b.role=3/\b.ep<ep/\gq b ep=(⟨0,b.ep,0,0,0,[]⟩,0):=by
 unfold gq at h⊢;by_cases c1:aj b≠0
 ·rw [if_pos c1] at h;exact absurd c1 h
 rw [if_neg c1] at h⊢;by_cases c2:b.role≠3
 ·rw [if_pos c2] at h;exact absurd (by decide) h
 rw [if_neg c2] at h⊢;by_cases c3:ep<=b.ep
 ·rw [if_pos c3] at h;exact absurd (by decide) h
 rw [if_neg c3];exact ⟨Classical.not_not.1 c2,by omega,rfl⟩
theorem ahq {ep:Int} (h: ¬ (iL b ep).2≠0):b.role=0/\b.ep<ep/\iL b ep=(⟨1,ep,0,0,0,[]⟩,0):=by
 unfold iL at h⊢;by_cases c1:aj b≠0
 ·rw [if_pos c1] at h;exact absurd c1 h
 rw [if_neg c1] at h⊢;by_cases c2: ¬ (1<=ep/\ep<=1048576)
 ·rw [if_pos c2] at h;exact absurd (by decide) h
 rw [if_neg c2] at h⊢;by_cases c3:b.role≠0
 ·rw [if_pos c3] at h;exact absurd (by decide) h
 rw [if_neg c3] at h⊢;by_cases c4:ep<=b.ep
 ·rw [if_pos c4] at h;exact absurd (by decide) h
 rw [if_neg c4];exact ⟨Classical.not_not.1 c3,by omega,rfl⟩
theorem go_ok {tg:Int} (h:(yP b tg).2=0):b.role=1/\0<=tg/\tg<=4/\yP b tg=(⟨2,b.ep,0,tg,0,b.evs⟩,0):=by
 unfold yP at h⊢;by_cases c1:aj b≠0
 ·rw [if_pos c1] at h;exact absurd h c1
 rw [if_neg c1] at h⊢;by_cases c2: ¬ (0<=tg/\tg<=4)
 ·rw [if_pos c2] at h;exact absurd h (by decide)
 rw [if_neg c2] at h⊢;by_cases c3:b.role=2\/b.role=3
 ·rw [if_pos c3] at h;exact absurd h (by decide)
 rw [if_neg c3] at h⊢;by_cases c4:b.role≠1
 ·rw [if_pos c4] at h;exact absurd h (by decide)
 rw [if_neg c4] at h⊢;by_cases c5:b.ep=1048576
 ·rw [if_pos c5] at h;exact absurd h (by decide)
 rw [if_neg c5];have c2':=Classical.not_not.1 c2;exact ⟨Classical.not_not.1 c4,c2'.1,c2'.2,rfl⟩
theorem WR (hr:b.role=1) (h: ¬ (fJ b).2≠0):aj ⟨1,b.ep,0,0,0,b.evs++[bJ]⟩=0/\fJ b=(⟨1,b.ep,0,0,0,b.evs++[bJ]⟩,0):=by
 unfold fJ at h⊢;by_cases c1:aj b≠0
 ·rw [if_pos c1] at h;exact absurd c1 h
 rw [if_neg c1] at h⊢;rw [if_neg (by omega)] at h⊢;by_cases c3:aj ⟨1,b.ep,0,0,0,b.evs++[bJ]⟩≠0
 ·rw [if_pos c3] at h;exact absurd (by decide) h
 rw [if_neg c3];exact ⟨Classical.not_not.1 c3,rfl⟩
theorem Mk {hv:Int} (h: ¬ (ji b hv).2.2≠0):(b.role=2\/b.role=3)/\0<=hv/\hv<=b.evs.length/\ji b hv=((b.evs.drop hv.toNat).take 3,decide (b.role=3/\b.evs.length<=hv.toNat+3),0):=by
 unfold ji at h⊢;by_cases c1:aj b≠0
 ·rw [if_pos c1] at h;exact absurd c1 h
 rw [if_neg c1] at h⊢;by_cases c2:b.role≠2/\b.role≠3
 ·rw [if_pos c2] at h;exact absurd (by decide) h
 rw [if_neg c2] at h⊢;by_cases c3: ¬ (0<=hv/\hv<=b.evs.length)
 ·rw [if_pos c3] at h;exact absurd (by decide) h
 rw [if_neg c3];have c3':=Classical.not_not.1 c3;exact ⟨by omega,c3'.1,c3'.2,rfl⟩
end
structure uW (X:Nd) (rs us:List dM):Prop where
 data:X.data=dx (rs++us)
 syn:X.syn=(dx rs).length
 tape:iw rs λq=>jK (X.bs q)
 nN: ∀ q,q<4->aj (X.bs q)=0
 Za:X.pend=none->us=[]
 WS: ∀ p,X.pend=some p->us=p.rs X.bs/\p.ok X.bs/\p.q<4
 len:X.data.length<=100000
structure EX (X:Nd) (rs:List dM) (t:List UInt8) (f:Nat->bI):Prop where
 data:X.data=dx rs++t
 apG:(firstM t).2=0
 tape:iw rs f
 nN: ∀ q,q<4->aj (f q)=0/\(f q).role≠2
 syn:0<=X.syn/\X.syn<=X.data.length
 len:X.data.length<=100000
 qY:X.pend=none
 kU:X.inbox=[]
 bz: ∀ q,q<4->aj (X.bs q)=0
theorem ahr:aj bG=0:=l8 (.inl ⟨rfl,by decide,by decide,rfl,rfl,rfl,rfl⟩) yV
def EY (X:Nd):Prop:=(X.up=true/\ ∃ rs us,uW X rs us)\/(X.up=false/\ ∃ rs t f,EX X rs t f)
section
variable {X:Nd} {rs us:List dM} {t:List UInt8} {f:Nat->bI} {q:Nat} {p:gI}
theorem EY.Tq (h:EY X) (hu:X.up=true): ∃ rs us,uW X rs us:=h.elim (λh=>h.2) λh=>by rw [h.1] at hu;cases hu
theorem EY.aya (h:EY X) (hu:X.up=false): ∃ rs t f,EX X rs t f:=h.elim (λh=>by rw [h.1] at hu;cases hu) λh=>h.2
theorem uW.may (h:uW X rs us):dz X.data X.syn=true:=by
 have h1:=h.len;have h2:=h.data;rw [kY] at h2;have h3:=congrArg List.length h2;rw [List.length_append] at h3;simp only [dz,h.syn,Bool.and_eq_true,decide_eq_true_eq];omega
theorem EX.may (h:EX X rs t f):dz X.data X.syn=true:=by
 simp only [dz,Bool.and_eq_true,decide_eq_true_eq];exact ⟨⟨h.len,h.syn.1⟩,h.syn.2⟩
theorem EX.rd (h:EX X rs t f):jw X.data X.syn=(dx rs,min X.syn (dx rs).length,0)/\Bl X.data X.syn=some (vB f)/\ ∀ q,q<4->cu X.data X.syn q=f q:=h.tape.read h.data h.apG h.len h.syn.1 h.syn.2
theorem EX.view (h:EX X rs t f) (hu:X.up=false) (hq:q<4):X.view q=f q:=by
 unfold Nd.view;rw [if_neg (by rw [hu];simp)];exact h.rd.2.2 q hq
theorem Nb (hu:X.up=true):X.view=X.bs:=if_pos hu
def Kq (bs:Nat->bI) (p:gI) (x:bI):Prop:=
 x=jK (bs p.q)\/x=jK (p.b bs)\/ ∃ q b last j,p= .got q b last/\x={ bs q with evs:=b.evs.take ((bs q).evs.length+j) }/\(bs q).evs.length+j+(if last=true then 1 else 0)<=b.evs.length
theorem GX {b:bI} (h:b.role=4\/b.role=0\/b.role=3\/b.role=1):jK b=b:=Dg (by omega)
theorem ahs {bs:Nat->bI} {b:bI}:upd (λq=>jK (bs q)) q (jK b)=λk=>jK (upd bs q b k):=by
 funext k
 unfold upd
 split<;>rfl
theorem imports {bs:Nat->bI} {ep:Int} {es:List Ev} (h:iw rs λq=>jK (bs q)) (hb:aj (bs q)=0) (hr:(bs q).role=4) (dQ:(bs q).ep=ep) (hq:q<4) (hg:good es) (he:(bs q).evs=es.take (bs q).evs.length):
  ∀ j,(bs q).evs.length+j<=es.length->iw (rs++((es.drop (bs q).evs.length).take j).map λx=>fU 5 q ep 0 x) (upd (λq=>jK (bs q)) q { bs q with evs:=es.take ((bs q).evs.length+j) })
 | 0,_=>by
  rw [Nat.add_zero,<-he,List.take_zero,List.map_nil,List.append_nil];exact h.congr λk _=>by
   unfold upd
   split
   ·rename_i e;subst e;exact GX (.inl hr)
   rfl
 | j+1,hj=>by
  have ih:=imports h hb hr dQ hq hg he j (by omega);have hk:(bs q).evs.length+j<es.length:=by omega
  have e1:(es.drop (bs q).evs.length).take (j+1)=(es.drop (bs q).evs.length).take j++[es[(bs q).evs.length+j]]:=by
   rw [zY (by rw [List.length_drop];omega),List.getElem_drop]
  have hg2:good (es.take ((bs q).evs.length+j)++[es[(bs q).evs.length+j]]):=by rw [<-zY hk];exact zX hg
  have hb2:aj { bs q with evs:=es.take ((bs q).evs.length+j) }=0:=l8 (nX (gF hb) (by omega) _) (zX hg);obtain ⟨h1,h2,h3⟩:=YT (b:={ bs q with evs:=es.take ((bs q).evs.length+j) }) hb2 hr dQ hq (II rfl hg _ (List.getElem_mem hk)) hg2;rw [e1,List.map_append,<-List.append_assoc];have:=ih.snoc (q:=q) h2 hq rfl (by rw [upd_same];exact h1);refine this.congr λk _=>?_;unfold upd
  split
  ·dsimp only;rw [<-zY hk,Nat.add_assoc]
  rfl
theorem H9 {bs:Nat->bI} {r:dM} {x:bI} (h:iw rs λq=>jK (bs q)) (hq:q<4) (hr:aM r=0) (hrq:r.queue=q) (ha:dX (jK (bs q)) r=(jK x,0)):iw (rs++[r]) λk=>jK (upd bs q x k):=by
 rw [<-ahs];exact h.snoc hr hq hrq ha
theorem Ml {bs:Nat->bI} {b:bI} {last:Bool} (hp:(gI.got q b last).ok bs): ∃ es,good es/\(bs q).evs=es.take (bs q).evs.length/\(bs q).evs.length<=es.length/\es=b.evs.take es.length/\es.length+(if last=true then 1 else 0)=b.evs.length/\b.ep=(bs q).ep/\
  (gI.got q b last).rs bs=((es.drop (bs q).evs.length).map λx=>fU 5 q b.ep 0 x)++if last=true then [fU 6 q b.ep 0 aS] else []:=by
 obtain ⟨h1,h2,h3,h4,h5⟩:=hp;have hlen: ∀ {es:List Ev},(bs q).evs=es.take (bs q).evs.length->(bs q).evs.length<=es.length:=λ{es} h=>by
  have:=congrArg List.length h;rw [List.length_take] at this;omega
 cases last with
 | false=>
  obtain ⟨h6,h7⟩:=h4 rfl;refine ⟨b.evs,h2,h7,hlen h7,by rw [List.take_length],by simp,by rw [h6],?_⟩;unfold gI.rs sP;simp
 | true=>
  obtain ⟨es,h6,h7⟩:=h5 rfl;subst h6;refine ⟨es,P5 h2,h7,hlen h7,by simp,by simp,rfl,?_⟩;unfold gI.rs sP;simp
theorem sZ (h:iw rs λq=>jK (X.bs q)) (hb: ∀ q,q<4->aj (X.bs q)=0) (hp:p.ok X.bs) (hq:p.q<4):iw (rs++p.rs X.bs) (λk=>jK (upd X.bs p.q (p.b X.bs) k))/\aj (p.b X.bs)=0:=by
 have hbq:=hb _ hq
 cases p with
 | serve q evs op num a=>
  obtain ⟨h1,h2,h3,h4⟩:=hp;have hbq:aj (X.bs q)=0:=hbq;have hr:(X.bs q).role≠0:=by unfold serves at h1;omega
  have hb2:aj { X.bs q with evs:=evs }=0:=l8 (nX (gF hbq) hr _) h4;have hd:=xE h1 hbq;have hd2:jK { X.bs q with evs:=evs }=⟨1,(X.bs q).ep,0,0,0,evs⟩:=xE (b:={ X.bs q with evs:=evs }) h1 hb2;obtain ⟨a1,a2⟩:=P6 (b:=jK (X.bs q)) (q:=q) (e:=op) (sS hbq) (by rw [hd]) Sd hq h3 (by rw [ahh,<-h2];exact h4);refine ⟨H9 h hq a2 rfl ?_,hb2⟩
  show dX (jK (X.bs q)) (fU 2 q (X.bs q).ep 0 op)=(jK { X.bs q with evs:=evs },0)
  rw [a1,hd2,hd,h2]
 | begun q b=>
  obtain ⟨h1,e,f,rfl,h2,h3,h4,h5,h6⟩:=hp;have hd:jK (X.bs q)=X.bs q:=GX (by omega);obtain ⟨a1,a2⟩:=ac9 (q:=q) hbq h1 h2 ⟨h3,h4⟩ hq ⟨h5,h6⟩;refine ⟨H9 h hq a2 rfl ?_,l8 (.inr ⟨h3,h4,.inr (.inr (.inr ⟨rfl,h5,by show f<5;omega,rfl,rfl⟩))⟩) yV⟩
  show dX (jK (X.bs q)) _=_
  rw [hd];exact a1
 | got q b last=>
  obtain ⟨es,g1,g2,g3,g4,g5,g6,g7⟩:=Ml hp;have hr:(X.bs q).role=4:=hp.1;have hgb:good b.evs:=hp.2.1;have hbq:aj (X.bs q)=0:=hbq;have hs:=gF hbq;unfold bq at hs;have hi:=imports h hbq hr g6.symm hq g1 g2 (es.length-(X.bs q).evs.length) (by omega);rw [show (X.bs q).evs.length+(es.length-(X.bs q).evs.length)=es.length by omega,List.take_length,List.take_of_length_le (by rw [List.length_drop];omega)] at hi;rw [g7]
  cases last with
  | false=>
   have e1:=(hp.2.2.2.1 rfl).1;have e2:es=b.evs:=by rw [g4];simp only [Bool.false_eq_true,if_false,Nat.add_zero] at g5;rw [g5,List.take_length]
   subst e2;simp only [Bool.false_eq_true,if_false,List.append_nil];have hr0:(X.bs q).role≠0:=by rw [hr];decide
   have hbk:aj b=0:=by rw [e1];exact l8 (nX (gF hbq) hr0 _) hgb
   refine ⟨hi.congr λk _=>?_,hbk⟩
   show _=jK (upd X.bs q b k)
   unfold upd
   split
   ·rw [<-e1];exact (GX (.inl (by rw [e1];exact hr))).symm
   rfl
  | true=>
   obtain ⟨es',e1,e2⟩:=hp.2.2.2.2 rfl;have e3:es=es':=by rw [g4,e1];rw [e1] at g5;simp only [if_true,List.length_append,List.length_singleton] at g5;rw [show es.length=es'.length by omega];simp
   subst e3;subst e1;have hr0:(X.bs q).role≠0:=by rw [hr];decide
   have hb2:aj { X.bs q with evs:=es }=0:=l8 (nX (gF hbq) hr0 _) g1;obtain ⟨a1,a2⟩:=am6 (b:={ X.bs q with evs:=es }) (q:=q) hb2 hr rfl hq hgb;have hk:=l8 (b:=⟨1,(X.bs q).ep,0,0,0,es++[bJ]⟩) (zZ (by omega) (by omega) _) hgb;simp only [if_true];rw [<-List.append_assoc];have:=hi.snoc (q:=q) a2 hq rfl (by rw [upd_same];exact a1);refine ⟨this.congr λk _=>?_,hk⟩
   show _=jK (upd X.bs q _ k)
   unfold upd
   split
   ·rfl
   rfl
 | iZ q b at_=>
  obtain ⟨h1,rfl⟩:=hp;have hbq:aj (X.bs q)=0:=hbq;have hs:=gF hbq;unfold bq at hs;have hd:=xE (.inr h1) hbq;obtain ⟨a1,a2⟩:=ahg (b:=jK (X.bs q)) (q:=q) (tg:=(X.bs q).tg) (sS hbq) (by rw [hd]) Sd hq (by omega);rw [Sd] at a1;have hbk:aj { X.bs q with role:=3,rd:=0 }=0:=l8 (.inr ⟨by show 1<=(X.bs q).ep;omega,by show (X.bs q).ep<=_;omega,.inr (.inr (.inl ⟨rfl,by show (X.bs q).fr=0;omega,by show 0<=(X.bs q).tg;omega,by show (X.bs q).tg<5;omega,rfl⟩))⟩) (jf (b:=X.bs q) hbq);refine ⟨H9 h hq a2 rfl ?_,hbk⟩
  show dX (jK (X.bs q)) (fU 3 q (X.bs q).ep (X.bs q).tg aS)=(jK { X.bs q with role:=3,rd:=0 },0)
  rw [a1,GX (b:={ X.bs q with role:=3,rd:=0 }) (.inr (.inr (.inl rfl))),hd]
  show ((⟨3,(X.bs q).ep,0,(X.bs q).tg,0,(X.bs q).evs⟩:bI),(0:Int))=(⟨3,(X.bs q).ep,(X.bs q).fr,(X.bs q).tg,0,(X.bs q).evs⟩,0)
  have:(X.bs q).fr=0:=by omega
  rw [this]
 | forget q b=>
  obtain ⟨h1,rfl⟩:=hp;have hbq:aj (X.bs q)=0:=hbq;have hs:=gF hbq;unfold bq at hs;obtain ⟨a1,a2⟩:=YU (q:=q) hbq h1 rfl hq;refine ⟨H9 h hq a2 rfl ?_,l8 (.inl ⟨rfl,by show 0<=(X.bs q).ep;omega,by show (X.bs q).ep<=_;omega,rfl,rfl,rfl,rfl⟩) yV⟩
  show dX (jK (X.bs q)) _=_
  rw [GX (.inr (.inr (.inl h1)))];exact a1
theorem Sg {bs:Nat->bI} (hb: ∀ q,q<4->aj (bs q)=0) (hq:q<4):aj (jK (bs q))=0/\(jK (bs q)).role≠2:=⟨sS (hb q hq),IC⟩
theorem Zb (h:iw rs λq=>jK (X.bs q)) (hb: ∀ q,q<4->aj (X.bs q)=0) (hp:p.ok X.bs) (hq:p.q<4) (j:Nat):
  ∃ f',iw (rs++(p.rs X.bs).take j) f'/\(∀ q,q<4->q≠p.q->f' q=jK (X.bs q))/\Kq X.bs p (f' p.q)/\aj (f' p.q)=0/\(f' p.q).role≠2:=by
 obtain ⟨hf,hfb⟩:=sZ h hb hp hq;have full: ∃ f',iw (rs++p.rs X.bs) f'/\(∀ q,q<4->q≠p.q->f' q=jK (X.bs q))/\Kq X.bs p (f' p.q)/\aj (f' p.q)=0/\(f' p.q).role≠2:=
  ⟨_,hf,λq _ hne=>by rw [upd_ne hne],.inr (.inl (by rw [upd_same])),by rw [upd_same];exact sS hfb,IC⟩
 have zero: ∃ f',iw (rs++([]:List dM)) f'/\(∀ q,q<4->q≠p.q->f' q=jK (X.bs q))/\Kq X.bs p (f' p.q)/\aj (f' p.q)=0/\(f' p.q).role≠2:=
  ⟨_,by rw [List.append_nil];exact h,λ_ _ _=>rfl,.inl rfl,sS (hb _ hq),IC⟩
 have one: ∀ r,p.rs X.bs=[r]-> ∃ f',iw (rs++(p.rs X.bs).take j) f'/\(∀ q,q<4->q≠p.q->f' q=jK (X.bs q))/\Kq X.bs p (f' p.q)/\aj (f' p.q)=0/\(f' p.q).role≠2:=λr hr=>by
  cases j with
  | zero=>rw [List.take_zero];exact zero
  | succ j=>rw [hr,List.take_of_length_le (by simp),<-hr];exact full
 cases p with
 | serve q evs op num a=>exact one _ rfl
 | begun q b=>exact one _ rfl
 | iZ q b at_=>exact one _ rfl
 | forget q b=>exact one _ rfl
 | got q b last=>
  obtain ⟨es,g1,g2,g3,g4,g5,g6,g7⟩:=Ml hp;have hr:(X.bs q).role=4:=hp.1;by_cases hj:j<=es.length-(X.bs q).evs.length
  ·have hbq:aj (X.bs q)=0:=hb _ hq;have hi:=imports h hbq hr g6.symm hq g1 g2 j (by omega);have e1:((gI.got q b last).rs X.bs).take j=((es.drop (X.bs q).evs.length).take j).map λx=>fU 5 q b.ep 0 x:=by
    rw [g7,List.take_append_of_le_length (by rw [List.length_map,List.length_drop];omega),List.map_take]
   have e2:es.take ((X.bs q).evs.length+j)=b.evs.take ((X.bs q).evs.length+j):=by
    rw [g4,List.take_take,Nat.min_eq_left (by omega)]
   rw [e1];refine ⟨_,hi,λk _ hk=>upd_ne hk,?_,?_,?_⟩
   ·refine .inr (.inr ⟨q,b,last,j,rfl,?_,by omega⟩)
    show upd _ q _ q=_
    rw [upd_same,e2]
   ·show aj (upd _ q _ q)=0
    rw [upd_same];exact l8 (nX (gF hbq) (by omega) _) (zX g1)
   show (upd (λq=>jK (X.bs q)) q { X.bs q with evs:=es.take ((X.bs q).evs.length+j) } q).role≠2
   rw [upd_same]
   show (X.bs q).role≠2
   omega
  have:((gI.got q b last).rs X.bs).take j=(gI.got q b last).rs X.bs:=by
   refine List.take_of_length_le ?_;rw [g7,List.length_append,List.length_map,List.length_drop]
   cases last<;>simp<;>omega
  rw [this];exact full
end
def Nd.crashed (X:Nd) (keep:Int):Nd:={ X.blank with up:=false,data:=(nY X.data X.syn keep).1,syn:=(nY X.data X.syn keep).2.1 }
section
variable {X:Nd} {rs us:List dM} {t:List UInt8} {f:Nat->bI} {q:Nat} {p:gI} {keep:Int}
theorem adi (h:uW X rs us) (hk:0<=keep): ∃ rs' t f,EX (X.crashed keep) rs' t f/\ ∀ q,q<4->f q=jK (X.bs q)\/ ∃ p,X.pend=some p/\p.q=q/\Kq X.bs p (f q):=by
 have hm:=h.may;have hd:X.data=dx rs++dx us:=by rw [h.data,kY]
 have hl:=congrArg List.length hd;rw [List.length_append] at hl;have hs:=h.syn;obtain ⟨N,h1,h2,e⟩: ∃ N:Nat,(dx rs).length<=N/\N<=X.data.length/\nY X.data X.syn keep=(X.data.take N,(N:Int),0):=by
  unfold nY;rw [if_pos hm,if_neg (by omega)];by_cases c:(X.data.length:Int)-X.syn<keep
  ·rw [if_pos c];exact ⟨X.data.length,by omega,Nat.le_refl _,by rw [List.take_length]⟩
  rw [if_neg c];refine ⟨(X.syn+keep).toNat,by omega,by omega,?_⟩;rw [show (((X.syn+keep).toNat:Nat):Int)=X.syn+keep by omega]
 obtain ⟨j,t,g1,g2,g3⟩:=LU us (N-(dx rs).length) (by omega);have e2:X.data.take N=dx (rs++us.take j)++t:=by
  rw [hd,List.take_append,List.take_of_length_le h1,g1,kY,List.append_assoc]
 have hlen:(X.data.take N).length=N:=by rw [List.length_take];omega
 have key: ∀ f,iw (rs++us.take j) f->(∀ q,q<4->aj (f q)=0/\(f q).role≠2)->EX (X.crashed keep) (rs++us.take j) t f:=λf hf hb=>by
  have hd':(X.crashed keep).data=X.data.take N:=by unfold Nd.crashed;dsimp only;rw [e]
  have hs':(X.crashed keep).syn=N:=by unfold Nd.crashed;dsimp only;rw [e]
  have:=h.len;exact ⟨by rw [hd',e2],g2,hf,hb,by rw [hd',hs',hlen];omega,by rw [hd',hlen];omega,rfl,rfl,λ_ _=>ahr⟩
 cases hp:X.pend with
 | none=>
  have hu:=h.Za hp;refine ⟨_,t,λq=>jK (X.bs q),key _ ?_ λq hq=>Sg h.nN hq,λq _=> .inl rfl⟩;rw [hu,List.take_nil,List.append_nil];exact h.tape
 | some p=>
  obtain ⟨hu,hpo,hq⟩:=h.WS p hp;obtain ⟨f',f1,f2,f3,f4,f5⟩:=Zb h.tape h.nN hpo hq j;rw [<-hu] at f1;refine ⟨_,t,f',key _ f1 λq hq4=>?_,λq hq4=>?_⟩
  ·by_cases c:q=p.q
   ·subst c;exact ⟨f4,f5⟩
   rw [f2 q hq4 c];exact Sg h.nN hq4
  by_cases c:q=p.q
  ·subst c;exact .inr ⟨p,rfl,rfl,f3⟩
  exact .inl (f2 q hq4 c)
def nS (b:bI):bI:=⟨1,b.ep,0,0,0,b.evs++[bJ]⟩
theorem Nc {s:Int} {f:Nat->bI}: ∀ {ql:List Nat} {rs:List dM} {g:Nat->bI} {d:List UInt8},ql.Nodup->(∀ q∈ql,q<4/\g q=f q)->iw rs g->(∀ q,q<4->aj (g q)=0)->(dx rs).length<=100000->eT s f ql (dx rs)=some d->
  ∃ ws,d=dx (rs++ws)/\iw (rs++ws) (λq=>if q∈ql/\(f q).role=1 then nS (f q) else g q)/\d.length<=100000/\ ∀ q∈ql,(f q).role=1->aj (nS (f q))=0/\fJ (f q)=(nS (f q),0)
 | [],rs,g,d,_,_,hT,hb,hl,h=>by
  cases h;exact ⟨[],by simp,by simpa using hT,hl,by simp⟩
 | q::r,rs,g,d,hnd,hq,hT,hb,hl,h=>by
  rw [eT] at h;obtain ⟨h1,h2⟩:=List.nodup_cons.1 hnd;obtain ⟨hq4,hgq⟩:=hq q (by simp);by_cases c1:(f q).role≠1
  ·rw [if_pos c1] at h;obtain ⟨ws,e1,e2,e3,e4⟩:=Nc h2 (λk hk=>hq k (by simp [hk])) hT hb hl h;refine ⟨ws,e1,e2.congr λk _=>?_,e3,λk hk hr=>?_⟩
   ·by_cases e:k=q
    ·subst e;rw [if_neg (λh=>c1 h.2),if_neg (λh=>c1 h.2)]
    simp [e]
   rcases List.mem_cons.1 hk with rfl | hk
   ·exact absurd hr c1
   exact e4 k hk hr
  rw [if_neg c1] at h;by_cases c2:(fJ (f q)).2≠0
  ·rw [if_pos c2] at h;cases h
  rw [if_neg c2] at h;have hr1:=Classical.not_not.1 c1;obtain ⟨k1,k2⟩:=WR hr1 c2
  split at h
  ·cases h
  rename_i d' hw
  obtain ⟨w1,w2,w3⟩:=vO hw;have hd':d'=dx (rs++[fU 2 q (f q).ep 0 bJ]):=by rw [w1,kY]
  have hbq:=hb q hq4;obtain ⟨a1,a2⟩:=P6 (b:=g q) (q:=q) (e:=bJ) hbq (by rw [hgq];exact hr1) rfl hq4 (by decide) (by rw [hgq];exact (eO k1).2);rw [hgq] at a1 a2 hbq;have hs:=gF hbq;unfold bq at hs;have hx:({ f q with evs:=(f q).evs++[bJ] }:bI)=nS (f q):=by
   unfold nS;simp only [bI.mk.injEq,and_true,true_and];omega
  rw [hx] at a1;have hT2:=hT.snoc (q:=q) a2 hq4 rfl (by rw [hgq];exact a1);rw [hd'] at h;obtain ⟨ws,e1,e2,e3,e4⟩:=Nc h2 (g:=upd g q (nS (f q))) (λk hk=>⟨(hq k (by simp [hk])).1,by rw [upd_ne (λe:k=q=>h1 (e▸hk))];exact (hq k (by simp [hk])).2⟩) hT2
   (λk hk=>by
    by_cases e:k=q
    ·subst e;rw [upd_same];exact k1
    rw [upd_ne e];exact hb k hk) (by rw [<-hd'];exact w3 hl) h
  refine ⟨fU 2 q (f q).ep 0 bJ::ws,by rw [e1,List.append_assoc];rfl,?_,e3,λk hk hr=>?_⟩
  ·rw [show rs++fU 2 q (f q).ep 0 bJ::ws=rs++[fU 2 q (f q).ep 0 bJ]++ws by rw [List.append_assoc];rfl];refine e2.congr λk _=>?_;by_cases e:k=q
   ·subst e;rw [if_neg (λh=>h1 h.1),upd_same,if_pos ⟨by simp,hr1⟩]
   rw [upd_ne e];simp [e]
  rcases List.mem_cons.1 hk with rfl | hk
  ·exact ⟨k1,k2⟩
  exact e4 k hk hr
end
section
variable {n q:Nat} {evs:List Ev} {an:List iH} {bs:Nat->bI}
structure rM (m m':Cl):Prop where
 au:m'.au=m.au
 off:m'.off=m.off
 fly:m'.fly=m.fly
 aZ:m'.aZ=m.aZ
 calls:m'.calls=m.calls
theorem rM.refl (m:Cl):rM m m:=⟨rfl,rfl,rfl,rfl,rfl⟩
theorem rM.trans {a b c:Cl} (h:rM a b) (h':rM b c):rM a c:=⟨h'.au.trans h.au,h'.off.trans h.off,h'.fly.trans h.fly,h'.aZ.trans h.aZ,h'.calls.trans h.calls⟩
theorem Mq (m:Cl) {e:Ev} {a:iH} {u:Int}:rM m (m.tell n q e a u):=⟨rfl,rfl,rfl,rfl,rfl⟩
theorem Af: ∀ (il:List Nat) (m:Cl),rM m (m.recovered n q evs an il)/\(m.recovered n q evs an il).aP.length=m.aP.length+il.length
 | [],m=>⟨.refl m,rfl⟩
 | i::r,m=>by
  obtain ⟨h1,h2⟩:=Af r (m.tell n q (evs.getD i aS) (an.getD i gV) (-1));rw [Cl.recovered];refine ⟨(Mq m).trans h1,?_⟩;rw [h2];unfold Cl.tell;simp only [List.length_append,List.length_cons,List.length_nil];omega
theorem Ea (m:Cl) (hl:((m.au n).bs q).evs.length<=2000):rM m (m.recover n q)/\(m.recover n q).aP.length<=m.aP.length+2000:=by
 unfold Cl.recover
 split
 ·exact ⟨Mq m,by simp [Cl.tell]⟩
 obtain ⟨h1,h2⟩:=Af (n:=n) (q:=q) (evs:=((m.au n).bs q).evs) (an:=(aR ((m.au n).bs q).evs).2.1) ((List.range ((m.au n).bs q).evs.length).drop (m.shown n q).2.toNat) m;refine ⟨h1,?_⟩;rw [h2,List.length_drop,List.length_range];omega
structure Qi (m m':Cl) (n:Nat) (bs:Nat->bI):Prop where
 au:m'.au=upd m.au n { m.au n with bs:=bs }
 off:m'.off=m.off
 fly:m'.fly=m.fly
 aZ:m'.aZ=m.aZ
 calls:m'.calls=m.calls
theorem BQ: ∀ (ql:List Nat) (m:Cl),ql.Nodup->(∀ q∈ql,(m.au n).bs q=bs q/\(bs q).evs.length<=2000)->
  Qi m (Cl.woken n bs ql m) n (λq=>if q∈ql/\(bs q).role=1 then (fJ (bs q)).1 else (m.au n).bs q)/\(Cl.woken n bs ql m).aP.length<=m.aP.length+2001*ql.length
 | [],m,_,_=>by
  refine ⟨⟨?_,rfl,rfl,rfl,rfl⟩,Nat.le_refl _⟩
  show m.au=_
  refine (aJ ?_).symm;simp
 | q::r,m,hnd,hq=>by
  obtain ⟨h1,h2⟩:=List.nodup_cons.1 hnd;obtain ⟨hq1,hq2⟩:=hq q (by simp);rw [Cl.woken];by_cases c:(bs q).role≠1
  ·rw [if_pos c];obtain ⟨g1,g2⟩:=BQ r m h2 λk hk=>hq k (by simp [hk]);refine ⟨⟨?_,g1.off,g1.fly,g1.aZ,g1.calls⟩,by rw [List.length_cons];omega⟩;rw [g1.au];refine congrArg (λb=>upd m.au n { m.au n with bs:=b }) (funext λk=>?_);by_cases e:k=q
   ·subst e;rw [if_neg (λh=>c h.2),if_neg (λh=>c h.2)]
   simp [e]
  rw [if_neg c];obtain ⟨r1,r2⟩:=Ea (n:=n) (q:=q) m (by rw [hq1];exact hq2);have e1:((((m.recover n q).cK n q (fJ (bs q)).1).tell n q bJ gV (-1)).au)=upd m.au n { m.au n with bs:=upd (m.au n).bs q (fJ (bs q)).1 }:=by
   show upd (m.recover n q).au n { (m.recover n q).au n with bs:=upd ((m.recover n q).au n).bs q (fJ (bs q)).1 }=_
   rw [r1.au]
  obtain ⟨g1,g2⟩:=BQ r (((m.recover n q).cK n q (fJ (bs q)).1).tell n q bJ gV (-1)) h2 λk hk=>by
   rw [e1,upd_same];dsimp only;rw [upd_ne (λe:k=q=>h1 (e▸hk))];exact hq k (by simp [hk])
  refine ⟨⟨?_,g1.off.trans r1.off,g1.fly.trans r1.fly,g1.aZ.trans r1.aZ,g1.calls.trans r1.calls⟩,?_⟩
  ·rw [g1.au,e1,Cy,upd_same];refine congrArg (λb=>upd m.au n { m.au n with bs:=b }) (funext λk=>?_)
   show (if k∈r/\(bs k).role=1 then (fJ (bs k)).1 else upd (m.au n).bs q (fJ (bs q)).1 k)=if k∈q::r/\(bs k).role=1 then (fJ (bs k)).1 else (m.au n).bs k
   by_cases e:k=q
   ·subst e;rw [if_neg (λh=>h1 h.1),upd_same,if_pos ⟨by simp,Classical.not_not.1 c⟩]
   rw [upd_ne e];simp [e]
  have:(((m.recover n q).cK n q (fJ (bs q)).1).tell n q bJ gV (-1)).aP.length=(m.recover n q).aP.length+1:=by
   unfold Cl.tell;simp [Cl.cK,Cl.put]
  rw [this] at g2;rw [List.length_cons];omega
end
def Src (b:bI) (l:iJ):gI->Prop
 | .serve _ _ op num a=>l.kd=0/\op=l.op/\num=l.num/\a=(jF (aR b.evs).1 l.op).2.1/\l.op.kind≠4/\b.evs.length<1999
 | .begun _ x=>l.kd=2/\x=⟨4,l.ep,l.fr,0,0,[]⟩
 | .got _ x last=>l.kd=4/\b.fr=l.fr/\b.ep=l.ep/\0<=l.at_/\l.at_<=b.evs.length/\(b.evs.drop l.at_.toNat).take l.evs.length=l.evs.take (b.evs.length-l.at_.toNat)/\b.evs.length<=l.at_.toNat+l.evs.length/\last=l.last/\x=yL b l.at_ l.evs l.last
 | .iZ _ _ a=>l.kd=3/\b.tg=l.fr/\b.ep+1=l.ep/\a=l.at_/\0<=l.at_/\l.at_<=b.evs.length
 | .forget _ _=>l.kd=6/\b.ep<l.ep
inductive Hnd (m:Cl) (n:Nat) (l:iJ):Cl->Prop
 | same:Hnd m n l m
 | done (a:iH):l.kd=0->((gN ((m.au n).bs l.q) l.op).2.2.1=false/\a=(gN ((m.au n).bs l.q) l.op).2.1\/
   a=qQ 14/\serves ((m.au n).bs l.q)/\bE l.op=0/\fG (m.au n).data (m.au n).syn [fU 2 l.q ((m.au n).bs l.q).ep 0 l.op]=none/\good (((m.au n).bs l.q).evs++[l.op]))->Hnd m n l (m.done n l.q l.op l.num a)
 | have_:((m.au n).bs l.q).role=4->Hnd m n l (m.have_ n l.q)
 | part (b:bI):l.kd=3->0<=l.at_->l.at_<=((m.au n).bs l.q).evs.length->(((m.au n).bs l.q).role=2/\b={ (m.au n).bs l.q with rd:=((m.au n).bs l.q).rd+1 }/\((m.au n).bs l.q).rd≠4\/((m.au n).bs l.q).role=3/\b=(m.au n).bs l.q)->
   ((m.au n).bs l.q).tg=l.fr->aj b=0->Hnd m n l ((m.cK n l.q b).part n l.q l.at_)
 | pend (p:gI) (Y:Nd) (d:List UInt8):(Y=m.au n\/l.kd=6/\Y=(m.au n).hear n l)->p.q=l.q->p.ok (m.au n).bs->fG (m.au n).data (m.au n).syn (p.rs (m.au n).bs)=some d->Src ((m.au n).bs l.q) l p->Hnd m n l (m.put n { Y with data:=d,pend:=some p })
 | hear:l.kd=6->Hnd m n l (m.put n ((m.au n).hear n l))
section
variable {m:Cl} {n:Nat} {l:iJ}
theorem qA {X x:Nd} {rs:List dM} (h:X.write rs=some x): ∃ d,fG X.data X.syn rs=some d/\x={ X with data:=d }:=by
 unfold Nd.write at h;rw [Option.map_eq_some_iff] at h;obtain ⟨d,h1,h2⟩:=h;exact ⟨d,h1,h2.symm⟩
theorem Ve {X:Nd} {rs:List dM} (h:X.write rs=none):fG X.data X.syn rs=none:=by
 unfold Nd.write at h;rwa [Option.map_eq_none_iff] at h
theorem Vf {b:bI} {e:Ev} (h:aj b=0) (hl:b.evs.length<1999) (hd:(jF (aR b.evs).1 e).2.2.1=true):good (b.evs++[e]):=YQ (jf h) (by omega) (aho hd) hd
theorem Zc (hk:l.kd=0):Hnd m n l (m.serve n l):=by
 unfold Cl.serve
 split
 ·rename_i h
  exact .done _ hk (.inl ⟨h,rfl⟩)
 rename_i h
 obtain ⟨h1,h2,h3,h4,h5,h6,h7⟩:=Vb h;have hg:=Vf h1 h5 h4;rw [h7]
 split
 ·rename_i hw
  exact .done _ hk (.inr ⟨rfl,h3,h2,Ve hw,hg⟩)
 rename_i x hw
 obtain ⟨d,hd,rfl⟩:=qA hw;exact .pend (.serve l.q (((m.au n).bs l.q).evs++[l.op]) l.op l.num (jF (aR ((m.au n).bs l.q).evs).1 l.op).2.1) (m.au n) d (.inl rfl) rfl ⟨h3,rfl,h2,hg⟩ hd ⟨hk,rfl,rfl,rfl,h6,h5⟩
theorem Rp (hk:l.kd=2):Hnd m n l (m.offered n l):=by
 unfold Cl.offered
 split
 ·exact .same
 rename_i h
 split
 ·rename_i h2
  exact .have_ (Vd h h2).1
 rename_i h2
 obtain ⟨h3,h4,h5,h6,h7,h8,h9⟩:=adh h h2;rw [h9]
 split
 ·exact .same
 rename_i x hw
 obtain ⟨d,hd,rfl⟩:=qA hw;exact .pend (.begun l.q ⟨4,l.ep,l.fr,0,0,[]⟩) (m.au n) d (.inl rfl) rfl ⟨h3,l.ep,l.fr,rfl,h4,h5,h6,h7,h8⟩ hd ⟨hk,rfl⟩
theorem Vg (hb:aj ((m.au n).bs l.q)=0) (hk:l.kd=3):Hnd m n l (m.caught n l):=by
 unfold Cl.caught
 split
 ·exact .same
 rename_i h0
 split
 ·exact .same
 rename_i h
 obtain ⟨h1,h2,h3⟩:=Ow h;have uy:((m.au n).bs l.q).tg=l.fr:=by
  by_cases e:((m.au n).bs l.q).tg=l.fr
  ·exact e
  exact absurd (.inl e) h0
 have dQ:((m.au n).bs l.q).ep+1=l.ep:=by
  by_cases e:((m.au n).bs l.q).ep+1=l.ep
  ·exact e
  exact absurd (.inr e) h0
 have hcg:=FV hb (Classical.not_not.1 h)
 rcases h3 with ⟨h4,h5⟩ | ⟨h4,h6,h5⟩ | ⟨h4,h6,h5⟩
 ·rw [h5] at hcg⊢;rw [if_pos rfl];exact .part _ hk h1 h2 (.inr ⟨h4,rfl⟩) uy hcg
 ·rw [h5,if_neg (by show ¬ (3:Int)=_;omega)]
  split
  ·exact .same
  rename_i x hw
  obtain ⟨d,hd,rfl⟩:=qA hw;exact .pend (.iZ l.q { (m.au n).bs l.q with role:=3,rd:=0 } l.at_) (m.au n) d (.inl rfl) rfl ⟨h4,rfl⟩ hd ⟨hk,uy,dQ,rfl,h1,h2⟩
 rw [h5] at hcg⊢;rw [if_pos rfl];exact .part _ hk h1 h2 (.inl ⟨h4,rfl,λe=>h6 (.inr e)⟩) uy hcg
theorem Mr {b:bI} {at_:Int} {l:List Ev}:b.evs=(Mj b at_ l).take b.evs.length:=by unfold Mj;rw [List.take_left]
theorem adk {b:bI} {at_:Int} {l:List Ev} (h0:0<=at_) (h1:at_<=b.evs.length) (h:b.evs.length<=at_.toNat+l.length):(Mj b at_ l).length=at_.toNat+l.length:=by
 unfold Mj;rw [List.length_append,List.length_drop];omega
theorem aht (hk:l.kd=4):Hnd m n l (m.got n l):=by
 unfold Cl.got
 split
 ·exact .same
 rename_i h0
 have hr:((m.au n).bs l.q).role=4:=by
  by_cases e:((m.au n).bs l.q).role=4
  ·exact e
  exact absurd (.inl e) h0
 have hfr:((m.au n).bs l.q).fr=l.fr:=by
  by_cases e:((m.au n).bs l.q).fr=l.fr
  ·exact e
  exact absurd (.inr e) h0
 split
 ·exact .have_ hr
 split
 ·exact .same
 rename_i h2 h3
 have h: ¬ (dB ((m.au n).bs l.q) l.ep l.at_ l.evs l.last).2≠0:=λe=>h3 (.inl e);have hne: ¬ (dB ((m.au n).bs l.q) l.ep l.at_ l.evs l.last).1.evs.length=((m.au n).bs l.q).evs.length:=λe=>h3 (.inr e);obtain ⟨g1,g2,g3,g4,g5,g6,g7,g8⟩:=Y8 h;rw [g8] at hne⊢;have hlen:((m.au n).bs l.q).evs.length<=l.at_.toNat+l.evs.length:=by
  cases hl:l.last with
  | true=>exact g6 hl
  | false=>
   unfold yL Mj at hne;rw [if_neg (by rw [hl];simp)] at hne;dsimp only at hne;rw [List.length_append,List.length_drop] at hne;omega
 have hil:=adk g3 g4 hlen;have hgd:=jf g7;have hrs:(gI.got l.q (yL ((m.au n).bs l.q) l.at_ l.evs l.last) l.last).rs (m.au n).bs=sP l.q (yL ((m.au n).bs l.q) l.at_ l.evs l.last) ((m.au n).bs l.q).evs.length (l.at_.toNat+l.evs.length) l.last:=by
  show sP _ _ _ _ _=_
  congr 1
  unfold yL
  cases l.last with
  | true=>simp only [if_true,List.length_append,List.length_singleton];omega
  | false=>simp only [Bool.false_eq_true,if_false];omega
 split
 ·exact .same
 rename_i x hw
 obtain ⟨d,hd,rfl⟩:=qA hw;refine .pend (.got l.q (yL ((m.au n).bs l.q) l.at_ l.evs l.last) l.last) (m.au n) d (.inl rfl) rfl ⟨hr,hgd,II rfl hgd,λhl=>?_,λhl=>?_⟩ (by rw [hrs];exact hd) ⟨hk,hfr,g2,g3,g4,g5,hlen,rfl,rfl⟩
 ·unfold yL;rw [hl,if_neg (by simp)];exact ⟨rfl,Mr⟩
 refine ⟨Mj ((m.au n).bs l.q) l.at_ l.evs,?_,Mr⟩;unfold yL;rw [if_pos hl]
theorem Vh (hk:l.kd=6):Hnd m n l (m.learnt n l):=by
 unfold Cl.learnt
 split
 ·exact .hear hk
 rename_i h
 obtain ⟨h1,h2,h3⟩:=Y9 h;rw [h3]
 split
 ·exact .hear hk
 rename_i x hw
 obtain ⟨d,hd,rfl⟩:=qA hw;exact .pend (.forget l.q ⟨0,((m.au n).bs l.q).ep,0,0,0,[]⟩) ((m.au n).hear n l) d (.inr ⟨hk,rfl⟩) rfl ⟨h1,rfl⟩ hd ⟨hk,h2⟩
theorem hnd (hb: ∀ q,q<4->aj ((m.au n).bs q)=0) (hl:l.ok):Hnd m n l (m.handle n l):=by
 obtain ⟨h1,h2,h3⟩:=hl;unfold Cl.handle
 rcases h3 with h | h | h | h | h
 ·rw [if_pos h];exact Zc h
 ·rw [if_neg (by omega),if_pos h];exact Rp h
 ·rw [if_neg (by omega),if_neg (by omega),if_pos h];exact Vg (hb _ h1) h
 ·rw [if_neg (by omega),if_neg (by omega),if_neg (by omega),if_pos h];exact aht h
 rw [if_neg (by omega),if_neg (by omega),if_neg (by omega),if_neg (by omega)];exact Vh h
end
structure J6 (a:Ac):Prop where
 kd:1<=a.kd/\a.kd<=10
 nd:0<=a.nd/\a.nd<=4
 qu:0<=a.qu/\a.qu<=3
 at_:0<=a.at_/\a.at_<=1048576
 kp:0<=a.kp/\a.kp<=100000
 op:a.kd=2->bE a.op=0/\a.op.kind≠4
theorem Tt {x:Ac} (h:bF x=0):J6 x:=by
 cases hf:bM x.kd x.ek with
 | none=>rw [Wh hf] at h;cases h
 | some l=>
  by_cases ha:l.all (Kv x)=true
  ·by_cases hz:fin x l=zeros
   ·have hk:=agv ((acy hf).2 hz);clear h hz;obtain ⟨kd,nd,qu,at_,kp,ek,ep,ei,eb,eh,en⟩:=x
    rcases kinds kd ek with rfl | rfl | rfl | rfl | rfl | rfl | rfl | rfl | rfl | ⟨rfl,rfl⟩ | ⟨rfl,rfl⟩ | ⟨rfl,rfl⟩ | hn
    all_goals first
     | (dsimp only at hf;rw [hn] at hf;cases hf;done)
     | (simp [bM] at hf;subst hf;simp [keep] at hk;simp [Kv,Ac.get,Ac.ints] at ha;exact ⟨by dsimp only;omega,by dsimp only;omega,by dsimp only;omega,by dsimp only;omega,by dsimp only;omega,by (intro hk2;first | (simp at hk2;done) | (refine ⟨?_,by simp [Ac.op]⟩;simp [Ac.op,bE,jU,hk,ha]))⟩)
   rw [M8 hf ha hz] at h;cases h
  rw [Io hf ha] at h;cases h
def lZ (l:iJ):Prop:=l.q<4/\l.evs.length<=3/\(l.tg= -1\/(l.tg= -2/\0<=l.fr/\l.fr<5/\l.kd=5)\/(0<=l.tg/\l.tg<5/\(l.kd=0\/l.kd=2\/l.kd=3\/l.kd=4\/l.kd=6)))/\(l.kd=0->bE l.op=0/\l.op.kind≠4)
theorem nk {k:Int} {P:Prop} (h:k≠0):k=0->P:=λe=>absurd e h
theorem lZ.ok {l:iJ} (h:lZ l) (ht:0<=l.tg):l.ok:=by
 obtain ⟨h1,h2,h3 | h3 | h3,_⟩:=h
 ·omega
 ·omega
 exact ⟨h1,by omega,h3.2.2⟩
section
variable {n q:Nat} {b:bI} {u:Int} {a:iH} {p:Pl}
theorem IJ:lZ (om n u a p):=⟨by show 0<4;omega,by show 0<=3;omega,.inl rfl,nk (by show (1:Int)≠0;decide)⟩
theorem Nf (hq:q<4) (hr:b.role=4) (hb:aj b=0):lZ (zy n q b):=by
 have hs:=gF hb;unfold bq at hs;refine ⟨hq,by show 0<=3;omega,.inr (.inr ⟨by show 0<=b.fr;omega,by show b.fr<5;omega,.inr (.inr (.inl rfl))⟩),nk (by show (3:Int)≠0;decide)⟩
theorem Tv (hr:b.role=2\/b.role=3) (hb:aj b=0):0<=b.tg/\b.tg<5:=by
 have hs:=gF hb;unfold bq at hs;omega
theorem ahu {at_:Int} (hq:q<4) (hb:aj b=0) (h: ¬ (ji b at_).2.2≠0):lZ (Ti n q b at_):=by
 obtain ⟨h1,h2,h3,h4⟩:=Mk h;obtain ⟨h5,h6⟩:=Tv h1 hb;refine ⟨hq,?_,.inr (.inr ⟨h5,h6,.inr (.inr (.inr (.inl rfl)))⟩),nk (by show (4:Int)≠0;decide)⟩
 show (ji b at_).1.length<=3
 rw [h4];dsimp only;rw [List.length_take];omega
theorem adl (hq:q<4) (hr:b.role=2\/b.role=3) (hb:aj b=0):lZ (AQ n q b):=by
 obtain ⟨h5,h6⟩:=Tv hr hb;exact ⟨hq,by show 0<=3;omega,.inr (.inr ⟨h5,h6,.inr (.inl rfl)⟩),nk (by show (2:Int)≠0;decide)⟩
theorem ana (hq:q<4) (hn:n<5):lZ (YP n q):=⟨hq,by show 0<=3;omega,.inr (.inl ⟨rfl,by show 0<=(n:Int);omega,by show (n:Int)<5;omega,rfl⟩),nk (by show (5:Int)≠0;decide)⟩
theorem ahv (hq:q<4) (hn:n<5):lZ (Tj n q b):=⟨hq,by show 0<=3;omega,.inr (.inl ⟨rfl,by show 0<=(n:Int);omega,by show (n:Int)<5;omega,rfl⟩),nk (by show (5:Int)≠0;decide)⟩
theorem ahw {s:Bool} (hq:q<4) (hn:n<5) (hb:aj b=0):(∀ l∈j6 n q b s,lZ l)/\(j6 n q b s).length<=3:=by
 unfold j6;refine ⟨λl hl=>?_,?_⟩
 ·rcases List.mem_append.1 hl with hl | hl
  ·rcases List.mem_append.1 hl with hl | hl
   ·split at hl
    ·rename_i hr;rw [List.mem_singleton] at hl;subst hl;exact adl hq hr hb
    simp at hl
   split at hl
   ·rw [List.mem_singleton] at hl;subst hl;exact ana hq hn
   simp at hl
  split at hl
  ·rw [List.mem_singleton] at hl;subst hl;exact ahv hq hn
  simp at hl
 rw [List.length_append,List.length_append]
 split<;>split<;>split<;>simp
end
def Cl.tot (m:Cl):Nat:=m.fly.length+((m.au 0).inbox.length+((m.au 1).inbox.length+((m.au 2).inbox.length+((m.au 3).inbox.length+(m.au 4).inbox.length))))
theorem five {n:Nat} (hn:n<5):n=0\/n=1\/n=2\/n=3\/n=4:=by omega
theorem anb {m m':Cl} {n d:Nat} (hn:n<5) (ho: ∀ j,j≠n->m'.au j=m.au j) (h:m'.fly.length+(m'.au n).inbox.length<=m.fly.length+(m.au n).inbox.length+d):m'.tot<=m.tot+d:=by
 unfold Cl.tot
 rcases five hn with rfl | rfl | rfl | rfl | rfl
 ·rw [ho 1 (by decide),ho 2 (by decide),ho 3 (by decide),ho 4 (by decide)];omega
 ·rw [ho 0 (by decide),ho 2 (by decide),ho 3 (by decide),ho 4 (by decide)];omega
 ·rw [ho 0 (by decide),ho 1 (by decide),ho 3 (by decide),ho 4 (by decide)];omega
 ·rw [ho 0 (by decide),ho 1 (by decide),ho 2 (by decide),ho 4 (by decide)];omega
 rw [ho 0 (by decide),ho 1 (by decide),ho 2 (by decide),ho 3 (by decide)];omega
theorem IK {l:iJ} {n:Nat} (h:lZ l/\l.tg=n):l.ok:=h.1.ok (by rw [h.2];omega)
theorem Ms (m:Cl) {n:Nat} (hn:n<5):m.fly.length+(m.au n).inbox.length<=m.tot:=by
 unfold Cl.tot
 rcases five hn with rfl | rfl | rfl | rfl | rfl<;>omega
structure fQ (m:Cl) (T S D K:Nat):Prop where
 lW: ∀ n,n<5->EY (m.au n)
 wY: ∀ l∈m.fly,lZ l
 kU: ∀ n,n<5-> ∀ l∈(m.au n).inbox,lZ l/\l.tg=n
 room:m.tot<=T
 aP:m.aP.length<=S
 aZ:m.aZ.length<=D
 turn: ∀ n,n<5->(m.au n).turn<=K
 calls:m.calls<=K
theorem fQ.mono {m:Cl} {T S D K T' S' D' K':Nat} (h:fQ m T S D K) (h1:T<=T') (h2:S<=S') (h3:D<=D') (h4:K<=K'):fQ m T' S' D' K':=
 ⟨h.lW,h.wY,h.kU,Nat.le_trans h.room h1,Nat.le_trans h.aP h2,Nat.le_trans h.aZ h3,λn hn=>Nat.le_trans (h.turn n hn) h4,Nat.le_trans h.calls h4⟩
section
variable {m m':Cl} {n:Nat} {l:iJ} {rs:List dM} {T S D K:Nat}
theorem fQ.at_ (h:fQ m T S D K) (hn:n<5) (ho: ∀ j,j≠n->m'.au j=m.au j) (hk:EY (m'.au n)) (hl: ∀ l∈m'.fly,l∈m.fly\/lZ l) (hi: ∀ l∈(m'.au n).inbox,l∈(m.au n).inbox\/(lZ l/\l.tg=n))
  {c s d u:Nat} (h1:m'.fly.length+(m'.au n).inbox.length<=m.fly.length+(m.au n).inbox.length+c) (h2:m'.aP.length<=m.aP.length+s) (h3:m'.aZ.length<=m.aZ.length+d) (h4:(m'.au n).turn<=(m.au n).turn+u) (h5:m'.calls<=m.calls+u):fQ m' (T+c) (S+s) (D+d) (K+u):=by
 refine ⟨λj hj=>?_,λl hl'=>(hl l hl').elim (h.wY l) id,λj hj=>?_,?_,?_,?_,λj hj=>?_,?_⟩
 ·by_cases e:j=n
  ·subst e;exact hk
  rw [ho j e];exact h.lW j hj
 ·by_cases e:j=n
  ·subst e;exact λl hl'=>(hi l hl').elim (h.kU j hj l) id
  rw [ho j e];exact h.kU j hj
 ·have:=anb hn ho h1;have:=h.room;omega
 ·have:=h.aP;omega
 ·have:=h.aZ;omega
 ·by_cases e:j=n
  ·subst e;have:=h.turn j hj;omega
  rw [ho j e];have:=h.turn j hj;omega
 have:=h.calls;omega
structure Keep (m m':Cl):Prop where
 aZ:m'.aZ=m.aZ
 calls:m'.calls=m.calls
 off:m'.off=m.off
theorem Keep.refl (m:Cl):Keep m m:=⟨rfl,rfl,rfl⟩
theorem Keep.trans {a b c:Cl} (h:Keep a b) (h':Keep b c):Keep a c:=⟨h'.aZ.trans h.aZ,h'.calls.trans h.calls,h'.off.trans h.off⟩
theorem Zd {q:Nat} {op:Ev} {u:Int} {a:iH}:Keep m (m.done n q op u a)/\(m.done n q op u a).au=m.au/\ ∃ l,lZ l/\(m.done n q op u a).fly=m.fly++[l]:=by
 unfold Cl.done
 split
 ·exact ⟨⟨rfl,rfl,rfl⟩,rfl,_,IJ,rfl⟩
 exact ⟨⟨rfl,rfl,rfl⟩,rfl,_,IJ,rfl⟩
theorem Ze {q:Nat} {a:Int}:Keep m (m.part n q a)/\(m.part n q a).au=m.au/\(m.part n q a).fly=sV n q ((m.au n).bs q) a m.fly:=by
 unfold Cl.part sV
 split
 ·exact ⟨⟨rfl,rfl,rfl⟩,rfl,rfl⟩
 exact ⟨⟨rfl,rfl,rfl⟩,rfl,rfl⟩
theorem Mt {q:Nat} {b:bI} {a:Int} {fl:List iJ} (hq:q<4) (hb:aj b=0): ∀ l∈sV n q b a fl,l∈fl\/lZ l:=λl hl=>by
 unfold sV at hl
 split at hl
 ·exact .inl hl
 rename_i h
 rcases List.mem_append.1 hl with hl | hl
 ·exact .inl hl
 rw [List.mem_singleton] at hl;subst hl;exact .inr (ahu hq hb h)
theorem Zf {q:Nat} {b:bI} {a:Int} {fl:List iJ}:(sV n q b a fl).length<=fl.length+1:=by
 unfold sV
 split
 ·omega
 simp
theorem za {fl:List iJ} {x:iJ} (hx:lZ x): ∀ l∈fl++[x],l∈fl\/lZ l:=λl hl=>by
 rcases List.mem_append.1 hl with hl | hl
 ·exact .inl hl
 rw [List.mem_singleton] at hl;subst hl;exact .inr hx
theorem anc (hq:l.q<4) (h:uW (m.au n) rs []) (hp:(m.au n).pend=none) (H:Hnd m n l m'):(∃ us,uW (m'.au n) rs us)/\(∀ x∈m'.fly,x∈m.fly\/lZ x)/\Keep m m':=by
 cases H with
 | same=>exact ⟨⟨_,h⟩,λx hx=> .inl hx,.refl m⟩
 | done a h1 h2=>
  obtain ⟨h3,h4,l',h5,h6⟩:=Zd (m:=m) (n:=n) (q:=l.q) (op:=l.op) (u:=l.num) (a:=a);exact ⟨⟨[],by rw [h4];exact h⟩,by rw [h6];exact za h5,h3⟩
 | have_ h1=>exact ⟨⟨[],h⟩,za (Nf hq h1 (h.nN _ hq)),⟨rfl,rfl,rfl⟩⟩
 | part b h1 h2 h3 h4 h5 h6=>
  obtain ⟨g1,g2,g3⟩:=Ze (m:=m.cK n l.q b) (n:=n) (q:=l.q) (a:=l.at_);have e:(m.cK n l.q b).au n=(m.au n).cK l.q b:=bV _;refine ⟨⟨[],?_⟩,?_,?_⟩
  ·rw [g2,e];refine ⟨h.data,h.syn,h.tape.congr λk hk=>?_,λk hk=>?_,h.Za,λp hp'=>?_,h.len⟩
   ·show jK ((m.au n).bs k)=jK (upd (m.au n).bs l.q b k)
    by_cases e:k=l.q
    ·rw [e,upd_same]
     rcases h4 with ⟨h4,h7,_⟩ | ⟨_,h7⟩
     ·rw [h7];unfold jK;rw [if_pos h4,if_pos h4]
     rw [h7]
    rw [upd_ne e]
   ·show aj (upd (m.au n).bs l.q b k)=0
    by_cases e:k=l.q
    ·rw [e,upd_same];exact h6
    rw [upd_ne e];exact h.nN k hk
   exact absurd (hp'.symm.trans hp) (by simp)
  ·rw [g3,e,show ((m.au n).cK l.q b).bs l.q=b from upd_same _ _ _];exact Mt hq h6
  exact (⟨rfl,rfl,rfl⟩:Keep m (m.cK n l.q b)).trans g1
 | pend p Y d h1 h2 h3 h4 h5=>
  obtain ⟨w1,w2,w3⟩:=vO h4;have hY:Y.bs=(m.au n).bs/\Y.syn=(m.au n).syn:=by rcases h1 with h1 | ⟨_,h1⟩<;>rw [h1]<;>exact ⟨rfl,rfl⟩
  refine ⟨⟨p.rs (m.au n).bs,?_⟩,λx hx=> .inl hx,⟨rfl,rfl,rfl⟩⟩;rw [bV];refine ⟨?_,hY.2.trans h.syn,?_,?_,λe=>(by cases e),λp' e=>?_,w3 h.len⟩
  ·show d=_;rw [w1,h.data,List.append_nil,kY]
  ·dsimp only;rw [hY.1];exact h.tape
  ·dsimp only;rw [hY.1];exact h.nN
  cases e;dsimp only;rw [hY.1];exact ⟨rfl,h3,by rw [h2];exact hq⟩
 | hear h1=>
  refine ⟨⟨[],?_⟩,λx hx=> .inl hx,⟨rfl,rfl,rfl⟩⟩;rw [bV];exact ⟨h.data,h.syn,h.tape,h.nN,h.Za,h.WS,h.len⟩
theorem Qj {n:Nat} (P:Cl->Prop) (hstep: ∀ m l r,P m->(m.au n).pend=none->(m.au n).inbox=l::r->l.q<4/\P ((m.put n ((m.au n).box r)).handle n l)): ∀ (k:Nat) (m:Cl),(m.au n).inbox.length=k->P m->P (m.more n):=by
 intro k
 induction k with
 | zero=>
  intro m hk h;rw [Qg (List.length_eq_zero_iff.1 hk)];exact h
 | succ k ih=>
  intro m hk h
  cases hp:(m.au n).pend with
  | some p=>rw [EU (by rw [hp];simp)];exact h
  | none=>
   cases hi:(m.au n).inbox with
   | nil=>rw [hi] at hk;simp at hk
   | cons l r=>
    obtain ⟨hq,h2⟩:=hstep m l r h hp hi;rw [sW hp hi hq];have e:=(xG (m:=m.put n ((m.au n).box r)) (n:=n) (l:=l) hq).kU;have e2:((m.put n ((m.au n).box r)).au n).inbox=r:=by rw [bV];rfl
    exact ih _ (by rw [e,e2];rw [hi] at hk;simpa using hk) h2
structure Rdg (m0:Cl) (n:Nat) (rs:List dM) (m:Cl):Prop where
 up:(m.au n).up=true
 tape: ∃ us,uW (m.au n) rs us
 ES: ∀ j,j≠n->m.au j=m0.au j
 wY: ∀ l∈m.fly,l∈m0.fly\/lZ l
 kU: ∀ l∈(m.au n).inbox,l∈(m0.au n).inbox
 cnt:m.fly.length+(m.au n).inbox.length<=m0.fly.length+(m0.au n).inbox.length
 aP:m.aP.length+(m.au n).inbox.length<=m0.aP.length+(m0.au n).inbox.length
 keep:Keep m0 m
 P7:(m.au n).turn=(m0.au n).turn
theorem abN {X:Nd} {r:List iJ} {us:List dM} (h:uW X rs us):uW (X.box r) rs us:=⟨h.data,h.syn,h.tape,h.nN,h.Za,h.WS,h.len⟩
theorem Qk {m1:Cl} {r:List iJ} (hi: ∀ l∈(m.au n).inbox,l.ok) (H:Rdg m n rs m1) (hp:(m1.au n).pend=none) (hin:(m1.au n).inbox=l::r):
  l.ok/\uW ((m1.put n ((m1.au n).box r)).au n) rs []/\Hnd (m1.put n ((m1.au n).box r)) n l ((m1.put n ((m1.au n).box r)).handle n l)/\Rdg m n rs ((m1.put n ((m1.au n).box r)).handle n l):=by
 have hl:l∈(m1.au n).inbox:=by rw [hin];simp
 have hok:=hi l (H.kU l hl);obtain ⟨us,hU⟩:=H.tape;have hus:=hU.Za hp;subst hus;have hq:=hok.1;have e0:(m1.put n ((m1.au n).box r)).au n=(m1.au n).box r:=bV _;have KG:uW ((m1.put n ((m1.au n).box r)).au n) rs []:=by rw [e0];exact abN hU
 have hH:=hnd KG.nN hok;refine ⟨hok,KG,hH,?_⟩;have E:=xG (m:=m1.put n ((m1.au n).box r)) (n:=n) (l:=l) hq;obtain ⟨g1,g2,g3⟩:=anc hq KG (by rw [e0];exact hp) hH;have ei:=E.kU;rw [e0] at ei;have e1:(m1.put n ((m1.au n).box r)).fly=m1.fly:=rfl;have e2:(m1.put n ((m1.au n).box r)).aP=m1.aP:=rfl;have e3:((m1.au n).box r).inbox=r:=rfl;have c1:=H.cnt;have c2:=H.aP;have c3:=E.fly;have c4:=E.aP;rw [hin,List.length_cons] at c1 c2;rw [e1] at c3;rw [e2] at c4;refine ⟨by rw [E.up,e0];exact H.up,g1,λj hj=>?_,λx hx=>(g2 x hx).elim (H.wY x) .inr,λx hx=>?_,?_,?_,H.keep.trans ((⟨rfl,rfl,rfl⟩:Keep m1 (m1.put n ((m1.au n).box r))).trans g3),by rw [E.P7,e0];exact H.P7⟩
 ·rw [E.ES j hj]
  show upd m1.au n _ j=_
  rw [upd_ne hj];exact H.ES j hj
 ·rw [ei,e3] at hx;exact H.kU x (by rw [hin];simp [hx])
 ·rw [ei,e3];omega
 rw [ei,e3];omega
theorem aiS (hu:(m.au n).up=true) (h: ∃ us,uW (m.au n) rs us):Rdg m n rs m:=⟨hu,h,λ_ _=>rfl,λ_ h=> .inl h,λ_ h=>h,Nat.le_refl _,Nat.le_refl _,.refl m,rfl⟩
theorem adn (hu:(m.au n).up=true) (h: ∃ us,uW (m.au n) rs us) (hi: ∀ l∈(m.au n).inbox,l.ok):Rdg m n rs (m.more n):=
 Qj (n:=n) (Rdg m n rs) (λ_ _ _ H hp hin=>by obtain ⟨h1,_,_,h4⟩:=Qk hi H hp hin;exact ⟨h1.1,h4⟩) _ m rfl (aiS hu h)
theorem ane {X:Nd} {p:gI} (hX:m.au n=X) (hu:X.up=true) (hp:X.pend=some p) (hq:p.q<4) (hf:aj (p.b X.bs)=0) (hpo:p.ok X.bs):
  ∃ Y:Nd,(m.step n).au=upd m.au n Y/\Y.bs=upd X.bs p.q (p.b X.bs)/\Y.data=X.data/\Y.syn=X.data.length/\Y.pend=none/\Y.up=true/\Y.inbox=X.inbox/\Y.turn=X.turn/\Keep m (m.step n)/\
   (∀ l∈(m.step n).fly,l∈m.fly\/lZ l)/\(m.step n).fly.length<=m.fly.length+1/\(m.step n).aP.length<=m.aP.length+1:=by
 cases p with
 | serve q evs op num a=>
  rw [Ae hX hu hp rfl hpo.1];exact ⟨_,rfl,rfl,rfl,rfl,rfl,hu,rfl,rfl,⟨rfl,rfl,rfl⟩,za IJ,by simp,by simp⟩
 | begun q b=>
  rw [JC hX hu hp];obtain ⟨_,e,f,rfl,_⟩:=hpo;exact ⟨_,rfl,rfl,rfl,rfl,rfl,hu,rfl,rfl,⟨rfl,rfl,rfl⟩,za (Nf hq rfl hf),by simp,by simp [Cl.put]⟩
 | got q b last=>
  cases last with
  | true=>
   rw [BH hX hu hp];exact ⟨_,rfl,rfl,rfl,rfl,rfl,hu,rfl,rfl,⟨rfl,rfl,rfl⟩,λl hl=> .inl hl,by simp [Cl.put],by simp⟩
  | false=>
   rw [Qh hX hu hp];have hr:b.role=4:=by
    have:=(hpo.2.2.2.1 rfl).1;rw [this];exact hpo.1
   exact ⟨_,rfl,rfl,rfl,rfl,rfl,hu,rfl,rfl,⟨rfl,rfl,rfl⟩,za (Nf hq hr hf),by simp,by simp [Cl.put]⟩
 | iZ q b at_=>
  rw [Mi hX hu hp];exact ⟨_,rfl,rfl,rfl,rfl,rfl,hu,rfl,rfl,⟨rfl,rfl,rfl⟩,Mt hq hf,Zf,by simp [Cl.put]⟩
 | forget q b=>
  rw [FW hX hu hp];exact ⟨_,rfl,rfl,rfl,rfl,rfl,hu,rfl,rfl,⟨rfl,rfl,rfl⟩,λl hl=> .inl hl,by simp [Cl.put],by simp [Cl.put]⟩
theorem Zg {X Y:Nd} {p:gI} {us:List dM} (h:uW X rs us) (hp:X.pend=some p) (hb:Y.bs=upd X.bs p.q (p.b X.bs)) (hd:Y.data=X.data) (hs:Y.syn=X.data.length) (hn:Y.pend=none):uW Y (rs++us) []:=by
 obtain ⟨hu,hpo,hq⟩:=h.WS p hp;obtain ⟨h1,h2⟩:=sZ h.tape h.nN hpo hq;refine ⟨by rw [hd,h.data,List.append_nil],by rw [hs,h.data],?_,λk hk=>?_,λ_=>rfl,λp' e=>(by rw [hn] at e;cases e),by rw [hd];exact h.len⟩
 ·rw [hb,hu];exact h1
 rw [hb];by_cases e:k=p.q
 ·rw [e,upd_same];exact h2
 rw [upd_ne e];exact h.nN k hk
theorem Zh (h:fQ m T S D K) (hn:n<5):fQ (m.step n) (T+3) (S+T+1) D (K+1):=by
 cases hu:(m.au n).up with
 | false=>rw [EW hu];exact h.mono (by omega) (by omega) (by omega) (by omega)
 | true=>
  obtain ⟨rs,us,hU⟩:=(h.lW n hn).Tq hu;have hT:=Ms m hn;have hT2:=h.room
  cases hp:(m.au n).pend with
  | some p=>
   obtain ⟨h1,h2,h3⟩:=hU.WS p hp;obtain ⟨_,hf⟩:=sZ hU.tape hU.nN h2 h3;obtain ⟨Y,y1,y2,y3,y4,y5,y6,y7,y8,y9,y10,y11,y12⟩:=ane rfl hu hp h3 hf h2;have eY:(m.step n).au n=Y:=by rw [y1];exact upd_same _ _ _
   have hUY:=Zg hU hp y2 y3 y4 y5;refine (h.at_ (c:=1) (s:=1) (d:=0) (u:=0) hn (λj hj=>by rw [y1,upd_ne hj]) ?_ y10 ?_ ?_ y12 (by rw [y9.aZ];omega) (by rw [eY,y8];omega) (by rw [y9.calls];omega)).mono (by omega) (by omega) (by omega) (by omega)
   ·rw [eY];exact .inl ⟨y6,_,_,hUY⟩
   ·rw [eY,y7];exact λl hl=> .inl hl
   rw [eY,y7];omega
  | none=>
   have R:=adn hu ⟨us,hU⟩ λl hl=>IK (h.kU n hn l hl);have c:=R.cnt;have c2:=R.aP;obtain ⟨us',KG⟩:=R.tape;rw [wO hu hp]
   split
   ·rename_i hp2
    have e:(((m.more n).Md n).au n)={ (m.more n).au n with turn:=((m.more n).au n).turn+1 }:=bV _;have hqq:((m.more n).au n).turn % 4<4:=Nat.mod_lt _ (by decide);obtain ⟨d1,d2⟩:=ahw (n:=n) (s:=((m.more n).au n).sure (((m.more n).au n).turn % 4)) hqq hn (KG.nN _ hqq);refine (h.at_ (c:=3) (s:=T) (d:=0) (u:=1) hn (λj hj=>?_) ?_ (λl hl=>?_) ?_ ?_ ?_ ?_ ?_ ?_).mono (by omega) (by omega) (by omega) (by omega)
    ·show upd (m.more n).au n _ j=_
     rw [upd_ne hj];exact R.ES j hj
    ·rw [e];exact .inl ⟨R.up,rs,us',⟨KG.data,KG.syn,KG.tape,KG.nN,KG.Za,KG.WS,KG.len⟩⟩
    ·rcases List.mem_append.1 hl with hl | hl
     ·exact R.wY l hl
     exact .inr (d1 l hl)
    ·rw [e];exact λl hl=> .inl (R.kU l hl)
    ·rw [e]
     show ((m.more n).fly++_).length+((m.more n).au n).inbox.length<=_
     rw [List.length_append];have:=d2;omega
    ·show (m.more n).aP.length<=_;omega
    ·show (m.more n).aZ.length<=_;rw [R.keep.aZ];omega
    ·rw [e];show ((m.more n).au n).turn+1<=_;rw [R.P7];exact Nat.le_refl _
    show (m.more n).calls<=_;rw [R.keep.calls];omega
   refine (h.at_ (c:=0) (s:=T) (d:=0) (u:=0) hn R.ES (.inl ⟨R.up,rs,us',KG⟩) R.wY (λl hl=> .inl (R.kU l hl)) (by omega) (by omega) (by rw [R.keep.aZ];omega) (by rw [R.P7];omega) (by rw [R.keep.calls];omega)).mono (by omega) (by omega) (by omega) (by omega)
theorem EZ (h:fQ m T S D K) (hl:lZ l):fQ (m.come l) (T+1) S (D+1) K:=by
 have hroom:=h.room;have htot: ∀ fl,({ m with fly:=fl }:Cl).tot+m.fly.length=m.tot+fl.length:=λfl=>by unfold Cl.tot;dsimp only;omega
 obtain ⟨hq,hv,h1 | ⟨h1,h2,h3,_⟩ | ⟨h1,h2,h3⟩,_⟩:=id hl
 ·have e:m.come l={ m with aZ:=m.aZ++[l.aZ] }:=if_pos h1;rw [e];exact ⟨h.lW,h.wY,h.kU,by show m.tot<=_;omega,h.aP,by show (m.aZ++_).length<=_;have:=h.aZ;simp;omega,h.turn,h.calls⟩
 ·unfold Cl.come;rw [if_neg (by omega),if_pos h1]
  split
  ·refine ⟨h.lW,λx hx=>?_,h.kU,?_,h.aP,by have:=h.aZ;show m.aZ.length<=_;omega,h.turn,h.calls⟩
   ·rcases List.mem_append.1 hx with hx | hx
    ·exact h.wY x hx
    rw [List.mem_singleton] at hx;subst hx;exact ⟨hq,by show 0<=3;omega,.inr (.inr ⟨h2,h3,.inr (.inr (.inr (.inr rfl)))⟩),nk (by show (6:Int)≠0;decide)⟩
   have:=htot (m.fly++[oQ l.fr l.q (bO (gu m.off l) l.q).1]);rw [List.length_append,List.length_singleton] at this
   show Cl.tot { m with fly:=_ }<=_
   omega
  exact ⟨h.lW,h.wY,h.kU,by show m.tot<=_;omega,h.aP,by have:=h.aZ;show m.aZ.length<=_;omega,h.turn,h.calls⟩
 have hn:l.tg.toNat<5:=by omega
 unfold Cl.come;rw [if_neg (by omega),if_neg (by omega)]
 split
 ·rename_i hu
  have e:(m.put l.tg.toNat { m.au l.tg.toNat with inbox:=(m.au l.tg.toNat).inbox++[l] }).au l.tg.toNat=(m.au l.tg.toNat).box ((m.au l.tg.toNat).inbox++[l]):=bV _;obtain ⟨rs,us,hU⟩:=(h.lW _ hn).Tq hu;refine (h.at_ (m':=m.put l.tg.toNat { m.au l.tg.toNat with inbox:=(m.au l.tg.toNat).inbox++[l] }) (c:=1) (s:=0) (d:=0) (u:=0) hn (λj hj=>upd_ne hj) (by rw [e];exact .inl ⟨hu,rs,us,abN hU⟩) (λx hx=> .inl hx) ?_ ?_ (Nat.le_refl _) (Nat.le_refl _) (by rw [e];exact Nat.le_refl _) (Nat.le_refl _)).mono (by omega) (by omega) (by omega) (by omega)
  ·rw [e];intro x hx
   rcases List.mem_append.1 hx with hx | hx
   ·exact .inl hx
   rw [List.mem_singleton] at hx;subst hx;exact .inr ⟨hl,by omega⟩
  rw [e]
  show m.fly.length+((m.au l.tg.toNat).inbox++[l]).length<=_
  rw [List.length_append,List.length_singleton];omega
 exact h.mono (by omega) (by omega) (by omega) (by omega)
theorem JD: ∀ (ls:List iJ) {m:Cl} {T D:Nat},fQ m T S D K->(∀ l∈ls,lZ l)->fQ (ls.foldl Cl.come m) (T+ls.length) S (D+ls.length) K
 | [],m,T,D,h,_=>h
 | l::ls,m,T,D,h,hl=>(JD ls (EZ h (hl l (by simp))) λx hx=>hl x (by simp [hx])).mono (by simp;omega) (Nat.le_refl _) (by simp;omega) (Nat.le_refl _)
theorem ado (h:fQ m T S D K):fQ m.all T S (D+T) K:=by
 have hroom:=h.room;have h0:fQ { m with fly:=[] } (T-m.fly.length) S D K:=by
  refine ⟨h.lW,λl hl=>by simp at hl,h.kU,?_,h.aP,h.aZ,h.turn,h.calls⟩;unfold Cl.tot at hroom⊢;dsimp only [List.length_nil];omega
 have hle:m.fly.length<=T:=by unfold Cl.tot at hroom;omega
 exact (JD m.fly h0 h.wY).mono (by omega) (Nat.le_refl _) (by omega) (Nat.le_refl _)
theorem Zi {at_:Nat} {c s:Bool} (h:fQ m T S D K):fQ (m.pick at_ c s) (T+1) S (D+1) K:=by
 unfold Cl.pick
 split
 ·exact h.mono (by omega) (by omega) (by omega) (by omega)
 rename_i l hl
 have hm:lZ l:=h.wY l (List.mem_of_getElem? hl);have h1:fQ (if s=true then m else { m with fly:=m.fly.eraseIdx (at_ % m.fly.length) }) T S D K:=by
  split
  ·exact h
  refine ⟨h.lW,λx hx=>h.wY x (List.mem_of_mem_eraseIdx hx),h.kU,?_,h.aP,h.aZ,h.turn,h.calls⟩;have:=h.room;have h2:=List.length_eraseIdx_le m.fly (at_ % m.fly.length);unfold Cl.tot at this⊢;dsimp only;omega
 dsimp only
 split
 ·exact EZ h1 hm
 exact h1.mono (by omega) (by omega) (by omega) (by omega)
theorem Zj {q:Nat} (h:fQ m T S D K) (hn:n<5) (hq:q<4):fQ (m.make n q) T S D K:=by
 unfold Cl.make
 split
 ·exact h
 rename_i h0
 have hu:(m.au n).up=true:=by
  cases e:(m.au n).up with
  | true=>rfl
  | false=>exact absurd (.inl e) h0
 have hp:(m.au n).pend=none:=by
  cases e:(m.au n).pend with
  | none=>rfl
  | some p=>exact absurd (.inr (.inl (by rw [e];rfl))) h0
 split
 ·exact h
 rename_i h1
 obtain ⟨h2,h3,h4⟩:=ahq h1;rw [h4]
 split
 ·exact h
 rename_i x hw
 obtain ⟨d,hd,rfl⟩:=qA hw;obtain ⟨rs,us,hU⟩:=(h.lW n hn).Tq hu;have hus:=hU.Za hp;subst hus;obtain ⟨w1,w2,w3⟩:=vO hd;obtain ⟨_,a2⟩:=ahf (q:=q) (hU.nN q hq) h2 h3 hq;have hok:aj ⟨1,1,0,0,0,[]⟩=0:=l8 (zZ (by omega) (by omega) _) yV;refine h.at_ (m':={ m.put n { m.au n with data:=d,syn:=d.length,bs:=upd (m.au n).bs q ⟨1,1,0,0,0,[]⟩ } with off:=(vU m.off q n).1,shown:=nQ m.shown n q (1,0) }) (c:=0) (s:=0) (d:=0) (u:=0) hn (λj hj=>upd_ne hj) ?_ (λx hx=> .inl hx) ?_ ?_ (Nat.le_refl _) (Nat.le_refl _) ?_ (Nat.le_refl _)
 ·refine .inl ⟨?_,rs++[fU 1 q 1 0 aS],[],?_⟩
  ·show (upd m.au n _ n).up=true;rw [upd_same];exact hu
  show uW (upd m.au n _ n) _ _
  rw [upd_same];refine ⟨?_,?_,?_,λk hk=>?_,λ_=>rfl,λp e=>?_,w3 hU.len⟩
  ·show d=_;rw [w1,hU.data,List.append_nil,List.append_nil,kY]
  ·show (d.length:Int)=_;rw [w1,hU.data,List.append_nil,kY]
  ·refine H9 (x:=⟨1,1,0,0,0,[]⟩) hU.tape hq (w2 _ (by simp)) rfl ?_;rw [GX (.inr (.inl h2)),a2];rfl
  ·show aj (upd (m.au n).bs q _ k)=0
   by_cases e:k=q
   ·rw [e,upd_same];exact hok
   rw [upd_ne e];exact hU.nN k hk
  exact absurd (e.symm.trans hp) (by simp)
 ·show ∀ l∈(upd m.au n _ n).inbox,_;rw [upd_same];exact λl hl=> .inl hl
 ·show m.fly.length+(upd m.au n _ n).inbox.length<=_;rw [upd_same];exact Nat.le_refl _
 show (upd m.au n _ n).turn<=_;rw [upd_same];exact Nat.le_refl _
theorem JE {d:Dir} {q:Int} (h: ¬ (bO d q).2≠0):(bO d q).1.node.toNat<5/\0<=(bO d q).1.node/\(bO d q).1=d.at q.toNat:=by
 obtain ⟨h1,h2,h3,h4,h5⟩:=Fp (Classical.not_not.1 h);unfold yD at h5
 rcases h5 with ⟨h5,h6⟩ | h5
 ·exfalso
  apply h4;generalize bO d q=r at*;obtain ⟨⟨a,b⟩,c⟩:=r;dsimp only at h5 h6⊢;rw [h5,h6];rfl
 exact ⟨by omega,by omega,h3⟩
theorem WT {bs:Nat->bI} {q:Nat} {p:gI} {tg:Int} (hr:(bs q).role=1) (h:p.ok bs):p.rs (upd bs q ⟨2,(bs q).ep,0,tg,0,(bs q).evs⟩)=p.rs bs/\p.ok (upd bs q ⟨2,(bs q).ep,0,tg,0,(bs q).evs⟩):=by
 cases p with
 | serve k evs op num a=>
  simp only [gI.ok,gI.rs] at h⊢;by_cases e:k=q
  ·subst e;rw [upd_same];exact ⟨rfl,.inr rfl,h.2⟩
  rw [upd_ne e];exact ⟨rfl,h⟩
 | begun k b=>
  simp only [gI.ok] at h⊢;refine ⟨rfl,?_⟩;by_cases e:k=q
  ·subst e;exfalso;have:=h.1;omega
  rw [upd_ne e];exact h
 | got k b last=>
  simp only [gI.ok,gI.rs] at h⊢;by_cases e:k=q
  ·subst e;exfalso;have:=h.1;omega
  rw [upd_ne e];exact ⟨rfl,h⟩
 | iZ k b a=>
  simp only [gI.ok] at h⊢;refine ⟨rfl,?_⟩;by_cases e:k=q
  ·subst e;exfalso;have:=h.1;omega
  rw [upd_ne e];exact h
 | forget k b=>
  simp only [gI.ok,gI.rs] at h⊢;by_cases e:k=q
  ·subst e;exfalso;have:=h.1;omega
  rw [upd_ne e];exact ⟨rfl,h⟩
theorem Zk {q:Nat} {tg:Int} (h:fQ m T S D K) (hq:q<4):fQ (m.move q tg) T S D K:=by
 unfold Cl.move
 split
 ·exact h
 rename_i h0
 have hw: ¬ (bO m.off q).2≠0:=λe=>h0 (.inl e);obtain ⟨hn,_,_⟩:=JE hw;have hu:(m.au (bO m.off q).1.node.toNat).up=true:=by
  cases e:(m.au (bO m.off q).1.node.toNat).up with
  | true=>rfl
  | false=>exact absurd (.inr (.inr e)) h0
 generalize hnn:(bO m.off q).1.node.toNat=n at*
 split
 ·rename_i h1
  obtain ⟨g1,g2,g3,g4⟩:=go_ok h1.1;rw [g4];obtain ⟨rs,us,hU⟩:=(h.lW n hn).Tq hu;have hs:=gF (hU.nN q hq);unfold bq at hs;have hok:aj ⟨2,((m.au n).bs q).ep,0,tg,0,((m.au n).bs q).evs⟩=0:=l8 (.inr ⟨by dsimp only;omega,by dsimp only;omega,.inr (.inl ⟨rfl,rfl,g2,by dsimp only;omega,by dsimp only;omega,by dsimp only;omega⟩)⟩) (jf (b:=(m.au n).bs q) (hU.nN q hq));have hd: ∀ k,jK ((m.au n).bs k)=jK (upd (m.au n).bs q ⟨2,((m.au n).bs q).ep,0,tg,0,((m.au n).bs q).evs⟩ k):=λk=>by
   by_cases e:k=q
   ·rw [e,upd_same,xE (.inl g1) (hU.nN q hq)];rfl
   rw [upd_ne e]
  have e:((m.cK n q ⟨2,((m.au n).bs q).ep,0,tg,0,((m.au n).bs q).evs⟩).au n)=(m.au n).cK q ⟨2,((m.au n).bs q).ep,0,tg,0,((m.au n).bs q).evs⟩:=bV _;refine h.at_ (m':=m.cK n q ⟨2,((m.au n).bs q).ep,0,tg,0,((m.au n).bs q).evs⟩) (c:=0) (s:=0) (d:=0) (u:=0) hn (λj hj=>upd_ne hj) ?_ (λx hx=> .inl hx) (by rw [e];exact λl hl=> .inl hl) (by rw [e];exact Nat.le_refl _) (Nat.le_refl _) (Nat.le_refl _) (by rw [e];exact Nat.le_refl _) (Nat.le_refl _);rw [e];refine .inl ⟨hu,rs,us,⟨hU.data,hU.syn,hU.tape.congr λk _=>hd k,λk hk=>?_,hU.Za,λp hp=>?_,hU.len⟩⟩
  ·show aj (upd (m.au n).bs q _ k)=0
   by_cases e:k=q
   ·rw [e,upd_same];exact hok
   rw [upd_ne e];exact hU.nN k hk
  obtain ⟨p1,p2,p3⟩:=hU.WS p hp;exact ⟨by rw [p1];exact (WT (tg:=tg) g1 p2).1.symm,(WT (tg:=tg) g1 p2).2,p3⟩
 exact h
end
section
variable {m:Cl} {n:Nat} {T S D K:Nat}
theorem Vi {keep:Int} (h:fQ m T S D K) (hn:n<5) (hk:0<=keep):fQ (m.crash n keep) T S D K:=by
 unfold Cl.crash
 split
 ·rename_i hu
  obtain ⟨rs,us,hU⟩:=(h.lW n hn).Tq hu;obtain ⟨rs',t,f,hd,_⟩:=adi hU hk;have e:(m.put n ((m.au n).crashed keep)).au n=(m.au n).crashed keep:=bV _;refine h.at_ (m':=m.put n ((m.au n).crashed keep)) (c:=0) (s:=0) (d:=0) (u:=0) hn (λj hj=>upd_ne hj) (by rw [e];exact .inr ⟨rfl,rs',t,f,hd⟩) (λx hx=> .inl hx) ?_ ?_ (Nat.le_refl _) (Nat.le_refl _) ?_ (Nat.le_refl _)
  ·rw [e,hd.kU];simp
  ·rw [e,hd.kU];show m.fly.length+0<=_;omega
  rw [e];exact Nat.le_refl _
 exact h
theorem Rq (h:EY (m.au n)):(m.au n).up=true/\m.start n=m\/(m.au n).up=false/\ ∃ rs t f,EX (m.au n) rs t f/\(m.start n=m\/ ∃ ws,
  let m1:=m.put n { (m.au n).blank with up:=true,data:=dx (rs++ws),syn:=(dx (rs++ws)).length,bs:=cu (m.au n).data (m.au n).syn }
  m.start n=Cl.woken n (cu (m.au n).data (m.au n).syn) [0,1,2,3] m1/\(dx (rs++ws)).length<=100000/\
  eT (jw (m.au n).data (m.au n).syn).2.1 (cu (m.au n).data (m.au n).syn) [0,1,2,3] (jw (m.au n).data (m.au n).syn).1=some (dx (rs++ws))/\
  Qi m1 (m.start n) n (λq=>if q∈[0,1,2,3]/\(cu (m.au n).data (m.au n).syn q).role=1 then nS (cu (m.au n).data (m.au n).syn q) else cu (m.au n).data (m.au n).syn q)/\
  (m.start n).aP.length<=m.aP.length+8004/\uW ((m.start n).au n) (rs++ws) []/\
  ∀ q,q<4->(f q).role=1->aj (nS (f q))=0):=by
 cases hu:(m.au n).up with
 | true=>exact .inl ⟨rfl,by unfold Cl.start;rw [if_pos hu]⟩
 | false=>
  refine .inr ⟨rfl,?_⟩;obtain ⟨rs,t,f,hd⟩:=h.aya hu;refine ⟨rs,t,f,hd,?_⟩;obtain ⟨r1,r2,r3⟩:=hd.rd;have hst:m.start n=match eT (jw (m.au n).data (m.au n).syn).2.1 (cu (m.au n).data (m.au n).syn) [0,1,2,3] (jw (m.au n).data (m.au n).syn).1 with
   | none=>m
   | some d=>Cl.woken n (cu (m.au n).data (m.au n).syn) [0,1,2,3] (m.put n { (m.au n).blank with up:=true,data:=d,syn:=d.length,bs:=cu (m.au n).data (m.au n).syn }):=by
   unfold Cl.start;rw [if_neg (by rw [hu];simp)]
   all_goals rfl
  cases hw:eT (jw (m.au n).data (m.au n).syn).2.1 (cu (m.au n).data (m.au n).syn) [0,1,2,3] (jw (m.au n).data (m.au n).syn).1 with
  | none=>rw [hw] at hst;exact .inl hst
  | some d=>
   rw [hw] at hst;refine .inr ?_;have Eb: ∀ q∈[0,1,2,3],q<4:=by decide
   have hin: ∀ q,q<4->q∈[0,1,2,3]:=by decide
   have hll:(dx rs).length<=100000:=by
    have h1:=hd.len;rw [hd.data,List.length_append] at h1;omega
   have hw':=hw;rw [r1] at hw';obtain ⟨ws,e1,e2,e3,e4⟩:=Nc (g:=f) (by decide) (λq hq=>⟨Eb q hq,(r3 q (Eb q hq)).symm⟩) hd.tape (λq hq=>(hd.nN q hq).1) hll hw';subst e1;refine ⟨ws,hst,e3,rfl,?_⟩;have hev: ∀ q∈[0,1,2,3],(cu (m.au n).data (m.au n).syn q).evs.length<=2000:=λq hq=>by
    rw [r3 q (Eb q hq)];exact jS (jf (hd.nN q (Eb q hq)).1)
   obtain ⟨g1,g2⟩:=BQ (n:=n) (bs:=cu (m.au n).data (m.au n).syn) [0,1,2,3] (m.put n { (m.au n).blank with up:=true,data:=dx (rs++ws),syn:=(dx (rs++ws)).length,bs:=cu (m.au n).data (m.au n).syn }) (by decide) λq hq=>⟨by rw [bV],hev q hq⟩;have hbs:(λq=>if q∈[0,1,2,3]/\(cu (m.au n).data (m.au n).syn q).role=1 then (fJ (cu (m.au n).data (m.au n).syn q)).1 else ((m.put n { (m.au n).blank with up:=true,data:=dx (rs++ws),syn:=(dx (rs++ws)).length,bs:=cu (m.au n).data (m.au n).syn }).au n).bs q)=
     λq=>if q∈[0,1,2,3]/\(cu (m.au n).data (m.au n).syn q).role=1 then nS (cu (m.au n).data (m.au n).syn q) else cu (m.au n).data (m.au n).syn q:=by
    funext q
    rw [bV];by_cases c:q∈[0,1,2,3]/\(cu (m.au n).data (m.au n).syn q).role=1
    ·rw [if_pos c,if_pos c,(e4 q c.1 c.2).2]
    rw [if_neg c,if_neg c]
   have hst':m.start n=Cl.woken n (cu (m.au n).data (m.au n).syn) [0,1,2,3] (m.put n { (m.au n).blank with up:=true,data:=dx (rs++ws),syn:=(dx (rs++ws)).length,bs:=cu (m.au n).data (m.au n).syn }):=hst;rw [hbs,<-hst'] at g1;rw [<-hst'] at g2;refine ⟨g1,g2,?_,λq hq hr=>?_⟩
   ·have e:(m.start n).au n={ (m.au n).blank with up:=true,data:=dx (rs++ws),syn:=(dx (rs++ws)).length,bs:=λq=>if q∈[0,1,2,3]/\(cu (m.au n).data (m.au n).syn q).role=1 then nS (cu (m.au n).data (m.au n).syn q) else cu (m.au n).data (m.au n).syn q }:=by
     rw [g1.au,upd_same,bV]
    rw [e];have hbb: ∀ q,q<4->aj (if q∈[0,1,2,3]/\(cu (m.au n).data (m.au n).syn q).role=1 then nS (cu (m.au n).data (m.au n).syn q) else cu (m.au n).data (m.au n).syn q)=0:=λq hq=>by
     split
     ·rename_i c;exact (e4 q c.1 c.2).1
     rw [r3 q hq];exact (hd.nN q hq).1
    refine ⟨by rw [List.append_nil],rfl,e2.congr λq hq=>?_,hbb,λ_=>rfl,λp hp=>(by cases hp),e3⟩;dsimp only;by_cases c:q∈[0,1,2,3]/\(cu (m.au n).data (m.au n).syn q).role=1
    ·rw [if_pos c,if_pos c];rfl
    rw [if_neg c,if_neg c,r3 q hq];exact (Dg (hd.nN q hq).2).symm
   have:=(e4 q (hin q hq) (by rw [r3 q hq];exact hr)).1;rwa [r3 q hq] at this
theorem base_start (h:fQ m T S D K) (hn:n<5):fQ (m.start n) T (S+8004) D K:=by
 rcases Rq (h.lW n hn) with ⟨_,e⟩ | ⟨hu,rs,t,f,hd,e | ⟨ws,e1,e2,e3,W,e5,e6,e7⟩⟩
 ·rw [e];exact h.mono (by omega) (by omega) (by omega) (by omega)
 ·rw [e];exact h.mono (by omega) (by omega) (by omega) (by omega)
 have hN:=W.au;have eX:(m.start n).au n={ (m.au n).blank with up:=true,data:=dx (rs++ws),syn:=(dx (rs++ws)).length,bs:=λq=>if q∈[0,1,2,3]/\(cu (m.au n).data (m.au n).syn q).role=1 then nS (cu (m.au n).data (m.au n).syn q) else cu (m.au n).data (m.au n).syn q }:=by
  rw [hN,upd_same,bV]
 refine h.at_ (c:=0) (s:=8004) (d:=0) (u:=0) hn (λj hj=>?_) (.inl ⟨by rw [eX],rs++ws,[],e6⟩) (λx hx=> .inl (by rw [W.fly] at hx;exact hx)) (by rw [eX];intro l hl;exact absurd hl (by simp [Nd.blank])) ?_ e5 (by rw [W.aZ];exact Nat.le_refl _) ?_ (by rw [W.calls];exact Nat.le_refl _)
 ·rw [hN,upd_ne hj];exact upd_ne hj
 ·rw [eX,W.fly];show m.fly.length+0<=_;omega
 rw [eX];exact Nat.le_refl _
theorem Zl {l:iJ} (h:fQ m T S D K) (hl:lZ l):fQ { m with fly:=m.fly++[l],calls:=m.calls+1 } (T+1) S D (K+1):=by
 have hr:=h.room;refine ⟨h.lW,λx hx=>?_,h.kU,?_,h.aP,h.aZ,λn hn=>Nat.le_succ_of_le (h.turn n hn),by have:=h.calls;show m.calls+1<=_;omega⟩
 ·rcases List.mem_append.1 hx with hx | hx
  ·exact h.wY x hx
  rw [List.mem_singleton] at hx;subst hx;exact hl
 unfold Cl.tot at hr⊢;dsimp only;rw [List.length_append,List.length_singleton];omega
theorem adp {a:Ac} (h:fQ m T S D K) (ha:J6 a):fQ (m.act a) (T+3) (S+T+8004) (D+T+1) (K+1):=by
 obtain ⟨h1,h2,h3,h4,h5,h6⟩:=ha;have hn:a.nd.toNat<5:=by omega
 have hq:a.qu.toNat<4:=by omega
 unfold Cl.act
 split
 ·exact (Zj h hn hq).mono (by omega) (by omega) (by omega) (by omega)
 split
 ·rename_i hk2
  exact (Zl h ⟨hq,by show 0<=3;omega,.inr (.inr ⟨h2.1,by show a.nd<5;omega,.inl rfl⟩),λ_=>h6 hk2⟩).mono (by omega) (by omega) (by omega) (by omega)
 split
 ·exact (Zh h hn).mono (by omega) (by omega) (by omega) (by omega)
 split
 ·exact (Zi h).mono (by omega) (by omega) (by omega) (by omega)
 split
 ·exact (ado h).mono (by omega) (by omega) (by omega) (by omega)
 split
 ·exact (Vi h hn h5.1).mono (by omega) (by omega) (by omega) (by omega)
 split
 ·exact (base_start h hn).mono (by omega) (by omega) (by omega) (by omega)
 exact (Zk h hq).mono (by omega) (by omega) (by omega) (by omega)
end
def Bs (m:Cl) (k:Nat):Prop:=fQ m (4*k) (500000*k) (500000*k) k
theorem aj9:Bs zW 0:=by
 refine ⟨λn _=> .inl ⟨rfl,[],[],⟨rfl,rfl,iw.nil,λq _=>by show aj bG=0;exact l8 (.inl ⟨rfl,by decide,by decide,rfl,rfl,rfl,rfl⟩) yV,λ_=>rfl,λp hp=>(by cases hp),Nat.zero_le _⟩⟩,λl hl=>(by cases hl),λn _ l hl=>(by cases hl),Nat.le_refl _,Nat.le_refl _,Nat.le_refl _,λ_ _=>Nat.le_refl _,Nat.le_refl _⟩
theorem Si {m:Cl} {k:Nat} {a:Ac} (h:Bs m k) (ha:J6 a) (hk:k<=100000):Bs (m.act a) (k+1):=by
 have:=adp h ha;exact this.mono (by omega) (by omega) (by omega) (by omega)
theorem abO: ∀ (l:List Ac) {m:Cl} {k:Nat},Bs m k->(∀ a∈l,J6 a)->k+l.length<=100000->Bs (m.run l) (k+l.length)
 | [],m,k,h,_,_=>h
 | a::l,m,k,h,ha,hk=>by
  rw [List.length_cons] at hk;have:=abO l (Si h (ha a (by simp)) (by omega)) (λx hx=>ha x (by simp [hx])) (by omega);rw [List.length_cons,show k+(l.length+1)=k+1+l.length by omega];exact this
def pq (q:Nat):Option gI->Option gI
 | none=>none
 | some p=>if p.q=q then some p else none
def svq (m:Cl) (q:Nat):List jA:=m.aP.filter λs=>decide (s.q=q)
def LtQ (m:Cl) (q:Nat) (l:iJ):Prop:=l.q=q/\(l∈m.fly\/ ∃ n,n<5/\l∈(m.au n).inbox)
noncomputable def vw (m:Cl) (q:Nat) (n:Nat):bI:=(m.au n).view q
def pqv (m:Cl) (q:Nat) (n:Nat):Option gI:=pq q (m.au n).pend
def WU (m:Cl) (n:Nat):Bool:=(m.au n).up
def shq (m:Cl) (q:Nat) (n:Nat):Int×Int:=m.shown n q
def QI (m:Cl) (q:Nat) (g:Gh):Prop:=Inv g (vw m q) (pqv m q) (WU m) (LtQ m q) (m.off.at q) (shq m q) (svq m q)
structure vP (g g':Gh):Prop where
 m:g'.m=g.m
 own:g'.own=g.own
 len:g'.len=g.len
 G:g'.G=g.G
theorem vP.refl (g:Gh):vP g g:=⟨rfl,rfl,rfl,rfl⟩
theorem vP.trans {a b c:Gh} (h:vP a b) (h':vP b c):vP a c:=⟨h'.m.trans h.m,h'.own.trans h.own,h'.len.trans h.len,h'.G.trans h.G⟩
theorem vP.o {g g':Gh} (h:vP g g'):g'.o=g.o:=by unfold Gh.o;rw [h.m,h.own]
section
variable {m m':Cl} {n q:Nat} {g g':Gh} {l:iJ} {V:Nat->bI} {P:Nat->Option gI} {U:Nat->Bool} {Lt:iJ->Prop} {pl:Pl} {sh:Nat->Int×Int} {sv:List jA} {X:Nd}
theorem QI.mk' (I:Inv g V P U Lt pl sh sv) (hV:vw m q=V) (hP:pqv m q=P) (hU:WU m=U) (hL: ∀ l,LtQ m q l->Lt l\/LOk g V pl l) (hpl:m.off.at q=pl) (hsh:shq m q=sh) (hsv:svq m q=sv):QI m q g:=by
 unfold QI;rw [hV,hP,hU,hpl,hsh,hsv];exact I.apB hL
theorem anf (h:m'.au=upd m.au n X):vw m' q=upd (vw m q) n (X.view q):=by
 funext j
 unfold vw;rw [h];unfold upd
 split<;>rfl
theorem ahx (h:m'.au=upd m.au n X):pqv m' q=upd (pqv m q) n (pq q X.pend):=by
 funext j
 unfold pqv;rw [h];unfold upd
 split<;>rfl
theorem ang (h:m'.au=upd m.au n X):WU m'=upd (WU m) n X.up:=by
 funext j
 unfold WU;rw [h];unfold upd
 split<;>rfl
theorem WV (h:m'.au=upd m.au n X) (hv:X.view q=(m.au n).view q):vw m' q=vw m q:=by rw [anf h];exact aJ hv.symm
theorem Ql (h:m'.au=upd m.au n X) (hv:pq q X.pend=pq q (m.au n).pend):pqv m' q=pqv m q:=by rw [ahx h];exact aJ hv.symm
theorem WW (h:m'.au=upd m.au n X) (hv:X.up=(m.au n).up):WU m'=WU m:=by rw [ang h];exact aJ hv.symm
theorem QI.far (I:QI m q g) (hn5:n<5) (hn:m'.au=upd m.au n X) (hv:X.view q=(m.au n).view q) (hp:pq q X.pend=pq q (m.au n).pend) (hu:X.up=(m.au n).up) (hi: ∀ l∈X.inbox,l∈(m.au n).inbox) (hf: ∀ l∈m'.fly,l∈m.fly\/(l.q=q->LOk g (vw m q) (m.off.at q) l))
  (ho:m'.off.at q=m.off.at q) (hs:shq m' q=shq m q) (hsv:svq m' q=svq m q):QI m' q g:=
 QI.mk' I (WV hn hv) (Ql hn hp) (WW hn hu) (λl hl=>by
  obtain ⟨h1,h2⟩:=hl
  rcases h2 with h2 | ⟨j,hj,h2⟩
  ·rcases hf l h2 with h3 | h3
   ·exact .inl ⟨h1,.inl h3⟩
   exact .inr (h3 h1)
  rw [hn] at h2;by_cases e:j=n
  ·subst e;rw [upd_same] at h2;exact .inl ⟨h1,.inr ⟨j,hj,hi l h2⟩⟩
  rw [upd_ne e] at h2;exact .inl ⟨h1,.inr ⟨j,hj,h2⟩⟩) ho hs hsv
theorem Inv.aaH (I:Inv g V P U Lt pl sh sv) (hu:U g.o=true):g.t=g.m/\g.F=g.G.length/\rp gH sv=some (aR g.G).1:=by
 have hF:=I.upF hu;refine ⟨?_,hF,?_⟩
 ·rcases I.WM with h | ⟨_,_,h,_⟩
  ·exact h.1
  rw [hu] at h;cases h
 have:=I.rps;rwa [hF,List.take_length] at this
theorem Inv.oEp (I:Inv g V P U Lt pl sh sv) (hn:n<5) (hr:(V n).role=1\/(V n).role=2):n=g.o:=I.who hn hr
end
structure zC (g g':Gh):Prop where
 m:g.m<=g'.m
 own: ∀ k,k<=g.m->g'.own k=g.own k
 apI:g'.G.length<=g.G.length+1
theorem vP.next {g g':Gh} (h:vP g g'):zC g g':=⟨by rw [h.m];exact Nat.le_refl _,λk _=>by rw [h.own],by rw [h.G];omega⟩
theorem zC.refl (g:Gh):zC g g:=(vP.refl g).next
theorem zC.same {g g' g2:Gh} (h:zC g g') (h2:vP g' g2):zC g g2:=⟨by rw [h2.m];exact h.m,λk hk=>by rw [h2.own];exact h.own k hk,by rw [h2.G];exact h.apI⟩
def aiT (q:Nat) (g g':Gh) (m m':Cl):Prop:=g'.m=g.m->(vw m q g.o).role=3->(vw m' q g.o).role=3
section
variable {m m':Cl} {n q:Nat} {g g':Gh} {l:iJ} {rs us:List dM} {X:Nd} {V:Nat->bI} {P:Nat->Option gI} {U:Nat->Bool} {Lt:iJ->Prop} {pl:Pl} {sh:Nat->Int×Int} {sv:List jA}
theorem Inv.Mv (I:Inv g V P U Lt pl sh sv) (hr:(V n).role=0\/(V n).role=4):n≠g.o:=λe=>by
 have:=I.arl;rw [<-e] at this;omega
theorem Inv.Zm (I:Inv g V P U Lt pl sh sv) {k:Nat} (h1:1<=k) (h2:k<=g.m) (h3:(V n).ep< (k:Int)+1):Oth g n ⟨4,(k:Int)+1,g.own k,0,0,[]⟩:=by
 refine .inr (.inr ⟨k,rfl,rfl,h1,h2,rfl,rfl,Nat.zero_le _,λh e=>?_⟩);have:=I.ge (k+1) (by omega) h;rw [e] at this;omega
theorem Inv.Qm (I:Inv g V P U Lt pl sh sv) (hn:n<5) (hr:(V n).role=4) {j:Nat} (hj: ∀ k:Nat,(V n).ep=(k:Int)+1->j<=g.bd k):Oth g n { V n with evs:=g.G.take j }:=by
 rcases I.ES n hn (I.Mv (.inr hr)) with ⟨h5,_⟩ | ⟨_,h5,_⟩ | ⟨k,k1,k2,k3,k4,k5,k6,k7,k8⟩
 ·omega
 ·omega
 have h1:=hj k k2;have h2:=I.aj0 k3 k4;have e:(g.G.take j).length=j:=by rw [List.length_take];omega
 exact .inr (.inr ⟨k,k1,k2,k3,k4,k5,by show g.G.take j=g.G.take (g.G.take j).length;rw [e],by show (g.G.take j).length<=_;rw [e];exact h1,k8⟩)
theorem Inv.Vj (I:Inv g V P U Lt pl sh sv) (hn:n<5) (hr:(V n).role=3) (h:(V n).ep<g.m):n≠g.o/\Oth g n ⟨0,(V n).ep,0,0,0,[]⟩:=by
 have hne:n≠g.o:=λe=>by have:=I.YS;rw [<-e] at this;omega
 refine ⟨hne,?_⟩
 rcases I.ES n hn hne with ⟨h5,_⟩ | ⟨k,k1,k2,k3,_⟩ | ⟨_,h5,_⟩
 ·omega
 ·exact .inl ⟨rfl,by show 0<=(V n).ep;omega,h⟩
 omega
theorem Inv.serve {op:Ev} {a:iH} {num:Int} {b:bI} {qq:Nat} (I:Inv g V P U Lt pl sh sv) (ho:n=g.o) (hu:U n=true) (hr:(V n).role≠3) (hg:good (g.G++[op])) (ha:(jF (aR g.G).1 op).2.1=a) (hb:b.ep=(V n).ep) (hb1:b.role=(V n).role) (hb2:b.tg=(V n).tg) (hb3:b.evs=g.G++[op]):
  Inv (g.app op).all (upd V n b) (upd P n none) U Lt pl (upd sh n ((g.m:Int),((g.G++[op]).length:Int))) (sv++[⟨n,qq,g.m,op,a,num⟩]):=by
 subst ho;obtain ⟨t1,t2,t3⟩:=I.aaH hu;obtain ⟨s1,s2,s3⟩:=good_step hg;have I2:=(I.down g.o).append (e:=op) (b:=b) (upd_same _ _ _) (upd_same _ _ _) hr t1 hg hb hb1 hb2 hb3;have I3:=I2.told (sv2:=[⟨g.o,qq,g.m,op,a,num⟩]) t1 (by rw [ahe t3 s1 ha];show _=some (aR (g.G++[op])).1;rw [s3]) λs hs=>by rw [List.mem_singleton] at hs;subst hs;exact ⟨rfl,rfl⟩
 have I4:=I3.up g.o λ_=>⟨rfl,rfl⟩;rw [Cy,aJ hu] at I4;exact I4
end
section
variable {m m':Cl} {n q:Nat} {g g':Gh} {l:iJ} {ls:List iJ} {rs us:List dM} {X:Nd} {V:Nat->bI} {P:Nat->Option gI} {U:Nat->Bool} {Lt:iJ->Prop} {pl:Pl} {sh:Nat->Int×Int} {sv:List jA}
theorem Inv.apJ (I:Inv g V P U Lt pl sh sv) (hn:n<5) (hp:P n=none):Inv g (upd V n (jK (V n))) P U Lt pl sh sv:=by
 by_cases hr:(V n).role=2
 ·have ho:=I.oEp hn (.inr hr);subst ho;have e:jK (V g.o)=⟨1,(V g.o).ep,0,0,0,(V g.o).evs⟩:=by unfold jK;rw [if_pos hr]
  rw [e];exact I.apC (λp hp'=>by rw [hp] at hp';cases hp') I.YS I.aev (.inl rfl) (λh=>absurd rfl h) (λh=>by omega) λh=>absurd (show (1:Int)=3 from h) (by decide)
 rw [Dg hr,aJ rfl];exact I
theorem Inv.crash {bs:Nat->bI} {x:bI} (I:Inv g V P U Lt pl sh sv) (hn:n<5) (hV:V n=bs q) (hr2: ∀ p,P n=some p->p.q=q) (hx:x=jK (bs q)\/ ∃ p,P n=some p/\p.q=q/\Kq bs p x):
  ∃ g',Inv g' (upd V n x) (upd P n none) (upd U n false) Lt pl sh sv/\zC g g'/\(g'.m=g.m->(V g.o).role=3->(upd V n x g.o).role=3):=by
 have I1:=I.down n;have hpn:(upd P n none) n=none:=upd_same _ _ _;have vQ: ∀ {y:bI},((V n).role=3->y.role=3)->((V g.o).role=3->(upd V n y g.o).role=3):=λ{y} h h2=>by
  by_cases e:g.o=n
  ·rw [e] at h2⊢;rw [upd_same];exact h h2
  rw [upd_ne e];exact h2
 have apK: ∃ g',Inv g' (upd V n (jK (bs q))) (upd P n none) (upd U n false) Lt pl sh sv/\zC g g'/\(g'.m=g.m->(V g.o).role=3->(upd V n (jK (bs q)) g.o).role=3):=by
  rw [<-hV];exact ⟨g,I1.apJ hn hpn,.refl g,λ_=>vQ λh=>by rw [Dg (by omega)];exact h⟩
 rcases hx with hx | ⟨p,hp,hq,hx⟩
 ·rw [hx];exact apK
 obtain ⟨hu,hk⟩:=I.qY n hn p hp
 rcases hx with hx | hx | ⟨k,b,last,j,h1,hx,h3⟩
 ·rw [hx,hq];exact apK
 ·cases p with
  | serve k evs op num a=>
   have e:k=q:=hq;subst e;obtain ⟨k1,k2,k3,k4,k5⟩:=hk;obtain ⟨t1,t2,t3⟩:=I.aaH (by rw [<-k1];exact hu);have hr3:(V n).role≠3:=by unfold serves at k2;omega
   have hx':x=jK { V n with evs:=evs }:=by rw [hx,hV];rfl
   have I2:Inv (g.app op) (upd V n { V n with evs:=evs }) (upd P n none) (upd U n false) Lt pl sh sv:=by
    subst k1;exact I1.append (e:=op) (b:={ V g.o with evs:=evs }) hpn (upd_same _ _ _) hr3 t1 (by rw [<-k3];exact k5) rfl rfl rfl k3
   have I3:=I2.apJ hn hpn;rw [upd_same,Cy,<-hx'] at I3;exact ⟨_,I3,⟨Nat.le_refl _,λ_ _=>rfl,by show (g.G++[op]).length<=_;simp⟩,λ_=>vQ λh=>absurd h hr3⟩
  | begun k b=>
   obtain ⟨j,j1,j2,j3,j4,j5⟩:=hk;have hx':x=b:=by rw [hx];show jK b=b;rw [j1];exact GX (.inl rfl)
   have I2:=I1.ael (b:=b) hn (I.Mv j4) hpn (by rw [j1];exact I.Zm j2 j3 j5) (by rw [j1];show _<=(j:Int)+1;omega);rw [hx'];exact ⟨g,I2,.refl g,λ_=>vQ λh=>by omega⟩
  | got k b last=>
   obtain ⟨j1,j2,j3⟩:=hk
   cases last with
   | true=>
    obtain ⟨a1,a2,a3,a4,a5⟩:=j3 rfl;have hx':x=⟨1,(g.m:Int)+1,0,0,0,g.G++[bJ]⟩:=by rw [hx];show jK b=_;rw [a4];rfl
    have I2:=I1.activate (T:=n) a2 a3 hpn (upd_same _ _ _) a5 (by rw [a1];exact Int.le_refl _);rw [hx'];exact ⟨_,I2,⟨by show g.m<=g.m+1;omega,λk hk=>upd_ne (by omega),by show (g.G++[bJ]).length<=_;simp⟩,λh=>by
     have:g.m+1=g.m:=h;omega⟩
   | false=>
    obtain ⟨j,a1,a2,a3⟩:=j2 rfl;have hx':x=b:=by rw [hx];show jK b=b;rw [a1];exact GX (.inl j1)
    have I2:=I1.ael (b:=b) hn (I.Mv (.inr j1)) hpn (by rw [a1];exact I.Qm hn j1 a3) (by rw [a1];exact Int.le_refl _);rw [hx'];exact ⟨g,I2,.refl g,λ_=>vQ λh=>by omega⟩
  | iZ k b at_=>
   obtain ⟨ho,j1,j2⟩:=hk;obtain ⟨t1,t2,t3⟩:=I.aaH (by rw [<-ho];exact hu);have ayb:=I.agd (by rw [<-ho];omega);have hx':x=b:=by rw [hx];show jK b=b;rw [j2];exact GX (.inr (.inr (.inl rfl)))
   have I2:Inv g (upd V g.o b) (upd P n none) (upd U n false) Lt pl sh sv:=by
    refine Inv.apC I1 (λp' hp'=>?_) ?_ ?_ ?_ ?_ ?_ λ_=>t2
    ·rw [<-ho,upd_same] at hp';cases hp'
    ·rw [j2,ho];exact I.YS
    ·rw [j2,ho];exact I.aev
    ·rw [j2];exact .inr (.inr rfl)
    ·intro _;rw [j2,ho];exact ayb
    intro h;rw [<-ho] at h;omega
   rw [<-ho] at I2;rw [hx'];exact ⟨g,I2,.refl g,λ_=>vQ λ_=>by rw [j2]⟩
  | forget k b=>
   obtain ⟨j1,j2,j3⟩:=hk;obtain ⟨hne,hoth⟩:=I.Vj hn j1 j3;have hx':x=b:=by rw [hx];show jK b=b;rw [j2];exact GX (.inr (.inl rfl))
   have I2:=I1.ael (b:=b) hn hne hpn (by rw [j2];exact hoth) (by rw [j2];exact Int.le_refl _);rw [hx'];refine ⟨g,I2,.refl g,λ_ h=>?_⟩;rw [upd_ne (λe=>hne e.symm)];exact h
 subst h1;have e:k=q:=hq;subst e;obtain ⟨j1,j2,j3⟩:=hk;have hev: ∃ i,b.evs.take ((bs k).evs.length+j)=g.G.take i/\ ∀ k':Nat,(V n).ep=(k':Int)+1->i<=g.bd k':=by
  cases last with
  | true=>
   obtain ⟨a1,a2,a3,a4,a5⟩:=j3 rfl;have hb:b.evs=g.G++[bJ]:=by rw [a4]
   simp only [if_true] at h3;rw [hb,List.length_append,List.length_singleton] at h3;refine ⟨(bs k).evs.length+j,by rw [hb,oU (by omega)],λk' hk'=>?_⟩;have:k'=g.m:=by omega
   subst this;unfold Gh.bd;rw [if_pos rfl];omega
  | false=>
   obtain ⟨i,a1,a2,a3⟩:=j2 rfl;have hb:b.evs=g.G.take i:=by rw [a1]
   refine ⟨min ((bs k).evs.length+j) i,by rw [hb,List.take_take],λk' hk'=>Nat.le_trans (Nat.min_le_right _ _) (a3 k' hk')⟩
 obtain ⟨i,e1,e2⟩:=hev;have hx':x={ V n with evs:=g.G.take i }:=by rw [hx,e1,hV]
 have I2:=I1.ael (b:={ V n with evs:=g.G.take i }) hn (I.Mv (.inr j1)) hpn (I.Qm hn j1 e2) (Int.le_refl _);rw [hx'];exact ⟨g,I2,.refl g,λ_=>vQ λh=>by omega⟩
end
end
end Go.Proofs.YtnhimdkpkmbhlaaGreatDoor
