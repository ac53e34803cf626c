/- Parts of proofs: lemmas on memory, on single functions and on the plain models; no condition of their own. -/
import Derived.Test.YtbffmhpkenoogaaGreatDoorG36117739ffd3
import Derived.Test.YtbffmhpkenoogaaGreatDoorGc0875c70c57c
set_option linter.unusedVariables false
set_option linter.unusedSimpArgs false
set_option linter.unnecessarySimpa false
set_option maxRecDepth 100000
set_option maxHeartbeats 8000000

namespace Go.Proofs.YtbffmhpkenoogaaGreatDoor
open Go.ChangeShapes Go.WideShapes Go.RowKit
structure fK where
 num:Int
 ans:iK
 pl:Pl
structure jI where
 kd:Int:=0
 fr:Int:=0
 tg:Int:=0
 q:Nat:=0
 ep:Int:=0
 at_:Int:=0
 nd:Int:=0
 op:Ev:=aT
 evs:List Ev:=[]
 last:Bool:=false
 num:Int:=0
 aM:fK:=⟨0,gF,lK⟩
structure eT where
 nd:Nat
 q:Nat
 ep:Int
 op:Ev
 ans:iK
 num:Int
inductive gX
 | serve (q:Nat) (evs:List Ev) (op:Ev) (num:Int) (a:iK)
 | begun (q:Nat) (b:bO)
 | got (q:Nat) (b:bO) (last:Bool)
 | kN (q:Nat) (b:bO) (at_:Int)
 | forget (q:Nat) (b:bO)
structure Nd where
 up:Bool
 data:List UInt8
 syn:Int
 bs:Nat→bO
 hints:Nat→Pl
 sure:Nat→Bool
 inbox:List jI
 pend:Option gX
 turn:Nat
structure Cl where
 av:Nat→Nd
 off:Dir
 fly:List jI
 shown:Nat→Nat→Int×Int
 aH:List eT
 aM:List fK
 calls:Nat
def upd {α:Type} (f:Nat→α) (k:Nat) (v:α):Nat→α:=fun j=>if j=k then v else f j
def ni {α:Type} (f:Nat→Nat→α) (n q:Nat) (v:α):Nat→Nat→α:=fun i j=>if i=n∧j=q then v else f i j
def Cl.put (w:Cl) (n:Nat) (x:Nd):Cl:={ w with av:=upd w.av n x }
def Cl.dS (w:Cl) (n q:Nat) (b:bO):Cl:=w.put n { w.av n with bs:=upd (w.av n).bs q b }
def Cl.send (w:Cl) (l:jI):Cl:={ w with fly:=w.fly++[l] }
def Nd.blank (x:Nd):Nd:={ x with bs:=fun _=>bD,sure:=fun _=>false,hints:=fun _=>nowhere,inbox:=[],pend:=none }
def nd0:Nd:=⟨true,[],0,fun _=>bD,fun _=>nowhere,fun _=>false,[],none,0⟩
def Om:Cl:=⟨fun _=>nd0,⟨nowhere,nowhere,nowhere,nowhere⟩,[],fun _ _=>(0,0),[],[],0⟩
def eD (l:List UInt8) (s:Int):List dx→Option (List UInt8)
 | []=>some l
 | r::rs=>if (iF l s r).2.2≠0 then none else eD (iF l s r).1 s rs
def Nd.write (x:Nd) (rs:List dx):Option Nd:=(eD x.data x.syn rs).map fun d=>{ x with data:=d }
def fq (k:Int) (q:Nat) (ep pe:Int) (e:Ev):dx:=⟨k,q,ep,pe,e⟩
def Cl.tell (w:Cl) (n q:Nat) (e:Ev) (a:iK) (num:Int):Cl:=
 { w with aH:=w.aH++[⟨n,q,((w.av n).bs q).ep,e,a,num⟩],shown:=ni w.shown n q (((w.av n).bs q).ep,((w.av n).bs q).evs.length) }
def serves (b:bO):Prop:=b.role=1∨b.role=2
instance (b:bO):Decidable (serves b):=by unfold serves;exact inferInstance
def nQ (n:Nat) (num:Int) (a:iK) (p:Pl):jI:={ kd:=1,fr:=n,tg:= -1,aM:=⟨num,a,p⟩ }
def Cl.done (w:Cl) (n q:Nat) (op:Ev) (num:Int) (a:iK):Cl:=
 if serves ((w.av n).bs q) then (w.tell n q op a num).send (nQ n num a nowhere) else w.send (nQ n num a ((w.av n).hints q))
noncomputable def Cl.serve (w:Cl) (n:Nat) (l:jI):Cl:=
 if (gQ ((w.av n).bs l.q) l.op).2.2.1=false then w.done n l.q l.op l.num (gQ ((w.av n).bs l.q) l.op).2.1
 else match (w.av n).write [fq 2 l.q (gQ ((w.av n).bs l.q) l.op).1.ep 0 l.op] with
  | none=>w.done n l.q l.op l.num (qD 14)
  | some x=>w.put n { x with pend:=some (.serve l.q (gQ ((w.av n).bs l.q) l.op).1.evs l.op l.num (gQ ((w.av n).bs l.q) l.op).2.1) }
def yH (n q:Nat) (b:bO):jI:={ kd:=3,fr:=n,tg:=b.fr,q:=q,ep:=b.ep,at_:=b.evs.length }
def Cl.have_ (w:Cl) (n q:Nat):Cl:=w.send (yH n q ((w.av n).bs q))
noncomputable def Cl.offered (w:Cl) (n:Nat) (l:jI):Cl:=
 if (dn ((w.av n).bs l.q) l.ep l.fr).2≠0 then w
 else if (dn ((w.av n).bs l.q) l.ep l.fr).1.ep=((w.av n).bs l.q).ep then w.have_ n l.q
 else match (w.av n).write [fq 4 l.q (dn ((w.av n).bs l.q) l.ep l.fr).1.ep l.fr aT] with
  | none=>w
  | some x=>w.put n { x with pend:=some (.begun l.q (dn ((w.av n).bs l.q) l.ep l.fr).1) }
def sM (q:Nat) (b:bO) (k m:Nat) (last:Bool):List dx:=
 ((b.evs.take m).drop k).map (fun x=>fq 5 q b.ep 0 x)++if last=true then [fq 6 q b.ep 0 aT] else []
noncomputable def Cl.got (w:Cl) (n:Nat) (l:jI):Cl:=
 if ((w.av n).bs l.q).role≠4∨((w.av n).bs l.q).fr≠l.fr then w
 else if (cB ((w.av n).bs l.q) l.ep l.at_ l.evs l.last).2=2 then w.have_ n l.q
 else if (cB ((w.av n).bs l.q) l.ep l.at_ l.evs l.last).2≠0∨(cB ((w.av n).bs l.q) l.ep l.at_ l.evs l.last).1.evs.length=((w.av n).bs l.q).evs.length then w
 else match (w.av n).write (sM l.q (cB ((w.av n).bs l.q) l.ep l.at_ l.evs l.last).1 ((w.av n).bs l.q).evs.length (l.at_.toNat+l.evs.length) l.last) with
  | none=>w
  | some x=>w.put n { x with pend:=some (.got l.q (cB ((w.av n).bs l.q) l.ep l.at_ l.evs l.last).1 l.last) }
noncomputable def Rm (n q:Nat) (b:bO) (at_:Int):jI:={ kd:=4,fr:=n,tg:=b.tg,q:=q,ep:=b.ep+1,at_:=at_,evs:=(iT b at_).1,last:=(iT b at_).2.1 }
noncomputable def Cl.part (w:Cl) (n q:Nat) (at_:Int):Cl:=if (iT ((w.av n).bs q) at_).2.2≠0 then w else w.send (Rm n q ((w.av n).bs q) at_)
noncomputable def Cl.caught (w:Cl) (n:Nat) (l:jI):Cl:=
 if ((w.av n).bs l.q).tg≠l.fr∨((w.av n).bs l.q).ep+1≠l.ep then w
 else if (bF ((w.av n).bs l.q) l.at_).2≠0 then w
 else if (bF ((w.av n).bs l.q) l.at_).1.role=((w.av n).bs l.q).role then (w.dS n l.q (bF ((w.av n).bs l.q) l.at_).1).part n l.q l.at_
 else match (w.av n).write [fq 3 l.q (bF ((w.av n).bs l.q) l.at_).1.ep (bF ((w.av n).bs l.q) l.at_).1.tg aT] with
  | none=>w
  | some x=>w.put n { x with pend:=some (.kN l.q (bF ((w.av n).bs l.q) l.at_).1 l.at_) }
def Nd.hear (x:Nd) (n:Nat) (l:jI):Nd:=
 { x with hints:=if (x.hints l.q).epoch<l.ep then upd x.hints l.q ⟨l.nd,l.ep⟩ else x.hints,sure:=if l.nd=n∧(x.bs l.q).ep=l.ep then upd x.sure l.q true else x.sure }
noncomputable def Cl.learnt (w:Cl) (n:Nat) (l:jI):Cl:=
 if (fB ((w.av n).bs l.q) l.ep).2≠0 then w.put n ((w.av n).hear n l)
 else match ((w.av n).hear n l).write [fq 7 l.q ((w.av n).bs l.q).ep 0 aT] with
  | none=>w.put n ((w.av n).hear n l)
  | some x=>w.put n { x with pend:=some (.forget l.q (fB ((w.av n).bs l.q) l.ep).1) }
def zM (n q:Nat) (b:bO):jI:={ kd:=2,fr:=n,tg:=b.tg,q:=q,ep:=b.ep+1 }
def Xf (n q:Nat):jI:={ kd:=5,fr:=n,tg:= -2,q:=q,nd:= -1 }
def Rn (n q:Nat) (b:bO):jI:={ kd:=5,fr:=n,tg:= -2,q:=q,ep:=b.ep-1,nd:=n }
def kU (n q:Nat) (b:bO) (sure:Bool):List jI:=
 (if b.role=2∨b.role=3 then [zM n q b] else [])++(if b.role=3 then [Xf n q] else [])++if b.role=1∧1<b.ep∧sure=false then [Rn n q b] else []
def Cl.Xg (w:Cl) (n:Nat):Cl:=
 let q:=(w.av n).turn % 4
 { (w.put n { w.av n with turn:=(w.av n).turn+1 }) with fly:=w.fly++kU n q ((w.av n).bs q) ((w.av n).sure q) }
noncomputable def Cl.xH (w:Cl) (n:Nat):gX→Cl
 | .serve q evs op num a=>(w.dS n q { (w.av n).bs q with evs:=evs }).done n q op num a
 | .begun q b=>(w.dS n q b).have_ n q
 | .got q b last=>if last=true then ((w.dS n q b).put n { (w.dS n q b).av n with sure:=upd (w.av n).sure q false }).tell n q bU gF (-1) else (w.dS n q b).have_ n q
 | .kN q b at_=>(w.dS n q b).part n q at_
 | .forget q b=>w.dS n q b
noncomputable def Cl.handle (w:Cl) (n:Nat) (l:jI):Cl:=
 if l.kd=0 then w.serve n l else if l.kd=2 then w.offered n l else if l.kd=3 then w.caught n l else if l.kd=4 then w.got n l else w.learnt n l
noncomputable def Cl.drain (n:Nat):List jI→Cl→Cl
 | [],w=>w
 | l::r,w=>if ((w.put n { w.av n with inbox:=r }).handle n l |>.av n).pend=none then Cl.drain n r ((w.put n { w.av n with inbox:=r }).handle n l) else (w.put n { w.av n with inbox:=r }).handle n l
noncomputable def Cl.step (w:Cl) (n:Nat):Cl:=
 if (w.av n).up=false then w else match (w.av n).pend with
  | some p=>(w.put n { w.av n with syn:=(w.av n).data.length,pend:=none }).xH n p
  | none=>if ((Cl.drain n (w.av n).inbox w).av n).pend=none then (Cl.drain n (w.av n).inbox w).Xg n else Cl.drain n (w.av n).inbox w
def oq (tg:Int) (q:Nat) (p:Pl):jI:={ kd:=6,fr:= -2,tg:=tg,q:=q,ep:=p.epoch,nd:=p.node }
noncomputable def fD (d:Dir) (l:jI):Dir:=if 0≤l.nd∧(IB d l.q l.ep l.nd).2=0 then (IB d l.q l.ep l.nd).1 else d
noncomputable def Cl.come (w:Cl) (l:jI):Cl:=
 if l.tg= -1 then { w with aM:=w.aM++[l.aM] }
 else if l.tg= -2 then
  if (bI (fD w.off l) l.q).2=0 then { w with off:=fD w.off l,fly:=w.fly++[oq l.fr l.q (bI (fD w.off l) l.q).1] } else { w with off:=fD w.off l }
 else if (w.av l.tg.toNat).up=true then w.put l.tg.toNat { w.av l.tg.toNat with inbox:=(w.av l.tg.toNat).inbox++[l] } else w
noncomputable def Cl.pick (w:Cl) (at_:Nat) (comes stays:Bool):Cl:=
 match w.fly[at_ % w.fly.length]? with
 | none=>w
 | some l=>
  let w1:=if stays=true then w else { w with fly:=w.fly.eraseIdx (at_ % w.fly.length) }
  if comes=true then w1.come l else w1
noncomputable def Cl.make (w:Cl) (n q:Nat):Cl:=
 if (w.av n).up=false∨(w.av n).pend.isSome=true∨(vw w.off q n).2≠0 then w
 else if (iB ((w.av n).bs q) 1).2≠0 then w
 else match (w.av n).write [fq 1 q (iB ((w.av n).bs q) 1).1.ep 0 aT] with
  | none=>w
  | some x=>{ w.put n { x with syn:=x.data.length,bs:=upd x.bs q (iB ((w.av n).bs q) 1).1 } with off:=(vw w.off q n).1,shown:=ni w.shown n q (1,0) }
noncomputable def Cl.move (w:Cl) (q:Nat) (tg:Int):Cl:=
 if (bI w.off q).2≠0∨(bI w.off q).1.node=tg∨(w.av (bI w.off q).1.node.toNat).up=false then w
 else if (xW ((w.av (bI w.off q).1.node.toNat).bs q) tg).2=0∧(xW ((w.av (bI w.off q).1.node.toNat).bs q) tg).1.ep=(bI w.off q).1.epoch then
  w.dS (bI w.off q).1.node.toNat q (xW ((w.av (bI w.off q).1.node.toNat).bs q) tg).1
 else w
noncomputable def Ad (data:List UInt8) (syn:Int):Option (List bO):=(allM (sK (jf data syn).1 (jf data syn).2.1).1).1
noncomputable def bQ (data:List UInt8) (syn:Int):Nat→bO:=fun q=>Fj ((Ad data syn).getD []) q
def Cl.recovered (w:Cl) (n q:Nat) (evs:List Ev) (an:List iK):List Nat→Cl
 | []=>w
 | i::r=>Cl.recovered (w.tell n q (evs.getD i aT) (an.getD i gF) (-1)) n q evs an r
noncomputable def Cl.recover (w:Cl) (n q:Nat):Cl:=
 if (w.shown n q).1≠((w.av n).bs q).ep then w.tell n q bU gF (-1)
 else w.recovered n q ((w.av n).bs q).evs (aV ((w.av n).bs q).evs).2.1 ((List.range ((w.av n).bs q).evs.length).drop (w.shown n q).2.toNat)
noncomputable def dV (syn:Int) (bs:Nat→bO):List Nat→List UInt8→Option (List UInt8)
 | [],d=>some d
 | q::r,d=>if (bs q).role≠1 then dV syn bs r d else if (eO (bs q)).2≠0 then none else
  match eD d syn [fq 2 q (bs q).ep 0 bU] with
  | none=>none
  | some d'=>dV syn bs r d'
noncomputable def Cl.woken (n:Nat) (bs:Nat→bO):List Nat→Cl→Cl
 | [],w=>w
 | q::r,w=>if (bs q).role≠1 then Cl.woken n bs r w else Cl.woken n bs r (((w.recover n q).dS n q (eO (bs q)).1).tell n q bU gF (-1))
noncomputable def Cl.start (w:Cl) (n:Nat):Cl:=
 if (w.av n).up=true then w else
 match dV (jf (w.av n).data (w.av n).syn).2.1 (bQ (w.av n).data (w.av n).syn) [0,1,2,3] (jf (w.av n).data (w.av n).syn).1 with
 | none=>w
 | some d=>Cl.woken n (bQ (w.av n).data (w.av n).syn) [0,1,2,3] (w.put n { (w.av n).blank with up:=true,data:=d,syn:=d.length,bs:=bQ (w.av n).data (w.av n).syn })
def Cl.crash (w:Cl) (n:Nat) (keep:Int):Cl:=
 if (w.av n).up=true then w.put n { (w.av n).blank with up:=false,data:=(nI (w.av n).data (w.av n).syn keep).1,syn:=(nI (w.av n).data (w.av n).syn keep).2.1 } else w
def Ac.op (a:Ac):Ev:=⟨a.ek,a.ep,a.ei,a.eb,a.eh,a.en⟩
def Rp (n:Int) (q:Nat) (op:Ev) (num:Int):jI:={ kd:=0,fr:= -1,tg:=n,q:=q,op:=op,num:=num }
noncomputable def Cl.all (w:Cl):Cl:=w.fly.foldl Cl.come { w with fly:=[] }
noncomputable def Cl.act (w:Cl) (a:Ac):Cl:=
 if a.kd=1 then w.make a.nd.toNat a.qu.toNat
 else if a.kd=2 then { w with fly:=w.fly++[Rp a.nd a.qu.toNat a.op w.calls],calls:=w.calls+1 }
 else if a.kd=3 then w.step a.nd.toNat
 else if a.kd=4∨a.kd=5∨a.kd=6 then w.pick a.at_.toNat (decide (a.kd≠5)) (decide (a.kd=6))
 else if a.kd=7 then w.all
 else if a.kd=8 then w.crash a.nd.toNat a.kp
 else if a.kd=9 then w.start a.nd.toNat
 else w.move a.qu.toNat a.nd
noncomputable def Cl.run (w:Cl) (l:List Ac):Cl:=l.foldl Cl.act w
noncomputable def Nd.view (x:Nd):Nat→bO:=if x.up=true then x.bs else bQ x.data x.syn
theorem tK: ∀ (a b:List Ev) (Q:Qd) (an:List iK),gP Q an (a++b)=(gP Q an a).bind fun r=>gP r.1 r.2 b
 | [],b,Q,an=>rfl
 | e::a,b,Q,an=>by
  simp only [List.cons_append,gP]
  split
  ·exact tK a b _ _
  rfl
def good (l:List Ev):Prop:=(aV l).2.2=0
section
variable {l:List Ev} {e:Ev} {k:Nat}
theorem sV:good l↔l.length≤2000∧ ∃ r,gP gN [] l=some r:=by
 unfold good
 constructor
 ·intro h;refine ⟨dY h,?_⟩;have hl: ¬ 2000<l.length:=by have:=dY h;omega
  cases hr:gP gN [] l with
  | none=>rw [Gg hl hr] at h;cases h
  | some r=>exact ⟨r,rfl⟩
 rintro ⟨h,r,hr⟩;rw [BZ (by omega) hr]
theorem Fp {r:Qd×List iK} (h:l.length≤2000) (hr:gP gN [] l=some r):aV l=(r.1,r.2,0):=BZ (by omega) hr
theorem xY:good []:=sV.2 ⟨by simp,_,rfl⟩
theorem Oo {a b:List Ev} (h:good (a++b)):good a:=by
 obtain ⟨h1,r,hr⟩:=sV.1 h;rw [tK] at hr;rw [List.length_append] at h1
 cases ha:gP gN [] a with
 | none=>rw [ha] at hr;cases hr
 | some s=>exact sV.2 ⟨by omega,s,ha⟩
theorem ze (h:good l):good (l.take k):=Oo (b:=l.drop k) (by rwa [List.take_append_drop])
theorem jC (h:good l):l.length≤2000:=dY h
theorem good_step (h:good (l++[e])):(jF (aV l).1 e).2.2.2=0∧(jF (aV l).1 e).2.2.1=true∧aV (l++[e])=((jF (aV l).1 e).1,(aV l).2.1++[(jF (aV l).1 e).2.1],0):=by
 obtain ⟨h1,r,hr⟩:=sV.1 h;rw [List.length_append] at h1;rw [tK] at hr
 cases ha:gP gN [] l with
 | none=>rw [ha] at hr;cases hr
 | some s=>
  have hs:=Fp (by omega) ha;rw [ha] at hr;simp only [Option.bind_some,gP] at hr
  split at hr
  ·rename_i hc
   rw [hs];refine ⟨hc.1,hc.2,?_⟩
   cases hr;refine Fp (r:=((jF s.1 e).1,s.2++[(jF s.1 e).2.1])) (by rw [List.length_append];exact h1) ?_;rw [tK,ha];simp only [Option.bind_some,gP];rw [if_pos hc]
  cases hr
theorem Xh (h:good l) (hl:l.length<2000) (hc:(jF (aV l).1 e).2.2.2=0) (hd:(jF (aV l).1 e).2.2.1=true):good (l++[e]):=by
 obtain ⟨h1,s,ha⟩:=sV.1 h;have hs:=Fp h1 ha;rw [hs] at hc hd;refine sV.2 ⟨by simp;omega,((jF s.1 e).1,s.2++[(jF s.1 e).2.1]),?_⟩;rw [tK,ha];simp only [Option.bind_some,gP];rw [if_pos ⟨hc,hd⟩]
theorem Xi (h:good l):(aV l).2.1.length=l.length:=by
 obtain ⟨h1,s,ha⟩:=sV.1 h;rw [Fp h1 ha];have:=(AJ (by simp [gN]) ha).2;simpa using this
theorem zf (hk:k<l.length):l.take (k+1)=l.take k++[l[k]]:=by rw [List.take_add_one,List.getElem?_eq_getElem hk];rfl
end
noncomputable def rp:Qd→List eT→Option Qd
 | x,[]=>some x
 | x,s::r=>if (jF x s.op).2.2.2=0∧(jF x s.op).2.1=s.ans then rp (jF x s.op).1 r else none
structure Gh where
 m:Nat
 own:Nat→Nat
 len:Nat→Nat
 G:List Ev
 F:Nat
 t:Nat
def Gh.bd (g:Gh) (k:Nat):Nat:=if k=g.m then g.G.length else g.len k
def Gh.o (g:Gh):Nat:=g.own g.m
def Oth (g:Gh) (n:Nat) (b:bO):Prop:=
 (b.role=0∧0≤b.ep∧b.ep<g.m)∨
 (∃ k:Nat,b.role=3∧b.ep=k∧1≤k∧k<g.m∧g.own k=n∧b.evs=g.G.take (g.len k)∧b.tg=g.own (k+1))∨
 (∃ k:Nat,b.role=4∧b.ep=(k:Int)+1∧1≤k∧k≤g.m∧b.fr=g.own k∧b.evs=g.G.take b.evs.length∧b.evs.length≤g.bd k∧(k<g.m→g.own (k+1)≠n))
def LOk (g:Gh) (V:Nat→bO) (pl:Pl) (l:jI):Prop:=
 (l.kd=2→ ∃ k:Nat,l.ep=(k:Int)+1∧1≤k∧k≤g.m∧l.fr=g.own k)∧
 (l.kd=4→ ∃ k:Nat,l.ep=(k:Int)+1∧1≤k∧k≤g.m∧l.fr=g.own k∧0≤l.at_∧l.evs=(g.G.drop l.at_.toNat).take l.evs.length∧l.at_.toNat+l.evs.length≤g.bd k∧
  (l.last=true→(k<g.m∧(g.own (k+1):Int)=l.tg)∨(k=g.m∧(V g.o).role=3∧(V g.o).tg=l.tg∧l.at_.toNat+l.evs.length=g.G.length)))∧
 (l.kd=5→0≤l.nd→ ∃ k:Nat,l.ep=k∧1≤k∧k<g.m∧(g.own (k+1):Int)=l.nd)∧
 (l.kd=6→ ∃ k:Nat,l.ep=k∧1≤k∧(k:Int)≤pl.epoch∧(g.own k:Int)=l.nd)
def Xj (g:Gh) (V:Nat→bO) (n:Nat):gX→Prop
 | .serve _ evs op _ a=>n=g.o∧serves (V n)∧evs=g.G++[op]∧(jF (aV g.G).1 op).2.1=a∧good evs
 | .begun _ b=> ∃ k:Nat,b=⟨4,(k:Int)+1,g.own k,0,0,[]⟩∧1≤k∧k≤g.m∧((V n).role=0∨(V n).role=4)∧(V n).ep< (k:Int)+1
 | .got _ b last=>(V n).role=4∧(last=false→ ∃ j,b={ V n with evs:=g.G.take j }∧(V n).evs.length≤j∧ ∀ k:Nat,(V n).ep=(k:Int)+1→j≤g.bd k)∧
   (last=true→(V n).ep=(g.m:Int)+1∧(V g.o).role=3∧(V g.o).tg=n∧b=⟨1,(g.m:Int)+1,0,0,0,g.G++[bU]⟩∧good (g.G++[bU]))
 | .kN _ b _=>n=g.o∧(V n).role=2∧b={ V n with role:=3,rd:=0 }
 | .forget _ b=>(V n).role=3∧b=⟨0,(V n).ep,0,0,0,[]⟩∧(V n).ep<g.m
structure SvC (own:Nat→Nat) (t:Nat) (sv:List eT):Prop where
 each: ∀ s∈sv,∃ k:Nat,s.ep=k∧1≤k∧k≤t∧s.nd=own k
 two: ∀ i a b,sv[i]? =some a→sv[i+1]? =some b→b.ep=a.ep∨(b.ep=a.ep+1∧b.op=bU)
 last: ∀ s,sv.getLast?=some s→s.ep=t
 nil:sv=[]→t=1
structure Inv (g:Gh) (V:Nat→bO) (P:Nat→Option gX) (U:Nat→Bool) (Lt:jI→Prop) (pl:Pl) (sh:Nat→Int×Int) (sv:List eT):Prop where
 m1:1≤g.m
 aDd: ∀ k,1≤k→k≤g.m→g.own k<5
 adj: ∀ k,1≤k→k<g.m→g.own k≠g.own (k+1)
 dir: ∃ d:Nat,pl=⟨g.own d,d⟩∧1≤d∧(d=g.m∨d+1=g.m)
 aep:(V g.o).ep=g.m
 aev:(V g.o).evs=g.G
 arl:(V g.o).role=1∨(V g.o).role=2∨(V g.o).role=3
 agd:(V g.o).role≠1→pl.epoch=g.m∧(V g.o).tg≠g.o∧0≤(V g.o).tg∧(V g.o).tg<5
 gd:good g.G
 ZW: ∀ n,n<5→n≠g.o→Oth g n (V n)
 ge: ∀ k,1≤k→k≤g.m→(k:Int)≤(V (g.own k)).ep
 brk: ∀ k,1≤k→k<g.m→g.G[g.len k]? =some bU∧g.len k<g.bd (k+1)
 Ep: ∀ l,Lt l→LOk g V pl l
 zN: ∀ n,n<5→ ∀ p,P n=some p→U n=true∧Xj g V n p
 tol:(g.t=g.m∧sh g.o=((g.m:Int),(g.F:Int))∧g.F≤g.G.length)∨(g.t+1=g.m∧(sh g.o).1<g.m∧U g.o=false∧g.F+1=g.G.length∧g.G[g.F]? =some bU)
 upF:U g.o=true→g.F=g.G.length
 slF:(V g.o).role=3→g.F=g.G.length
 sho: ∀ n,n<5→n≠g.o→(sh n).1<g.m
 rps:rp gN sv=some (aV (g.G.take g.F)).1
 svs:SvC g.own g.t sv
section
variable {g:Gh} {V:Nat→bO} {P:Nat→Option gX} {U:Nat→Bool} {Lt:jI→Prop} {pl:Pl} {sh:Nat→Int×Int} {sv:List eT} {n:Nat} {l:jI} {b:bO}
theorem upd_same {α:Type} (f:Nat→α) (k:Nat) (v:α):upd f k v k=v:=if_pos rfl
theorem upd_ne {α:Type} {f:Nat→α} {k j:Nat} {v:α} (h:j≠k):upd f k v j=f j:=if_neg h
theorem aQ {α:Type} {f:Nat→α} {k:Nat} {v:α} (h:f k=v):upd f k v=f:=by
 funext j
 unfold upd
 split
 ·rename_i e;rw [e,h]
 rfl
theorem Inv.down (I:Inv g V P U Lt pl sh sv) (n:Nat):Inv g V (upd P n none) (upd U n false) Lt pl sh sv:=
 { I with
  zN:=fun k hk p hp=>by
   by_cases e:k=n
   ·subst e;rw [upd_same] at hp;cases hp
   rw [upd_ne e] at hp⊢;exact I.zN k hk p hp
  tol:=by
   rcases I.tol with h | ⟨h1,h2,h3,h4⟩
   ·exact .inl h
   refine .inr ⟨h1,h2,?_,h4⟩;by_cases e:g.o=n
   ·rw [e,upd_same]
   rw [upd_ne e];exact h3
  upF:=fun h=>by
   by_cases e:g.o=n
   ·rw [e,upd_same] at h;cases h
   rw [upd_ne e] at h;exact I.upF h }
theorem Inv.up (I:Inv g V P U Lt pl sh sv) (n:Nat) (h:n=g.o→g.t=g.m∧g.F=g.G.length):Inv g V P (upd U n true) Lt pl sh sv:=
 { I with
  zN:=fun k hk p hp=>by
   obtain ⟨h1,h2⟩:=I.zN k hk p hp;refine ⟨?_,h2⟩;by_cases e:k=n
   ·rw [e,upd_same]
   rw [upd_ne e];exact h1
  tol:=by
   by_cases e:g.o=n
   ·obtain ⟨h1,h2⟩:=h e.symm
    rcases I.tol with h | ⟨h3,_⟩
    ·exact .inl h
    omega
   rw [upd_ne e];exact I.tol
  upF:=fun h'=>by
   by_cases e:g.o=n
   ·exact (h e.symm).2
   rw [upd_ne e] at h';exact I.upF h' }
theorem Xj.mono {V':Nat→bO} {p:gX} (h:Xj g V n p) (hv:V' n=V n) (ho:(V g.o).role=3→(V' g.o).role=3∧(V' g.o).tg=(V g.o).tg):Xj g V' n p:=by
 cases p with
 | serve q evs op num a=>unfold Xj at h⊢;rw [hv];exact h
 | begun q b=>unfold Xj at h⊢;rw [hv];exact h
 | got q b last=>
  unfold Xj at h⊢;rw [hv];refine ⟨h.1,h.2.1,fun hl=>?_⟩;obtain ⟨h1,h2,h3,h4⟩:=h.2.2 hl;obtain ⟨h5,h6⟩:=ho h2;exact ⟨h1,h5,h6.trans h3,h4⟩
 | kN q b at_=>unfold Xj at h⊢;rw [hv];exact h
 | forget q b=>unfold Xj at h⊢;rw [hv];exact h
theorem LOk.mono {V':Nat→bO} (h:LOk g V pl l) (ho:(V g.o).role=3→(V' g.o).role=3∧(V' g.o).tg=(V g.o).tg):LOk g V' pl l:=by
 obtain ⟨h1,h2,h3⟩:=h;refine ⟨h1,fun hk=>?_,h3⟩;obtain ⟨k,a,b,c,d,e,f,i,j⟩:=h2 hk;refine ⟨k,a,b,c,d,e,f,i,fun hl=>?_⟩
 rcases j hl with j | ⟨j1,j2,j3,j4⟩
 ·exact .inl j
 obtain ⟨h5,h6⟩:=ho j2;exact .inr ⟨j1,h5,h6.trans j3,j4⟩
theorem SvC.own {own own':Nat→Nat} {t:Nat} (h:SvC own t sv) (he: ∀ k,k≤t→own' k=own k):SvC own' t sv:=
 ⟨fun s hs=>by obtain ⟨k,a,b,c,d⟩:=h.each s hs;exact ⟨k,a,b,c,by rw [he k c];exact d⟩,h.two,h.last,h.nil⟩
def Gh.all (g:Gh):Gh:={ g with F:=g.G.length,t:=g.m }
def Gh.act (g:Gh) (T:Nat):Gh:={ g with m:=g.m+1,own:=upd g.own (g.m+1) T,len:=upd g.len g.m g.G.length,G:=g.G++[bU] }
end
def kV (b:bO):bO:=if b.role=2 then ⟨1,b.ep,0,0,0,b.evs⟩ else b
def vB (f:Nat→bO):List bO:=[f 0,f 1,f 2,f 3]
section
variable {f:Nat→bO} {q:Nat} {b:bO} {rs:List dx} {r:dx}
theorem ZX (hq:q<4):Fj (vB f) (q:Int)=f q:=by
 have h:q=0∨q=1∨q=2∨q=3:=by omega
 rcases h with rfl | rfl | rfl | rfl<;>rfl
theorem QB (hq:q<4):(vB f).set q b=vB (upd f q b):=by
 have h:q=0∨q=1∨q=2∨q=3:=by omega
 rcases h with rfl | rfl | rfl | rfl<;>rfl
theorem xZ {f':Nat→bO} (h: ∀ q,q<4→f q=f' q):vB f=vB f':=by unfold vB;rw [h 0 (by omega),h 1 (by omega),h 2 (by omega),h 3 (by omega)]
def gT (rs:List dx) (f:Nat→bO):Prop:=(∀ r∈rs,aP r=0)∧(allM rs).1=some (vB f)
theorem Hl: ∀ (a:List dx) (i:Nat) (T T':List bO),(mG a i T).1=some T'→mG (a++[r]) i T=mG [r] (i+a.length) T'
 | [],i,T,T',h=>by
  rw [mG] at h
  cases h;rfl
 | x::a,i,T,T',h=>by
  rw [List.cons_append,mG];rw [mG] at h
  split at h
  ·cases h
  rename_i h1
  rw [if_neg h1]
  split at h
  ·cases h
  rename_i h2
  rw [if_neg h2,Hl a (i+1) _ T' h,List.length_cons,show i+1+a.length=i+(a.length+1) by omega]
theorem gT.nil:gT [] fun _=>bD:=⟨fun r h=>by simp at h,rfl⟩
theorem gT.snoc (h:gT rs f) (hr:aP r=0) (hq:q<4) (hrq:r.queue=q) (ha:dN (f q) r=(b,0)):gT (rs++[r]) (upd f q b):=by
 refine ⟨fun x hx=>?_,?_⟩
 ·rcases List.mem_append.1 hx with hx | hx
  ·exact h.1 x hx
  rw [List.mem_singleton] at hx;subst hx;exact hr
 have h2:=h.2;unfold allM at h2⊢;rw [Hl _ _ _ _ h2,mG,hrq,ZX hq,if_neg (by simpa using hr),if_neg (by rw [ha];simp),ha,show ((q:Int)).toNat=q from rfl,QB hq,mG]
theorem gT.congr {f':Nat→bO} (h:gT rs f) (he: ∀ q,q<4→f q=f' q):gT rs f':=⟨h.1,by rw [h.2,xZ he]⟩
theorem gT.read {t data:List UInt8} {syn:Int} (h:gT rs f) (hd:data=bW rs++t) (ht:(firstM t).2=0) (hz:data.length≤100000) (h0:0≤syn) (h1:syn≤data.length):
  jf data syn=(bW rs,min syn (bW rs).length,0)∧Ad data syn=some (vB f)∧ ∀ q,q<4→bQ data syn q=f q:=by
 have hm:cu data syn=true:=by simp [cu];omega
 have hrd:bK data=(rs,(bW rs).length):=by rw [hd];exact wF h.1 ht
 have hrep:jf data syn=(bW rs,min syn (bW rs).length,0):=by
  unfold jf;rw [if_pos hm,hrd,hd,List.take_left]
 have hl:(bW rs).length≤data.length:=by rw [hd,List.length_append];omega
 have hrb:Ad data syn=some (vB f):=by
  unfold Ad;rw [hrep];unfold sK;rw [if_pos (by simp [cu];omega)];have:=wF (t:=[]) h.1 vM;rw [List.append_nil] at this;dsimp only;rw [this];exact h.2
 refine ⟨hrep,hrb,fun q hq=>?_⟩;unfold bQ;rw [hrb];exact ZX hq
theorem fU (h:au b=0):bn b:=(dJ h).1
theorem iO (h:au b=0):good b.evs:=(dJ h).2
theorem nG (h:bn b) (hr:b.role≠0) (l:List Ev):bn ⟨b.role,b.ep,b.fr,b.tg,b.rd,l⟩:=h.elim (fun h=>absurd h.1 hr) .inr
theorem zh {ep:Int} (h:1≤ep) (h1:ep≤1048576) (l:List Ev):bn ⟨1,ep,0,0,0,l⟩:= .inr ⟨h,h1,.inl ⟨rfl,rfl,rfl,rfl⟩⟩
theorem zO {k ep pe:Int} {e:Ev} (hk:1≤k∧k≤7) (hq:q<4) (gG:0≤ep∧ep≤1048576) (hpe:0≤pe∧pe≤4) (he:if jS k=true then bE e=0 else e=aT):aP (fq k q ep pe e)=0:=by
 unfold aP fq;dsimp only;rw [if_neg (by simp [jh];omega),if_neg (by simp [jh];omega)];by_cases hh:jS k=true
 ·rw [if_pos hh] at he⊢;exact he
 rw [if_neg hh] at he⊢;rw [if_pos he]
theorem afm (hb:au b=0) (hr:b.role=0) (he:b.ep<1) (hq:q<4):iB b 1=(⟨1,1,0,0,0,[]⟩,0)∧dN b (fq 1 q 1 0 aT)=(⟨1,1,0,0,0,[]⟩,0):=by
 have hm:iB b 1=(⟨1,1,0,0,0,[]⟩,0):=by unfold iB;rw [if_neg (by simp [hb]),if_neg (by omega),if_neg (by simp [hr]),if_neg (by omega)]
 have ha:jo b (fq 1 q 1 0 aT)=(⟨1,1,0,0,0,[]⟩,0):=by unfold jo fq;simpa using hm
 exact ⟨hm,by rw [iq hb (zO (by omega) hq (by omega) (by omega) (by decide)) (by simp [fq];omega) (by rw [ha]),ha]⟩
theorem Oq {e:Ev} {ep:Int} (hb:au b=0) (hr:b.role=1) (gG:b.ep=ep) (hq:q<4) (he:bE e=0) (hg:good (b.evs++[e])):dN b (fq 2 q ep 0 e)=({ b with evs:=b.evs++[e] },0)∧aP (fq 2 q ep 0 e)=0:=by
 subst gG;have hs:=fU hb;unfold bn at hs;have hrec:aP (fq 2 q b.ep 0 e)=0:=zO (by omega) hq (by omega) (by omega) (by simpa [jS] using he);have hok:au ⟨b.role,b.ep,b.fr,b.tg,b.rd,b.evs++[e]⟩=0:=lI (nG (fU hb) (by omega) _) hg;have ha:jo b (fq 2 q b.ep 0 e)=({ b with evs:=b.evs++[e] },0):=by
  have h1:=ZO (b:=b) (qu:=q) (e:=b.ep) (pe:=0) (x:=e);rw [if_neg (fun h=>h ⟨hr,rfl⟩)] at h1;unfold Aa at h1;rw [if_neg (fun h=>h hok)] at h1;exact h1
 exact ⟨by rw [iq hb hrec (by simp [fq];omega) (by rw [ha]),ha],hrec⟩
theorem Xk {e:Ev} {ep:Int} (hb:au b=0) (hr:b.role=4) (gG:b.ep=ep) (hq:q<4) (he:bE e=0) (hg:good (b.evs++[e])):dN b (fq 5 q ep 0 e)=({ b with evs:=b.evs++[e] },0)∧aP (fq 5 q ep 0 e)=0∧au { b with evs:=b.evs++[e] }=0:=by
 subst gG;have hs:=fU hb;unfold bn at hs;have hrec:aP (fq 5 q b.ep 0 e)=0:=zO (by omega) hq (by omega) (by omega) (by simpa [jS] using he);have hok:au ⟨b.role,b.ep,b.fr,b.tg,b.rd,b.evs++[e]⟩=0:=lI (nG (fU hb) (by omega) _) hg;have ha:jo b (fq 5 q b.ep 0 e)=({ b with evs:=b.evs++[e] },0):=by
  have h1:=ZP (b:=b) (qu:=q) (e:=b.ep) (pe:=0) (x:=e);rw [if_neg (fun h=>h ⟨hr,rfl⟩)] at h1;unfold Aa at h1;rw [if_neg (fun h=>h hok)] at h1;exact h1
 exact ⟨by rw [iq hb hrec (by simp [fq];omega) (by rw [ha]),ha],hrec,hok⟩
theorem afn {ep tg:Int} (hb:au b=0) (hr:b.role=1) (gG:b.ep=ep) (hq:q<4) (ht:0≤tg∧tg≤4):dN b (fq 3 q ep tg aT)=(⟨3,b.ep,0,tg,0,b.evs⟩,0)∧aP (fq 3 q ep tg aT)=0:=by
 subst gG;have hs:=fU hb;unfold bn at hs;have hrec:aP (fq 3 q b.ep tg aT)=0:=zO (by omega) hq (by omega) (by omega) (by decide);have ha:jo b (fq 3 q b.ep tg aT)=(⟨3,b.ep,0,tg,0,b.evs⟩,0):=by
  unfold jo fq Rl;have h1:b.fr=0:=by omega
  have h2:b.rd=0:=by omega
  simp [hr,h1,h2]
 exact ⟨by rw [iq hb hrec (by simp [fq];omega) (by rw [ha]),ha],hrec⟩
theorem abn {ep fr:Int} (hb:au b=0) (hr:b.role=0∨b.role=4) (gG:b.ep<ep) (h1:1≤ep∧ep≤1048576) (hq:q<4) (ht:0≤fr∧fr≤4):dN b (fq 4 q ep fr aT)=(⟨4,ep,fr,0,0,[]⟩,0)∧aP (fq 4 q ep fr aT)=0:=by
 have hrec:aP (fq 4 q ep fr aT)=0:=zO (by omega) hq (by omega) (by omega) (by decide);have ha:jo b (fq 4 q ep fr aT)=(⟨4,ep,fr,0,0,[]⟩,0):=by
  unfold jo fq dn;rw [if_neg (by simp),if_pos rfl];dsimp only;rw [if_neg (by simp [hb]),if_neg (by omega),if_neg (by omega),if_neg (by omega),if_neg (by omega)]
 exact ⟨by rw [iq hb hrec (by simp [fq];omega) (by rw [ha]),ha],hrec⟩
theorem akY {ep:Int} (hb:au b=0) (hr:b.role=4) (gG:b.ep=ep) (hq:q<4) (hg:good (b.evs++[bU])):dN b (fq 6 q ep 0 aT)=(⟨1,b.ep,0,0,0,b.evs++[bU]⟩,0)∧aP (fq 6 q ep 0 aT)=0:=by
 subst gG;have hs:=fU hb;unfold bn at hs;have hrec:aP (fq 6 q b.ep 0 aT)=0:=zO (by omega) hq (by omega) (by omega) (by decide);have hok:au ⟨1,b.ep,0,0,0,b.evs++[bU]⟩=0:=lI (zh (by omega) (by omega) _) hg;have hi:cB b b.ep b.evs.length [] true=(⟨1,b.ep,0,0,0,b.evs++[bU]⟩,0):=by
  unfold cB;rw [if_neg (by simp [hb]),if_neg (by simp [hr]),if_neg (by simp),if_neg (by omega),if_neg (by simp),if_neg (by simp)];simp only [if_pos,List.drop_nil,List.append_nil];rw [if_neg (by simpa using hok)]
 have ha:jo b (fq 6 q b.ep 0 aT)=(⟨1,b.ep,0,0,0,b.evs++[bU]⟩,0):=by
  unfold jo fq;simp [hr,hi]
 exact ⟨by rw [iq hb hrec (by simp [fq];omega) (by rw [ha]),ha],hrec⟩
theorem Xl {ep:Int} (hb:au b=0) (hr:b.role=3) (gG:b.ep=ep) (hq:q<4):dN b (fq 7 q ep 0 aT)=(⟨0,b.ep,0,0,0,[]⟩,0)∧aP (fq 7 q ep 0 aT)=0:=by
 subst gG;have hs:=fU hb;unfold bn at hs;have hrec:aP (fq 7 q b.ep 0 aT)=0:=zO (by omega) hq (by omega) (by omega) (by decide);have ha:jo b (fq 7 q b.ep 0 aT)=(⟨0,b.ep,0,0,0,[]⟩,0):=by
  unfold jo fq fB;simp [hr,hb];omega
 exact ⟨by rw [iq hb hrec (by simp [fq];omega) (by rw [ha]),ha],hrec⟩
theorem sN (h:au b=0):au (kV b)=0:=by
 unfold kV
 split
 ·rename_i hr
  have hs:=fU h;unfold bn at hs;exact lI (zh (by omega) (by omega) _) (iO (b:=b) h)
 exact h
theorem QC:(kV b).ep=b.ep:=by unfold kV;split<;>rfl
theorem afo:(kV b).evs=b.evs:=by unfold kV;split<;>rfl
theorem Gm:(kV b).role≠2:=by unfold kV;split<;>first | assumption | simp
theorem Ot (h:b.role≠2):kV b=b:=if_neg h
theorem wM (h:serves b) (hb:au b=0):kV b=⟨1,b.ep,0,0,0,b.evs⟩:=by
 unfold kV
 split
 ·rfl
 have hs:=fU hb;unfold bn at hs;unfold serves at h;obtain ⟨ro,ep,fr,tg,rd,evs⟩:=b;dsimp only at*;simp only [bO.mk.injEq,and_true,true_and];omega
end
def gX.q:gX→Nat
 | .serve q .. =>q
 | .begun q _=>q
 | .got q .. =>q
 | .kN q .. =>q
 | .forget q _=>q
def gX.b (bs:Nat→bO):gX→bO
 | .serve q evs _ _ _=>{ bs q with evs:=evs }
 | .begun _ b=>b
 | .got _ b _=>b
 | .kN _ b _=>b
 | .forget _ b=>b
def gX.rs (bs:Nat→bO):gX→List dx
 | .serve q _ op _ _=>[fq 2 q (bs q).ep 0 op]
 | .begun q b=>[fq 4 q b.ep b.fr aT]
 | .got q b last=>sM q b (bs q).evs.length (b.evs.length-if last=true then 1 else 0) last
 | .kN q b _=>[fq 3 q b.ep b.tg aT]
 | .forget q _=>[fq 7 q (bs q).ep 0 aT]
def gX.ok (bs:Nat→bO):gX→Prop
 | .serve q evs op _ _=>serves (bs q)∧evs=(bs q).evs++[op]∧bE op=0∧good evs
 | .begun q b=>((bs q).role=0∨(bs q).role=4)∧ ∃ e f,b=⟨4,e,f,0,0,[]⟩∧(bs q).ep<e∧1≤e∧e≤1048576∧0≤f∧f≤4
 | .got q b last=>(bs q).role=4∧good b.evs∧(∀ e∈b.evs,bE e=0)∧(last=false→b={ bs q with evs:=b.evs }∧(bs q).evs=b.evs.take (bs q).evs.length)∧
   (last=true→ ∃ es,b=⟨1,(bs q).ep,0,0,0,es++[bU]⟩∧(bs q).evs=es.take (bs q).evs.length)
 | .kN q b _=>(bs q).role=2∧b={ bs q with role:=3,rd:=0 }
 | .forget q b=>(bs q).role=3∧b=⟨0,(bs q).ep,0,0,0,[]⟩
def jI.ok (l:jI):Prop:=l.q<4∧l.evs.length≤2000∧(l.kd=0∨l.kd=2∨l.kd=3∨l.kd=4∨l.kd=6)
theorem Er {b:bO} {hv:Int} (h:au b=0) (h2:(bF b hv).2=0):au (bF b hv).1=0:=by
 have hb:=dJ h;have hs:=hb.1;unfold bn at hs;unfold bF at h2⊢;rw [if_neg (fun e=>e h)] at h2⊢;by_cases c1:b.role≠2∧b.role≠3
 ·rw [if_pos c1] at h2;exact absurd h2 (by decide)
 rw [if_neg c1] at h2⊢;by_cases c2: ¬ (0≤hv∧hv≤b.evs.length)
 ·rw [if_pos c2] at h2;exact absurd h2 (by decide)
 rw [if_neg c2] at h2⊢;by_cases c3:b.role=3
 ·rw [if_pos c3];exact h
 rw [if_neg c3];have key: ∀ r d,bn ⟨r,b.ep,b.fr,b.tg,d,b.evs⟩→au ⟨r,b.ep,b.fr,b.tg,d,b.evs⟩=0:=fun r d h=>lI h hb.2
 by_cases c4:hv=b.evs.length∨b.rd=4
 ·rw [if_pos c4];refine key 3 0 ?_;clear h2 key h hb;unfold bn;dsimp only;omega
 rw [if_neg c4];have hr:b.role=2:=by clear h2 key h hb c2 c4;omega
 have hd: ¬ b.rd=4:=fun e=>c4 (.inr e)
 rw [hr] at hs;have hs2:1≤b.ep∧b.ep≤1048576∧b.fr=0∧0≤b.tg∧b.tg<5∧0≤b.rd∧b.rd≤4:=by clear h2 key h hb c1 c2 c3 c4;omega
 refine key b.role (b.rd+1) (.inr ⟨hs2.1,hs2.2.1,.inr (.inl ⟨hr,hs2.2.2.1,hs2.2.2.2.1,hs2.2.2.2.2.1,?_,?_⟩)⟩)
 ·show 0≤b.rd+1
  have:=hs2.2.2.2.2.2;clear h2 key h hb c1 c2 c3 c4 hs;omega
 show b.rd+1≤4
 have:=hs2.2.2.2.2.2;clear h2 key h hb c1 c2 c3 c4 hs;omega
structure Ae (m m':Cl) (n:Nat):Prop where
 ZW: ∀ j,j≠n→m'.av j=m.av j
 up:(m'.av n).up=(m.av n).up
 mY:(m'.av n).inbox=(m.av n).inbox
 Ou:(m'.av n).turn=(m.av n).turn
 nY:(∀ q,q<4→au ((m.av n).bs q)=0)→ ∀ q,q<4→au ((m'.av n).bs q)=0
 fly:m'.fly.length≤m.fly.length+1
 aH:m'.aH.length≤m.aH.length+1
section
variable {m m':Cl} {n:Nat} {l:jI}
theorem yc (h:m'.av=m.av) (h1:m'.fly.length≤m.fly.length+1) (h2:m'.aH.length≤m.aH.length+1):Ae m m' n:=
 ⟨fun j _=>by rw [h],by rw [h],by rw [h],by rw [h],fun hb=>by rw [h];exact hb,h1,h2⟩
theorem ou:Ae m m n:=yc rfl (Nat.le_succ _) (Nat.le_succ _)
theorem Bo {X:Nd} (h:m'.av=upd m.av n X) (h0:X.up=(m.av n).up) (h3:X.inbox=(m.av n).inbox) (h4:X.turn=(m.av n).turn) (h5:(∀ q,q<4→au ((m.av n).bs q)=0)→ ∀ q,q<4→au (X.bs q)=0) (h1:m'.fly.length≤m.fly.length+1) (h2:m'.aH.length≤m.aH.length+1):Ae m m' n:=by
 have e:m'.av n=X:=by rw [h];exact if_pos rfl
 exact ⟨fun j hj=>by rw [h];exact if_neg hj,by rw [e,h0],by rw [e,h3],by rw [e,h4],fun hb=>by rw [e];exact h5 hb,h1,h2⟩
theorem Ov {q:Nat} {op:Ev} {num:Int} {a:iK}:Ae m (m.done n q op num a) n:=by
 unfold Cl.done
 split
 ·exact yc rfl (by simp [Cl.send,Cl.tell]) (by simp [Cl.send,Cl.tell])
 exact yc rfl (by simp [Cl.send]) (by simp [Cl.send])
theorem Ow {q:Nat}:Ae m (m.have_ n q) n:=yc rfl (by simp [Cl.have_,Cl.send]) (by simp [Cl.have_,Cl.send])
theorem abo {q:Nat} {a:Int}:Ae m (m.part n q a) n:=by
 unfold Cl.part
 split
 ·exact ou
 exact yc rfl (by simp [Cl.send]) (by simp [Cl.send])
theorem Kl {X x:Nd} {rs:List dx} (h:X.write rs=some x):x.up=X.up∧x.inbox=X.inbox∧x.turn=X.turn∧x.bs=X.bs:=by
 unfold Nd.write at h;rw [Option.map_eq_some_iff] at h;obtain ⟨d,_,rfl⟩:=h;exact ⟨rfl,rfl,rfl,rfl⟩
theorem Cc {x:Nd} {p:gX} {rs:List dx} (h:(m.av n).write rs=some x):Ae m (m.put n { x with pend:=some p }) n:=by
 obtain ⟨h1,h2,h3,h4⟩:=Kl h;exact Bo rfl h1 h2 h3 (fun hb q hq=>by show au (x.bs q)=0;rw [h4];exact hb q hq) (Nat.le_succ _) (Nat.le_succ _)
theorem Ae.akZ {m2:Cl} (h:Ae m m2 n) (h1:m2.fly.length≤m.fly.length) (h2:m2.aH.length≤m.aH.length) (h3:Ae m2 m' n):Ae m m' n:=
 ⟨fun j hj=>(h3.ZW j hj).trans (h.ZW j hj),h3.up.trans h.up,h3.mY.trans h.mY,h3.Ou.trans h.Ou,fun hb=>h3.nY (h.nY hb),by have:=h3.fly;omega,by have:=h3.aH;omega⟩
theorem wO (hq:l.q<4):Ae m (m.handle n l) n:=by
 unfold Cl.handle
 split
 ·unfold Cl.serve
  split
  ·exact Ov
  split
  ·exact Ov
  exact Cc (by assumption)
 split
 ·unfold Cl.offered
  split
  ·exact ou
  split
  ·exact Ow
  split
  ·exact ou
  exact Cc (by assumption)
 split
 ·unfold Cl.caught
  split
  ·exact ou
  split
  ·exact ou
  rename_i h1 h2
  split
  ·refine Ae.akZ (m2:=m.dS n l.q (bF ((m.av n).bs l.q) l.at_).1) (Bo rfl rfl rfl rfl (fun hb q hq'=>?_) (Nat.le_succ _) (Nat.le_succ _)) (Nat.le_refl _) (Nat.le_refl _) abo
   show au (upd (m.av n).bs l.q (bF ((m.av n).bs l.q) l.at_).1 q)=0
   unfold upd
   split
   ·exact Er (hb _ hq) (by omega)
   exact hb q hq'
  split
  ·exact ou
  exact Cc (by assumption)
 split
 ·unfold Cl.got
  split
  ·exact ou
  split
  ·exact Ow
  split
  ·exact ou
  split
  ·exact ou
  exact Cc (by assumption)
 unfold Cl.learnt
 split
 ·exact Bo rfl rfl rfl rfl (fun hb=>hb) (Nat.le_succ _) (Nat.le_succ _)
 split
 ·exact Bo rfl rfl rfl rfl (fun hb=>hb) (Nat.le_succ _) (Nat.le_succ _)
 rename_i x h
 obtain ⟨h1,h2,h3,h4⟩:=Kl h;exact Bo rfl h1 h2 h3 (fun hb q hq=>by show au (x.bs q)=0;rw [h4];exact hb q hq) (Nat.le_succ _) (Nat.le_succ _)
end
end Go.Proofs.YtbffmhpkenoogaaGreatDoor
namespace Go.Proofs.YtbffmhpkenoogaaGreatDoor
open Go.ChangeShapes Go.WideShapes Go.ChangeAt Go.RowKit
structure LX where
 l:jI
 A:Option Addr
 c:Nat
def abp (l:jI) (s:Value):List Value:=[.int .i64 l.kd,.int .i64 l.fr,.int .i64 l.tg,.int .i64 ((l.q:Nat):Int),.int .i64 l.ep,.int .i64 l.at_,.int .i64 l.nd,.int .i64 l.op.kind,.int .i64 l.op.producer,.int .i64 l.op.id,.int .i64 l.op.body,.int .i64 l.op.aL,.int .i64 l.op.hno,s,.bool l.last,.int .i64 l.num,
 .int .i64 l.aM.num,.int .i64 l.aM.ans.code,.int .i64 l.aM.ans.gG,.int .i64 l.aM.ans.hno,.int .i64 l.aM.ans.body,.int .i64 l.aM.pl.node,.int .i64 l.aM.pl.epoch]
def LX.cells (x:LX):List Value:=abp x.l (.slice x.A x.l.evs.length x.c)
def LX.row (x:LX):Array Value:=x.cells.toArray
def fK.cells (t:fK):List Value:=[.int .i64 t.num,.int .i64 t.ans.code,.int .i64 t.ans.gG,.int .i64 t.ans.hno,.int .i64 t.ans.body,.int .i64 t.pl.node,.int .i64 t.pl.epoch]
def eT.cells (s:eT):List Value:=[.int .i64 ((s.nd:Nat):Int),.int .i64 ((s.q:Nat):Int),.int .i64 s.ep,.int .i64 s.op.kind,.int .i64 s.op.producer,.int .i64 s.op.id,.int .i64 s.op.body,.int .i64 s.op.aL,.int .i64 s.op.hno,.int .i64 s.ans.code,.int .i64 s.ans.gG,.int .i64 s.ans.hno,.int .i64 s.ans.body,.int .i64 s.num]
theorem Bp (x:LX): ∀ u∈x.cells,u.oneCell'=true:=bZ rfl
theorem afp (l:List LX): ∀ u∈l.flatMap LX.cells,u.oneCell'=true:=by
 intro u hu;rw [List.mem_flatMap] at hu;obtain ⟨z,_,hz⟩:=hu;exact Bp z u hz
def aU (me:Nat) (up:Bool) (tv:Value) (syn:Int) (bv:Value) (H:Nat→Pl) (U:Nat→Bool) (iv pv:Value) (turn:Nat):Array Value:=
 #[.int .i64 ((me:Nat):Int),.bool up,tv,.int .i64 syn,bv,.int .i64 (H 0).node,.int .i64 (H 0).epoch,.int .i64 (H 1).node,.int .i64 (H 1).epoch,.int .i64 (H 2).node,.int .i64 (H 2).epoch,.int .i64 (H 3).node,.int .i64 (H 3).epoch,.bool (U 0),.bool (U 1),.bool (U 2),.bool (U 3),iv,pv,.int .i64 ((turn:Nat):Int)]
def MC (p:Int×Int):List Value:=[.int .i64 p.1,.int .i64 p.2]
def ME (sh:Nat→Nat→Int×Int) (n:Nat):List Value:=MC (sh n 0)++(MC (sh n 1)++(MC (sh n 2)++MC (sh n 3)))
def afq (sh:Nat→Nat→Int×Int):List Value:=ME sh 0++(ME sh 1++(ME sh 2++(ME sh 3++ME sh 4)))
def Km (nv:Value) (d:Dir) (fv:Value) (sh:Nat→Nat→Int×Int) (sv tv:Value) (calls:Nat):List Value:=
 nv::(d.cells++(fv::(afq sh++[.int .i64 0,.bool false,.bool false,.bool false,.bool false,.bool false,.int .i64 0,.int .i64 0,.int .i64 0,.int .i64 0,.int .i64 0,.int .i64 0,.int .i64 0,.int .i64 0,.slice none 0 0,sv,tv,.int .i64 ((calls:Nat):Int)])))
def bL (nv:Value) (d:Dir) (fv:Value) (sh:Nat→Nat→Int×Int) (sv tv:Value) (calls:Nat):Array Value:=(Km nv d fv sh sv tv calls).toArray
section
variable {me turn calls k:Nat} {up:Bool} {tv bv iv pv nv fv sv uv x:Value} {syn:Int} {H:Nat→Pl} {U:Nat→Bool} {d:Dir} {sh:Nat→Nat→Int×Int}
theorem xP:(bL nv d fv sh sv tv calls)[0]? =some nv:=rfl
theorem Ni:(bL nv d fv sh sv tv calls)[9]? =some fv:=rfl
theorem ap1:(bL nv d fv sh sv tv calls)[65]? =some sv:=rfl
theorem ap2:(bL nv d fv sh sv tv calls)[66]? =some tv:=rfl
theorem agJ:(bL nv d fv sh sv tv calls)[67]? =some (.int .i64 ((calls:Nat):Int)):=rfl
theorem EG {nv' fv' sv' tv':Value} {d':Dir} {sh':Nat→Nat→Int×Int} {calls' o:Nat} {vs:List Value} (h:o+vs.length≤68) (he:(Km nv d fv sh sv tv calls).take o++vs++(Km nv d fv sh sv tv calls).drop (o+vs.length)=Km nv' d' fv' sh' sv' tv' calls'):
  bX (bL nv d fv sh sv tv calls) o vs=bL nv' d' fv' sh' sv' tv' calls':=Array.ext' (by rw [fV _ _ _ h];exact he)
theorem ah9:bX (bL nv d fv sh sv tv calls) 9 [x]=bL nv d x sh sv tv calls:=EG (Nat.le_of_ble_eq_true rfl) rfl
theorem ap3:bX (bL nv d fv sh sv tv calls) 65 [x]=bL nv d fv sh x tv calls:=EG (Nat.le_of_ble_eq_true rfl) rfl
theorem ap4:bX (bL nv d fv sh sv tv calls) 66 [x]=bL nv d fv sh sv x calls:=EG (Nat.le_of_ble_eq_true rfl) rfl
theorem ap5 {c':Nat}:bX (bL nv d fv sh sv tv calls) 67 [.int .i64 ((c':Nat):Int)]=bL nv d fv sh sv tv c':=EG (Nat.le_of_ble_eq_true rfl) rfl
theorem aia {d':Dir}:bX (bL nv d fv sh sv tv calls) 1 d'.cells=bL nv d' fv sh sv tv calls:=EG (Nat.le_of_ble_eq_true rfl) rfl
theorem vN: ∀ (j:Nat) (u:Value),d.cells[j]? =some u→(bL nv d fv sh sv tv calls)[1+j]? =some u:=by
 intro j u h;have hj:j<8:=(List.getElem?_eq_some_iff.1 h).1;have:j=0∨j=1∨j=2∨j=3∨j=4∨j=5∨j=6∨j=7:=by omega
 rcases this with rfl | rfl | rfl | rfl | rfl | rfl | rfl | rfl<;>exact h
theorem ZY:(bL nv d fv sh sv tv calls).size=68:=rfl
theorem agK {n q:Nat} (hn:n<5) (hq:q<4) {a b:Int}:bX (bL nv d fv sh sv tv calls) (10+n*8+q*2) [.int .i64 a,.int .i64 b]=bL nv d fv (ni sh n q (a,b)) sv tv calls:=by
 have h1:n=0∨n=1∨n=2∨n=3∨n=4:=by omega
 have h2:q=0∨q=1∨q=2∨q=3:=by omega
 rcases h1 with rfl | rfl | rfl | rfl | rfl<;>rcases h2 with rfl | rfl | rfl | rfl<;>exact EG (Nat.le_of_ble_eq_true rfl) rfl
theorem ap6 {n q:Nat} (hn:n<5) (hq:q<4): ∀ (j:Nat) (u:Value),(MC (sh n q))[j]? =some u→(bL nv d fv sh sv tv calls)[10+n*8+q*2+j]? =some u:=by
 intro j u h;have hj:j<2:=(List.getElem?_eq_some_iff.1 h).1;have h0:j=0∨j=1:=by omega
 have h1:n=0∨n=1∨n=2∨n=3∨n=4:=by omega
 have h2:q=0∨q=1∨q=2∨q=3:=by omega
 rcases h1 with rfl | rfl | rfl | rfl | rfl<;>rcases h2 with rfl | rfl | rfl | rfl<;>rcases h0 with rfl | rfl<;>exact h
theorem Bq {q:Nat} (hq:q<4) {p:Pl}:bX (aU me up tv syn bv H U iv pv turn) (5+q*2) [.int .i64 p.node,.int .i64 p.epoch]=aU me up tv syn bv (upd H q p) U iv pv turn:=by
 have h2:q=0∨q=1∨q=2∨q=3:=by omega
 rcases h2 with rfl | rfl | rfl | rfl<;>rfl
theorem K4 {q:Nat} (hq:q<4):(aU me up tv syn bv H U iv pv turn)[5+q*2]? =some (.int .i64 (H q).node)∧(aU me up tv syn bv H U iv pv turn)[5+q*2+1]? =some (.int .i64 (H q).epoch):=by
 have h2:q=0∨q=1∨q=2∨q=3:=by omega
 rcases h2 with rfl | rfl | rfl | rfl<;>exact ⟨rfl,rfl⟩
theorem UZ {q:Nat} (hq:q<4) {v:Bool}:bX (aU me up tv syn bv H U iv pv turn) (13+q*1) [.bool v]=aU me up tv syn bv H (upd U q v) iv pv turn:=by
 have h2:q=0∨q=1∨q=2∨q=3:=by omega
 rcases h2 with rfl | rfl | rfl | rfl<;>rfl
theorem afr {q:Nat} (hq:q<4):(aU me up tv syn bv H U iv pv turn)[13+q*1]? =some (.bool (U q)):=by
 have h2:q=0∨q=1∨q=2∨q=3:=by omega
 rcases h2 with rfl | rfl | rfl | rfl<;>rfl
end
def Ro (L:List Fact) (s:Nat) (A:Option Addr) (n:Nat) (xs:List Value):Prop:= ∀ B w,(∀ f∈L,f.holds B w)→Rd w w.heap.size s A n xs
section
variable {L L':List Fact} {s n:Nat} {A:Option Addr} {xs:List Value} {B:Nat} {w w0:World} {fs:List Fact}
theorem Ro.mono (h:Ro L s A n xs) (hl: ∀ f∈L,f∈L'):Ro L' s A n xs:=fun B w hw=>h B w fun f hf=>hw f (hl f hf)
theorem Ro.rd (h:Ro L s A n xs) (S:St B w0 w fs) (hl: ∀ f∈L,f∈fs):Rd w w.heap.size s A n xs:=h B w fun f hf=>S.has (hl f hf)
theorem Ro.none_:Ro L s none 0 []:=fun _ _ _=>Rd.none_
theorem Ro.bG (h:Fact.bG s A n xs∈L):Ro L s A n xs:=fun _ _ hw=>(hw _ h).1
theorem Ro.own {e:TypeId} {c:Nat} (h:Fact.own e s (.slice A n c) n xs∈L):Ro L s A n xs:=fun _ _ hw=>Rd.rF (hw _ h)
end
structure NX where
 bb:Nat
 tA:Option Addr
 tc:Nat
 bx:List BX
 iA:Option Addr
 ic:Nat
 ix:List LX
 pv:Value
structure CX where
 nx:Nat→NX
 fA:Option Addr
 fc:Nat
 fx:List LX
 sA:Option Addr
 sc:Nat
 tA:Option Addr
 tc:Nat
 nA:Option Addr
 nc:Nat
 L:List Fact
structure CK where
 wb:Nat
 nb:Nat→Nat
def fI (b:Nat):Value:= .pointer (some ⟨b,0,none⟩)
def afs (n:Nat) (X:Nd) (x:NX):Array Value:=aU n X.up (.slice x.tA X.data.length x.tc) X.syn (.slice (some ⟨x.bb,0,none⟩) 4 4) X.hints X.sure (.slice x.iA x.ix.length x.ic) x.pv X.turn
def ap7 (R:CX) (m:Cl):Array Value:=bL (.slice R.nA 5 R.nc) m.off (.slice R.fA R.fx.length R.fc) m.shown (.slice R.sA m.aH.length R.sc) (.slice R.tA m.aM.length R.tc) m.calls
def AL (kn n:Nat) (X:Nd) (x:NX):List Fact:=
 [.blk kn (afs n X x) 129,.own 42 6 (.slice (some ⟨x.bb,0,none⟩) 4 4) 4 (x.bx.flatMap BX.cells),.off 169 23 x.iA x.ix.length x.ic (x.ix.flatMap LX.cells)]
def jD (K:CK) (n:Nat) (X:Nd) (x:NX):List Fact:=AL (K.nb n) n X x
def AO (kw:Nat) (R:CX) (m:Cl):List Fact:=
 [.blk kw (ap7 R m) 121,.own 169 23 (.slice R.fA R.fx.length R.fc) R.fx.length (R.fx.flatMap LX.cells),.own 85 14 (.slice R.sA m.aH.length R.sc) m.aH.length (m.aH.flatMap eT.cells),.own 81 7 (.slice R.tA m.aM.length R.tc) m.aM.length (m.aM.flatMap fK.cells)]
def sO (K:CK) (R:CX) (m:Cl):List Fact:=AO K.wb R m
def kK (K:CK) (R:CX) (m:Cl) (n:Nat):List Fact:=((List.range 5).filter (· ≠n)).flatMap fun j=>jD K j (m.av j) (R.nx j)
def eZ (K:CK) (R:CX) (m:Cl) (fs:List Fact) (n:Nat):List Fact:=fs++(kK K R m n++R.L)
def j6 (K:CK) (R:CX) (m:Cl):List Fact:=sO K R m++(((List.range 5).flatMap fun j=>jD K j (m.av j) (R.nx j))++R.L)
def DF (L:List Fact) (A:Option Addr) (c:Nat) (l:List Ev):Prop:=Ro L 6 A l.length (bg l)∧l.length≤c
def MF (L:List Fact) (x:LX):Prop:=DF L x.A x.c x.l.evs
def zi (L:List Fact) (y:BX):Prop:=DF L y.A y.c y.b.evs
theorem DF.mono {L L':List Fact} {A:Option Addr} {c:Nat} {l:List Ev} (h:DF L A c l) (hl: ∀ f∈L,f∈L'):DF L' A c l:=⟨h.1.mono hl,h.2⟩
def nU (kn kw:Nat) (L:List Fact):Option gX→Value→Prop
 | none,v=>v= .nilFunc
 | some (.serve q evs op num a),v=> ∃ b1 b2 b3 b4 b5 b6 b7 y x,v= .func (.func 153) #[] #[fI b1,fI b2,fI b3,fI b4,fI b5]∧ .blk b1 (BX.cells y).toArray 42∈L∧y.b.evs=evs∧zi L y∧ .blk b2 #[fI kn] 122∈L∧ .blk b3 #[.int .i64 ((q:Nat):Int)] 3∈L∧
   .blk b4 #[.func (.func 152) #[] #[fI b6,fI b2,fI b3,fI b7]] 258∈L∧ .blk b5 (iK.cells a).toArray 79∈L∧ .blk b6 (LX.row x) 169∈L∧x.l.op=op∧x.l.num=num∧ .blk b7 #[fI kw] 111∈L
 | some (.begun q b),v=> ∃ b1 b2 b3 b4 y,v= .func (.func 156) #[] #[fI b1,fI b2,fI b3,fI b4]∧ .blk b1 (BX.cells y).toArray 42∈L∧y.b=b∧zi L y∧ .blk b2 #[fI kn] 122∈L∧ .blk b3 #[.int .i64 ((q:Nat):Int)] 3∈L∧ .blk b4 #[fI kw] 111∈L
 | some (.got q b last),v=> ∃ b1 b2 b3 b4 b5 y x,v= .func (.func 161) #[] #[fI b1,fI b2,fI b3,fI b4,fI b5]∧ .blk b1 (BX.cells y).toArray 42∈L∧y.b=b∧zi L y∧ .blk b2 #[fI kn] 122∈L∧ .blk b3 #[.int .i64 ((q:Nat):Int)] 3∈L∧
   .blk b4 (LX.row x) 169∈L∧x.l.last=last∧ .blk b5 #[fI kw] 111∈L
 | some (.kN q b at_),v=> ∃ b1 b2 b3 b4 b5 y x,v= .func (.func 159) #[] #[fI b1,fI b2,fI b3,fI b4,fI b5]∧ .blk b1 (BX.cells y).toArray 42∈L∧y.b=b∧zi L y∧ .blk b2 #[fI kn] 122∈L∧ .blk b3 #[.int .i64 ((q:Nat):Int)] 3∈L∧
   .blk b4 #[fI kw] 111∈L∧ .blk b5 (LX.row x) 169∈L∧x.l.at_=at_
 | some (.forget q b),v=> ∃ b1 b2 b3 y,v= .func (.func 163) #[] #[fI b1,fI b2,fI b3]∧ .blk b1 (BX.cells y).toArray 42∈L∧y.b=b∧zi L y∧ .blk b2 #[fI kn] 122∈L∧ .blk b3 #[.int .i64 ((q:Nat):Int)] 3∈L
def avp (K:CK) (L:List Fact) (n:Nat) (p:Option gX) (v:Value):Prop:=nU (K.nb n) K.wb L p v
structure dz (K:CK) (L:List Fact) (n:Nat) (X:Nd) (x:NX):Prop where
 MG:x.bx.map BX.b=vB X.bs
 Ox: ∀ y∈x.bx,zi L y
 vO:Ro L 1 x.tA X.data.length (byteCells X.data)
 Xm:x.ix.map LX.l=X.inbox
 Xn: ∀ y∈x.ix,MF L y
 zN:avp K L n X.pend x.pv
structure Good (K:CK) (R:CX) (m:Cl) (H:List LX):Prop where
 fly:R.fx.map LX.l=m.fly
 Z0: ∀ x∈R.fx,MF R.L x
 lC: ∀ n,n<5→dz K R.L n (m.av n) (R.nx n)
 arr:Ro R.L 1 R.nA 5 ((List.range 5).map fun j=>fI (K.nb j))
 hld: ∀ x∈H,MF R.L x
def Wd (K:CK) (B:Nat) (w0 w:World) (fs:List Fact) (m:Cl) (H:List LX):Prop:= ∃ R,Good K R m H∧St B w0 w (fs++j6 K R m)
section
variable {K:CK} {B n:Nat} {w0 w w':World} {fs N:List Fact} {m m':Cl} {H H':List LX} {R R':CX}
theorem nU.mono {kn kw:Nat} {L L':List Fact} {p:Option gX} {v:Value} (h:nU kn kw L p v) (hl: ∀ f∈L,f∈L'):nU kn kw L' p v:=by
 match p,h with
 | none,h=>exact h
 | some (.serve q evs op num a),⟨b1,b2,b3,b4,b5,b6,b7,y,x,h1,h2,h3,h4,h5,h6,h7,h8,h9,h10,h11,h12⟩=>
  exact ⟨b1,b2,b3,b4,b5,b6,b7,y,x,h1,hl _ h2,h3,DF.mono h4 hl,hl _ h5,hl _ h6,hl _ h7,hl _ h8,hl _ h9,h10,h11,hl _ h12⟩
 | some (.begun q b),⟨b1,b2,b3,b4,y,h1,h2,h3,h4,h5,h6,h7⟩=>exact ⟨b1,b2,b3,b4,y,h1,hl _ h2,h3,DF.mono h4 hl,hl _ h5,hl _ h6,hl _ h7⟩
 | some (.got q b last),⟨b1,b2,b3,b4,b5,y,x,h1,h2,h3,h4,h5,h6,h7,h8,h9⟩=>exact ⟨b1,b2,b3,b4,b5,y,x,h1,hl _ h2,h3,DF.mono h4 hl,hl _ h5,hl _ h6,hl _ h7,h8,hl _ h9⟩
 | some (.kN q b at_),⟨b1,b2,b3,b4,b5,y,x,h1,h2,h3,h4,h5,h6,h7,h8,h9⟩=>exact ⟨b1,b2,b3,b4,b5,y,x,h1,hl _ h2,h3,DF.mono h4 hl,hl _ h5,hl _ h6,hl _ h7,hl _ h8,h9⟩
 | some (.forget q b),⟨b1,b2,b3,y,h1,h2,h3,h4,h5,h6⟩=>exact ⟨b1,b2,b3,y,h1,hl _ h2,h3,DF.mono h4 hl,hl _ h5,hl _ h6⟩
theorem dz.mono {L L':List Fact} {X:Nd} {x:NX} (h:dz K L n X x) (hl: ∀ f∈L,f∈L'):dz K L' n X x:=
 ⟨h.MG,fun y hy=>(h.Ox y hy).mono hl,h.vO.mono hl,h.Xm,fun y hy=>(h.Xn y hy).mono hl,nU.mono h.zN hl⟩
theorem tL {α:Type} (f:Nat→List α) (hn:n<5):((List.range 5).flatMap f).Perm (f n++((List.range 5).filter (· ≠n)).flatMap f):=by
 have h:n=0∨n=1∨n=2∨n=3∨n=4:=by omega
 have key: ∀ l:List Nat,(List.range 5).Perm (n::l)→((List.range 5).flatMap f).Perm (f n++l.flatMap f):=fun l hl=>by
  have:=hl.flatMap_right f;rwa [List.flatMap_cons] at this
 refine key _ ?_
 rcases h with rfl | rfl | rfl | rfl | rfl<;>decide
open Classical in
theorem Wd.open (h:Wd K B w0 w fs m H) (hn:n<5): ∃ R,Good K R m H∧St B w0 w (jD K n (m.av n) (R.nx n)++(sO K R m++eZ K R m fs n)):=by
 obtain ⟨R,hG,S⟩:=h;refine ⟨R,hG,S.perm (List.perm_iff_count.2 fun a=>?_)⟩;have h1:=List.perm_iff_count.1 (tL (fun j=>jD K j (m.av j) (R.nx j)) hn) a;unfold j6 eZ kK;simp only [List.count_append] at h1⊢;omega
theorem Xo (hs: ∀ j,j<5→j≠n→m'.av j=m.av j∧R'.nx j=R.nx j):kK K R' m' n=kK K R m n:=by
 unfold kK;rw [List.flatMap_def,List.flatMap_def]
 congr 1
 refine List.map_congr_left fun j hj=>?_
 rw [List.mem_filter,List.mem_range] at hj;obtain ⟨h1,h2⟩:=hs j hj.1 (by simpa using hj.2);rw [h1,h2]
open Classical in
theorem Wd.close {Ls:List Fact} (G:Good K R' m' H') (S:St B w0 w' (jD K n (m'.av n) (R'.nx n)++(sO K R' m'++(Ls++(eZ K R m fs n++N))))) (hn:n<5) (hL:R'.L=R.L++(N++Ls)) (hs: ∀ j,j<5→j≠n→m'.av j=m.av j∧R'.nx j=R.nx j):Wd K B w0 w' fs m' H':=by
 refine ⟨R',G,S.perm (List.perm_iff_count.2 fun a=>?_)⟩;have h1:=List.perm_iff_count.1 (tL (fun j=>jD K j (m'.av j) (R'.nx j)) hn) a;unfold eZ j6;rw [hL,←Xo hs];unfold kK;simp only [List.count_append] at h1⊢;omega
theorem memT {L gs fs:List Fact} (k:Nat) (h:gs.drop k=fs) (hL: ∀ f∈L,f∈fs): ∀ f∈L,f∈gs:=fun f hf=>List.mem_of_mem_drop (h▸hL f hf)
theorem Rq {L fs N:List Fact} (hL: ∀ f∈L,f∈fs): ∀ f∈L++N,f∈fs++N:=fun f hf=>(List.mem_append.1 hf).elim (fun h=>List.mem_append_left _ (hL f h)) (fun h=>List.mem_append_right _ h)
theorem dG {fs:List Fact}: ∀ f∈fs,f∈fs:=fun _ h=>h
theorem Z4 {L N:List Fact} {x:Fact}:x∈L++(N++[x]):=by simp
theorem St.toEnd {f:Fact} (i:Nat) (S:St B w0 w fs) (hi:fs[i]? =some f):St B w0 w (fs.eraseIdx i++[f]):=(S.bring i hi).perm (List.perm_append_comm (l₁:=[f]) (l₂:=fs.eraseIdx i))
theorem St.MH {a b c d e f g:Fact} (S:St B w0 w (a::b::c::d::e::f::g::(fs++N))):St B w0 w (a::b::c::d::e::f::g::fs):=
 S.sub (((((((List.sublist_append_left fs N).cons_cons g).cons_cons f).cons_cons e).cons_cons d).cons_cons c).cons_cons b |>.cons_cons a)
theorem Ro.blk {L:List Fact} {b n s:Nat} {row:Array Value} {t:TypeId} {xs:List Value} (h:Fact.blk b row t∈L) (hx:row.toList=xs) (hl:xs.length=n*s):Ro L s (some ⟨b,0,none⟩) n xs:=fun _ _ hw=>
 ⟨hl,fun _=>⟨b,0,rfl,(hw _ h).2.lt,fun j u hu=>by
  rw [Nat.zero_add];exact (hw _ h).2.cell (by rw [←hx] at hu;simpa using hu)⟩⟩
end
end Go.Proofs.YtbffmhpkenoogaaGreatDoor
namespace Go.Proofs.YtbffmhpkenoogaaGreatDoor
open Go.ChangeShapes Go.WideShapes Go.RowKit
theorem Rs {x:LX}: ∀ (j:Nat) (u:Value),[Value.int .i64 x.l.op.kind,iV x.l.op.producer,iV x.l.op.id,iV x.l.op.body,iV x.l.op.aL,iV x.l.op.hno][j]? =some u→(LX.row x)[7+j]? =some u:=by
 intro j u h;have hj:j<6:=(List.getElem?_eq_some_iff.1 h).1;have:j=0∨j=1∨j=2∨j=3∨j=4∨j=5:=by omega
 rcases this with rfl | rfl | rfl | rfl | rfl | rfl<;>exact h
theorem ak0 {x:LX}: ∀ (j:Nat) (u:Value),[Value.int .i64 x.l.aM.num,iV x.l.aM.ans.code,iV x.l.aM.ans.gG,iV x.l.aM.ans.hno,iV x.l.aM.ans.body,iV x.l.aM.pl.node,iV x.l.aM.pl.epoch][j]? =some u→(LX.row x)[16+j]? =some u:=by
 intro j u h;have hj:j<7:=(List.getElem?_eq_some_iff.1 h).1;have:j=0∨j=1∨j=2∨j=3∨j=4∨j=5∨j=6:=by omega
 rcases this with rfl | rfl | rfl | rfl | rfl | rfl | rfl<;>exact h
theorem qy {me turn:Nat} {up:Bool} {tv bv iv pv:Value} {syn:Int} {H:Nat→Pl} {U:Nat→Bool}: ∀ (j:Nat) (u:Value),[tv,iV syn][j]? =some u→(aU me up tv syn bv H U iv pv turn)[2+j]? =some u:=by
 intro j u h;have hj:j<2:=(List.getElem?_eq_some_iff.1 h).1;have:j=0∨j=1:=by omega
 rcases this with rfl | rfl<;>exact h
theorem um (d:Dir): ∀ u∈d.cells.toArray.toList,u.oneCell'=true:=bZ rfl
theorem aft {me turn q:Nat} {up:Bool} {tv bv iv pv:Value} {syn:Int} {H:Nat→Pl} {U:Nat→Bool} (hq:q<4): ∀ (j:Nat) (u:Value),[Value.int .i64 (H q).node,iV (H q).epoch][j]? =some u→(aU me up tv syn bv H U iv pv turn)[5+q*2+j]? =some u:=by
 intro j u h;have hj:j<2:=(List.getElem?_eq_some_iff.1 h).1;have:j=0∨j=1:=by omega
 rcases this with rfl | rfl
 ·rw [Nat.add_zero,(K4 hq).1];exact h
 rw [(K4 hq).2];exact h
theorem ak1 {bs:List BX} {q c:Nat} {y:BX} {A:Option Addr} {evs:List Ev} (hy:bs[q]? =some y):qC (bs.flatMap BX.cells) (0+q*6+5) [.slice A evs.length c]=(bs.set q ⟨{ y.b with evs:=evs },A,c⟩).flatMap BX.cells:=by
 obtain ⟨hl,he⟩:=List.getElem?_eq_some_iff.1 hy;rw [←oI (enc:=BX.cells) (sz:=6) (fun _=>rfl) ⟨{ y.b with evs:=evs },A,c⟩ q bs hl,Nat.zero_add];have hg: ∀ j u,(BX.cells y)[j]? =some u→(bs.flatMap BX.cells)[q*6+j]? =some u:=fun j u h=>bS (enc:=BX.cells) (sz:=6) (fun _=>rfl) hy h
 simp only [qC,BX.cells];have e: ∀ (l:List Value) (k:Nat) (u:Value),l[k]? =some u→l.set k u=l:=fun l k u h=>by
  obtain ⟨h1,h2⟩:=List.getElem?_eq_some_iff.1 h;subst h2;exact List.set_getElem_self h1
 rw [e _ (q*6) _ (hg 0 _ rfl),e _ (q*6+1) _ (hg 1 _ rfl),e _ (q*6+1+1) _ (hg 2 _ rfl),e _ (q*6+1+1+1) _ (hg 3 _ rfl),e _ (q*6+1+1+1+1) _ (hg 4 _ rfl)]
theorem iC (k:Int) (q:Nat) (y:BX) (w:World):
    Calls Tryz.prog 97 #[iV k,iV ((q:Nat):Int),.agg #[iV y.b.role,iV y.b.ep,iV y.b.fr,iV y.b.tg,iV y.b.rd,.slice y.A y.b.evs.length y.c]] w (fun e w'=>e= .returned (.agg (dx.cells (fq k q y.b.ep 0 aT)).toArray)∧Below w.heap.size w w'):=by
 have S:=St.start w;refine fE 12 Tryz.func97 ?_;refine cw [0,1,2] ?_;iterate 2 refine zQ ?_
 refine gD S ?_;intro b1 w2 S3;refine eU S3 uW ?_;intro b4 w5 S6;iterate 8 refine zQ ?_
 refine vv (v:= .agg #[iV k,iV ((q:Nat):Int),iV y.b.ep,iV 0,iV 0,iV 0,iV 0,iV 0,iV 0,iV 0]) gZ ?_;refine sa 0 S6 jG ?_;intro w7 S8;iterate 4 refine zQ ?_
 exact ⟨rfl,S8.low⟩
theorem fO {B kw calls fc sc tc:Nat} {fA sA tA:Option Addr} {nv:Value} {d:Dir} {sh:Nat→Nat→Int×Int} {fx:List LX} {aH:List eT} {tl:List fK} {w0 w:World} {fs:List Fact} {x:LX} (S:St B w0 w ((.blk kw (bL (nv) d (.slice fA fx.length fc) sh (.slice sA aH.length sc) (.slice tA tl.length tc) calls) 121)::(.own 169 23 (.slice fA fx.length fc) fx.length ((fx).flatMap LX.cells))::fs)) (hb:(fx.length+1)*200≤140737488355328):
    Calls Tryz.prog 69 #[pV kw 0,.agg (LX.row x)] w (fun e w'=>e= .returned (.tuple #[])∧ ∃ A' c' jl,jl=fx++[x]∧St B w0 w' ((.blk kw (bL (nv) d (.slice A' jl.length c') sh (.slice sA aH.length sc) (.slice tA tl.length tc) calls) 121)::(.own 169 23 (.slice A' jl.length c') jl.length ((jl).flatMap LX.cells))::fs)):=by
 refine fE 14 Tryz.func69 ?_;refine cw [0,1] ?_;iterate 2 refine zQ ?_
 refine gD S ?_;intro b1 w2 S3;iterate 2 refine zQ ?_
 have S4:=S3.drew;refine fG 11 8 S4 [2] ?_;iterate 4 refine iP ?_
 refine gk (v:= .slice fA fx.length fc) 4 rfl (St.del 2 S4) (fun _ Sx9=>(aj rfl rfl (aA Tryz.underlying115 rfl (St.cl 1 Sx9 rfl Ni)))) ?_;refine iP ?_;refine gW (m:=4) (r:=6) (by kernel_rfl) ?_;refine kS (i:=6) rfl rfl (V:=fun b=> .slice (aD b 0) 1 1) (row:=LX.row x) (t:=169) S4 (wn rfl) rfl rfl (aK (vs:=[(0,.agg (LX.row x))]) rfl ⟨rfl,rfl,trivial⟩ (by kernel_rfl)) ?_;intro b11 Qr qK;refine iP ?_;refine gW (m:=3) (r:=7) (by kernel_rfl) ?_;refine jW (i:=7) rfl rfl (news:=(LX.cells x)) (xs':=(fx++[x]).flatMap LX.cells) 3 qK (wn rfl) rfl rfl rfl rfl rfl rfl (St.iG (xs:=(LX.cells x)) 0 qK rfl rfl rfl) Tryz.underlying115 Uj rfl (by decide) (Bp _) (by simp only [maxLen];omega) (by omega) (jZ (enc:=LX.cells) rfl rfl) ?_;intro A14 c15 w16 hc18 aDe kT;refine iP ?_;refine eF (by kernel_rfl) rfl rfl rfl ?_;iterate 2 refine zQ ?_
 refine iU 2 kT zG ?_ (hs:=by exact ah9);intro ZH qP;refine zQ ?_;refine je ?_;refine bN (l':=[]) trivial (aY (rs:=[]) (vs:=[]) rfl trivial ?_);have ig:=qP.aR [1,0];refine ⟨rfl,A14,c15,fx++[x],rfl,?_⟩;rw [List.length_append];exact ig
theorem lX {B kn kw bb n turn calls dc ic fc sc tc:Nat} {up:Bool} {dA iA fA sA tA:Option Addr} {data:List UInt8} {syn:Int} {Hh:Nat→Pl} {Us:Nat→Bool} {pv nv:Value} {d:Dir} {sh:Nat→Nat→Int×Int} {bs:List BX} {ix fx:List LX} {aH:List eT} {tl:List fK} {w0 w:World} {fs:List Fact} {q:Nat} (hn:n<5) (hq:q<4) {y:BX} (hy:bs[q]? =some y) (e:Ev) (a:iK) (num:Int) (S:St B w0 w ((.blk kn (aU n up (.slice dA data.length dc) syn (.slice (aD bb 0) 4 4) Hh Us (.slice iA ix.length ic) (pv) turn) 129)::(.own 42 6 (.slice (aD bb 0) 4 4) 4 ((bs).flatMap BX.cells))::(.off 169 23 iA ix.length ic ((ix).flatMap LX.cells))::(.blk kw (bL (nv) d (.slice fA fx.length fc) sh (.slice sA aH.length sc) (.slice tA tl.length tc) calls) 121)::(.own 169 23 (.slice fA fx.length fc) fx.length ((fx).flatMap LX.cells))::(.own 85 14 (.slice sA aH.length sc) aH.length ((aH).flatMap eT.cells))::(.own 81 7 (.slice tA tl.length tc) tl.length ((tl).flatMap fK.cells))::fs)) (hb:(aH.length+1)*112≤140737488355328):
    Calls Tryz.prog 108 #[pV kw 0,pV kn 0,iV ((q:Nat):Int),.agg #[iV e.kind,iV e.producer,iV e.id,iV e.body,iV e.aL,iV e.hno],.agg #[iV a.code,iV a.gG,iV a.hno,iV a.body],iV num] w (fun e' w'=>e'= .returned (.tuple #[])∧ ∃ A' c' pK,pK=aH++[(⟨n,q,y.b.ep,e,a,num⟩:eT)]∧St B w0 w' ((.blk kn (aU n up (.slice dA data.length dc) syn (.slice (aD bb 0) 4 4) Hh Us (.slice iA ix.length ic) (pv) turn) 129)::(.own 42 6 (.slice (aD bb 0) 4 4) 4 ((bs).flatMap BX.cells))::(.off 169 23 iA ix.length ic ((ix).flatMap LX.cells))::(.blk kw (bL (nv) d (.slice fA fx.length fc) (ni sh n q (y.b.ep,(y.b.evs.length:Int))) (.slice A' pK.length c') (.slice tA tl.length tc) calls) 121)::(.own 169 23 (.slice fA fx.length fc) fx.length ((fx).flatMap LX.cells))::(.own 85 14 (.slice A' pK.length c') pK.length ((pK).flatMap eT.cells))::(.own 81 7 (.slice tA tl.length tc) tl.length ((tl).flatMap fK.cells))::fs)):=by
 have hlen:=(S.own 1 rfl).1;rw [gL (sz:=6) (fun _=>rfl)] at hlen;refine fE 68 Tryz.func108 ?_;refine cw [0,1,2,3,4,5] ?_;iterate 2 refine zQ ?_
 refine gD S ?_;intro b1 w2 S3;refine gD S3 ?_;intro b4 w5 S6;iterate 3 refine zQ ?_
 have S7:=S6.drew;refine fG 29 25 S7 [7] ?_;iterate 5 refine iP ?_
 refine gk (v:= .slice sA aH.length sc) 5 rfl (St.del 7 S7) (fun _ Na=>(aj rfl rfl (aA Tryz.underlying35 rfl (St.cl 5 Na rfl ap1)))) ?_;iterate 10 refine iP ?_
 refine gk 16 rfl (St.del 7 S7) (fun _ _=>gM q) ?_;refine iP ?_;refine gk (v:=iV y.b.ep) 18 rfl (St.del 7 S7) (fun _ ahQ=>(aj rfl rfl (aA Tryz.underlying3 rfl (Rd.Ug (i:=1) (St.ord 3 ahQ rfl) (bS (enc:=BX.cells) (sz:=6) (fun _=>rfl) hy rfl))))) ?_;iterate 3 refine iP ?_
 refine gk (v:= .agg #[iV ((n:Nat):Int),iV ((q:Nat):Int),iV y.b.ep,iV e.kind,iV e.producer,iV e.id,iV e.body,iV e.aL,iV e.hno,iV a.code,iV a.gG,iV a.hno,iV a.body,iV num]) 22 rfl (St.del 7 S7) (fun _ _=>gZ) ?_;refine gW (m:=5) (r:=23) (by kernel_rfl) ?_;refine kS (i:=23) rfl rfl (V:=fun b=> .slice (aD b 0) 1 1) (row:= #[iV ((n:Nat):Int),iV ((q:Nat):Int),iV y.b.ep,iV e.kind,iV e.producer,iV e.id,iV e.body,iV e.aL,iV e.hno,iV a.code,iV a.gG,iV a.hno,iV a.body,iV num]) (t:=85) S7 (wn rfl) rfl rfl (aK (vs:=[(0,.agg #[iV ((n:Nat):Int),iV ((q:Nat):Int),iV y.b.ep,iV e.kind,iV e.producer,iV e.id,iV e.body,iV e.aL,iV e.hno,iV a.code,iV a.gG,iV a.hno,iV a.body,iV num])]) rfl ⟨rfl,rfl,trivial⟩ (by kernel_rfl)) ?_;intro b31 w32 qY;refine iP ?_;refine gW (m:=4) (r:=24) (by kernel_rfl) ?_;refine jW (i:=24) rfl rfl (news:=[iV ((n:Nat):Int),iV ((q:Nat):Int),iV y.b.ep,iV e.kind,iV e.producer,iV e.id,iV e.body,iV e.aL,iV e.hno,iV a.code,iV a.gG,iV a.hno,iV a.body,iV num]) (xs':=(aH++[(⟨n,q,y.b.ep,e,a,num⟩:eT)]).flatMap eT.cells) 8 qY (wn rfl) rfl rfl rfl rfl rfl rfl (St.iG (xs:=[iV ((n:Nat):Int),iV ((q:Nat):Int),iV y.b.ep,iV e.kind,iV e.producer,iV e.id,iV e.body,iV e.aL,iV e.hno,iV a.code,iV a.gG,iV a.hno,iV a.body,iV num]) 0 qY rfl rfl rfl) Tryz.underlying35 ajP rfl (by decide) (bZ rfl) (by simp only [maxLen];omega) (by omega) (jZ (enc:=eT.cells) rfl rfl) ?_;intro A34 c35 w36 hc38 avq qN;refine iP ?_;refine eF (by kernel_rfl) rfl rfl rfl ?_;iterate 3 refine zQ ?_
 refine iU 6 qN af5 ?_ (hs:=by exact ap3);intro UH xU;refine zQ ?_;refine je ?_;refine zQ ?_;have tC:=xU.drew;refine aN 29 tC [6] ?_;iterate 11 refine aF ?_
 refine ak 11 rfl (St.del 6 tC) (fun _ _=>gM q) ?_;refine aF ?_;refine ak (v:=iV y.b.ep) 13 rfl (St.del 6 tC) (fun _ Xp=>(aj rfl rfl (aA Tryz.underlying3 rfl (Rd.Ug (i:=1) (St.ord 4 Xp rfl) (bS (enc:=BX.cells) (sz:=6) (fun _=>rfl) hy rfl))))) ?_;iterate 5 refine aF ?_
 refine ak 19 rfl (St.del 6 tC) (fun _ _=>gM q) ?_;refine aF ?_;refine ak (v:= .slice y.A y.b.evs.length y.c) 21 rfl (St.del 6 tC) (fun _ VP=>(aj rfl rfl (aA Tryz.underlying40 rfl (Rd.Ug (i:=5) (St.ord 4 VP rfl) (bS (enc:=BX.cells) (sz:=6) (fun _=>rfl) hy rfl))))) ?_;refine aF ?_;refine ak (v:= .agg #[iV y.b.ep,iV ((y.b.evs.length:Nat):Int)]) 23 rfl (St.del 6 tC) (fun _ _=>gZ) ?_;iterate 2 refine aF ?_
 refine ak (v:=pV kw (10+n*8)) 26 rfl (St.del 6 tC) (fun _ _=>(bP rfl rfl rfl (eu n Tryz.underlying119 JG rfl hn))) ?_;refine ak (v:=pV kw (10+n*8+q*2)) 27 rfl (St.del 6 tC) (fun _ _=>(bP rfl rfl rfl (eu q Tryz.underlying118 xD rfl hq))) ?_;refine aS 28 ?_;refine rY (i:=28) rfl rfl (cs:= #[iV y.b.ep,iV ((y.b.evs.length:Nat):Int)]) (row':=bL (nv) d (.slice fA fx.length fc) (ni sh n q (y.b.ep,((y.b.evs.length:Nat):Int))) (.slice A34 (aH.length+1) c35) (.slice tA tl.length tc) calls) (fs':=(_::_::_::_::_::_::(.blk kw (bL (nv) d (.slice fA fx.length fc) (ni sh n q (y.b.ep,((y.b.evs.length:Nat):Int))) (.slice A34 (aH.length+1) c35) (.slice tA tl.length tc) calls) 121)::_::_::_::fs)) 6 tC (wn rfl) rfl rfl rfl rfl rfl rfl xD rfl (bZ rfl) (by rw [ZY];omega) (agK hn hq (a:=y.b.ep) (b:=((y.b.evs.length:Nat):Int))) rfl ?_;intro w71 Cz;iterate 2 refine aF ?_
 refine bN (l':=[]) trivial (aY (rs:=[]) (vs:=[]) rfl trivial ?_);have qL:=Cz.aR [2,1,0];refine ⟨rfl,A34,c35,aH++[(⟨n,q,y.b.ep,e,a,num⟩:eT)],rfl,?_⟩;rw [List.length_append];exact qL
theorem wP {B kn kw bb n turn calls dc ic fc sc tc:Nat} {up:Bool} {dA iA fA sA tA:Option Addr} {data:List UInt8} {syn:Int} {Hh:Nat→Pl} {Us:Nat→Bool} {pv nv:Value} {d:Dir} {sh:Nat→Nat→Int×Int} {bs:List BX} {ix fx:List LX} {aH:List eT} {tl:List fK} {w0 w:World} {fs:List Fact} {q:Nat} (hn:n<5) (hq:q<4) {y:BX} (hy:bs[q]? =some y) (S:St B w0 w ((.blk kn (aU n up (.slice dA data.length dc) syn (.slice (aD bb 0) 4 4) Hh Us (.slice iA ix.length ic) (pv) turn) 129)::(.own 42 6 (.slice (aD bb 0) 4 4) 4 ((bs).flatMap BX.cells))::(.off 169 23 iA ix.length ic ((ix).flatMap LX.cells))::(.blk kw (bL (nv) d (.slice fA fx.length fc) sh (.slice sA aH.length sc) (.slice tA tl.length tc) calls) 121)::(.own 169 23 (.slice fA fx.length fc) fx.length ((fx).flatMap LX.cells))::(.own 85 14 (.slice sA aH.length sc) aH.length ((aH).flatMap eT.cells))::(.own 81 7 (.slice tA tl.length tc) tl.length ((tl).flatMap fK.cells))::fs)) (hb:(fx.length+1)*200≤140737488355328):
    Calls Tryz.prog 155 #[pV kw 0,pV kn 0,iV ((q:Nat):Int)] w (fun e w'=>e= .returned (.tuple #[])∧ ∃ A' c' jl,jl=fx++[⟨yH n q y.b,none,0⟩]∧St B w0 w' ((.blk kn (aU n up (.slice dA data.length dc) syn (.slice (aD bb 0) 4 4) Hh Us (.slice iA ix.length ic) (pv) turn) 129)::(.own 42 6 (.slice (aD bb 0) 4 4) 4 ((bs).flatMap BX.cells))::(.off 169 23 iA ix.length ic ((ix).flatMap LX.cells))::(.blk kw (bL (nv) d (.slice A' jl.length c') sh (.slice sA aH.length sc) (.slice tA tl.length tc) calls) 121)::(.own 169 23 (.slice A' jl.length c') jl.length ((jl).flatMap LX.cells))::(.own 85 14 (.slice sA aH.length sc) aH.length ((aH).flatMap eT.cells))::(.own 81 7 (.slice tA tl.length tc) tl.length ((tl).flatMap fK.cells))::fs)):=by
 have hlen:=(S.own 1 rfl).1;rw [gL (sz:=6) (fun _=>rfl)] at hlen;refine fE 29 Tryz.func155 ?_;refine cw [0,1,2] ?_;iterate 7 refine zQ ?_
 refine vv (gM q) ?_;refine vv (aj rfl rfl (aG (cs:=BX.cells y) Tryz.underlying42 rfl aC rfl (Rd.uN (St.ord 1 S rfl) (fun _ _ h=>bS (enc:=BX.cells) (sz:=6) (fun _=>rfl) hy h)))) ?_;refine eU S dK ?_;intro b1 w2 S3;refine sa 0 S3 aC ?_;intro w4 S5;iterate 2 refine zQ ?_
 have S6:=S5.dM [5,5];have S7:=S6.drew;refine aN 15 S7 [1,0] ?_;iterate 13 refine aF ?_
 refine ak (v:= .agg #[iV 3,iV ((n:Nat):Int),iV y.b.fr,iV ((q:Nat):Int),iV y.b.ep,iV ((y.b.evs.length:Nat):Int),iV 0,iV 0,iV 0,iV 0,iV 0,iV 0,iV 0,.slice none 0 0,.bool false,iV 0,iV 0,iV 0,iV 0,iV 0,iV 0,iV 0,iV 0]) 13 rfl (S7.oh [1,0]) (fun _ _=>gZ) ?_;refine aS 14 ?_;refine iH 14 rfl wm (fO (x:=⟨yH n q y.b,none,0⟩) S7 (by omega)) ?_;rintro _ IQ ⟨rfl,A22,c23,avr,avs,qJ⟩;refine ⟨_,rfl,?_⟩;iterate 2 refine aF ?_
 refine bN (l':=[]) trivial (aY (rs:=[]) (vs:=[]) rfl trivial ?_);have qM:=qJ.aR [2];have sj:=qM.dM [6,6,3,3,6,6,6];exact ⟨rfl,A22,c23,avr,avs,sj⟩
noncomputable def sP (n q:Nat) (b:bO) (at_:Int) (fl:List jI):List jI:=if (iT b at_).2.2≠0 then fl else fl++[Rm n q b at_]
theorem avt {B:Nat} {w0 w:World} {a b c d e f g x:Fact} {fs:List Fact} (S:St B w0 w (a::b::c::d::e::f::g::x::fs)):St B w0 w (a::b::c::d::e::f::g::(fs++[x])):=
 S.perm (List.Perm.cons _ (List.Perm.cons _ (List.Perm.cons _ (List.Perm.cons _ (List.Perm.cons _ (List.Perm.cons _ (List.Perm.cons _ (List.perm_append_comm (l₁:=[x]) (l₂:=fs)))))))))
theorem Ho {B kn kw bb n turn calls dc ic fc sc tc:Nat} {up:Bool} {dA iA fA sA tA:Option Addr} {data:List UInt8} {syn:Int} {Hh:Nat→Pl} {Us:Nat→Bool} {pv nv:Value} {d:Dir} {sh:Nat→Nat→Int×Int} {bs:List BX} {ix fx:List LX} {aH:List eT} {tl:List fK} {w0 w:World} {fs:List Fact} {q:Nat} {L:List Fact} (hn:n<5) (hq:q<4) {y:BX} (hy:bs[q]? =some y) (at_:Int) (hev:zi L y) (hL: ∀ f∈L,f∈fs) (aib:y.b.evs.length*48≤reachBytes) (gG: -2≤y.b.ep∧y.b.ep≤2000000) (S:St B w0 w ((.blk kn (aU n up (.slice dA data.length dc) syn (.slice (aD bb 0) 4 4) Hh Us (.slice iA ix.length ic) (pv) turn) 129)::(.own 42 6 (.slice (aD bb 0) 4 4) 4 ((bs).flatMap BX.cells))::(.off 169 23 iA ix.length ic ((ix).flatMap LX.cells))::(.blk kw (bL (nv) d (.slice fA fx.length fc) sh (.slice sA aH.length sc) (.slice tA tl.length tc) calls) 121)::(.own 169 23 (.slice fA fx.length fc) fx.length ((fx).flatMap LX.cells))::(.own 85 14 (.slice sA aH.length sc) aH.length ((aH).flatMap eT.cells))::(.own 81 7 (.slice tA tl.length tc) tl.length ((tl).flatMap fK.cells))::fs)) (hb:(fx.length+1)*200≤140737488355328):
    Calls Tryz.prog 158 #[pV kw 0,pV kn 0,iV ((q:Nat):Int),iV at_] w (fun e w'=>e= .returned (.tuple #[])∧ ∃ (A':Option Addr) (c':Nat) (jl:List LX) (N:List Fact),jl.map LX.l=sP n q y.b at_ (fx.map LX.l)∧(∀ x∈jl,x∈fx∨MF N x)∧St B w0 w' ((.blk kn (aU n up (.slice dA data.length dc) syn (.slice (aD bb 0) 4 4) Hh Us (.slice iA ix.length ic) (pv) turn) 129)::(.own 42 6 (.slice (aD bb 0) 4 4) 4 ((bs).flatMap BX.cells))::(.off 169 23 iA ix.length ic ((ix).flatMap LX.cells))::(.blk kw (bL (nv) d (.slice A' jl.length c') sh (.slice sA aH.length sc) (.slice tA tl.length tc) calls) 121)::(.own 169 23 (.slice A' jl.length c') jl.length ((jl).flatMap LX.cells))::(.own 85 14 (.slice sA aH.length sc) aH.length ((aH).flatMap eT.cells))::(.own 81 7 (.slice tA tl.length tc) tl.length ((tl).flatMap fK.cells))::(fs++N))):=by
 have hlen:=(S.own 1 rfl).1;rw [gL (sz:=6) (fun _=>rfl)] at hlen;refine fE 44 Tryz.func158 ?_;refine cw [0,1,2,3] ?_;iterate 7 refine zQ ?_
 refine vv (gM q) ?_;refine vv (aj rfl rfl (aG (cs:=BX.cells y) Tryz.underlying42 rfl aC rfl (Rd.uN (St.ord 1 S rfl) (fun _ _ h=>bS (enc:=BX.cells) (sz:=6) (fun _=>rfl) hy h)))) ?_;refine eU S dK ?_;intro b1 w2 S3;refine sa 0 S3 aC ?_;intro w4 S5;iterate 6 refine zQ ?_
 refine dO aph ((show Calls _ _ _ _ (N7 _ (iT y.b at_)) from Ti y.b.role y.b.ep y.b.fr y.b.tg y.b.rd y.A y.c y.b.evs at_ hev.2 _ (hev.1.rd S5 (memT 8 rfl hL)) aib)) ?_;rintro _ w9 ⟨A6,c7,avu,rfl,T11⟩;refine ⟨_,rfl,?_⟩;have jE:=S5.ext T11 rfl;iterate 13 refine zQ ?_
 by_cases h12:(iT y.b at_).2.2=0
 ·iterate 6 refine zQ ?_
  have qK:=jE.dM [6,6];have jH:=qK.drew;refine aN 16 jH [1,0] ?_;iterate 10 refine aF ?_
  refine ak (v:=iV (y.b.ep+1)) 10 rfl (jH.oh [1,0]) (fun _ _=>jv) ?_;iterate 3 refine aF ?_
  refine ak (v:= .agg #[iV 4,iV ((n:Nat):Int),iV y.b.tg,iV ((q:Nat):Int),iV (y.b.ep+1),iV at_,iV 0,iV 0,iV 0,iV 0,iV 0,iV 0,iV 0,.slice A6 ((iT y.b at_).1.length) c7,.bool ((iT y.b at_).2.1),iV 0,iV 0,iV 0,iV 0,iV 0,iV 0,iV 0,iV 0]) 14 rfl (jH.oh [1,0]) (fun _ _=>gZ) ?_;refine aS 15 ?_;refine iH 15 rfl wm (fO (x:=⟨Rm n q y.b at_,A6,c7⟩) jH (by omega)) ?_;rintro _ WX ⟨rfl,mX,c31,avv,anA,kC⟩;refine ⟨_,rfl,?_⟩;iterate 2 refine aF ?_
  refine bN (l':=[]) trivial (aY (rs:=[]) (vs:=[]) rfl trivial ?_);have nL:=kC.aR [3];have qN:=nL.dM [7,7,3,3,7,7,7];refine ⟨rfl,mX,c31,avv,[.bG 6 A6 ((iT y.b at_).1.length) (((iT y.b at_).1).flatMap Ev.cells)],?_,?_,?_⟩
  · rw [sP,if_neg (fun h=>h h12),anA,List.map_append];rfl
  · intro x hx;rw [anA] at hx;rcases List.mem_append.1 hx with hx | hx;exact .inl hx;rw [List.mem_singleton] at hx;subst hx;exact .inr ⟨Ro.bG (List.mem_singleton.2 rfl),avu⟩
  · exact avt qN
 iterate 7 refine zQ ?_
 have oG:=jE.aR [1];have yV:=oG.dM [7,7,7,7,7,7,7];have vV:=yV.aR [7];refine ⟨rfl,fA,fc,fx,[],?_,?_,?_⟩
 · rw [sP,if_pos h12]
 · exact fun x hx=> .inl hx
 · rw [List.append_nil];exact vV
def avw (w:World) (r:List UInt8×Int×Int) (e:Ending) (w':World):Prop:=
 ∃ A c,e= .returned (.tuple #[.agg #[.slice A r.1.length c,iV r.2.1],iV r.2.2])∧St w.heap.size w w' [.bG 1 A r.1.length (byteCells r.1)]
theorem yI {P:Program} {f:FuncId} {vs:Array Value} {w:World} {r:List UInt8×Int×Int} (h:Calls P f vs w (qd w r)):Calls P f vs w (avw w r):=h.mono fun e w' ⟨A,c,h1,h2,h3,h4⟩=>
 ⟨A,c,h1,((St.start w).on h2).cons ⟨h3,h4⟩ fun k _ i g hg=>by simp at hg⟩
theorem Fq {d:List UInt8} {s:Int} {rs:List dx} {k:Nat} {r:dx} (hk:rs[k]? =some r):eD d s (rs.drop k)=if (iF d s r).2.2≠0 then none else eD (iF d s r).1 s (rs.drop (k+1)):=by rw [drop_cons hk,eD]
theorem Z5 {d:List UInt8} {s:Int} {r:dx} (h:(iF d s r).2.2=0):(iF d s r).2.1=s:=by rw [(Ka h).1]
theorem nV {B kn kw bb n turn calls dc ic fc sc tc:Nat} {up:Bool} {dA iA fA sA tA:Option Addr} {data:List UInt8} {syn:Int} {Hh:Nat→Pl} {Us:Nat→Bool} {pv nv:Value} {d:Dir} {sh:Nat→Nat→Int×Int} {bs:List BX} {ix fx:List LX} {aH:List eT} {tl:List fK} {w0 w:World} {fs:List Fact} {L:List Fact} {rs:List dx} {RA:Option Addr} {rc:Nat} (hrs:Ro fs 10 RA rs.length (rs.flatMap dx.cells)) (htp:Ro L 1 dA data.length (byteCells data)) (hL: ∀ f∈L,f∈fs) (hrl:rs.length≤1000000) (S:St B w0 w ((.blk kn (aU n up (.slice dA data.length dc) syn (.slice (aD bb 0) 4 4) Hh Us (.slice iA ix.length ic) (pv) turn) 129)::(.own 42 6 (.slice (aD bb 0) 4 4) 4 ((bs).flatMap BX.cells))::(.off 169 23 iA ix.length ic ((ix).flatMap LX.cells))::(.blk kw (bL (nv) d (.slice fA fx.length fc) sh (.slice sA aH.length sc) (.slice tA tl.length tc) calls) 121)::(.own 169 23 (.slice fA fx.length fc) fx.length ((fx).flatMap LX.cells))::(.own 85 14 (.slice sA aH.length sc) aH.length ((aH).flatMap eT.cells))::(.own 81 7 (.slice tA tl.length tc) tl.length ((tl).flatMap fK.cells))::fs)):
    Calls Tryz.prog 96 #[pV kn 0,.slice RA rs.length rc] w (fun e w'=>(eD data syn rs=none∧e= .returned (.bool false)∧St B w0 w' ((.blk kn (aU n up (.slice dA data.length dc) syn (.slice (aD bb 0) 4 4) Hh Us (.slice iA ix.length ic) (pv) turn) 129)::(.own 42 6 (.slice (aD bb 0) 4 4) 4 ((bs).flatMap BX.cells))::(.off 169 23 iA ix.length ic ((ix).flatMap LX.cells))::(.blk kw (bL (nv) d (.slice fA fx.length fc) sh (.slice sA aH.length sc) (.slice tA tl.length tc) calls) 121)::(.own 169 23 (.slice fA fx.length fc) fx.length ((fx).flatMap LX.cells))::(.own 85 14 (.slice sA aH.length sc) aH.length ((aH).flatMap eT.cells))::(.own 81 7 (.slice tA tl.length tc) tl.length ((tl).flatMap fK.cells))::fs))∨ ∃ d' A' c' N,eD data syn rs=some d'∧e= .returned (.bool true)∧Ro (L++N) 1 A' d'.length (byteCells d')∧St B w0 w' ((.blk kn (aU n up (.slice A' d'.length c') syn (.slice (aD bb 0) 4 4) Hh Us (.slice iA ix.length ic) (pv) turn) 129)::(.own 42 6 (.slice (aD bb 0) 4 4) 4 ((bs).flatMap BX.cells))::(.off 169 23 iA ix.length ic ((ix).flatMap LX.cells))::(.blk kw (bL (nv) d (.slice fA fx.length fc) sh (.slice sA aH.length sc) (.slice tA tl.length tc) calls) 121)::(.own 169 23 (.slice fA fx.length fc) fx.length ((fx).flatMap LX.cells))::(.own 85 14 (.slice sA aH.length sc) aH.length ((aH).flatMap eT.cells))::(.own 81 7 (.slice tA tl.length tc) tl.length ((tl).flatMap fK.cells))::(fs++N))):=by
 refine fE 34 Tryz.func96 ?_;refine cw [0,1] ?_;iterate 10 refine zQ ?_
 refine vv (aj rfl rfl (aG (cs:=[.slice dA data.length dc,iV syn]) Tryz.underlying125 rfl dX rfl (St.rg 0 S rfl (qy)))) ?_;refine eU S wZ ?_;intro b1 w2 S3;refine sa 0 S3 dX ?_;intro w4 S5;iterate 11 refine zQ ?_
 refine fH (X:=Nat×(Option Addr)×Nat×(List UInt8)×(List Fact)) (fun xv=>[(0,pV kn 0),(5,pV b1 0),(14,.slice RA rs.length rc),(15,iV ((rs.length:Nat):Int)),(16,iV ((xv.1:Nat):Int))]) (fun xv wr=>(xv.1≤rs.length)∧(eD data syn rs=eD xv.2.2.2.1 syn (rs.drop xv.1))∧(Ro (L++xv.2.2.2.2) 1 xv.2.1 xv.2.2.2.1.length (byteCells xv.2.2.2.1))∧St B w0 wr ((.blk b1 #[.slice xv.2.1 xv.2.2.2.1.length xv.2.2.1,iV syn] 125)::(.blk kn (aU n up (.slice dA data.length dc) syn (.slice (aD bb 0) 4 4) Hh Us (.slice iA ix.length ic) (pv) turn) 129)::(.own 42 6 (.slice (aD bb 0) 4 4) 4 ((bs).flatMap BX.cells))::(.off 169 23 iA ix.length ic ((ix).flatMap LX.cells))::(.blk kw (bL (nv) d (.slice fA fx.length fc) sh (.slice sA aH.length sc) (.slice tA tl.length tc) calls) 121)::(.own 169 23 (.slice fA fx.length fc) fx.length ((fx).flatMap LX.cells))::(.own 85 14 (.slice sA aH.length sc) aH.length ((aH).flatMap eT.cells))::(.own 81 7 (.slice tA tl.length tc) tl.length ((tl).flatMap fK.cells))::(fs++xv.2.2.2.2))) (fun xv=>rs.length-xv.1) (0,dA,dc,data,[]) ?_ ?_ ?_
 ·exact ⟨Nat.zero_le _,rfl,by rw [List.append_nil];exact htp,by rw [List.append_nil];exact S5⟩
 ·exact ⟨rfl,rfl,rfl,rfl,rfl,trivial⟩
 rintro ⟨k,A1,c1,d1,N1⟩ w6 ⟨yg,hi9,l8,S7⟩
 try dsimp only at yg hi9 l8 S7
 refine bq (l':=[(0,pV kn 0),(5,pV b1 0),(14,.slice RA rs.length rc),(15,iV ((rs.length:Nat):Int)),(16,iV ((k:Nat):Int))]) ⟨rfl,rfl,rfl,rfl,rfl,trivial⟩ (aW (aO ?_));by_cases h11:((k:Nat):Int)< ((rs.length:Nat):Int)
 ·iterate 10 refine zQ ?_
  obtain ⟨x,hx⟩: ∃ x,rs[k]? =some x:=⟨_,List.getElem?_eq_getElem (by omega)⟩;refine zQ ?_;obtain ⟨rb,ro,hra,_,hrc⟩:=(hrs.rd S7 (memT 8 rfl (fun f hf=>List.mem_append_left _ hf))).2 (by omega);subst hra;refine vv (gM k) ?_;refine vv (v:= .agg #[iV x.kind,iV x.queue,iV x.epoch,iV x.peer,iV x.ev.kind,iV x.ev.producer,iV x.ev.id,iV x.ev.body,iV x.ev.aL,iV x.ev.hno]) (aj rfl rfl (aG (cs:=dx.cells x) Tryz.underlying205 rfl jG rfl (fun j u hu=>by rw [Nat.add_assoc];exact hrc (k*10+j) u (bS (enc:=dx.cells) (sz:=10) (fun _=>rfl) hx hu)))) ?_;refine eU S7 uW ?_;intro b12 CG jH;refine stA 0 jH jG ?_;intro FR jR;iterate 6 refine zQ ?_
  refine dO aga (yI (Ea A1 d1.length c1 d1 syn x _ (l8.rd jR (memT 9 rfl (Rq hL))))) ?_;rintro _ zJ ⟨IW,c18,rfl,T21⟩;refine ⟨_,rfl,?_⟩;have kr:=jR.ext T21 rfl;iterate 3 refine zQ ?_
  refine eU kr wZ ?_;intro NR JZ jB;refine stA 0 jB dX ?_;intro w25 kD;iterate 7 refine zQ ?_
  by_cases h27:(iF d1 syn x).2.2=0
  ·have hsy:=Z5 h27;rw [hsy] at kD;iterate 8 refine zQ ?_
   refine stA 3 kD dX ?_;intro VN sj;iterate 4 refine zQ ?_
   refine vv (v:=iV ((k+1:Nat):Int)) jv ?_;iterate 2 refine zQ ?_
   have tF:=sj.aR [2,0];have mF:=tF.dM [8,8,8,8,8,8,8,8];have pE:St B w0 VN (_::_::_::_::_::_::_::_::((fs++N1)++[.bG 1 IW ((iF d1 syn x).1.length) (byteCells ((iF d1 syn x).1))])):=mF.toEnd 8 rfl;have qY:=pE;rw [List.append_assoc] at qY;refine bY (k+1,IW,c18,(iF d1 syn x).1,N1++[.bG 1 IW ((iF d1 syn x).1.length) (byteCells ((iF d1 syn x).1))]) ?_ ⟨rfl,rfl,rfl,rfl,rfl,trivial⟩ (by first | omega | (dsimp only;omega));exact ⟨(by dsimp only;omega),(by dsimp only;rw [hi9,Fq hx,if_neg (fun h=>h h27)]),(Ro.bG Z4),qY⟩
  iterate 17 refine zQ ?_
  have oD:=kD.aR [3,2,1,0];exact .inl ⟨by rw [hi9,Fq hx,if_pos h27],rfl,oD.MH⟩
 iterate 16 refine zQ ?_
 refine iU (row':=aU n up (.slice A1 d1.length c1) syn (.slice (aD bb 0) 4 4) Hh Us (.slice iA ix.length ic) (pv) turn) 1 S7 dX ?_;intro VO nL;refine zQ ?_;refine bN (l':=[]) trivial (gJ (aW (aO (va ?_))));iterate 4 refine zQ ?_
 have qN:=nL.aR [0];exact .inr ⟨d1,A1,c1,N1,by rw [hi9,List.drop_eq_nil_of_le (by omega)];rfl,rfl,l8,qN⟩
structure Uk (B:Nat) (w0:World):Prop where
 u0:w0.cell? ⟨1,0,none⟩=some (iV (-1))
 u1:w0.cell? ⟨1,1,none⟩=some (iV 0)
 ul:1<B
 n0:w0.cell? ⟨0,0,none⟩=some (iV (-1))
 n1:w0.cell? ⟨0,1,none⟩=some (iV 0)
 nl:0<B
theorem Uk.rg {B:Nat} {w0 w:World} {fs:List Fact} (h:Uk B w0) (S:St B w0 w fs):w.rangeAt 1 0 [iV (-1),iV 0]:=fun j u hu=>by
 have hj:j<2:=(List.getElem?_eq_some_iff.1 hu).1;have:j=0∨j=1:=by omega
 rcases this with rfl | rfl
 ·rw [←hu];exact (S.low.cell (p:=⟨1,0,none⟩) h.ul).trans h.u0
 rw [←hu];exact (S.low.cell (p:=⟨1,1,none⟩) h.ul).trans h.u1
theorem Uk.nw {B:Nat} {w0 w:World} {fs:List Fact} (h:Uk B w0) (S:St B w0 w fs):Nw w:=
 ⟨(S.low.cell (p:=⟨0,0,none⟩) h.nl).trans h.n0,(S.low.cell (p:=⟨0,1,none⟩) h.nl).trans h.n1,Nat.lt_of_lt_of_le h.nl S.base⟩
theorem qR {P:Program} {t:TypeId} {w:World} {b m:Nat} {row:Array Value} {tt:TypeId} {ds:TypeDesc} (hb:eP w b row tt) (hu:P.underlying t=some ds) (hd:ds.isRow=true) (hz:(P.info? t).map (·.size)=some m) (hm:row.size=m):(Instr.loadAt t (pV b 0)).run P w= .ok (.agg row) w:=by
 have:=aG (P:=P) (w:=w) (t:=t) (b:=b) (off:=0) (cs:=row.toList) hu hd hz (by simpa using hm) (fun j u h=>by rw [Nat.zero_add];exact hb.cell (by simpa using h));simpa using this
theorem AP {B kn kw bb n turn calls dc ic fc sc tc:Nat} {up:Bool} {dA iA fA sA tA:Option Addr} {data:List UInt8} {syn:Int} {Hh:Nat→Pl} {Us:Nat→Bool} {pv nv:Value} {d:Dir} {sh:Nat→Nat→Int×Int} {bs:List BX} {ix fx:List LX} {aH:List eT} {tl:List fK} {w0 w:World} {fs:List Fact} {q b6 b2 b3 b7:Nat} (hn:n<5) (hq:q<4) {y:BX} (hy:bs[q]? =some y) (x:LX) (a:iK) (S:St B w0 w ((.blk kn (aU n up (.slice dA data.length dc) syn (.slice (aD bb 0) 4 4) Hh Us (.slice iA ix.length ic) (pv) turn) 129)::(.own 42 6 (.slice (aD bb 0) 4 4) 4 ((bs).flatMap BX.cells))::(.off 169 23 iA ix.length ic ((ix).flatMap LX.cells))::(.blk kw (bL (nv) d (.slice fA fx.length fc) sh (.slice sA aH.length sc) (.slice tA tl.length tc) calls) 121)::(.own 169 23 (.slice fA fx.length fc) fx.length ((fx).flatMap LX.cells))::(.own 85 14 (.slice sA aH.length sc) aH.length ((aH).flatMap eT.cells))::(.own 81 7 (.slice tA tl.length tc) tl.length ((tl).flatMap fK.cells))::fs)) (Xq:Fact.blk b6 (LX.row x) 169∈fs) (hm2:Fact.blk b2 #[fI kn] 122∈fs) (uR:Fact.blk b3 #[iV ((q:Nat):Int)] 3∈fs) (UY:Fact.blk b7 #[fI kw] 111∈fs) (hu:Uk B w0) (hb:(fx.length+1)*200≤140737488355328) (hb2:(aH.length+1)*112≤140737488355328):
    Calls Tryz.prog 152 #[.agg #[iV a.code,iV a.gG,iV a.hno,iV a.body],pV b6 0,pV b2 0,pV b3 0,pV b7 0] w (fun e w'=>e= .returned (.tuple #[])∧(serves y.b→ ∃ Oy sc' pK xw xA jl,pK=aH++[(⟨n,q,y.b.ep,x.l.op,a,x.l.num⟩:eT)]∧jl=fx++[⟨nQ n x.l.num a nowhere,none,0⟩]∧St B w0 w' ((.blk kn (aU n up (.slice dA data.length dc) syn (.slice (aD bb 0) 4 4) Hh Us (.slice iA ix.length ic) (pv) turn) 129)::(.own 42 6 (.slice (aD bb 0) 4 4) 4 ((bs).flatMap BX.cells))::(.off 169 23 iA ix.length ic ((ix).flatMap LX.cells))::(.blk kw (bL (nv) d (.slice xw jl.length xA) (ni sh n q (y.b.ep,(y.b.evs.length:Int))) (.slice Oy pK.length sc') (.slice tA tl.length tc) calls) 121)::(.own 169 23 (.slice xw jl.length xA) jl.length ((jl).flatMap LX.cells))::(.own 85 14 (.slice Oy pK.length sc') pK.length ((pK).flatMap eT.cells))::(.own 81 7 (.slice tA tl.length tc) tl.length ((tl).flatMap fK.cells))::fs))∧(¬ serves y.b→ ∃ xw xA jl,jl=fx++[⟨nQ n x.l.num a (Hh q),none,0⟩]∧St B w0 w' ((.blk kn (aU n up (.slice dA data.length dc) syn (.slice (aD bb 0) 4 4) Hh Us (.slice iA ix.length ic) (pv) turn) 129)::(.own 42 6 (.slice (aD bb 0) 4 4) 4 ((bs).flatMap BX.cells))::(.off 169 23 iA ix.length ic ((ix).flatMap LX.cells))::(.blk kw (bL (nv) d (.slice xw jl.length xA) sh (.slice sA aH.length sc) (.slice tA tl.length tc) calls) 121)::(.own 169 23 (.slice xw jl.length xA) jl.length ((jl).flatMap LX.cells))::(.own 85 14 (.slice sA aH.length sc) aH.length ((aH).flatMap eT.cells))::(.own 81 7 (.slice tA tl.length tc) tl.length ((tl).flatMap fK.cells))::fs))):=by
 have hlen:=(S.own 1 rfl).1;rw [gL (sz:=6) (fun _=>rfl)] at hlen;refine fE 51 Tryz.func152 ?_;refine cw [0,1,2,3,4] ?_;iterate 2 refine zQ ?_
 refine gD S ?_;intro b1 w2 S3;iterate 5 refine zQ ?_
 refine vv (aj rfl rfl (aA Tryz.underlying3 rfl ((St.hblk S3 (memT 8 rfl dG _ Xq)).cell rfl))) ?_;refine zQ ?_;refine vv (aj rfl rfl (aG (cs:=[iV (-1),iV 0]) Tryz.underlying30 rfl iJ rfl (Uk.rg hu S3))) ?_;refine vv (v:= .agg #[iV x.l.num,iV a.code,iV a.gG,iV a.hno,iV a.body,iV (-1),iV 0]) gZ ?_;refine eU S3 atg ?_;intro b4 w5 S6;refine sa 0 S6 YA ?_;intro w7 S8;iterate 4 refine zQ ?_
 refine eH S8 mixed (by kernel_rfl) ?_;refine uv (v:=pV kn 0) (fun _ Sx9=>(aj rfl rfl (aA Tryz.underlying122 rfl ((St.hblk Sx9 (memT 9 rfl dG _ hm2)).cell rfl)))) ?_;iterate 3 refine zQ ?_
 refine uv (v:=iV ((q:Nat):Int)) (fun _ Na=>(aj rfl rfl (aA Tryz.underlying3 rfl ((St.hblk Na (memT 9 rfl dG _ uR)).cell rfl)))) ?_;refine uv (fun _ _=>gM q) ?_;refine zQ ?_;refine uv (v:=iV y.b.role) (fun _ avx=>(aj rfl rfl (aA Tryz.underlying3 rfl (Rd.Ug (i:=0) (St.ord 3 avx rfl) (bS (enc:=BX.cells) (sz:=6) (fun _=>rfl) hy rfl))))) ?_;refine zQ ?_;refine fC fun L8 lg=>?_
 iterate 4 refine zQ ?_
 by_cases h20:y.b.role=1
 ·iterate 9 refine zQ ?_
  refine vv (aj rfl rfl (aA Tryz.underlying111 rfl ((St.hblk lg (memT 9 rfl dG _ UY)).cell rfl))) ?_;refine vv (aj rfl rfl (aA Tryz.underlying122 rfl ((St.hblk lg (memT 9 rfl dG _ hm2)).cell rfl))) ?_;refine vv (aj rfl rfl (aA Tryz.underlying3 rfl ((St.hblk lg (memT 9 rfl dG _ uR)).cell rfl))) ?_;refine zQ ?_;refine vv (aj rfl rfl (aG (cs:=[iV x.l.op.kind,iV x.l.op.producer,iV x.l.op.id,iV x.l.op.body,iV x.l.op.aL,iV x.l.op.hno]) Tryz.underlying75 rfl jT rfl (fun j u hj=>(St.hblk lg (memT 9 rfl dG _ Xq)).cell (Rs j u hj)))) ?_;iterate 2 refine zQ ?_
  refine vv (aj rfl rfl (aA Tryz.underlying3 rfl ((St.hblk lg (memT 9 rfl dG _ Xq)).cell rfl))) ?_;have qP:=lg.dM [8,8,8,8,8,8,8];refine dO EC (lX hn hq hy x.l.op a x.l.num qP (by omega)) ?_;rintro _ IQ ⟨rfl,A22,c23,avy,avz,qJ⟩;refine ⟨_,rfl,?_⟩;iterate 2 refine zQ ?_
  have qM:=qJ.dM [4,4];have sj:=qM.drew;refine aN 8 sj [1,0] ?_;refine ak (v:=pV kw 0) 0 rfl (sj.oh [1,0]) (fun _ Xr=>(aj rfl rfl (aA Tryz.underlying111 rfl ((St.hblk Xr (memT 7 rfl dG _ UY)).cell rfl)))) ?_;refine ak (v:=pV kn 0) 1 rfl (sj.oh [1,0]) (fun _ WI=>(aj rfl rfl (aA Tryz.underlying122 rfl ((St.hblk WI (memT 7 rfl dG _ hm2)).cell rfl)))) ?_;iterate 4 refine aF ?_
  refine ak (v:= .agg #[iV 1,iV ((n:Nat):Int),iV (-1),iV 0,iV 0,iV 0,iV 0,iV 0,iV 0,iV 0,iV 0,iV 0,iV 0,.slice none 0 0,.bool false,iV 0,iV x.l.num,iV a.code,iV a.gG,iV a.hno,iV a.body,iV (-1),iV 0]) 6 rfl (sj.oh [1,0]) (fun _ _=>gZ) ?_;refine aS 7 ?_;refine iH 7 rfl wm (fO (x:=⟨nQ n x.l.num a nowhere,none,0⟩) sj (by omega)) ?_;rintro _ Zt ⟨rfl,Ml,Mq,anB,aic,tC⟩;refine ⟨_,rfl,?_⟩;iterate 2 refine aF ?_
  refine bN (l':=[]) trivial (aY (rs:=[]) (vs:=[]) rfl trivial ?_);have tu:=tC.aR [8,7];have Ar:=tu.dM [6,6,3,3,6,6,6];exact ⟨rfl,fun _=>⟨A22,c23,avy,Ml,Mq,anB,avz,aic,Ar⟩,fun h=>absurd (by unfold serves;omega) h⟩
 iterate 3 refine zQ ?_
 by_cases h45:y.b.role=2
 ·iterate 6 refine zQ ?_
  refine vv (aj rfl rfl (aA Tryz.underlying111 rfl ((St.hblk lg (memT 9 rfl dG _ UY)).cell rfl))) ?_;refine vv (aj rfl rfl (aA Tryz.underlying122 rfl ((St.hblk lg (memT 9 rfl dG _ hm2)).cell rfl))) ?_;refine vv (aj rfl rfl (aA Tryz.underlying3 rfl ((St.hblk lg (memT 9 rfl dG _ uR)).cell rfl))) ?_;refine zQ ?_;refine vv (aj rfl rfl (aG (cs:=[iV x.l.op.kind,iV x.l.op.producer,iV x.l.op.id,iV x.l.op.body,iV x.l.op.aL,iV x.l.op.hno]) Tryz.underlying75 rfl jT rfl (fun j u hj=>(St.hblk lg (memT 9 rfl dG _ Xq)).cell (Rs j u hj)))) ?_;iterate 2 refine zQ ?_
  refine vv (aj rfl rfl (aA Tryz.underlying3 rfl ((St.hblk lg (memT 9 rfl dG _ Xq)).cell rfl))) ?_;have qj:=lg.dM [8,8,8,8,8,8,8];refine dO EC (lX hn hq hy x.l.op a x.l.num qj (by omega)) ?_;rintro _ Zq ⟨rfl,IU,Xt,aie,acH,oF⟩;refine ⟨_,rfl,?_⟩;iterate 2 refine zQ ?_
  have vG:=oF.dM [4,4];have jw:=vG.drew;refine aN 8 jw [1,0] ?_;refine ak (v:=pV kw 0) 0 rfl (jw.oh [1,0]) (fun _ aif=>(aj rfl rfl (aA Tryz.underlying111 rfl ((St.hblk aif (memT 7 rfl dG _ UY)).cell rfl)))) ?_;refine ak (v:=pV kn 0) 1 rfl (jw.oh [1,0]) (fun _ Xp=>(aj rfl rfl (aA Tryz.underlying122 rfl ((St.hblk Xp (memT 7 rfl dG _ hm2)).cell rfl)))) ?_;iterate 4 refine aF ?_
  refine ak (v:= .agg #[iV 1,iV ((n:Nat):Int),iV (-1),iV 0,iV 0,iV 0,iV 0,iV 0,iV 0,iV 0,iV 0,iV 0,iV 0,.slice none 0 0,.bool false,iV 0,iV x.l.num,iV a.code,iV a.gG,iV a.hno,iV a.body,iV (-1),iV 0]) 6 rfl (jw.oh [1,0]) (fun _ _=>gZ) ?_;refine aS 7 ?_;refine iH 7 rfl wm (fO (x:=⟨nQ n x.l.num a nowhere,none,0⟩) jw (by omega)) ?_;rintro _ NP ⟨rfl,A62,c63,avA,avB,oN⟩;refine ⟨_,rfl,?_⟩;iterate 2 refine aF ?_
  refine bN (l':=[]) trivial (aY (rs:=[]) (vs:=[]) rfl trivial ?_);have uz:=oN.aR [8,7];have xg:=uz.dM [6,6,3,3,6,6,6];exact ⟨rfl,fun _=>⟨IU,Xt,aie,A62,c63,avA,acH,avB,xg⟩,fun h=>absurd (by unfold serves;omega) h⟩
 iterate 5 refine zQ ?_
 have lu:=lg.drew;refine fG 8 6 lu [] ?_;refine gk (v:=pV kn 0) 0 rfl lu (fun _ avC=>(aj rfl rfl (aA Tryz.underlying122 rfl ((St.hblk avC (memT 9 rfl dG _ hm2)).cell rfl)))) ?_;refine gk (v:=iV ((q:Nat):Int)) 1 rfl lu (fun _ avD=>(aj rfl rfl (aA Tryz.underlying3 rfl ((St.hblk avD (memT 9 rfl dG _ uR)).cell rfl)))) ?_;iterate 2 refine iP ?_
 refine gk (v:=pV kn (5+q*2)) 4 rfl lu (fun _ _=>(bP rfl rfl rfl (eu q Tryz.underlying31 iJ rfl hq))) ?_;refine gk (v:= .agg #[iV ((Hh q).node),iV ((Hh q).epoch)]) 5 rfl lu (fun _ aii=>(aj rfl rfl (aG (cs:=[iV ((Hh q).node),iV ((Hh q).epoch)]) Tryz.underlying30 rfl iJ rfl (St.rg 2 aii rfl (aft hq))))) ?_;refine eF (by kernel_rfl) rfl rfl rfl ?_;refine zQ ?_;refine iU (row':= #[iV x.l.num,iV a.code,iV a.gG,iV a.hno,iV a.body,iV ((Hh q).node),iV ((Hh q).epoch)]) 0 lu iJ ?_;intro UF Bg;refine zQ ?_;refine je ?_;refine zQ ?_;have Aq:=Bg.dM [6,6];have xG:=Aq.drew;refine aN 8 xG [1,0] ?_;refine ak (v:=pV kw 0) 0 rfl (xG.oh [1,0]) (fun _ avE=>(aj rfl rfl (aA Tryz.underlying111 rfl ((St.hblk avE (memT 7 rfl dG _ UY)).cell rfl)))) ?_;refine ak (v:=pV kn 0) 1 rfl (xG.oh [1,0]) (fun _ avF=>(aj rfl rfl (aA Tryz.underlying122 rfl ((St.hblk avF (memT 7 rfl dG _ hm2)).cell rfl)))) ?_;iterate 4 refine aF ?_
 refine ak (v:= .agg #[iV 1,iV ((n:Nat):Int),iV (-1),iV 0,iV 0,iV 0,iV 0,iV 0,iV 0,iV 0,iV 0,iV 0,iV 0,.slice none 0 0,.bool false,iV 0,iV x.l.num,iV a.code,iV a.gG,iV a.hno,iV a.body,iV ((Hh q).node),iV ((Hh q).epoch)]) 6 rfl (xG.oh [1,0]) (fun _ _=>gZ) ?_;refine aS 7 ?_;refine iH 7 rfl wm (fO (x:=⟨nQ n x.l.num a (Hh q),none,0⟩) xG (by omega)) ?_;rintro _ w92 ⟨rfl,A88,c89,avG,avH,yR⟩;refine ⟨_,rfl,?_⟩;iterate 2 refine aF ?_
 refine bN (l':=[]) trivial (aY (rs:=[]) (vs:=[]) rfl trivial ?_);have CF:=yR.aR [3,2];have Ef:=CF.dM [6,6,3,3,6,6,6];exact ⟨rfl,fun h=>absurd h (by unfold serves;omega),fun _=>⟨A88,c89,avG,avH,Ef⟩⟩
end Go.Proofs.YtbffmhpkenoogaaGreatDoor
namespace Go.Proofs.YtbffmhpkenoogaaGreatDoor
open Go.ChangeShapes Go.WideShapes Go.ChangeAt Go.RowKit
section
variable {K:CK} {B n q:Nat} {w0 w w':World} {fs N Ls L:List Fact} {m m':Cl} {H H':List LX} {R:CX} {X X':Nd} {z z':NX}
theorem uZ {b:bO} (h:au b=0): -2≤b.ep∧b.ep≤2000000:=by
 have h1:=(dJ h).1;unfold bn at h1;omega
theorem dz.at_ (h:dz K L n X z) (hq:q<4): ∃ y,z.bx[q]? =some y∧y.b=X.bs q∧zi L y:=by
 have hl:z.bx.length=4:=by have:=congrArg List.length h.MG;simpa [vB] using this
 refine ⟨z.bx[q],List.getElem?_eq_getElem (by omega),?_,h.Ox _ (List.getElem_mem _)⟩;have h1:(z.bx.map BX.b)[q]? =some (z.bx[q]).b:=by rw [List.getElem?_map,List.getElem?_eq_getElem (by omega)];rfl
 rw [h.MG] at h1;have h2:q=0∨q=1∨q=2∨q=3:=by omega
 rcases h2 with rfl | rfl | rfl | rfl<;>(simp only [vB] at h1;exact (Option.some.inj h1).symm)
theorem Fu {bx:List BX} {f:Nat→bO} {y:BX} (h:bx.map BX.b=vB f) (hq:q<4):(bx.set q y).map BX.b=vB (upd f q y.b):=by rw [List.map_set,h,QB hq]
theorem Bt {bx:List BX} {y:BX} (h: ∀ u∈bx,zi L u) (hy:zi L y): ∀ u∈bx.set q y,zi L u:=fun u hu=>by
 rcases List.mem_or_eq_of_mem_set hu with h1 | h1
 ·exact h u h1
 rw [h1];exact hy
def CX.go (R:CX) (n:Nat) (z':NX) (fA:Option Addr) (fc:Nat) (fx:List LX) (sA:Option Addr) (sc:Nat) (tA:Option Addr) (tc:Nat) (N:List Fact):CX:=
 { R with nx:=upd R.nx n z',fA:=fA,fc:=fc,fx:=fx,sA:=sA,sc:=sc,tA:=tA,tc:=tc,L:=R.L++N }
theorem Wd.fin {fA sA tA:Option Addr} {fc sc tc kn kw:Nat} {fx:List LX} {rr:List Fact} (hkn:K.nb n=kn) (bR:K.wb=kw) (hrr:eZ K R m fs n=rr) (G:Good K R m H) (hn:n<5)
  (S:St B w0 w' (AL kn n X' z'++(AO kw (R.go n z' fA fc fx sA sc tA tc (N++Ls)) m'++(Ls++(rr++N)))))
  (hX:dz K (R.L++(N++Ls)) n X' z') (hf: ∀ u∈fx,u∈R.fx∨MF (R.L++(N++Ls)) u) (h1:m'.av=upd m.av n X') (h2:m'.fly=fx.map LX.l) (hH: ∀ u∈H',u∈H∨MF (R.L++(N++Ls)) u):Wd K B w0 w' fs m' H':=by
 subst hkn;subst bR;subst hrr;have hsub: ∀ f∈R.L,f∈R.L++(N++Ls):=fun f h=>List.mem_append_left _ h
 have ez:(R.go n z' fA fc fx sA sc tA tc (N++Ls)).nx n=z':=upd_same _ _ _;have eX:m'.av n=X':=by rw [h1];exact upd_same _ _ _
 refine Wd.close (n:=n) (R:=R) (m:=m) (N:=N) (Ls:=Ls) (R':=R.go n z' fA fc fx sA sc tA tc (N++Ls)) ?_ (by rw [ez,eX];exact S) hn rfl ?_
 ·refine ⟨h2.symm,fun u hu=>(hf u hu).elim (fun h=>(G.Z0 u h).mono hsub) id,fun j hj=>?_,G.arr.mono hsub,fun u hu=>(hH u hu).elim (fun h=>(G.hld u h).mono hsub) id⟩;by_cases e:j=n
  ·subst e;rw [ez,eX];exact hX
  rw [h1,upd_ne e]
  show dz K _ j _ (upd R.nx n z' j)
  rw [upd_ne e];exact (G.lC j hj).mono hsub
 intro j _ hj;exact ⟨by rw [h1,upd_ne hj],upd_ne hj⟩
theorem Wd.dw {fA sA tA:Option Addr} {fc sc tc kn kw:Nat} {fx:List LX} {rr:List Fact} (hkn:K.nb n=kn) (bR:K.wb=kw) (hrr:eZ K R m fs n=rr) (G:Good K R m H) (hn:n<5)
  (S:St B w0 w' (AL kn n X' z'++(AO kw (R.go n z' fA fc fx sA sc tA tc Ls) m'++(Ls++rr))))
  (hX:dz K (R.L++Ls) n X' z') (hf: ∀ u∈fx,u∈R.fx∨MF (R.L++Ls) u) (h1:m'.av=upd m.av n X') (h2:m'.fly=fx.map LX.l) (hH: ∀ u∈H',u∈H∨MF (R.L++Ls) u):Wd K B w0 w' fs m' H':=
 Wd.fin (N:=[]) hkn bR hrr G hn (by rw [List.append_nil];exact S) hX hf h1 h2 hH
theorem dz.more (h:dz K L n X z):dz K (L++N) n X z:=h.mono fun _ hf=>List.mem_append_left _ hf
theorem dz.hear {hs:Nat→Pl} {su:Nat→Bool} (h:dz K L n X z):dz K L n { X with hints:=hs,sure:=su } z:=⟨h.MG,h.Ox,h.vO,h.Xm,h.Xn,h.zN⟩
theorem mH {x:LX} {P:LX→Prop}: ∀ u∈H,u∈x::H∨P u:=fun _ h=> .inl (List.mem_cons_of_mem _ h)
theorem nu {fx:List LX} {x:LX} {P:LX→Prop} (hx:P x): ∀ u∈fx++[x],u∈fx∨P u:=fun u hu=>(List.mem_append.1 hu).elim .inl fun h=>by rw [List.mem_singleton] at h;subst h;exact .inr hx
theorem gY {l:jI} {c:Nat} (h:l.evs=[]):MF L ⟨l,none,c⟩:=by
 unfold MF DF;dsimp only;rw [h];exact ⟨Ro.none_,Nat.zero_le _⟩
theorem qz {f:Fact} (h:f∈Ls):f∈L++(N++Ls):=List.mem_append_right _ (List.mem_append_right _ h)
theorem mLN: ∀ f∈L++N,f∈L++(N++Ls):=fun f h=>by rw [←List.append_assoc];exact List.mem_append_left _ h
end
section
variable {m:Cl} {n q:Nat} {X:Nd} {b:bO} {op:Ev} {num:Int} {a:iK} {l:jI} {d:List UInt8}
theorem Gn (hX:m.av n=X) (hb:X.bs q=b) (h:serves b):m.done n q op num a={ m with aH:=m.aH++[⟨n,q,b.ep,op,a,num⟩],shown:=ni m.shown n q (b.ep,b.evs.length),fly:=m.fly++[nQ n num a nowhere] }:=by
 subst hX;subst hb;unfold Cl.done;rw [if_pos h];rfl
theorem K5 (hX:m.av n=X) (hb:X.bs q=b) (h: ¬ serves b):m.done n q op num a={ m with fly:=m.fly++[nQ n num a (X.hints q)] }:=by
 subst hX;subst hb;unfold Cl.done;rw [if_neg h];rfl
theorem abq {SR:bO×iK×Bool×Int} (hX:m.av n=X) (hb:X.bs l.q=b) (hR:gQ b l.op=SR) (h:SR.2.2.1=false):m.serve n l=m.done n l.q l.op l.num SR.2.1:=by
 subst hX;subst hb;subst hR;unfold Cl.serve;rw [if_pos h]
theorem Tm {SR:bO×iK×Bool×Int} (hX:m.av n=X) (hb:X.bs l.q=b) (hR:gQ b l.op=SR) (h:SR.2.2.1=true) (hw:eD X.data X.syn [fq 2 l.q SR.1.ep 0 l.op]=none):m.serve n l=m.done n l.q l.op l.num (qD 14):=by
 subst hX;subst hb;subst hR;unfold Cl.serve Nd.write;rw [if_neg (by rw [h];simp),hw];rfl
theorem abr {SR:bO×iK×Bool×Int} (hX:m.av n=X) (hb:X.bs l.q=b) (hR:gQ b l.op=SR) (h:SR.2.2.1=true) (hw:eD X.data X.syn [fq 2 l.q SR.1.ep 0 l.op]=some d):
  m.serve n l=m.put n { X with data:=d,pend:=some (.serve l.q SR.1.evs l.op l.num SR.2.1) }:=by
 subst hX;subst hb;subst hR;unfold Cl.serve Nd.write;rw [if_neg (by rw [h];simp),hw];rfl
theorem Tn {BR:bO×Int} (hX:m.av n=X) (hb:X.bs l.q=b) (hR:dn b l.ep l.fr=BR) (h:BR.2≠0):m.offered n l=m:=by
 subst hX;subst hb;subst hR;unfold Cl.offered;rw [if_pos h]
theorem MI {BR:bO×Int} (hX:m.av n=X) (hb:X.bs l.q=b) (hR:dn b l.ep l.fr=BR) (h:BR.2=0) (h2:BR.1.ep=b.ep):m.offered n l={ m with fly:=m.fly++[yH n l.q b] }:=by
 subst hX;subst hb;subst hR;unfold Cl.offered;rw [if_neg (fun e=>e h),if_pos h2];rfl
theorem MJ {BR:bO×Int} (hX:m.av n=X) (hb:X.bs l.q=b) (hR:dn b l.ep l.fr=BR) (h:BR.2=0) (h2:BR.1.ep≠b.ep) (hw:eD X.data X.syn [fq 4 l.q BR.1.ep l.fr aT]=none):m.offered n l=m:=by
 subst hX;subst hb;subst hR;unfold Cl.offered Nd.write;rw [if_neg (fun e=>e h),if_neg h2,hw];rfl
theorem Tp {BR:bO×Int} (hX:m.av n=X) (hb:X.bs l.q=b) (hR:dn b l.ep l.fr=BR) (h:BR.2=0) (h2:BR.1.ep≠b.ep) (hw:eD X.data X.syn [fq 4 l.q BR.1.ep l.fr aT]=some d):
  m.offered n l=m.put n { X with data:=d,pend:=some (.begun l.q BR.1) }:=by
 subst hX;subst hb;subst hR;unfold Cl.offered Nd.write;rw [if_neg (fun e=>e h),if_neg h2,hw];rfl
theorem Kn (hX:m.av n=X) (hb:X.bs l.q=b) (h:b.tg≠l.fr∨b.ep+1≠l.ep):m.caught n l=m:=by
 subst hX;subst hb;unfold Cl.caught;rw [if_pos h]
theorem Tq {BR:bO×Int} (hX:m.av n=X) (hb:X.bs l.q=b) (hR:bF b l.at_=BR) (h1: ¬ (b.tg≠l.fr∨b.ep+1≠l.ep)) (h:BR.2≠0):m.caught n l=m:=by
 subst hX;subst hb;subst hR;unfold Cl.caught;rw [if_neg h1,if_pos h]
theorem PY {BR:bO×Int} (hX:m.av n=X) (hb:X.bs l.q=b) (hR:bF b l.at_=BR) (h1: ¬ (b.tg≠l.fr∨b.ep+1≠l.ep)) (h:BR.2=0) (h2:BR.1.role=b.role):
  m.caught n l={ (m.put n { X with bs:=upd X.bs l.q BR.1 }) with fly:=sP n l.q BR.1 l.at_ m.fly }:=by
 subst hX;subst hb;subst hR;unfold Cl.caught;rw [if_neg h1,if_neg (fun e=>e h),if_pos h2];have e:((m.dS n l.q (bF ((m.av n).bs l.q) l.at_).1).av n).bs l.q=(bF ((m.av n).bs l.q) l.at_).1:=by
  unfold Cl.dS Cl.put;dsimp only;rw [upd_same];exact upd_same _ _ _
 unfold Cl.part sP;rw [e]
 split
 ·rfl
 rfl
theorem PZ {BR:bO×Int} (hX:m.av n=X) (hb:X.bs l.q=b) (hR:bF b l.at_=BR) (h1: ¬ (b.tg≠l.fr∨b.ep+1≠l.ep)) (h:BR.2=0) (h2:BR.1.role≠b.role) (hw:eD X.data X.syn [fq 3 l.q BR.1.ep BR.1.tg aT]=none):m.caught n l=m:=by
 subst hX;subst hb;subst hR;unfold Cl.caught Nd.write;rw [if_neg h1,if_neg (fun e=>e h),if_neg h2,hw];rfl
theorem Xu {BR:bO×Int} (hX:m.av n=X) (hb:X.bs l.q=b) (hR:bF b l.at_=BR) (h1: ¬ (b.tg≠l.fr∨b.ep+1≠l.ep)) (h:BR.2=0) (h2:BR.1.role≠b.role) (hw:eD X.data X.syn [fq 3 l.q BR.1.ep BR.1.tg aT]=some d):
  m.caught n l=m.put n { X with data:=d,pend:=some (.kN l.q BR.1 l.at_) }:=by
 subst hX;subst hb;subst hR;unfold Cl.caught Nd.write;rw [if_neg h1,if_neg (fun e=>e h),if_neg h2,hw];rfl
theorem Z6 (hX:m.av n=X) (hb:X.bs l.q=b) (h:b.role≠4∨b.fr≠l.fr):m.got n l=m:=by
 subst hX;subst hb;unfold Cl.got;rw [if_pos h]
theorem abt {BR:bO×Int} (hX:m.av n=X) (hb:X.bs l.q=b) (hR:cB b l.ep l.at_ l.evs l.last=BR) (h1: ¬ (b.role≠4∨b.fr≠l.fr)) (h:BR.2=2):m.got n l={ m with fly:=m.fly++[yH n l.q b] }:=by
 subst hX;subst hb;subst hR;unfold Cl.got;rw [if_neg h1,if_pos h];rfl
theorem Oz {BR:bO×Int} (hX:m.av n=X) (hb:X.bs l.q=b) (hR:cB b l.ep l.at_ l.evs l.last=BR) (h1: ¬ (b.role≠4∨b.fr≠l.fr)) (h:BR.2≠2) (h2:BR.2≠0∨BR.1.evs.length=b.evs.length):m.got n l=m:=by
 subst hX;subst hb;subst hR;unfold Cl.got;rw [if_neg h1,if_neg h,if_pos h2]
theorem OB {BR:bO×Int} (hX:m.av n=X) (hb:X.bs l.q=b) (hR:cB b l.ep l.at_ l.evs l.last=BR) (h1: ¬ (b.role≠4∨b.fr≠l.fr)) (h:BR.2≠2) (h2: ¬ (BR.2≠0∨BR.1.evs.length=b.evs.length))
  (hw:eD X.data X.syn (sM l.q BR.1 b.evs.length (l.at_.toNat+l.evs.length) l.last)=none):m.got n l=m:=by
 subst hX;subst hb;subst hR;unfold Cl.got Nd.write;rw [if_neg h1,if_neg h,if_neg h2,hw];rfl
theorem Z7 {BR:bO×Int} (hX:m.av n=X) (hb:X.bs l.q=b) (hR:cB b l.ep l.at_ l.evs l.last=BR) (h1: ¬ (b.role≠4∨b.fr≠l.fr)) (h:BR.2≠2) (h2: ¬ (BR.2≠0∨BR.1.evs.length=b.evs.length))
  (hw:eD X.data X.syn (sM l.q BR.1 b.evs.length (l.at_.toNat+l.evs.length) l.last)=some d):m.got n l=m.put n { X with data:=d,pend:=some (.got l.q BR.1 l.last) }:=by
 subst hX;subst hb;subst hR;unfold Cl.got Nd.write;rw [if_neg h1,if_neg h,if_neg h2,hw];rfl
theorem Xv {BR:bO×Int} (hX:m.av n=X) (hb:X.bs l.q=b) (hR:fB b l.ep=BR) (h:BR.2≠0):m.learnt n l=m.put n (X.hear n l):=by
 subst hX;subst hb;subst hR;unfold Cl.learnt;rw [if_pos h]
theorem P5 {BR:bO×Int} (hX:m.av n=X) (hb:X.bs l.q=b) (hR:fB b l.ep=BR) (h:BR.2=0) (hw:eD X.data X.syn [fq 7 l.q b.ep 0 aT]=none):m.learnt n l=m.put n (X.hear n l):=by
 subst hX;subst hb;subst hR;unfold Cl.learnt Nd.write;rw [if_neg (fun e=>e h)];have hw':eD ((m.av n).hear n l).data ((m.av n).hear n l).syn [fq 7 l.q ((m.av n).bs l.q).ep 0 aT]=none:=hw;rw [hw'];rfl
theorem Xw {BR:bO×Int} (hX:m.av n=X) (hb:X.bs l.q=b) (hR:fB b l.ep=BR) (h:BR.2=0) (hw:eD X.data X.syn [fq 7 l.q b.ep 0 aT]=some d):
  m.learnt n l=m.put n { (X.hear n l) with data:=d,pend:=some (.forget l.q BR.1) }:=by
 subst hX;subst hb;subst hR;unfold Cl.learnt Nd.write;rw [if_neg (fun e=>e h)];have hw':eD ((m.av n).hear n l).data ((m.av n).hear n l).syn [fq 7 l.q ((m.av n).bs l.q).ep 0 aT]=some d:=hw;rw [hw'];rfl
end
end Go.Proofs.YtbffmhpkenoogaaGreatDoor
namespace Go.Proofs.YtbffmhpkenoogaaGreatDoor
open Go.ChangeShapes Go.WideShapes Go.RowKit
section
variable {xo yo:Operand} {w:World} {f:Fn} {xs ys:Array Value}
theorem agM {d:Nat}:(Op.equalIn (d+1) 127 (.func f xs ys) .nilFunc).run Tryz.prog w= .ok false w:=by
 unfold Op.equalIn;simp [Tryz.underlying127]
theorem agN {d:Nat}:(Op.equalIn (d+1) 127 .nilFunc .nilFunc).run Tryz.prog w= .ok true w:=by
 unfold Op.equalIn;simp [Tryz.underlying127]
theorem u6:(do eqGuard .neq 127 xo yo (.func f xs ys) .nilFunc;binOp .neq 127 (.func f xs ys) .nilFunc:Sem Value).run Tryz.prog w= .ok (.bool true) w:=by
 have h1:(eqGuard .neq 127 xo yo (.func f xs ys) .nilFunc)=pure ():=by unfold eqGuard;rfl
 have h2:binOp .neq 127 (.func f xs ys) .nilFunc=(do let b←Op.equalIn (9999+1) 127 (.func f xs ys) .nilFunc;pure (.bool (!b))):=by unfold binOp;rfl
 rw [h1,h2];simp [agM]
theorem Gp:(do eqGuard .neq 127 xo yo .nilFunc .nilFunc;binOp .neq 127 .nilFunc .nilFunc:Sem Value).run Tryz.prog w= .ok (.bool false) w:=by
 have h1:(eqGuard .neq 127 xo yo .nilFunc .nilFunc)=pure ():=by unfold eqGuard;rfl
 have h2:binOp .neq 127 .nilFunc .nilFunc=(do let b←Op.equalIn (9999+1) 127 .nilFunc .nilFunc;pure (.bool (!b))):=by unfold binOp;rfl
 rw [h1,h2];simp [agN]
theorem Gq:(do eqGuard .eql 127 xo yo (.func f xs ys) .nilFunc;binOp .eql 127 (.func f xs ys) .nilFunc:Sem Value).run Tryz.prog w= .ok (.bool false) w:=by
 have h1:(eqGuard .eql 127 xo yo (.func f xs ys) .nilFunc)=pure ():=by unfold eqGuard;rfl
 have h2:binOp .eql 127 (.func f xs ys) .nilFunc=(do let b←Op.equalIn (9999+1) 127 (.func f xs ys) .nilFunc;pure (.bool b)):=by unfold binOp;rfl
 rw [h1,h2];simp [agM]
theorem OC:(do eqGuard .eql 127 xo yo .nilFunc .nilFunc;binOp .eql 127 .nilFunc .nilFunc:Sem Value).run Tryz.prog w= .ok (.bool true) w:=by
 have h1:(eqGuard .eql 127 xo yo .nilFunc .nilFunc)=pure ():=by unfold eqGuard;rfl
 have h2:binOp .eql 127 .nilFunc .nilFunc=(do let b←Op.equalIn (9999+1) 127 .nilFunc .nilFunc;pure (.bool b)):=by unfold binOp;rfl
 rw [h1,h2];simp [agN]
end
def gX.fit:gX→Prop
 | .serve q evs _ _ _=>q<4∧evs.length≤2000
 | .begun q _=>q<4
 | .got q _ _=>q<4
 | .kN q b _=>q<4∧au b=0
 | .forget q _=>q<4
noncomputable def Cl.more (w:Cl) (n:Nat):Cl:=if (w.av n).pend=none then Cl.drain n (w.av n).inbox w else w
def Nd.box (X:Nd) (r:List jI):Nd:={ X with inbox:=r }
section
variable {m:Cl} {n q:Nat} {X:Nd} {b b':bO}
theorem K6 {α:Type} (f:Nat→α) (k:Nat) (u v:α):upd (upd f k u) k v=upd f k v:=by
 funext j
 unfold upd
 split<;>rfl
theorem DI (h:(m.av n).pend≠none):m.more n=m:=if_neg h
theorem OD (h:(m.av n).inbox=[]):m.more n=m:=by
 unfold Cl.more;rw [h]
 split<;>rfl
theorem sQ {l:jI} {r:List jI} (h:(m.av n).pend=none) (h1:(m.av n).inbox=l::r) (hq:l.q<4):m.more n=((m.put n ((m.av n).box r)).handle n l).more n:=by
 show m.more n=((m.put n { m.av n with inbox:=r }).handle n l).more n
 have e:=(wO (m:=m.put n { m.av n with inbox:=r }) (n:=n) (l:=l) hq).mY;rw [show (m.put n { m.av n with inbox:=r }).av n={ m.av n with inbox:=r } from upd_same _ _ _] at e;unfold Cl.more;rw [if_pos h,h1,Cl.drain,e]
theorem Ko (h:(m.av n).up=false):m.step n=m:=if_pos h
theorem zk (h:(m.av n).up=true) (h1:(m.av n).pend=none):m.step n=if ((m.more n).av n).pend=none then (m.more n).Xg n else m.more n:=by
 unfold Cl.step;rw [if_neg (by rw [h];simp),h1];unfold Cl.more;rw [if_pos h1]
def Nd.uo (X:Nd):Nd:={ X with syn:=X.data.length,pend:=none }
def Nd.dS (X:Nd) (q:Nat) (b:bO):Nd:={ X with bs:=upd X.bs q b }
theorem sW (X:Nd) (q:Nat) (b:bO):(m.put n X).dS n q b=m.put n (X.dS q b):=by
 unfold Cl.dS Cl.put;dsimp only;rw [upd_same,K6];rfl
theorem pO {p:gX} (hX:m.av n=X) (hu:X.up=true) (hp:X.pend=some p):m.step n=(m.put n X.uo).xH n p:=by
 subst hX;unfold Cl.step;rw [if_neg (by rw [hu];simp),hp];rfl
theorem bM (X:Nd):(m.put n X).av n=X:=upd_same _ _ _
theorem zl {evs:List Ev} {op:Ev} {num:Int} {a:iK} (hX:m.av n=X) (hu:X.up=true) (hp:X.pend=some (.serve q evs op num a)) (hb:X.bs q=b) (hs:serves b):
  m.step n={ (m.put n (X.uo.dS q { b with evs:=evs })) with aH:=m.aH++[⟨n,q,b.ep,op,a,num⟩],shown:=ni m.shown n q (b.ep,evs.length),fly:=m.fly++[nQ n num a nowhere] }:=by
 rw [pO hX hu hp]
 show ((m.put n X.uo).dS n q { ((m.put n X.uo).av n).bs q with evs:=evs }).done n q op num a=_
 rw [bM,sW,show X.uo.bs q=b from hb];rw [Gn (b:={ b with evs:=evs }) (bM _) (upd_same _ _ _) hs];rfl
theorem Jd {evs:List Ev} {op:Ev} {num:Int} {a:iK} (hX:m.av n=X) (hu:X.up=true) (hp:X.pend=some (.serve q evs op num a)) (hb:X.bs q=b) (hs: ¬ serves b):
  m.step n={ (m.put n (X.uo.dS q { b with evs:=evs })) with fly:=m.fly++[nQ n num a (X.hints q)] }:=by
 rw [pO hX hu hp]
 show ((m.put n X.uo).dS n q { ((m.put n X.uo).av n).bs q with evs:=evs }).done n q op num a=_
 rw [bM,sW,show X.uo.bs q=b from hb];rw [K5 (b:={ b with evs:=evs }) (bM _) (upd_same _ _ _) hs];rfl
theorem Hq (hX:m.av n=X) (hu:X.up=true) (hp:X.pend=some (.begun q b)):m.step n={ (m.put n (X.uo.dS q b)) with fly:=m.fly++[yH n q b] }:=by
 rw [pO hX hu hp]
 show ((m.put n X.uo).dS n q b).have_ n q=_
 rw [sW];unfold Cl.have_ Cl.send;rw [bM,show (X.uo.dS q b).bs q=b from upd_same _ _ _];rfl
theorem Ay (hX:m.av n=X) (hu:X.up=true) (hp:X.pend=some (.got q b true)):
  m.step n={ (m.put n { (X.uo.dS q b) with sure:=upd X.sure q false }) with aH:=m.aH++[⟨n,q,b.ep,bU,gF,-1⟩],shown:=ni m.shown n q (b.ep,b.evs.length) }:=by
 rw [pO hX hu hp];unfold Cl.xH;dsimp only;rw [if_pos rfl,sW];simp only [bM];unfold Cl.tell Cl.put;dsimp only;rw [K6,upd_same]
 show ({ m with av:=_,aH:=m.aH++[⟨n,q,((X.uo.dS q b).bs q).ep,bU,gF,-1⟩],shown:=ni m.shown n q (((X.uo.dS q b).bs q).ep,((X.uo.dS q b).bs q).evs.length) }:Cl)=_
 rw [show (X.uo.dS q b).bs q=b from upd_same _ _ _];rfl
theorem OE (hX:m.av n=X) (hu:X.up=true) (hp:X.pend=some (.got q b false)):m.step n={ (m.put n (X.uo.dS q b)) with fly:=m.fly++[yH n q b] }:=by
 rw [pO hX hu hp];unfold Cl.xH;dsimp only;rw [if_neg (by simp),sW];unfold Cl.have_ Cl.send;rw [bM,show (X.uo.dS q b).bs q=b from upd_same _ _ _];rfl
theorem Kq {at_:Int} (hX:m.av n=X) (hu:X.up=true) (hp:X.pend=some (.kN q b at_)):m.step n={ (m.put n (X.uo.dS q b)) with fly:=sP n q b at_ m.fly }:=by
 rw [pO hX hu hp]
 show ((m.put n X.uo).dS n q b).part n q at_=_
 rw [sW];unfold Cl.part Cl.send sP;rw [bM,show (X.uo.dS q b).bs q=b from upd_same _ _ _]
 split
 ·rfl
 rfl
theorem Es (hX:m.av n=X) (hu:X.up=true) (hp:X.pend=some (.forget q b)):m.step n=m.put n (X.uo.dS q b):=by
 rw [pO hX hu hp]
 show (m.put n X.uo).dS n q b=_
 rw [sW]
end
theorem afu {P:Program} {t e:TypeId} {A:Option Addr} {n c s:Nat} (k:Nat) (hu:P.underlying t=some (.slice e)) (hz:(P.info? e).map (·.size)=some s) (hk:k≤n) (w:World):
  (Instr.sliceAt t (.slice A n c) (some (.int .i64 ((k:Nat):Int))) none none).run P w= .ok (.slice (if c=k then A else A.map (·.add (k*s))) (n-k) (c-k)) w:=by
 obtain ⟨z,hq,hs⟩: ∃ z,P.info? e=some z∧z.size=s:=by
  cases h:P.info? e with
  | none=>simp [h] at hz
  | some z=>exact ⟨z,rfl,by simpa [h] using hz⟩
 have h1:(sizeOf e).run P w= .ok s w:=by simp [sizeOf,typeInfo,hq,hs,Sem.run_bind,Result.andThen]
 have hb:=fun w=>ab0 (P:=P) (n:=n) (c:=c) (kd:= .i64) k rfl hk w
 simp [Instr.sliceAt,Instr.slice,run_underlying hu,Sem.run_bind,Result.andThen,hb,h1]
section
variable {K:CK} {B n:Nat} {w0 w w':World} {fs gs:List Fact} {m:Cl} {H:List LX}
theorem Wd.on (h:Wd K B w0 w fs m H) (hb:Below w.heap.size w w'):Wd K B w0 w' fs m H:=by
 obtain ⟨R,G,S⟩:=h;exact ⟨R,G,S.on hb⟩
theorem Wd.ext (h:Wd K B w0 w fs m H) (T:St w.heap.size w w' gs) (hg:gs.all Fact.Ew=true):Wd K B w0 w' (gs++fs) m H:=by
 obtain ⟨R,G,S⟩:=h;refine ⟨R,G,?_⟩;have:=S.ext T hg;rwa [←List.append_assoc] at this
theorem Wd.uS (h:Wd K B w0 w (gs++fs) m H):St B w0 w gs:=by
 obtain ⟨R,_,S⟩:=h;exact S.sub (by rw [List.append_assoc];exact List.sublist_append_left _ _)
theorem Wd.less (h:Wd K B w0 w (gs++fs) m H):Wd K B w0 w fs m H:=by
 obtain ⟨R,G,S⟩:=h;exact ⟨R,G,S.sub (by rw [List.append_assoc];exact List.sublist_append_right _ _)⟩
theorem Wd.drew (h:Wd K B w0 w fs m H):Wd K B w0 w.drew fs m H:=by
 obtain ⟨R,G,S⟩:=h;exact ⟨R,G,S.drew⟩
end
theorem u7: ∀ {rs:List dx} {l:List UInt8} {s:Int} {d:List UInt8},eD l s rs=some d→d=l++bW rs∧(∀ r∈rs,aP r=0)∧(l.length≤100000→d.length≤100000)
 | [],l,s,d,h=>by
  cases h;exact ⟨by simp [bW],fun r hr=>by simp at hr,fun h=>h⟩
 | r::rs,l,s,d,h=>by
  rw [eD] at h
  split at h
  ·cases h
  rename_i h1
  obtain ⟨h2,h3,h4⟩:=Ka (Classical.not_not.1 h1);rw [h2] at h;obtain ⟨h5,h6,h7⟩:=u7 h;refine ⟨by rw [h5];simp [bW,List.flatMap_cons],fun x hx=>?_,fun hl=>h7 (by rw [List.length_append];omega)⟩
  rcases List.mem_cons.1 hx with rfl | hx
  ·exact h3
  exact h6 x hx
theorem afv {Q:Qd} {e:Ev} (h:(jF Q e).2.2.1=true):(jF Q e).2.2.2=0:=by
 unfold jF at h⊢
 split at h
 ·cases h
 rename_i h1
 rw [if_neg h1]
 split at h
 ·cases h
 rename_i h2;rw [if_neg h2]
theorem afw {Q:Qd} {e:Ev} (h:(jF Q e).2.2.2=0):bE e=0:=by
 unfold jF at h
 split at h
 ·rename_i h1;exact absurd h h1
 split at h
 ·rename_i h2;exact absurd h h2
 rename_i h2;exact Classical.not_not.1 h2
theorem Gr: ∀ {n:Nat} {l:List Ev},l.length=n→good l→ ∀ e∈l,bE e=0
 | 0,l,hn,_,e,he=>by rw [List.length_eq_zero_iff.1 hn] at he;simp at he
 | n+1,l,hn,h,e,he=>by
  have e1:l=l.take n++[l[n]]:=by rw [←zf (by omega),←hn,List.take_length]
  have h':good (l.take n++[l[n]]):=e1▸h;rw [e1] at he
  rcases List.mem_append.1 he with he | he
  ·exact Gr (n:=n) (by rw [List.length_take];omega) (ze h) e he
  rw [List.mem_singleton] at he;rw [he];exact afw (good_step h').1
section
variable {b:bO} {e:Ev}
theorem Tt (h: ¬ (gQ b e).2.2.1=false):au b=0∧bE e=0∧serves b∧(jF (aV b.evs).1 e).2.2.1=true∧b.evs.length<1999∧e.kind≠4∧gQ b e=({ b with evs:=b.evs++[e] },(jF (aV b.evs).1 e).2.1,true,0):=by
 unfold gQ at h⊢;by_cases c1:au b≠0
 ·rw [if_pos c1] at h;exact absurd rfl h
 rw [if_neg c1] at h⊢;by_cases c2:bE e≠0
 ·rw [if_pos c2] at h;exact absurd rfl h
 rw [if_neg c2] at h⊢;by_cases c3:e.kind=4
 ·rw [if_pos c3] at h;exact absurd rfl h
 rw [if_neg c3] at h⊢;by_cases c4:b.role=3
 ·rw [if_pos c4] at h;exact absurd rfl h
 rw [if_neg c4] at h⊢;by_cases c5:b.role≠1∧b.role≠2
 ·rw [if_pos c5] at h;exact absurd rfl h
 rw [if_neg c5] at h⊢;by_cases c6:(jF (aV b.evs).1 e).2.2.1=false
 ·rw [if_pos c6] at h;exact absurd rfl h
 rw [if_neg c6] at h⊢;by_cases c7:1999≤b.evs.length
 ·rw [if_pos c7] at h;exact absurd rfl h
 rw [if_neg c7];exact ⟨Classical.not_not.1 c1,Classical.not_not.1 c2,by unfold serves;omega,by simpa using c6,by omega,c3,rfl⟩
theorem abu {ep fr:Int} (h: ¬ (dn b ep fr).2≠0) (h2: ¬ (dn b ep fr).1.ep=b.ep):(b.role=0∨b.role=4)∧b.ep<ep∧1≤ep∧ep≤1048576∧0≤fr∧fr≤4∧dn b ep fr=(⟨4,ep,fr,0,0,[]⟩,0):=by
 unfold dn at h h2⊢;by_cases c1:au b≠0
 ·rw [if_pos c1] at h;exact absurd c1 h
 rw [if_neg c1] at h h2⊢;by_cases c2: ¬ (1≤ep∧ep≤1048576∧0≤fr∧fr≤4)
 ·rw [if_pos c2] at h;exact absurd (by decide) h
 rw [if_neg c2] at h h2⊢;by_cases c3:b.role≠0∧b.role≠4
 ·rw [if_pos c3] at h;exact absurd (by decide) h
 rw [if_neg c3] at h h2⊢;by_cases c4:b.role=4∧b.ep=ep∧b.fr=fr
 ·rw [if_pos c4] at h2;exact absurd rfl h2
 rw [if_neg c4] at h h2⊢;by_cases c5:ep≤b.ep
 ·rw [if_pos c5] at h;exact absurd (by decide) h
 rw [if_neg c5];have c2':=Classical.not_not.1 c2;exact ⟨by omega,by omega,c2'.1,c2'.2.1,c2'.2.2.1,c2'.2.2.2,rfl⟩
theorem Tv {ep fr:Int} (h: ¬ (dn b ep fr).2≠0) (h2:(dn b ep fr).1.ep=b.ep):b.role=4∧b.ep=ep∧b.fr=fr:=by
 unfold dn at h h2;by_cases c1:au b≠0
 ·rw [if_pos c1] at h;exact absurd c1 h
 rw [if_neg c1] at h h2;by_cases c2: ¬ (1≤ep∧ep≤1048576∧0≤fr∧fr≤4)
 ·rw [if_pos c2] at h;exact absurd (by decide) h
 rw [if_neg c2] at h h2;by_cases c3:b.role≠0∧b.role≠4
 ·rw [if_pos c3] at h;exact absurd (by decide) h
 rw [if_neg c3] at h h2;by_cases c4:b.role=4∧b.ep=ep∧b.fr=fr
 ·exact c4
 rw [if_neg c4] at h h2;by_cases c5:ep≤b.ep
 ·rw [if_pos c5] at h;exact absurd (by decide) h
 rw [if_neg c5] at h2;exact absurd (show ep=b.ep from h2) (by omega)
def Kr (b:bO) (at_:Int) (l:List Ev):List Ev:=b.evs++l.drop (b.evs.length-at_.toNat)
def xQ (b:bO) (at_:Int) (l:List Ev) (last:Bool):bO:=if last=true then ⟨1,b.ep,0,0,0,Kr b at_ l++[bU]⟩ else { b with evs:=Kr b at_ l }
theorem Xx {ep at_:Int} {l:List Ev} {last:Bool} (h: ¬ (cB b ep at_ l last).2≠0):b.role=4∧b.ep=ep∧0≤at_∧at_≤b.evs.length∧(b.evs.drop at_.toNat).take l.length=l.take (b.evs.length-at_.toNat)∧
  (last=true→b.evs.length≤at_.toNat+l.length)∧au (xQ b at_ l last)=0∧cB b ep at_ l last=(xQ b at_ l last,0):=by
 unfold cB at h⊢;by_cases c1:au b≠0
 ·rw [if_pos c1] at h;exact absurd c1 h
 rw [if_neg c1] at h⊢;by_cases c2:b.role≠4
 ·rw [if_pos c2] at h;exact absurd (by decide) h
 rw [if_neg c2] at h⊢;by_cases c3:b.ep≠ep
 ·rw [if_pos c3] at h;exact absurd (by decide) h
 rw [if_neg c3] at h⊢;have c3':b.ep=ep:=Classical.not_not.1 c3;subst c3';by_cases c4: ¬ (0≤at_∧at_≤b.evs.length)
 ·rw [if_pos c4] at h;exact absurd (by decide) h
 rw [if_neg c4] at h⊢;by_cases c5: ¬ (b.evs.drop at_.toNat).take l.length=l.take (b.evs.length-at_.toNat)
 ·rw [if_pos c5] at h;exact absurd (by decide) h
 rw [if_neg c5] at h⊢;by_cases c6:last=true∧at_.toNat+l.length<b.evs.length
 ·rw [if_pos c6] at h;exact absurd (by decide) h
 rw [if_neg c6] at h⊢;change ¬ (if au (xQ b at_ l last)≠0 then (bD,(3:Int)) else (xQ b at_ l last,0)).2≠0 at h
 show _∧_∧_∧_∧_∧_∧_∧(if au (xQ b at_ l last)≠0 then (bD,(3:Int)) else (xQ b at_ l last,0))=_
 by_cases c7:au (xQ b at_ l last)≠0
 ·rw [if_pos c7] at h;exact absurd (by decide) h
 have c4':=Classical.not_not.1 c4;rw [if_neg c7];exact ⟨Classical.not_not.1 c2,rfl,c4'.1,c4'.2,Classical.not_not.1 c5,fun hl=>by by_cases h9:at_.toNat+l.length<b.evs.length;exact absurd ⟨hl,h9⟩ c6;omega,Classical.not_not.1 c7,rfl⟩
theorem MK {hv:Int} (h: ¬ (bF b hv).2≠0):0≤hv∧hv≤b.evs.length∧((b.role=3∧bF b hv=(b,0))∨(b.role=2∧(hv=b.evs.length∨b.rd=4)∧bF b hv=({ b with role:=3,rd:=0 },0))∨(b.role=2∧ ¬ (hv=b.evs.length∨b.rd=4)∧bF b hv=({ b with rd:=b.rd+1 },0))):=by
 unfold bF at h⊢;by_cases c1:au b≠0
 ·rw [if_pos c1] at h;exact absurd c1 h
 rw [if_neg c1] at h⊢;by_cases c2:b.role≠2∧b.role≠3
 ·rw [if_pos c2] at h;exact absurd (by decide) h
 rw [if_neg c2] at h⊢;by_cases c3: ¬ (0≤hv∧hv≤b.evs.length)
 ·rw [if_pos c3] at h;exact absurd (by decide) h
 rw [if_neg c3] at h⊢;have c3':=Classical.not_not.1 c3;refine ⟨c3'.1,c3'.2,?_⟩;by_cases c4:b.role=3
 ·rw [if_pos c4];exact .inl ⟨c4,rfl⟩
 rw [if_neg c4];by_cases c5:hv=b.evs.length∨b.rd=4
 ·rw [if_pos c5];exact .inr (.inl ⟨by omega,c5,rfl⟩)
 rw [if_neg c5];exact .inr (.inr ⟨by omega,c5,rfl⟩)
theorem Xy {ep:Int} (h: ¬ (fB b ep).2≠0):b.role=3∧b.ep<ep∧fB b ep=(⟨0,b.ep,0,0,0,[]⟩,0):=by
 unfold fB at h⊢;by_cases c1:au b≠0
 ·rw [if_pos c1] at h;exact absurd c1 h
 rw [if_neg c1] at h⊢;by_cases c2:b.role≠3
 ·rw [if_pos c2] at h;exact absurd (by decide) h
 rw [if_neg c2] at h⊢;by_cases c3:ep≤b.ep
 ·rw [if_pos c3] at h;exact absurd (by decide) h
 rw [if_neg c3];exact ⟨Classical.not_not.1 c2,by omega,rfl⟩
theorem afx {ep:Int} (h: ¬ (iB b ep).2≠0):b.role=0∧b.ep<ep∧iB b ep=(⟨1,ep,0,0,0,[]⟩,0):=by
 unfold iB at h⊢;by_cases c1:au b≠0
 ·rw [if_pos c1] at h;exact absurd c1 h
 rw [if_neg c1] at h⊢;by_cases c2: ¬ (1≤ep∧ep≤1048576)
 ·rw [if_pos c2] at h;exact absurd (by decide) h
 rw [if_neg c2] at h⊢;by_cases c3:b.role≠0
 ·rw [if_pos c3] at h;exact absurd (by decide) h
 rw [if_neg c3] at h⊢;by_cases c4:ep≤b.ep
 ·rw [if_pos c4] at h;exact absurd (by decide) h
 rw [if_neg c4];exact ⟨Classical.not_not.1 c3,by omega,rfl⟩
theorem go_ok {tg:Int} (h:(xW b tg).2=0):b.role=1∧0≤tg∧tg≤4∧xW b tg=(⟨2,b.ep,0,tg,0,b.evs⟩,0):=by
 unfold xW at h⊢;by_cases c1:au b≠0
 ·rw [if_pos c1] at h;exact absurd h c1
 rw [if_neg c1] at h⊢;by_cases c2: ¬ (0≤tg∧tg≤4)
 ·rw [if_pos c2] at h;exact absurd h (by decide)
 rw [if_neg c2] at h⊢;by_cases c3:b.role=2∨b.role=3
 ·rw [if_pos c3] at h;exact absurd h (by decide)
 rw [if_neg c3] at h⊢;by_cases c4:b.role≠1
 ·rw [if_pos c4] at h;exact absurd h (by decide)
 rw [if_neg c4] at h⊢;by_cases c5:b.ep=1048576
 ·rw [if_pos c5] at h;exact absurd h (by decide)
 rw [if_neg c5];have c2':=Classical.not_not.1 c2;exact ⟨Classical.not_not.1 c4,c2'.1,c2'.2,rfl⟩
theorem U1 (hr:b.role=1) (h: ¬ (eO b).2≠0):au ⟨1,b.ep,0,0,0,b.evs++[bU]⟩=0∧eO b=(⟨1,b.ep,0,0,0,b.evs++[bU]⟩,0):=by
 unfold eO at h⊢;by_cases c1:au b≠0
 ·rw [if_pos c1] at h;exact absurd c1 h
 rw [if_neg c1] at h⊢;rw [if_neg (by omega)] at h⊢;by_cases c3:au ⟨1,b.ep,0,0,0,b.evs++[bU]⟩≠0
 ·rw [if_pos c3] at h;exact absurd (by decide) h
 rw [if_neg c3];exact ⟨Classical.not_not.1 c3,rfl⟩
theorem Xz {hv:Int} (h: ¬ (iT b hv).2.2≠0):(b.role=2∨b.role=3)∧0≤hv∧hv≤b.evs.length∧iT b hv=((b.evs.drop hv.toNat).take 3,decide (b.role=3∧b.evs.length≤hv.toNat+3),0):=by
 unfold iT at h⊢;by_cases c1:au b≠0
 ·rw [if_pos c1] at h;exact absurd c1 h
 rw [if_neg c1] at h⊢;by_cases c2:b.role≠2∧b.role≠3
 ·rw [if_pos c2] at h;exact absurd (by decide) h
 rw [if_neg c2] at h⊢;by_cases c3: ¬ (0≤hv∧hv≤b.evs.length)
 ·rw [if_pos c3] at h;exact absurd (by decide) h
 rw [if_neg c3];have c3':=Classical.not_not.1 c3;exact ⟨by omega,c3'.1,c3'.2,rfl⟩
end
structure uM (X:Nd) (rs us:List dx):Prop where
 data:X.data=bW (rs++us)
 syn:X.syn=(bW rs).length
 tape:gT rs fun q=>kV (X.bs q)
 nY: ∀ q,q<4→au (X.bs q)=0
 XA:X.pend=none→us=[]
 XB: ∀ p,X.pend=some p→us=p.rs X.bs∧p.ok X.bs∧p.q<4
 len:X.data.length≤100000
structure DJ (X:Nd) (rs:List dx) (t:List UInt8) (f:Nat→bO):Prop where
 data:X.data=bW rs++t
 anC:(firstM t).2=0
 tape:gT rs f
 nY: ∀ q,q<4→au (f q)=0∧(f q).role≠2
 syn:0≤X.syn∧X.syn≤X.data.length
 len:X.data.length≤100000
 zN:X.pend=none
 mY:X.inbox=[]
 bz: ∀ q,q<4→au (X.bs q)=0
theorem afy:au bD=0:=lI (.inl ⟨rfl,by decide,by decide,rfl,rfl,rfl,rfl⟩) xY
def DK (X:Nd):Prop:=(X.up=true∧ ∃ rs us,uM X rs us)∨(X.up=false∧ ∃ rs t f,DJ X rs t f)
section
variable {X:Nd} {rs us:List dx} {t:List UInt8} {f:Nat→bO} {q:Nat} {p:gX}
theorem DK.XC (h:DK X) (hu:X.up=true): ∃ rs us,uM X rs us:=h.elim (fun h=>h.2) fun h=>by rw [h.1] at hu;cases hu
theorem DK.avI (h:DK X) (hu:X.up=false): ∃ rs t f,DJ X rs t f:=h.elim (fun h=>by rw [h.1] at hu;cases hu) fun h=>h.2
theorem uM.may (h:uM X rs us):cu X.data X.syn=true:=by
 have h1:=h.len;have h2:=h.data;rw [kE] at h2;have h3:=congrArg List.length h2;rw [List.length_append] at h3;simp only [cu,h.syn,Bool.and_eq_true,decide_eq_true_eq];omega
theorem DJ.may (h:DJ X rs t f):cu X.data X.syn=true:=by
 simp only [cu,Bool.and_eq_true,decide_eq_true_eq];exact ⟨⟨h.len,h.syn.1⟩,h.syn.2⟩
theorem DJ.rd (h:DJ X rs t f):jf X.data X.syn=(bW rs,min X.syn (bW rs).length,0)∧Ad X.data X.syn=some (vB f)∧ ∀ q,q<4→bQ X.data X.syn q=f q:=h.tape.read h.data h.anC h.len h.syn.1 h.syn.2
theorem DJ.view (h:DJ X rs t f) (hu:X.up=false) (hq:q<4):X.view q=f q:=by
 unfold Nd.view;rw [if_neg (by rw [hu];simp)];exact h.rd.2.2 q hq
theorem afz (hu:X.up=true):X.view=X.bs:=if_pos hu
def ML (bs:Nat→bO) (p:gX) (x:bO):Prop:=
 x=kV (bs p.q)∨x=kV (p.b bs)∨ ∃ q b last j,p= .got q b last∧x={ bs q with evs:=b.evs.take ((bs q).evs.length+j) }∧(bs q).evs.length+j+(if last=true then 1 else 0)≤b.evs.length
theorem Rt {b:bO} (h:b.role=4∨b.role=0∨b.role=3∨b.role=1):kV b=b:=Ot (by omega)
theorem afA {bs:Nat→bO} {b:bO}:upd (fun q=>kV (bs q)) q (kV b)=fun k=>kV (upd bs q b k):=by
 funext k
 unfold upd
 split<;>rfl
theorem imports {bs:Nat→bO} {ep:Int} {es:List Ev} (h:gT rs fun q=>kV (bs q)) (hb:au (bs q)=0) (hr:(bs q).role=4) (gG:(bs q).ep=ep) (hq:q<4) (hg:good es) (he:(bs q).evs=es.take (bs q).evs.length):
  ∀ j,(bs q).evs.length+j≤es.length→gT (rs++((es.drop (bs q).evs.length).take j).map fun x=>fq 5 q ep 0 x) (upd (fun q=>kV (bs q)) q { bs q with evs:=es.take ((bs q).evs.length+j) })
 | 0,_=>by
  rw [Nat.add_zero,←he,List.take_zero,List.map_nil,List.append_nil];exact h.congr fun k _=>by
   unfold upd
   split
   ·rename_i e;subst e;exact Rt (.inl hr)
   rfl
 | j+1,hj=>by
  have ih:=imports h hb hr gG hq hg he j (by omega);have hk:(bs q).evs.length+j<es.length:=by omega
  have e1:(es.drop (bs q).evs.length).take (j+1)=(es.drop (bs q).evs.length).take j++[es[(bs q).evs.length+j]]:=by
   rw [zf (by rw [List.length_drop];omega),List.getElem_drop]
  have hg2:good (es.take ((bs q).evs.length+j)++[es[(bs q).evs.length+j]]):=by rw [←zf hk];exact ze hg
  have hb2:au { bs q with evs:=es.take ((bs q).evs.length+j) }=0:=lI (nG (fU hb) (by omega) _) (ze hg);obtain ⟨h1,h2,h3⟩:=Xk (b:={ bs q with evs:=es.take ((bs q).evs.length+j) }) hb2 hr gG hq (Gr rfl hg _ (List.getElem_mem hk)) hg2;rw [e1,List.map_append,←List.append_assoc];have:=ih.snoc (q:=q) h2 hq rfl (by rw [upd_same];exact h1);refine this.congr fun k _=>?_
  unfold upd
  split
  ·dsimp only;rw [←zf hk,Nat.add_assoc]
  rfl
theorem FX {bs:Nat→bO} {r:dx} {x:bO} (h:gT rs fun q=>kV (bs q)) (hq:q<4) (hr:aP r=0) (hrq:r.queue=q) (ha:dN (kV (bs q)) r=(kV x,0)):gT (rs++[r]) fun k=>kV (upd bs q x k):=by
 rw [←afA];exact h.snoc hr hq hrq ha
theorem Kt {bs:Nat→bO} {b:bO} {last:Bool} (hp:(gX.got q b last).ok bs): ∃ es,good es∧(bs q).evs=es.take (bs q).evs.length∧(bs q).evs.length≤es.length∧es=b.evs.take es.length∧es.length+(if last=true then 1 else 0)=b.evs.length∧b.ep=(bs q).ep∧
  (gX.got q b last).rs bs=((es.drop (bs q).evs.length).map fun x=>fq 5 q b.ep 0 x)++if last=true then [fq 6 q b.ep 0 aT] else []:=by
 obtain ⟨h1,h2,h3,h4,h5⟩:=hp;have hlen: ∀ {es:List Ev},(bs q).evs=es.take (bs q).evs.length→(bs q).evs.length≤es.length:=fun {es} h=>by
  have:=congrArg List.length h;rw [List.length_take] at this;omega
 cases last with
 | false=>
  obtain ⟨h6,h7⟩:=h4 rfl;refine ⟨b.evs,h2,h7,hlen h7,by rw [List.take_length],by simp,by rw [h6],?_⟩;unfold gX.rs sM;simp
 | true=>
  obtain ⟨es,h6,h7⟩:=h5 rfl;subst h6;refine ⟨es,Oo h2,h7,hlen h7,by simp,by simp,rfl,?_⟩;unfold gX.rs sM;simp
theorem vP (h:gT rs fun q=>kV (X.bs q)) (hb: ∀ q,q<4→au (X.bs q)=0) (hp:p.ok X.bs) (hq:p.q<4):gT (rs++p.rs X.bs) (fun k=>kV (upd X.bs p.q (p.b X.bs) k))∧au (p.b X.bs)=0:=by
 have hbq:=hb _ hq
 cases p with
 | serve q evs op num a=>
  obtain ⟨h1,h2,h3,h4⟩:=hp;have hbq:au (X.bs q)=0:=hbq;have hr:(X.bs q).role≠0:=by unfold serves at h1;omega
  have hb2:au { X.bs q with evs:=evs }=0:=lI (nG (fU hbq) hr _) h4;have hd:=wM h1 hbq;have hd2:kV { X.bs q with evs:=evs }=⟨1,(X.bs q).ep,0,0,0,evs⟩:=wM (b:={ X.bs q with evs:=evs }) h1 hb2;obtain ⟨a1,a2⟩:=Oq (b:=kV (X.bs q)) (q:=q) (e:=op) (sN hbq) (by rw [hd]) QC hq h3 (by rw [afo,←h2];exact h4);refine ⟨FX h hq a2 rfl ?_,hb2⟩
  show dN (kV (X.bs q)) (fq 2 q (X.bs q).ep 0 op)=(kV { X.bs q with evs:=evs },0)
  rw [a1,hd2,hd,h2]
 | begun q b=>
  obtain ⟨h1,e,f,rfl,h2,h3,h4,h5,h6⟩:=hp;have hd:kV (X.bs q)=X.bs q:=Rt (by omega);obtain ⟨a1,a2⟩:=abn (q:=q) hbq h1 h2 ⟨h3,h4⟩ hq ⟨h5,h6⟩;refine ⟨FX h hq a2 rfl ?_,lI (.inr ⟨h3,h4,.inr (.inr (.inr ⟨rfl,h5,by show f<5;omega,rfl,rfl⟩))⟩) xY⟩
  show dN (kV (X.bs q)) _=_
  rw [hd];exact a1
 | got q b last=>
  obtain ⟨es,g1,g2,g3,g4,g5,g6,g7⟩:=Kt hp;have hr:(X.bs q).role=4:=hp.1;have hgb:good b.evs:=hp.2.1;have hbq:au (X.bs q)=0:=hbq;have hs:=fU hbq;unfold bn at hs;have hi:=imports h hbq hr g6.symm hq g1 g2 (es.length-(X.bs q).evs.length) (by omega);rw [show (X.bs q).evs.length+(es.length-(X.bs q).evs.length)=es.length by omega,List.take_length,List.take_of_length_le (by rw [List.length_drop];omega)] at hi;rw [g7]
  cases last with
  | false=>
   have e1:=(hp.2.2.2.1 rfl).1;have e2:es=b.evs:=by rw [g4];simp only [Bool.false_eq_true,if_false,Nat.add_zero] at g5;rw [g5,List.take_length]
   subst e2;simp only [Bool.false_eq_true,if_false,List.append_nil];have hr0:(X.bs q).role≠0:=by rw [hr];decide
   have hbk:au b=0:=by rw [e1];exact lI (nG (fU hbq) hr0 _) hgb
   refine ⟨hi.congr fun k _=>?_,hbk⟩
   show _=kV (upd X.bs q b k)
   unfold upd
   split
   ·rw [←e1];exact (Rt (.inl (by rw [e1];exact hr))).symm
   rfl
  | true=>
   obtain ⟨es',e1,e2⟩:=hp.2.2.2.2 rfl;have e3:es=es':=by rw [g4,e1];rw [e1] at g5;simp only [if_true,List.length_append,List.length_singleton] at g5;rw [show es.length=es'.length by omega];simp
   subst e3;subst e1;have hr0:(X.bs q).role≠0:=by rw [hr];decide
   have hb2:au { X.bs q with evs:=es }=0:=lI (nG (fU hbq) hr0 _) g1;obtain ⟨a1,a2⟩:=akY (b:={ X.bs q with evs:=es }) (q:=q) hb2 hr rfl hq hgb;have hk:=lI (b:=⟨1,(X.bs q).ep,0,0,0,es++[bU]⟩) (zh (by omega) (by omega) _) hgb;simp only [if_true];rw [←List.append_assoc];have:=hi.snoc (q:=q) a2 hq rfl (by rw [upd_same];exact a1);refine ⟨this.congr fun k _=>?_,hk⟩
   show _=kV (upd X.bs q _ k)
   unfold upd
   split
   ·rfl
   rfl
 | kN q b at_=>
  obtain ⟨h1,rfl⟩:=hp;have hbq:au (X.bs q)=0:=hbq;have hs:=fU hbq;unfold bn at hs;have hd:=wM (.inr h1) hbq;obtain ⟨a1,a2⟩:=afn (b:=kV (X.bs q)) (q:=q) (tg:=(X.bs q).tg) (sN hbq) (by rw [hd]) QC hq (by omega);rw [QC] at a1;have hbk:au { X.bs q with role:=3,rd:=0 }=0:=lI (.inr ⟨by show 1≤(X.bs q).ep;omega,by show (X.bs q).ep≤_;omega,.inr (.inr (.inl ⟨rfl,by show (X.bs q).fr=0;omega,by show 0≤(X.bs q).tg;omega,by show (X.bs q).tg<5;omega,rfl⟩))⟩) (iO (b:=X.bs q) hbq);refine ⟨FX h hq a2 rfl ?_,hbk⟩
  show dN (kV (X.bs q)) (fq 3 q (X.bs q).ep (X.bs q).tg aT)=(kV { X.bs q with role:=3,rd:=0 },0)
  rw [a1,Rt (b:={ X.bs q with role:=3,rd:=0 }) (.inr (.inr (.inl rfl))),hd]
  show ((⟨3,(X.bs q).ep,0,(X.bs q).tg,0,(X.bs q).evs⟩:bO),(0:Int))=(⟨3,(X.bs q).ep,(X.bs q).fr,(X.bs q).tg,0,(X.bs q).evs⟩,0)
  have:(X.bs q).fr=0:=by omega
  rw [this]
 | forget q b=>
  obtain ⟨h1,rfl⟩:=hp;have hbq:au (X.bs q)=0:=hbq;have hs:=fU hbq;unfold bn at hs;obtain ⟨a1,a2⟩:=Xl (q:=q) hbq h1 rfl hq;refine ⟨FX h hq a2 rfl ?_,lI (.inl ⟨rfl,by show 0≤(X.bs q).ep;omega,by show (X.bs q).ep≤_;omega,rfl,rfl,rfl,rfl⟩) xY⟩
  show dN (kV (X.bs q)) _=_
  rw [Rt (.inr (.inr (.inl h1)))];exact a1
theorem QD {bs:Nat→bO} (hb: ∀ q,q<4→au (bs q)=0) (hq:q<4):au (kV (bs q))=0∧(kV (bs q)).role≠2:=⟨sN (hb q hq),Gm⟩
theorem XD (h:gT rs fun q=>kV (X.bs q)) (hb: ∀ q,q<4→au (X.bs q)=0) (hp:p.ok X.bs) (hq:p.q<4) (j:Nat):
  ∃ f',gT (rs++(p.rs X.bs).take j) f'∧(∀ q,q<4→q≠p.q→f' q=kV (X.bs q))∧ML X.bs p (f' p.q)∧au (f' p.q)=0∧(f' p.q).role≠2:=by
 obtain ⟨hf,hfb⟩:=vP h hb hp hq;have full: ∃ f',gT (rs++p.rs X.bs) f'∧(∀ q,q<4→q≠p.q→f' q=kV (X.bs q))∧ML X.bs p (f' p.q)∧au (f' p.q)=0∧(f' p.q).role≠2:=
  ⟨_,hf,fun q _ hne=>by rw [upd_ne hne],.inr (.inl (by rw [upd_same])),by rw [upd_same];exact sN hfb,Gm⟩
 have zero: ∃ f',gT (rs++([]:List dx)) f'∧(∀ q,q<4→q≠p.q→f' q=kV (X.bs q))∧ML X.bs p (f' p.q)∧au (f' p.q)=0∧(f' p.q).role≠2:=
  ⟨_,by rw [List.append_nil];exact h,fun _ _ _=>rfl,.inl rfl,sN (hb _ hq),Gm⟩
 have one: ∀ r,p.rs X.bs=[r]→ ∃ f',gT (rs++(p.rs X.bs).take j) f'∧(∀ q,q<4→q≠p.q→f' q=kV (X.bs q))∧ML X.bs p (f' p.q)∧au (f' p.q)=0∧(f' p.q).role≠2:=fun r hr=>by
  cases j with
  | zero=>rw [List.take_zero];exact zero
  | succ j=>rw [hr,List.take_of_length_le (by simp),←hr];exact full
 cases p with
 | serve q evs op num a=>exact one _ rfl
 | begun q b=>exact one _ rfl
 | kN q b at_=>exact one _ rfl
 | forget q b=>exact one _ rfl
 | got q b last=>
  obtain ⟨es,g1,g2,g3,g4,g5,g6,g7⟩:=Kt hp;have hr:(X.bs q).role=4:=hp.1;by_cases hj:j≤es.length-(X.bs q).evs.length
  ·have hbq:au (X.bs q)=0:=hb _ hq;have hi:=imports h hbq hr g6.symm hq g1 g2 j (by omega);have e1:((gX.got q b last).rs X.bs).take j=((es.drop (X.bs q).evs.length).take j).map fun x=>fq 5 q b.ep 0 x:=by
    rw [g7,List.take_append_of_le_length (by rw [List.length_map,List.length_drop];omega),List.map_take]
   have e2:es.take ((X.bs q).evs.length+j)=b.evs.take ((X.bs q).evs.length+j):=by
    rw [g4,List.take_take,Nat.min_eq_left (by omega)]
   rw [e1];refine ⟨_,hi,fun k _ hk=>upd_ne hk,?_,?_,?_⟩
   ·refine .inr (.inr ⟨q,b,last,j,rfl,?_,by omega⟩)
    show upd _ q _ q=_
    rw [upd_same,e2]
   ·show au (upd _ q _ q)=0
    rw [upd_same];exact lI (nG (fU hbq) (by omega) _) (ze g1)
   show (upd (fun q=>kV (X.bs q)) q { X.bs q with evs:=es.take ((X.bs q).evs.length+j) } q).role≠2
   rw [upd_same]
   show (X.bs q).role≠2
   omega
  have:((gX.got q b last).rs X.bs).take j=(gX.got q b last).rs X.bs:=by
   refine List.take_of_length_le ?_;rw [g7,List.length_append,List.length_map,List.length_drop]
   cases last<;>simp<;>omega
  rw [this];exact full
end
def Nd.crashed (X:Nd) (keep:Int):Nd:={ X.blank with up:=false,data:=(nI X.data X.syn keep).1,syn:=(nI X.data X.syn keep).2.1 }
section
variable {X:Nd} {rs us:List dx} {t:List UInt8} {f:Nat→bO} {q:Nat} {p:gX} {keep:Int}
theorem abv (h:uM X rs us) (hk:0≤keep): ∃ rs' t f,DJ (X.crashed keep) rs' t f∧ ∀ q,q<4→f q=kV (X.bs q)∨ ∃ p,X.pend=some p∧p.q=q∧ML X.bs p (f q):=by
 have hm:=h.may;have hd:X.data=bW rs++bW us:=by rw [h.data,kE]
 have hl:=congrArg List.length hd;rw [List.length_append] at hl;have hs:=h.syn;obtain ⟨N,h1,h2,e⟩: ∃ N:Nat,(bW rs).length≤N∧N≤X.data.length∧nI X.data X.syn keep=(X.data.take N,(N:Int),0):=by
  unfold nI;rw [if_pos hm,if_neg (by omega)];by_cases c:(X.data.length:Int)-X.syn<keep
  ·rw [if_pos c];exact ⟨X.data.length,by omega,Nat.le_refl _,by rw [List.take_length]⟩
  rw [if_neg c];refine ⟨(X.syn+keep).toNat,by omega,by omega,?_⟩;rw [show (((X.syn+keep).toNat:Nat):Int)=X.syn+keep by omega]
 obtain ⟨j,t,g1,g2,g3⟩:=J9 us (N-(bW rs).length) (by omega);have e2:X.data.take N=bW (rs++us.take j)++t:=by
  rw [hd,List.take_append,List.take_of_length_le h1,g1,kE,List.append_assoc]
 have hlen:(X.data.take N).length=N:=by rw [List.length_take];omega
 have key: ∀ f,gT (rs++us.take j) f→(∀ q,q<4→au (f q)=0∧(f q).role≠2)→DJ (X.crashed keep) (rs++us.take j) t f:=fun f hf hb=>by
  have hd':(X.crashed keep).data=X.data.take N:=by unfold Nd.crashed;dsimp only;rw [e]
  have hs':(X.crashed keep).syn=N:=by unfold Nd.crashed;dsimp only;rw [e]
  have:=h.len;exact ⟨by rw [hd',e2],g2,hf,hb,by rw [hd',hs',hlen];omega,by rw [hd',hlen];omega,rfl,rfl,fun _ _=>afy⟩
 cases hp:X.pend with
 | none=>
  have hu:=h.XA hp;refine ⟨_,t,fun q=>kV (X.bs q),key _ ?_ fun q hq=>QD h.nY hq,fun q _=> .inl rfl⟩;rw [hu,List.take_nil,List.append_nil];exact h.tape
 | some p=>
  obtain ⟨hu,hpo,hq⟩:=h.XB p hp;obtain ⟨f',f1,f2,f3,f4,f5⟩:=XD h.tape h.nY hpo hq j;rw [←hu] at f1;refine ⟨_,t,f',key _ f1 fun q hq4=>?_,fun q hq4=>?_⟩
  ·by_cases c:q=p.q
   ·subst c;exact ⟨f4,f5⟩
   rw [f2 q hq4 c];exact QD h.nY hq4
  by_cases c:q=p.q
  ·subst c;exact .inr ⟨p,rfl,rfl,f3⟩
  exact .inl (f2 q hq4 c)
def ny (b:bO):bO:=⟨1,b.ep,0,0,0,b.evs++[bU]⟩
theorem K7 {s:Int} {f:Nat→bO}: ∀ {ql:List Nat} {rs:List dx} {g:Nat→bO} {d:List UInt8},ql.Nodup→(∀ q∈ql,q<4∧g q=f q)→gT rs g→(∀ q,q<4→au (g q)=0)→(bW rs).length≤100000→dV s f ql (bW rs)=some d→
  ∃ ws,d=bW (rs++ws)∧gT (rs++ws) (fun q=>if q∈ql∧(f q).role=1 then ny (f q) else g q)∧d.length≤100000∧ ∀ q∈ql,(f q).role=1→au (ny (f q))=0∧eO (f q)=(ny (f q),0)
 | [],rs,g,d,_,_,hT,hb,hl,h=>by
  cases h;exact ⟨[],by simp,by simpa using hT,hl,by simp⟩
 | q::r,rs,g,d,hnd,hq,hT,hb,hl,h=>by
  rw [dV] at h;obtain ⟨h1,h2⟩:=List.nodup_cons.1 hnd;obtain ⟨hq4,hgq⟩:=hq q (by simp);by_cases c1:(f q).role≠1
  ·rw [if_pos c1] at h;obtain ⟨ws,e1,e2,e3,e4⟩:=K7 h2 (fun k hk=>hq k (by simp [hk])) hT hb hl h;refine ⟨ws,e1,e2.congr fun k _=>?_,e3,fun k hk hr=>?_⟩
   ·by_cases e:k=q
    ·subst e;rw [if_neg (fun h=>c1 h.2),if_neg (fun h=>c1 h.2)]
    simp [e]
   rcases List.mem_cons.1 hk with rfl | hk
   ·exact absurd hr c1
   exact e4 k hk hr
  rw [if_neg c1] at h;by_cases c2:(eO (f q)).2≠0
  ·rw [if_pos c2] at h;cases h
  rw [if_neg c2] at h;have hr1:=Classical.not_not.1 c1;obtain ⟨k1,k2⟩:=U1 hr1 c2
  split at h
  ·cases h
  rename_i d' hw
  obtain ⟨w1,w2,w3⟩:=u7 hw;have hd':d'=bW (rs++[fq 2 q (f q).ep 0 bU]):=by rw [w1,kE]
  have hbq:=hb q hq4;obtain ⟨a1,a2⟩:=Oq (b:=g q) (q:=q) (e:=bU) hbq (by rw [hgq];exact hr1) rfl hq4 (by decide) (by rw [hgq];exact (dJ k1).2);rw [hgq] at a1 a2 hbq;have hs:=fU hbq;unfold bn at hs;have hx:({ f q with evs:=(f q).evs++[bU] }:bO)=ny (f q):=by
   unfold ny;simp only [bO.mk.injEq,and_true,true_and];omega
  rw [hx] at a1;have hT2:=hT.snoc (q:=q) a2 hq4 rfl (by rw [hgq];exact a1);rw [hd'] at h;obtain ⟨ws,e1,e2,e3,e4⟩:=K7 h2 (g:=upd g q (ny (f q))) (fun k hk=>⟨(hq k (by simp [hk])).1,by rw [upd_ne (fun e:k=q=>h1 (e▸hk))];exact (hq k (by simp [hk])).2⟩) hT2
   (fun k hk=>by
    by_cases e:k=q
    ·subst e;rw [upd_same];exact k1
    rw [upd_ne e];exact hb k hk) (by rw [←hd'];exact w3 hl) h
  refine ⟨fq 2 q (f q).ep 0 bU::ws,by rw [e1,List.append_assoc];rfl,?_,e3,fun k hk hr=>?_⟩
  ·rw [show rs++fq 2 q (f q).ep 0 bU::ws=rs++[fq 2 q (f q).ep 0 bU]++ws by rw [List.append_assoc];rfl];refine e2.congr fun k _=>?_
   by_cases e:k=q
   ·subst e;rw [if_neg (fun h=>h1 h.1),upd_same,if_pos ⟨by simp,hr1⟩]
   rw [upd_ne e];simp [e]
  rcases List.mem_cons.1 hk with rfl | hk
  ·exact ⟨k1,k2⟩
  exact e4 k hk hr
end
section
variable {n q:Nat} {evs:List Ev} {an:List iK} {bs:Nat→bO}
structure rE (m m':Cl):Prop where
 av:m'.av=m.av
 off:m'.off=m.off
 fly:m'.fly=m.fly
 aM:m'.aM=m.aM
 calls:m'.calls=m.calls
theorem rE.refl (m:Cl):rE m m:=⟨rfl,rfl,rfl,rfl,rfl⟩
theorem rE.trans {a b c:Cl} (h:rE a b) (h':rE b c):rE a c:=⟨h'.av.trans h.av,h'.off.trans h.off,h'.fly.trans h.fly,h'.aM.trans h.aM,h'.calls.trans h.calls⟩
theorem Ku (m:Cl) {e:Ev} {a:iK} {u:Int}:rE m (m.tell n q e a u):=⟨rfl,rfl,rfl,rfl,rfl⟩
theorem zm: ∀ (il:List Nat) (m:Cl),rE m (m.recovered n q evs an il)∧(m.recovered n q evs an il).aH.length=m.aH.length+il.length
 | [],m=>⟨.refl m,rfl⟩
 | i::r,m=>by
  obtain ⟨h1,h2⟩:=zm r (m.tell n q (evs.getD i aT) (an.getD i gF) (-1));rw [Cl.recovered];refine ⟨(Ku m).trans h1,?_⟩;rw [h2];unfold Cl.tell;simp only [List.length_append,List.length_cons,List.length_nil];omega
theorem CU (m:Cl) (hl:((m.av n).bs q).evs.length≤2000):rE m (m.recover n q)∧(m.recover n q).aH.length≤m.aH.length+2000:=by
 unfold Cl.recover
 split
 ·exact ⟨Ku m,by simp [Cl.tell]⟩
 obtain ⟨h1,h2⟩:=zm (n:=n) (q:=q) (evs:=((m.av n).bs q).evs) (an:=(aV ((m.av n).bs q).evs).2.1) ((List.range ((m.av n).bs q).evs.length).drop (m.shown n q).2.toNat) m;refine ⟨h1,?_⟩;rw [h2,List.length_drop,List.length_range];omega
structure OG (m m':Cl) (n:Nat) (bs:Nat→bO):Prop where
 av:m'.av=upd m.av n { m.av n with bs:=bs }
 off:m'.off=m.off
 fly:m'.fly=m.fly
 aM:m'.aM=m.aM
 calls:m'.calls=m.calls
theorem AQ: ∀ (ql:List Nat) (m:Cl),ql.Nodup→(∀ q∈ql,(m.av n).bs q=bs q∧(bs q).evs.length≤2000)→
  OG m (Cl.woken n bs ql m) n (fun q=>if q∈ql∧(bs q).role=1 then (eO (bs q)).1 else (m.av n).bs q)∧(Cl.woken n bs ql m).aH.length≤m.aH.length+2001*ql.length
 | [],m,_,_=>by
  refine ⟨⟨?_,rfl,rfl,rfl,rfl⟩,Nat.le_refl _⟩
  show m.av=_
  refine (aQ ?_).symm;simp
 | q::r,m,hnd,hq=>by
  obtain ⟨h1,h2⟩:=List.nodup_cons.1 hnd;obtain ⟨hq1,hq2⟩:=hq q (by simp);rw [Cl.woken];by_cases c:(bs q).role≠1
  ·rw [if_pos c];obtain ⟨g1,g2⟩:=AQ r m h2 fun k hk=>hq k (by simp [hk])
   refine ⟨⟨?_,g1.off,g1.fly,g1.aM,g1.calls⟩,by rw [List.length_cons];omega⟩;rw [g1.av];refine congrArg (fun b=>upd m.av n { m.av n with bs:=b }) (funext fun k=>?_);by_cases e:k=q
   ·subst e;rw [if_neg (fun h=>c h.2),if_neg (fun h=>c h.2)]
   simp [e]
  rw [if_neg c];obtain ⟨r1,r2⟩:=CU (n:=n) (q:=q) m (by rw [hq1];exact hq2);have e1:((((m.recover n q).dS n q (eO (bs q)).1).tell n q bU gF (-1)).av)=upd m.av n { m.av n with bs:=upd (m.av n).bs q (eO (bs q)).1 }:=by
   show upd (m.recover n q).av n { (m.recover n q).av n with bs:=upd ((m.recover n q).av n).bs q (eO (bs q)).1 }=_
   rw [r1.av]
  obtain ⟨g1,g2⟩:=AQ r (((m.recover n q).dS n q (eO (bs q)).1).tell n q bU gF (-1)) h2 fun k hk=>by
   rw [e1,upd_same];dsimp only;rw [upd_ne (fun e:k=q=>h1 (e▸hk))];exact hq k (by simp [hk])
  refine ⟨⟨?_,g1.off.trans r1.off,g1.fly.trans r1.fly,g1.aM.trans r1.aM,g1.calls.trans r1.calls⟩,?_⟩
  ·rw [g1.av,e1,K6,upd_same];refine congrArg (fun b=>upd m.av n { m.av n with bs:=b }) (funext fun k=>?_)
   show (if k∈r∧(bs k).role=1 then (eO (bs k)).1 else upd (m.av n).bs q (eO (bs q)).1 k)=if k∈q::r∧(bs k).role=1 then (eO (bs k)).1 else (m.av n).bs k
   by_cases e:k=q
   ·subst e;rw [if_neg (fun h=>h1 h.1),upd_same,if_pos ⟨by simp,Classical.not_not.1 c⟩]
   rw [upd_ne e];simp [e]
  have:(((m.recover n q).dS n q (eO (bs q)).1).tell n q bU gF (-1)).aH.length=(m.recover n q).aH.length+1:=by
   unfold Cl.tell;simp [Cl.dS,Cl.put]
  rw [this] at g2;rw [List.length_cons];omega
end
def Src (b:bO) (l:jI):gX→Prop
 | .serve _ _ op num a=>l.kd=0∧op=l.op∧num=l.num∧a=(jF (aV b.evs).1 l.op).2.1∧l.op.kind≠4∧b.evs.length<1999
 | .begun _ x=>l.kd=2∧x=⟨4,l.ep,l.fr,0,0,[]⟩
 | .got _ x last=>l.kd=4∧b.fr=l.fr∧b.ep=l.ep∧0≤l.at_∧l.at_≤b.evs.length∧(b.evs.drop l.at_.toNat).take l.evs.length=l.evs.take (b.evs.length-l.at_.toNat)∧b.evs.length≤l.at_.toNat+l.evs.length∧last=l.last∧x=xQ b l.at_ l.evs l.last
 | .kN _ _ a=>l.kd=3∧b.tg=l.fr∧b.ep+1=l.ep∧a=l.at_∧0≤l.at_∧l.at_≤b.evs.length
 | .forget _ _=>l.kd=6∧b.ep<l.ep
inductive Hnd (m:Cl) (n:Nat) (l:jI):Cl→Prop
 | same:Hnd m n l m
 | done (a:iK):l.kd=0→((gQ ((m.av n).bs l.q) l.op).2.2.1=false∧a=(gQ ((m.av n).bs l.q) l.op).2.1∨
   a=qD 14∧serves ((m.av n).bs l.q)∧bE l.op=0∧eD (m.av n).data (m.av n).syn [fq 2 l.q ((m.av n).bs l.q).ep 0 l.op]=none∧good (((m.av n).bs l.q).evs++[l.op]))→Hnd m n l (m.done n l.q l.op l.num a)
 | have_:((m.av n).bs l.q).role=4→Hnd m n l (m.have_ n l.q)
 | part (b:bO):l.kd=3→0≤l.at_→l.at_≤((m.av n).bs l.q).evs.length→(((m.av n).bs l.q).role=2∧b={ (m.av n).bs l.q with rd:=((m.av n).bs l.q).rd+1 }∧((m.av n).bs l.q).rd≠4∨((m.av n).bs l.q).role=3∧b=(m.av n).bs l.q)→
   ((m.av n).bs l.q).tg=l.fr→au b=0→Hnd m n l ((m.dS n l.q b).part n l.q l.at_)
 | pend (p:gX) (Y:Nd) (d:List UInt8):(Y=m.av n∨l.kd=6∧Y=(m.av n).hear n l)→p.q=l.q→p.ok (m.av n).bs→eD (m.av n).data (m.av n).syn (p.rs (m.av n).bs)=some d→Src ((m.av n).bs l.q) l p→Hnd m n l (m.put n { Y with data:=d,pend:=some p })
 | hear:l.kd=6→Hnd m n l (m.put n ((m.av n).hear n l))
section
variable {m:Cl} {n:Nat} {l:jI}
theorem pY {X x:Nd} {rs:List dx} (h:X.write rs=some x): ∃ d,eD X.data X.syn rs=some d∧x={ X with data:=d }:=by
 unfold Nd.write at h;rw [Option.map_eq_some_iff] at h;obtain ⟨d,h1,h2⟩:=h;exact ⟨d,h1,h2.symm⟩
theorem Tw {X:Nd} {rs:List dx} (h:X.write rs=none):eD X.data X.syn rs=none:=by
 unfold Nd.write at h;rwa [Option.map_eq_none_iff] at h
theorem Tx {b:bO} {e:Ev} (h:au b=0) (hl:b.evs.length<1999) (hd:(jF (aV b.evs).1 e).2.2.1=true):good (b.evs++[e]):=Xh (iO h) (by omega) (afv hd) hd
theorem XE (hk:l.kd=0):Hnd m n l (m.serve n l):=by
 unfold Cl.serve
 split
 ·rename_i h
  exact .done _ hk (.inl ⟨h,rfl⟩)
 rename_i h
 obtain ⟨h1,h2,h3,h4,h5,h6,h7⟩:=Tt h;have hg:=Tx h1 h5 h4;rw [h7]
 split
 ·rename_i hw
  exact .done _ hk (.inr ⟨rfl,h3,h2,Tw hw,hg⟩)
 rename_i x hw
 obtain ⟨d,hd,rfl⟩:=pY hw;exact .pend (.serve l.q (((m.av n).bs l.q).evs++[l.op]) l.op l.num (jF (aV ((m.av n).bs l.q).evs).1 l.op).2.1) (m.av n) d (.inl rfl) rfl ⟨h3,rfl,h2,hg⟩ hd ⟨hk,rfl,rfl,rfl,h6,h5⟩
theorem P6 (hk:l.kd=2):Hnd m n l (m.offered n l):=by
 unfold Cl.offered
 split
 ·exact .same
 rename_i h
 split
 ·rename_i h2
  exact .have_ (Tv h h2).1
 rename_i h2
 obtain ⟨h3,h4,h5,h6,h7,h8,h9⟩:=abu h h2;rw [h9]
 split
 ·exact .same
 rename_i x hw
 obtain ⟨d,hd,rfl⟩:=pY hw;exact .pend (.begun l.q ⟨4,l.ep,l.fr,0,0,[]⟩) (m.av n) d (.inl rfl) rfl ⟨h3,l.ep,l.fr,rfl,h4,h5,h6,h7,h8⟩ hd ⟨hk,rfl⟩
theorem Tz (hb:au ((m.av n).bs l.q)=0) (hk:l.kd=3):Hnd m n l (m.caught n l):=by
 unfold Cl.caught
 split
 ·exact .same
 rename_i h0
 split
 ·exact .same
 rename_i h
 obtain ⟨h1,h2,h3⟩:=MK h;have vW:((m.av n).bs l.q).tg=l.fr:=by
  by_cases e:((m.av n).bs l.q).tg=l.fr
  ·exact e
  exact absurd (.inl e) h0
 have gG:((m.av n).bs l.q).ep+1=l.ep:=by
  by_cases e:((m.av n).bs l.q).ep+1=l.ep
  ·exact e
  exact absurd (.inr e) h0
 have hcg:=Er hb (Classical.not_not.1 h)
 rcases h3 with ⟨h4,h5⟩ | ⟨h4,h6,h5⟩ | ⟨h4,h6,h5⟩
 ·rw [h5] at hcg⊢;rw [if_pos rfl];exact .part _ hk h1 h2 (.inr ⟨h4,rfl⟩) vW hcg
 ·rw [h5,if_neg (by show ¬ (3:Int)=_;omega)]
  split
  ·exact .same
  rename_i x hw
  obtain ⟨d,hd,rfl⟩:=pY hw;exact .pend (.kN l.q { (m.av n).bs l.q with role:=3,rd:=0 } l.at_) (m.av n) d (.inl rfl) rfl ⟨h4,rfl⟩ hd ⟨hk,vW,gG,rfl,h1,h2⟩
 rw [h5] at hcg⊢;rw [if_pos rfl];exact .part _ hk h1 h2 (.inl ⟨h4,rfl,fun e=>h6 (.inr e)⟩) vW hcg
theorem Kv {b:bO} {at_:Int} {l:List Ev}:b.evs=(Kr b at_ l).take b.evs.length:=by unfold Kr;rw [List.take_left]
theorem abw {b:bO} {at_:Int} {l:List Ev} (h0:0≤at_) (h1:at_≤b.evs.length) (h:b.evs.length≤at_.toNat+l.length):(Kr b at_ l).length=at_.toNat+l.length:=by
 unfold Kr;rw [List.length_append,List.length_drop];omega
theorem afB (hk:l.kd=4):Hnd m n l (m.got n l):=by
 unfold Cl.got
 split
 ·exact .same
 rename_i h0
 have hr:((m.av n).bs l.q).role=4:=by
  by_cases e:((m.av n).bs l.q).role=4
  ·exact e
  exact absurd (.inl e) h0
 have hfr:((m.av n).bs l.q).fr=l.fr:=by
  by_cases e:((m.av n).bs l.q).fr=l.fr
  ·exact e
  exact absurd (.inr e) h0
 split
 ·exact .have_ hr
 split
 ·exact .same
 rename_i h2 h3
 have h: ¬ (cB ((m.av n).bs l.q) l.ep l.at_ l.evs l.last).2≠0:=fun e=>h3 (.inl e)
 have hne: ¬ (cB ((m.av n).bs l.q) l.ep l.at_ l.evs l.last).1.evs.length=((m.av n).bs l.q).evs.length:=fun e=>h3 (.inr e)
 obtain ⟨g1,g2,g3,g4,g5,g6,g7,g8⟩:=Xx h;rw [g8] at hne⊢;have hlen:((m.av n).bs l.q).evs.length≤l.at_.toNat+l.evs.length:=by
  cases hl:l.last with
  | true=>exact g6 hl
  | false=>
   unfold xQ Kr at hne;rw [if_neg (by rw [hl];simp)] at hne;dsimp only at hne;rw [List.length_append,List.length_drop] at hne;omega
 have hil:=abw g3 g4 hlen;have hgd:=iO g7;have hrs:(gX.got l.q (xQ ((m.av n).bs l.q) l.at_ l.evs l.last) l.last).rs (m.av n).bs=sM l.q (xQ ((m.av n).bs l.q) l.at_ l.evs l.last) ((m.av n).bs l.q).evs.length (l.at_.toNat+l.evs.length) l.last:=by
  show sM _ _ _ _ _=_
  congr 1
  unfold xQ
  cases l.last with
  | true=>simp only [if_true,List.length_append,List.length_singleton];omega
  | false=>simp only [Bool.false_eq_true,if_false];omega
 split
 ·exact .same
 rename_i x hw
 obtain ⟨d,hd,rfl⟩:=pY hw;refine .pend (.got l.q (xQ ((m.av n).bs l.q) l.at_ l.evs l.last) l.last) (m.av n) d (.inl rfl) rfl ⟨hr,hgd,Gr rfl hgd,fun hl=>?_,fun hl=>?_⟩ (by rw [hrs];exact hd) ⟨hk,hfr,g2,g3,g4,g5,hlen,rfl,rfl⟩
 ·unfold xQ;rw [hl,if_neg (by simp)];exact ⟨rfl,Kv⟩
 refine ⟨Kr ((m.av n).bs l.q) l.at_ l.evs,?_,Kv⟩;unfold xQ;rw [if_pos hl]
theorem TA (hk:l.kd=6):Hnd m n l (m.learnt n l):=by
 unfold Cl.learnt
 split
 ·exact .hear hk
 rename_i h
 obtain ⟨h1,h2,h3⟩:=Xy h;rw [h3]
 split
 ·exact .hear hk
 rename_i x hw
 obtain ⟨d,hd,rfl⟩:=pY hw;exact .pend (.forget l.q ⟨0,((m.av n).bs l.q).ep,0,0,0,[]⟩) ((m.av n).hear n l) d (.inr ⟨hk,rfl⟩) rfl ⟨h1,rfl⟩ hd ⟨hk,h2⟩
theorem hnd (hb: ∀ q,q<4→au ((m.av n).bs q)=0) (hl:l.ok):Hnd m n l (m.handle n l):=by
 obtain ⟨h1,h2,h3⟩:=hl;unfold Cl.handle
 rcases h3 with h | h | h | h | h
 ·rw [if_pos h];exact XE h
 ·rw [if_neg (by omega),if_pos h];exact P6 h
 ·rw [if_neg (by omega),if_neg (by omega),if_pos h];exact Tz (hb _ h1) h
 ·rw [if_neg (by omega),if_neg (by omega),if_neg (by omega),if_pos h];exact afB h
 rw [if_neg (by omega),if_neg (by omega),if_neg (by omega),if_neg (by omega)];exact TA h
end
structure acI (a:Ac):Prop where
 kd:1≤a.kd∧a.kd≤10
 nd:0≤a.nd∧a.nd≤4
 qu:0≤a.qu∧a.qu≤3
 at_:0≤a.at_∧a.at_≤1048576
 kp:0≤a.kp∧a.kp≤100000
 op:a.kd=2→bE a.op=0∧a.op.kind≠4
theorem ap8 {x:Ac} (h:fT x=0):acI x:=by
 cases hf:aX x.kd x.ek with
 | none=>rw [KY hf] at h;cases h
 | some l=>
  by_cases ha:l.all (LY x)=true
  ·by_cases hz:fin x l=zeros
   ·have hk:=aez ((Ga hf).2 hz);clear h hz;obtain ⟨kd,nd,qu,at_,kp,ek,ep,ei,eb,eh,en⟩:=x
    rcases kinds kd ek with rfl | rfl | rfl | rfl | rfl | rfl | rfl | rfl | rfl | ⟨rfl,rfl⟩ | ⟨rfl,rfl⟩ | ⟨rfl,rfl⟩ | hn
    all_goals first
     | (dsimp only at hf;rw [hn] at hf;cases hf;done)
     | (simp [aX] at hf;subst hf;simp [keep] at hk;simp [LY,Ac.get,Ac.ints] at ha;exact ⟨by dsimp only;omega,by dsimp only;omega,by dsimp only;omega,by dsimp only;omega,by dsimp only;omega,by (intro hk2;first | (simp at hk2;done) | (refine ⟨?_,by simp [Ac.op]⟩;simp [Ac.op,bE,jh,hk,ha]))⟩)
   rw [EP hf ha hz] at h;cases h
  rw [BL hf ha] at h;cases h
def nC (l:jI):Prop:=l.q<4∧l.evs.length≤3∧(l.tg= -1∨(l.tg= -2∧0≤l.fr∧l.fr<5∧l.kd=5)∨(0≤l.tg∧l.tg<5∧(l.kd=0∨l.kd=2∨l.kd=3∨l.kd=4∨l.kd=6)))∧(l.kd=0→bE l.op=0∧l.op.kind≠4)
theorem nk {k:Int} {P:Prop} (h:k≠0):k=0→P:=fun e=>absurd e h
theorem nC.ok {l:jI} (h:nC l) (ht:0≤l.tg):l.ok:=by
 obtain ⟨h1,h2,h3 | h3 | h3,_⟩:=h
 ·omega
 ·omega
 exact ⟨h1,by omega,h3.2.2⟩
section
variable {n q:Nat} {b:bO} {u:Int} {a:iK} {p:Pl}
theorem Gs:nC (nQ n u a p):=⟨by show 0<4;omega,by show 0≤3;omega,.inl rfl,nk (by show (1:Int)≠0;decide)⟩
theorem K8 (hq:q<4) (hr:b.role=4) (hb:au b=0):nC (yH n q b):=by
 have hs:=fU hb;unfold bn at hs;refine ⟨hq,by show 0≤3;omega,.inr (.inr ⟨by show 0≤b.fr;omega,by show b.fr<5;omega,.inr (.inr (.inl rfl))⟩),nk (by show (3:Int)≠0;decide)⟩
theorem agO (hr:b.role=2∨b.role=3) (hb:au b=0):0≤b.tg∧b.tg<5:=by
 have hs:=fU hb;unfold bn at hs;omega
theorem afC {at_:Int} (hq:q<4) (hb:au b=0) (h: ¬ (iT b at_).2.2≠0):nC (Rm n q b at_):=by
 obtain ⟨h1,h2,h3,h4⟩:=Xz h;obtain ⟨h5,h6⟩:=agO h1 hb;refine ⟨hq,?_,.inr (.inr ⟨h5,h6,.inr (.inr (.inr (.inl rfl)))⟩),nk (by show (4:Int)≠0;decide)⟩
 show (iT b at_).1.length≤3
 rw [h4];dsimp only;rw [List.length_take];omega
theorem abx (hq:q<4) (hr:b.role=2∨b.role=3) (hb:au b=0):nC (zM n q b):=by
 obtain ⟨h5,h6⟩:=agO hr hb;exact ⟨hq,by show 0≤3;omega,.inr (.inr ⟨h5,h6,.inr (.inl rfl)⟩),nk (by show (2:Int)≠0;decide)⟩
theorem ak2 (hq:q<4) (hn:n<5):nC (Xf n q):=⟨hq,by show 0≤3;omega,.inr (.inl ⟨rfl,by show 0≤(n:Int);omega,by show (n:Int)<5;omega,rfl⟩),nk (by show (5:Int)≠0;decide)⟩
theorem afD (hq:q<4) (hn:n<5):nC (Rn n q b):=⟨hq,by show 0≤3;omega,.inr (.inl ⟨rfl,by show 0≤(n:Int);omega,by show (n:Int)<5;omega,rfl⟩),nk (by show (5:Int)≠0;decide)⟩
theorem afE {s:Bool} (hq:q<4) (hn:n<5) (hb:au b=0):(∀ l∈kU n q b s,nC l)∧(kU n q b s).length≤3:=by
 unfold kU;refine ⟨fun l hl=>?_,?_⟩
 ·rcases List.mem_append.1 hl with hl | hl
  ·rcases List.mem_append.1 hl with hl | hl
   ·split at hl
    ·rename_i hr;rw [List.mem_singleton] at hl;subst hl;exact abx hq hr hb
    simp at hl
   split at hl
   ·rw [List.mem_singleton] at hl;subst hl;exact ak2 hq hn
   simp at hl
  split at hl
  ·rw [List.mem_singleton] at hl;subst hl;exact afD hq hn
  simp at hl
 rw [List.length_append,List.length_append]
 split<;>split<;>split<;>simp
end
def Cl.tot (m:Cl):Nat:=m.fly.length+((m.av 0).inbox.length+((m.av 1).inbox.length+((m.av 2).inbox.length+((m.av 3).inbox.length+(m.av 4).inbox.length))))
theorem five {n:Nat} (hn:n<5):n=0∨n=1∨n=2∨n=3∨n=4:=by omega
theorem ak3 {m m':Cl} {n d:Nat} (hn:n<5) (ho: ∀ j,j≠n→m'.av j=m.av j) (h:m'.fly.length+(m'.av n).inbox.length≤m.fly.length+(m.av n).inbox.length+d):m'.tot≤m.tot+d:=by
 unfold Cl.tot
 rcases five hn with rfl | rfl | rfl | rfl | rfl
 ·rw [ho 1 (by decide),ho 2 (by decide),ho 3 (by decide),ho 4 (by decide)];omega
 ·rw [ho 0 (by decide),ho 2 (by decide),ho 3 (by decide),ho 4 (by decide)];omega
 ·rw [ho 0 (by decide),ho 1 (by decide),ho 3 (by decide),ho 4 (by decide)];omega
 ·rw [ho 0 (by decide),ho 1 (by decide),ho 2 (by decide),ho 4 (by decide)];omega
 rw [ho 0 (by decide),ho 1 (by decide),ho 2 (by decide),ho 3 (by decide)];omega
theorem OH {l:jI} {n:Nat} (h:nC l∧l.tg=n):l.ok:=h.1.ok (by rw [h.2];omega)
theorem Kw (m:Cl) {n:Nat} (hn:n<5):m.fly.length+(m.av n).inbox.length≤m.tot:=by
 unfold Cl.tot
 rcases five hn with rfl | rfl | rfl | rfl | rfl<;>omega
structure fJ (m:Cl) (T S D K:Nat):Prop where
 lC: ∀ n,n<5→DK (m.av n)
 Ep: ∀ l∈m.fly,nC l
 mY: ∀ n,n<5→ ∀ l∈(m.av n).inbox,nC l∧l.tg=n
 room:m.tot≤T
 aH:m.aH.length≤S
 aM:m.aM.length≤D
 turn: ∀ n,n<5→(m.av n).turn≤K
 calls:m.calls≤K
theorem fJ.mono {m:Cl} {T S D K T' S' D' K':Nat} (h:fJ m T S D K) (h1:T≤T') (h2:S≤S') (h3:D≤D') (h4:K≤K'):fJ m T' S' D' K':=
 ⟨h.lC,h.Ep,h.mY,Nat.le_trans h.room h1,Nat.le_trans h.aH h2,Nat.le_trans h.aM h3,fun n hn=>Nat.le_trans (h.turn n hn) h4,Nat.le_trans h.calls h4⟩
section
variable {m m':Cl} {n:Nat} {l:jI} {rs:List dx} {T S D K:Nat}
theorem fJ.at_ (h:fJ m T S D K) (hn:n<5) (ho: ∀ j,j≠n→m'.av j=m.av j) (hk:DK (m'.av n)) (hl: ∀ l∈m'.fly,l∈m.fly∨nC l) (hi: ∀ l∈(m'.av n).inbox,l∈(m.av n).inbox∨(nC l∧l.tg=n))
  {c s d u:Nat} (h1:m'.fly.length+(m'.av n).inbox.length≤m.fly.length+(m.av n).inbox.length+c) (h2:m'.aH.length≤m.aH.length+s) (h3:m'.aM.length≤m.aM.length+d) (h4:(m'.av n).turn≤(m.av n).turn+u) (h5:m'.calls≤m.calls+u):fJ m' (T+c) (S+s) (D+d) (K+u):=by
 refine ⟨fun j hj=>?_,fun l hl'=>(hl l hl').elim (h.Ep l) id,fun j hj=>?_,?_,?_,?_,fun j hj=>?_,?_⟩
 ·by_cases e:j=n
  ·subst e;exact hk
  rw [ho j e];exact h.lC j hj
 ·by_cases e:j=n
  ·subst e;exact fun l hl'=>(hi l hl').elim (h.mY j hj l) id
  rw [ho j e];exact h.mY j hj
 ·have:=ak3 hn ho h1;have:=h.room;omega
 ·have:=h.aH;omega
 ·have:=h.aM;omega
 ·by_cases e:j=n
  ·subst e;have:=h.turn j hj;omega
  rw [ho j e];have:=h.turn j hj;omega
 have:=h.calls;omega
structure Keep (m m':Cl):Prop where
 aM:m'.aM=m.aM
 calls:m'.calls=m.calls
 off:m'.off=m.off
theorem Keep.refl (m:Cl):Keep m m:=⟨rfl,rfl,rfl⟩
theorem Keep.trans {a b c:Cl} (h:Keep a b) (h':Keep b c):Keep a c:=⟨h'.aM.trans h.aM,h'.calls.trans h.calls,h'.off.trans h.off⟩
theorem XF {q:Nat} {op:Ev} {u:Int} {a:iK}:Keep m (m.done n q op u a)∧(m.done n q op u a).av=m.av∧ ∃ l,nC l∧(m.done n q op u a).fly=m.fly++[l]:=by
 unfold Cl.done
 split
 ·exact ⟨⟨rfl,rfl,rfl⟩,rfl,_,Gs,rfl⟩
 exact ⟨⟨rfl,rfl,rfl⟩,rfl,_,Gs,rfl⟩
theorem XG {q:Nat} {a:Int}:Keep m (m.part n q a)∧(m.part n q a).av=m.av∧(m.part n q a).fly=sP n q ((m.av n).bs q) a m.fly:=by
 unfold Cl.part sP
 split
 ·exact ⟨⟨rfl,rfl,rfl⟩,rfl,rfl⟩
 exact ⟨⟨rfl,rfl,rfl⟩,rfl,rfl⟩
theorem Ky {q:Nat} {b:bO} {a:Int} {fl:List jI} (hq:q<4) (hb:au b=0): ∀ l∈sP n q b a fl,l∈fl∨nC l:=fun l hl=>by
 unfold sP at hl
 split at hl
 ·exact .inl hl
 rename_i h
 rcases List.mem_append.1 hl with hl | hl
 ·exact .inl hl
 rw [List.mem_singleton] at hl;subst hl;exact .inr (afC hq hb h)
theorem XH {q:Nat} {b:bO} {a:Int} {fl:List jI}:(sP n q b a fl).length≤fl.length+1:=by
 unfold sP
 split
 ·omega
 simp
theorem yh {fl:List jI} {x:jI} (hx:nC x): ∀ l∈fl++[x],l∈fl∨nC l:=fun l hl=>by
 rcases List.mem_append.1 hl with hl | hl
 ·exact .inl hl
 rw [List.mem_singleton] at hl;subst hl;exact .inr hx
theorem ak4 (hq:l.q<4) (h:uM (m.av n) rs []) (hp:(m.av n).pend=none) (H:Hnd m n l m'):(∃ us,uM (m'.av n) rs us)∧(∀ x∈m'.fly,x∈m.fly∨nC x)∧Keep m m':=by
 cases H with
 | same=>exact ⟨⟨_,h⟩,fun x hx=> .inl hx,.refl m⟩
 | done a h1 h2=>
  obtain ⟨h3,h4,l',h5,h6⟩:=XF (m:=m) (n:=n) (q:=l.q) (op:=l.op) (u:=l.num) (a:=a);exact ⟨⟨[],by rw [h4];exact h⟩,by rw [h6];exact yh h5,h3⟩
 | have_ h1=>exact ⟨⟨[],h⟩,yh (K8 hq h1 (h.nY _ hq)),⟨rfl,rfl,rfl⟩⟩
 | part b h1 h2 h3 h4 h5 h6=>
  obtain ⟨g1,g2,g3⟩:=XG (m:=m.dS n l.q b) (n:=n) (q:=l.q) (a:=l.at_);have e:(m.dS n l.q b).av n=(m.av n).dS l.q b:=bM _;refine ⟨⟨[],?_⟩,?_,?_⟩
  ·rw [g2,e];refine ⟨h.data,h.syn,h.tape.congr fun k hk=>?_,fun k hk=>?_,h.XA,fun p hp'=>?_,h.len⟩
   ·show kV ((m.av n).bs k)=kV (upd (m.av n).bs l.q b k)
    by_cases e:k=l.q
    ·rw [e,upd_same]
     rcases h4 with ⟨h4,h7,_⟩ | ⟨_,h7⟩
     ·rw [h7];unfold kV;rw [if_pos h4,if_pos h4]
     rw [h7]
    rw [upd_ne e]
   ·show au (upd (m.av n).bs l.q b k)=0
    by_cases e:k=l.q
    ·rw [e,upd_same];exact h6
    rw [upd_ne e];exact h.nY k hk
   exact absurd (hp'.symm.trans hp) (by simp)
  ·rw [g3,e,show ((m.av n).dS l.q b).bs l.q=b from upd_same _ _ _];exact Ky hq h6
  exact (⟨rfl,rfl,rfl⟩:Keep m (m.dS n l.q b)).trans g1
 | pend p Y d h1 h2 h3 h4 h5=>
  obtain ⟨w1,w2,w3⟩:=u7 h4;have hY:Y.bs=(m.av n).bs∧Y.syn=(m.av n).syn:=by rcases h1 with h1 | ⟨_,h1⟩<;>rw [h1]<;>exact ⟨rfl,rfl⟩
  refine ⟨⟨p.rs (m.av n).bs,?_⟩,fun x hx=> .inl hx,⟨rfl,rfl,rfl⟩⟩;rw [bM];refine ⟨?_,hY.2.trans h.syn,?_,?_,fun e=>(by cases e),fun p' e=>?_,w3 h.len⟩
  ·show d=_;rw [w1,h.data,List.append_nil,kE]
  ·dsimp only;rw [hY.1];exact h.tape
  ·dsimp only;rw [hY.1];exact h.nY
  cases e;dsimp only;rw [hY.1];exact ⟨rfl,h3,by rw [h2];exact hq⟩
 | hear h1=>
  refine ⟨⟨[],?_⟩,fun x hx=> .inl hx,⟨rfl,rfl,rfl⟩⟩;rw [bM];exact ⟨h.data,h.syn,h.tape,h.nY,h.XA,h.XB,h.len⟩
theorem aby {n:Nat} (P:Cl→Prop) (hstep: ∀ m l r,P m→(m.av n).pend=none→(m.av n).inbox=l::r→l.q<4∧P ((m.put n ((m.av n).box r)).handle n l)): ∀ (k:Nat) (m:Cl),(m.av n).inbox.length=k→P m→P (m.more n):=by
 intro k
 induction k with
 | zero=>
  intro m hk h;rw [OD (List.length_eq_zero_iff.1 hk)];exact h
 | succ k ih=>
  intro m hk h
  cases hp:(m.av n).pend with
  | some p=>rw [DI (by rw [hp];simp)];exact h
  | none=>
   cases hi:(m.av n).inbox with
   | nil=>rw [hi] at hk;simp at hk
   | cons l r=>
    obtain ⟨hq,h2⟩:=hstep m l r h hp hi;rw [sQ hp hi hq];have e:=(wO (m:=m.put n ((m.av n).box r)) (n:=n) (l:=l) hq).mY;have e2:((m.put n ((m.av n).box r)).av n).inbox=r:=by rw [bM];rfl
    exact ih _ (by rw [e,e2];rw [hi] at hk;simpa using hk) h2
structure Rdg (m0:Cl) (n:Nat) (rs:List dx) (m:Cl):Prop where
 up:(m.av n).up=true
 tape: ∃ us,uM (m.av n) rs us
 ZW: ∀ j,j≠n→m.av j=m0.av j
 Ep: ∀ l∈m.fly,l∈m0.fly∨nC l
 mY: ∀ l∈(m.av n).inbox,l∈(m0.av n).inbox
 cnt:m.fly.length+(m.av n).inbox.length≤m0.fly.length+(m0.av n).inbox.length
 aH:m.aH.length+(m.av n).inbox.length≤m0.aH.length+(m0.av n).inbox.length
 keep:Keep m0 m
 Ou:(m.av n).turn=(m0.av n).turn
theorem Z8 {X:Nd} {r:List jI} {us:List dx} (h:uM X rs us):uM (X.box r) rs us:=⟨h.data,h.syn,h.tape,h.nY,h.XA,h.XB,h.len⟩
theorem abz {m1:Cl} {r:List jI} (hi: ∀ l∈(m.av n).inbox,l.ok) (H:Rdg m n rs m1) (hp:(m1.av n).pend=none) (hin:(m1.av n).inbox=l::r):
  l.ok∧uM ((m1.put n ((m1.av n).box r)).av n) rs []∧Hnd (m1.put n ((m1.av n).box r)) n l ((m1.put n ((m1.av n).box r)).handle n l)∧Rdg m n rs ((m1.put n ((m1.av n).box r)).handle n l):=by
 have hl:l∈(m1.av n).inbox:=by rw [hin];simp
 have hok:=hi l (H.mY l hl);obtain ⟨us,hU⟩:=H.tape;have hus:=hU.XA hp;subst hus;have hq:=hok.1;have e0:(m1.put n ((m1.av n).box r)).av n=(m1.av n).box r:=bM _;have MN:uM ((m1.put n ((m1.av n).box r)).av n) rs []:=by rw [e0];exact Z8 hU
 have hH:=hnd MN.nY hok;refine ⟨hok,MN,hH,?_⟩;have E:=wO (m:=m1.put n ((m1.av n).box r)) (n:=n) (l:=l) hq;obtain ⟨g1,g2,g3⟩:=ak4 hq MN (by rw [e0];exact hp) hH;have ei:=E.mY;rw [e0] at ei;have e1:(m1.put n ((m1.av n).box r)).fly=m1.fly:=rfl;have e2:(m1.put n ((m1.av n).box r)).aH=m1.aH:=rfl;have e3:((m1.av n).box r).inbox=r:=rfl;have c1:=H.cnt;have c2:=H.aH;have c3:=E.fly;have c4:=E.aH;rw [hin,List.length_cons] at c1 c2;rw [e1] at c3;rw [e2] at c4;refine ⟨by rw [E.up,e0];exact H.up,g1,fun j hj=>?_,fun x hx=>(g2 x hx).elim (H.Ep x) .inr,fun x hx=>?_,?_,?_,H.keep.trans ((⟨rfl,rfl,rfl⟩:Keep m1 (m1.put n ((m1.av n).box r))).trans g3),by rw [E.Ou,e0];exact H.Ou⟩
 ·rw [E.ZW j hj]
  show upd m1.av n _ j=_
  rw [upd_ne hj];exact H.ZW j hj
 ·rw [ei,e3] at hx;exact H.mY x (by rw [hin];simp [hx])
 ·rw [ei,e3];omega
 rw [ei,e3];omega
theorem ap9 (hu:(m.av n).up=true) (h: ∃ us,uM (m.av n) rs us):Rdg m n rs m:=⟨hu,h,fun _ _=>rfl,fun _ h=> .inl h,fun _ h=>h,Nat.le_refl _,Nat.le_refl _,.refl m,rfl⟩
theorem abA (hu:(m.av n).up=true) (h: ∃ us,uM (m.av n) rs us) (hi: ∀ l∈(m.av n).inbox,l.ok):Rdg m n rs (m.more n):=
 aby (n:=n) (Rdg m n rs) (fun _ _ _ H hp hin=>by obtain ⟨h1,_,_,h4⟩:=abz hi H hp hin;exact ⟨h1.1,h4⟩) _ m rfl (ap9 hu h)
theorem ak6 {X:Nd} {p:gX} (hX:m.av n=X) (hu:X.up=true) (hp:X.pend=some p) (hq:p.q<4) (hf:au (p.b X.bs)=0) (hpo:p.ok X.bs):
  ∃ Y:Nd,(m.step n).av=upd m.av n Y∧Y.bs=upd X.bs p.q (p.b X.bs)∧Y.data=X.data∧Y.syn=X.data.length∧Y.pend=none∧Y.up=true∧Y.inbox=X.inbox∧Y.turn=X.turn∧Keep m (m.step n)∧
   (∀ l∈(m.step n).fly,l∈m.fly∨nC l)∧(m.step n).fly.length≤m.fly.length+1∧(m.step n).aH.length≤m.aH.length+1:=by
 cases p with
 | serve q evs op num a=>
  rw [zl hX hu hp rfl hpo.1];exact ⟨_,rfl,rfl,rfl,rfl,rfl,hu,rfl,rfl,⟨rfl,rfl,rfl⟩,yh Gs,by simp,by simp⟩
 | begun q b=>
  rw [Hq hX hu hp];obtain ⟨_,e,f,rfl,_⟩:=hpo;exact ⟨_,rfl,rfl,rfl,rfl,rfl,hu,rfl,rfl,⟨rfl,rfl,rfl⟩,yh (K8 hq rfl hf),by simp,by simp [Cl.put]⟩
 | got q b last=>
  cases last with
  | true=>
   rw [Ay hX hu hp];exact ⟨_,rfl,rfl,rfl,rfl,rfl,hu,rfl,rfl,⟨rfl,rfl,rfl⟩,fun l hl=> .inl hl,by simp [Cl.put],by simp⟩
  | false=>
   rw [OE hX hu hp];have hr:b.role=4:=by
    have:=(hpo.2.2.2.1 rfl).1;rw [this];exact hpo.1
   exact ⟨_,rfl,rfl,rfl,rfl,rfl,hu,rfl,rfl,⟨rfl,rfl,rfl⟩,yh (K8 hq hr hf),by simp,by simp [Cl.put]⟩
 | kN q b at_=>
  rw [Kq hX hu hp];exact ⟨_,rfl,rfl,rfl,rfl,rfl,hu,rfl,rfl,⟨rfl,rfl,rfl⟩,Ky hq hf,XH,by simp [Cl.put]⟩
 | forget q b=>
  rw [Es hX hu hp];exact ⟨_,rfl,rfl,rfl,rfl,rfl,hu,rfl,rfl,⟨rfl,rfl,rfl⟩,fun l hl=> .inl hl,by simp [Cl.put],by simp [Cl.put]⟩
theorem XI {X Y:Nd} {p:gX} {us:List dx} (h:uM X rs us) (hp:X.pend=some p) (hb:Y.bs=upd X.bs p.q (p.b X.bs)) (hd:Y.data=X.data) (hs:Y.syn=X.data.length) (hn:Y.pend=none):uM Y (rs++us) []:=by
 obtain ⟨hu,hpo,hq⟩:=h.XB p hp;obtain ⟨h1,h2⟩:=vP h.tape h.nY hpo hq;refine ⟨by rw [hd,h.data,List.append_nil],by rw [hs,h.data],?_,fun k hk=>?_,fun _=>rfl,fun p' e=>(by rw [hn] at e;cases e),by rw [hd];exact h.len⟩
 ·rw [hb,hu];exact h1
 rw [hb];by_cases e:k=p.q
 ·rw [e,upd_same];exact h2
 rw [upd_ne e];exact h.nY k hk
theorem XJ (h:fJ m T S D K) (hn:n<5):fJ (m.step n) (T+3) (S+T+1) D (K+1):=by
 cases hu:(m.av n).up with
 | false=>rw [Ko hu];exact h.mono (by omega) (by omega) (by omega) (by omega)
 | true=>
  obtain ⟨rs,us,hU⟩:=(h.lC n hn).XC hu;have hT:=Kw m hn;have hT2:=h.room
  cases hp:(m.av n).pend with
  | some p=>
   obtain ⟨h1,h2,h3⟩:=hU.XB p hp;obtain ⟨_,hf⟩:=vP hU.tape hU.nY h2 h3;obtain ⟨Y,y1,y2,y3,y4,y5,y6,y7,y8,y9,y10,y11,y12⟩:=ak6 rfl hu hp h3 hf h2;have eY:(m.step n).av n=Y:=by rw [y1];exact upd_same _ _ _
   have hUY:=XI hU hp y2 y3 y4 y5;refine (h.at_ (c:=1) (s:=1) (d:=0) (u:=0) hn (fun j hj=>by rw [y1,upd_ne hj]) ?_ y10 ?_ ?_ y12 (by rw [y9.aM];omega) (by rw [eY,y8];omega) (by rw [y9.calls];omega)).mono (by omega) (by omega) (by omega) (by omega)
   ·rw [eY];exact .inl ⟨y6,_,_,hUY⟩
   ·rw [eY,y7];exact fun l hl=> .inl hl
   rw [eY,y7];omega
  | none=>
   have R:=abA hu ⟨us,hU⟩ fun l hl=>OH (h.mY n hn l hl)
   have c:=R.cnt;have c2:=R.aH;obtain ⟨us',MN⟩:=R.tape;rw [zk hu hp]
   split
   ·rename_i hp2
    have e:(((m.more n).Xg n).av n)={ (m.more n).av n with turn:=((m.more n).av n).turn+1 }:=bM _;have hqq:((m.more n).av n).turn % 4<4:=Nat.mod_lt _ (by decide);obtain ⟨d1,d2⟩:=afE (n:=n) (s:=((m.more n).av n).sure (((m.more n).av n).turn % 4)) hqq hn (MN.nY _ hqq);refine (h.at_ (c:=3) (s:=T) (d:=0) (u:=1) hn (fun j hj=>?_) ?_ (fun l hl=>?_) ?_ ?_ ?_ ?_ ?_ ?_).mono (by omega) (by omega) (by omega) (by omega)
    ·show upd (m.more n).av n _ j=_
     rw [upd_ne hj];exact R.ZW j hj
    ·rw [e];exact .inl ⟨R.up,rs,us',⟨MN.data,MN.syn,MN.tape,MN.nY,MN.XA,MN.XB,MN.len⟩⟩
    ·rcases List.mem_append.1 hl with hl | hl
     ·exact R.Ep l hl
     exact .inr (d1 l hl)
    ·rw [e];exact fun l hl=> .inl (R.mY l hl)
    ·rw [e]
     show ((m.more n).fly++_).length+((m.more n).av n).inbox.length≤_
     rw [List.length_append];have:=d2;omega
    ·show (m.more n).aH.length≤_;omega
    ·show (m.more n).aM.length≤_;rw [R.keep.aM];omega
    ·rw [e];show ((m.more n).av n).turn+1≤_;rw [R.Ou];exact Nat.le_refl _
    show (m.more n).calls≤_;rw [R.keep.calls];omega
   refine (h.at_ (c:=0) (s:=T) (d:=0) (u:=0) hn R.ZW (.inl ⟨R.up,rs,us',MN⟩) R.Ep (fun l hl=> .inl (R.mY l hl)) (by omega) (by omega) (by rw [R.keep.aM];omega) (by rw [R.Ou];omega) (by rw [R.keep.calls];omega)).mono (by omega) (by omega) (by omega) (by omega)
theorem DL (h:fJ m T S D K) (hl:nC l):fJ (m.come l) (T+1) S (D+1) K:=by
 have hroom:=h.room;have htot: ∀ fl,({ m with fly:=fl }:Cl).tot+m.fly.length=m.tot+fl.length:=fun fl=>by unfold Cl.tot;dsimp only;omega
 obtain ⟨hq,hv,h1 | ⟨h1,h2,h3,_⟩ | ⟨h1,h2,h3⟩,_⟩:=id hl
 ·have e:m.come l={ m with aM:=m.aM++[l.aM] }:=if_pos h1;rw [e];exact ⟨h.lC,h.Ep,h.mY,by show m.tot≤_;omega,h.aH,by show (m.aM++_).length≤_;have:=h.aM;simp;omega,h.turn,h.calls⟩
 ·unfold Cl.come;rw [if_neg (by omega),if_pos h1]
  split
  ·refine ⟨h.lC,fun x hx=>?_,h.mY,?_,h.aH,by have:=h.aM;show m.aM.length≤_;omega,h.turn,h.calls⟩
   ·rcases List.mem_append.1 hx with hx | hx
    ·exact h.Ep x hx
    rw [List.mem_singleton] at hx;subst hx;exact ⟨hq,by show 0≤3;omega,.inr (.inr ⟨h2,h3,.inr (.inr (.inr (.inr rfl)))⟩),nk (by show (6:Int)≠0;decide)⟩
   have:=htot (m.fly++[oq l.fr l.q (bI (fD m.off l) l.q).1]);rw [List.length_append,List.length_singleton] at this
   show Cl.tot { m with fly:=_ }≤_
   omega
  exact ⟨h.lC,h.Ep,h.mY,by show m.tot≤_;omega,h.aH,by have:=h.aM;show m.aM.length≤_;omega,h.turn,h.calls⟩
 have hn:l.tg.toNat<5:=by omega
 unfold Cl.come;rw [if_neg (by omega),if_neg (by omega)]
 split
 ·rename_i hu
  have e:(m.put l.tg.toNat { m.av l.tg.toNat with inbox:=(m.av l.tg.toNat).inbox++[l] }).av l.tg.toNat=(m.av l.tg.toNat).box ((m.av l.tg.toNat).inbox++[l]):=bM _;obtain ⟨rs,us,hU⟩:=(h.lC _ hn).XC hu;refine (h.at_ (m':=m.put l.tg.toNat { m.av l.tg.toNat with inbox:=(m.av l.tg.toNat).inbox++[l] }) (c:=1) (s:=0) (d:=0) (u:=0) hn (fun j hj=>upd_ne hj) (by rw [e];exact .inl ⟨hu,rs,us,Z8 hU⟩) (fun x hx=> .inl hx) ?_ ?_ (Nat.le_refl _) (Nat.le_refl _) (by rw [e];exact Nat.le_refl _) (Nat.le_refl _)).mono (by omega) (by omega) (by omega) (by omega)
  ·rw [e];intro x hx
   rcases List.mem_append.1 hx with hx | hx
   ·exact .inl hx
   rw [List.mem_singleton] at hx;subst hx;exact .inr ⟨hl,by omega⟩
  rw [e]
  show m.fly.length+((m.av l.tg.toNat).inbox++[l]).length≤_
  rw [List.length_append,List.length_singleton];omega
 exact h.mono (by omega) (by omega) (by omega) (by omega)
theorem Hr: ∀ (ls:List jI) {m:Cl} {T D:Nat},fJ m T S D K→(∀ l∈ls,nC l)→fJ (ls.foldl Cl.come m) (T+ls.length) S (D+ls.length) K
 | [],m,T,D,h,_=>h
 | l::ls,m,T,D,h,hl=>(Hr ls (DL h (hl l (by simp))) fun x hx=>hl x (by simp [hx])).mono (by simp;omega) (Nat.le_refl _) (by simp;omega) (Nat.le_refl _)
theorem abB (h:fJ m T S D K):fJ m.all T S (D+T) K:=by
 have hroom:=h.room;have h0:fJ { m with fly:=[] } (T-m.fly.length) S D K:=by
  refine ⟨h.lC,fun l hl=>by simp at hl,h.mY,?_,h.aH,h.aM,h.turn,h.calls⟩;unfold Cl.tot at hroom⊢;dsimp only [List.length_nil];omega
 have hle:m.fly.length≤T:=by unfold Cl.tot at hroom;omega
 exact (Hr m.fly h0 h.Ep).mono (by omega) (Nat.le_refl _) (by omega) (Nat.le_refl _)
theorem XK {at_:Nat} {c s:Bool} (h:fJ m T S D K):fJ (m.pick at_ c s) (T+1) S (D+1) K:=by
 unfold Cl.pick
 split
 ·exact h.mono (by omega) (by omega) (by omega) (by omega)
 rename_i l hl
 have hm:nC l:=h.Ep l (List.mem_of_getElem? hl);have h1:fJ (if s=true then m else { m with fly:=m.fly.eraseIdx (at_ % m.fly.length) }) T S D K:=by
  split
  ·exact h
  refine ⟨h.lC,fun x hx=>h.Ep x (List.mem_of_mem_eraseIdx hx),h.mY,?_,h.aH,h.aM,h.turn,h.calls⟩;have:=h.room;have h2:=List.length_eraseIdx_le m.fly (at_ % m.fly.length);unfold Cl.tot at this⊢;dsimp only;omega
 dsimp only
 split
 ·exact DL h1 hm
 exact h1.mono (by omega) (by omega) (by omega) (by omega)
theorem XL {q:Nat} (h:fJ m T S D K) (hn:n<5) (hq:q<4):fJ (m.make n q) T S D K:=by
 unfold Cl.make
 split
 ·exact h
 rename_i h0
 have hu:(m.av n).up=true:=by
  cases e:(m.av n).up with
  | true=>rfl
  | false=>exact absurd (.inl e) h0
 have hp:(m.av n).pend=none:=by
  cases e:(m.av n).pend with
  | none=>rfl
  | some p=>exact absurd (.inr (.inl (by rw [e];rfl))) h0
 split
 ·exact h
 rename_i h1
 obtain ⟨h2,h3,h4⟩:=afx h1;rw [h4]
 split
 ·exact h
 rename_i x hw
 obtain ⟨d,hd,rfl⟩:=pY hw;obtain ⟨rs,us,hU⟩:=(h.lC n hn).XC hu;have hus:=hU.XA hp;subst hus;obtain ⟨w1,w2,w3⟩:=u7 hd;obtain ⟨_,a2⟩:=afm (q:=q) (hU.nY q hq) h2 h3 hq;have hok:au ⟨1,1,0,0,0,[]⟩=0:=lI (zh (by omega) (by omega) _) xY;refine h.at_ (m':={ m.put n { m.av n with data:=d,syn:=d.length,bs:=upd (m.av n).bs q ⟨1,1,0,0,0,[]⟩ } with off:=(vw m.off q n).1,shown:=ni m.shown n q (1,0) }) (c:=0) (s:=0) (d:=0) (u:=0) hn (fun j hj=>upd_ne hj) ?_ (fun x hx=> .inl hx) ?_ ?_ (Nat.le_refl _) (Nat.le_refl _) ?_ (Nat.le_refl _)
 ·refine .inl ⟨?_,rs++[fq 1 q 1 0 aT],[],?_⟩
  ·show (upd m.av n _ n).up=true;rw [upd_same];exact hu
  show uM (upd m.av n _ n) _ _
  rw [upd_same];refine ⟨?_,?_,?_,fun k hk=>?_,fun _=>rfl,fun p e=>?_,w3 hU.len⟩
  ·show d=_;rw [w1,hU.data,List.append_nil,List.append_nil,kE]
  ·show (d.length:Int)=_;rw [w1,hU.data,List.append_nil,kE]
  ·refine FX (x:=⟨1,1,0,0,0,[]⟩) hU.tape hq (w2 _ (by simp)) rfl ?_;rw [Rt (.inr (.inl h2)),a2];rfl
  ·show au (upd (m.av n).bs q _ k)=0
   by_cases e:k=q
   ·rw [e,upd_same];exact hok
   rw [upd_ne e];exact hU.nY k hk
  exact absurd (e.symm.trans hp) (by simp)
 ·show ∀ l∈(upd m.av n _ n).inbox,_;rw [upd_same];exact fun l hl=> .inl hl
 ·show m.fly.length+(upd m.av n _ n).inbox.length≤_;rw [upd_same];exact Nat.le_refl _
 show (upd m.av n _ n).turn≤_;rw [upd_same];exact Nat.le_refl _
theorem Ht {d:Dir} {q:Int} (h: ¬ (bI d q).2≠0):(bI d q).1.node.toNat<5∧0≤(bI d q).1.node∧(bI d q).1=d.at q.toNat:=by
 obtain ⟨h1,h2,h3,h4,h5⟩:=DV (Classical.not_not.1 h);unfold xJ at h5
 rcases h5 with ⟨h5,h6⟩ | h5
 ·exfalso
  apply h4;generalize bI d q=r at*;obtain ⟨⟨a,b⟩,c⟩:=r;dsimp only at h5 h6⊢;rw [h5,h6];rfl
 exact ⟨by omega,by omega,h3⟩
theorem U2 {bs:Nat→bO} {q:Nat} {p:gX} {tg:Int} (hr:(bs q).role=1) (h:p.ok bs):p.rs (upd bs q ⟨2,(bs q).ep,0,tg,0,(bs q).evs⟩)=p.rs bs∧p.ok (upd bs q ⟨2,(bs q).ep,0,tg,0,(bs q).evs⟩):=by
 cases p with
 | serve k evs op num a=>
  simp only [gX.ok,gX.rs] at h⊢;by_cases e:k=q
  ·subst e;rw [upd_same];exact ⟨rfl,.inr rfl,h.2⟩
  rw [upd_ne e];exact ⟨rfl,h⟩
 | begun k b=>
  simp only [gX.ok] at h⊢;refine ⟨rfl,?_⟩;by_cases e:k=q
  ·subst e;exfalso;have:=h.1;omega
  rw [upd_ne e];exact h
 | got k b last=>
  simp only [gX.ok,gX.rs] at h⊢;by_cases e:k=q
  ·subst e;exfalso;have:=h.1;omega
  rw [upd_ne e];exact ⟨rfl,h⟩
 | kN k b a=>
  simp only [gX.ok] at h⊢;refine ⟨rfl,?_⟩;by_cases e:k=q
  ·subst e;exfalso;have:=h.1;omega
  rw [upd_ne e];exact h
 | forget k b=>
  simp only [gX.ok,gX.rs] at h⊢;by_cases e:k=q
  ·subst e;exfalso;have:=h.1;omega
  rw [upd_ne e];exact ⟨rfl,h⟩
theorem XM {q:Nat} {tg:Int} (h:fJ m T S D K) (hq:q<4):fJ (m.move q tg) T S D K:=by
 unfold Cl.move
 split
 ·exact h
 rename_i h0
 have hw: ¬ (bI m.off q).2≠0:=fun e=>h0 (.inl e)
 obtain ⟨hn,_,_⟩:=Ht hw;have hu:(m.av (bI m.off q).1.node.toNat).up=true:=by
  cases e:(m.av (bI m.off q).1.node.toNat).up with
  | true=>rfl
  | false=>exact absurd (.inr (.inr e)) h0
 generalize hnn:(bI m.off q).1.node.toNat=n at*
 split
 ·rename_i h1
  obtain ⟨g1,g2,g3,g4⟩:=go_ok h1.1;rw [g4];obtain ⟨rs,us,hU⟩:=(h.lC n hn).XC hu;have hs:=fU (hU.nY q hq);unfold bn at hs;have hok:au ⟨2,((m.av n).bs q).ep,0,tg,0,((m.av n).bs q).evs⟩=0:=lI (.inr ⟨by dsimp only;omega,by dsimp only;omega,.inr (.inl ⟨rfl,rfl,g2,by dsimp only;omega,by dsimp only;omega,by dsimp only;omega⟩)⟩) (iO (b:=(m.av n).bs q) (hU.nY q hq));have hd: ∀ k,kV ((m.av n).bs k)=kV (upd (m.av n).bs q ⟨2,((m.av n).bs q).ep,0,tg,0,((m.av n).bs q).evs⟩ k):=fun k=>by
   by_cases e:k=q
   ·rw [e,upd_same,wM (.inl g1) (hU.nY q hq)];rfl
   rw [upd_ne e]
  have e:((m.dS n q ⟨2,((m.av n).bs q).ep,0,tg,0,((m.av n).bs q).evs⟩).av n)=(m.av n).dS q ⟨2,((m.av n).bs q).ep,0,tg,0,((m.av n).bs q).evs⟩:=bM _;refine h.at_ (m':=m.dS n q ⟨2,((m.av n).bs q).ep,0,tg,0,((m.av n).bs q).evs⟩) (c:=0) (s:=0) (d:=0) (u:=0) hn (fun j hj=>upd_ne hj) ?_ (fun x hx=> .inl hx) (by rw [e];exact fun l hl=> .inl hl) (by rw [e];exact Nat.le_refl _) (Nat.le_refl _) (Nat.le_refl _) (by rw [e];exact Nat.le_refl _) (Nat.le_refl _);rw [e];refine .inl ⟨hu,rs,us,⟨hU.data,hU.syn,hU.tape.congr fun k _=>hd k,fun k hk=>?_,hU.XA,fun p hp=>?_,hU.len⟩⟩
  ·show au (upd (m.av n).bs q _ k)=0
   by_cases e:k=q
   ·rw [e,upd_same];exact hok
   rw [upd_ne e];exact hU.nY k hk
  obtain ⟨p1,p2,p3⟩:=hU.XB p hp;exact ⟨by rw [p1];exact (U2 (tg:=tg) g1 p2).1.symm,(U2 (tg:=tg) g1 p2).2,p3⟩
 exact h
end
section
variable {m:Cl} {n:Nat} {T S D K:Nat}
theorem TD {keep:Int} (h:fJ m T S D K) (hn:n<5) (hk:0≤keep):fJ (m.crash n keep) T S D K:=by
 unfold Cl.crash
 split
 ·rename_i hu
  obtain ⟨rs,us,hU⟩:=(h.lC n hn).XC hu;obtain ⟨rs',t,f,hd,_⟩:=abv hU hk;have e:(m.put n ((m.av n).crashed keep)).av n=(m.av n).crashed keep:=bM _;refine h.at_ (m':=m.put n ((m.av n).crashed keep)) (c:=0) (s:=0) (d:=0) (u:=0) hn (fun j hj=>upd_ne hj) (by rw [e];exact .inr ⟨rfl,rs',t,f,hd⟩) (fun x hx=> .inl hx) ?_ ?_ (Nat.le_refl _) (Nat.le_refl _) ?_ (Nat.le_refl _)
  ·rw [e,hd.mY];simp
  ·rw [e,hd.mY];show m.fly.length+0≤_;omega
  rw [e];exact Nat.le_refl _
 exact h
theorem P7 (h:DK (m.av n)):(m.av n).up=true∧m.start n=m∨(m.av n).up=false∧ ∃ rs t f,DJ (m.av n) rs t f∧(m.start n=m∨ ∃ ws,
  let m1:=m.put n { (m.av n).blank with up:=true,data:=bW (rs++ws),syn:=(bW (rs++ws)).length,bs:=bQ (m.av n).data (m.av n).syn }
  m.start n=Cl.woken n (bQ (m.av n).data (m.av n).syn) [0,1,2,3] m1∧(bW (rs++ws)).length≤100000∧
  dV (jf (m.av n).data (m.av n).syn).2.1 (bQ (m.av n).data (m.av n).syn) [0,1,2,3] (jf (m.av n).data (m.av n).syn).1=some (bW (rs++ws))∧
  OG m1 (m.start n) n (fun q=>if q∈[0,1,2,3]∧(bQ (m.av n).data (m.av n).syn q).role=1 then ny (bQ (m.av n).data (m.av n).syn q) else bQ (m.av n).data (m.av n).syn q)∧
  (m.start n).aH.length≤m.aH.length+8004∧uM ((m.start n).av n) (rs++ws) []∧
  ∀ q,q<4→(f q).role=1→au (ny (f q))=0):=by
 cases hu:(m.av n).up with
 | true=>exact .inl ⟨rfl,by unfold Cl.start;rw [if_pos hu]⟩
 | false=>
  refine .inr ⟨rfl,?_⟩;obtain ⟨rs,t,f,hd⟩:=h.avI hu;refine ⟨rs,t,f,hd,?_⟩;obtain ⟨r1,r2,r3⟩:=hd.rd;have hst:m.start n=match dV (jf (m.av n).data (m.av n).syn).2.1 (bQ (m.av n).data (m.av n).syn) [0,1,2,3] (jf (m.av n).data (m.av n).syn).1 with
   | none=>m
   | some d=>Cl.woken n (bQ (m.av n).data (m.av n).syn) [0,1,2,3] (m.put n { (m.av n).blank with up:=true,data:=d,syn:=d.length,bs:=bQ (m.av n).data (m.av n).syn }):=by
   unfold Cl.start;rw [if_neg (by rw [hu];simp)]
   all_goals rfl
  cases hw:dV (jf (m.av n).data (m.av n).syn).2.1 (bQ (m.av n).data (m.av n).syn) [0,1,2,3] (jf (m.av n).data (m.av n).syn).1 with
  | none=>rw [hw] at hst;exact .inl hst
  | some d=>
   rw [hw] at hst;refine .inr ?_;have CV: ∀ q∈[0,1,2,3],q<4:=by decide
   have hin: ∀ q,q<4→q∈[0,1,2,3]:=by decide
   have hll:(bW rs).length≤100000:=by
    have h1:=hd.len;rw [hd.data,List.length_append] at h1;omega
   have hw':=hw;rw [r1] at hw';obtain ⟨ws,e1,e2,e3,e4⟩:=K7 (g:=f) (by decide) (fun q hq=>⟨CV q hq,(r3 q (CV q hq)).symm⟩) hd.tape (fun q hq=>(hd.nY q hq).1) hll hw';subst e1;refine ⟨ws,hst,e3,rfl,?_⟩;have hev: ∀ q∈[0,1,2,3],(bQ (m.av n).data (m.av n).syn q).evs.length≤2000:=fun q hq=>by
    rw [r3 q (CV q hq)];exact jC (iO (hd.nY q (CV q hq)).1)
   obtain ⟨g1,g2⟩:=AQ (n:=n) (bs:=bQ (m.av n).data (m.av n).syn) [0,1,2,3] (m.put n { (m.av n).blank with up:=true,data:=bW (rs++ws),syn:=(bW (rs++ws)).length,bs:=bQ (m.av n).data (m.av n).syn }) (by decide) fun q hq=>⟨by rw [bM],hev q hq⟩
   have hbs:(fun q=>if q∈[0,1,2,3]∧(bQ (m.av n).data (m.av n).syn q).role=1 then (eO (bQ (m.av n).data (m.av n).syn q)).1 else ((m.put n { (m.av n).blank with up:=true,data:=bW (rs++ws),syn:=(bW (rs++ws)).length,bs:=bQ (m.av n).data (m.av n).syn }).av n).bs q)=
     fun q=>if q∈[0,1,2,3]∧(bQ (m.av n).data (m.av n).syn q).role=1 then ny (bQ (m.av n).data (m.av n).syn q) else bQ (m.av n).data (m.av n).syn q:=by
    funext q
    rw [bM];by_cases c:q∈[0,1,2,3]∧(bQ (m.av n).data (m.av n).syn q).role=1
    ·rw [if_pos c,if_pos c,(e4 q c.1 c.2).2]
    rw [if_neg c,if_neg c]
   have hst':m.start n=Cl.woken n (bQ (m.av n).data (m.av n).syn) [0,1,2,3] (m.put n { (m.av n).blank with up:=true,data:=bW (rs++ws),syn:=(bW (rs++ws)).length,bs:=bQ (m.av n).data (m.av n).syn }):=hst;rw [hbs,←hst'] at g1;rw [←hst'] at g2;refine ⟨g1,g2,?_,fun q hq hr=>?_⟩
   ·have e:(m.start n).av n={ (m.av n).blank with up:=true,data:=bW (rs++ws),syn:=(bW (rs++ws)).length,bs:=fun q=>if q∈[0,1,2,3]∧(bQ (m.av n).data (m.av n).syn q).role=1 then ny (bQ (m.av n).data (m.av n).syn q) else bQ (m.av n).data (m.av n).syn q }:=by
     rw [g1.av,upd_same,bM]
    rw [e];have hbb: ∀ q,q<4→au (if q∈[0,1,2,3]∧(bQ (m.av n).data (m.av n).syn q).role=1 then ny (bQ (m.av n).data (m.av n).syn q) else bQ (m.av n).data (m.av n).syn q)=0:=fun q hq=>by
     split
     ·rename_i c;exact (e4 q c.1 c.2).1
     rw [r3 q hq];exact (hd.nY q hq).1
    refine ⟨by rw [List.append_nil],rfl,e2.congr fun q hq=>?_,hbb,fun _=>rfl,fun p hp=>(by cases hp),e3⟩;dsimp only;by_cases c:q∈[0,1,2,3]∧(bQ (m.av n).data (m.av n).syn q).role=1
    ·rw [if_pos c,if_pos c];rfl
    rw [if_neg c,if_neg c,r3 q hq];exact (Ot (hd.nY q hq).2).symm
   have:=(e4 q (hin q hq) (by rw [r3 q hq];exact hr)).1;rwa [r3 q hq] at this
theorem base_start (h:fJ m T S D K) (hn:n<5):fJ (m.start n) T (S+8004) D K:=by
 rcases P7 (h.lC n hn) with ⟨_,e⟩ | ⟨hu,rs,t,f,hd,e | ⟨ws,e1,e2,e3,W,e5,e6,e7⟩⟩
 ·rw [e];exact h.mono (by omega) (by omega) (by omega) (by omega)
 ·rw [e];exact h.mono (by omega) (by omega) (by omega) (by omega)
 have hN:=W.av;have eX:(m.start n).av n={ (m.av n).blank with up:=true,data:=bW (rs++ws),syn:=(bW (rs++ws)).length,bs:=fun q=>if q∈[0,1,2,3]∧(bQ (m.av n).data (m.av n).syn q).role=1 then ny (bQ (m.av n).data (m.av n).syn q) else bQ (m.av n).data (m.av n).syn q }:=by
  rw [hN,upd_same,bM]
 refine h.at_ (c:=0) (s:=8004) (d:=0) (u:=0) hn (fun j hj=>?_) (.inl ⟨by rw [eX],rs++ws,[],e6⟩) (fun x hx=> .inl (by rw [W.fly] at hx;exact hx)) (by rw [eX];intro l hl;exact absurd hl (by simp [Nd.blank])) ?_ e5 (by rw [W.aM];exact Nat.le_refl _) ?_ (by rw [W.calls];exact Nat.le_refl _)
 ·rw [hN,upd_ne hj];exact upd_ne hj
 ·rw [eX,W.fly];show m.fly.length+0≤_;omega
 rw [eX];exact Nat.le_refl _
theorem XO {l:jI} (h:fJ m T S D K) (hl:nC l):fJ { m with fly:=m.fly++[l],calls:=m.calls+1 } (T+1) S D (K+1):=by
 have hr:=h.room;refine ⟨h.lC,fun x hx=>?_,h.mY,?_,h.aH,h.aM,fun n hn=>Nat.le_succ_of_le (h.turn n hn),by have:=h.calls;show m.calls+1≤_;omega⟩
 ·rcases List.mem_append.1 hx with hx | hx
  ·exact h.Ep x hx
  rw [List.mem_singleton] at hx;subst hx;exact hl
 unfold Cl.tot at hr⊢;dsimp only;rw [List.length_append,List.length_singleton];omega
theorem abC {a:Ac} (h:fJ m T S D K) (ha:acI a):fJ (m.act a) (T+3) (S+T+8004) (D+T+1) (K+1):=by
 obtain ⟨h1,h2,h3,h4,h5,h6⟩:=ha;have hn:a.nd.toNat<5:=by omega
 have hq:a.qu.toNat<4:=by omega
 unfold Cl.act
 split
 ·exact (XL h hn hq).mono (by omega) (by omega) (by omega) (by omega)
 split
 ·rename_i hk2
  exact (XO h ⟨hq,by show 0≤3;omega,.inr (.inr ⟨h2.1,by show a.nd<5;omega,.inl rfl⟩),fun _=>h6 hk2⟩).mono (by omega) (by omega) (by omega) (by omega)
 split
 ·exact (XJ h hn).mono (by omega) (by omega) (by omega) (by omega)
 split
 ·exact (XK h).mono (by omega) (by omega) (by omega) (by omega)
 split
 ·exact (abB h).mono (by omega) (by omega) (by omega) (by omega)
 split
 ·exact (TD h hn h5.1).mono (by omega) (by omega) (by omega) (by omega)
 split
 ·exact (base_start h hn).mono (by omega) (by omega) (by omega) (by omega)
 exact (XM h hq).mono (by omega) (by omega) (by omega) (by omega)
end
def Bs (m:Cl) (k:Nat):Prop:=fJ m (4*k) (500000*k) (500000*k) k
theorem avJ:Bs Om 0:=by
 refine ⟨fun n _=> .inl ⟨rfl,[],[],⟨rfl,rfl,gT.nil,fun q _=>by show au bD=0;exact lI (.inl ⟨rfl,by decide,by decide,rfl,rfl,rfl,rfl⟩) xY,fun _=>rfl,fun p hp=>(by cases hp),Nat.zero_le _⟩⟩,fun l hl=>(by cases hl),fun n _ l hl=>(by cases hl),Nat.le_refl _,Nat.le_refl _,Nat.le_refl _,fun _ _=>Nat.le_refl _,Nat.le_refl _⟩
theorem ak7 {m:Cl} {k:Nat} {a:Ac} (h:Bs m k) (ha:acI a) (hk:k≤100000):Bs (m.act a) (k+1):=by
 have:=abC h ha;exact this.mono (by omega) (by omega) (by omega) (by omega)
theorem MO {B kn kw bb n turn calls dc ic fc sc tc:Nat} {up:Bool} {dA iA fA sA tA:Option Addr} {data:List UInt8} {syn:Int} {Hh:Nat→Pl} {Us:Nat→Bool} {pv nv:Value} {d:Dir} {sh:Nat→Nat→Int×Int} {bs:List BX} {ix fx:List LX} {aH:List eT} {tl:List fK} {w0 w:World} {fs:List Fact} {q b1 b2 b3 b4 b5 b6 b7:Nat} {y2:BX} {x:LX} {a:iK} (hn:n<5) (hq:q<4) {y:BX} (hy:bs[q]? =some y) (S:St B w0 w ((.blk kn (aU n up (.slice dA data.length dc) syn (.slice (aD bb 0) 4 4) Hh Us (.slice iA ix.length ic) (pv) turn) 129)::(.own 42 6 (.slice (aD bb 0) 4 4) 4 ((bs).flatMap BX.cells))::(.off 169 23 iA ix.length ic ((ix).flatMap LX.cells))::(.blk kw (bL (nv) d (.slice fA fx.length fc) sh (.slice sA aH.length sc) (.slice tA tl.length tc) calls) 121)::(.own 169 23 (.slice fA fx.length fc) fx.length ((fx).flatMap LX.cells))::(.own 85 14 (.slice sA aH.length sc) aH.length ((aH).flatMap eT.cells))::(.own 81 7 (.slice tA tl.length tc) tl.length ((tl).flatMap fK.cells))::fs)) (hm1:Fact.blk b1 (BX.cells y2).toArray 42∈fs) (hm2:Fact.blk b2 #[fI kn] 122∈fs) (uR:Fact.blk b3 #[iV ((q:Nat):Int)] 3∈fs) (CV:Fact.blk b4 #[.func (.func 152) #[] #[fI b6,fI b2,fI b3,fI b7]] 258∈fs) (OI:Fact.blk b5 (iK.cells a).toArray 79∈fs) (Xq:Fact.blk b6 (LX.row x) 169∈fs) (UY:Fact.blk b7 #[fI kw] 111∈fs) (hu:Uk B w0) (hb:(fx.length+1)*200≤140737488355328) (hb2:(aH.length+1)*112≤140737488355328):
    Calls Tryz.prog 153 #[pV b1 0,pV b2 0,pV b3 0,pV b4 0,pV b5 0] w (fun e w'=>e= .returned (.tuple #[])∧(serves y.b→ ∃ Oy sc' pK xw xA jl,pK=aH++[(⟨n,q,y.b.ep,x.l.op,a,x.l.num⟩:eT)]∧jl=fx++[⟨nQ n x.l.num a nowhere,none,0⟩]∧St B w0 w' ((.blk kn (aU n up (.slice dA data.length dc) syn (.slice (aD bb 0) 4 4) Hh Us (.slice iA ix.length ic) (pv) turn) 129)::(.own 42 6 (.slice (aD bb 0) 4 4) 4 (((bs.set q ⟨{ y.b with evs:=y2.b.evs },y2.A,y2.c⟩)).flatMap BX.cells))::(.off 169 23 iA ix.length ic ((ix).flatMap LX.cells))::(.blk kw (bL (nv) d (.slice xw jl.length xA) (ni sh n q (y.b.ep,(y2.b.evs.length:Int))) (.slice Oy pK.length sc') (.slice tA tl.length tc) calls) 121)::(.own 169 23 (.slice xw jl.length xA) jl.length ((jl).flatMap LX.cells))::(.own 85 14 (.slice Oy pK.length sc') pK.length ((pK).flatMap eT.cells))::(.own 81 7 (.slice tA tl.length tc) tl.length ((tl).flatMap fK.cells))::fs))∧(¬ serves y.b→ ∃ xw xA jl,jl=fx++[⟨nQ n x.l.num a (Hh q),none,0⟩]∧St B w0 w' ((.blk kn (aU n up (.slice dA data.length dc) syn (.slice (aD bb 0) 4 4) Hh Us (.slice iA ix.length ic) (pv) turn) 129)::(.own 42 6 (.slice (aD bb 0) 4 4) 4 (((bs.set q ⟨{ y.b with evs:=y2.b.evs },y2.A,y2.c⟩)).flatMap BX.cells))::(.off 169 23 iA ix.length ic ((ix).flatMap LX.cells))::(.blk kw (bL (nv) d (.slice xw jl.length xA) sh (.slice sA aH.length sc) (.slice tA tl.length tc) calls) 121)::(.own 169 23 (.slice xw jl.length xA) jl.length ((jl).flatMap LX.cells))::(.own 85 14 (.slice sA aH.length sc) aH.length ((aH).flatMap eT.cells))::(.own 81 7 (.slice tA tl.length tc) tl.length ((tl).flatMap fK.cells))::fs))):=by
 have hlen:=(S.own 1 rfl).1;rw [gL (sz:=6) (fun _=>rfl)] at hlen;refine fE 17 Tryz.func153 ?_;refine cw [0,1,2,3,4] ?_;refine zQ ?_;have S1:=S.drew;refine yA (C:=fun w'=>St B w0 w' ((.blk kn (aU n up (.slice dA data.length dc) syn (.slice (aD bb 0) 4 4) Hh Us (.slice iA ix.length ic) (pv) turn) 129)::(.own 42 6 (.slice (aD bb 0) 4 4) 4 ((bs).flatMap BX.cells))::(.off 169 23 iA ix.length ic ((ix).flatMap LX.cells))::(.blk kw (bL (nv) d (.slice fA fx.length fc) sh (.slice sA aH.length sc) (.slice tA tl.length tc) calls) 121)::(.own 169 23 (.slice fA fx.length fc) fx.length ((fx).flatMap LX.cells))::(.own 85 14 (.slice sA aH.length sc) aH.length ((aH).flatMap eT.cells))::(.own 81 7 (.slice tA tl.length tc) tl.length ((tl).flatMap fK.cells))::fs)) (m:=10) (listed:= #[false,false,false,false,false,false,false,false,false,false]) 7 mixed rfl rfl ?_;refine gk (v:=pV kn 0) 0 rfl S1 (fun _ XP=>(aj rfl rfl (aA Tryz.underlying122 rfl ((St.hblk XP (memT 7 rfl dG _ hm2)).cell rfl)))) ?_;iterate 3 refine iP ?_
 refine gk (v:=iV ((q:Nat):Int)) 4 rfl S1 (fun _ XQ=>(aj rfl rfl (aA Tryz.underlying3 rfl ((St.hblk XQ (memT 7 rfl dG _ uR)).cell rfl)))) ?_;refine iP ?_;refine gk (v:= .slice y2.A y2.b.evs.length y2.c) 6 rfl S1 (fun _ Sx8=>(aj rfl rfl (aA Tryz.underlying40 rfl ((St.hblk Sx8 (memT 7 rfl dG _ hm1)).cell rfl)))) ?_;refine eF (by kernel_rfl) rfl rfl rfl ?_;refine vv (gM q) ?_;refine zQ ?_;refine kJ (xs':=(bs.set q ⟨{ y.b with evs:=y2.b.evs },y2.A,y2.c⟩).flatMap BX.cells) 1 S1 (wn rfl) rfl rfl rfl rfl rfl rfl qV rfl (bZ rfl) (by omega) (ak1 hy) ?_;intro w9 jE;have avK:(bs.set q ⟨{ y.b with evs:=y2.b.evs },y2.A,y2.c⟩)[q]? =some ⟨{ y.b with evs:=y2.b.evs },y2.A,y2.c⟩:=List.getElem?_set_self (by omega);refine zQ ?_;refine je ?_;iterate 2 refine zQ ?_
 refine vv (aj rfl rfl (aA Tryz.underlying258 rfl ((St.hblk jE (memT 7 rfl dG _ CV)).cell rfl))) ?_;refine vv (aj rfl rfl (qR (St.hblk jE (memT 7 rfl dG _ OI)) Tryz.underlying79 rfl dh rfl)) ?_;refine uF YC (AP hn hq avK x a jE Xq hm2 uR UY hu hb hb2) ?_;rintro _ Qr ⟨rfl,avL⟩;refine ⟨_,rfl,?_⟩;refine zQ ?_;refine bN (l':=[]) trivial (aY (rs:=[]) (vs:=[]) rfl trivial ?_);exact ⟨rfl,avL⟩
theorem MP {B kn kw bb n turn calls dc ic fc sc tc:Nat} {up:Bool} {dA iA fA sA tA:Option Addr} {data:List UInt8} {syn:Int} {Hh:Nat→Pl} {Us:Nat→Bool} {pv nv:Value} {d:Dir} {sh:Nat→Nat→Int×Int} {bs:List BX} {ix fx:List LX} {aH:List eT} {tl:List fK} {w0 w:World} {fs:List Fact} {q b1 b2 b3 b4:Nat} {y2:BX} (hn:n<5) (hq:q<4) {y:BX} (hy:bs[q]? =some y) (S:St B w0 w ((.blk kn (aU n up (.slice dA data.length dc) syn (.slice (aD bb 0) 4 4) Hh Us (.slice iA ix.length ic) (pv) turn) 129)::(.own 42 6 (.slice (aD bb 0) 4 4) 4 ((bs).flatMap BX.cells))::(.off 169 23 iA ix.length ic ((ix).flatMap LX.cells))::(.blk kw (bL (nv) d (.slice fA fx.length fc) sh (.slice sA aH.length sc) (.slice tA tl.length tc) calls) 121)::(.own 169 23 (.slice fA fx.length fc) fx.length ((fx).flatMap LX.cells))::(.own 85 14 (.slice sA aH.length sc) aH.length ((aH).flatMap eT.cells))::(.own 81 7 (.slice tA tl.length tc) tl.length ((tl).flatMap fK.cells))::fs)) (hm1:Fact.blk b1 (BX.cells y2).toArray 42∈fs) (hm2:Fact.blk b2 #[fI kn] 122∈fs) (uR:Fact.blk b3 #[iV ((q:Nat):Int)] 3∈fs) (CV:Fact.blk b4 #[fI kw] 111∈fs) (hb:(fx.length+1)*200≤140737488355328):
    Calls Tryz.prog 156 #[pV b1 0,pV b2 0,pV b3 0,pV b4 0] w (fun e w'=>e= .returned (.tuple #[])∧ ∃ (xw:Option Addr) (xA:Nat) (jl:List LX),jl=fx++[⟨yH n q y2.b,none,0⟩]∧St B w0 w' ((.blk kn (aU n up (.slice dA data.length dc) syn (.slice (aD bb 0) 4 4) Hh Us (.slice iA ix.length ic) (pv) turn) 129)::(.own 42 6 (.slice (aD bb 0) 4 4) 4 (((bs.set q y2)).flatMap BX.cells))::(.off 169 23 iA ix.length ic ((ix).flatMap LX.cells))::(.blk kw (bL (nv) d (.slice xw jl.length xA) sh (.slice sA aH.length sc) (.slice tA tl.length tc) calls) 121)::(.own 169 23 (.slice xw jl.length xA) jl.length ((jl).flatMap LX.cells))::(.own 85 14 (.slice sA aH.length sc) aH.length ((aH).flatMap eT.cells))::(.own 81 7 (.slice tA tl.length tc) tl.length ((tl).flatMap fK.cells))::fs)):=by
 have hlen:=(S.own 1 rfl).1;rw [gL (sz:=6) (fun _=>rfl)] at hlen;refine fE 15 Tryz.func156 ?_;refine cw [0,1,2,3] ?_;refine zQ ?_;have S1:=S.drew;refine yA (C:=fun w'=>St B w0 w' ((.blk kn (aU n up (.slice dA data.length dc) syn (.slice (aD bb 0) 4 4) Hh Us (.slice iA ix.length ic) (pv) turn) 129)::(.own 42 6 (.slice (aD bb 0) 4 4) 4 ((bs).flatMap BX.cells))::(.off 169 23 iA ix.length ic ((ix).flatMap LX.cells))::(.blk kw (bL (nv) d (.slice fA fx.length fc) sh (.slice sA aH.length sc) (.slice tA tl.length tc) calls) 121)::(.own 169 23 (.slice fA fx.length fc) fx.length ((fx).flatMap LX.cells))::(.own 85 14 (.slice sA aH.length sc) aH.length ((aH).flatMap eT.cells))::(.own 81 7 (.slice tA tl.length tc) tl.length ((tl).flatMap fK.cells))::fs)) (m:=8) (listed:= #[false,false,false,false,false,false,false,false]) 6 mixed rfl rfl ?_;refine gk (v:=pV kn 0) 0 rfl S1 (fun _ XP=>(aj rfl rfl (aA Tryz.underlying122 rfl ((St.hblk XP (memT 7 rfl dG _ hm2)).cell rfl)))) ?_;iterate 3 refine iP ?_
 refine gk (v:=iV ((q:Nat):Int)) 4 rfl S1 (fun _ XQ=>(aj rfl rfl (aA Tryz.underlying3 rfl ((St.hblk XQ (memT 7 rfl dG _ uR)).cell rfl)))) ?_;refine gk (v:= .agg ((BX.cells y2).toArray)) 5 rfl S1 (fun _ Sx7=>(aj rfl rfl (qR (St.hblk Sx7 (memT 7 rfl dG _ hm1)) Tryz.underlying42 rfl aC rfl))) ?_;refine eF (by kernel_rfl) rfl rfl rfl ?_;refine vv (gM q) ?_;refine kJ (xs':=(bs.set q y2).flatMap BX.cells) 1 S1 (wn rfl) rfl rfl rfl rfl rfl rfl aC rfl (bZ rfl) (by omega) (by rw [Nat.zero_add];exact oI (enc:=BX.cells) (sz:=6) (fun _=>rfl) y2 _ _ (by omega)) ?_;intro w8 S9;have Nj:(bs.set q y2)[q]? =some y2:=List.getElem?_set_self (by omega);refine zQ ?_;refine je ?_;iterate 2 refine zQ ?_
 refine vv (aj rfl rfl (aA Tryz.underlying111 rfl ((St.hblk S9 (memT 7 rfl dG _ CV)).cell rfl))) ?_;refine vv (aj rfl rfl (aA Tryz.underlying122 rfl ((St.hblk S9 (memT 7 rfl dG _ hm2)).cell rfl))) ?_;refine vv (aj rfl rfl (aA Tryz.underlying3 rfl ((St.hblk S9 (memT 7 rfl dG _ uR)).cell rfl))) ?_;refine dO QW (wP hn hq Nj S9 (by omega)) ?_;rintro _ FR ⟨rfl,A11,c12,aij,avM,jR⟩;refine ⟨_,rfl,?_⟩;refine zQ ?_;refine bN (l':=[]) trivial (aY (rs:=[]) (vs:=[]) rfl trivial ?_);exact ⟨rfl,A11,c12,aij,avM,jR⟩
theorem TF {B kn kw bb n turn calls dc ic fc sc tc:Nat} {up:Bool} {dA iA fA sA tA:Option Addr} {data:List UInt8} {syn:Int} {Hh:Nat→Pl} {Us:Nat→Bool} {pv nv:Value} {d:Dir} {sh:Nat→Nat→Int×Int} {bs:List BX} {ix fx:List LX} {aH:List eT} {tl:List fK} {w0 w:World} {fs:List Fact} {q b1 b2 b3 b4 b5:Nat} {y2:BX} {x:LX} (hn:n<5) (hq:q<4) {y:BX} (hy:bs[q]? =some y) (S:St B w0 w ((.blk kn (aU n up (.slice dA data.length dc) syn (.slice (aD bb 0) 4 4) Hh Us (.slice iA ix.length ic) (pv) turn) 129)::(.own 42 6 (.slice (aD bb 0) 4 4) 4 ((bs).flatMap BX.cells))::(.off 169 23 iA ix.length ic ((ix).flatMap LX.cells))::(.blk kw (bL (nv) d (.slice fA fx.length fc) sh (.slice sA aH.length sc) (.slice tA tl.length tc) calls) 121)::(.own 169 23 (.slice fA fx.length fc) fx.length ((fx).flatMap LX.cells))::(.own 85 14 (.slice sA aH.length sc) aH.length ((aH).flatMap eT.cells))::(.own 81 7 (.slice tA tl.length tc) tl.length ((tl).flatMap fK.cells))::fs)) (hm1:Fact.blk b1 (BX.cells y2).toArray 42∈fs) (hm2:Fact.blk b2 #[fI kn] 122∈fs) (uR:Fact.blk b3 #[iV ((q:Nat):Int)] 3∈fs) (CV:Fact.blk b4 (LX.row x) 169∈fs) (OI:Fact.blk b5 #[fI kw] 111∈fs) (hb:(fx.length+1)*200≤140737488355328) (hb2:(aH.length+1)*112≤140737488355328):
    Calls Tryz.prog 161 #[pV b1 0,pV b2 0,pV b3 0,pV b4 0,pV b5 0] w (fun e w'=>e= .returned (.tuple #[])∧(x.l.last=true→ ∃ (Oy:Option Addr) (sc':Nat) (pK:List eT),pK=aH++[(⟨n,q,y2.b.ep,bU,gF,-1⟩:eT)]∧St B w0 w' ((.blk kn (aU n up (.slice dA data.length dc) syn (.slice (aD bb 0) 4 4) Hh (upd Us q false) (.slice iA ix.length ic) (pv) turn) 129)::(.own 42 6 (.slice (aD bb 0) 4 4) 4 (((bs.set q y2)).flatMap BX.cells))::(.off 169 23 iA ix.length ic ((ix).flatMap LX.cells))::(.blk kw (bL (nv) d (.slice fA fx.length fc) (ni sh n q (y2.b.ep,(y2.b.evs.length:Int))) (.slice Oy pK.length sc') (.slice tA tl.length tc) calls) 121)::(.own 169 23 (.slice fA fx.length fc) fx.length ((fx).flatMap LX.cells))::(.own 85 14 (.slice Oy pK.length sc') pK.length ((pK).flatMap eT.cells))::(.own 81 7 (.slice tA tl.length tc) tl.length ((tl).flatMap fK.cells))::fs))∧(x.l.last=false→ ∃ (xw:Option Addr) (xA:Nat) (jl:List LX),jl=fx++[⟨yH n q y2.b,none,0⟩]∧St B w0 w' ((.blk kn (aU n up (.slice dA data.length dc) syn (.slice (aD bb 0) 4 4) Hh Us (.slice iA ix.length ic) (pv) turn) 129)::(.own 42 6 (.slice (aD bb 0) 4 4) 4 (((bs.set q y2)).flatMap BX.cells))::(.off 169 23 iA ix.length ic ((ix).flatMap LX.cells))::(.blk kw (bL (nv) d (.slice xw jl.length xA) sh (.slice sA aH.length sc) (.slice tA tl.length tc) calls) 121)::(.own 169 23 (.slice xw jl.length xA) jl.length ((jl).flatMap LX.cells))::(.own 85 14 (.slice sA aH.length sc) aH.length ((aH).flatMap eT.cells))::(.own 81 7 (.slice tA tl.length tc) tl.length ((tl).flatMap fK.cells))::fs))):=by
 have hlen:=(S.own 1 rfl).1;rw [gL (sz:=6) (fun _=>rfl)] at hlen;refine fE 29 Tryz.func161 ?_;refine cw [0,1,2,3,4] ?_;refine zQ ?_;have S1:=S.drew;refine yA (C:=fun w'=>St B w0 w' ((.blk kn (aU n up (.slice dA data.length dc) syn (.slice (aD bb 0) 4 4) Hh Us (.slice iA ix.length ic) (pv) turn) 129)::(.own 42 6 (.slice (aD bb 0) 4 4) 4 ((bs).flatMap BX.cells))::(.off 169 23 iA ix.length ic ((ix).flatMap LX.cells))::(.blk kw (bL (nv) d (.slice fA fx.length fc) sh (.slice sA aH.length sc) (.slice tA tl.length tc) calls) 121)::(.own 169 23 (.slice fA fx.length fc) fx.length ((fx).flatMap LX.cells))::(.own 85 14 (.slice sA aH.length sc) aH.length ((aH).flatMap eT.cells))::(.own 81 7 (.slice tA tl.length tc) tl.length ((tl).flatMap fK.cells))::fs)) (m:=8) (listed:= #[false,false,false,false,false,false,false,false]) 6 mixed rfl rfl ?_;refine gk (v:=pV kn 0) 0 rfl S1 (fun _ XP=>(aj rfl rfl (aA Tryz.underlying122 rfl ((St.hblk XP (memT 7 rfl dG _ hm2)).cell rfl)))) ?_;iterate 3 refine iP ?_
 refine gk (v:=iV ((q:Nat):Int)) 4 rfl S1 (fun _ XQ=>(aj rfl rfl (aA Tryz.underlying3 rfl ((St.hblk XQ (memT 7 rfl dG _ uR)).cell rfl)))) ?_;refine gk (v:= .agg ((BX.cells y2).toArray)) 5 rfl S1 (fun _ Sx7=>(aj rfl rfl (qR (St.hblk Sx7 (memT 7 rfl dG _ hm1)) Tryz.underlying42 rfl aC rfl))) ?_;refine eF (by kernel_rfl) rfl rfl rfl ?_;refine vv (gM q) ?_;refine kJ (xs':=(bs.set q y2).flatMap BX.cells) 1 S1 (wn rfl) rfl rfl rfl rfl rfl rfl aC rfl (bZ rfl) (by omega) (by rw [Nat.zero_add];exact oI (enc:=BX.cells) (sz:=6) (fun _=>rfl) y2 _ _ (by omega)) ?_;intro w8 S9;have Nj:(bs.set q y2)[q]? =some y2:=List.getElem?_set_self (by omega);refine zQ ?_;refine je ?_;iterate 5 refine zQ ?_
 refine vv (v:= .bool x.l.last) (aj rfl rfl (aA Tryz.underlying4 rfl ((St.hblk S9 (memT 7 rfl dG _ CV)).cell rfl))) ?_;iterate 2 refine zQ ?_
 cases aDf:(x.l.last)
 ·refine bq (l':=[(1,pV b2 0),(2,pV b3 0),(4,pV b5 0),(13,.bool false)]) ⟨rfl,rfl,rfl,rfl,trivial⟩ (kQ rfl (oU (gJ (aO (vv (aj rfl rfl (aA Tryz.underlying111 rfl ((St.hblk S9 (memT 7 rfl dG _ OI)).cell rfl))) ?_)))));refine vv (aj rfl rfl (aA Tryz.underlying122 rfl ((St.hblk S9 (memT 7 rfl dG _ hm2)).cell rfl))) ?_;refine vv (aj rfl rfl (aA Tryz.underlying3 rfl ((St.hblk S9 (memT 7 rfl dG _ uR)).cell rfl))) ?_;refine dO QW (wP hn hq Nj S9 (by omega)) ?_;rintro _ w16 ⟨rfl,Mr,c13,avN,aik,kT⟩;refine ⟨_,rfl,?_⟩;refine zQ ?_;refine bN (l':=[]) trivial (aY (rs:=[]) (vs:=[]) rfl trivial ?_);exact ⟨rfl,fun h=>by simp_all,fun _=>⟨Mr,c13,avN,aik,kT⟩⟩
 refine bq (l':=[(1,pV b2 0),(2,pV b3 0),(4,pV b5 0),(13,.bool true)]) ⟨rfl,rfl,rfl,rfl,trivial⟩ (kP rfl (aW ?_));have iD:=S9.drew;refine aN 6 iD [0] ?_;refine ak (v:=pV kn 0) 0 rfl (St.del 0 iD) (fun _ avO=>(aj rfl rfl (aA Tryz.underlying122 rfl ((St.hblk avO (memT 6 rfl dG _ hm2)).cell rfl)))) ?_;refine ak (v:=iV ((q:Nat):Int)) 1 rfl (St.del 0 iD) (fun _ XR=>(aj rfl rfl (aA Tryz.underlying3 rfl ((St.hblk XR (memT 6 rfl dG _ uR)).cell rfl)))) ?_;iterate 2 refine aF ?_
 refine ak (v:=pV kn (13+q*1)) 4 rfl (St.del 0 iD) (fun _ _=>(bP rfl rfl rfl (eu q Tryz.underlying126 EM rfl hq))) ?_;refine aS 5 ?_;refine rY (i:=5) rfl rfl (cs:= #[.bool false]) (row':=aU n up (.slice dA data.length dc) syn (.slice (aD bb 0) 4 4) Hh (upd Us q false) (.slice iA ix.length ic) (pv) turn) (fs':=((.blk kn (aU n up (.slice dA data.length dc) syn (.slice (aD bb 0) 4 4) Hh (upd Us q false) (.slice iA ix.length ic) (pv) turn) 129)::_::_::_::_::_::_::fs)) 0 iD (wn rfl) rfl rfl rfl rfl rfl rfl EM rfl (bZ rfl) (by rw [show Array.size (aU _ _ _ _ _ _ _ _ _ _)=20 from rfl];omega) (UZ hq (v:=false)) rfl ?_;intro JU iX;iterate 2 refine aF ?_
 iterate 3 refine zQ ?_
 refine vv (aj rfl rfl (aA Tryz.underlying111 rfl ((St.hblk iX (memT 7 rfl dG _ OI)).cell rfl))) ?_;refine vv (aj rfl rfl (aA Tryz.underlying122 rfl ((St.hblk iX (memT 7 rfl dG _ hm2)).cell rfl))) ?_;refine vv (aj rfl rfl (aA Tryz.underlying3 rfl ((St.hblk iX (memT 7 rfl dG _ uR)).cell rfl))) ?_;refine vv (v:= .agg #[iV 4,iV 0,iV 0,iV 0,iV 0,iV 0]) gZ ?_;refine zQ ?_;refine dO EC (lX hn hq Nj bU gF (-1) iX (by omega)) ?_;rintro _ V4 ⟨rfl,WS,c27,avP,avQ,mF⟩;refine ⟨_,rfl,?_⟩;refine zQ ?_;refine bN (l':=[]) trivial (gJ (nJ (fZ (dI (rs:=[]) (vs:=[]) rfl trivial ?_))));exact ⟨rfl,fun _=>⟨WS,c27,avP,avQ,mF⟩,fun h=>by simp_all⟩
theorem P8 {B kn kw bb n turn calls dc ic fc sc tc:Nat} {up:Bool} {dA iA fA sA tA:Option Addr} {data:List UInt8} {syn:Int} {Hh:Nat→Pl} {Us:Nat→Bool} {pv nv:Value} {d:Dir} {sh:Nat→Nat→Int×Int} {bs:List BX} {ix fx:List LX} {aH:List eT} {tl:List fK} {w0 w:World} {fs:List Fact} {L:List Fact} {q b1 b2 b3 b4 b5:Nat} {y2:BX} {x:LX} (hn:n<5) (hq:q<4) {y:BX} (hy:bs[q]? =some y) (S:St B w0 w ((.blk kn (aU n up (.slice dA data.length dc) syn (.slice (aD bb 0) 4 4) Hh Us (.slice iA ix.length ic) (pv) turn) 129)::(.own 42 6 (.slice (aD bb 0) 4 4) 4 ((bs).flatMap BX.cells))::(.off 169 23 iA ix.length ic ((ix).flatMap LX.cells))::(.blk kw (bL (nv) d (.slice fA fx.length fc) sh (.slice sA aH.length sc) (.slice tA tl.length tc) calls) 121)::(.own 169 23 (.slice fA fx.length fc) fx.length ((fx).flatMap LX.cells))::(.own 85 14 (.slice sA aH.length sc) aH.length ((aH).flatMap eT.cells))::(.own 81 7 (.slice tA tl.length tc) tl.length ((tl).flatMap fK.cells))::fs)) (hm1:Fact.blk b1 (BX.cells y2).toArray 42∈fs) (hm2:Fact.blk b2 #[fI kn] 122∈fs) (uR:Fact.blk b3 #[iV ((q:Nat):Int)] 3∈fs) (CV:Fact.blk b4 #[fI kw] 111∈fs) (OI:Fact.blk b5 (LX.row x) 169∈fs) (hev:zi L y2) (hL: ∀ f∈L,f∈fs) (aib:y2.b.evs.length*48≤reachBytes) (gG: -2≤y2.b.ep∧y2.b.ep≤2000000) (hb:(fx.length+1)*200≤140737488355328):
    Calls Tryz.prog 159 #[pV b1 0,pV b2 0,pV b3 0,pV b4 0,pV b5 0] w (fun e w'=>e= .returned (.tuple #[])∧ ∃ (A':Option Addr) (c':Nat) (jl:List LX) (N:List Fact),jl.map LX.l=sP n q y2.b x.l.at_ (fx.map LX.l)∧(∀ x∈jl,x∈fx∨MF N x)∧St B w0 w' ((.blk kn (aU n up (.slice dA data.length dc) syn (.slice (aD bb 0) 4 4) Hh Us (.slice iA ix.length ic) (pv) turn) 129)::(.own 42 6 (.slice (aD bb 0) 4 4) 4 (((bs.set q y2)).flatMap BX.cells))::(.off 169 23 iA ix.length ic ((ix).flatMap LX.cells))::(.blk kw (bL (nv) d (.slice A' jl.length c') sh (.slice sA aH.length sc) (.slice tA tl.length tc) calls) 121)::(.own 169 23 (.slice A' jl.length c') jl.length ((jl).flatMap LX.cells))::(.own 85 14 (.slice sA aH.length sc) aH.length ((aH).flatMap eT.cells))::(.own 81 7 (.slice tA tl.length tc) tl.length ((tl).flatMap fK.cells))::(fs++N))):=by
 have hlen:=(S.own 1 rfl).1;rw [gL (sz:=6) (fun _=>rfl)] at hlen;refine fE 18 Tryz.func159 ?_;refine cw [0,1,2,3,4] ?_;refine zQ ?_;have S1:=S.drew;refine yA (C:=fun w'=>St B w0 w' ((.blk kn (aU n up (.slice dA data.length dc) syn (.slice (aD bb 0) 4 4) Hh Us (.slice iA ix.length ic) (pv) turn) 129)::(.own 42 6 (.slice (aD bb 0) 4 4) 4 ((bs).flatMap BX.cells))::(.off 169 23 iA ix.length ic ((ix).flatMap LX.cells))::(.blk kw (bL (nv) d (.slice fA fx.length fc) sh (.slice sA aH.length sc) (.slice tA tl.length tc) calls) 121)::(.own 169 23 (.slice fA fx.length fc) fx.length ((fx).flatMap LX.cells))::(.own 85 14 (.slice sA aH.length sc) aH.length ((aH).flatMap eT.cells))::(.own 81 7 (.slice tA tl.length tc) tl.length ((tl).flatMap fK.cells))::fs)) (m:=8) (listed:= #[false,false,false,false,false,false,false,false]) 6 mixed rfl rfl ?_;refine gk (v:=pV kn 0) 0 rfl S1 (fun _ XP=>(aj rfl rfl (aA Tryz.underlying122 rfl ((St.hblk XP (memT 7 rfl dG _ hm2)).cell rfl)))) ?_;iterate 3 refine iP ?_
 refine gk (v:=iV ((q:Nat):Int)) 4 rfl S1 (fun _ XQ=>(aj rfl rfl (aA Tryz.underlying3 rfl ((St.hblk XQ (memT 7 rfl dG _ uR)).cell rfl)))) ?_;refine gk (v:= .agg ((BX.cells y2).toArray)) 5 rfl S1 (fun _ Sx7=>(aj rfl rfl (qR (St.hblk Sx7 (memT 7 rfl dG _ hm1)) Tryz.underlying42 rfl aC rfl))) ?_;refine eF (by kernel_rfl) rfl rfl rfl ?_;refine vv (gM q) ?_;refine kJ (xs':=(bs.set q y2).flatMap BX.cells) 1 S1 (wn rfl) rfl rfl rfl rfl rfl rfl aC rfl (bZ rfl) (by omega) (by rw [Nat.zero_add];exact oI (enc:=BX.cells) (sz:=6) (fun _=>rfl) y2 _ _ (by omega)) ?_;intro w8 S9;have Nj:(bs.set q y2)[q]? =some y2:=List.getElem?_set_self (by omega);refine zQ ?_;refine je ?_;iterate 2 refine zQ ?_
 refine vv (aj rfl rfl (aA Tryz.underlying111 rfl ((St.hblk S9 (memT 7 rfl dG _ CV)).cell rfl))) ?_;refine vv (aj rfl rfl (aA Tryz.underlying122 rfl ((St.hblk S9 (memT 7 rfl dG _ hm2)).cell rfl))) ?_;refine vv (aj rfl rfl (aA Tryz.underlying3 rfl ((St.hblk S9 (memT 7 rfl dG _ uR)).cell rfl))) ?_;refine zQ ?_;refine vv (aj rfl rfl (aA Tryz.underlying3 rfl ((St.hblk S9 (memT 7 rfl dG _ OI)).cell rfl))) ?_;refine dO agc (Ho (L:=L) hn hq Nj x.l.at_ hev (memT 0 rfl hL) aib gG S9 (by omega)) ?_;rintro _ JR ⟨rfl,A11,c12,aij,N14,aik,hx16,iD⟩;refine ⟨_,rfl,?_⟩;refine zQ ?_;refine bN (l':=[]) trivial (aY (rs:=[]) (vs:=[]) rfl trivial ?_);exact ⟨rfl,A11,c12,aij,N14,aik,hx16,iD⟩
theorem Je {B kn kw bb n turn calls dc ic fc sc tc:Nat} {up:Bool} {dA iA fA sA tA:Option Addr} {data:List UInt8} {syn:Int} {Hh:Nat→Pl} {Us:Nat→Bool} {pv nv:Value} {d:Dir} {sh:Nat→Nat→Int×Int} {bs:List BX} {ix fx:List LX} {aH:List eT} {tl:List fK} {w0 w:World} {fs:List Fact} {q b1 b2 b3:Nat} {y2:BX} (hn:n<5) (hq:q<4) {y:BX} (hy:bs[q]? =some y) (S:St B w0 w ((.blk kn (aU n up (.slice dA data.length dc) syn (.slice (aD bb 0) 4 4) Hh Us (.slice iA ix.length ic) (pv) turn) 129)::(.own 42 6 (.slice (aD bb 0) 4 4) 4 ((bs).flatMap BX.cells))::(.off 169 23 iA ix.length ic ((ix).flatMap LX.cells))::(.blk kw (bL (nv) d (.slice fA fx.length fc) sh (.slice sA aH.length sc) (.slice tA tl.length tc) calls) 121)::(.own 169 23 (.slice fA fx.length fc) fx.length ((fx).flatMap LX.cells))::(.own 85 14 (.slice sA aH.length sc) aH.length ((aH).flatMap eT.cells))::(.own 81 7 (.slice tA tl.length tc) tl.length ((tl).flatMap fK.cells))::fs)) (hm1:Fact.blk b1 (BX.cells y2).toArray 42∈fs) (hm2:Fact.blk b2 #[fI kn] 122∈fs) (uR:Fact.blk b3 #[iV ((q:Nat):Int)] 3∈fs):
    Calls Tryz.prog 163 #[pV b1 0,pV b2 0,pV b3 0] w (fun e w'=>e= .returned (.tuple #[])∧St B w0 w' ((.blk kn (aU n up (.slice dA data.length dc) syn (.slice (aD bb 0) 4 4) Hh Us (.slice iA ix.length ic) (pv) turn) 129)::(.own 42 6 (.slice (aD bb 0) 4 4) 4 (((bs.set q y2)).flatMap BX.cells))::(.off 169 23 iA ix.length ic ((ix).flatMap LX.cells))::(.blk kw (bL (nv) d (.slice fA fx.length fc) sh (.slice sA aH.length sc) (.slice tA tl.length tc) calls) 121)::(.own 169 23 (.slice fA fx.length fc) fx.length ((fx).flatMap LX.cells))::(.own 85 14 (.slice sA aH.length sc) aH.length ((aH).flatMap eT.cells))::(.own 81 7 (.slice tA tl.length tc) tl.length ((tl).flatMap fK.cells))::fs)):=by
 have hlen:=(S.own 1 rfl).1;rw [gL (sz:=6) (fun _=>rfl)] at hlen;refine fE 10 Tryz.func163 ?_;refine bq (l':=[(0,pV b1 0),(1,pV b2 0),(2,pV b3 0)]) ⟨rfl,rfl,rfl,trivial⟩ ?_;have S1:=S.drew;refine yA (C:=fun w'=>St B w0 w' ((.blk kn (aU n up (.slice dA data.length dc) syn (.slice (aD bb 0) 4 4) Hh Us (.slice iA ix.length ic) (pv) turn) 129)::(.own 42 6 (.slice (aD bb 0) 4 4) 4 ((bs).flatMap BX.cells))::(.off 169 23 iA ix.length ic ((ix).flatMap LX.cells))::(.blk kw (bL (nv) d (.slice fA fx.length fc) sh (.slice sA aH.length sc) (.slice tA tl.length tc) calls) 121)::(.own 169 23 (.slice fA fx.length fc) fx.length ((fx).flatMap LX.cells))::(.own 85 14 (.slice sA aH.length sc) aH.length ((aH).flatMap eT.cells))::(.own 81 7 (.slice tA tl.length tc) tl.length ((tl).flatMap fK.cells))::fs)) (m:=8) (listed:= #[false,false,false,false,false,false,false,false]) 6 mixed rfl rfl ?_;refine gk (v:=pV kn 0) 0 rfl S1 (fun _ XP=>(aj rfl rfl (aA Tryz.underlying122 rfl ((St.hblk XP (memT 7 rfl dG _ hm2)).cell rfl)))) ?_;iterate 3 refine iP ?_
 refine gk (v:=iV ((q:Nat):Int)) 4 rfl S1 (fun _ XQ=>(aj rfl rfl (aA Tryz.underlying3 rfl ((St.hblk XQ (memT 7 rfl dG _ uR)).cell rfl)))) ?_;refine gk (v:= .agg ((BX.cells y2).toArray)) 5 rfl S1 (fun _ Sx7=>(aj rfl rfl (qR (St.hblk Sx7 (memT 7 rfl dG _ hm1)) Tryz.underlying42 rfl aC rfl))) ?_;refine eF (by kernel_rfl) rfl rfl rfl ?_;refine vv (gM q) ?_;refine kJ (xs':=(bs.set q y2).flatMap BX.cells) 1 S1 (wn rfl) rfl rfl rfl rfl rfl rfl aC rfl (bZ rfl) (by omega) (by rw [Nat.zero_add];exact oI (enc:=BX.cells) (sz:=6) (fun _=>rfl) y2 _ _ (by omega)) ?_;intro w8 S9;have Nj:(bs.set q y2)[q]? =some y2:=List.getElem?_set_self (by omega);refine zQ ?_;refine je ?_;refine bN (l':=[]) trivial (aY (rs:=[]) (vs:=[]) rfl trivial ?_);exact ⟨rfl,S9⟩
theorem P9 {K:CK} {B n kn kw:Nat} {w0 w:World} {fs:List Fact} {m:Cl} {H:List LX} {x:LX} (hn:n<5) (hkn:K.nb n=kn) (bR:K.wb=kw) (hu:Uk B w0) (hB1:m.fly.length≤1000000000) (hB2:m.aH.length≤1000000000000) (HW:Wd K B w0 w fs m (x::H)) (hq:x.l.q<4) (hv: ∀ q,q<4→au ((m.av n).bs q)=0):
    Calls Tryz.prog 121 #[pV kw 0,pV kn 0,.agg (LX.row x)] w (fun e w'=>e= .returned (.tuple #[])∧Wd K B w0 w' fs (m.serve n x.l) H):=by
 obtain ⟨R,G,S0⟩:=HW.open hn;have hfl:R.fx.length=m.fly.length:=by rw [←G.fly,List.length_map]
 have NG:=G.lC n hn;obtain ⟨X,hX⟩: ∃ X,m.av n=X:=⟨_,rfl⟩;obtain ⟨z,hz⟩: ∃ z,R.nx n=z:=⟨_,rfl⟩;rw [hX,hz] at S0 NG;have hL: ∀ f∈R.L,f∈eZ K R m fs n:=fun f h=>List.mem_append_right _ (List.mem_append_right _ h)
 obtain ⟨rr,hrr⟩: ∃ r,eZ K R m fs n=r:=⟨_,rfl⟩;rw [hrr] at S0 hL;have S:St B w0 w ((.blk kn (aU n X.up (.slice z.tA X.data.length z.tc) X.syn (.slice (aD z.bb 0) 4 4) X.hints X.sure (.slice z.iA z.ix.length z.ic) (z.pv) X.turn) 129)::(.own 42 6 (.slice (aD z.bb 0) 4 4) 4 ((z.bx).flatMap BX.cells))::(.off 169 23 z.iA z.ix.length z.ic ((z.ix).flatMap LX.cells))::(.blk kw (bL (.slice R.nA 5 R.nc) m.off (.slice R.fA R.fx.length R.fc) m.shown (.slice R.sA m.aH.length R.sc) (.slice R.tA m.aM.length R.tc) m.calls) 121)::(.own 169 23 (.slice R.fA R.fx.length R.fc) R.fx.length ((R.fx).flatMap LX.cells))::(.own 85 14 (.slice R.sA m.aH.length R.sc) m.aH.length ((m.aH).flatMap eT.cells))::(.own 81 7 (.slice R.tA m.aM.length R.tc) m.aM.length ((m.aM).flatMap fK.cells))::rr):=by subst hkn;subst bR;exact S0
 clear S0 HW;have hlen:=(S.own 1 rfl).1;rw [gL (sz:=6) (fun _=>rfl)] at hlen;rw [hX] at hv;obtain ⟨y,hy,hyb,qZ⟩:=NG.at_ hq;have hln:=jC (iO (hyb▸hv _ hq));have wR:y.b.evs.length*48≤reachBytes:=by unfold reachBytes;omega
 have Iu:=uZ (hyb▸hv _ hq);refine fE 54 Tryz.func121 ?_;refine cw [0,1,2] ?_;iterate 2 refine zQ ?_
 refine Qn S ?_;intro b1 w2 S3;refine Qn S3 ?_;intro b4 w5 S6;refine gD S6 ?_;intro b7 w8 S9;iterate 6 refine zQ ?_
 refine eU S9 zr3 ?_;intro b10 Ee lq;refine iU (row':= #[iV ((x.l.q:Nat):Int)]) 0 lq fM ?_;intro CG jH;iterate 2 refine zQ ?_
 obtain ⟨SR,hSR⟩: ∃ r,gQ y.b x.l.op=r:=⟨_,rfl⟩;have HP:=fun w h=>PO y.b.role y.b.ep y.b.fr y.b.tg y.b.rd y.A y.c y.b.evs x.l.op w h wR
 rw [show gQ ⟨y.b.role,y.b.ep,y.b.fr,y.b.tg,y.b.rd,y.b.evs⟩ x.l.op=SR from hSR] at HP;refine jU (X:=Nat×Nat×(Option Addr)×Nat) (fun xv=>[(3,pV b1 0),(4,pV b4 0),(5,pV b7 0),(6,pV b10 0),(7,pV xv.1 0),(8,pV xv.2.1 0),(9,.bool SR.2.2.1)]) (fun xv wr=>(SR.1.evs.length≤xv.2.2.2)∧St B w0 wr ((.blk xv.2.1 #[iV SR.2.1.code,iV SR.2.1.gG,iV SR.2.1.hno,iV SR.2.1.body] 79)::(.blk xv.1 #[iV SR.1.role,iV SR.1.ep,iV SR.1.fr,iV SR.1.tg,iV SR.1.rd,.slice xv.2.2.1 SR.1.evs.length xv.2.2.2] 42)::(.bG 6 xv.2.2.1 SR.1.evs.length ((SR.1.evs).flatMap Ev.cells))::(.blk b10 #[iV ((x.l.q:Nat):Int)] 3)::(.blk b7 (LX.row x) 169)::(.blk b4 #[pV kn 0] 122)::(.blk b1 #[pV kw 0] 111)::(.blk kn (aU n X.up (.slice z.tA X.data.length z.tc) X.syn (.slice (aD z.bb 0) 4 4) X.hints X.sure (.slice z.iA z.ix.length z.ic) (z.pv) X.turn) 129)::(.own 42 6 (.slice (aD z.bb 0) 4 4) 4 ((z.bx).flatMap BX.cells))::(.off 169 23 z.iA z.ix.length z.ic ((z.ix).flatMap LX.cells))::(.blk kw (bL (.slice R.nA 5 R.nc) m.off (.slice R.fA R.fx.length R.fc) m.shown (.slice R.sA m.aH.length R.sc) (.slice R.tA m.aM.length R.tc) m.calls) 121)::(.own 169 23 (.slice R.fA R.fx.length R.fc) R.fx.length ((R.fx).flatMap LX.cells))::(.own 85 14 (.slice R.sA m.aH.length R.sc) m.aH.length ((m.aH).flatMap eT.cells))::(.own 81 7 (.slice R.tA m.aM.length R.tc) m.aM.length ((m.aM).flatMap fK.cells))::rr)) ?_ ?_
 ·have gH:=jH.drew;refine aN 21 gH [] ?_;iterate 5 refine aF ?_
  refine ak 5 rfl gH (fun _ _=>gM x.l.q) ?_;refine ak (v:= .agg #[iV y.b.role,iV y.b.ep,iV y.b.fr,iV y.b.tg,iV y.b.rd,.slice y.A y.b.evs.length y.c]) 6 rfl gH (fun _ Dr=>(aj rfl rfl (aG (cs:=BX.cells y) Tryz.underlying42 rfl aC rfl (Rd.uN (St.ord 5 Dr rfl) (fun _ _ h=>bS (enc:=BX.cells) (sz:=6) (fun _=>rfl) hy h))))) ?_;refine aF ?_;refine ak (v:= .agg #[iV x.l.op.kind,iV x.l.op.producer,iV x.l.op.id,iV x.l.op.body,iV x.l.op.aL,iV x.l.op.hno]) 8 rfl gH (fun _ avR=>(aj rfl rfl (aG (cs:=[iV x.l.op.kind,iV x.l.op.producer,iV x.l.op.id,iV x.l.op.body,iV x.l.op.aL,iV x.l.op.hno]) Tryz.underlying75 rfl jT rfl (St.rg 1 avR rfl (Rs))))) ?_;refine Ny (n:=11) (r:=9) (s:=15) (t:=16) (by kernel_rfl) ?_ ?_ ?_
  ·refine iH 9 rfl LU (HP _ (qZ.1.rd gH (memT 11 rfl hL))) ?_;rintro _ VN ⟨A25,c26,agP,rfl,T30⟩;refine ⟨_,rfl,?_⟩;have sj:=gH.ext T30 rfl;iterate 6 refine aF ?_
   refine dR (n:=5) (r:=15) (s:=16) (by kernel_rfl) ?_ ?_
   ·refine jk 15 rfl sj dK ?_;intro tH NQ oG;refine aF ?_;refine aS 16 ?_;refine jk 16 rfl oG rz ?_;intro b39 UH xU;refine aF ?_;refine aS 17 ?_;refine sn 17 rfl 1 xU aC ?_;intro Ux tu;refine aF ?_;refine aS 18 ?_;refine sn 18 rfl 0 tu dh ?_;intro L9 mW;iterate 4 refine aF ?_
    refine bJ (tH,b39,A25,c26) ?_ ⟨rfl,rfl,rfl,rfl,rfl,rfl,rfl,trivial⟩;exact ⟨agP,mW⟩
   refine jk 16 rfl sj rz ?_;intro UR Qq rO;refine aF ?_;refine aS 15 ?_;refine jk 15 rfl rO dK ?_;intro Zu w52 vG;refine aF ?_;refine aS 17 ?_;refine sn 17 rfl 0 vG aC ?_;intro w54 xk;refine aF ?_;refine aS 18 ?_;refine sn 18 rfl 1 xk dh ?_;intro w56 sF;iterate 4 refine aF ?_
   have Qt:=sF.dM [13,13,13,13,13,13,13,13,13,13,13,13,12,13];refine bJ (Zu,UR,A25,c26) ?_ ⟨rfl,rfl,rfl,rfl,rfl,rfl,rfl,trivial⟩;exact ⟨agP,Qt⟩
  ·refine jk 15 rfl gH dK ?_;intro b61 VY uO;refine aF ?_;refine dR (n:=10) (r:=9) (s:=16) (by kernel_rfl) ?_ ?_
   ·refine iH 9 rfl LU (HP _ (qZ.1.rd uO (memT 12 rfl hL))) ?_;rintro _ w67 ⟨A64,c65,aqa,rfl,T69⟩;refine ⟨_,rfl,?_⟩;have uz:=uO.ext T69 rfl;iterate 6 refine aF ?_
    refine aS 16 ?_;refine jk 16 rfl uz rz ?_;intro b75 w76 CB;refine aF ?_;refine aS 17 ?_;refine sn 17 rfl 2 CB aC ?_;intro w78 Aq;refine aF ?_;refine aS 18 ?_;refine sn 18 rfl 0 Aq dh ?_;intro Mc pF;iterate 4 refine aF ?_
    have CJ:=pF.dM [13,13,13,13,13,13,13,13,13,13,13,12,13,13];refine bJ (b61,b75,A64,c65) ?_ ⟨rfl,rfl,rfl,rfl,rfl,rfl,rfl,trivial⟩;exact ⟨aqa,CJ⟩
   refine jk 16 rfl uO rz ?_;intro b85 w86 Du;refine aF ?_;refine aS 9 ?_;refine iH 9 rfl LU (HP _ (qZ.1.rd Du (memT 13 rfl hL))) ?_;rintro _ Zz ⟨A88,c89,agI,rfl,T93⟩;refine ⟨_,rfl,?_⟩;have vI:=Du.ext T93 rfl;iterate 6 refine aF ?_
   refine aS 17 ?_;refine sn 17 rfl 2 vI aC ?_;intro w99 oJ;refine aF ?_;refine aS 18 ?_;refine sn 18 rfl 1 oJ dh ?_;intro ahp pG;iterate 4 refine aF ?_
   have lD:=pG.dM [13,13,13,13,13,13,13,13,13,13,13,11,13,13];refine bJ (b61,b85,A88,c89) ?_ ⟨rfl,rfl,rfl,rfl,rfl,rfl,rfl,trivial⟩;exact ⟨agI,lD⟩
  refine jk 16 rfl gH rz ?_;intro Dt al3 rC;refine aF ?_;refine dR (n:=10) (r:=9) (s:=15) (by kernel_rfl) ?_ ?_
  ·refine iH 9 rfl LU (HP _ (qZ.1.rd rC (memT 12 rfl hL))) ?_;rintro _ Kg ⟨Kj,Nh,ak8,rfl,avS⟩;refine ⟨_,rfl,?_⟩;have jg:=rC.ext avS rfl;iterate 6 refine aF ?_
   refine aS 15 ?_;refine jk 15 rfl jg dK ?_;intro avT Xc zZ;refine aF ?_;refine aS 17 ?_;refine sn 17 rfl 0 zZ aC ?_;intro avo Kk;refine aF ?_;refine aS 18 ?_;refine sn 18 rfl 2 Kk dh ?_;intro Q8 kH;iterate 4 refine aF ?_
   have rD:=kH.dM [13,13,13,13,13,13,13,13,13,13,13,12,12,13];refine bJ (avT,Dt,Kj,Nh) ?_ ⟨rfl,rfl,rfl,rfl,rfl,rfl,rfl,trivial⟩;exact ⟨ak8,rD⟩
  refine jk 15 rfl rC dK ?_;intro acJ ab6 qE;refine aF ?_;refine aS 9 ?_;refine iH 9 rfl LU (HP _ (qZ.1.rd qE (memT 13 rfl hL))) ?_;rintro _ Kh ⟨avU,avV,ak9,rfl,ail⟩;refine ⟨_,rfl,?_⟩;have uJ:=qE.ext ail rfl;iterate 6 refine aF ?_
  refine aS 17 ?_;refine sn 17 rfl 1 uJ aC ?_;intro VU Dq;refine aF ?_;refine aS 18 ?_;refine sn 18 rfl 2 Dq dh ?_;intro aDg MW;iterate 4 refine aF ?_
  have XT:=MW.dM [13,13,13,13,13,13,13,13,13,13,13,11,12,13];refine bJ (acJ,Dt,avU,avV) ?_ ⟨rfl,rfl,rfl,rfl,rfl,rfl,rfl,trivial⟩;exact ⟨ak9,XT⟩
 rintro ⟨Iw,Ce,Cg,c154⟩ avW ⟨hx157,Xb⟩
 try dsimp only at hx157 Xb
 refine bq (l':=[(3,pV b1 0),(4,pV b4 0),(5,pV b7 0),(6,pV b10 0),(7,pV Iw 0),(8,pV Ce 0),(9,.bool SR.2.2.1)]) ⟨rfl,rfl,rfl,rfl,rfl,rfl,rfl,trivial⟩ (aW (aO (vv (v:= .func (.func 152) #[] #[pV b7 0,pV b4 0,pV b10 0,pV b1 0]) (GX (vs:=[]) (us:=[pV b7 0,pV b4 0,pV b10 0,pV b1 0]) rfl trivial ⟨rfl,rfl,rfl,rfl,trivial⟩) ?_)));refine eU Xb apG ?_;intro Kz amH Ke;refine iU (row':= #[.func (.func 152) #[] #[pV b7 0,pV b4 0,pV b10 0,pV b1 0]]) 0 Ke Zk ?_;intro auE Fb;iterate 6 refine zQ ?_
 cases azg:(SR.2.2.1)
 ·iterate 8 refine zQ ?_
  have JW:=Fb.dM [14,14,14,14,14,14,14];refine uF YC (AP (b6:=b7) (b2:=b4) (b3:=b10) (b7:=b1) hn hq hy x SR.2.1 JW (List.mem_iff_getElem?.2 ⟨5,rfl⟩) (List.mem_iff_getElem?.2 ⟨6,rfl⟩) (List.mem_iff_getElem?.2 ⟨4,rfl⟩) (List.mem_iff_getElem?.2 ⟨7,rfl⟩) hu (by omega) (by omega)) ?_;rintro _ atx ⟨rfl,aqb,hd167⟩;refine ⟨_,rfl,?_⟩;refine zQ ?_;refine bN (l':=[]) trivial (gJ (nJ (fZ (dI (rs:=[]) (vs:=[]) rfl trivial ?_))));have hch:SR.2.2.1=false:=by assumption
  rw [abq hX hyb.symm hSR hch];by_cases hs:serves y.b
  ·obtain ⟨sA,sc,sv,fA,fc,fx,h1,h2,S9⟩:=aqb hs;subst h1;subst h2;rw [Gn hX hyb.symm hs];exact ⟨rfl,Wd.dw (X':=X) (z':=z) (Ls:=[.blk Kz #[.func (.func 152) #[] #[pV b7 0,pV b4 0,pV b10 0,pV b1 0]] 258,.blk Ce #[iV SR.2.1.code,iV SR.2.1.gG,iV SR.2.1.hno,iV SR.2.1.body] 79,.blk Iw #[iV SR.1.role,iV SR.1.ep,iV SR.1.fr,iV SR.1.tg,iV SR.1.rd,.slice Cg SR.1.evs.length c154] 42,.bG 6 Cg SR.1.evs.length ((SR.1.evs).flatMap Ev.cells),.blk b10 #[iV ((x.l.q:Nat):Int)] 3,.blk b7 (LX.row x) 169,.blk b4 #[pV kn 0] 122,.blk b1 #[pV kw 0] 111]) (sA:=sA) (sc:=sc) (tA:=R.tA) (tc:=R.tc) hkn bR hrr G hn S9 NG.more (nu (gY rfl)) (aQ hX).symm (by rw [List.map_append,G.fly];rfl) mH⟩
  obtain ⟨fA,fc,fx,h2,S9⟩:=hd167 hs;subst h2;rw [K5 hX hyb.symm hs];exact ⟨rfl,Wd.dw (X':=X) (z':=z) (Ls:=[.blk Kz #[.func (.func 152) #[] #[pV b7 0,pV b4 0,pV b10 0,pV b1 0]] 258,.blk Ce #[iV SR.2.1.code,iV SR.2.1.gG,iV SR.2.1.hno,iV SR.2.1.body] 79,.blk Iw #[iV SR.1.role,iV SR.1.ep,iV SR.1.fr,iV SR.1.tg,iV SR.1.rd,.slice Cg SR.1.evs.length c154] 42,.bG 6 Cg SR.1.evs.length ((SR.1.evs).flatMap Ev.cells),.blk b10 #[iV ((x.l.q:Nat):Int)] 3,.blk b7 (LX.row x) 169,.blk b4 #[pV kn 0] 122,.blk b1 #[pV kw 0] 111]) (sA:=R.sA) (sc:=R.sc) (tA:=R.tA) (tc:=R.tc) hkn bR hrr G hn S9 NG.more (nu (gY rfl)) (aQ hX).symm (by rw [List.map_append,G.fly];rfl) mH⟩
 iterate 10 refine zQ ?_
 refine cab EN Fb (iC 2 x.l.q ⟨SR.1,Cg,c154⟩ _) ?_;intro ahR Io;refine eU Io uW ?_;intro ain ace Ii;refine sa 0 Ii jG ?_;intro ama JX;iterate 5 refine zQ ?_
 refine vv (aj rfl rfl (aG (cs:=[iV x.l.op.kind,iV x.l.op.producer,iV x.l.op.id,iV x.l.op.body,iV x.l.op.aL,iV x.l.op.hno]) Tryz.underlying75 rfl jT rfl (St.rg 6 JX rfl (Rs)))) ?_;refine zQ ?_;refine iU (row':= #[iV 2,iV ((x.l.q:Nat):Int),iV SR.1.ep,iV 0,iV x.l.op.kind,iV x.l.op.producer,iV x.l.op.id,iV x.l.op.body,iV x.l.op.aL,iV x.l.op.hno]) 0 JX jT ?_;intro aty acf;iterate 7 refine zQ ?_
 refine Zo acf ?_;intro XU amb JY;have Wo:=JY.dM [16,16,16,16,16,16,16];refine dO Dk (nV (rs:=[fq 2 x.l.q SR.1.ep 0 x.l.op]) (Ro.blk (List.mem_iff_getElem?.2 ⟨0,rfl⟩) rfl rfl) NG.vO (by exact memT 10 rfl hL) (Nat.le_of_ble_eq_true rfl) Wo) ?_;rintro _ atC (⟨YU,rfl,V9⟩ | ⟨agQ,anE,anF,avX,YU,rfl,ala,V9⟩)
 ·refine ⟨_,rfl,?_⟩;iterate 7 refine zQ ?_
  refine vv (v:= .agg #[iV 14,iV 0,iV 0,iV 0]) gZ ?_;refine uF YC (AP (b6:=b7) (b2:=b4) (b3:=b10) (b7:=b1) hn hq hy x (qD 14) V9 (List.mem_iff_getElem?.2 ⟨7,rfl⟩) (List.mem_iff_getElem?.2 ⟨8,rfl⟩) (List.mem_iff_getElem?.2 ⟨6,rfl⟩) (List.mem_iff_getElem?.2 ⟨9,rfl⟩) hu (by omega) (by omega)) ?_;rintro _ amc ⟨rfl,aqc,aqd⟩;refine ⟨_,rfl,?_⟩;refine zQ ?_;refine bN (l':=[]) trivial (gJ (nJ (fZ (dI (rs:=[]) (vs:=[]) rfl trivial ?_))));have hch:SR.2.2.1=true:=by assumption
  rw [Tm hX hyb.symm hSR hch YU];by_cases hs:serves y.b
  ·obtain ⟨sA,sc,sv,fA,fc,fx,h1,h2,S9⟩:=aqc hs;subst h1;subst h2;rw [Gn hX hyb.symm hs];exact ⟨rfl,Wd.dw (X':=X) (z':=z) (Ls:=[.blk XU #[iV 2,iV ((x.l.q:Nat):Int),iV SR.1.ep,iV 0,iV x.l.op.kind,iV x.l.op.producer,iV x.l.op.id,iV x.l.op.body,iV x.l.op.aL,iV x.l.op.hno] 205,.blk ain #[iV 2,iV ((x.l.q:Nat):Int),iV SR.1.ep,iV 0,iV x.l.op.kind,iV x.l.op.producer,iV x.l.op.id,iV x.l.op.body,iV x.l.op.aL,iV x.l.op.hno] 205,.blk Kz #[.func (.func 152) #[] #[pV b7 0,pV b4 0,pV b10 0,pV b1 0]] 258,.blk Ce #[iV SR.2.1.code,iV SR.2.1.gG,iV SR.2.1.hno,iV SR.2.1.body] 79,.blk Iw #[iV SR.1.role,iV SR.1.ep,iV SR.1.fr,iV SR.1.tg,iV SR.1.rd,.slice Cg SR.1.evs.length c154] 42,.bG 6 Cg SR.1.evs.length ((SR.1.evs).flatMap Ev.cells),.blk b10 #[iV ((x.l.q:Nat):Int)] 3,.blk b7 (LX.row x) 169,.blk b4 #[pV kn 0] 122,.blk b1 #[pV kw 0] 111]) (sA:=sA) (sc:=sc) (tA:=R.tA) (tc:=R.tc) hkn bR hrr G hn S9 NG.more (nu (gY rfl)) (aQ hX).symm (by rw [List.map_append,G.fly];rfl) mH⟩
  obtain ⟨fA,fc,fx,h2,S9⟩:=aqd hs;subst h2;rw [K5 hX hyb.symm hs];exact ⟨rfl,Wd.dw (X':=X) (z':=z) (Ls:=[.blk XU #[iV 2,iV ((x.l.q:Nat):Int),iV SR.1.ep,iV 0,iV x.l.op.kind,iV x.l.op.producer,iV x.l.op.id,iV x.l.op.body,iV x.l.op.aL,iV x.l.op.hno] 205,.blk ain #[iV 2,iV ((x.l.q:Nat):Int),iV SR.1.ep,iV 0,iV x.l.op.kind,iV x.l.op.producer,iV x.l.op.id,iV x.l.op.body,iV x.l.op.aL,iV x.l.op.hno] 205,.blk Kz #[.func (.func 152) #[] #[pV b7 0,pV b4 0,pV b10 0,pV b1 0]] 258,.blk Ce #[iV SR.2.1.code,iV SR.2.1.gG,iV SR.2.1.hno,iV SR.2.1.body] 79,.blk Iw #[iV SR.1.role,iV SR.1.ep,iV SR.1.fr,iV SR.1.tg,iV SR.1.rd,.slice Cg SR.1.evs.length c154] 42,.bG 6 Cg SR.1.evs.length ((SR.1.evs).flatMap Ev.cells),.blk b10 #[iV ((x.l.q:Nat):Int)] 3,.blk b7 (LX.row x) 169,.blk b4 #[pV kn 0] 122,.blk b1 #[pV kw 0] 111]) (sA:=R.sA) (sc:=R.sc) (tA:=R.tA) (tc:=R.tc) hkn bR hrr G hn S9 NG.more (nu (gY rfl)) (aQ hX).symm (by rw [List.map_append,G.fly];rfl) mH⟩
 refine ⟨_,rfl,?_⟩;iterate 8 refine zQ ?_
 refine vv FM ?_;iterate 2 refine zQ ?_
 refine iU (row':=aU n X.up (.slice anE agQ.length anF) X.syn (.slice (aD z.bb 0) 4 4) X.hints X.sure (.slice z.iA z.ix.length z.ic) (.func (.func 153) #[] #[pV Iw 0,pV b4 0,pV b10 0,pV Kz 0,pV Ce 0]) X.turn) 0 V9 oC ?_;intro avY M7;refine zQ ?_;refine bN (l':=[]) trivial (aY (rs:=[]) (vs:=[]) rfl trivial ?_);have hch:SR.2.2.1=true:=by assumption
 rw [abr hX hyb.symm hSR hch YU];refine ⟨rfl,Wd.fin (X':={ X with data:=agQ,pend:=some (.serve x.l.q SR.1.evs x.l.op x.l.num SR.2.1) }) (z':={ z with tA:=anE,tc:=anF,pv:= .func (.func 153) #[] #[pV Iw 0,pV b4 0,pV b10 0,pV Kz 0,pV Ce 0] }) (N:=avX) (Ls:=[.blk XU #[iV 2,iV ((x.l.q:Nat):Int),iV SR.1.ep,iV 0,iV x.l.op.kind,iV x.l.op.producer,iV x.l.op.id,iV x.l.op.body,iV x.l.op.aL,iV x.l.op.hno] 205,.blk ain #[iV 2,iV ((x.l.q:Nat):Int),iV SR.1.ep,iV 0,iV x.l.op.kind,iV x.l.op.producer,iV x.l.op.id,iV x.l.op.body,iV x.l.op.aL,iV x.l.op.hno] 205,.blk Kz #[.func (.func 152) #[] #[pV b7 0,pV b4 0,pV b10 0,pV b1 0]] 258,.blk Ce #[iV SR.2.1.code,iV SR.2.1.gG,iV SR.2.1.hno,iV SR.2.1.body] 79,.blk Iw #[iV SR.1.role,iV SR.1.ep,iV SR.1.fr,iV SR.1.tg,iV SR.1.rd,.slice Cg SR.1.evs.length c154] 42,.bG 6 Cg SR.1.evs.length ((SR.1.evs).flatMap Ev.cells),.blk b10 #[iV ((x.l.q:Nat):Int)] 3,.blk b7 (LX.row x) 169,.blk b4 #[pV kn 0] 122,.blk b1 #[pV kw 0] 111]) (fA:=R.fA) (fc:=R.fc) (fx:=R.fx) (sA:=R.sA) (sc:=R.sc) (tA:=R.tA) (tc:=R.tc) hkn bR hrr G hn M7 ?_ (fun u hu=> .inl hu) rfl G.fly.symm mH⟩;refine { (NG.more:dz K _ n X z) with vO:=ala.mono mLN,zN:=?_ }
 show nU (K.nb n) K.wb _ _ _
 rw [hkn,bR];exact ⟨Iw,b4,b10,Kz,Ce,b7,b1,⟨SR.1,Cg,c154⟩,x,rfl,(qz (List.mem_iff_getElem?.2 ⟨4,rfl⟩)),rfl,⟨Ro.bG (qz (List.mem_iff_getElem?.2 ⟨5,rfl⟩)),hx157⟩,(qz (List.mem_iff_getElem?.2 ⟨8,rfl⟩)),(qz (List.mem_iff_getElem?.2 ⟨6,rfl⟩)),(qz (List.mem_iff_getElem?.2 ⟨2,rfl⟩)),(qz (List.mem_iff_getElem?.2 ⟨3,rfl⟩)),(qz (List.mem_iff_getElem?.2 ⟨7,rfl⟩)),rfl,rfl,(qz (List.mem_iff_getElem?.2 ⟨9,rfl⟩))⟩
theorem Jf {K:CK} {B n kn kw:Nat} {w0 w:World} {fs:List Fact} {m:Cl} {H:List LX} {x:LX} (hn:n<5) (hkn:K.nb n=kn) (bR:K.wb=kw) (hu:Uk B w0) (hB1:m.fly.length≤1000000000) (hB2:m.aH.length≤1000000000000) (HW:Wd K B w0 w fs m (x::H)) (hq:x.l.q<4) (hv: ∀ q,q<4→au ((m.av n).bs q)=0):
    Calls Tryz.prog 122 #[pV kw 0,pV kn 0,.agg (LX.row x)] w (fun e w'=>e= .returned (.tuple #[])∧Wd K B w0 w' fs (m.offered n x.l) H):=by
 obtain ⟨R,G,S0⟩:=HW.open hn;have hfl:R.fx.length=m.fly.length:=by rw [←G.fly,List.length_map]
 have NG:=G.lC n hn;obtain ⟨X,hX⟩: ∃ X,m.av n=X:=⟨_,rfl⟩;obtain ⟨z,hz⟩: ∃ z,R.nx n=z:=⟨_,rfl⟩;rw [hX,hz] at S0 NG;have hL: ∀ f∈R.L,f∈eZ K R m fs n:=fun f h=>List.mem_append_right _ (List.mem_append_right _ h)
 obtain ⟨rr,hrr⟩: ∃ r,eZ K R m fs n=r:=⟨_,rfl⟩;rw [hrr] at S0 hL;have S:St B w0 w ((.blk kn (aU n X.up (.slice z.tA X.data.length z.tc) X.syn (.slice (aD z.bb 0) 4 4) X.hints X.sure (.slice z.iA z.ix.length z.ic) (z.pv) X.turn) 129)::(.own 42 6 (.slice (aD z.bb 0) 4 4) 4 ((z.bx).flatMap BX.cells))::(.off 169 23 z.iA z.ix.length z.ic ((z.ix).flatMap LX.cells))::(.blk kw (bL (.slice R.nA 5 R.nc) m.off (.slice R.fA R.fx.length R.fc) m.shown (.slice R.sA m.aH.length R.sc) (.slice R.tA m.aM.length R.tc) m.calls) 121)::(.own 169 23 (.slice R.fA R.fx.length R.fc) R.fx.length ((R.fx).flatMap LX.cells))::(.own 85 14 (.slice R.sA m.aH.length R.sc) m.aH.length ((m.aH).flatMap eT.cells))::(.own 81 7 (.slice R.tA m.aM.length R.tc) m.aM.length ((m.aM).flatMap fK.cells))::rr):=by subst hkn;subst bR;exact S0
 clear S0 HW;have hlen:=(S.own 1 rfl).1;rw [gL (sz:=6) (fun _=>rfl)] at hlen;rw [hX] at hv;obtain ⟨y,hy,hyb,qZ⟩:=NG.at_ hq;have hln:=jC (iO (hyb▸hv _ hq));have wR:y.b.evs.length*48≤reachBytes:=by unfold reachBytes;omega
 have Iu:=uZ (hyb▸hv _ hq);refine fE 59 Tryz.func122 ?_;refine cw [0,1,2] ?_;iterate 2 refine zQ ?_
 refine Qn S ?_;intro b1 w2 S3;refine Qn S3 ?_;intro b4 w5 S6;refine gD S6 ?_;intro b7 w8 S9;iterate 6 refine zQ ?_
 refine eU S9 zr3 ?_;intro b10 Ee lq;refine iU (row':= #[iV ((x.l.q:Nat):Int)]) 0 lq fM ?_;intro CG jH;iterate 2 refine zQ ?_
 obtain ⟨BR,oz⟩: ∃ r,dn y.b x.l.ep x.l.fr=r:=⟨_,rfl⟩;have HP:=fun w h=>Eo y.b.role y.b.ep y.b.fr y.b.tg y.b.rd y.A y.c y.b.evs x.l.ep x.l.fr w h wR
 rw [show dn ⟨y.b.role,y.b.ep,y.b.fr,y.b.tg,y.b.rd,y.b.evs⟩ x.l.ep x.l.fr=BR from oz] at HP;refine jU (X:=Nat×(Option Addr)×Nat) (fun xv=>[(3,pV b1 0),(4,pV b4 0),(5,pV b7 0),(6,pV b10 0),(7,pV xv.1 0),(8,iV BR.2)]) (fun xv wr=>(BR.1.evs.length≤xv.2.2)∧St B w0 wr ((.blk xv.1 #[iV BR.1.role,iV BR.1.ep,iV BR.1.fr,iV BR.1.tg,iV BR.1.rd,.slice xv.2.1 BR.1.evs.length xv.2.2] 42)::(.bG 6 xv.2.1 BR.1.evs.length ((BR.1.evs).flatMap Ev.cells))::(.blk b10 #[iV ((x.l.q:Nat):Int)] 3)::(.blk b7 (LX.row x) 169)::(.blk b4 #[pV kn 0] 122)::(.blk b1 #[pV kw 0] 111)::(.blk kn (aU n X.up (.slice z.tA X.data.length z.tc) X.syn (.slice (aD z.bb 0) 4 4) X.hints X.sure (.slice z.iA z.ix.length z.ic) (z.pv) X.turn) 129)::(.own 42 6 (.slice (aD z.bb 0) 4 4) 4 ((z.bx).flatMap BX.cells))::(.off 169 23 z.iA z.ix.length z.ic ((z.ix).flatMap LX.cells))::(.blk kw (bL (.slice R.nA 5 R.nc) m.off (.slice R.fA R.fx.length R.fc) m.shown (.slice R.sA m.aH.length R.sc) (.slice R.tA m.aM.length R.tc) m.calls) 121)::(.own 169 23 (.slice R.fA R.fx.length R.fc) R.fx.length ((R.fx).flatMap LX.cells))::(.own 85 14 (.slice R.sA m.aH.length R.sc) m.aH.length ((m.aH).flatMap eT.cells))::(.own 81 7 (.slice R.tA m.aM.length R.tc) m.aM.length ((m.aM).flatMap fK.cells))::rr)) ?_ ?_
 ·have gH:=jH.drew;refine aN 18 gH [] ?_;iterate 5 refine aF ?_
  refine ak 5 rfl gH (fun _ _=>gM x.l.q) ?_;refine ak (v:= .agg #[iV y.b.role,iV y.b.ep,iV y.b.fr,iV y.b.tg,iV y.b.rd,.slice y.A y.b.evs.length y.c]) 6 rfl gH (fun _ Dr=>(aj rfl rfl (aG (cs:=BX.cells y) Tryz.underlying42 rfl aC rfl (Rd.uN (St.ord 5 Dr rfl) (fun _ _ h=>bS (enc:=BX.cells) (sz:=6) (fun _=>rfl) hy h))))) ?_;iterate 4 refine aF ?_
  refine dR (n:=6) (r:=11) (s:=15) (by kernel_rfl) ?_ ?_
  ·refine iH 11 rfl YD (HP _ (qZ.1.rd gH (memT 11 rfl hL))) ?_;rintro _ V4 ⟨A27,c28,aqe,rfl,T32⟩;refine ⟨_,rfl,?_⟩;have mF:=gH.ext T32 rfl;iterate 4 refine aF ?_
   refine aS 15 ?_;refine jk 15 rfl mF dK ?_;intro tH NQ oG;refine aF ?_;refine aS 16 ?_;refine sn 16 rfl 0 oG aC ?_;intro w39 vV;iterate 3 refine aF ?_
   refine bJ (tH,A27,c28) ?_ ⟨rfl,rfl,rfl,rfl,rfl,rfl,trivial⟩;exact ⟨aqe,vV⟩
  refine jk 15 rfl gH dK ?_;intro UU w43 Ar;refine aF ?_;refine aS 11 ?_;refine iH 11 rfl YD (HP _ (qZ.1.rd Ar (memT 12 rfl hL))) ?_;rintro _ UE ⟨A45,c46,aqf,rfl,T50⟩;refine ⟨_,rfl,?_⟩;have sD:=Ar.ext T50 rfl;iterate 4 refine aF ?_
  refine aS 16 ?_;refine sn 16 rfl 1 sD aC ?_;intro w54 xk;iterate 3 refine aF ?_
  have sF:=xk.dM [12,12,12,12,12,12,12,12,12,12,12,11,12];refine bJ (UU,A45,c46) ?_ ⟨rfl,rfl,rfl,rfl,rfl,rfl,trivial⟩;exact ⟨aqf,sF⟩
 rintro ⟨Z9,U3,c60⟩ w61 ⟨anG,FV⟩
 try dsimp only at anG FV
 refine bq (l':=[(3,pV b1 0),(4,pV b4 0),(5,pV b7 0),(6,pV b10 0),(7,pV Z9 0),(8,iV BR.2)]) ⟨rfl,rfl,rfl,rfl,rfl,rfl,trivial⟩ (aW (aW (aO (vm ?_))));by_cases h64:BR.2=0
 ·iterate 8 refine zQ ?_
  refine eH FV mixed (by kernel_rfl) ?_;iterate 7 refine zQ ?_
  refine uv (fun _ _=>gM x.l.q) ?_;refine zQ ?_;refine uv (v:=iV y.b.ep) (fun _ aio=>(aj rfl rfl (aA Tryz.underlying3 rfl (Rd.Ug (i:=1) (St.ord 7 aio rfl) (bS (enc:=BX.cells) (sz:=6) (fun _=>rfl) hy rfl))))) ?_;by_cases h75:BR.1.ep=y.b.ep
  ·refine zQ ?_;refine fC fun UF Bg=>?_
   iterate 7 refine zQ ?_
   have Aq:=Bg.dM [12,12,12,12,12,12,12];refine dO QW (wP hn hq hy Aq (by omega)) ?_;rintro _ w84 ⟨rfl,A80,c81,avZ,anH,Bl⟩;refine ⟨_,rfl,?_⟩;refine zQ ?_;refine bN (l':=[]) trivial (gJ (nJ (fZ (dI (rs:=[]) (vs:=[]) rfl trivial ?_))));rw [MI hX hyb.symm oz (by first | assumption | omega) (by first | assumption | omega)];exact ⟨rfl,Wd.dw (X':=X) (z':=z) (Ls:=[.blk Z9 #[iV BR.1.role,iV BR.1.ep,iV BR.1.fr,iV BR.1.tg,iV BR.1.rd,.slice U3 BR.1.evs.length c60] 42,.bG 6 U3 BR.1.evs.length ((BR.1.evs).flatMap Ev.cells),.blk b10 #[iV ((x.l.q:Nat):Int)] 3,.blk b7 (LX.row x) 169,.blk b4 #[pV kn 0] 122,.blk b1 #[pV kw 0] 111]) (fA:=A80) (fc:=c81) (fx:=avZ) (sA:=R.sA) (sc:=R.sc) (tA:=R.tA) (tc:=R.tc) hkn bR hrr G hn Bl NG.more (by rw [anH];exact nu (gY rfl)) (aQ hX).symm (by rw [anH,List.map_append,G.fly];rfl) mH⟩
  refine zQ ?_;refine fC fun w87 IV=>?_
  iterate 8 refine zQ ?_
  refine cab EN IV (iC 4 x.l.q ⟨BR.1,U3,c60⟩ _) ?_;intro w89 JO;refine eU JO uW ?_;intro b92 w93 CF;refine sa 0 CF jG ?_;intro w95 Bn;iterate 7 refine zQ ?_
  refine iU (row':= #[iV 4,iV ((x.l.q:Nat):Int),iV BR.1.ep,iV x.l.fr,iV 0,iV 0,iV 0,iV 0,iV 0,iV 0]) 0 Bn fM ?_;intro w97 Aw;iterate 7 refine zQ ?_
  refine Zo Aw ?_;intro b99 V5 sG;have pG:=sG.dM [14,14,14,14,14,14,14];refine dO Dk (nV (rs:=[fq 4 x.l.q BR.1.ep x.l.fr aT]) (Ro.blk (List.mem_iff_getElem?.2 ⟨0,rfl⟩) rfl rfl) NG.vO (by exact memT 8 rfl hL) (Nat.le_of_ble_eq_true rfl) pG) ?_;rintro _ VT (⟨YV,rfl,pq⟩ | ⟨agS,WZ,c105,av0,YV,rfl,alb,pq⟩)
  ·refine ⟨_,rfl,?_⟩;iterate 7 refine zQ ?_
   rw [MJ hX hyb.symm oz (by first | assumption | omega) (by first | assumption | omega) YV];exact ⟨rfl,Wd.dw (X':=X) (z':=z) (Ls:=[.blk b99 #[iV 4,iV ((x.l.q:Nat):Int),iV BR.1.ep,iV x.l.fr,iV 0,iV 0,iV 0,iV 0,iV 0,iV 0] 205,.blk b92 #[iV 4,iV ((x.l.q:Nat):Int),iV BR.1.ep,iV x.l.fr,iV 0,iV 0,iV 0,iV 0,iV 0,iV 0] 205,.blk Z9 #[iV BR.1.role,iV BR.1.ep,iV BR.1.fr,iV BR.1.tg,iV BR.1.rd,.slice U3 BR.1.evs.length c60] 42,.bG 6 U3 BR.1.evs.length ((BR.1.evs).flatMap Ev.cells),.blk b10 #[iV ((x.l.q:Nat):Int)] 3,.blk b7 (LX.row x) 169,.blk b4 #[pV kn 0] 122,.blk b1 #[pV kw 0] 111]) (fA:=R.fA) (fc:=R.fc) (fx:=R.fx) (sA:=R.sA) (sc:=R.sc) (tA:=R.tA) (tc:=R.tc) hkn bR hrr G hn pq NG.more (fun u hu=> .inl hu) (aQ hX).symm G.fly.symm mH⟩
  refine ⟨_,rfl,?_⟩;iterate 8 refine zQ ?_
  refine vv FM ?_;iterate 2 refine zQ ?_
  refine iU (row':=aU n X.up (.slice WZ agS.length c105) X.syn (.slice (aD z.bb 0) 4 4) X.hints X.sure (.slice z.iA z.ix.length z.ic) (.func (.func 156) #[] #[pV Z9 0,pV b4 0,pV b10 0,pV b1 0]) X.turn) 0 pq oC ?_;intro Q7 sH;refine zQ ?_;refine bN (l':=[]) trivial (aY (rs:=[]) (vs:=[]) rfl trivial ?_);rw [Tp hX hyb.symm oz (by first | assumption | omega) (by first | assumption | omega) YV];refine ⟨rfl,Wd.fin (X':={ X with data:=agS,pend:=some (.begun x.l.q BR.1) }) (z':={ z with tA:=WZ,tc:=c105,pv:= .func (.func 156) #[] #[pV Z9 0,pV b4 0,pV b10 0,pV b1 0] }) (N:=av0) (Ls:=[.blk b99 #[iV 4,iV ((x.l.q:Nat):Int),iV BR.1.ep,iV x.l.fr,iV 0,iV 0,iV 0,iV 0,iV 0,iV 0] 205,.blk b92 #[iV 4,iV ((x.l.q:Nat):Int),iV BR.1.ep,iV x.l.fr,iV 0,iV 0,iV 0,iV 0,iV 0,iV 0] 205,.blk Z9 #[iV BR.1.role,iV BR.1.ep,iV BR.1.fr,iV BR.1.tg,iV BR.1.rd,.slice U3 BR.1.evs.length c60] 42,.bG 6 U3 BR.1.evs.length ((BR.1.evs).flatMap Ev.cells),.blk b10 #[iV ((x.l.q:Nat):Int)] 3,.blk b7 (LX.row x) 169,.blk b4 #[pV kn 0] 122,.blk b1 #[pV kw 0] 111]) (fA:=R.fA) (fc:=R.fc) (fx:=R.fx) (sA:=R.sA) (sc:=R.sc) (tA:=R.tA) (tc:=R.tc) hkn bR hrr G hn sH ?_ (fun u hu=> .inl hu) rfl G.fly.symm mH⟩;refine { (NG.more:dz K _ n X z) with vO:=alb.mono mLN,zN:=?_ }
  show nU (K.nb n) K.wb _ _ _
  rw [hkn,bR];exact ⟨Z9,b4,b10,b1,⟨BR.1,U3,c60⟩,rfl,(qz (List.mem_iff_getElem?.2 ⟨2,rfl⟩)),rfl,⟨(Ro.bG (qz (List.mem_iff_getElem?.2 ⟨3,rfl⟩))),anG⟩,(qz (List.mem_iff_getElem?.2 ⟨6,rfl⟩)),(qz (List.mem_iff_getElem?.2 ⟨4,rfl⟩)),(qz (List.mem_iff_getElem?.2 ⟨7,rfl⟩))⟩
 iterate 7 refine zQ ?_
 have jg:=FV.dM [12,12,12,12,12,12,12];rw [Tn hX hyb.symm oz (by first | assumption | omega)];exact ⟨rfl,Wd.dw (X':=X) (z':=z) (Ls:=[.blk Z9 #[iV BR.1.role,iV BR.1.ep,iV BR.1.fr,iV BR.1.tg,iV BR.1.rd,.slice U3 BR.1.evs.length c60] 42,.bG 6 U3 BR.1.evs.length ((BR.1.evs).flatMap Ev.cells),.blk b10 #[iV ((x.l.q:Nat):Int)] 3,.blk b7 (LX.row x) 169,.blk b4 #[pV kn 0] 122,.blk b1 #[pV kw 0] 111]) (fA:=R.fA) (fc:=R.fc) (fx:=R.fx) (sA:=R.sA) (sc:=R.sc) (tA:=R.tA) (tc:=R.tc) hkn bR hrr G hn jg NG.more (fun u hu=> .inl hu) (aQ hX).symm G.fly.symm mH⟩
theorem TG {b:bO} {hv:Int} (h:au b=0):(bF b hv).1.evs.length≤b.evs.length∧(-2≤(bF b hv).1.ep∧(bF b hv).1.ep≤2000000):=by
 have e:=uZ h;unfold bF;rw [if_neg (fun h2=>h2 h)];have z:bD.evs.length≤b.evs.length∧(-2≤bD.ep∧bD.ep≤2000000):=⟨Nat.zero_le _,by decide,by decide⟩
 split
 ·exact z
 split
 ·exact z
 split
 ·exact ⟨Nat.le_refl _,e⟩
 split
 ·exact ⟨Nat.le_refl _,e⟩
 exact ⟨Nat.le_refl _,e⟩
theorem Jg {K:CK} {B n kn kw:Nat} {w0 w:World} {fs:List Fact} {m:Cl} {H:List LX} {x:LX} (hn:n<5) (hkn:K.nb n=kn) (bR:K.wb=kw) (hu:Uk B w0) (hB1:m.fly.length≤1000000000) (hB2:m.aH.length≤1000000000000) (HW:Wd K B w0 w fs m (x::H)) (hq:x.l.q<4) (hv: ∀ q,q<4→au ((m.av n).bs q)=0):
    Calls Tryz.prog 123 #[pV kw 0,pV kn 0,.agg (LX.row x)] w (fun e w'=>e= .returned (.tuple #[])∧Wd K B w0 w' fs (m.caught n x.l) H):=by
 obtain ⟨R,G,S0⟩:=HW.open hn;have hfl:R.fx.length=m.fly.length:=by rw [←G.fly,List.length_map]
 have NG:=G.lC n hn;obtain ⟨X,hX⟩: ∃ X,m.av n=X:=⟨_,rfl⟩;obtain ⟨z,hz⟩: ∃ z,R.nx n=z:=⟨_,rfl⟩;rw [hX,hz] at S0 NG;have hL: ∀ f∈R.L,f∈eZ K R m fs n:=fun f h=>List.mem_append_right _ (List.mem_append_right _ h)
 obtain ⟨rr,hrr⟩: ∃ r,eZ K R m fs n=r:=⟨_,rfl⟩;rw [hrr] at S0 hL;have S:St B w0 w ((.blk kn (aU n X.up (.slice z.tA X.data.length z.tc) X.syn (.slice (aD z.bb 0) 4 4) X.hints X.sure (.slice z.iA z.ix.length z.ic) (z.pv) X.turn) 129)::(.own 42 6 (.slice (aD z.bb 0) 4 4) 4 ((z.bx).flatMap BX.cells))::(.off 169 23 z.iA z.ix.length z.ic ((z.ix).flatMap LX.cells))::(.blk kw (bL (.slice R.nA 5 R.nc) m.off (.slice R.fA R.fx.length R.fc) m.shown (.slice R.sA m.aH.length R.sc) (.slice R.tA m.aM.length R.tc) m.calls) 121)::(.own 169 23 (.slice R.fA R.fx.length R.fc) R.fx.length ((R.fx).flatMap LX.cells))::(.own 85 14 (.slice R.sA m.aH.length R.sc) m.aH.length ((m.aH).flatMap eT.cells))::(.own 81 7 (.slice R.tA m.aM.length R.tc) m.aM.length ((m.aM).flatMap fK.cells))::rr):=by subst hkn;subst bR;exact S0
 clear S0 HW;have hlen:=(S.own 1 rfl).1;rw [gL (sz:=6) (fun _=>rfl)] at hlen;rw [hX] at hv;obtain ⟨y,hy,hyb,qZ⟩:=NG.at_ hq;have hln:=jC (iO (hyb▸hv _ hq));have wR:y.b.evs.length*48≤reachBytes:=by unfold reachBytes;omega
 have Iu:=uZ (hyb▸hv _ hq);refine fE 75 Tryz.func123 ?_;refine cw [0,1,2] ?_;iterate 2 refine zQ ?_
 refine Qn S ?_;intro b1 w2 S3;refine Qn S3 ?_;intro b4 w5 S6;refine gD S6 ?_;intro b7 w8 S9;iterate 6 refine zQ ?_
 refine eU S9 zr3 ?_;intro b10 Ee lq;refine iU (row':= #[iV ((x.l.q:Nat):Int)]) 0 lq fM ?_;intro CG jH;iterate 3 refine zQ ?_
 have gH:=jH.drew;refine fG 9 8 gH [] ?_;iterate 5 refine iP ?_
 refine gk 5 rfl gH (fun _ _=>gM x.l.q) ?_;refine gk (v:= .agg #[iV y.b.role,iV y.b.ep,iV y.b.fr,iV y.b.tg,iV y.b.rd,.slice y.A y.b.evs.length y.c]) 6 rfl gH (fun _ Dr=>(aj rfl rfl (aG (cs:=BX.cells y) Tryz.underlying42 rfl aC rfl (Rd.uN (St.ord 5 Dr rfl) (fun _ _ h=>bS (enc:=BX.cells) (sz:=6) (fun _=>rfl) hy h))))) ?_;refine gW (m:=1) (r:=7) (by kernel_rfl) ?_;refine kS (i:=7) rfl rfl (V:=fun b=>pV b 0) (row:= #[iV 0,iV 0,iV 0,iV 0,iV 0,.slice none 0 0]) (t:=42) gH (wn rfl) rfl rfl (iN rfl (Tryz.zeroValue42 _) rfl) ?_;intro xX JU iX;refine iP ?_;refine eF (by kernel_rfl) rfl rfl rfl ?_;refine sa 0 iX aC ?_;intro IQ qJ;refine zQ ?_;refine je ?_;iterate 8 refine zQ ?_
 by_cases h28:y.b.tg=x.l.fr
 ·iterate 4 refine zQ ?_
  refine vg (v:=iV (y.b.ep+1)) jv ?_;iterate 2 refine zQ ?_
  by_cases h29:y.b.ep+1=x.l.ep
  ·iterate 8 refine zQ ?_
   obtain ⟨BR,oz⟩: ∃ r,bF y.b x.l.at_=r:=⟨_,rfl⟩;have HP:=fun w h=>Ms y.b.role y.b.ep y.b.fr y.b.tg y.b.rd y.A y.c y.b.evs x.l.at_ w h wR
   rw [show bF ⟨y.b.role,y.b.ep,y.b.fr,y.b.tg,y.b.rd,y.b.evs⟩ x.l.at_=BR from oz] at HP;have aip:=TG (b:=y.b) (hv:=x.l.at_) (hyb▸hv _ hq);rw [oz] at aip;have aiq:BR.1.evs.length*48≤reachBytes:=by have:=aip.1;omega
   have air:=aip.2;iterate 4 refine zQ ?_
   refine dO ao9 (HP _ (qZ.1.rd qJ (memT 12 rfl hL))) ?_;rintro _ Qp ⟨mX,c31,IJ,rfl,T35⟩;refine ⟨_,rfl,?_⟩;have oD:=qJ.ext T35 rfl;iterate 3 refine zQ ?_
   refine eU oD dK ?_;intro tH NQ oG;refine sa 0 oG aC ?_;intro w39 vV;iterate 7 refine zQ ?_
   by_cases h41:BR.2=0
   ·iterate 13 refine zQ ?_
    by_cases h42:BR.1.role=y.b.role
    ·iterate 5 refine zQ ?_
     have tu:=vV.drew;refine fG 8 6 tu [] ?_;iterate 6 refine iP ?_
     refine eF (by kernel_rfl) rfl rfl rfl ?_;refine vv (gM x.l.q) ?_;refine kJ (xs':=(z.bx.set x.l.q (⟨BR.1,mX,c31⟩:BX)).flatMap BX.cells) 8 tu (wn rfl) rfl rfl rfl rfl rfl rfl aC rfl (bZ rfl) (by omega) (by rw [Nat.zero_add];exact oI (enc:=BX.cells) (sz:=6) (fun _=>rfl) (⟨BR.1,mX,c31⟩:BX) _ _ (by omega)) ?_;intro Qw sw;have av1:(z.bx.set x.l.q (⟨BR.1,mX,c31⟩:BX))[x.l.q]? =some (⟨BR.1,mX,c31⟩:BX):=List.getElem?_set_self (by omega);refine zQ ?_;refine je ?_;iterate 8 refine zQ ?_
     have vG:St B w0 Qw (_::_::_::_::_::_::_::_::_::_::_::_::_::(rr++[.bG 6 mX BR.1.evs.length ((BR.1.evs).flatMap Ev.cells)])):=sw.toEnd 1 rfl;have jw:=vG.dM [12,12,12,12,12,12,12];have ais:zi (R.L++[.bG 6 mX BR.1.evs.length ((BR.1.evs).flatMap Ev.cells)]) (⟨BR.1,mX,c31⟩:BX):=⟨Ro.bG (List.mem_append_right _ (List.mem_singleton.2 rfl)),IJ⟩;refine dO agc (Ho (L:=(R.L++[.bG 6 mX BR.1.evs.length ((BR.1.evs).flatMap Ev.cells)])) hn hq av1 x.l.at_ ais (memT 6 rfl (Rq hL)) aiq air jw (by omega)) ?_;rintro _ VY ⟨rfl,A56,c57,XV,N59,av2,av3,uO⟩;refine ⟨_,rfl,?_⟩;change St _ _ _ (_::_::_::(.blk kw (bL (.slice R.nA 5 R.nc) m.off (.slice A56 XV.length c57) m.shown (.slice R.sA m.aH.length R.sc) (.slice R.tA m.aM.length R.tc) m.calls) 121)::(.own 169 23 (.slice A56 XV.length c57) XV.length ((XV).flatMap LX.cells))::_::_::_::_::_::_::_::_::((rr++[.bG 6 mX BR.1.evs.length ((BR.1.evs).flatMap Ev.cells)])++N59)) at uO;refine zQ ?_;refine bN (l':=[]) trivial (gJ (nJ (fZ (dI (rs:=[]) (vs:=[]) rfl trivial ?_))));have hch: ¬ (y.b.tg≠x.l.fr∨y.b.ep+1≠x.l.ep):=by omega
     rw [PY hX hyb.symm oz hch (by first | assumption | omega) (by first | assumption | omega)];rw [List.append_assoc] at uO;exact ⟨rfl,Wd.fin (X':={ X with bs:=upd X.bs x.l.q BR.1 }) (z':={ z with bx:=z.bx.set x.l.q (⟨BR.1,mX,c31⟩:BX) }) (N:=([.bG 6 mX BR.1.evs.length ((BR.1.evs).flatMap Ev.cells)]++N59)) (Ls:=[.blk tH #[iV BR.1.role,iV BR.1.ep,iV BR.1.fr,iV BR.1.tg,iV BR.1.rd,.slice mX BR.1.evs.length c31] 42,.blk xX #[iV y.b.role,iV y.b.ep,iV y.b.fr,iV y.b.tg,iV y.b.rd,.slice y.A y.b.evs.length y.c] 42,.blk b10 #[iV ((x.l.q:Nat):Int)] 3,.blk b7 (LX.row x) 169,.blk b4 #[pV kn 0] 122,.blk b1 #[pV kw 0] 111]) (fA:=A56) (fc:=c57) (fx:=XV) (sA:=R.sA) (sc:=R.sc) (tA:=R.tA) (tc:=R.tc) hkn bR hrr G hn uO { (NG.more:dz K _ n X z) with MG:=Fu NG.MG hq,Ox:=Bt (fun u hu=>(NG.Ox u hu).mono fun f hf=>List.mem_append_left _ hf) ⟨Ro.bG (List.mem_append_right _ (List.mem_append_left _ (List.mem_append_left _ (List.mem_singleton.2 rfl)))),IJ⟩ } (fun u hu=>(av3 u hu).imp id fun h=>h.mono fun f hf=>by simp [hf]) rfl (by rw [av2,G.fly]) mH⟩
    iterate 10 refine zQ ?_
    refine cab EN vV (iC 3 x.l.q ⟨BR.1,mX,c31⟩ _) ?_;intro GZ xV;refine eU xV uW ?_;intro b67 w68 xg;refine sa 0 xg jG ?_;intro UA qh;iterate 7 refine zQ ?_
    refine iU (row':= #[iV 3,iV ((x.l.q:Nat):Int),iV BR.1.ep,iV BR.1.tg,iV 0,iV 0,iV 0,iV 0,iV 0,iV 0]) 0 qh fM ?_;intro VZ qL;iterate 7 refine zQ ?_
    refine Zo qL ?_;intro b74 w75 FP;have CB:=FP.dM [15,15,15,15,15,15,15];refine dO Dk (nV (rs:=[fq 3 x.l.q BR.1.ep BR.1.tg aT]) (Ro.blk (List.mem_iff_getElem?.2 ⟨0,rfl⟩) rfl rfl) NG.vO (by exact memT 9 rfl hL) (Nat.le_of_ble_eq_true rfl) CB) ?_;rintro _ w84 (⟨ait,rfl,Bl⟩ | ⟨anI,A79,c80,N81,ait,rfl,aqg,Bl⟩)
    ·refine ⟨_,rfl,?_⟩;iterate 7 refine zQ ?_
     have hch: ¬ (y.b.tg≠x.l.fr∨y.b.ep+1≠x.l.ep):=by omega
     rw [PZ hX hyb.symm oz hch (by first | assumption | omega) (by first | assumption | omega) ait];exact ⟨rfl,Wd.dw (X':=X) (z':=z) (Ls:=[.blk b74 #[iV 3,iV ((x.l.q:Nat):Int),iV BR.1.ep,iV BR.1.tg,iV 0,iV 0,iV 0,iV 0,iV 0,iV 0] 205,.blk b67 #[iV 3,iV ((x.l.q:Nat):Int),iV BR.1.ep,iV BR.1.tg,iV 0,iV 0,iV 0,iV 0,iV 0,iV 0] 205,.blk tH #[iV BR.1.role,iV BR.1.ep,iV BR.1.fr,iV BR.1.tg,iV BR.1.rd,.slice mX BR.1.evs.length c31] 42,.bG 6 mX BR.1.evs.length ((BR.1.evs).flatMap Ev.cells),.blk xX #[iV y.b.role,iV y.b.ep,iV y.b.fr,iV y.b.tg,iV y.b.rd,.slice y.A y.b.evs.length y.c] 42,.blk b10 #[iV ((x.l.q:Nat):Int)] 3,.blk b7 (LX.row x) 169,.blk b4 #[pV kn 0] 122,.blk b1 #[pV kw 0] 111]) (fA:=R.fA) (fc:=R.fc) (fx:=R.fx) (sA:=R.sA) (sc:=R.sc) (tA:=R.tA) (tc:=R.tc) hkn bR hrr G hn Bl NG.more (fun u hu=> .inl hu) (aQ hX).symm G.fly.symm mH⟩
    refine ⟨_,rfl,?_⟩;iterate 8 refine zQ ?_
    refine vv FM ?_;iterate 2 refine zQ ?_
    refine iU (row':=aU n X.up (.slice A79 anI.length c80) X.syn (.slice (aD z.bb 0) 4 4) X.hints X.sure (.slice z.iA z.ix.length z.ic) (.func (.func 159) #[] #[pV tH 0,pV b4 0,pV b10 0,pV b1 0,pV b7 0]) X.turn) 0 Bl oC ?_;intro w86 Du;refine zQ ?_;refine bN (l':=[]) trivial (aY (rs:=[]) (vs:=[]) rfl trivial ?_);have hch: ¬ (y.b.tg≠x.l.fr∨y.b.ep+1≠x.l.ep):=by omega
    rw [Xu hX hyb.symm oz hch (by first | assumption | omega) (by first | assumption | omega) ait];refine ⟨rfl,Wd.fin (X':={ X with data:=anI,pend:=some (.kN x.l.q BR.1 x.l.at_) }) (z':={ z with tA:=A79,tc:=c80,pv:= .func (.func 159) #[] #[pV tH 0,pV b4 0,pV b10 0,pV b1 0,pV b7 0] }) (N:=N81) (Ls:=[.blk b74 #[iV 3,iV ((x.l.q:Nat):Int),iV BR.1.ep,iV BR.1.tg,iV 0,iV 0,iV 0,iV 0,iV 0,iV 0] 205,.blk b67 #[iV 3,iV ((x.l.q:Nat):Int),iV BR.1.ep,iV BR.1.tg,iV 0,iV 0,iV 0,iV 0,iV 0,iV 0] 205,.blk tH #[iV BR.1.role,iV BR.1.ep,iV BR.1.fr,iV BR.1.tg,iV BR.1.rd,.slice mX BR.1.evs.length c31] 42,.bG 6 mX BR.1.evs.length ((BR.1.evs).flatMap Ev.cells),.blk xX #[iV y.b.role,iV y.b.ep,iV y.b.fr,iV y.b.tg,iV y.b.rd,.slice y.A y.b.evs.length y.c] 42,.blk b10 #[iV ((x.l.q:Nat):Int)] 3,.blk b7 (LX.row x) 169,.blk b4 #[pV kn 0] 122,.blk b1 #[pV kw 0] 111]) (fA:=R.fA) (fc:=R.fc) (fx:=R.fx) (sA:=R.sA) (sc:=R.sc) (tA:=R.tA) (tc:=R.tc) hkn bR hrr G hn Du ?_ (fun u hu=> .inl hu) rfl G.fly.symm mH⟩;refine { (NG.more:dz K _ n X z) with vO:=aqg.mono mLN,zN:=?_ }
    show nU (K.nb n) K.wb _ _ _
    rw [hkn,bR];exact ⟨tH,b4,b10,b1,b7,⟨BR.1,mX,c31⟩,x,rfl,(qz (List.mem_iff_getElem?.2 ⟨2,rfl⟩)),rfl,⟨(Ro.bG (qz (List.mem_iff_getElem?.2 ⟨3,rfl⟩))),IJ⟩,(qz (List.mem_iff_getElem?.2 ⟨7,rfl⟩)),(qz (List.mem_iff_getElem?.2 ⟨5,rfl⟩)),(qz (List.mem_iff_getElem?.2 ⟨8,rfl⟩)),(qz (List.mem_iff_getElem?.2 ⟨6,rfl⟩)),rfl⟩
   iterate 7 refine zQ ?_
   have hch: ¬ (y.b.tg≠x.l.fr∨y.b.ep+1≠x.l.ep):=by omega
   have IV:=vV.dM [13,13,13,13,13,13,13];rw [Tq hX hyb.symm oz hch (by first | assumption | omega)];exact ⟨rfl,Wd.dw (X':=X) (z':=z) (Ls:=[.blk tH #[iV BR.1.role,iV BR.1.ep,iV BR.1.fr,iV BR.1.tg,iV BR.1.rd,.slice mX BR.1.evs.length c31] 42,.bG 6 mX BR.1.evs.length ((BR.1.evs).flatMap Ev.cells),.blk xX #[iV y.b.role,iV y.b.ep,iV y.b.fr,iV y.b.tg,iV y.b.rd,.slice y.A y.b.evs.length y.c] 42,.blk b10 #[iV ((x.l.q:Nat):Int)] 3,.blk b7 (LX.row x) 169,.blk b4 #[pV kn 0] 122,.blk b1 #[pV kw 0] 111]) (fA:=R.fA) (fc:=R.fc) (fx:=R.fx) (sA:=R.sA) (sc:=R.sc) (tA:=R.tA) (tc:=R.tc) hkn bR hrr G hn IV NG.more (fun u hu=> .inl hu) (aQ hX).symm G.fly.symm mH⟩
  iterate 8 refine zQ ?_
  have FQ:=qJ.dM [11,11,11,11,11,11,11];rw [Kn hX hyb.symm (by omega)];exact ⟨rfl,Wd.dw (X':=X) (z':=z) (Ls:=[.blk xX #[iV y.b.role,iV y.b.ep,iV y.b.fr,iV y.b.tg,iV y.b.rd,.slice y.A y.b.evs.length y.c] 42,.blk b10 #[iV ((x.l.q:Nat):Int)] 3,.blk b7 (LX.row x) 169,.blk b4 #[pV kn 0] 122,.blk b1 #[pV kw 0] 111]) (fA:=R.fA) (fc:=R.fc) (fx:=R.fx) (sA:=R.sA) (sc:=R.sc) (tA:=R.tA) (tc:=R.tc) hkn bR hrr G hn FQ NG.more (fun u hu=> .inl hu) (aQ hX).symm G.fly.symm mH⟩
 iterate 15 refine zQ ?_
 have JO:=qJ.dM [11,11,11,11,11,11,11];rw [Kn hX hyb.symm (by omega)];exact ⟨rfl,Wd.dw (X':=X) (z':=z) (Ls:=[.blk xX #[iV y.b.role,iV y.b.ep,iV y.b.fr,iV y.b.tg,iV y.b.rd,.slice y.A y.b.evs.length y.c] 42,.blk b10 #[iV ((x.l.q:Nat):Int)] 3,.blk b7 (LX.row x) 169,.blk b4 #[pV kn 0] 122,.blk b1 #[pV kw 0] 111]) (fA:=R.fA) (fc:=R.fc) (fx:=R.fx) (sA:=R.sA) (sc:=R.sc) (tA:=R.tA) (tc:=R.tc) hkn bR hrr G hn JO NG.more (fun u hu=> .inl hu) (aQ hX).symm G.fly.symm mH⟩
theorem CW {B kn kw bb n turn calls dc ic fc sc tc:Nat} {up:Bool} {dA iA fA sA tA:Option Addr} {data:List UInt8} {syn:Int} {Hh:Nat→Pl} {Us:Nat→Bool} {pv nv:Value} {d:Dir} {sh:Nat→Nat→Int×Int} {bs:List BX} {ix fx:List LX} {aH:List eT} {tl:List fK} {w0 w:World} {fs:List Fact} {L:List Fact} {rs:List dx} {RA:Option Addr} {rc:Nat} (hw:eD data syn rs=none) (hrs:Ro fs 10 RA rs.length (rs.flatMap dx.cells)) (htp:Ro L 1 dA data.length (byteCells data)) (hL: ∀ f∈L,f∈fs) (hrl:rs.length≤1000000) (S:St B w0 w ((.blk kn (aU n up (.slice dA data.length dc) syn (.slice (aD bb 0) 4 4) Hh Us (.slice iA ix.length ic) (pv) turn) 129)::(.own 42 6 (.slice (aD bb 0) 4 4) 4 ((bs).flatMap BX.cells))::(.off 169 23 iA ix.length ic ((ix).flatMap LX.cells))::(.blk kw (bL (nv) d (.slice fA fx.length fc) sh (.slice sA aH.length sc) (.slice tA tl.length tc) calls) 121)::(.own 169 23 (.slice fA fx.length fc) fx.length ((fx).flatMap LX.cells))::(.own 85 14 (.slice sA aH.length sc) aH.length ((aH).flatMap eT.cells))::(.own 81 7 (.slice tA tl.length tc) tl.length ((tl).flatMap fK.cells))::fs)):
  Calls Tryz.prog 96 #[pV kn 0,.slice RA rs.length rc] w (fun e w'=>e= .returned (.bool false)∧St B w0 w' ((.blk kn (aU n up (.slice dA data.length dc) syn (.slice (aD bb 0) 4 4) Hh Us (.slice iA ix.length ic) (pv) turn) 129)::(.own 42 6 (.slice (aD bb 0) 4 4) 4 ((bs).flatMap BX.cells))::(.off 169 23 iA ix.length ic ((ix).flatMap LX.cells))::(.blk kw (bL (nv) d (.slice fA fx.length fc) sh (.slice sA aH.length sc) (.slice tA tl.length tc) calls) 121)::(.own 169 23 (.slice fA fx.length fc) fx.length ((fx).flatMap LX.cells))::(.own 85 14 (.slice sA aH.length sc) aH.length ((aH).flatMap eT.cells))::(.own 81 7 (.slice tA tl.length tc) tl.length ((tl).flatMap fK.cells))::fs)):=(nV (rc:=rc) hrs htp hL hrl S).mono fun e w' h=>h.elim (fun h=>h.2) fun ⟨_,_,_,_,h,_⟩=>by rw [hw] at h;cases h
theorem CY {B kn kw bb n turn calls dc ic fc sc tc:Nat} {up:Bool} {dA iA fA sA tA:Option Addr} {data:List UInt8} {syn:Int} {Hh:Nat→Pl} {Us:Nat→Bool} {pv nv:Value} {d:Dir} {sh:Nat→Nat→Int×Int} {bs:List BX} {ix fx:List LX} {aH:List eT} {tl:List fK} {w0 w:World} {fs:List Fact} {d':List UInt8} {L:List Fact} {rs:List dx} {RA:Option Addr} {rc:Nat} (hw:eD data syn rs=some d') (hrs:Ro fs 10 RA rs.length (rs.flatMap dx.cells)) (htp:Ro L 1 dA data.length (byteCells data)) (hL: ∀ f∈L,f∈fs) (hrl:rs.length≤1000000) (S:St B w0 w ((.blk kn (aU n up (.slice dA data.length dc) syn (.slice (aD bb 0) 4 4) Hh Us (.slice iA ix.length ic) (pv) turn) 129)::(.own 42 6 (.slice (aD bb 0) 4 4) 4 ((bs).flatMap BX.cells))::(.off 169 23 iA ix.length ic ((ix).flatMap LX.cells))::(.blk kw (bL (nv) d (.slice fA fx.length fc) sh (.slice sA aH.length sc) (.slice tA tl.length tc) calls) 121)::(.own 169 23 (.slice fA fx.length fc) fx.length ((fx).flatMap LX.cells))::(.own 85 14 (.slice sA aH.length sc) aH.length ((aH).flatMap eT.cells))::(.own 81 7 (.slice tA tl.length tc) tl.length ((tl).flatMap fK.cells))::fs)):
  Calls Tryz.prog 96 #[pV kn 0,.slice RA rs.length rc] w (fun e w'=> ∃ A' c' N,e= .returned (.bool true)∧Ro (L++N) 1 A' d'.length (byteCells d')∧St B w0 w' ((.blk kn (aU n up (.slice A' d'.length c') syn (.slice (aD bb 0) 4 4) Hh Us (.slice iA ix.length ic) (pv) turn) 129)::(.own 42 6 (.slice (aD bb 0) 4 4) 4 ((bs).flatMap BX.cells))::(.off 169 23 iA ix.length ic ((ix).flatMap LX.cells))::(.blk kw (bL (nv) d (.slice fA fx.length fc) sh (.slice sA aH.length sc) (.slice tA tl.length tc) calls) 121)::(.own 169 23 (.slice fA fx.length fc) fx.length ((fx).flatMap LX.cells))::(.own 85 14 (.slice sA aH.length sc) aH.length ((aH).flatMap eT.cells))::(.own 81 7 (.slice tA tl.length tc) tl.length ((tl).flatMap fK.cells))::(fs++N))):=(nV (rc:=rc) hrs htp hL hrl S).mono fun e w' h=>h.elim (fun h=>by rw [hw] at h;cases h.1) fun ⟨d2,A',c',N,h,h1,h2,h3⟩=>by
 rw [hw] at h
 cases h;exact ⟨A',c',N,h1,h2,h3⟩
theorem K9 {X:Nd} {n:Nat} {l:jI} {b:bO} {hs:Nat→Pl} {su:Nat→Bool} (hb:X.bs l.q=b) (h1:hs=if (X.hints l.q).epoch<l.ep then upd X.hints l.q ⟨l.nd,l.ep⟩ else X.hints) (h2:su=if l.nd=n∧b.ep=l.ep then upd X.sure l.q true else X.sure):X.hear n l={ X with hints:=hs,sure:=su }:=by
 subst hb;subst h1;subst h2;rfl
theorem Jh {K:CK} {B n kn kw:Nat} {w0 w:World} {fs:List Fact} {m:Cl} {H:List LX} {x:LX} (hn:n<5) (hkn:K.nb n=kn) (bR:K.wb=kw) (hu:Uk B w0) (hB1:m.fly.length≤1000000000) (hB2:m.aH.length≤1000000000000) (HW:Wd K B w0 w fs m (x::H)) (hq:x.l.q<4) (hv: ∀ q,q<4→au ((m.av n).bs q)=0):
    Calls Tryz.prog 125 #[pV kw 0,pV kn 0,.agg (LX.row x)] w (fun e w'=>e= .returned (.tuple #[])∧Wd K B w0 w' fs (m.learnt n x.l) H):=by
 obtain ⟨R,G,S0⟩:=HW.open hn;have hfl:R.fx.length=m.fly.length:=by rw [←G.fly,List.length_map]
 have NG:=G.lC n hn;obtain ⟨X,hX⟩: ∃ X,m.av n=X:=⟨_,rfl⟩;obtain ⟨z,hz⟩: ∃ z,R.nx n=z:=⟨_,rfl⟩;rw [hX,hz] at S0 NG;have hL: ∀ f∈R.L,f∈eZ K R m fs n:=fun f h=>List.mem_append_right _ (List.mem_append_right _ h)
 obtain ⟨rr,hrr⟩: ∃ r,eZ K R m fs n=r:=⟨_,rfl⟩;rw [hrr] at S0 hL;have S:St B w0 w ((.blk kn (aU n X.up (.slice z.tA X.data.length z.tc) X.syn (.slice (aD z.bb 0) 4 4) X.hints X.sure (.slice z.iA z.ix.length z.ic) (z.pv) X.turn) 129)::(.own 42 6 (.slice (aD z.bb 0) 4 4) 4 ((z.bx).flatMap BX.cells))::(.off 169 23 z.iA z.ix.length z.ic ((z.ix).flatMap LX.cells))::(.blk kw (bL (.slice R.nA 5 R.nc) m.off (.slice R.fA R.fx.length R.fc) m.shown (.slice R.sA m.aH.length R.sc) (.slice R.tA m.aM.length R.tc) m.calls) 121)::(.own 169 23 (.slice R.fA R.fx.length R.fc) R.fx.length ((R.fx).flatMap LX.cells))::(.own 85 14 (.slice R.sA m.aH.length R.sc) m.aH.length ((m.aH).flatMap eT.cells))::(.own 81 7 (.slice R.tA m.aM.length R.tc) m.aM.length ((m.aM).flatMap fK.cells))::rr):=by subst hkn;subst bR;exact S0
 clear S0 HW;have hlen:=(S.own 1 rfl).1;rw [gL (sz:=6) (fun _=>rfl)] at hlen;rw [hX] at hv;obtain ⟨y,hy,hyb,qZ⟩:=NG.at_ hq;have hln:=jC (iO (hyb▸hv _ hq));have wR:y.b.evs.length*48≤reachBytes:=by unfold reachBytes;omega
 have Iu:=uZ (hyb▸hv _ hq);refine fE 80 Tryz.func125 ?_;refine cw [0,1,2] ?_;iterate 2 refine zQ ?_
 refine Qn S ?_;intro b1 w2 S3;refine gD S3 ?_;intro b4 w5 S6;iterate 6 refine zQ ?_
 refine eU S6 zr3 ?_;intro b7 w8 S9;refine iU (row':= #[iV ((x.l.q:Nat):Int)]) 0 S9 fM ?_;intro Ma jQ;iterate 2 refine zQ ?_
 obtain ⟨hs,hhs⟩: ∃ f,f=if (X.hints x.l.q).epoch<x.l.ep then upd X.hints x.l.q ⟨x.l.nd,x.l.ep⟩ else X.hints:=⟨_,rfl⟩
 refine jU (X:=Unit) (fun _=>[(4,pV b1 0),(5,pV b4 0),(6,pV b7 0)]) (fun _ wr=>St B w0 wr ((.blk b7 #[iV ((x.l.q:Nat):Int)] 3)::(.blk b4 (LX.row x) 169)::(.blk b1 #[pV kn 0] 122)::(.blk kn (aU n X.up (.slice z.tA X.data.length z.tc) X.syn (.slice (aD z.bb 0) 4 4) hs X.sure (.slice z.iA z.ix.length z.ic) (z.pv) X.turn) 129)::(.own 42 6 (.slice (aD z.bb 0) 4 4) 4 ((z.bx).flatMap BX.cells))::(.off 169 23 z.iA z.ix.length z.ic ((z.ix).flatMap LX.cells))::(.blk kw (bL (.slice R.nA 5 R.nc) m.off (.slice R.fA R.fx.length R.fc) m.shown (.slice R.sA m.aH.length R.sc) (.slice R.tA m.aM.length R.tc) m.calls) 121)::(.own 169 23 (.slice R.fA R.fx.length R.fc) R.fx.length ((R.fx).flatMap LX.cells))::(.own 85 14 (.slice R.sA m.aH.length R.sc) m.aH.length ((m.aH).flatMap eT.cells))::(.own 81 7 (.slice R.tA m.aM.length R.tc) m.aM.length ((m.aM).flatMap fK.cells))::rr)) ?_ ?_
 ·refine zQ ?_;refine eH jQ mixed (by kernel_rfl) ?_;iterate 6 refine zQ ?_
  refine uv (v:=pV kn (5+x.l.q*2)) (fun _ _=>(bP rfl rfl rfl (eu x.l.q Tryz.underlying31 iJ rfl hq))) ?_;refine zQ ?_;refine uv (v:=iV ((X.hints x.l.q).epoch)) (fun _ XR=>(aj rfl rfl (aA Tryz.underlying3 rfl (St.cl 3 XR rfl (K4 hq).2)))) ?_;refine uv (v:= .bool (decide ((X.hints x.l.q).epoch<x.l.ep))) (fun _ _=>ah rfl rfl rfl aoD) ?_;refine fC fun Qs mE=>?_
  refine zQ ?_
  cases za:(decide ((X.hints x.l.q).epoch<x.l.ep))
  ·refine bq (l':=[(4,pV b1 0),(5,pV b4 0),(6,pV b7 0),(21,.bool false)]) ⟨rfl,rfl,rfl,rfl,trivial⟩ (kQ rfl (oU ?_));rw [if_neg (by simpa using (by assumption:decide ((X.hints x.l.q).epoch<x.l.ep)=false))] at hhs;subst hhs;refine bJ () ?_ ⟨rfl,rfl,rfl,trivial⟩;exact mE
  refine bq (l':=[(4,pV b1 0),(5,pV b4 0),(6,pV b7 0),(21,.bool true)]) ⟨rfl,rfl,rfl,rfl,trivial⟩ (kP rfl ?_);have iX:=mE.drew;refine aN 11 iX [3] ?_;iterate 6 refine aF ?_
  refine ak (v:= .agg #[iV x.l.nd,iV x.l.ep]) 6 rfl (St.del 3 iX) (fun _ _=>gZ) ?_;iterate 2 refine aF ?_
  refine ak (v:=pV kn (5+x.l.q*2)) 9 rfl (St.del 3 iX) (fun _ _=>(bP rfl rfl rfl (eu x.l.q Tryz.underlying31 iJ rfl hq))) ?_;refine aS 10 ?_;refine rY (i:=10) rfl rfl (cs:= #[iV x.l.nd,iV x.l.ep]) (row':=aU n X.up (.slice z.tA X.data.length z.tc) X.syn (.slice (aD z.bb 0) 4 4) (upd X.hints x.l.q (⟨x.l.nd,x.l.ep⟩:Pl)) X.sure (.slice z.iA z.ix.length z.ic) (z.pv) X.turn) (fs':=(_::_::_::(.blk kn (aU n X.up (.slice z.tA X.data.length z.tc) X.syn (.slice (aD z.bb 0) 4 4) (upd X.hints x.l.q (⟨x.l.nd,x.l.ep⟩:Pl)) X.sure (.slice z.iA z.ix.length z.ic) (z.pv) X.turn) 129)::_::_::_::_::_::_::rr)) 3 iX (wn rfl) rfl rfl rfl rfl rfl rfl iJ rfl (bZ rfl) (by rw [show Array.size (aU _ _ _ _ _ _ _ _ _ _)=20 from rfl];omega) (Bq hq (p:=(⟨x.l.nd,x.l.ep⟩:Pl))) rfl ?_;intro w36 qN;iterate 2 refine aF ?_
  rw [if_pos (by simpa using (by assumption:decide ((X.hints x.l.q).epoch<x.l.ep)=true))] at hhs;subst hhs;refine bJ () ?_ ⟨rfl,rfl,rfl,trivial⟩;exact qN
 rintro _ Zy yV;refine bq (l':=[(4,pV b1 0),(5,pV b4 0),(6,pV b7 0)]) ⟨rfl,rfl,rfl,trivial⟩ (aW ?_);have vV:=yV.drew;refine fG 9 8 vV [] ?_;iterate 5 refine iP ?_
 refine gk 5 rfl vV (fun _ _=>gM x.l.q) ?_;refine gk (v:= .agg #[iV y.b.role,iV y.b.ep,iV y.b.fr,iV y.b.tg,iV y.b.rd,.slice y.A y.b.evs.length y.c]) 6 rfl vV (fun _ av4=>(aj rfl rfl (aG (cs:=BX.cells y) Tryz.underlying42 rfl aC rfl (Rd.uN (St.ord 4 av4 rfl) (fun _ _ h=>bS (enc:=BX.cells) (sz:=6) (fun _=>rfl) hy h))))) ?_;refine gW (m:=1) (r:=7) (by kernel_rfl) ?_;refine kS (i:=7) rfl rfl (V:=fun b=>pV b 0) (row:= #[iV 0,iV 0,iV 0,iV 0,iV 0,.slice none 0 0]) (t:=42) vV (wn rfl) rfl rfl (iN rfl (Tryz.zeroValue42 _) rfl) ?_;intro UR Qq rO;refine iP ?_;refine eF (by kernel_rfl) rfl rfl rfl ?_;refine sa 0 rO aC ?_;intro Zq oF;refine zQ ?_;refine je ?_;refine zQ ?_;obtain ⟨su,hsu⟩: ∃ f,f=if x.l.nd=n∧y.b.ep=x.l.ep then upd X.sure x.l.q true else X.sure:=⟨_,rfl⟩
 refine jU (X:=Unit) (fun _=>[(4,pV b1 0),(5,pV b4 0),(6,pV b7 0),(7,pV UR 0)]) (fun _ wr=>St B w0 wr ((.blk UR #[iV y.b.role,iV y.b.ep,iV y.b.fr,iV y.b.tg,iV y.b.rd,.slice y.A y.b.evs.length y.c] 42)::(.blk b7 #[iV ((x.l.q:Nat):Int)] 3)::(.blk b4 (LX.row x) 169)::(.blk b1 #[pV kn 0] 122)::(.blk kn (aU n X.up (.slice z.tA X.data.length z.tc) X.syn (.slice (aD z.bb 0) 4 4) hs su (.slice z.iA z.ix.length z.ic) (z.pv) X.turn) 129)::(.own 42 6 (.slice (aD z.bb 0) 4 4) 4 ((z.bx).flatMap BX.cells))::(.off 169 23 z.iA z.ix.length z.ic ((z.ix).flatMap LX.cells))::(.blk kw (bL (.slice R.nA 5 R.nc) m.off (.slice R.fA R.fx.length R.fc) m.shown (.slice R.sA m.aH.length R.sc) (.slice R.tA m.aM.length R.tc) m.calls) 121)::(.own 169 23 (.slice R.fA R.fx.length R.fc) R.fx.length ((R.fx).flatMap LX.cells))::(.own 85 14 (.slice R.sA m.aH.length R.sc) m.aH.length ((m.aH).flatMap eT.cells))::(.own 81 7 (.slice R.tA m.aM.length R.tc) m.aM.length ((m.aM).flatMap fK.cells))::rr)) ?_ ?_
 ·by_cases hN:x.l.nd=((n:Nat):Int)
  ·by_cases hE:y.b.ep=x.l.ep
   ·refine zQ ?_;refine eH oF mixed (by kernel_rfl) ?_;iterate 14 refine zQ ?_
    refine fC fun w67 uz=>?_
    iterate 2 refine zQ ?_
    have xg:=uz.drew;refine aN 6 xg [4] ?_;iterate 4 refine aF ?_
    refine ak (v:=pV kn (13+x.l.q*1)) 4 rfl (St.del 4 xg) (fun _ _=>(bP rfl rfl rfl (eu x.l.q Tryz.underlying126 EM rfl hq))) ?_;refine aS 5 ?_;refine rY (i:=5) rfl rfl (cs:= #[.bool true]) (row':=aU n X.up (.slice z.tA X.data.length z.tc) X.syn (.slice (aD z.bb 0) 4 4) hs (upd X.sure x.l.q true) (.slice z.iA z.ix.length z.ic) (z.pv) X.turn) (fs':=(_::_::_::_::(.blk kn (aU n X.up (.slice z.tA X.data.length z.tc) X.syn (.slice (aD z.bb 0) 4 4) hs (upd X.sure x.l.q true) (.slice z.iA z.ix.length z.ic) (z.pv) X.turn) 129)::_::_::_::_::_::_::rr)) 4 xg (wn rfl) rfl rfl rfl rfl rfl rfl EM rfl (bZ rfl) (by rw [show Array.size (aU _ _ _ _ _ _ _ _ _ _)=20 from rfl];omega) (UZ hq (v:=true)) rfl ?_;intro w75 FP;iterate 2 refine aF ?_
    rw [if_pos (by omega)] at hsu;subst hsu;refine bJ () ?_ ⟨rfl,rfl,rfl,rfl,trivial⟩;exact FP
   refine zQ ?_;refine eH oF mixed (by kernel_rfl) ?_;iterate 14 refine zQ ?_
   refine fC fun Zz vI=>?_
   iterate 3 refine zQ ?_
   rw [if_neg (by omega)] at hsu;subst hsu;refine bJ () ?_ ⟨rfl,rfl,rfl,rfl,trivial⟩;exact vI
  refine zQ ?_;refine eH oF mixed (by kernel_rfl) ?_;iterate 14 refine zQ ?_
  refine fC fun Ip l9=>?_
  iterate 3 refine zQ ?_
  rw [if_neg (by omega)] at hsu;subst hsu;refine bJ () ?_ ⟨rfl,rfl,rfl,rfl,trivial⟩;exact l9
 rintro _ ank lD;refine bq (l':=[(4,pV b1 0),(5,pV b4 0),(6,pV b7 0),(7,pV UR 0)]) ⟨rfl,rfl,rfl,rfl,trivial⟩ (aW ?_);obtain ⟨BR,oz⟩: ∃ r,fB y.b x.l.ep=r:=⟨_,rfl⟩;have HP:=fun w h=>CP y.b.role y.b.ep y.b.fr y.b.tg y.b.rd y.A y.c y.b.evs x.l.ep w h wR
 rw [show fB ⟨y.b.role,y.b.ep,y.b.fr,y.b.tg,y.b.rd,y.b.evs⟩ x.l.ep=BR from oz] at HP;iterate 4 refine zQ ?_
 refine dO agh (HP _ (qZ.1.rd lD (memT 11 rfl hL))) ?_;rintro _ VT ⟨Fg,c107,alc,rfl,av5⟩;refine ⟨_,rfl,?_⟩;have pq:=lD.ext av5 rfl;iterate 3 refine zQ ?_
 refine eU pq dK ?_;intro Ru ab9 yX;refine sa 0 yX aC ?_;intro ah8 uG;iterate 5 refine zQ ?_
 have tT:=uG.dM [12,12,12,12,12,12,12];by_cases hB:BR.2=0
 ·rcases Rv:eD X.data X.syn [fq 7 x.l.q y.b.ep 0 aT] with _ | agT
  ·have oM:=tT.drew;refine aN 11 oM [6,5,4,3,2,1,0] ?_;iterate 6 refine aF ?_
   refine aS 6 ?_;refine uV (i:=6) rfl rfl (wg rfl rfl rfl rfl) rfl rfl (lM (vs:=[iV 7,iV ((x.l.q:Nat):Int),.agg #[iV y.b.role,iV y.b.ep,iV y.b.fr,iV y.b.tg,iV y.b.rd,.slice y.A y.b.evs.length y.c]]) rfl EN ⟨rfl,rfl,rfl,trivial⟩) (iC 7 x.l.q ⟨y.b,y.A,y.c⟩ _) ?_;rintro _ Ie ⟨rfl,YW⟩;refine ⟨_,rfl,?_⟩;have nM:=oM.on YW;refine aF ?_;refine aS 7 ?_;refine jr (i:=7) rfl rfl (V:=fun b=> .slice (aD b 0) 1 1) (row:= #[iV 7,iV ((x.l.q:Nat):Int),iV y.b.ep,iV 0,iV 0,iV 0,iV 0,iV 0,iV 0,iV 0]) (t:=205) nM (wg rfl rfl rfl rfl) rfl rfl (aK (vs:=[(0,.agg #[iV 7,iV ((x.l.q:Nat):Int),iV y.b.ep,iV 0,iV 0,iV 0,iV 0,iV 0,iV 0,iV 0])]) rfl ⟨rfl,rfl,trivial⟩ (by kernel_rfl)) ?_;intro acJ ab6 qE;refine aF ?_;refine aS 8 ?_;have M6:=qE.dM [7,7,7,7,7,7,7];refine uV (i:=8) rfl rfl (wg rfl rfl rfl rfl) rfl rfl (lM (vs:=[pV kn 0,.slice (aD acJ 0) 1 1]) rfl Dk ⟨rfl,rfl,trivial⟩) (CW (rs:=[fq 7 x.l.q y.b.ep 0 aT]) Rv (Ro.blk (List.mem_iff_getElem?.2 ⟨0,rfl⟩) rfl rfl) NG.vO (by exact memT 7 rfl hL) (Nat.le_of_ble_eq_true rfl) M6) ?_;rintro _ auS ⟨rfl,Dz⟩;refine ⟨_,rfl,?_⟩;iterate 4 refine aF ?_
   iterate 5 refine zQ ?_
   have MQ:X.hear n x.l={ X with hints:=hs,sure:=su }:=K9 hyb.symm hhs hsu;rw [P5 hX hyb.symm oz (by first | assumption | omega) Rv,MQ];exact ⟨rfl,Wd.dw (X':={ X with hints:=hs,sure:=su }) (z':=z) (Ls:=[.blk acJ #[iV 7,iV ((x.l.q:Nat):Int),iV y.b.ep,iV 0,iV 0,iV 0,iV 0,iV 0,iV 0,iV 0] 205,.blk Ru #[iV BR.1.role,iV BR.1.ep,iV BR.1.fr,iV BR.1.tg,iV BR.1.rd,.slice Fg BR.1.evs.length c107] 42,.bG 6 Fg BR.1.evs.length ((BR.1.evs).flatMap Ev.cells),.blk UR #[iV y.b.role,iV y.b.ep,iV y.b.fr,iV y.b.tg,iV y.b.rd,.slice y.A y.b.evs.length y.c] 42,.blk b7 #[iV ((x.l.q:Nat):Int)] 3,.blk b4 (LX.row x) 169,.blk b1 #[pV kn 0] 122]) (fA:=R.fA) (fc:=R.fc) (fx:=R.fx) (sA:=R.sA) (sc:=R.sc) (tA:=R.tA) (tc:=R.tc) hkn bR hrr G hn Dz (dz.hear NG.more) (fun u hu=> .inl hu) rfl G.fly.symm mH⟩
  have EY:=tT.drew;refine aN 11 EY [6,5,4,3,2,1,0] ?_;iterate 6 refine aF ?_
  refine aS 6 ?_;refine uV (i:=6) rfl rfl (wg rfl rfl rfl rfl) rfl rfl (lM (vs:=[iV 7,iV ((x.l.q:Nat):Int),.agg #[iV y.b.role,iV y.b.ep,iV y.b.fr,iV y.b.tg,iV y.b.rd,.slice y.A y.b.evs.length y.c]]) rfl EN ⟨rfl,rfl,rfl,trivial⟩) (iC 7 x.l.q ⟨y.b,y.A,y.c⟩ _) ?_;rintro _ aDh ⟨rfl,aqh⟩;refine ⟨_,rfl,?_⟩;have XT:=EY.on aqh;refine aF ?_;refine aS 7 ?_;refine jr (i:=7) rfl rfl (V:=fun b=> .slice (aD b 0) 1 1) (row:= #[iV 7,iV ((x.l.q:Nat):Int),iV y.b.ep,iV 0,iV 0,iV 0,iV 0,iV 0,iV 0,iV 0]) (t:=205) XT (wg rfl rfl rfl rfl) rfl rfl (aK (vs:=[(0,.agg #[iV 7,iV ((x.l.q:Nat):Int),iV y.b.ep,iV 0,iV 0,iV 0,iV 0,iV 0,iV 0,iV 0])]) rfl ⟨rfl,rfl,trivial⟩ (by kernel_rfl)) ?_;intro Ce anu tX;refine aF ?_;refine aS 8 ?_;have ahv:=tX.dM [7,7,7,7,7,7,7];refine uV (i:=8) rfl rfl (wg rfl rfl rfl rfl) rfl rfl (lM (vs:=[pV kn 0,.slice (aD Ce 0) 1 1]) rfl Dk ⟨rfl,rfl,trivial⟩) (CY (rs:=[fq 7 x.l.q y.b.ep 0 aT]) Rv (Ro.blk (List.mem_iff_getElem?.2 ⟨0,rfl⟩) rfl rfl) NG.vO (by exact memT 7 rfl hL) (Nat.le_of_ble_eq_true rfl) ahv) ?_;rintro _ al9 ⟨anJ,c157,av6,rfl,ald,M0⟩;refine ⟨_,rfl,?_⟩;refine ⟨(St.sub (M0.oh [7,6,5,4,3,2,1,0]) (List.Sublist.cons_cons _ (List.Sublist.cons_cons _ (List.Sublist.cons_cons _ (List.Sublist.cons_cons _ (List.Sublist.cons_cons _ (List.Sublist.cons_cons _ (List.sublist_append_left _ _)))))))),?_⟩;iterate 3 refine aF ?_
  iterate 6 refine zQ ?_
  refine vv FM ?_;iterate 2 refine zQ ?_
  refine iU (row':=aU n X.up (.slice anJ agT.length c157) X.syn (.slice (aD z.bb 0) 4 4) hs su (.slice z.iA z.ix.length z.ic) (.func (.func 163) #[] #[pV Ru 0,pV b1 0,pV b7 0]) X.turn) 0 M0 oC ?_;intro amf wu;refine zQ ?_;refine bN (l':=[]) trivial (aY (rs:=[]) (vs:=[]) rfl trivial ?_);have MQ:X.hear n x.l={ X with hints:=hs,sure:=su }:=K9 hyb.symm hhs hsu;rw [Xw hX hyb.symm oz (by first | assumption | omega) Rv,MQ];refine ⟨rfl,Wd.fin (X':={ X with hints:=hs,sure:=su,data:=agT,pend:=some (.forget x.l.q BR.1) }) (z':={ z with tA:=anJ,tc:=c157,pv:= .func (.func 163) #[] #[pV Ru 0,pV b1 0,pV b7 0] }) (N:=av6) (Ls:=[.blk Ce #[iV 7,iV ((x.l.q:Nat):Int),iV y.b.ep,iV 0,iV 0,iV 0,iV 0,iV 0,iV 0,iV 0] 205,.blk Ru #[iV BR.1.role,iV BR.1.ep,iV BR.1.fr,iV BR.1.tg,iV BR.1.rd,.slice Fg BR.1.evs.length c107] 42,.bG 6 Fg BR.1.evs.length ((BR.1.evs).flatMap Ev.cells),.blk UR #[iV y.b.role,iV y.b.ep,iV y.b.fr,iV y.b.tg,iV y.b.rd,.slice y.A y.b.evs.length y.c] 42,.blk b7 #[iV ((x.l.q:Nat):Int)] 3,.blk b4 (LX.row x) 169,.blk b1 #[pV kn 0] 122]) (fA:=R.fA) (fc:=R.fc) (fx:=R.fx) (sA:=R.sA) (sc:=R.sc) (tA:=R.tA) (tc:=R.tc) hkn bR hrr G hn wu ?_ (fun u hu=> .inl hu) rfl G.fly.symm mH⟩;refine { (dz.hear NG.more:dz K _ n { X with hints:=hs,sure:=su } z) with vO:=ald.mono mLN,zN:=?_ }
  show nU (K.nb n) K.wb _ _ _
  rw [hkn,bR];exact ⟨Ru,b1,b7,⟨BR.1,Fg,c107⟩,rfl,(qz (List.mem_iff_getElem?.2 ⟨1,rfl⟩)),rfl,⟨(Ro.bG (qz (List.mem_iff_getElem?.2 ⟨2,rfl⟩))),alc⟩,(qz (List.mem_iff_getElem?.2 ⟨6,rfl⟩)),(qz (List.mem_iff_getElem?.2 ⟨4,rfl⟩))⟩
 have acd:=tT.drew;refine aN 11 acd [] ?_;iterate 12 refine aF ?_
 iterate 5 refine zQ ?_
 have MQ:X.hear n x.l={ X with hints:=hs,sure:=su }:=K9 hyb.symm hhs hsu;rw [Xv hX hyb.symm oz (by first | assumption | omega),MQ];exact ⟨rfl,Wd.dw (X':={ X with hints:=hs,sure:=su }) (z':=z) (Ls:=[.blk Ru #[iV BR.1.role,iV BR.1.ep,iV BR.1.fr,iV BR.1.tg,iV BR.1.rd,.slice Fg BR.1.evs.length c107] 42,.bG 6 Fg BR.1.evs.length ((BR.1.evs).flatMap Ev.cells),.blk UR #[iV y.b.role,iV y.b.ep,iV y.b.fr,iV y.b.tg,iV y.b.rd,.slice y.A y.b.evs.length y.c] 42,.blk b7 #[iV ((x.l.q:Nat):Int)] 3,.blk b4 (LX.row x) 169,.blk b1 #[pV kn 0] 122]) (fA:=R.fA) (fc:=R.fc) (fx:=R.fx) (sA:=R.sA) (sc:=R.sc) (tA:=R.tA) (tc:=R.tc) hkn bR hrr G hn acd (dz.hear NG.more) (fun u hu=> .inl hu) rfl G.fly.symm mH⟩
theorem CZ {B kn kw bb n turn calls dc ic fc sc tc:Nat} {up:Bool} {dA iA fA sA tA:Option Addr} {data:List UInt8} {syn:Int} {Hh:Nat→Pl} {Us:Nat→Bool} {pv nv:Value} {d:Dir} {sh:Nat→Nat→Int×Int} {bs:List BX} {ix fx:List LX} {aH:List eT} {tl:List fK} {w0 w:World} {fs:List Fact} {L:List Fact} {rs:List dx} {RA:Option Addr} {rc nn:Nat} (hnn:nn=rs.length) (hrs:Ro fs 10 RA nn (rs.flatMap dx.cells)) (htp:Ro L 1 dA data.length (byteCells data)) (hL: ∀ f∈L,f∈fs) (hrl:nn≤1000000) (S:St B w0 w ((.blk kn (aU n up (.slice dA data.length dc) syn (.slice (aD bb 0) 4 4) Hh Us (.slice iA ix.length ic) (pv) turn) 129)::(.own 42 6 (.slice (aD bb 0) 4 4) 4 ((bs).flatMap BX.cells))::(.off 169 23 iA ix.length ic ((ix).flatMap LX.cells))::(.blk kw (bL (nv) d (.slice fA fx.length fc) sh (.slice sA aH.length sc) (.slice tA tl.length tc) calls) 121)::(.own 169 23 (.slice fA fx.length fc) fx.length ((fx).flatMap LX.cells))::(.own 85 14 (.slice sA aH.length sc) aH.length ((aH).flatMap eT.cells))::(.own 81 7 (.slice tA tl.length tc) tl.length ((tl).flatMap fK.cells))::fs)):
  Calls Tryz.prog 96 #[pV kn 0,.slice RA nn rc] w (fun e w'=>(eD data syn rs=none∧e= .returned (.bool false)∧St B w0 w' ((.blk kn (aU n up (.slice dA data.length dc) syn (.slice (aD bb 0) 4 4) Hh Us (.slice iA ix.length ic) (pv) turn) 129)::(.own 42 6 (.slice (aD bb 0) 4 4) 4 ((bs).flatMap BX.cells))::(.off 169 23 iA ix.length ic ((ix).flatMap LX.cells))::(.blk kw (bL (nv) d (.slice fA fx.length fc) sh (.slice sA aH.length sc) (.slice tA tl.length tc) calls) 121)::(.own 169 23 (.slice fA fx.length fc) fx.length ((fx).flatMap LX.cells))::(.own 85 14 (.slice sA aH.length sc) aH.length ((aH).flatMap eT.cells))::(.own 81 7 (.slice tA tl.length tc) tl.length ((tl).flatMap fK.cells))::fs))∨ ∃ d' A' c' N,eD data syn rs=some d'∧e= .returned (.bool true)∧Ro (L++N) 1 A' d'.length (byteCells d')∧St B w0 w' ((.blk kn (aU n up (.slice A' d'.length c') syn (.slice (aD bb 0) 4 4) Hh Us (.slice iA ix.length ic) (pv) turn) 129)::(.own 42 6 (.slice (aD bb 0) 4 4) 4 ((bs).flatMap BX.cells))::(.off 169 23 iA ix.length ic ((ix).flatMap LX.cells))::(.blk kw (bL (nv) d (.slice fA fx.length fc) sh (.slice sA aH.length sc) (.slice tA tl.length tc) calls) 121)::(.own 169 23 (.slice fA fx.length fc) fx.length ((fx).flatMap LX.cells))::(.own 85 14 (.slice sA aH.length sc) aH.length ((aH).flatMap eT.cells))::(.own 81 7 (.slice tA tl.length tc) tl.length ((tl).flatMap fK.cells))::(fs++N))):=by
 subst hnn;exact nV hrs htp hL hrl S
theorem XW {b:bO} {ep at_:Int} {l:List Ev} {last:Bool} {BR:bO×Int} (hR:cB b ep at_ l last=BR) (h:au b=0) (h1:BR.2=0) (h2: ¬ BR.1.evs.length=b.evs.length):0≤at_∧b.evs.length≤at_.toNat+l.length∧at_.toNat+l.length≤BR.1.evs.length∧at_≤2000:=by
 have hl:=jC (iO h);subst hR;unfold cB at h1 h2⊢;rw [if_neg (fun e=>e h)] at h1 h2⊢;by_cases c0:b.role≠4
 ·rw [if_pos c0] at h1;exact absurd h1 (by decide)
 rw [if_neg c0] at h1 h2⊢;by_cases c1:b.ep≠ep
 ·rw [if_pos c1] at h1;exact absurd h1 (by decide)
 rw [if_neg c1] at h1 h2⊢;by_cases c2: ¬ (0≤at_∧at_≤b.evs.length)
 ·rw [if_pos c2] at h1;exact absurd h1 (by decide)
 rw [if_neg c2] at h1 h2⊢;by_cases c3: ¬ (b.evs.drop at_.toNat).take l.length=l.take (b.evs.length-at_.toNat)
 ·rw [if_pos c3] at h1;exact absurd h1 (by decide)
 rw [if_neg c3] at h1 h2⊢;by_cases c4:last=true∧at_.toNat+l.length<b.evs.length
 ·rw [if_pos c4] at h1;exact absurd h1 (by decide)
 rw [if_neg c4] at h1 h2⊢;by_cases c6:au (if last=true then (⟨1,ep,0,0,0,b.evs++l.drop (b.evs.length-at_.toNat)++[bU]⟩:bO) else { b with evs:=b.evs++l.drop (b.evs.length-at_.toNat) })≠0
 ·rw [if_pos c6] at h1;exact absurd h1 (by decide)
 rw [if_neg c6] at h2⊢;have hd:(l.drop (b.evs.length-at_.toNat)).length=l.length-(b.evs.length-at_.toNat):=List.length_drop;by_cases hla:last=true
 ·rw [if_pos hla] at h2⊢;have: ¬ (at_.toNat+l.length<b.evs.length):=fun e=>c4 ⟨hla,e⟩
  simp only [List.length_append,hd,List.length_singleton] at h2⊢;omega
 rw [if_neg hla] at h2⊢;simp only [List.length_append,hd] at h2⊢;omega
theorem Ch {q:Nat} {b:bO} {k m m0 kk:Nat} {last:Bool} {G:List Ev} {acc:List dx} (hG:G=(b.evs.drop k).take m0) (hm:m0=m-k) (hacc:acc=(G.take kk).map (fun x=>fq 5 q b.ep 0 x)) (hk:G.length≤kk):sM q b k m last=acc++(if last=true then [fq 6 q b.ep 0 aT] else []):=by
 subst hm;subst hacc;unfold sM;rw [List.take_of_length_le hk,hG,List.drop_take]
end Go.Proofs.YtbffmhpkenoogaaGreatDoor
