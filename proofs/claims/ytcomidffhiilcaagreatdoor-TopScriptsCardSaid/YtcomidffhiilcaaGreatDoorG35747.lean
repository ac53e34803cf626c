import Derived.Test.YtcomidffhiilcaaGreatDoorG813f8
import Derived.Test.YtcomidffhiilcaaGreatDoorGa22bd
set_option maxRecDepth 100000
set_option maxHeartbeats 8000000
set_option linter.unusedSimpArgs false
set_option linter.unusedVariables false
namespace Go.Proofs.YtcomidffhiilcaaGreatDoor
open ChangeShapes WideShapes RowKit
def Nd.crashed (X:Nd) (keep:Int):Nd:={ X.blank with up:=false,data:=(oN X.data X.syn keep).1,syn:=(oN X.data X.syn keep).2.1 }
section
variable {X:Nd} {rs us:List dH} {t:List UInt8} {f:Nat->bK} {q:Nat} {p:fO} {keep:Int}
theorem afr (h:vW X rs us) (hk:0<=keep): ∃ rs' t f,Gf (X.crashed keep) rs' t f/\ ∀ q,q<4->f q=mE (X.bs q)\/ ∃ p,X.pend=some p/\p.q=q/\P7 X.bs p (f q):=by
 have hm:=h.may;have hd:X.data=dh rs++dh us:=by rw [h.data,lN]
 have hl:=congrArg List.length hd;rw [List.length_append] at hl;have hs:=h.syn;obtain ⟨N,h1,h2,e⟩: ∃ N:Nat,(dh rs).length<=N/\N<=X.data.length/\oN X.data X.syn keep=(X.data.take N,(N:Int),0):=by
  unfold oN;rw [if_pos hm,if_neg oQ];by_cases c:(X.data.length:Int)-X.syn<keep
  ·rw [if_pos c];exact ⟨X.data.length,by omega,Nat.le_refl _,by rw [List.take_length]⟩
  rw [if_neg c];refine ⟨(X.syn+keep).toNat,by omega,by omega,?_⟩;rw [show (((X.syn+keep).toNat:Nat):Int)=X.syn+keep by omega]
 obtain ⟨j,t,g1,g2,g3⟩:=Nk us (N-(dh rs).length) oQ;have e2:X.data.take N=dh (rs++us.take j)++t:=by
  rw [hd,List.take_append,List.take_of_length_le h1,g1,lN,List.append_assoc]
 have hlen:(X.data.take N).length=N:=by rw [List.length_take];omega
 have key: ∀ f,iN (rs++us.take j) f->(∀ q,q<4->aj (f q)=0/\(f q).role≠2)->Gf (X.crashed keep) (rs++us.take j) t f:=λf hf hb=>by
  have hd':(X.crashed keep).data=X.data.take N:=by unfold Nd.crashed;dsimp only;rw [e]
  have hs':(X.crashed keep).syn=N:=by unfold Nd.crashed;dsimp only;rw [e]
  have:=h.len;exact ⟨by rw [hd',e2],g2,hf,hb,by rw [hd',hs',hlen];omega,by rw [hd',hlen];omega,rfl,rfl,λ_ _=>ajm⟩
 cases hp:X.pend with
 | none=>
  have hu:=h.pnn hp;refine ⟨_,t,λq=>mE (X.bs q),key _ ?_ λq hq=>Ul h.qW hq,λq _=> .inl rfl⟩;rw [hu,List.take_nil,List.append_nil];exact h.tape
 | some p=>
  obtain ⟨hu,hpo,hq⟩:=h.pns p hp;obtain ⟨f',f1,f2,f3,f4,f5⟩:=aaY h.tape h.qW hpo hq j;rw [<-hu] at f1;refine ⟨_,t,f',key _ f1 λq hq4=>?_,λq hq4=>?_⟩
  ·by_cases c:q=p.q
   ·subst c;exact ⟨f4,f5⟩
   rw [f2 q hq4 c];exact Ul h.qW hq4
  by_cases c:q=p.q
  ·subst c;exact .inr ⟨p,rfl,rfl,f3⟩
  exact .inl (f2 q hq4 c)
def oF (b:bK):bK:=⟨1,b.ep,0,0,0,b.evs++[cO]⟩
theorem OC {s:Int} {f:Nat->bK}: ∀ {ql:List Nat} {rs:List dH} {g:Nat->bK} {d:List UInt8},ql.Nodup->(∀ q∈ql,q<4/\g q=f q)->iN rs g->(∀ q,q<4->aj (g q)=0)->(dh rs).length<=100000->eU s f ql (dh rs)=some d->
  ∃ ws,d=dh (rs++ws)/\iN (rs++ws) (λq=>if q∈ql/\(f q).role=1 then oF (f q) else g q)/\d.length<=100000/\ ∀ q∈ql,(f q).role=1->aj (oF (f q))=0/\fJ (f q)=(oF (f q),0)
 | [],rs,g,d,_,_,hT,hb,hl,h=>by
  cases h;exact ⟨[],by simp,by simpa using hT,hl,by simp⟩
 | q::r,rs,g,d,hnd,hq,hT,hb,hl,h=>by
  rw [eU] at h;obtain ⟨h1,h2⟩:=List.nodup_cons.1 hnd;obtain ⟨hq4,hgq⟩:=hq q iQ;by_cases c1:(f q).role≠1
  ·rw [if_pos c1] at h;obtain ⟨ws,e1,e2,e3,e4⟩:=OC h2 (λk hk=>hq k (by simp [hk])) hT hb hl h;refine ⟨ws,e1,e2.congr λk _=>?_,e3,λk hk hr=>?_⟩
   ·by_cases e:k=q
    ·subst e;rw [if_neg (λh=>c1 h.2),if_neg (λh=>c1 h.2)]
    simp [e]
   rcases List.mem_cons.1 hk with rfl | hk
   ·exact absurd hr c1
   exact e4 k hk hr
  rw [if_neg c1] at h;by_cases c2:(fJ (f q)).2≠0
  ·rw [if_pos c2] at h;cases h
  rw [if_neg c2] at h;have hr1:=Classical.not_not.1 c1;obtain ⟨k1,k2⟩:=Yf hr1 c2
  split at h
  ·cases h
  rename_i d' hw
  obtain ⟨w1,w2,w3⟩:=wP hw;have hd':d'=dh (rs++[fV 2 q (f q).ep 0 cO]):=by rw [w1,lN]
  have hbq:=hb q hq4;obtain ⟨a1,a2⟩:=Rw (b:=g q) (q:=q) (e:=cO) hbq (by rw [hgq];exact hr1) rfl hq4 dQ (by rw [hgq];exact (eH k1).2);rw [hgq] at a1 a2 hbq;have hs:=ig hbq;unfold bD at hs;have hx:({ f q with evs:=(f q).evs++[cO] }:bK)=oF (f q):=by
   unfold oF;simp only [bK.mk.injEq,and_true,true_and];omega
  rw [hx] at a1;have hT2:=hT.snoc (q:=q) a2 hq4 rfl (by rw [hgq];exact a1);rw [hd'] at h;obtain ⟨ws,e1,e2,e3,e4⟩:=OC h2 (g:=upd g q (oF (f q))) (λk hk=>⟨(hq k (by simp [hk])).1,by rw [upd_ne (λe:k=q=>h1 (e▸hk))];exact (hq k (by simp [hk])).2⟩) hT2
   (λk hk=>by
    by_cases e:k=q
    ·subst e;rw [upd_same];exact k1
    rw [upd_ne e];exact hb k hk) (by rw [<-hd'];exact w3 hl) h
  refine ⟨fV 2 q (f q).ep 0 cO::ws,by rw [e1,List.append_assoc];rfl,?_,e3,λk hk hr=>?_⟩
  ·rw [show rs++fV 2 q (f q).ep 0 cO::ws=rs++[fV 2 q (f q).ep 0 cO]++ws by rw [List.append_assoc];rfl];refine e2.congr λk _=>?_;by_cases e:k=q
   ·subst e;rw [if_neg (λh=>h1 h.1),upd_same,if_pos ⟨by simp,hr1⟩]
   rw [upd_ne e];simp [e]
  rcases List.mem_cons.1 hk with rfl | hk
  ·exact ⟨k1,k2⟩
  exact e4 k hk hr
end
section
variable {n q:Nat} {evs:List Ev} {an:List jo} {bs:Nat->bK}
structure tC (m m':Cl):Prop where
 au:m'.au=m.au
 off:m'.off=m.off
 fly:m'.fly=m.fly
 bF:m'.bF=m.bF
 calls:m'.calls=m.calls
theorem tC.refl (m:Cl):tC m m:=⟨rfl,rfl,rfl,rfl,rfl⟩
theorem tC.trans {a b c:Cl} (h:tC a b) (h':tC b c):tC a c:=⟨h'.au.trans h.au,h'.off.trans h.off,h'.fly.trans h.fly,h'.bF.trans h.bF,h'.calls.trans h.calls⟩
theorem NY (m:Cl) {e:Ev} {a:jo} {u:Int}:tC m (m.tell n q e a u):=⟨rfl,rfl,rfl,rfl,rfl⟩
theorem BH: ∀ (il:List Nat) (m:Cl),tC m (m.recovered n q evs an il)/\(m.recovered n q evs an il).aX.length=m.aX.length+il.length
 | [],m=>⟨.refl m,rfl⟩
 | i::r,m=>by
  obtain ⟨h1,h2⟩:=BH r (m.tell n q (evs.getD i aQ) (an.getD i iH) (-1));rw [Cl.recovered];refine ⟨(NY m).trans h1,?_⟩;rw [h2];unfold Cl.tell;simp only [List.length_append,List.length_cons,List.length_nil];omega
theorem Fu (m:Cl) (hl:((m.au n).bs q).evs.length<=2000):tC m (m.recover n q)/\(m.recover n q).aX.length<=m.aX.length+2000:=by
 unfold Cl.recover
 split
 ·exact ⟨NY m,by simp [Cl.tell]⟩
 obtain ⟨h1,h2⟩:=BH (n:=n) (q:=q) (evs:=((m.au n).bs q).evs) (an:=(aP ((m.au n).bs q).evs).2.1) ((List.range ((m.au n).bs q).evs.length).drop (m.shown n q).2.toNat) m;refine ⟨h1,?_⟩;rw [h2,List.length_drop,List.length_range];omega
structure RO (m m':Cl) (n:Nat) (bs:Nat->bK):Prop where
 au:m'.au=upd m.au n { m.au n with bs:=bs }
 off:m'.off=m.off
 fly:m'.fly=m.fly
 bF:m'.bF=m.bF
 calls:m'.calls=m.calls
theorem Dn: ∀ (ql:List Nat) (m:Cl),ql.Nodup->(∀ q∈ql,(m.au n).bs q=bs q/\(bs q).evs.length<=2000)->
  RO m (Cl.woken n bs ql m) n (λq=>if q∈ql/\(bs q).role=1 then (fJ (bs q)).1 else (m.au n).bs q)/\(Cl.woken n bs ql m).aX.length<=m.aX.length+2001*ql.length
 | [],m,_,_=>by
  refine ⟨⟨?_,rfl,rfl,rfl,rfl⟩,Nat.le_refl _⟩
  show m.au=_
  refine (aH ?_).symm;simp
 | q::r,m,hnd,hq=>by
  obtain ⟨h1,h2⟩:=List.nodup_cons.1 hnd;obtain ⟨hq1,hq2⟩:=hq q iQ;rw [Cl.woken];by_cases c:(bs q).role≠1
  ·rw [if_pos c];obtain ⟨g1,g2⟩:=Dn r m h2 λk hk=>hq k (by simp [hk]);refine ⟨⟨?_,g1.off,g1.fly,g1.bF,g1.calls⟩,by rw [List.length_cons];omega⟩;rw [g1.au];refine congrArg (λb=>upd m.au n { m.au n with bs:=b }) (funext λk=>?_);by_cases e:k=q
   ·subst e;rw [if_neg (λh=>c h.2),if_neg (λh=>c h.2)]
   simp [e]
  rw [if_neg c];obtain ⟨r1,r2⟩:=Fu (n:=n) (q:=q) m (by rw [hq1];exact hq2);have e1:((((m.recover n q).eO n q (fJ (bs q)).1).tell n q cO iH (-1)).au)=upd m.au n { m.au n with bs:=upd (m.au n).bs q (fJ (bs q)).1 }:=by
   show upd (m.recover n q).au n { (m.recover n q).au n with bs:=upd ((m.recover n q).au n).bs q (fJ (bs q)).1 }=_
   rw [r1.au]
  obtain ⟨g1,g2⟩:=Dn r (((m.recover n q).eO n q (fJ (bs q)).1).tell n q cO iH (-1)) h2 λk hk=>by
   rw [e1,upd_same];dsimp only;rw [upd_ne (λe:k=q=>h1 (e▸hk))];exact hq k (by simp [hk])
  refine ⟨⟨?_,g1.off.trans r1.off,g1.fly.trans r1.fly,g1.bF.trans r1.bF,g1.calls.trans r1.calls⟩,?_⟩
  ·rw [g1.au,e1,IU,upd_same];refine congrArg (λb=>upd m.au n { m.au n with bs:=b }) (funext λk=>?_)
   show (if k∈r/\(bs k).role=1 then (fJ (bs k)).1 else upd (m.au n).bs q (fJ (bs q)).1 k)=if k∈q::r/\(bs k).role=1 then (fJ (bs k)).1 else (m.au n).bs k
   by_cases e:k=q
   ·subst e;rw [if_neg (λh=>h1 h.1),upd_same,if_pos ⟨by simp,Classical.not_not.1 c⟩]
   rw [upd_ne e];simp [e]
  have:(((m.recover n q).eO n q (fJ (bs q)).1).tell n q cO iH (-1)).aX.length=(m.recover n q).aX.length+1:=by
   unfold Cl.tell;simp [Cl.eO,Cl.put]
  rw [this] at g2;rw [List.length_cons];omega
end
def Src (b:bK) (l:iO):fO->Prop
 | .serve _ _ op num a=>l.kd=0/\op=l.op/\num=l.num/\a=(jS (aP b.evs).1 l.op).2.1/\l.op.kind≠4/\b.evs.length<1999
 | .begun _ x=>l.kd=2/\x=⟨4,l.ep,l.fr,0,0,[]⟩
 | .got _ x last=>l.kd=4/\b.fr=l.fr/\b.ep=l.ep/\0<=l.at_/\l.at_<=b.evs.length/\(b.evs.drop l.at_.toNat).take l.evs.length=l.evs.take (b.evs.length-l.at_.toNat)/\b.evs.length<=l.at_.toNat+l.evs.length/\last=l.last/\x=zC b l.at_ l.evs l.last
 | .jU _ _ a=>l.kd=3/\b.tg=l.fr/\b.ep+1=l.ep/\a=l.at_/\0<=l.at_/\l.at_<=b.evs.length
 | .forget _ _=>l.kd=6/\b.ep<l.ep
inductive Hnd (m:Cl) (n:Nat) (l:iO):Cl->Prop
 | same:Hnd m n l m
 | done (a:jo):l.kd=0->((iK ((m.au n).bs l.q) l.op).2.2.1=false/\a=(iK ((m.au n).bs l.q) l.op).2.1\/
   a=rV 14/\serves ((m.au n).bs l.q)/\bL l.op=0/\fG (m.au n).data (m.au n).syn [fV 2 l.q ((m.au n).bs l.q).ep 0 l.op]=none/\good (((m.au n).bs l.q).evs++[l.op]))->Hnd m n l (m.done n l.q l.op l.num a)
 | have_:((m.au n).bs l.q).role=4->Hnd m n l (m.have_ n l.q)
 | part (b:bK):l.kd=3->0<=l.at_->l.at_<=((m.au n).bs l.q).evs.length->(((m.au n).bs l.q).role=2/\b={ (m.au n).bs l.q with rd:=((m.au n).bs l.q).rd+1 }/\((m.au n).bs l.q).rd≠4\/((m.au n).bs l.q).role=3/\b=(m.au n).bs l.q)->
   ((m.au n).bs l.q).tg=l.fr->aj b=0->Hnd m n l ((m.eO n l.q b).part n l.q l.at_)
 | pend (p:fO) (Y:Nd) (d:List UInt8):(Y=m.au n\/l.kd=6/\Y=(m.au n).hear n l)->p.q=l.q->p.ok (m.au n).bs->fG (m.au n).data (m.au n).syn (p.rs (m.au n).bs)=some d->Src ((m.au n).bs l.q) l p->Hnd m n l (m.put n { Y with data:=d,pend:=some p })
 | hear:l.kd=6->Hnd m n l (m.put n ((m.au n).hear n l))
section
variable {m:Cl} {n:Nat} {l:iO}
theorem ru {X x:Nd} {rs:List dH} (h:X.write rs=some x): ∃ d,fG X.data X.syn rs=some d/\x={ X with data:=d }:=by
 unfold Nd.write at h;rw [Option.map_eq_some_iff] at h;obtain ⟨d,h1,h2⟩:=h;exact ⟨d,h1,h2.symm⟩
theorem WY {X:Nd} {rs:List dH} (h:X.write rs=none):fG X.data X.syn rs=none:=by
 unfold Nd.write at h;rwa [Option.map_eq_none_iff] at h
theorem WZ {b:bK} {e:Ev} (h:aj b=0) (hl:b.evs.length<1999) (hd:(jS (aP b.evs).1 e).2.2.1=true):good (b.evs++[e]):=aae (jB h) oQ (ajj hd) hd
theorem abh (hk:l.kd=0):Hnd m n l (m.serve n l):=by
 unfold Cl.serve
 split
 ·rename_i h
  exact .done _ hk (.inl ⟨h,rfl⟩)
 rename_i h
 obtain ⟨h1,h2,h3,h4,h5,h6,h7⟩:=WS h;have hg:=WZ h1 h5 h4;rw [h7]
 split
 ·rename_i hw
  exact .done _ hk (.inr ⟨rfl,h3,h2,WY hw,hg⟩)
 rename_i x hw
 obtain ⟨d,hd,rfl⟩:=ru hw;exact .pend (.serve l.q (((m.au n).bs l.q).evs++[l.op]) l.op l.num (jS (aP ((m.au n).bs l.q).evs).1 l.op).2.1) (m.au n) d (.inl rfl) rfl ⟨h3,rfl,h2,hg⟩ hd ⟨hk,rfl,rfl,rfl,h6,h5⟩
theorem TG (hk:l.kd=2):Hnd m n l (m.offered n l):=by
 unfold Cl.offered
 split
 ·exact .same
 rename_i h
 split
 ·rename_i h2
  exact .have_ (WT h h2).1
 rename_i h2
 obtain ⟨h3,h4,h5,h6,h7,h8,h9⟩:=afi h h2;rw [h9]
 split
 ·exact .same
 rename_i x hw
 obtain ⟨d,hd,rfl⟩:=ru hw;exact .pend (.begun l.q ⟨4,l.ep,l.fr,0,0,[]⟩) (m.au n) d (.inl rfl) rfl ⟨h3,l.ep,l.fr,rfl,h4,h5,h6,h7,h8⟩ hd ⟨hk,rfl⟩
theorem W9 (hb:aj ((m.au n).bs l.q)=0) (hk:l.kd=3):Hnd m n l (m.caught n l):=by
 unfold Cl.caught
 split
 ·exact .same
 rename_i h0
 split
 ·exact .same
 rename_i h
 obtain ⟨h1,h2,h3⟩:=P6 h;have xO:((m.au n).bs l.q).tg=l.fr:=by
  by_cases e:((m.au n).bs l.q).tg=l.fr
  ·exact e
  exact absurd (.inl e) h0
 have iC:((m.au n).bs l.q).ep+1=l.ep:=by
  by_cases e:((m.au n).bs l.q).ep+1=l.ep
  ·exact e
  exact absurd (.inr e) h0
 have hcg:=G6 hb (Classical.not_not.1 h)
 rcases h3 with ⟨h4,h5⟩ | ⟨h4,h6,h5⟩ | ⟨h4,h6,h5⟩
 ·rw [h5] at hcg⊢;rw [if_pos rfl];exact .part _ hk h1 h2 (.inr ⟨h4,rfl⟩) xO hcg
 ·rw [h5,if_neg (by show ¬ (3:Int)=_;omega)]
  split
  ·exact .same
  rename_i x hw
  obtain ⟨d,hd,rfl⟩:=ru hw;exact .pend (.jU l.q { (m.au n).bs l.q with role:=3,rd:=0 } l.at_) (m.au n) d (.inl rfl) rfl ⟨h4,rfl⟩ hd ⟨hk,xO,iC,rfl,h1,h2⟩
 rw [h5] at hcg⊢;rw [if_pos rfl];exact .part _ hk h1 h2 (.inl ⟨h4,rfl,λe=>h6 (.inr e)⟩) xO hcg
theorem NZ {b:bK} {at_:Int} {l:List Ev}:b.evs=(NK b at_ l).take b.evs.length:=by unfold NK;rw [List.take_left]
theorem afs {b:bK} {at_:Int} {l:List Ev} (h0:0<=at_) (h1:at_<=b.evs.length) (h:b.evs.length<=at_.toNat+l.length):(NK b at_ l).length=at_.toNat+l.length:=by
 unfold NK;rw [List.length_append,List.length_drop];omega
theorem ajq (hk:l.kd=4):Hnd m n l (m.got n l):=by
 unfold Cl.got
 split
 ·exact .same
 rename_i h0
 have hr:((m.au n).bs l.q).role=4:=by
  by_cases e:((m.au n).bs l.q).role=4
  ·exact e
  exact absurd (.inl e) h0
 have hfr:((m.au n).bs l.q).fr=l.fr:=by
  by_cases e:((m.au n).bs l.q).fr=l.fr
  ·exact e
  exact absurd (.inr e) h0
 split
 ·exact .have_ hr
 split
 ·exact .same
 rename_i h2 h3
 have h: ¬ (dw ((m.au n).bs l.q) l.ep l.at_ l.evs l.last).2≠0:=λe=>h3 (.inl e);have hne: ¬ (dw ((m.au n).bs l.q) l.ep l.at_ l.evs l.last).1.evs.length=((m.au n).bs l.q).evs.length:=λe=>h3 (.inr e);obtain ⟨g1,g2,g3,g4,g5,g6,g7,g8⟩:=aaS h;rw [g8] at hne⊢;have hlen:((m.au n).bs l.q).evs.length<=l.at_.toNat+l.evs.length:=by
  cases hl:l.last with
  | true=>exact g6 hl
  | false=>
   unfold zC NK at hne;rw [if_neg (by rw [hl];simp)] at hne;dsimp only at hne;rw [List.length_append,List.length_drop] at hne;omega
 have hil:=afs g3 g4 hlen;have hgd:=jB g7;have hrs:(fO.got l.q (zC ((m.au n).bs l.q) l.at_ l.evs l.last) l.last).rs (m.au n).bs=uy l.q (zC ((m.au n).bs l.q) l.at_ l.evs l.last) ((m.au n).bs l.q).evs.length (l.at_.toNat+l.evs.length) l.last:=by
  show uy _ _ _ _ _=_
  congr 1
  unfold zC
  cases l.last with
  | true=>simp only [if_true,List.length_append,List.length_singleton];omega
  | false=>simp only [Bool.false_eq_true,if_false];omega
 split
 ·exact .same
 rename_i x hw
 obtain ⟨d,hd,rfl⟩:=ru hw;refine .pend (.got l.q (zC ((m.au n).bs l.q) l.at_ l.evs l.last) l.last) (m.au n) d (.inl rfl) rfl ⟨hr,hgd,J2 rfl hgd,λhl=>?_,λhl=>?_⟩ (by rw [hrs];exact hd) ⟨hk,hfr,g2,g3,g4,g5,hlen,rfl,rfl⟩
 ·unfold zC;rw [hl,if_neg iQ];exact ⟨rfl,NZ⟩
 refine ⟨NK ((m.au n).bs l.q) l.at_ l.evs,?_,NZ⟩;unfold zC;rw [if_pos hl]
theorem Xa (hk:l.kd=6):Hnd m n l (m.learnt n l):=by
 unfold Cl.learnt
 split
 ·exact .hear hk
 rename_i h
 obtain ⟨h1,h2,h3⟩:=aaT h;rw [h3]
 split
 ·exact .hear hk
 rename_i x hw
 obtain ⟨d,hd,rfl⟩:=ru hw;exact .pend (.forget l.q ⟨0,((m.au n).bs l.q).ep,0,0,0,[]⟩) ((m.au n).hear n l) d (.inr ⟨hk,rfl⟩) rfl ⟨h1,rfl⟩ hd ⟨hk,h2⟩
theorem hnd (hb: ∀ q,q<4->aj ((m.au n).bs q)=0) (hl:l.ok):Hnd m n l (m.handle n l):=by
 obtain ⟨h1,h2,h3⟩:=hl;unfold Cl.handle
 rcases h3 with h | h | h | h | h
 ·rw [if_pos h];exact abh h
 ·rw [if_neg oQ,if_pos h];exact TG h
 ·rw [if_neg oQ,if_neg oQ,if_pos h];exact W9 (hb _ h1) h
 ·rw [if_neg oQ,if_neg oQ,if_neg oQ,if_pos h];exact ajq h
 rw [if_neg oQ,if_neg oQ,if_neg oQ,if_neg oQ];exact Xa h
end
structure abj (a:Ac):Prop where
 kd:1<=a.kd/\a.kd<=10
 nd:0<=a.nd/\a.nd<=4
 qu:0<=a.qu/\a.qu<=3
 at_:0<=a.at_/\a.at_<=1048576
 kp:0<=a.kp/\a.kp<=100000
 op:a.kd=2->bL a.op=0/\a.op.kind≠4
theorem akV {x:Ac} (h:aN x=0):abj x:=by
 cases hf:aW x.kd x.ek with
 | none=>rw [Ow hf] at h;cases h
 | some l=>
  by_cases ha:l.all (FL x)=true
  ·by_cases hz:fin x l=zeros
   ·have hk:=Xz ((QH hf).2 hz);clear h hz;obtain ⟨kd,nd,qu,at_,kp,ek,ep,ei,eb,eh,en⟩:=x
    rcases kinds kd ek with rfl | rfl | rfl | rfl | rfl | rfl | rfl | rfl | rfl | ⟨rfl,rfl⟩ | ⟨rfl,rfl⟩ | ⟨rfl,rfl⟩ | hn
    all_goals first
     | (dsimp only at hf;rw [hn] at hf;cases hf;done)
     | (simp [aW] at hf;subst hf;simp [keep] at hk;simp [FL,Ac.get,Ac.ints] at ha;exact ⟨by dsimp only;omega,by dsimp only;omega,by dsimp only;omega,by dsimp only;omega,by dsimp only;omega,by (intro hk2;first | (simp at hk2;done) | (refine ⟨?_,by simp [Ac.op]⟩;simp [Ac.op,bL,kC,hk,ha]))⟩)
   rw [Ic hf ha hz] at h;cases h
  rw [zF hf ha] at h;cases h
def oG (l:iO):Prop:=l.q<4/\l.evs.length<=3/\(l.tg= -1\/(l.tg= -2/\0<=l.fr/\l.fr<5/\l.kd=5)\/(0<=l.tg/\l.tg<5/\(l.kd=0\/l.kd=2\/l.kd=3\/l.kd=4\/l.kd=6)))/\(l.kd=0->bL l.op=0/\l.op.kind≠4)
theorem nk {k:Int} {P:Prop} (h:k≠0):k=0->P:=λe=>absurd e h
theorem oG.ok {l:iO} (h:oG l) (ht:0<=l.tg):l.ok:=by
 obtain ⟨h1,h2,h3 | h3 | h3,_⟩:=h
 ·omega
 ·omega
 exact ⟨h1,by omega,h3.2.2⟩
section
variable {n q:Nat} {b:bK} {u:Int} {a:jo} {p:Pl}
theorem J5:oG (pG n u a p):=⟨by show 0<4;omega,by show 0<=3;omega,.inl rfl,nk (by show (1:Int)≠0;decide)⟩
theorem OD (hq:q<4) (hr:b.role=4) (hb:aj b=0):oG (Ay n q b):=by
 have hs:=ig hb;unfold bD at hs;refine ⟨hq,by show 0<=3;omega,.inr (.inr ⟨by show 0<=b.fr;omega,by show b.fr<5;omega,.inr (.inr (.inl rfl))⟩),nk (by show (3:Int)≠0;decide)⟩
theorem akW (hr:b.role=2\/b.role=3) (hb:aj b=0):0<=b.tg/\b.tg<5:=by
 have hs:=ig hb;unfold bD at hs;omega
theorem ajr {at_:Int} (hq:q<4) (hb:aj b=0) (h: ¬ (jD b at_).2.2≠0):oG (UR n q b at_):=by
 obtain ⟨h1,h2,h3,h4⟩:=aaU h;obtain ⟨h5,h6⟩:=akW h1 hb;refine ⟨hq,?_,.inr (.inr ⟨h5,h6,.inr (.inr (.inr (.inl rfl)))⟩),nk (by show (4:Int)≠0;decide)⟩
 show (jD b at_).1.length<=3
 rw [h4];dsimp only;rw [List.length_take];omega
theorem aft (hq:q<4) (hr:b.role=2\/b.role=3) (hb:aj b=0):oG (Cg n q b):=by
 obtain ⟨h5,h6⟩:=akW hr hb;exact ⟨hq,by show 0<=3;omega,.inr (.inr ⟨h5,h6,.inr (.inl rfl)⟩),nk (by show (2:Int)≠0;decide)⟩
theorem apu (hq:q<4) (hn:n<5):oG (aac n q):=⟨hq,by show 0<=3;omega,.inr (.inl ⟨rfl,by show 0<=(n:Int);omega,by show (n:Int)<5;omega,rfl⟩),nk (by show (5:Int)≠0;decide)⟩
theorem ajs (hq:q<4) (hn:n<5):oG (UU n q b):=⟨hq,by show 0<=3;omega,.inr (.inl ⟨rfl,by show 0<=(n:Int);omega,by show (n:Int)<5;omega,rfl⟩),nk (by show (5:Int)≠0;decide)⟩
theorem ajt {s:Bool} (hq:q<4) (hn:n<5) (hb:aj b=0):(∀ l∈mD n q b s,oG l)/\(mD n q b s).length<=3:=by
 unfold mD;refine ⟨λl hl=>?_,?_⟩
 ·rcases List.mem_append.1 hl with hl | hl
  ·rcases List.mem_append.1 hl with hl | hl
   ·split at hl
    ·rename_i hr;rw [List.mem_singleton] at hl;subst hl;exact aft hq hr hb
    simp at hl
   split at hl
   ·rw [List.mem_singleton] at hl;subst hl;exact apu hq hn
   simp at hl
  split at hl
  ·rw [List.mem_singleton] at hl;subst hl;exact ajs hq hn
  simp at hl
 rw [List.length_append,List.length_append]
 split<;>split<;>split<;>simp
end
def Cl.tot (m:Cl):Nat:=m.fly.length+((m.au 0).inbox.length+((m.au 1).inbox.length+((m.au 2).inbox.length+((m.au 3).inbox.length+(m.au 4).inbox.length))))
theorem five {n:Nat} (hn:n<5):n=0\/n=1\/n=2\/n=3\/n=4:=oQ
theorem apv {m m':Cl} {n d:Nat} (hn:n<5) (ho: ∀ j,j≠n->m'.au j=m.au j) (h:m'.fly.length+(m'.au n).inbox.length<=m.fly.length+(m.au n).inbox.length+d):m'.tot<=m.tot+d:=by
 unfold Cl.tot
 rcases five hn with rfl | rfl | rfl | rfl | rfl
 ·rw [ho 1 dQ,ho 2 dQ,ho 3 dQ,ho 4 dQ];omega
 ·rw [ho 0 dQ,ho 2 dQ,ho 3 dQ,ho 4 dQ];omega
 ·rw [ho 0 dQ,ho 1 dQ,ho 3 dQ,ho 4 dQ];omega
 ·rw [ho 0 dQ,ho 1 dQ,ho 2 dQ,ho 4 dQ];omega
 rw [ho 0 dQ,ho 1 dQ,ho 2 dQ,ho 3 dQ];omega
theorem RP {l:iO} {n:Nat} (h:oG l/\l.tg=n):l.ok:=h.1.ok (by rw [h.2];omega)
theorem N7 (m:Cl) {n:Nat} (hn:n<5):m.fly.length+(m.au n).inbox.length<=m.tot:=by
 unfold Cl.tot
 rcases five hn with rfl | rfl | rfl | rfl | rfl<;>omega
structure gu (m:Cl) (T S D K:Nat):Prop where
 mJ: ∀ n,n<5->Gg (m.au n)
 F4: ∀ l∈m.fly,oG l
 u7: ∀ n,n<5-> ∀ l∈(m.au n).inbox,oG l/\l.tg=n
 room:m.tot<=T
 aX:m.aX.length<=S
 bF:m.bF.length<=D
 turn: ∀ n,n<5->(m.au n).turn<=K
 calls:m.calls<=K
theorem gu.mono {m:Cl} {T S D K T' S' D' K':Nat} (h:gu m T S D K) (h1:T<=T') (h2:S<=S') (h3:D<=D') (h4:K<=K'):gu m T' S' D' K':=
 ⟨h.mJ,h.F4,h.u7,Nat.le_trans h.room h1,Nat.le_trans h.aX h2,Nat.le_trans h.bF h3,λn hn=>Nat.le_trans (h.turn n hn) h4,Nat.le_trans h.calls h4⟩
section
variable {m m':Cl} {n:Nat} {l:iO} {rs:List dH} {T S D K:Nat}
theorem gu.at_ (h:gu m T S D K) (hn:n<5) (ho: ∀ j,j≠n->m'.au j=m.au j) (hk:Gg (m'.au n)) (hl: ∀ l∈m'.fly,l∈m.fly\/oG l) (hi: ∀ l∈(m'.au n).inbox,l∈(m.au n).inbox\/(oG l/\l.tg=n))
  {c s d u:Nat} (h1:m'.fly.length+(m'.au n).inbox.length<=m.fly.length+(m.au n).inbox.length+c) (h2:m'.aX.length<=m.aX.length+s) (h3:m'.bF.length<=m.bF.length+d) (h4:(m'.au n).turn<=(m.au n).turn+u) (h5:m'.calls<=m.calls+u):gu m' (T+c) (S+s) (D+d) (K+u):=by
 refine ⟨λj hj=>?_,λl hl'=>(hl l hl').elim (h.F4 l) id,λj hj=>?_,?_,?_,?_,λj hj=>?_,?_⟩
 ·by_cases e:j=n
  ·subst e;exact hk
  rw [ho j e];exact h.mJ j hj
 ·by_cases e:j=n
  ·subst e;exact λl hl'=>(hi l hl').elim (h.u7 j hj l) id
  rw [ho j e];exact h.u7 j hj
 ·have:=apv hn ho h1;have:=h.room;omega
 ·have:=h.aX;omega
 ·have:=h.bF;omega
 ·by_cases e:j=n
  ·subst e;have:=h.turn j hj;omega
  rw [ho j e];have:=h.turn j hj;omega
 have:=h.calls;omega
structure Keep (m m':Cl):Prop where
 bF:m'.bF=m.bF
 calls:m'.calls=m.calls
 off:m'.off=m.off
theorem Keep.refl (m:Cl):Keep m m:=⟨rfl,rfl,rfl⟩
theorem Keep.trans {a b c:Cl} (h:Keep a b) (h':Keep b c):Keep a c:=⟨h'.bF.trans h.bF,h'.calls.trans h.calls,h'.off.trans h.off⟩
theorem abk {q:Nat} {op:Ev} {u:Int} {a:jo}:Keep m (m.done n q op u a)/\(m.done n q op u a).au=m.au/\ ∃ l,oG l/\(m.done n q op u a).fly=m.fly++[l]:=by
 unfold Cl.done
 split
 ·exact ⟨⟨rfl,rfl,rfl⟩,rfl,_,J5,rfl⟩
 exact ⟨⟨rfl,rfl,rfl⟩,rfl,_,J5,rfl⟩
theorem abl {q:Nat} {a:Int}:Keep m (m.part n q a)/\(m.part n q a).au=m.au/\(m.part n q a).fly=uF n q ((m.au n).bs q) a m.fly:=by
 unfold Cl.part uF
 split
 ·exact ⟨⟨rfl,rfl,rfl⟩,rfl,rfl⟩
 exact ⟨⟨rfl,rfl,rfl⟩,rfl,rfl⟩
theorem N8 {q:Nat} {b:bK} {a:Int} {fl:List iO} (hq:q<4) (hb:aj b=0): ∀ l∈uF n q b a fl,l∈fl\/oG l:=λl hl=>by
 unfold uF at hl
 split at hl
 ·exact .inl hl
 rename_i h
 rcases List.mem_append.1 hl with hl | hl
 ·exact .inl hl
 rw [List.mem_singleton] at hl;subst hl;exact .inr (ajr hq hb h)
theorem abm {q:Nat} {b:bK} {a:Int} {fl:List iO}:(uF n q b a fl).length<=fl.length+1:=by
 unfold uF
 split
 ·omega
 simp
theorem zY {fl:List iO} {x:iO} (hx:oG x): ∀ l∈fl++[x],l∈fl\/oG l:=λl hl=>by
 rcases List.mem_append.1 hl with hl | hl
 ·exact .inl hl
 rw [List.mem_singleton] at hl;subst hl;exact .inr hx
theorem apw (hq:l.q<4) (h:vW (m.au n) rs []) (hp:(m.au n).pend=none) (H:Hnd m n l m'):(∃ us,vW (m'.au n) rs us)/\(∀ x∈m'.fly,x∈m.fly\/oG x)/\Keep m m':=by
 cases H with
 | same=>exact ⟨⟨_,h⟩,λx hx=> .inl hx,.refl m⟩
 | done a h1 h2=>
  obtain ⟨h3,h4,l',h5,h6⟩:=abk (m:=m) (n:=n) (q:=l.q) (op:=l.op) (u:=l.num) (a:=a);exact ⟨⟨[],by rw [h4];exact h⟩,by rw [h6];exact zY h5,h3⟩
 | have_ h1=>exact ⟨⟨[],h⟩,zY (OD hq h1 (h.qW _ hq)),⟨rfl,rfl,rfl⟩⟩
 | part b h1 h2 h3 h4 h5 h6=>
  obtain ⟨g1,g2,g3⟩:=abl (m:=m.eO n l.q b) (n:=n) (q:=l.q) (a:=l.at_);have e:(m.eO n l.q b).au n=(m.au n).eO l.q b:=iw _;refine ⟨⟨[],?_⟩,?_,?_⟩
  ·rw [g2,e];refine ⟨h.data,h.syn,h.tape.congr λk hk=>?_,λk hk=>?_,h.pnn,λp hp'=>?_,h.len⟩
   ·show mE ((m.au n).bs k)=mE (upd (m.au n).bs l.q b k)
    by_cases e:k=l.q
    ·rw [e,upd_same]
     rcases h4 with ⟨h4,h7,_⟩ | ⟨_,h7⟩
     ·rw [h7];unfold mE;rw [if_pos h4,if_pos h4]
     rw [h7]
    rw [upd_ne e]
   ·show aj (upd (m.au n).bs l.q b k)=0
    by_cases e:k=l.q
    ·rw [e,upd_same];exact h6
    rw [upd_ne e];exact h.qW k hk
   exact absurd (hp'.symm.trans hp) iQ
  ·rw [g3,e,show ((m.au n).eO l.q b).bs l.q=b from upd_same _ _ _];exact N8 hq h6
  exact (⟨rfl,rfl,rfl⟩:Keep m (m.eO n l.q b)).trans g1
 | pend p Y d h1 h2 h3 h4 h5=>
  obtain ⟨w1,w2,w3⟩:=wP h4;have hY:Y.bs=(m.au n).bs/\Y.syn=(m.au n).syn:=by rcases h1 with h1 | ⟨_,h1⟩<;>rw [h1]<;>exact ⟨rfl,rfl⟩
  refine ⟨⟨p.rs (m.au n).bs,?_⟩,λx hx=> .inl hx,⟨rfl,rfl,rfl⟩⟩;rw [iw];refine ⟨?_,hY.2.trans h.syn,?_,?_,λe=>(by cases e),λp' e=>?_,w3 h.len⟩
  ·show d=_;rw [w1,h.data,List.append_nil,lN]
  ·dsimp only;rw [hY.1];exact h.tape
  ·dsimp only;rw [hY.1];exact h.qW
  cases e;dsimp only;rw [hY.1];exact ⟨rfl,h3,by rw [h2];exact hq⟩
 | hear h1=>
  refine ⟨⟨[],?_⟩,λx hx=> .inl hx,⟨rfl,rfl,rfl⟩⟩;rw [iw];exact ⟨h.data,h.syn,h.tape,h.qW,h.pnn,h.pns,h.len⟩
theorem afu {n:Nat} (P:Cl->Prop) (hstep: ∀ m l r,P m->(m.au n).pend=none->(m.au n).inbox=l::r->l.q<4/\P ((m.put n ((m.au n).box r)).handle n l)): ∀ (k:Nat) (m:Cl),(m.au n).inbox.length=k->P m->P (m.more n):=by
 intro k
 induction k with
 | zero=>
  intro m hk h;rw [RI (List.length_eq_zero_iff.1 hk)];exact h
 | succ k ih=>
  intro m hk h
  cases hp:(m.au n).pend with
  | some p=>rw [Gi (by rw [hp];simp)];exact h
  | none=>
   cases hi:(m.au n).inbox with
   | nil=>rw [hi] at hk;simp at hk
   | cons l r=>
    obtain ⟨hq,h2⟩:=hstep m l r h hp hi;rw [NP hp hi hq];have e:=(yA (m:=m.put n ((m.au n).box r)) (n:=n) (l:=l) hq).u7;have e2:((m.put n ((m.au n).box r)).au n).inbox=r:=by rw [iw];rfl
    exact ih _ (by rw [e,e2];rw [hi] at hk;simpa using hk) h2
structure Rdg (m0:Cl) (n:Nat) (rs:List dH) (m:Cl):Prop where
 up:(m.au n).up=true
 tape: ∃ us,vW (m.au n) rs us
 PE: ∀ j,j≠n->m.au j=m0.au j
 F4: ∀ l∈m.fly,l∈m0.fly\/oG l
 u7: ∀ l∈(m.au n).inbox,l∈(m0.au n).inbox
 cnt:m.fly.length+(m.au n).inbox.length<=m0.fly.length+(m0.au n).inbox.length
 aX:m.aX.length+(m.au n).inbox.length<=m0.aX.length+(m0.au n).inbox.length
 keep:Keep m0 m
 trn:(m.au n).turn=(m0.au n).turn
theorem adF {X:Nd} {r:List iO} {us:List dH} (h:vW X rs us):vW (X.box r) rs us:=⟨h.data,h.syn,h.tape,h.qW,h.pnn,h.pns,h.len⟩
theorem afv {m1:Cl} {r:List iO} (hi: ∀ l∈(m.au n).inbox,l.ok) (H:Rdg m n rs m1) (hp:(m1.au n).pend=none) (hin:(m1.au n).inbox=l::r):
  l.ok/\vW ((m1.put n ((m1.au n).box r)).au n) rs []/\Hnd (m1.put n ((m1.au n).box r)) n l ((m1.put n ((m1.au n).box r)).handle n l)/\Rdg m n rs ((m1.put n ((m1.au n).box r)).handle n l):=by
 have hl:l∈(m1.au n).inbox:=by rw [hin];simp
 have hok:=hi l (H.u7 l hl);obtain ⟨us,hU⟩:=H.tape;have hus:=hU.pnn hp;subst hus;have hq:=hok.1;have e0:(m1.put n ((m1.au n).box r)).au n=(m1.au n).box r:=iw _;have Qc:vW ((m1.put n ((m1.au n).box r)).au n) rs []:=by rw [e0];exact adF hU
 have hH:=hnd Qc.qW hok;refine ⟨hok,Qc,hH,?_⟩;have E:=yA (m:=m1.put n ((m1.au n).box r)) (n:=n) (l:=l) hq;obtain ⟨g1,g2,g3⟩:=apw hq Qc (by rw [e0];exact hp) hH;have ei:=E.u7;rw [e0] at ei;have e1:(m1.put n ((m1.au n).box r)).fly=m1.fly:=rfl;have e2:(m1.put n ((m1.au n).box r)).aX=m1.aX:=rfl;have e3:((m1.au n).box r).inbox=r:=rfl;have c1:=H.cnt;have c2:=H.aX;have c3:=E.fly;have c4:=E.aX;rw [hin,List.length_cons] at c1 c2;rw [e1] at c3;rw [e2] at c4;refine ⟨by rw [E.up,e0];exact H.up,g1,λj hj=>?_,λx hx=>(g2 x hx).elim (H.F4 x) .inr,λx hx=>?_,?_,?_,H.keep.trans ((⟨rfl,rfl,rfl⟩:Keep m1 (m1.put n ((m1.au n).box r))).trans g3),by rw [E.trn,e0];exact H.trn⟩
 ·rw [E.PE j hj]
  show upd m1.au n _ j=_
  rw [upd_ne hj];exact H.PE j hj
 ·rw [ei,e3] at hx;exact H.u7 x (by rw [hin];simp [hx])
 ·rw [ei,e3];omega
 rw [ei,e3];omega
theorem auD (hu:(m.au n).up=true) (h: ∃ us,vW (m.au n) rs us):Rdg m n rs m:=⟨hu,h,λ_ _=>rfl,λ_ h=> .inl h,λ_ h=>h,Nat.le_refl _,Nat.le_refl _,.refl m,rfl⟩
theorem afw (hu:(m.au n).up=true) (h: ∃ us,vW (m.au n) rs us) (hi: ∀ l∈(m.au n).inbox,l.ok):Rdg m n rs (m.more n):=
 afu (n:=n) (Rdg m n rs) (λ_ _ _ H hp hin=>by obtain ⟨h1,_,_,h4⟩:=afv hi H hp hin;exact ⟨h1.1,h4⟩) _ m rfl (auD hu h)
theorem apy {X:Nd} {p:fO} (hX:m.au n=X) (hu:X.up=true) (hp:X.pend=some p) (hq:p.q<4) (hf:aj (p.b X.bs)=0) (hpo:p.ok X.bs):
  ∃ Y:Nd,(m.step n).au=upd m.au n Y/\Y.bs=upd X.bs p.q (p.b X.bs)/\Y.data=X.data/\Y.syn=X.data.length/\Y.pend=none/\Y.up=true/\Y.inbox=X.inbox/\Y.turn=X.turn/\Keep m (m.step n)/\
   (∀ l∈(m.step n).fly,l∈m.fly\/oG l)/\(m.step n).fly.length<=m.fly.length+1/\(m.step n).aX.length<=m.aX.length+1:=by
 cases p with
 | serve q evs op num a=>
  rw [BD hX hu hp rfl hpo.1];exact ⟨_,rfl,rfl,rfl,rfl,rfl,hu,rfl,rfl,⟨rfl,rfl,rfl⟩,zY J5,by simp,by simp⟩
 | begun q b=>
  rw [KN hX hu hp];obtain ⟨_,e,f,rfl,_⟩:=hpo;exact ⟨_,rfl,rfl,rfl,rfl,rfl,hu,rfl,rfl,⟨rfl,rfl,rfl⟩,zY (OD hq rfl hf),by simp,by simp [Cl.put]⟩
 | got q b last=>
  cases last with
  | true=>
   rw [Da hX hu hp];exact ⟨_,rfl,rfl,rfl,rfl,rfl,hu,rfl,rfl,⟨rfl,rfl,rfl⟩,λl hl=> .inl hl,by simp [Cl.put],by simp⟩
  | false=>
   rw [RJ hX hu hp];have hr:b.role=4:=by
    have:=(hpo.2.2.2.1 rfl).1;rw [this];exact hpo.1
   exact ⟨_,rfl,rfl,rfl,rfl,rfl,hu,rfl,rfl,⟨rfl,rfl,rfl⟩,zY (OD hq hr hf),by simp,by simp [Cl.put]⟩
 | jU q b at_=>
  rw [NR hX hu hp];exact ⟨_,rfl,rfl,rfl,rfl,rfl,hu,rfl,rfl,⟨rfl,rfl,rfl⟩,N8 hq hf,abm,by simp [Cl.put]⟩
 | forget q b=>
  rw [G7 hX hu hp];exact ⟨_,rfl,rfl,rfl,rfl,rfl,hu,rfl,rfl,⟨rfl,rfl,rfl⟩,λl hl=> .inl hl,by simp [Cl.put],by simp [Cl.put]⟩
theorem abn {X Y:Nd} {p:fO} {us:List dH} (h:vW X rs us) (hp:X.pend=some p) (hb:Y.bs=upd X.bs p.q (p.b X.bs)) (hd:Y.data=X.data) (hs:Y.syn=X.data.length) (hn:Y.pend=none):vW Y (rs++us) []:=by
 obtain ⟨hu,hpo,hq⟩:=h.pns p hp;obtain ⟨h1,h2⟩:=xA h.tape h.qW hpo hq;refine ⟨by rw [hd,h.data,List.append_nil],by rw [hs,h.data],?_,λk hk=>?_,λ_=>rfl,λp' e=>(by rw [hn] at e;cases e),by rw [hd];exact h.len⟩
 ·rw [hb,hu];exact h1
 rw [hb];by_cases e:k=p.q
 ·rw [e,upd_same];exact h2
 rw [upd_ne e];exact h.qW k hk
theorem abo (h:gu m T S D K) (hn:n<5):gu (m.step n) (T+3) (S+T+1) D (K+1):=by
 cases hu:(m.au n).up with
 | false=>rw [NQ hu];exact h.mono oQ oQ oQ oQ
 | true=>
  obtain ⟨rs,us,hU⟩:=(h.mJ n hn).aaX hu;have hT:=N7 m hn;have hT2:=h.room
  cases hp:(m.au n).pend with
  | some p=>
   obtain ⟨h1,h2,h3⟩:=hU.pns p hp;obtain ⟨_,hf⟩:=xA hU.tape hU.qW h2 h3;obtain ⟨Y,y1,y2,y3,y4,y5,y6,y7,y8,y9,y10,y11,y12⟩:=apy rfl hu hp h3 hf h2;have eY:(m.step n).au n=Y:=by rw [y1];exact upd_same _ _ _
   have hUY:=abn hU hp y2 y3 y4 y5;refine (h.at_ (c:=1) (s:=1) (d:=0) (u:=0) hn (λj hj=>by rw [y1,upd_ne hj]) ?_ y10 ?_ ?_ y12 (by rw [y9.bF];omega) (by rw [eY,y8];omega) (by rw [y9.calls];omega)).mono oQ oQ oQ oQ
   ·rw [eY];exact .inl ⟨y6,_,_,hUY⟩
   ·rw [eY,y7];exact λl hl=> .inl hl
   rw [eY,y7];omega
  | none=>
   have R:=afw hu ⟨us,hU⟩ λl hl=>RP (h.u7 n hn l hl);have c:=R.cnt;have c2:=R.aX;obtain ⟨us',Qc⟩:=R.tape;rw [Bz hu hp]
   split
   ·rename_i hp2
    have e:(((m.more n).aad n).au n)={ (m.more n).au n with turn:=((m.more n).au n).turn+1 }:=iw _;have hqq:((m.more n).au n).turn % 4<4:=Nat.mod_lt _ dQ;obtain ⟨d1,d2⟩:=ajt (n:=n) (s:=((m.more n).au n).sure (((m.more n).au n).turn % 4)) hqq hn (Qc.qW _ hqq);refine (h.at_ (c:=3) (s:=T) (d:=0) (u:=1) hn (λj hj=>?_) ?_ (λl hl=>?_) ?_ ?_ ?_ ?_ ?_ ?_).mono oQ oQ oQ oQ
    ·show upd (m.more n).au n _ j=_
     rw [upd_ne hj];exact R.PE j hj
    ·rw [e];exact .inl ⟨R.up,rs,us',⟨Qc.data,Qc.syn,Qc.tape,Qc.qW,Qc.pnn,Qc.pns,Qc.len⟩⟩
    ·rcases List.mem_append.1 hl with hl | hl
     ·exact R.F4 l hl
     exact .inr (d1 l hl)
    ·rw [e];exact λl hl=> .inl (R.u7 l hl)
    ·rw [e]
     show ((m.more n).fly++_).length+((m.more n).au n).inbox.length<=_
     rw [List.length_append];have:=d2;omega
    ·show (m.more n).aX.length<=_;omega
    ·show (m.more n).bF.length<=_;rw [R.keep.bF];omega
    ·rw [e];show ((m.more n).au n).turn+1<=_;rw [R.trn];exact Nat.le_refl _
    show (m.more n).calls<=_;rw [R.keep.calls];omega
   refine (h.at_ (c:=0) (s:=T) (d:=0) (u:=0) hn R.PE (.inl ⟨R.up,rs,us',Qc⟩) R.F4 (λl hl=> .inl (R.u7 l hl)) oQ oQ (by rw [R.keep.bF];omega) (by rw [R.trn];omega) (by rw [R.keep.calls];omega)).mono oQ oQ oQ oQ
theorem Gj (h:gu m T S D K) (hl:oG l):gu (m.come l) (T+1) S (D+1) K:=by
 have hroom:=h.room;have htot: ∀ fl,({ m with fly:=fl }:Cl).tot+m.fly.length=m.tot+fl.length:=λfl=>by unfold Cl.tot;dsimp only;omega
 obtain ⟨hq,hv,h1 | ⟨h1,h2,h3,_⟩ | ⟨h1,h2,h3⟩,_⟩:=id hl
 ·have e:m.come l={ m with bF:=m.bF++[l.bF] }:=if_pos h1;rw [e];exact ⟨h.mJ,h.F4,h.u7,by show m.tot<=_;omega,h.aX,by show (m.bF++_).length<=_;have:=h.bF;simp;omega,h.turn,h.calls⟩
 ·unfold Cl.come;rw [if_neg oQ,if_pos h1]
  split
  ·refine ⟨h.mJ,λx hx=>?_,h.u7,?_,h.aX,by have:=h.bF;show m.bF.length<=_;omega,h.turn,h.calls⟩
   ·rcases List.mem_append.1 hx with hx | hx
    ·exact h.F4 x hx
    rw [List.mem_singleton] at hx;subst hx;exact ⟨hq,by show 0<=3;omega,.inr (.inr ⟨h2,h3,.inr (.inr (.inr (.inr rfl)))⟩),nk (by show (6:Int)≠0;decide)⟩
   have:=htot (m.fly++[qh l.fr l.q (bO (gy m.off l) l.q).1]);rw [List.length_append,List.length_singleton] at this
   show Cl.tot { m with fly:=_ }<=_
   omega
  exact ⟨h.mJ,h.F4,h.u7,by show m.tot<=_;omega,h.aX,by have:=h.bF;show m.bF.length<=_;omega,h.turn,h.calls⟩
 have hn:l.tg.toNat<5:=oQ;unfold Cl.come;rw [if_neg oQ,if_neg oQ]
 split
 ·rename_i hu
  have e:(m.put l.tg.toNat { m.au l.tg.toNat with inbox:=(m.au l.tg.toNat).inbox++[l] }).au l.tg.toNat=(m.au l.tg.toNat).box ((m.au l.tg.toNat).inbox++[l]):=iw _;obtain ⟨rs,us,hU⟩:=(h.mJ _ hn).aaX hu;refine (h.at_ (m':=m.put l.tg.toNat { m.au l.tg.toNat with inbox:=(m.au l.tg.toNat).inbox++[l] }) (c:=1) (s:=0) (d:=0) (u:=0) hn (λj hj=>upd_ne hj) (by rw [e];exact .inl ⟨hu,rs,us,adF hU⟩) (λx hx=> .inl hx) ?_ ?_ (Nat.le_refl _) (Nat.le_refl _) (by rw [e];exact Nat.le_refl _) (Nat.le_refl _)).mono oQ oQ oQ oQ
  ·rw [e];intro x hx
   rcases List.mem_append.1 hx with hx | hx
   ·exact .inl hx
   rw [List.mem_singleton] at hx;subst hx;exact .inr ⟨hl,by omega⟩
  rw [e]
  show m.fly.length+((m.au l.tg.toNat).inbox++[l]).length<=_
  rw [List.length_append,List.length_singleton];omega
 exact h.mono oQ oQ oQ oQ
theorem KO: ∀ (ls:List iO) {m:Cl} {T D:Nat},gu m T S D K->(∀ l∈ls,oG l)->gu (ls.foldl Cl.come m) (T+ls.length) S (D+ls.length) K
 | [],m,T,D,h,_=>h
 | l::ls,m,T,D,h,hl=>(KO ls (Gj h (hl l iQ)) λx hx=>hl x (by simp [hx])).mono jQ (Nat.le_refl _) jQ (Nat.le_refl _)
theorem afx (h:gu m T S D K):gu m.all T S (D+T) K:=by
 have hroom:=h.room;have h0:gu { m with fly:=[] } (T-m.fly.length) S D K:=by
  refine ⟨h.mJ,λl hl=>by simp at hl,h.u7,?_,h.aX,h.bF,h.turn,h.calls⟩;unfold Cl.tot at hroom⊢;dsimp only [List.length_nil];omega
 have hle:m.fly.length<=T:=by unfold Cl.tot at hroom;omega
 exact (KO m.fly h0 h.F4).mono oQ (Nat.le_refl _) oQ (Nat.le_refl _)
theorem abp {at_:Nat} {c s:Bool} (h:gu m T S D K):gu (m.pick at_ c s) (T+1) S (D+1) K:=by
 unfold Cl.pick
 split
 ·exact h.mono oQ oQ oQ oQ
 rename_i l hl
 have hm:oG l:=h.F4 l (List.mem_of_getElem? hl);have h1:gu (if s=true then m else { m with fly:=m.fly.eraseIdx (at_ % m.fly.length) }) T S D K:=by
  split
  ·exact h
  refine ⟨h.mJ,λx hx=>h.F4 x (List.mem_of_mem_eraseIdx hx),h.u7,?_,h.aX,h.bF,h.turn,h.calls⟩;have:=h.room;have h2:=List.length_eraseIdx_le m.fly (at_ % m.fly.length);unfold Cl.tot at this⊢;dsimp only;omega
 dsimp only
 split
 ·exact Gj h1 hm
 exact h1.mono oQ oQ oQ oQ
theorem abq {q:Nat} (h:gu m T S D K) (hn:n<5) (hq:q<4):gu (m.make n q) T S D K:=by
 unfold Cl.make
 split
 ·exact h
 rename_i h0
 have hu:(m.au n).up=true:=by
  cases e:(m.au n).up with
  | true=>rfl
  | false=>exact absurd (.inl e) h0
 have hp:(m.au n).pend=none:=by
  cases e:(m.au n).pend with
  | none=>rfl
  | some p=>exact absurd (.inr (.inl (by rw [e];rfl))) h0
 split
 ·exact h
 rename_i h1
 obtain ⟨h2,h3,h4⟩:=ajl h1;rw [h4]
 split
 ·exact h
 rename_i x hw
 obtain ⟨d,hd,rfl⟩:=ru hw;obtain ⟨rs,us,hU⟩:=(h.mJ n hn).aaX hu;have hus:=hU.pnn hp;subst hus;obtain ⟨w1,w2,w3⟩:=wP hd;obtain ⟨_,a2⟩:=ajb (q:=q) (hU.qW q hq) h2 h3 hq;have hok:aj ⟨1,1,0,0,0,[]⟩=0:=mR (Bu oQ oQ _) zT;refine h.at_ (m':={ m.put n { m.au n with data:=d,syn:=d.length,bs:=upd (m.au n).bs q ⟨1,1,0,0,0,[]⟩ } with off:=(wV m.off q n).1,shown:=oz m.shown n q (1,0) }) (c:=0) (s:=0) (d:=0) (u:=0) hn (λj hj=>upd_ne hj) ?_ (λx hx=> .inl hx) ?_ ?_ (Nat.le_refl _) (Nat.le_refl _) ?_ (Nat.le_refl _)
 ·refine .inl ⟨?_,rs++[fV 1 q 1 0 aQ],[],?_⟩
  ·show (upd m.au n _ n).up=true;rw [upd_same];exact hu
  show vW (upd m.au n _ n) _ _
  rw [upd_same];refine ⟨?_,?_,?_,λk hk=>?_,λ_=>rfl,λp e=>?_,w3 hU.len⟩
  ·show d=_;rw [w1,hU.data,List.append_nil,List.append_nil,lN]
  ·show (d.length:Int)=_;rw [w1,hU.data,List.append_nil,lN]
  ·refine Jr (x:=⟨1,1,0,0,0,[]⟩) hU.tape hq (w2 _ iQ) rfl ?_;rw [Va (.inr (.inl h2)),a2];rfl
  ·show aj (upd (m.au n).bs q _ k)=0
   by_cases e:k=q
   ·rw [e,upd_same];exact hok
   rw [upd_ne e];exact hU.qW k hk
  exact absurd (e.symm.trans hp) iQ
 ·show ∀ l∈(upd m.au n _ n).inbox,_;rw [upd_same];exact λl hl=> .inl hl
 ·show m.fly.length+(upd m.au n _ n).inbox.length<=_;rw [upd_same];exact Nat.le_refl _
 show (upd m.au n _ n).turn<=_;rw [upd_same];exact Nat.le_refl _
theorem KP {d:Dir} {q:Int} (h: ¬ (bO d q).2≠0):(bO d q).1.node.toNat<5/\0<=(bO d q).1.node/\(bO d q).1=d.at q.toNat:=by
 obtain ⟨h1,h2,h3,h4,h5⟩:=Gy (Classical.not_not.1 h);unfold zl at h5
 rcases h5 with ⟨h5,h6⟩ | h5
 ·exfalso
  apply h4;generalize bO d q=r at*;obtain ⟨⟨a,b⟩,c⟩:=r;dsimp only at h5 h6⊢;rw [h5,h6];rfl
 exact ⟨by omega,by omega,h3⟩
theorem Yj {bs:Nat->bK} {q:Nat} {p:fO} {tg:Int} (hr:(bs q).role=1) (h:p.ok bs):p.rs (upd bs q ⟨2,(bs q).ep,0,tg,0,(bs q).evs⟩)=p.rs bs/\p.ok (upd bs q ⟨2,(bs q).ep,0,tg,0,(bs q).evs⟩):=by
 cases p with
 | serve k evs op num a=>
  simp only [fO.ok,fO.rs] at h⊢;by_cases e:k=q
  ·subst e;rw [upd_same];exact ⟨rfl,.inr rfl,h.2⟩
  rw [upd_ne e];exact ⟨rfl,h⟩
 | begun k b=>
  simp only [fO.ok] at h⊢;refine ⟨rfl,?_⟩;by_cases e:k=q
  ·subst e;exfalso;have:=h.1;omega
  rw [upd_ne e];exact h
 | got k b last=>
  simp only [fO.ok,fO.rs] at h⊢;by_cases e:k=q
  ·subst e;exfalso;have:=h.1;omega
  rw [upd_ne e];exact ⟨rfl,h⟩
 | jU k b a=>
  simp only [fO.ok] at h⊢;refine ⟨rfl,?_⟩;by_cases e:k=q
  ·subst e;exfalso;have:=h.1;omega
  rw [upd_ne e];exact h
 | forget k b=>
  simp only [fO.ok,fO.rs] at h⊢;by_cases e:k=q
  ·subst e;exfalso;have:=h.1;omega
  rw [upd_ne e];exact ⟨rfl,h⟩
theorem abr {q:Nat} {tg:Int} (h:gu m T S D K) (hq:q<4):gu (m.move q tg) T S D K:=by
 unfold Cl.move
 split
 ·exact h
 rename_i h0
 have hw: ¬ (bO m.off q).2≠0:=λe=>h0 (.inl e);obtain ⟨hn,_,_⟩:=KP hw;have hu:(m.au (bO m.off q).1.node.toNat).up=true:=by
  cases e:(m.au (bO m.off q).1.node.toNat).up with
  | true=>rfl
  | false=>exact absurd (.inr (.inr e)) h0
 generalize hnn:(bO m.off q).1.node.toNat=n at*
 split
 ·rename_i h1
  obtain ⟨g1,g2,g3,g4⟩:=go_ok h1.1;rw [g4];obtain ⟨rs,us,hU⟩:=(h.mJ n hn).aaX hu;have hs:=ig (hU.qW q hq);unfold bD at hs;have hok:aj ⟨2,((m.au n).bs q).ep,0,tg,0,((m.au n).bs q).evs⟩=0:=mR (.inr ⟨by dsimp only;omega,by dsimp only;omega,.inr (.inl ⟨rfl,rfl,g2,by dsimp only;omega,by dsimp only;omega,by dsimp only;omega⟩)⟩) (jB (b:=(m.au n).bs q) (hU.qW q hq));have hd: ∀ k,mE ((m.au n).bs k)=mE (upd (m.au n).bs q ⟨2,((m.au n).bs q).ep,0,tg,0,((m.au n).bs q).evs⟩ k):=λk=>by
   by_cases e:k=q
   ·rw [e,upd_same,yw (.inl g1) (hU.qW q hq)];rfl
   rw [upd_ne e]
  have e:((m.eO n q ⟨2,((m.au n).bs q).ep,0,tg,0,((m.au n).bs q).evs⟩).au n)=(m.au n).eO q ⟨2,((m.au n).bs q).ep,0,tg,0,((m.au n).bs q).evs⟩:=iw _;refine h.at_ (m':=m.eO n q ⟨2,((m.au n).bs q).ep,0,tg,0,((m.au n).bs q).evs⟩) (c:=0) (s:=0) (d:=0) (u:=0) hn (λj hj=>upd_ne hj) ?_ (λx hx=> .inl hx) (by rw [e];exact λl hl=> .inl hl) (by rw [e];exact Nat.le_refl _) (Nat.le_refl _) (Nat.le_refl _) (by rw [e];exact Nat.le_refl _) (Nat.le_refl _);rw [e];refine .inl ⟨hu,rs,us,⟨hU.data,hU.syn,hU.tape.congr λk _=>hd k,λk hk=>?_,hU.pnn,λp hp=>?_,hU.len⟩⟩
  ·show aj (upd (m.au n).bs q _ k)=0
   by_cases e:k=q
   ·rw [e,upd_same];exact hok
   rw [upd_ne e];exact hU.qW k hk
  obtain ⟨p1,p2,p3⟩:=hU.pns p hp;exact ⟨by rw [p1];exact (Yj (tg:=tg) g1 p2).1.symm,(Yj (tg:=tg) g1 p2).2,p3⟩
 exact h
end
section
variable {m:Cl} {n:Nat} {T S D K:Nat}
theorem Xb {keep:Int} (h:gu m T S D K) (hn:n<5) (hk:0<=keep):gu (m.crash n keep) T S D K:=by
 unfold Cl.crash
 split
 ·rename_i hu
  obtain ⟨rs,us,hU⟩:=(h.mJ n hn).aaX hu;obtain ⟨rs',t,f,hd,_⟩:=afr hU hk;have e:(m.put n ((m.au n).crashed keep)).au n=(m.au n).crashed keep:=iw _;refine h.at_ (m':=m.put n ((m.au n).crashed keep)) (c:=0) (s:=0) (d:=0) (u:=0) hn (λj hj=>upd_ne hj) (by rw [e];exact .inr ⟨rfl,rs',t,f,hd⟩) (λx hx=> .inl hx) ?_ ?_ (Nat.le_refl _) (Nat.le_refl _) ?_ (Nat.le_refl _)
  ·rw [e,hd.u7];simp
  ·rw [e,hd.u7];show m.fly.length+0<=_;omega
  rw [e];exact Nat.le_refl _
 exact h
theorem TH (h:Gg (m.au n)):(m.au n).up=true/\m.start n=m\/(m.au n).up=false/\ ∃ rs t f,Gf (m.au n) rs t f/\(m.start n=m\/ ∃ ws,
  let m1:=m.put n { (m.au n).blank with up:=true,data:=dh (rs++ws),syn:=(dh (rs++ws)).length,bs:=bV (m.au n).data (m.au n).syn }
  m.start n=Cl.woken n (bV (m.au n).data (m.au n).syn) [0,1,2,3] m1/\(dh (rs++ws)).length<=100000/\
  eU (jL (m.au n).data (m.au n).syn).2.1 (bV (m.au n).data (m.au n).syn) [0,1,2,3] (jL (m.au n).data (m.au n).syn).1=some (dh (rs++ws))/\
  RO m1 (m.start n) n (λq=>if q∈[0,1,2,3]/\(bV (m.au n).data (m.au n).syn q).role=1 then oF (bV (m.au n).data (m.au n).syn q) else bV (m.au n).data (m.au n).syn q)/\
  (m.start n).aX.length<=m.aX.length+8004/\vW ((m.start n).au n) (rs++ws) []/\
  ∀ q,q<4->(f q).role=1->aj (oF (f q))=0):=by
 cases hu:(m.au n).up with
 | true=>exact .inl ⟨rfl,by unfold Cl.start;rw [if_pos hu]⟩
 | false=>
  refine .inr ⟨rfl,?_⟩;obtain ⟨rs,t,f,hd⟩:=h.azS hu;refine ⟨rs,t,f,hd,?_⟩;obtain ⟨r1,r2,r3⟩:=hd.rd;have hst:m.start n=match eU (jL (m.au n).data (m.au n).syn).2.1 (bV (m.au n).data (m.au n).syn) [0,1,2,3] (jL (m.au n).data (m.au n).syn).1 with
   | none=>m
   | some d=>Cl.woken n (bV (m.au n).data (m.au n).syn) [0,1,2,3] (m.put n { (m.au n).blank with up:=true,data:=d,syn:=d.length,bs:=bV (m.au n).data (m.au n).syn }):=by
   unfold Cl.start;rw [if_neg (by rw [hu];simp)]
   all_goals rfl
  cases hw:eU (jL (m.au n).data (m.au n).syn).2.1 (bV (m.au n).data (m.au n).syn) [0,1,2,3] (jL (m.au n).data (m.au n).syn).1 with
  | none=>rw [hw] at hst;exact .inl hst
  | some d=>
   rw [hw] at hst;refine .inr ?_;have Fj: ∀ q∈[0,1,2,3],q<4:=by decide
   have hin: ∀ q,q<4->q∈[0,1,2,3]:=by decide
   have hll:(dh rs).length<=100000:=by
    have h1:=hd.len;rw [hd.data,List.length_append] at h1;omega
   have hw':=hw;rw [r1] at hw';obtain ⟨ws,e1,e2,e3,e4⟩:=OC (g:=f) dQ (λq hq=>⟨Fj q hq,(r3 q (Fj q hq)).symm⟩) hd.tape (λq hq=>(hd.qW q hq).1) hll hw';subst e1;refine ⟨ws,hst,e3,rfl,?_⟩;have hev: ∀ q∈[0,1,2,3],(bV (m.au n).data (m.au n).syn q).evs.length<=2000:=λq hq=>by
    rw [r3 q (Fj q hq)];exact ko (jB (hd.qW q (Fj q hq)).1)
   obtain ⟨g1,g2⟩:=Dn (n:=n) (bs:=bV (m.au n).data (m.au n).syn) [0,1,2,3] (m.put n { (m.au n).blank with up:=true,data:=dh (rs++ws),syn:=(dh (rs++ws)).length,bs:=bV (m.au n).data (m.au n).syn }) dQ λq hq=>⟨by rw [iw],hev q hq⟩;have hbs:(λq=>if q∈[0,1,2,3]/\(bV (m.au n).data (m.au n).syn q).role=1 then (fJ (bV (m.au n).data (m.au n).syn q)).1 else ((m.put n { (m.au n).blank with up:=true,data:=dh (rs++ws),syn:=(dh (rs++ws)).length,bs:=bV (m.au n).data (m.au n).syn }).au n).bs q)=
     λq=>if q∈[0,1,2,3]/\(bV (m.au n).data (m.au n).syn q).role=1 then oF (bV (m.au n).data (m.au n).syn q) else bV (m.au n).data (m.au n).syn q:=by
    funext q
    rw [iw];by_cases c:q∈[0,1,2,3]/\(bV (m.au n).data (m.au n).syn q).role=1
    ·rw [if_pos c,if_pos c,(e4 q c.1 c.2).2]
    rw [if_neg c,if_neg c]
   have hst':m.start n=Cl.woken n (bV (m.au n).data (m.au n).syn) [0,1,2,3] (m.put n { (m.au n).blank with up:=true,data:=dh (rs++ws),syn:=(dh (rs++ws)).length,bs:=bV (m.au n).data (m.au n).syn }):=hst;rw [hbs,<-hst'] at g1;rw [<-hst'] at g2;refine ⟨g1,g2,?_,λq hq hr=>?_⟩
   ·have e:(m.start n).au n={ (m.au n).blank with up:=true,data:=dh (rs++ws),syn:=(dh (rs++ws)).length,bs:=λq=>if q∈[0,1,2,3]/\(bV (m.au n).data (m.au n).syn q).role=1 then oF (bV (m.au n).data (m.au n).syn q) else bV (m.au n).data (m.au n).syn q }:=by
     rw [g1.au,upd_same,iw]
    rw [e];have hbb: ∀ q,q<4->aj (if q∈[0,1,2,3]/\(bV (m.au n).data (m.au n).syn q).role=1 then oF (bV (m.au n).data (m.au n).syn q) else bV (m.au n).data (m.au n).syn q)=0:=λq hq=>by
     split
     ·rename_i c;exact (e4 q c.1 c.2).1
     rw [r3 q hq];exact (hd.qW q hq).1
    refine ⟨by rw [List.append_nil],rfl,e2.congr λq hq=>?_,hbb,λ_=>rfl,λp hp=>(by cases hp),e3⟩;dsimp only;by_cases c:q∈[0,1,2,3]/\(bV (m.au n).data (m.au n).syn q).role=1
    ·rw [if_pos c,if_pos c];rfl
    rw [if_neg c,if_neg c,r3 q hq];exact (Rx (hd.qW q hq).2).symm
   have:=(e4 q (hin q hq) (by rw [r3 q hq];exact hr)).1;rwa [r3 q hq] at this
theorem base_start (h:gu m T S D K) (hn:n<5):gu (m.start n) T (S+8004) D K:=by
 rcases TH (h.mJ n hn) with ⟨_,e⟩ | ⟨hu,rs,t,f,hd,e | ⟨ws,e1,e2,e3,W,e5,e6,e7⟩⟩
 ·rw [e];exact h.mono oQ oQ oQ oQ
 ·rw [e];exact h.mono oQ oQ oQ oQ
 have hN:=W.au;have eX:(m.start n).au n={ (m.au n).blank with up:=true,data:=dh (rs++ws),syn:=(dh (rs++ws)).length,bs:=λq=>if q∈[0,1,2,3]/\(bV (m.au n).data (m.au n).syn q).role=1 then oF (bV (m.au n).data (m.au n).syn q) else bV (m.au n).data (m.au n).syn q }:=by
  rw [hN,upd_same,iw]
 refine h.at_ (c:=0) (s:=8004) (d:=0) (u:=0) hn (λj hj=>?_) (.inl ⟨by rw [eX],rs++ws,[],e6⟩) (λx hx=> .inl (by rw [W.fly] at hx;exact hx)) (by rw [eX];intro l hl;exact absurd hl (by simp [Nd.blank])) ?_ e5 (by rw [W.bF];exact Nat.le_refl _) ?_ (by rw [W.calls];exact Nat.le_refl _)
 ·rw [hN,upd_ne hj];exact upd_ne hj
 ·rw [eX,W.fly];show m.fly.length+0<=_;omega
 rw [eX];exact Nat.le_refl _
theorem abt {l:iO} (h:gu m T S D K) (hl:oG l):gu { m with fly:=m.fly++[l],calls:=m.calls+1 } (T+1) S D (K+1):=by
 have hr:=h.room;refine ⟨h.mJ,λx hx=>?_,h.u7,?_,h.aX,h.bF,λn hn=>Nat.le_succ_of_le (h.turn n hn),by have:=h.calls;show m.calls+1<=_;omega⟩
 ·rcases List.mem_append.1 hx with hx | hx
  ·exact h.F4 x hx
  rw [List.mem_singleton] at hx;subst hx;exact hl
 unfold Cl.tot at hr⊢;dsimp only;rw [List.length_append,List.length_singleton];omega
theorem RQ {a:Ac} (h:gu m T S D K) (ha:abj a):gu (m.act a) (T+3) (S+T+8004) (D+T+1) (K+1):=by
 obtain ⟨h1,h2,h3,h4,h5,h6⟩:=ha;have hn:a.nd.toNat<5:=oQ;have hq:a.qu.toNat<4:=oQ;unfold Cl.act
 split
 ·exact (abq h hn hq).mono oQ oQ oQ oQ
 split
 ·rename_i hk2
  exact (abt h ⟨hq,by show 0<=3;omega,.inr (.inr ⟨h2.1,by show a.nd<5;omega,.inl rfl⟩),λ_=>h6 hk2⟩).mono oQ oQ oQ oQ
 split
 ·exact (abo h hn).mono oQ oQ oQ oQ
 split
 ·exact (abp h).mono oQ oQ oQ oQ
 split
 ·exact (afx h).mono oQ oQ oQ oQ
 split
 ·exact (Xb h hn h5.1).mono oQ oQ oQ oQ
 split
 ·exact (base_start h hn).mono oQ oQ oQ oQ
 exact (abr h hq).mono oQ oQ oQ oQ
end
def Bs (m:Cl) (k:Nat):Prop:=gu m (4*k) (500000*k) (500000*k) k
theorem asu:Bs PD 0:=by
 refine ⟨λn _=> .inl ⟨rfl,[],[],⟨rfl,rfl,iN.nil,λq _=>by show aj bG=0;exact mR (.inl ⟨rfl,by decide,by decide,rfl,rfl,rfl,rfl⟩) zT,λ_=>rfl,λp hp=>(by cases hp),Nat.zero_le _⟩⟩,λl hl=>(by cases hl),λn _ l hl=>(by cases hl),Nat.le_refl _,Nat.le_refl _,Nat.le_refl _,λ_ _=>Nat.le_refl _,Nat.le_refl _⟩
theorem apz {m:Cl} {k:Nat} {a:Ac} (h:Bs m k) (ha:abj a) (hk:k<=100000):Bs (m.act a) (k+1):=by
 have:=RQ h ha;exact this.mono oQ oQ oQ oQ
def pq (q:Nat):Option fO->Option fO
 | none=>none
 | some p=>if p.q=q then some p else none
def svq (m:Cl) (q:Nat):List lD:=m.aX.filter λs=>decide (s.q=q)
def LtQ (m:Cl) (q:Nat) (l:iO):Prop:=l.q=q/\(l∈m.fly\/ ∃ n,n<5/\l∈(m.au n).inbox)
noncomputable def vw (m:Cl) (q:Nat) (n:Nat):bK:=(m.au n).view q
def pqv (m:Cl) (q:Nat) (n:Nat):Option fO:=pq q (m.au n).pend
def upv (m:Cl) (n:Nat):Bool:=(m.au n).up
def shq (m:Cl) (q:Nat) (n:Nat):Int×Int:=m.shown n q
def QI (m:Cl) (q:Nat) (g:Gh):Prop:=Inv g (vw m q) (pqv m q) (upv m) (LtQ m q) (m.off.at q) (shq m q) (svq m q)
structure CF (g g':Gh):Prop where
 m:g'.m=g.m
 own:g'.own=g.own
 len:g'.len=g.len
 G:g'.G=g.G
theorem CF.trans {a b c:Gh} (h:CF a b) (h':CF b c):CF a c:=⟨h'.m.trans h.m,h'.own.trans h.own,h'.len.trans h.len,h'.G.trans h.G⟩
theorem CF.o {g g':Gh} (h:CF g g'):g'.o=g.o:=by unfold Gh.o;rw [h.m,h.own]
section
variable {m m':Cl} {n q:Nat} {g g':Gh} {l:iO} {V:Nat->bK} {P:Nat->Option fO} {U:Nat->Bool} {Lt:iO->Prop} {pl:Pl} {sh:Nat->Int×Int} {sv:List lD} {X:Nd}
theorem Inv.auE (I:Inv g V P U Lt pl sh sv) (hu:U g.o=true):g.t=g.m/\g.F=g.G.length/\rp gW sv=some (aP g.G).1:=by
 have hF:=I.upF hu;refine ⟨?_,hF,?_⟩
 ·rcases I.tol with h | ⟨_,_,h,_⟩
  ·exact h.1
  rw [hu] at h;cases h
 have:=I.rps;rwa [hF,List.take_length] at this
end
section
variable {m m':Cl} {n q:Nat} {g g':Gh} {l:iO} {rs:List dH}
theorem auF (hu:(m.au n).up=true):vw m q n=(m.au n).bs q:=by unfold vw;rw [Yg hu]
end
structure Lp (g g':Gh):Prop where
 m:g.m<=g'.m
 own: ∀ k,k<=g.m->g'.own k=g.own k
 asv:g'.G.length<=g.G.length+1
theorem CF.next {g g':Gh} (h:CF g g'):Lp g g':=⟨by rw [h.m];exact Nat.le_refl _,λk _=>by rw [h.own],by rw [h.G];omega⟩
theorem Lp.same {g g' g2:Gh} (h:Lp g g') (h2:CF g' g2):Lp g g2:=⟨by rw [h2.m];exact h.m,λk hk=>by rw [h2.own];exact h.own k hk,by rw [h2.G];exact h.asv⟩
def akX (q:Nat) (g g':Gh) (m m':Cl):Prop:=g'.m=g.m->(vw m q g.o).role=3->(vw m' q g.o).role=3
section
variable {m m':Cl} {n q:Nat} {g g':Gh} {l:iO} {rs us:List dH} {X:Nd} {V:Nat->bK} {P:Nat->Option fO} {U:Nat->Bool} {Lt:iO->Prop} {pl:Pl} {sh:Nat->Int×Int} {sv:List lD}
theorem Inv.serve {op:Ev} {a:jo} {num:Int} {b:bK} {qq:Nat} (I:Inv g V P U Lt pl sh sv) (ho:n=g.o) (hu:U n=true) (hr:(V n).role≠3) (hg:good (g.G++[op])) (ha:(jS (aP g.G).1 op).2.1=a) (hb:b.ep=(V n).ep) (hb1:b.role=(V n).role) (hb2:b.tg=(V n).tg) (hb3:b.evs=g.G++[op]):
  Inv (g.app op).all (upd V n b) (upd P n none) U Lt pl (upd sh n ((g.m:Int),((g.G++[op]).length:Int))) (sv++[⟨n,qq,g.m,op,a,num⟩]):=by
 subst ho;obtain ⟨t1,t2,t3⟩:=I.auE hu;obtain ⟨s1,s2,s3⟩:=good_step hg;have I2:=(I.down g.o).append (e:=op) (b:=b) (upd_same _ _ _) (upd_same _ _ _) hr t1 hg hb hb1 hb2 hb3;have I3:=I2.told (sv2:=[⟨g.o,qq,g.m,op,a,num⟩]) t1 (by rw [ai1 t3 s1 ha];show _=some (aP (g.G++[op])).1;rw [s3]) λs hs=>by rw [List.mem_singleton] at hs;subst hs;exact ⟨rfl,rfl⟩
 have I4:=I3.up g.o λ_=>⟨rfl,rfl⟩;rw [IU,aH hu] at I4;exact I4
end
section
variable {m m':Cl} {n q:Nat} {g g':Gh} {V:Nat->bK} {P:Nat->Option fO} {U:Nat->Bool} {Lt:iO->Prop} {pl:Pl} {sh:Nat->Int×Int} {sv:List lD}
structure W1 (m m':Cl) (n q':Nat):Prop where
 au: ∃ b,m'.au=upd m.au n { m.au n with bs:=upd (m.au n).bs q' b }
 fly:m'.fly=m.fly
 off:m'.off=m.off
 sh: ∀ q,q'≠q->shq m' q=shq m q
 sv: ∀ q,q'≠q->svq m' q=svq m q
end
section
variable {m m' m2:Cl} {n q k:Nat} {g g' g2:Gh}
structure Later (q:Nat) (g g':Gh) (m m':Cl):Prop where
 mle:g.m<=g'.m
 own: ∀ k,k<=g.m->g'.own k=g.own k
 jU:akX q g g' m m'
theorem Later.trans (h:Later q g g' m m') (h':Later q g' g2 m' m2):Later q g g2 m m2:=by
 refine ⟨Nat.le_trans h.mle h'.mle,λk hk=>(h'.own k (Nat.le_trans hk h.mle)).trans (h.own k hk),λe h3=>?_⟩;have h1:=h.mle;have h2:=h'.mle;have e1:g'.m=g.m:=oQ;have eo:g'.o=g.o:=by unfold Gh.o;rw [e1];exact h.own _ (Nat.le_refl _)
 have:=h'.jU oQ (by rw [eo];exact h.jU e1 h3);rwa [eo] at this
theorem Lp.later (h:Lp g g') (h':akX q g g' m m'):Later q g g' m m':=⟨h.m,h.own,h'⟩
structure LW (m:Cl) (q:Nat) (g:Gh) (k:Nat):Prop where
 qi:QI m q g
 asv:g.G.length<=k
 data: ∀ n,n<5->(m.au n).data.length<=184*k
end
def g0 (q:Nat):Gh:=⟨1,λ_=>q,λ_=>0,[],0,1⟩
theorem BI {n q k p i b he hn:Int} (h1:0<=n/\n<3) (h2:0<=q/\q<2) (hk:(k=1/\0<=p/\p<2/\0<=i/\i<24/\0<=b/\b<1000/\he=0/\hn=0)\/(k=2/\p=0/\i=0/\b=0/\he=0/\hn=0)\/(k=3/\p=0/\i=0/\b=0/\0<=he/\he<3/\0<=hn/\hn<6)):aN ⟨2,n,q,0,0,k,p,i,b,he,hn⟩=0:=by
 rcases hk with ⟨rfl,h3,h4,h5,h6,h7,h8,rfl,rfl⟩ | ⟨rfl,rfl,rfl,rfl,rfl,rfl⟩ | ⟨rfl,rfl,rfl,rfl,h3,h4,h5,h6⟩
 all_goals
  simp [aN,aW,FL,Ac.get,Ac.ints,fin,yH,zeros];omega
theorem aju {k a b c:Int} (n q:Int) (h1:0<=n/\n<3) (h2:0<=q/\q<2):aN ⟨2,n,q,0,0,if (mZ k a b c).kind=4 then 2 else (mZ k a b c).kind,(mZ k a b c).producer,(mZ k a b c).id,(mZ k a b c).body,(mZ k a b c).aL,(mZ k a b c).hno⟩=0:=by
 have p1:=p8 (n:=a) (m:=2) dQ;have p2:=p8 (n:=b) (m:=24) dQ;have p3:=p8 (n:=c) (m:=1000) dQ;have p4:=p8 (n:=a) (m:=3) dQ;have p5:=p8 (n:=b) (m:=6) dQ;unfold mZ
 split
 ·exact BI h1 h2 (.inl ⟨rfl,p1.1,p1.2,p2.1,p2.2,p3.1,p3.2,rfl,rfl⟩)
 split
 ·exact BI h1 h2 (.inr (.inl ⟨rfl,rfl,rfl,rfl,rfl,rfl⟩))
 split
 ·exact BI h1 h2 (.inr (.inr ⟨rfl,rfl,rfl,rfl,p4.1,p4.2,p5.1,p5.2⟩))
 exact BI h1 h2 (.inr (.inl ⟨rfl,rfl,rfl,rfl,rfl,rfl⟩))
theorem apB (g:Gr) (cr:Bool):aN (iB g cr)=0/\(iB g cr).kd≠1:=by
 have p1:=p8 (n:=g.a) (m:=3) dQ;have p2:=p8 (n:=g.b) (m:=2) dQ;have p3:=p8 (n:=g.c) (m:=20) dQ;have p4:=p8 (n:=g.c) (m:=120) dQ;unfold iB
 split
 ·exact ⟨aju _ _ p1 p2,by unfold Vb;dsimp only;omega⟩
 repeat' split
 all_goals
  refine ⟨?_,by dsimp only;omega⟩;simp [aN,aW,FL,Ac.get,Ac.ints,fin,yH,zeros]
  try omega
theorem afy: ∀ a∈mks,aN a=0:=by
 intro a ha;simp only [mks,List.mem_cons,List.not_mem_nil,or_false] at ha
 rcases ha with rfl | rfl<;>rfl
theorem Hg (gs:List Gr) (m:Nat) (cr:Bool): ∀ a∈iI gs m cr,aN a=0:=by
 intro a ha
 rcases List.mem_append.1 ha with h | h
 ·exact afy a h
 obtain ⟨g,_,rfl⟩:=List.mem_map.1 h;exact (apB g cr).1
theorem Oa (gs:List Gr) (m:Nat) (cr:Bool):(iI gs m cr).length<=2+m:=by
 unfold iI mks;simp;omega
def chW (l:iO):Nat:=if l.kd=0\/l.kd=2\/l.kd=3\/l.kd=4 then 1 else 0
def chP:Option fO->Nat
 | some (.serve _ _ _ _ _)=>1
 | some (.begun _ _)=>1
 | some (.got _ _ _)=>1
 | some (.jU _ _ _)=>1
 | _=>0
def lsW:List iO->Nat
 | []=>0
 | l::r=>chW l+lsW r
def ndW (x:Nd):Nat:=lsW x.inbox+chP x.pend
def Cl.nm (m:Cl) (n:Nat):Nat:=lsW m.fly+ndW (m.au n)
structure Vd (m:Cl):Prop where
 rol: ∀ n,n<5-> ∀ q,2<=q->q<4->(vw m q n).role=0
 zf: ∀ n,n<5-> ∀ p,(m.au n).pend=some p->p.q<2
 u7: ∀ n,n<5-> ∀ l∈(m.au n).inbox,l.q<2
 fly: ∀ l∈m.fly,l.q<2
section
variable {m w m':Cl} {n q:Nat} {X:Nd} {l:iO} {p:fO} {ac:Ac} {rs us:List dH}
theorem Vd.au (h:Vd m) (hn:m'.au=m.au) (hf: ∀ l∈m'.fly,l∈m.fly\/l.q<2):Vd m':=by
 have e: ∀ q j,vw m' q j=vw m q j:=λq j=>by unfold vw;rw [hn]
 exact ⟨λj hj q h1 h2=>by rw [e];exact h.rol j hj q h1 h2,λj hj p hp'=>h.zf j hj p (by rwa [hn] at hp'),λj hj l hl=>h.u7 j hj l (by rwa [hn] at hl),λl hl=>(hf l hl).elim (h.fly l) id⟩
theorem Vd.view (h:Vd m) (hn:n<5) (hu:(m.au n).up=true) {q:Nat} (h1:2<=q) (h2:q<4):((m.au n).bs q).role=0:=by
 have:=h.rol n hn q h1 h2;rwa [auF hu] at this
end
def Qw (f:iO->Nat):List iO->Nat
 | []=>0
 | l::r=>f l+Qw f r
def Cl.ws (f:iO->Nat) (m:Cl):Nat:=Qw f m.fly+(Qw f (m.au 0).inbox+(Qw f (m.au 1).inbox+(Qw f (m.au 2).inbox+(Qw f (m.au 3).inbox+Qw f (m.au 4).inbox))))
structure Wy where
 M:Nat
 own:Nat->Nat
 R:Nat
 tg:Int
def calm (F:Wy) (l:iO):Prop:=(1<=l.ep/\l.ep<=F.M/\l.tg=F.own l.ep.toNat)\/(l.ep=F.M+1/\F.R=1/\l.tg=F.tg)
instance (F:Wy) (l:iO):Decidable (calm F l):=by unfold calm;exact inferInstance
def lwt (F:Nat->Wy) (l:iO):Nat:=if l.kd=0 then 46 else if l.kd=4/\ ¬ calm (F l.q) l then 184 else 0
def rsk (r:Int):Nat:=if r=2 then 2 else if r=3 then 1 else 0
def fiT (F:Wy) (j:Nat) (b:bK):Nat:=if F.R=1/\(j:Int)=F.tg then 46*(302-if b.ep=F.M+1 then b.evs.length else 0) else 0
def fi (F:Wy) (j:Nat) (b:bK):Nat:=46*((F.M:Int)+1+F.R-b.ep).toNat+46*rsk b.role+fiT F j b
def vpb (X:Nd) (q:Nat):bK:=match X.pend with
 | some p=>if p.q=q then p.b X.bs else X.bs q
 | none=>X.bs q
noncomputable def frm (m:Cl) (q:Nat) (g:Gh):Wy:=⟨g.m,g.own,if (vw m q g.o).role=1 then 0 else 1,(vw m q g.o).tg⟩
def agz (F F':Wy):Prop:=(F'.M=F.M/\(∀ k,k<=F.M->F'.own k=F.own k)/\F'.R=F.R/\F'.tg=F.tg)\/
 (F'.M=F.M+1/\(∀ k,k<=F.M->F'.own k=F.own k)/\(F'.own (F.M+1):Int)=F.tg/\F.R=1/\F'.R=0)
section
variable {m w m':Cl} {n q:Nat} {X X':Nd} {l:iO} {p:fO} {f f':iO->Nat} {F F':Wy} {g g':Gh} {b b':bK}
end
def aAs (l:iO):Nat:=if l.kd=0 then 1 else 0
def spP:Option fO->Nat
 | some (.serve _ _ _ _ _)=>1
 | _=>0
def Cl.c0 (m:Cl):Nat:=m.ws aAs+(spP (m.au 0).pend+(spP (m.au 1).pend+(spP (m.au 2).pend+(spP (m.au 3).pend+spP (m.au 4).pend))))
noncomputable def FF (m:Cl) (G:Nat->Gh):Nat->Wy:=λq=>frm m q (G q)
noncomputable def pot (m:Cl) (G:Nat->Gh) (n:Nat):Nat:=(m.au n).data.length+m.ws (lwt (FF m G))+(fi (FF m G 0) n (vpb (m.au n) 0)+fi (FF m G 1) n (vpb (m.au n) 1))
structure Rmc (m:Cl) (G:Nat->Gh) (B c e:Nat):Prop where
 up: ∀ n,n<5->(m.au n).up=true
 vd:Vd m
 qi: ∀ q,q<2->QI m q (G q)
 pot: ∀ n,n<5->pot m G n+c<=B
 cap: ∀ q,q<2->(G q).G.length+m.c0+e+(FF m G q).R<=300
section
variable {m w m':Cl} {n q B c e:Nat} {X X':Nd} {l:iO} {p:fO} {G G':Nat->Gh} {g g':Gh} {b b':bK} {rs us:List dH} {V:Nat->bK} {P:Nat->Option fO} {U:Nat->Bool} {Lt:iO->Prop} {pl:Pl} {sh:Nat->Int×Int} {sv:List lD}
theorem agz.trans {F F' F2:Wy} (h:agz F F') (h':agz F' F2):agz F F2:=by
 rcases h with ⟨a1,a2,a3,a4⟩ | ⟨a1,a2,a3,a4,a5⟩
 ·rcases h' with ⟨b1,b2,b3,b4⟩ | ⟨b1,b2,b3,b4,b5⟩
  ·exact .inl ⟨by omega,λk hk=>(b2 k oQ).trans (a2 k hk),by omega,b4.trans a4⟩
  exact .inr ⟨by omega,λk hk=>(b2 k oQ).trans (a2 k hk),by rw [<-a1,b3,a4],by omega,b5⟩
 rcases h' with ⟨b1,b2,b3,b4⟩ | ⟨b1,b2,b3,b4,b5⟩
 ·exact .inr ⟨by omega,λk hk=>(b2 k oQ).trans (a2 k hk),by rw [b2 _ oQ];exact a3,a4,by omega⟩
 omega
end
section
variable {m w m':Cl} {n q B c e d:Nat} {X X' Y:Nd} {l:iO} {p:fO} {G G':Nat->Gh} {g g':Gh} {b b':bK} {rs us:List dH} {V:Nat->bK} {P:Nat->Option fO} {U:Nat->Bool} {Lt:iO->Prop} {pl:Pl} {sh:Nat->Int×Int} {sv:List lD}
end
end Go.Proofs.YtcomidffhiilcaaGreatDoor
