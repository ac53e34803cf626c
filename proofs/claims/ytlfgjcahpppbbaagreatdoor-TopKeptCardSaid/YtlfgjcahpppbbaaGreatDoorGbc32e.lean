import Derived.Test.YtlfgjcahpppbbaaGreatDoorGc7743
import Derived.Test.YtlfgjcahpppbbaaGreatDoorGfc156
set_option maxRecDepth 100000
set_option maxHeartbeats 8000000
set_option linter.unusedSimpArgs false
set_option linter.unusedVariables false
namespace Go.Proofs.YtlfgjcahpppbbaaGreatDoor
open ChangeShapes WideShapes RowKit
def Nd.crashed (X:Nd) (keep:Int):Nd:={ X.blank with up:=false,data:=(mY X.data X.syn keep).1,syn:=(mY X.data X.syn keep).2.1 }
section
variable {X:Nd} {rs us:List dD} {t:List UInt8} {f:Nat->bn} {q:Nat} {p:dB} {keep:Int}
theorem KD (h:uN X rs us) (hk:0<=keep): ∃ rs' t f,G7 (X.crashed keep) rs' t f/\ ∀ q,q<4->f q=jV (X.bs q)\/ ∃ p,X.pend=some p/\p.q=q/\MP X.bs p (f q):=by
 have hm:=h.may;have hd:X.data=bG rs++bG us:=by rw [h.data,lJ]
 have hl:=congrArg List.length hd;rw [List.length_append] at hl;have hs:=h.syn;obtain ⟨N,h1,h2,e⟩: ∃ N:Nat,(bG rs).length<=N/\N<=X.data.length/\mY X.data X.syn keep=(X.data.take N,(N:Int),0):=by
  unfold mY;rw [if_pos hm,if_neg oQ];by_cases c:(X.data.length:Int)-X.syn<keep
  ·rw [if_pos c];exact ⟨X.data.length,by omega,Nat.le_refl _,by rw [List.take_length]⟩
  rw [if_neg c];refine ⟨(X.syn+keep).toNat,by omega,by omega,?_⟩;rw [show (((X.syn+keep).toNat:Nat):Int)=X.syn+keep by omega]
 obtain ⟨j,t,g1,g2,g3⟩:=OG us (N-(bG rs).length) oQ;have e2:X.data.take N=bG (rs++us.take j)++t:=by
  rw [hd,List.take_append,List.take_of_length_le h1,g1,lJ,List.append_assoc]
 have hlen:(X.data.take N).length=N:=by rw [List.length_take];omega
 have key: ∀ f,iJ (rs++us.take j) f->(∀ q,q<4->au (f q)=0/\(f q).role≠2)->G7 (X.crashed keep) (rs++us.take j) t f:=λf hf hb=>by
  have hd':(X.crashed keep).data=X.data.take N:=by unfold Nd.crashed;dsimp only;rw [e]
  have hs':(X.crashed keep).syn=N:=by unfold Nd.crashed;dsimp only;rw [e]
  have:=h.len;exact ⟨by rw [hd',e2],g2,hf,hb,by rw [hd',hs',hlen];omega,by rw [hd',hlen];omega,rfl,rfl,λ_ _=>Qn⟩
 cases hp:X.pend with
 | none=>
  have hu:=h.ZY hp;refine ⟨_,t,λq=>jV (X.bs q),key _ ?_ λq hq=>V5 h.mP hq,λq _=> .inl rfl⟩;rw [hu,List.take_nil,List.append_nil];exact h.tape
 | some p=>
  obtain ⟨hu,hpo,hq⟩:=h.O4 p hp;obtain ⟨f',f1,f2,f3,f4,f5⟩:=acy h.tape h.mP hpo hq j;rw [<-hu] at f1;refine ⟨_,t,f',key _ f1 λq hq4=>?_,λq hq4=>?_⟩
  ·by_cases c:q=p.q
   ·subst c;exact ⟨f4,f5⟩
   rw [f2 q hq4 c];exact V5 h.mP hq4
  by_cases c:q=p.q
  ·subst c;exact .inr ⟨p,rfl,rfl,f3⟩
  exact .inl (f2 q hq4 c)
def iE (b:bn):bn:=⟨1,b.ep,0,0,0,b.evs++[aI]⟩
theorem Qo {s:Int} {f:Nat->bn}: ∀ {ql:List Nat} {rs:List dD} {g:Nat->bn} {d:List UInt8},ql.Nodup->(∀ q∈ql,q<4/\g q=f q)->iJ rs g->(∀ q,q<4->au (g q)=0)->(bG rs).length<=100000->eB s f ql (bG rs)=some d->
  ∃ ws,d=bG (rs++ws)/\iJ (rs++ws) (λq=>if q∈ql/\(f q).role=1 then iE (f q) else g q)/\d.length<=100000/\ ∀ q∈ql,(f q).role=1->au (iE (f q))=0/\dV (f q)=(iE (f q),0)
 | [],rs,g,d,_,_,hT,hb,hl,h=>by
  cases h;exact ⟨[],by simp,by simpa using hT,hl,by simp⟩
 | q::r,rs,g,d,hnd,hq,hT,hb,hl,h=>by
  rw [eB] at h;obtain ⟨h1,h2⟩:=List.nodup_cons.1 hnd;obtain ⟨hq4,hgq⟩:=hq q iQ;by_cases c1:(f q).role≠1
  ·rw [if_pos c1] at h;obtain ⟨ws,e1,e2,e3,e4⟩:=Qo h2 (λk hk=>hq k (by simp [hk])) hT hb hl h;refine ⟨ws,e1,e2.congr λk _=>?_,e3,λk hk hr=>?_⟩
   ·by_cases e:k=q
    ·subst e;rw [if_neg (λh=>c1 h.2),if_neg (λh=>c1 h.2)]
    simp [e]
   rcases List.mem_cons.1 hk with rfl | hk
   ·exact absurd hr c1
   exact e4 k hk hr
  rw [if_neg c1] at h;by_cases c2:(dV (f q)).2≠0
  ·rw [if_pos c2] at h;cases h
  rw [if_neg c2] at h;have hr1:=Classical.not_not.1 c1;obtain ⟨k1,k2⟩:=ZX hr1 c2
  split at h
  ·cases h
  rename_i d' hw
  obtain ⟨w1,w2,w3⟩:=qm hw;have hd':d'=bG (rs++[fG 2 q (f q).ep 0 aI]):=by rw [w1,lJ]
  have hbq:=hb q hq4;obtain ⟨a1,a2⟩:=TA (b:=g q) (q:=q) (e:=aI) hbq (by rw [hgq];exact hr1) rfl hq4 dQ (by rw [hgq];exact (eO k1).2);rw [hgq] at a1 a2 hbq;have hs:=fI hbq;unfold bq at hs;have hx:({ f q with evs:=(f q).evs++[aI] }:bn)=iE (f q):=by
   unfold iE;simp only [bn.mk.injEq,and_true,true_and];omega
  rw [hx] at a1;have hT2:=hT.snoc (q:=q) a2 hq4 rfl (by rw [hgq];exact a1);rw [hd'] at h;obtain ⟨ws,e1,e2,e3,e4⟩:=Qo h2 (g:=upd g q (iE (f q))) (λk hk=>⟨(hq k (by simp [hk])).1,by rw [upd_ne (λe:k=q=>h1 (e▸hk))];exact (hq k (by simp [hk])).2⟩) hT2
   (λk hk=>by
    by_cases e:k=q
    ·subst e;rw [upd_same];exact k1
    rw [upd_ne e];exact hb k hk) (by rw [<-hd'];exact w3 hl) h
  refine ⟨fG 2 q (f q).ep 0 aI::ws,by rw [e1,List.append_assoc];rfl,?_,e3,λk hk hr=>?_⟩
  ·rw [show rs++fG 2 q (f q).ep 0 aI::ws=rs++[fG 2 q (f q).ep 0 aI]++ws by rw [List.append_assoc];rfl];refine e2.congr λk _=>?_;by_cases e:k=q
   ·subst e;rw [if_neg (λh=>h1 h.1),upd_same,if_pos ⟨by simp,hr1⟩]
   rw [upd_ne e];simp [e]
  rcases List.mem_cons.1 hk with rfl | hk
  ·exact ⟨k1,k2⟩
  exact e4 k hk hr
end
section
variable {n q:Nat} {evs:List Ev} {an:List iM} {bs:Nat->bn}
structure tH (m m':Cl):Prop where
 ah:m'.ah=m.ah
 off:m'.off=m.off
 fly:m'.fly=m.fly
 bH:m'.bH=m.bH
 calls:m'.calls=m.calls
theorem tH.refl (m:Cl):tH m m:=⟨rfl,rfl,rfl,rfl,rfl⟩
theorem tH.trans {a b c:Cl} (h:tH a b) (h':tH b c):tH a c:=⟨h'.ah.trans h.ah,h'.off.trans h.off,h'.fly.trans h.fly,h'.bH.trans h.bH,h'.calls.trans h.calls⟩
theorem Pd (m:Cl) {e:Ev} {a:iM} {u:Int}:tH m (m.tell n q e a u):=⟨rfl,rfl,rfl,rfl,rfl⟩
theorem Cz: ∀ (il:List Nat) (m:Cl),tH m (m.recovered n q evs an il)/\(m.recovered n q evs an il).aQ.length=m.aQ.length+il.length
 | [],m=>⟨.refl m,rfl⟩
 | i::r,m=>by
  obtain ⟨h1,h2⟩:=Cz r (m.tell n q (evs.getD i aO) (an.getD i eD) (-1));rw [Cl.recovered];refine ⟨(Pd m).trans h1,?_⟩;rw [h2];unfold Cl.tell;simp only [List.length_append,List.length_cons,List.length_nil];omega
theorem Gl (m:Cl) (hl:((m.ah n).bs q).evs.length<=2000):tH m (m.recover n q)/\(m.recover n q).aQ.length<=m.aQ.length+2000:=by
 unfold Cl.recover
 split
 ·exact ⟨Pd m,by simp [Cl.tell]⟩
 obtain ⟨h1,h2⟩:=Cz (n:=n) (q:=q) (evs:=((m.ah n).bs q).evs) (an:=(av ((m.ah n).bs q).evs).2.1) ((List.range ((m.ah n).bs q).evs.length).drop (m.shown n q).2.toNat) m;refine ⟨h1,?_⟩;rw [h2,List.length_drop,List.length_range];omega
structure TP (m m':Cl) (n:Nat) (bs:Nat->bn):Prop where
 ah:m'.ah=upd m.ah n { m.ah n with bs:=bs }
 off:m'.off=m.off
 fly:m'.fly=m.fly
 bH:m'.bH=m.bH
 calls:m'.calls=m.calls
theorem Ei: ∀ (ql:List Nat) (m:Cl),ql.Nodup->(∀ q∈ql,(m.ah n).bs q=bs q/\(bs q).evs.length<=2000)->
  TP m (Cl.woken n bs ql m) n (λq=>if q∈ql/\(bs q).role=1 then (dV (bs q)).1 else (m.ah n).bs q)/\(Cl.woken n bs ql m).aQ.length<=m.aQ.length+2001*ql.length
 | [],m,_,_=>by
  refine ⟨⟨?_,rfl,rfl,rfl,rfl⟩,Nat.le_refl _⟩
  show m.ah=_
  refine (aF ?_).symm;simp
 | q::r,m,hnd,hq=>by
  obtain ⟨h1,h2⟩:=List.nodup_cons.1 hnd;obtain ⟨hq1,hq2⟩:=hq q iQ;rw [Cl.woken];by_cases c:(bs q).role≠1
  ·rw [if_pos c];obtain ⟨g1,g2⟩:=Ei r m h2 λk hk=>hq k (by simp [hk]);refine ⟨⟨?_,g1.off,g1.fly,g1.bH,g1.calls⟩,by rw [List.length_cons];omega⟩;rw [g1.ah];refine congrArg (λb=>upd m.ah n { m.ah n with bs:=b }) (funext λk=>?_);by_cases e:k=q
   ·subst e;rw [if_neg (λh=>c h.2),if_neg (λh=>c h.2)]
   simp [e]
  rw [if_neg c];obtain ⟨r1,r2⟩:=Gl (n:=n) (q:=q) m (by rw [hq1];exact hq2);have e1:((((m.recover n q).aK n q (dV (bs q)).1).tell n q aI eD (-1)).ah)=upd m.ah n { m.ah n with bs:=upd (m.ah n).bs q (dV (bs q)).1 }:=by
   show upd (m.recover n q).ah n { (m.recover n q).ah n with bs:=upd ((m.recover n q).ah n).bs q (dV (bs q)).1 }=_
   rw [r1.ah]
  obtain ⟨g1,g2⟩:=Ei r (((m.recover n q).aK n q (dV (bs q)).1).tell n q aI eD (-1)) h2 λk hk=>by
   rw [e1,upd_same];dsimp only;rw [upd_ne (λe:k=q=>h1 (e▸hk))];exact hq k (by simp [hk])
  refine ⟨⟨?_,g1.off.trans r1.off,g1.fly.trans r1.fly,g1.bH.trans r1.bH,g1.calls.trans r1.calls⟩,?_⟩
  ·rw [g1.ah,e1,qP,upd_same];refine congrArg (λb=>upd m.ah n { m.ah n with bs:=b }) (funext λk=>?_)
   show (if k∈r/\(bs k).role=1 then (dV (bs k)).1 else upd (m.ah n).bs q (dV (bs q)).1 k)=if k∈q::r/\(bs k).role=1 then (dV (bs k)).1 else (m.ah n).bs k
   by_cases e:k=q
   ·subst e;rw [if_neg (λh=>h1 h.1),upd_same,if_pos ⟨by simp,Classical.not_not.1 c⟩]
   rw [upd_ne e];simp [e]
  have:(((m.recover n q).aK n q (dV (bs q)).1).tell n q aI eD (-1)).aQ.length=(m.recover n q).aQ.length+1:=by
   unfold Cl.tell;simp [Cl.aK,Cl.put]
  rw [this] at g2;rw [List.length_cons];omega
end
def Src (b:bn) (l:dK):dB->Prop
 | .serve _ _ op num a=>l.kd=0/\op=l.op/\num=l.num/\a=(iw (av b.evs).1 l.op).2.1/\l.op.kind≠4/\b.evs.length<1999
 | .begun _ x=>l.kd=2/\x=⟨4,l.ep,l.fr,0,0,[]⟩
 | .got _ x last=>l.kd=4/\b.fr=l.fr/\b.ep=l.ep/\0<=l.at_/\l.at_<=b.evs.length/\(b.evs.drop l.at_.toNat).take l.evs.length=l.evs.take (b.evs.length-l.at_.toNat)/\b.evs.length<=l.at_.toNat+l.evs.length/\last=l.last/\x=wZ b l.at_ l.evs l.last
 | .gI _ _ a=>l.kd=3/\b.tg=l.fr/\b.ep+1=l.ep/\a=l.at_/\0<=l.at_/\l.at_<=b.evs.length
 | .forget _ _=>l.kd=6/\b.ep<l.ep
inductive Hnd (m:Cl) (n:Nat) (l:dK):Cl->Prop
 | same:Hnd m n l m
 | done (a:iM):l.kd=0->((gP ((m.ah n).bs l.q) l.op).2.2.1=false/\a=(gP ((m.ah n).bs l.q) l.op).2.1\/
   a=qU 14/\serves ((m.ah n).bs l.q)/\aX l.op=0/\eZ (m.ah n).data (m.ah n).syn [fG 2 l.q ((m.ah n).bs l.q).ep 0 l.op]=none/\good (((m.ah n).bs l.q).evs++[l.op]))->Hnd m n l (m.done n l.q l.op l.num a)
 | have_:((m.ah n).bs l.q).role=4->Hnd m n l (m.have_ n l.q)
 | part (b:bn):l.kd=3->0<=l.at_->l.at_<=((m.ah n).bs l.q).evs.length->(((m.ah n).bs l.q).role=2/\b={ (m.ah n).bs l.q with rd:=((m.ah n).bs l.q).rd+1 }/\((m.ah n).bs l.q).rd≠4\/((m.ah n).bs l.q).role=3/\b=(m.ah n).bs l.q)->
   ((m.ah n).bs l.q).tg=l.fr->au b=0->Hnd m n l ((m.aK n l.q b).part n l.q l.at_)
 | pend (p:dB) (Y:Nd) (d:List UInt8):(Y=m.ah n\/l.kd=6/\Y=(m.ah n).hear n l)->p.q=l.q->p.ok (m.ah n).bs->eZ (m.ah n).data (m.ah n).syn (p.rs (m.ah n).bs)=some d->Src ((m.ah n).bs l.q) l p->Hnd m n l (m.put n { Y with data:=d,pend:=some p })
 | hear:l.kd=6->Hnd m n l (m.put n ((m.ah n).hear n l))
section
variable {m:Cl} {n:Nat} {l:dK}
theorem rH {X x:Nd} {rs:List dD} (h:X.write rs=some x): ∃ d,eZ X.data X.syn rs=some d/\x={ X with data:=d }:=by
 unfold Nd.write at h;rw [Option.map_eq_some_iff] at h;obtain ⟨d,h1,h2⟩:=h;exact ⟨d,h1,h2.symm⟩
theorem YI {X:Nd} {rs:List dD} (h:X.write rs=none):eZ X.data X.syn rs=none:=by
 unfold Nd.write at h;rwa [Option.map_eq_none_iff] at h
theorem YJ {b:bn} {e:Ev} (h:au b=0) (hl:b.evs.length<1999) (hd:(iw (av b.evs).1 e).2.2.1=true):good (b.evs++[e]):=OL (jv h) oQ (aln hd) hd
theorem acS (hk:l.kd=0):Hnd m n l (m.serve n l):=by
 unfold Cl.serve
 split
 ·rename_i h
  exact .done _ hk (.inl ⟨h,rfl⟩)
 rename_i h
 obtain ⟨h1,h2,h3,h4,h5,h6,h7⟩:=Yz h;have hg:=YJ h1 h5 h4;rw [h7]
 split
 ·rename_i hw
  exact .done _ hk (.inr ⟨rfl,h3,h2,YI hw,hg⟩)
 rename_i x hw
 obtain ⟨d,hd,rfl⟩:=rH hw;exact .pend (.serve l.q (((m.ah n).bs l.q).evs++[l.op]) l.op l.num (iw (av ((m.ah n).bs l.q).evs).1 l.op).2.1) (m.ah n) d (.inl rfl) rfl ⟨h3,rfl,h2,hg⟩ hd ⟨hk,rfl,rfl,rfl,h6,h5⟩
theorem Vt (hk:l.kd=2):Hnd m n l (m.offered n l):=by
 unfold Cl.offered
 split
 ·exact .same
 rename_i h
 split
 ·rename_i h2
  exact .have_ (YA h h2).1
 rename_i h2
 obtain ⟨h3,h4,h5,h6,h7,h8,h9⟩:=ag5 h h2;rw [h9]
 split
 ·exact .same
 rename_i x hw
 obtain ⟨d,hd,rfl⟩:=rH hw;exact .pend (.begun l.q ⟨4,l.ep,l.fr,0,0,[]⟩) (m.ah n) d (.inl rfl) rfl ⟨h3,l.ep,l.fr,rfl,h4,h5,h6,h7,h8⟩ hd ⟨hk,rfl⟩
theorem YK (hb:au ((m.ah n).bs l.q)=0) (hk:l.kd=3):Hnd m n l (m.caught n l):=by
 unfold Cl.caught
 split
 ·exact .same
 rename_i h0
 split
 ·exact .same
 rename_i h
 obtain ⟨h1,h2,h3⟩:=Rz h;have nY:((m.ah n).bs l.q).tg=l.fr:=by
  by_cases e:((m.ah n).bs l.q).tg=l.fr
  ·exact e
  exact absurd (.inl e) h0
 have eF:((m.ah n).bs l.q).ep+1=l.ep:=by
  by_cases e:((m.ah n).bs l.q).ep+1=l.ep
  ·exact e
  exact absurd (.inr e) h0
 have hcg:=Iq hb (Classical.not_not.1 h)
 rcases h3 with ⟨h4,h5⟩ | ⟨h4,h6,h5⟩ | ⟨h4,h6,h5⟩
 ·rw [h5] at hcg⊢;rw [if_pos rfl];exact .part _ hk h1 h2 (.inr ⟨h4,rfl⟩) nY hcg
 ·rw [h5,if_neg (by show ¬ (3:Int)=_;omega)]
  split
  ·exact .same
  rename_i x hw
  obtain ⟨d,hd,rfl⟩:=rH hw;exact .pend (.gI l.q { (m.ah n).bs l.q with role:=3,rd:=0 } l.at_) (m.ah n) d (.inl rfl) rfl ⟨h4,rfl⟩ hd ⟨hk,nY,eF,rfl,h1,h2⟩
 rw [h5] at hcg⊢;rw [if_pos rfl];exact .part _ hk h1 h2 (.inl ⟨h4,rfl,λe=>h6 (.inr e)⟩) nY hcg
theorem Pe {b:bn} {at_:Int} {l:List Ev}:b.evs=(Js b at_ l).take b.evs.length:=by unfold Js;rw [List.take_left]
theorem TQ {b:bn} {at_:Int} {l:List Ev} (h0:0<=at_) (h1:at_<=b.evs.length) (h:b.evs.length<=at_.toNat+l.length):(Js b at_ l).length=at_.toNat+l.length:=by
 unfold Js;rw [List.length_append,List.length_drop];omega
theorem alu (hk:l.kd=4):Hnd m n l (m.got n l):=by
 unfold Cl.got
 split
 ·exact .same
 rename_i h0
 have hr:((m.ah n).bs l.q).role=4:=by
  by_cases e:((m.ah n).bs l.q).role=4
  ·exact e
  exact absurd (.inl e) h0
 have hfr:((m.ah n).bs l.q).fr=l.fr:=by
  by_cases e:((m.ah n).bs l.q).fr=l.fr
  ·exact e
  exact absurd (.inr e) h0
 split
 ·exact .have_ hr
 split
 ·exact .same
 rename_i h2 h3
 have h: ¬ (dn ((m.ah n).bs l.q) l.ep l.at_ l.evs l.last).2≠0:=λe=>h3 (.inl e);have hne: ¬ (dn ((m.ah n).bs l.q) l.ep l.at_ l.evs l.last).1.evs.length=((m.ah n).bs l.q).evs.length:=λe=>h3 (.inr e);obtain ⟨g1,g2,g3,g4,g5,g6,g7,g8⟩:=acv h;rw [g8] at hne⊢;have hlen:((m.ah n).bs l.q).evs.length<=l.at_.toNat+l.evs.length:=by
  cases hl:l.last with
  | true=>exact g6 hl
  | false=>
   unfold wZ Js at hne;rw [if_neg (by rw [hl];simp)] at hne;dsimp only at hne;rw [List.length_append,List.length_drop] at hne;omega
 have hil:=TQ g3 g4 hlen;have hgd:=jv g7;have hrs:(dB.got l.q (wZ ((m.ah n).bs l.q) l.at_ l.evs l.last) l.last).rs (m.ah n).bs=uK l.q (wZ ((m.ah n).bs l.q) l.at_ l.evs l.last) ((m.ah n).bs l.q).evs.length (l.at_.toNat+l.evs.length) l.last:=by
  show uK _ _ _ _ _=_
  congr 1
  unfold wZ
  cases l.last with
  | true=>simp only [if_true,List.length_append,List.length_singleton];omega
  | false=>simp only [Bool.false_eq_true,if_false];omega
 split
 ·exact .same
 rename_i x hw
 obtain ⟨d,hd,rfl⟩:=rH hw;refine .pend (.got l.q (wZ ((m.ah n).bs l.q) l.at_ l.evs l.last) l.last) (m.ah n) d (.inl rfl) rfl ⟨hr,hgd,Ky rfl hgd,λhl=>?_,λhl=>?_⟩ (by rw [hrs];exact hd) ⟨hk,hfr,g2,g3,g4,g5,hlen,rfl,rfl⟩
 ·unfold wZ;rw [hl,if_neg iQ];exact ⟨rfl,Pe⟩
 refine ⟨Js ((m.ah n).bs l.q) l.at_ l.evs,?_,Pe⟩;unfold wZ;rw [if_pos hl]
theorem YL (hk:l.kd=6):Hnd m n l (m.learnt n l):=by
 unfold Cl.learnt
 split
 ·exact .hear hk
 rename_i h
 obtain ⟨h1,h2,h3⟩:=acw h;rw [h3]
 split
 ·exact .hear hk
 rename_i x hw
 obtain ⟨d,hd,rfl⟩:=rH hw;exact .pend (.forget l.q ⟨0,((m.ah n).bs l.q).ep,0,0,0,[]⟩) ((m.ah n).hear n l) d (.inr ⟨hk,rfl⟩) rfl ⟨h1,rfl⟩ hd ⟨hk,h2⟩
theorem hnd (hb: ∀ q,q<4->au ((m.ah n).bs q)=0) (hl:l.ok):Hnd m n l (m.handle n l):=by
 obtain ⟨h1,h2,h3⟩:=hl;unfold Cl.handle
 rcases h3 with h | h | h | h | h
 ·rw [if_pos h];exact acS h
 ·rw [if_neg oQ,if_pos h];exact Vt h
 ·rw [if_neg oQ,if_neg oQ,if_pos h];exact YK (hb _ h1) h
 ·rw [if_neg oQ,if_neg oQ,if_neg oQ,if_pos h];exact alu h
 rw [if_neg oQ,if_neg oQ,if_neg oQ,if_neg oQ];exact YL h
end
structure zF (a:Ac):Prop where
 kd:1<=a.kd/\a.kd<=10
 nd:0<=a.nd/\a.nd<=4
 qu:0<=a.qu/\a.qu<=3
 at_:0<=a.at_/\a.at_<=1048576
 kp:0<=a.kp/\a.kp<=100000
 op:a.kd=2->aX a.op=0/\a.op.kind≠4
theorem RI {x:Ac} (h:bY x=0):zF x:=by
 cases hf:bP x.kd x.ek with
 | none=>rw [Zp hf] at h;cases h
 | some l=>
  by_cases ha:l.all (Oi x)=true
  ·by_cases hz:fin x l=zeros
   ·have hk:=akx ((aga hf).2 hz);clear h hz;obtain ⟨kd,nd,qu,at_,kp,ek,ep,ei,eb,eh,en⟩:=x
    rcases kinds kd ek with rfl | rfl | rfl | rfl | rfl | rfl | rfl | rfl | rfl | ⟨rfl,rfl⟩ | ⟨rfl,rfl⟩ | ⟨rfl,rfl⟩ | hn
    all_goals first
     | (dsimp only at hf;rw [hn] at hf;cases hf;done)
     | (simp [bP] at hf;subst hf;simp [keep] at hk;simp [Oi,Ac.get,Ac.ints] at ha;exact ⟨by dsimp only;omega,by dsimp only;omega,by dsimp only;omega,by dsimp only;omega,by dsimp only;omega,by (intro hk2;first | (simp at hk2;done) | (refine ⟨?_,by simp [Ac.op]⟩;simp [Ac.op,aX,jP,hk,ha]))⟩)
   rw [Qf hf ha hz] at h;cases h
  rw [Ki hf ha] at h;cases h
def ko (l:dK):Prop:=l.q<4/\l.evs.length<=3/\(l.tg= -1\/(l.tg= -2/\0<=l.fr/\l.fr<5/\l.kd=5)\/(0<=l.tg/\l.tg<5/\(l.kd=0\/l.kd=2\/l.kd=3\/l.kd=4\/l.kd=6)))/\(l.kd=0->aX l.op=0/\l.op.kind≠4)
theorem nk {k:Int} {P:Prop} (h:k≠0):k=0->P:=λe=>absurd e h
theorem ko.ok {l:dK} (h:ko l) (ht:0<=l.tg):l.ok:=by
 obtain ⟨h1,h2,h3 | h3 | h3,_⟩:=h
 ·omega
 ·omega
 exact ⟨h1,by omega,h3.2.2⟩
section
variable {n q:Nat} {b:bn} {u:Int} {a:iM} {p:Pl}
theorem KE:ko (lK n u a p):=⟨by show 0<4;omega,by show 0<=3;omega,.inl rfl,nk (by show (1:Int)≠0;decide)⟩
theorem Qp (hq:q<4) (hr:b.role=4) (hb:au b=0):ko (oC n q b):=by
 have hs:=fI hb;unfold bq at hs;refine ⟨hq,by show 0<=3;omega,.inr (.inr ⟨by show 0<=b.fr;omega,by show b.fr<5;omega,.inr (.inr (.inl rfl))⟩),nk (by show (3:Int)≠0;decide)⟩
theorem anj (hr:b.role=2\/b.role=3) (hb:au b=0):0<=b.tg/\b.tg<5:=by
 have hs:=fI hb;unfold bq at hs;omega
theorem alv {at_:Int} (hq:q<4) (hb:au b=0) (h: ¬ (iK b at_).2.2≠0):ko (II n q b at_):=by
 obtain ⟨h1,h2,h3,h4⟩:=O1 h;obtain ⟨h5,h6⟩:=anj h1 hb;refine ⟨hq,?_,.inr (.inr ⟨h5,h6,.inr (.inr (.inr (.inl rfl)))⟩),nk (by show (4:Int)≠0;decide)⟩
 show (iK b at_).1.length<=3
 rw [h4];dsimp only;rw [List.length_take];omega
theorem ahc (hq:q<4) (hr:b.role=2\/b.role=3) (hb:au b=0):ko (vQ n q b):=by
 obtain ⟨h5,h6⟩:=anj hr hb;exact ⟨hq,by show 0<=3;omega,.inr (.inr ⟨h5,h6,.inr (.inl rfl)⟩),nk (by show (2:Int)≠0;decide)⟩
theorem ar4 (hq:q<4) (hn:n<5):ko (Si n q):=⟨hq,by show 0<=3;omega,.inr (.inl ⟨rfl,by show 0<=(n:Int);omega,by show (n:Int)<5;omega,rfl⟩),nk (by show (5:Int)≠0;decide)⟩
theorem alx (hq:q<4) (hn:n<5):ko (MK n q b):=⟨hq,by show 0<=3;omega,.inr (.inl ⟨rfl,by show 0<=(n:Int);omega,by show (n:Int)<5;omega,rfl⟩),nk (by show (5:Int)≠0;decide)⟩
theorem aly {s:Bool} (hq:q<4) (hn:n<5) (hb:au b=0):(∀ l∈iN n q b s,ko l)/\(iN n q b s).length<=3:=by
 unfold iN;refine ⟨λl hl=>?_,?_⟩
 ·rcases List.mem_append.1 hl with hl | hl
  ·rcases List.mem_append.1 hl with hl | hl
   ·split at hl
    ·rename_i hr;rw [List.mem_singleton] at hl;subst hl;exact ahc hq hr hb
    simp at hl
   split at hl
   ·rw [List.mem_singleton] at hl;subst hl;exact ar4 hq hn
   simp at hl
  split at hl
  ·rw [List.mem_singleton] at hl;subst hl;exact alx hq hn
  simp at hl
 rw [List.length_append,List.length_append]
 split<;>split<;>split<;>simp
end
def Cl.tot (m:Cl):Nat:=m.fly.length+((m.ah 0).inbox.length+((m.ah 1).inbox.length+((m.ah 2).inbox.length+((m.ah 3).inbox.length+(m.ah 4).inbox.length))))
theorem five {n:Nat} (hn:n<5):n=0\/n=1\/n=2\/n=3\/n=4:=oQ
theorem ar5 {m m':Cl} {n d:Nat} (hn:n<5) (ho: ∀ j,j≠n->m'.ah j=m.ah j) (h:m'.fly.length+(m'.ah n).inbox.length<=m.fly.length+(m.ah n).inbox.length+d):m'.tot<=m.tot+d:=by
 unfold Cl.tot
 rcases five hn with rfl | rfl | rfl | rfl | rfl
 ·rw [ho 1 dQ,ho 2 dQ,ho 3 dQ,ho 4 dQ];omega
 ·rw [ho 0 dQ,ho 2 dQ,ho 3 dQ,ho 4 dQ];omega
 ·rw [ho 0 dQ,ho 1 dQ,ho 3 dQ,ho 4 dQ];omega
 ·rw [ho 0 dQ,ho 1 dQ,ho 2 dQ,ho 4 dQ];omega
 rw [ho 0 dQ,ho 1 dQ,ho 2 dQ,ho 3 dQ];omega
theorem uV {l:dK} {n:Nat} (h:ko l/\l.tg=n):l.ok:=h.1.ok (by rw [h.2];omega)
theorem Pf (m:Cl) {n:Nat} (hn:n<5):m.fly.length+(m.ah n).inbox.length<=m.tot:=by
 unfold Cl.tot
 rcases five hn with rfl | rfl | rfl | rfl | rfl<;>omega
structure dM (m:Cl) (T S D K:Nat):Prop where
 kr: ∀ n,n<5->G8 (m.ah n)
 qC: ∀ l∈m.fly,ko l
 lC: ∀ n,n<5-> ∀ l∈(m.ah n).inbox,ko l/\l.tg=n
 room:m.tot<=T
 aQ:m.aQ.length<=S
 bH:m.bH.length<=D
 turn: ∀ n,n<5->(m.ah n).turn<=K
 calls:m.calls<=K
theorem dM.mono {m:Cl} {T S D K T' S' D' K':Nat} (h:dM m T S D K) (h1:T<=T') (h2:S<=S') (h3:D<=D') (h4:K<=K'):dM m T' S' D' K':=
 ⟨h.kr,h.qC,h.lC,Nat.le_trans h.room h1,Nat.le_trans h.aQ h2,Nat.le_trans h.bH h3,λn hn=>Nat.le_trans (h.turn n hn) h4,Nat.le_trans h.calls h4⟩
section
variable {m m':Cl} {n:Nat} {l:dK} {rs:List dD} {T S D K:Nat}
theorem dM.at_ (h:dM m T S D K) (hn:n<5) (ho: ∀ j,j≠n->m'.ah j=m.ah j) (hk:G8 (m'.ah n)) (hl: ∀ l∈m'.fly,l∈m.fly\/ko l) (hi: ∀ l∈(m'.ah n).inbox,l∈(m.ah n).inbox\/(ko l/\l.tg=n))
  {c s d u:Nat} (h1:m'.fly.length+(m'.ah n).inbox.length<=m.fly.length+(m.ah n).inbox.length+c) (h2:m'.aQ.length<=m.aQ.length+s) (h3:m'.bH.length<=m.bH.length+d) (h4:(m'.ah n).turn<=(m.ah n).turn+u) (h5:m'.calls<=m.calls+u):dM m' (T+c) (S+s) (D+d) (K+u):=by
 refine ⟨λj hj=>?_,λl hl'=>(hl l hl').elim (h.qC l) id,λj hj=>?_,?_,?_,?_,λj hj=>?_,?_⟩
 ·by_cases e:j=n
  ·subst e;exact hk
  rw [ho j e];exact h.kr j hj
 ·by_cases e:j=n
  ·subst e;exact λl hl'=>(hi l hl').elim (h.lC j hj l) id
  rw [ho j e];exact h.lC j hj
 ·have:=ar5 hn ho h1;have:=h.room;omega
 ·have:=h.aQ;omega
 ·have:=h.bH;omega
 ·by_cases e:j=n
  ·subst e;have:=h.turn j hj;omega
  rw [ho j e];have:=h.turn j hj;omega
 have:=h.calls;omega
structure Keep (m m':Cl):Prop where
 bH:m'.bH=m.bH
 calls:m'.calls=m.calls
 off:m'.off=m.off
theorem Keep.refl (m:Cl):Keep m m:=⟨rfl,rfl,rfl⟩
theorem Keep.trans {a b c:Cl} (h:Keep a b) (h':Keep b c):Keep a c:=⟨h'.bH.trans h.bH,h'.calls.trans h.calls,h'.off.trans h.off⟩
theorem CB {q:Nat} {op:Ev} {u:Int} {a:iM}:Keep m (m.done n q op u a)/\(m.done n q op u a).ah=m.ah/\ ∃ l,ko l/\(m.done n q op u a).fly=m.fly++[l]:=by
 unfold Cl.done
 split
 ·exact ⟨⟨rfl,rfl,rfl⟩,rfl,_,KE,rfl⟩
 exact ⟨⟨rfl,rfl,rfl⟩,rfl,_,KE,rfl⟩
theorem uR {q:Nat} {a:Int}:Keep m (m.part n q a)/\(m.part n q a).ah=m.ah/\(m.part n q a).fly=kZ n q ((m.ah n).bs q) a m.fly:=by
 unfold Cl.part kZ
 split
 ·exact ⟨⟨rfl,rfl,rfl⟩,rfl,rfl⟩
 exact ⟨⟨rfl,rfl,rfl⟩,rfl,rfl⟩
theorem Pg {q:Nat} {b:bn} {a:Int} {fl:List dK} (hq:q<4) (hb:au b=0): ∀ l∈kZ n q b a fl,l∈fl\/ko l:=λl hl=>by
 unfold kZ at hl
 split at hl
 ·exact .inl hl
 rename_i h
 rcases List.mem_append.1 hl with hl | hl
 ·exact .inl hl
 rw [List.mem_singleton] at hl;subst hl;exact .inr (alv hq hb h)
theorem acT {q:Nat} {b:bn} {a:Int} {fl:List dK}:(kZ n q b a fl).length<=fl.length+1:=by
 unfold kZ
 split
 ·omega
 simp
theorem Bp {fl:List dK} {x:dK} (hx:ko x): ∀ l∈fl++[x],l∈fl\/ko l:=λl hl=>by
 rcases List.mem_append.1 hl with hl | hl
 ·exact .inl hl
 rw [List.mem_singleton] at hl;subst hl;exact .inr hx
theorem ar6 (hq:l.q<4) (h:uN (m.ah n) rs []) (hp:(m.ah n).pend=none) (H:Hnd m n l m'):(∃ us,uN (m'.ah n) rs us)/\(∀ x∈m'.fly,x∈m.fly\/ko x)/\Keep m m':=by
 cases H with
 | same=>exact ⟨⟨_,h⟩,λx hx=> .inl hx,.refl m⟩
 | done a h1 h2=>
  obtain ⟨h3,h4,l',h5,h6⟩:=CB (m:=m) (n:=n) (q:=l.q) (op:=l.op) (u:=l.num) (a:=a);exact ⟨⟨[],by rw [h4];exact h⟩,by rw [h6];exact Bp h5,h3⟩
 | have_ h1=>exact ⟨⟨[],h⟩,Bp (Qp hq h1 (h.mP _ hq)),⟨rfl,rfl,rfl⟩⟩
 | part b h1 h2 h3 h4 h5 h6=>
  obtain ⟨g1,g2,g3⟩:=uR (m:=m.aK n l.q b) (n:=n) (q:=l.q) (a:=l.at_);have e:(m.aK n l.q b).ah n=(m.ah n).aK l.q b:=dw _;refine ⟨⟨[],?_⟩,?_,?_⟩
  ·rw [g2,e];refine ⟨h.data,h.syn,h.tape.congr λk hk=>?_,λk hk=>?_,h.ZY,λp hp'=>?_,h.len⟩
   ·show jV ((m.ah n).bs k)=jV (upd (m.ah n).bs l.q b k)
    by_cases e:k=l.q
    ·rw [e,upd_same]
     rcases h4 with ⟨h4,h7,_⟩ | ⟨_,h7⟩
     ·rw [h7];unfold jV;rw [if_pos h4,if_pos h4]
     rw [h7]
    rw [upd_ne e]
   ·show au (upd (m.ah n).bs l.q b k)=0
    by_cases e:k=l.q
    ·rw [e,upd_same];exact h6
    rw [upd_ne e];exact h.mP k hk
   exact absurd (hp'.symm.trans hp) iQ
  ·rw [g3,e,show ((m.ah n).aK l.q b).bs l.q=b from upd_same _ _ _];exact Pg hq h6
  exact (⟨rfl,rfl,rfl⟩:Keep m (m.aK n l.q b)).trans g1
 | pend p Y d h1 h2 h3 h4 h5=>
  obtain ⟨w1,w2,w3⟩:=qm h4;have hY:Y.bs=(m.ah n).bs/\Y.syn=(m.ah n).syn:=by rcases h1 with h1 | ⟨_,h1⟩<;>rw [h1]<;>exact ⟨rfl,rfl⟩
  refine ⟨⟨p.rs (m.ah n).bs,?_⟩,λx hx=> .inl hx,⟨rfl,rfl,rfl⟩⟩;rw [dw];refine ⟨?_,hY.2.trans h.syn,?_,?_,λe=>(by cases e),λp' e=>?_,w3 h.len⟩
  ·show d=_;rw [w1,h.data,List.append_nil,lJ]
  ·dsimp only;rw [hY.1];exact h.tape
  ·dsimp only;rw [hY.1];exact h.mP
  cases e;dsimp only;rw [hY.1];exact ⟨rfl,h3,by rw [h2];exact hq⟩
 | hear h1=>
  refine ⟨⟨[],?_⟩,λx hx=> .inl hx,⟨rfl,rfl,rfl⟩⟩;rw [dw];exact ⟨h.data,h.syn,h.tape,h.mP,h.ZY,h.O4,h.len⟩
theorem Bt {n:Nat} (P:Cl->Prop) (hstep: ∀ m l r,P m->(m.ah n).pend=none->(m.ah n).inbox=l::r->l.q<4/\P ((m.put n ((m.ah n).box r)).handle n l)): ∀ (k:Nat) (m:Cl),(m.ah n).inbox.length=k->P m->P (m.more n):=by
 intro k
 induction k with
 | zero=>
  intro m hk h;rw [TN (List.length_eq_zero_iff.1 hk)];exact h
 | succ k ih=>
  intro m hk h
  cases hp:(m.ah n).pend with
  | some p=>rw [He (by rw [hp];simp)];exact h
  | none=>
   cases hi:(m.ah n).inbox with
   | nil=>rw [hi] at hk;simp at hk
   | cons l r=>
    obtain ⟨hq,h2⟩:=hstep m l r h hp hi;rw [O6 hp hi hq];have e:=(vo (m:=m.put n ((m.ah n).box r)) (n:=n) (l:=l) hq).lC;have e2:((m.put n ((m.ah n).box r)).ah n).inbox=r:=by rw [dw];rfl
    exact ih _ (by rw [e,e2];rw [hi] at hk;simpa using hk) h2
structure Rdg (m0:Cl) (n:Nat) (rs:List dD) (m:Cl):Prop where
 up:(m.ah n).up=true
 tape: ∃ us,uN (m.ah n) rs us
 sj: ∀ j,j≠n->m.ah j=m0.ah j
 qC: ∀ l∈m.fly,l∈m0.fly\/ko l
 lC: ∀ l∈(m.ah n).inbox,l∈(m0.ah n).inbox
 cnt:m.fly.length+(m.ah n).inbox.length<=m0.fly.length+(m0.ah n).inbox.length
 aQ:m.aQ.length+(m.ah n).inbox.length<=m0.aQ.length+(m0.ah n).inbox.length
 keep:Keep m0 m
 trn:(m.ah n).turn=(m0.ah n).turn
theorem afl {X:Nd} {r:List dK} {us:List dD} (h:uN X rs us):uN (X.box r) rs us:=⟨h.data,h.syn,h.tape,h.mP,h.ZY,h.O4,h.len⟩
theorem Bu {m1:Cl} {r:List dK} (hi: ∀ l∈(m.ah n).inbox,l.ok) (H:Rdg m n rs m1) (hp:(m1.ah n).pend=none) (hin:(m1.ah n).inbox=l::r):
  l.ok/\uN ((m1.put n ((m1.ah n).box r)).ah n) rs []/\Hnd (m1.put n ((m1.ah n).box r)) n l ((m1.put n ((m1.ah n).box r)).handle n l)/\Rdg m n rs ((m1.put n ((m1.ah n).box r)).handle n l):=by
 have hl:l∈(m1.ah n).inbox:=by rw [hin];simp
 have hok:=hi l (H.lC l hl);obtain ⟨us,hU⟩:=H.tape;have hus:=hU.ZY hp;subst hus;have hq:=hok.1;have e0:(m1.put n ((m1.ah n).box r)).ah n=(m1.ah n).box r:=dw _;have RJ:uN ((m1.put n ((m1.ah n).box r)).ah n) rs []:=by rw [e0];exact afl hU
 have hH:=hnd RJ.mP hok;refine ⟨hok,RJ,hH,?_⟩;have E:=vo (m:=m1.put n ((m1.ah n).box r)) (n:=n) (l:=l) hq;obtain ⟨g1,g2,g3⟩:=ar6 hq RJ (by rw [e0];exact hp) hH;have ei:=E.lC;rw [e0] at ei;have e1:(m1.put n ((m1.ah n).box r)).fly=m1.fly:=rfl;have e2:(m1.put n ((m1.ah n).box r)).aQ=m1.aQ:=rfl;have e3:((m1.ah n).box r).inbox=r:=rfl;have c1:=H.cnt;have c2:=H.aQ;have c3:=E.fly;have c4:=E.aQ;rw [hin,List.length_cons] at c1 c2;rw [e1] at c3;rw [e2] at c4;refine ⟨by rw [E.up,e0];exact H.up,g1,λj hj=>?_,λx hx=>(g2 x hx).elim (H.qC x) .inr,λx hx=>?_,?_,?_,H.keep.trans ((⟨rfl,rfl,rfl⟩:Keep m1 (m1.put n ((m1.ah n).box r))).trans g3),by rw [E.trn,e0];exact H.trn⟩
 ·rw [E.sj j hj]
  show upd m1.ah n _ j=_
  rw [upd_ne hj];exact H.sj j hj
 ·rw [ei,e3] at hx;exact H.lC x (by rw [hin];simp [hx])
 ·rw [ei,e3];omega
 rw [ei,e3];omega
theorem RL (hu:(m.ah n).up=true) (h: ∃ us,uN (m.ah n) rs us):Rdg m n rs m:=⟨hu,h,λ_ _=>rfl,λ_ h=> .inl h,λ_ h=>h,Nat.le_refl _,Nat.le_refl _,.refl m,rfl⟩
theorem TR (hu:(m.ah n).up=true) (h: ∃ us,uN (m.ah n) rs us) (hi: ∀ l∈(m.ah n).inbox,l.ok):Rdg m n rs (m.more n):=
 Bt (n:=n) (Rdg m n rs) (λ_ _ _ H hp hin=>by obtain ⟨h1,_,_,h4⟩:=Bu hi H hp hin;exact ⟨h1.1,h4⟩) _ m rfl (RL hu h)
theorem Ph {X:Nd} {p:dB} (hX:m.ah n=X) (hu:X.up=true) (hp:X.pend=some p) (hq:p.q<4) (hf:au (p.b X.bs)=0) (hpo:p.ok X.bs):
  ∃ Y:Nd,(m.step n).ah=upd m.ah n Y/\Y.bs=upd X.bs p.q (p.b X.bs)/\Y.data=X.data/\Y.syn=X.data.length/\Y.pend=none/\Y.up=true/\Y.inbox=X.inbox/\Y.turn=X.turn/\Keep m (m.step n)/\
   (∀ l∈(m.step n).fly,l∈m.fly\/ko l)/\(m.step n).fly.length<=m.fly.length+1/\(m.step n).aQ.length<=m.aQ.length+1:=by
 cases p with
 | serve q evs op num a=>
  rw [lg hX hu hp rfl hpo.1];exact ⟨_,rfl,rfl,rfl,rfl,rfl,hu,rfl,rfl,⟨rfl,rfl,rfl⟩,Bp KE,by simp,by simp⟩
 | begun q b=>
  rw [rG hX hu hp];obtain ⟨_,e,f,rfl,_⟩:=hpo;exact ⟨_,rfl,rfl,rfl,rfl,rfl,hu,rfl,rfl,⟨rfl,rfl,rfl⟩,Bp (Qp hq rfl hf),by simp,by simp [Cl.put]⟩
 | got q b last=>
  cases last with
  | true=>
   rw [mF hX hu hp];exact ⟨_,rfl,rfl,rfl,rfl,rfl,hu,rfl,rfl,⟨rfl,rfl,rfl⟩,λl hl=> .inl hl,by simp [Cl.put],by simp⟩
  | false=>
   rw [xM hX hu hp];have hr:b.role=4:=by
    have:=(hpo.2.2.2.1 rfl).1;rw [this];exact hpo.1
   exact ⟨_,rfl,rfl,rfl,rfl,rfl,hu,rfl,rfl,⟨rfl,rfl,rfl⟩,Bp (Qp hq hr hf),by simp,by simp [Cl.put]⟩
 | gI q b at_=>
  rw [uP hX hu hp];exact ⟨_,rfl,rfl,rfl,rfl,rfl,hu,rfl,rfl,⟨rfl,rfl,rfl⟩,Pg hq hf,acT,by simp [Cl.put]⟩
 | forget q b=>
  rw [pK hX hu hp];exact ⟨_,rfl,rfl,rfl,rfl,rfl,hu,rfl,rfl,⟨rfl,rfl,rfl⟩,λl hl=> .inl hl,by simp [Cl.put],by simp [Cl.put]⟩
theorem acV {X Y:Nd} {p:dB} {us:List dD} (h:uN X rs us) (hp:X.pend=some p) (hb:Y.bs=upd X.bs p.q (p.b X.bs)) (hd:Y.data=X.data) (hs:Y.syn=X.data.length) (hn:Y.pend=none):uN Y (rs++us) []:=by
 obtain ⟨hu,hpo,hq⟩:=h.O4 p hp;obtain ⟨h1,h2⟩:=kT h.tape h.mP hpo hq;refine ⟨by rw [hd,h.data,List.append_nil],by rw [hs,h.data],?_,λk hk=>?_,λ_=>rfl,λp' e=>(by rw [hn] at e;cases e),by rw [hd];exact h.len⟩
 ·rw [hb,hu];exact h1
 rw [hb];by_cases e:k=p.q
 ·rw [e,upd_same];exact h2
 rw [upd_ne e];exact h.mP k hk
theorem acW (h:dM m T S D K) (hn:n<5):dM (m.step n) (T+3) (S+T+1) D (K+1):=by
 cases hu:(m.ah n).up with
 | false=>rw [uO hu];exact h.mono oQ oQ oQ oQ
 | true=>
  obtain ⟨rs,us,hU⟩:=(h.kr n hn).Cx hu;have hT:=Pf m hn;have hT2:=h.room
  cases hp:(m.ah n).pend with
  | some p=>
   obtain ⟨h1,h2,h3⟩:=hU.O4 p hp;obtain ⟨_,hf⟩:=kT hU.tape hU.mP h2 h3;obtain ⟨Y,y1,y2,y3,y4,y5,y6,y7,y8,y9,y10,y11,y12⟩:=Ph rfl hu hp h3 hf h2;have eY:(m.step n).ah n=Y:=by rw [y1];exact upd_same _ _ _
   have hUY:=acV hU hp y2 y3 y4 y5;refine (h.at_ (c:=1) (s:=1) (d:=0) (u:=0) hn (λj hj=>by rw [y1,upd_ne hj]) ?_ y10 ?_ ?_ y12 (by rw [y9.bH];omega) (by rw [eY,y8];omega) (by rw [y9.calls];omega)).mono oQ oQ oQ oQ
   ·rw [eY];exact .inl ⟨y6,_,_,hUY⟩
   ·rw [eY,y7];exact λl hl=> .inl hl
   rw [eY,y7];omega
  | none=>
   have R:=TR hu ⟨us,hU⟩ λl hl=>uV (h.lC n hn l hl);have c:=R.cnt;have c2:=R.aQ;obtain ⟨us',RJ⟩:=R.tape;rw [nM hu hp]
   split
   ·rename_i hp2
    have e:(((m.more n).wY n).ah n)={ (m.more n).ah n with turn:=((m.more n).ah n).turn+1 }:=dw _;have hqq:((m.more n).ah n).turn % 4<4:=Nat.mod_lt _ dQ;obtain ⟨d1,d2⟩:=aly (n:=n) (s:=((m.more n).ah n).sure (((m.more n).ah n).turn % 4)) hqq hn (RJ.mP _ hqq);refine (h.at_ (c:=3) (s:=T) (d:=0) (u:=1) hn (λj hj=>?_) ?_ (λl hl=>?_) ?_ ?_ ?_ ?_ ?_ ?_).mono oQ oQ oQ oQ
    ·show upd (m.more n).ah n _ j=_
     rw [upd_ne hj];exact R.sj j hj
    ·rw [e];exact .inl ⟨R.up,rs,us',⟨RJ.data,RJ.syn,RJ.tape,RJ.mP,RJ.ZY,RJ.O4,RJ.len⟩⟩
    ·rcases List.mem_append.1 hl with hl | hl
     ·exact R.qC l hl
     exact .inr (d1 l hl)
    ·rw [e];exact λl hl=> .inl (R.lC l hl)
    ·rw [e]
     show ((m.more n).fly++_).length+((m.more n).ah n).inbox.length<=_
     rw [List.length_append];have:=d2;omega
    ·show (m.more n).aQ.length<=_;omega
    ·show (m.more n).bH.length<=_;rw [R.keep.bH];omega
    ·rw [e];show ((m.more n).ah n).turn+1<=_;rw [R.trn];exact Nat.le_refl _
    show (m.more n).calls<=_;rw [R.keep.calls];omega
   refine (h.at_ (c:=0) (s:=T) (d:=0) (u:=0) hn R.sj (.inl ⟨R.up,rs,us',RJ⟩) R.qC (λl hl=> .inl (R.lC l hl)) oQ oQ (by rw [R.keep.bH];omega) (by rw [R.trn];omega) (by rw [R.keep.calls];omega)).mono oQ oQ oQ oQ
theorem Hf (h:dM m T S D K) (hl:ko l):dM (m.come l) (T+1) S (D+1) K:=by
 have hroom:=h.room;have htot: ∀ fl,({ m with fly:=fl }:Cl).tot+m.fly.length=m.tot+fl.length:=λfl=>by unfold Cl.tot;dsimp only;omega
 obtain ⟨hq,hv,h1 | ⟨h1,h2,h3,_⟩ | ⟨h1,h2,h3⟩,_⟩:=id hl
 ·have e:m.come l={ m with bH:=m.bH++[l.bH] }:=if_pos h1;rw [e];exact ⟨h.kr,h.qC,h.lC,by show m.tot<=_;omega,h.aQ,by show (m.bH++_).length<=_;have:=h.bH;simp;omega,h.turn,h.calls⟩
 ·unfold Cl.come;rw [if_neg oQ,if_pos h1]
  split
  ·refine ⟨h.kr,λx hx=>?_,h.lC,?_,h.aQ,by have:=h.bH;show m.bH.length<=_;omega,h.turn,h.calls⟩
   ·rcases List.mem_append.1 hx with hx | hx
    ·exact h.qC x hx
    rw [List.mem_singleton] at hx;subst hx;exact ⟨hq,by show 0<=3;omega,.inr (.inr ⟨h2,h3,.inr (.inr (.inr (.inr rfl)))⟩),nk (by show (6:Int)≠0;decide)⟩
   have:=htot (m.fly++[lS l.fr l.q (aY (fu m.off l) l.q).1]);rw [List.length_append,List.length_singleton] at this
   show Cl.tot { m with fly:=_ }<=_
   omega
  exact ⟨h.kr,h.qC,h.lC,by show m.tot<=_;omega,h.aQ,by have:=h.bH;show m.bH.length<=_;omega,h.turn,h.calls⟩
 have hn:l.tg.toNat<5:=oQ;unfold Cl.come;rw [if_neg oQ,if_neg oQ]
 split
 ·rename_i hu
  have e:(m.put l.tg.toNat { m.ah l.tg.toNat with inbox:=(m.ah l.tg.toNat).inbox++[l] }).ah l.tg.toNat=(m.ah l.tg.toNat).box ((m.ah l.tg.toNat).inbox++[l]):=dw _;obtain ⟨rs,us,hU⟩:=(h.kr _ hn).Cx hu;refine (h.at_ (m':=m.put l.tg.toNat { m.ah l.tg.toNat with inbox:=(m.ah l.tg.toNat).inbox++[l] }) (c:=1) (s:=0) (d:=0) (u:=0) hn (λj hj=>upd_ne hj) (by rw [e];exact .inl ⟨hu,rs,us,afl hU⟩) (λx hx=> .inl hx) ?_ ?_ (Nat.le_refl _) (Nat.le_refl _) (by rw [e];exact Nat.le_refl _) (Nat.le_refl _)).mono oQ oQ oQ oQ
  ·rw [e];intro x hx
   rcases List.mem_append.1 hx with hx | hx
   ·exact .inl hx
   rw [List.mem_singleton] at hx;subst hx;exact .inr ⟨hl,by omega⟩
  rw [e]
  show m.fly.length+((m.ah l.tg.toNat).inbox++[l]).length<=_
  rw [List.length_append,List.length_singleton];omega
 exact h.mono oQ oQ oQ oQ
theorem LM: ∀ (ls:List dK) {m:Cl} {T D:Nat},dM m T S D K->(∀ l∈ls,ko l)->dM (ls.foldl Cl.come m) (T+ls.length) S (D+ls.length) K
 | [],m,T,D,h,_=>h
 | l::ls,m,T,D,h,hl=>(LM ls (Hf h (hl l iQ)) λx hx=>hl x (by simp [hx])).mono jQ (Nat.le_refl _) jQ (Nat.le_refl _)
theorem ahd (h:dM m T S D K):dM m.all T S (D+T) K:=by
 have hroom:=h.room;have h0:dM { m with fly:=[] } (T-m.fly.length) S D K:=by
  refine ⟨h.kr,λl hl=>by simp at hl,h.lC,?_,h.aQ,h.bH,h.turn,h.calls⟩;unfold Cl.tot at hroom⊢;dsimp only [List.length_nil];omega
 have hle:m.fly.length<=T:=by unfold Cl.tot at hroom;omega
 exact (LM m.fly h0 h.qC).mono oQ (Nat.le_refl _) oQ (Nat.le_refl _)
theorem acX {at_:Nat} {c s:Bool} (h:dM m T S D K):dM (m.pick at_ c s) (T+1) S (D+1) K:=by
 unfold Cl.pick
 split
 ·exact h.mono oQ oQ oQ oQ
 rename_i l hl
 have hm:ko l:=h.qC l (List.mem_of_getElem? hl);have h1:dM (if s=true then m else { m with fly:=m.fly.eraseIdx (at_ % m.fly.length) }) T S D K:=by
  split
  ·exact h
  refine ⟨h.kr,λx hx=>h.qC x (List.mem_of_mem_eraseIdx hx),h.lC,?_,h.aQ,h.bH,h.turn,h.calls⟩;have:=h.room;have h2:=List.length_eraseIdx_le m.fly (at_ % m.fly.length);unfold Cl.tot at this⊢;dsimp only;omega
 dsimp only
 split
 ·exact Hf h1 hm
 exact h1.mono oQ oQ oQ oQ
theorem acY {q:Nat} (h:dM m T S D K) (hn:n<5) (hq:q<4):dM (m.make n q) T S D K:=by
 unfold Cl.make
 split
 ·exact h
 rename_i h0
 have hu:(m.ah n).up=true:=by
  cases e:(m.ah n).up with
  | true=>rfl
  | false=>exact absurd (.inl e) h0
 have hp:(m.ah n).pend=none:=by
  cases e:(m.ah n).pend with
  | none=>rfl
  | some p=>exact absurd (.inr (.inl (by rw [e];rfl))) h0
 split
 ·exact h
 rename_i h1
 obtain ⟨h2,h3,h4⟩:=alp h1;rw [h4]
 split
 ·exact h
 rename_i x hw
 obtain ⟨d,hd,rfl⟩:=rH hw;obtain ⟨rs,us,hU⟩:=(h.kr n hn).Cx hu;have hus:=hU.ZY hp;subst hus;obtain ⟨w1,w2,w3⟩:=qm hd;obtain ⟨_,a2⟩:=Qk (q:=q) (hU.mP q hq) h2 h3 hq;have hok:au ⟨1,1,0,0,0,[]⟩=0:=mE (yB oQ oQ _) xI;refine h.at_ (m':={ m.put n { m.ah n with data:=d,syn:=d.length,bs:=upd (m.ah n).bs q ⟨1,1,0,0,0,[]⟩ } with off:=(rZ m.off q n).1,shown:=iy m.shown n q (1,0) }) (c:=0) (s:=0) (d:=0) (u:=0) hn (λj hj=>upd_ne hj) ?_ (λx hx=> .inl hx) ?_ ?_ (Nat.le_refl _) (Nat.le_refl _) ?_ (Nat.le_refl _)
 ·refine .inl ⟨?_,rs++[fG 1 q 1 0 aO],[],?_⟩
  ·show (upd m.ah n _ n).up=true;rw [upd_same];exact hu
  show uN (upd m.ah n _ n) _ _
  rw [upd_same];refine ⟨?_,?_,?_,λk hk=>?_,λ_=>rfl,λp e=>?_,w3 hU.len⟩
  ·show d=_;rw [w1,hU.data,List.append_nil,List.append_nil,lJ]
  ·show (d.length:Int)=_;rw [w1,hU.data,List.append_nil,lJ]
  ·refine J3 (x:=⟨1,1,0,0,0,[]⟩) hU.tape hq (w2 _ iQ) rfl ?_;rw [Jt (.inr (.inl h2)),a2];rfl
  ·show au (upd (m.ah n).bs q _ k)=0
   by_cases e:k=q
   ·rw [e,upd_same];exact hok
   rw [upd_ne e];exact hU.mP k hk
  exact absurd (e.symm.trans hp) iQ
 ·show ∀ l∈(upd m.ah n _ n).inbox,_;rw [upd_same];exact λl hl=> .inl hl
 ·show m.fly.length+(upd m.ah n _ n).inbox.length<=_;rw [upd_same];exact Nat.le_refl _
 show (upd m.ah n _ n).turn<=_;rw [upd_same];exact Nat.le_refl _
theorem rJ {d:Dir} {q:Int} (h: ¬ (aY d q).2≠0):(aY d q).1.node.toNat<5/\0<=(aY d q).1.node/\(aY d q).1=d.at q.toNat:=by
 obtain ⟨h1,h2,h3,h4,h5⟩:=Ij (Classical.not_not.1 h);unfold za at h5
 rcases h5 with ⟨h5,h6⟩ | h5
 ·exfalso
  apply h4;generalize aY d q=r at*;obtain ⟨⟨a,b⟩,c⟩:=r;dsimp only at h5 h6⊢;rw [h5,h6];rfl
 exact ⟨by omega,by omega,h3⟩
theorem Z6 {bs:Nat->bn} {q:Nat} {p:dB} {tg:Int} (hr:(bs q).role=1) (h:p.ok bs):p.rs (upd bs q ⟨2,(bs q).ep,0,tg,0,(bs q).evs⟩)=p.rs bs/\p.ok (upd bs q ⟨2,(bs q).ep,0,tg,0,(bs q).evs⟩):=by
 cases p with
 | serve k evs op num a=>
  simp only [dB.ok,dB.rs] at h⊢;by_cases e:k=q
  ·subst e;rw [upd_same];exact ⟨rfl,.inr rfl,h.2⟩
  rw [upd_ne e];exact ⟨rfl,h⟩
 | begun k b=>
  simp only [dB.ok] at h⊢;refine ⟨rfl,?_⟩;by_cases e:k=q
  ·subst e;exfalso;have:=h.1;omega
  rw [upd_ne e];exact h
 | got k b last=>
  simp only [dB.ok,dB.rs] at h⊢;by_cases e:k=q
  ·subst e;exfalso;have:=h.1;omega
  rw [upd_ne e];exact ⟨rfl,h⟩
 | gI k b a=>
  simp only [dB.ok] at h⊢;refine ⟨rfl,?_⟩;by_cases e:k=q
  ·subst e;exfalso;have:=h.1;omega
  rw [upd_ne e];exact h
 | forget k b=>
  simp only [dB.ok,dB.rs] at h⊢;by_cases e:k=q
  ·subst e;exfalso;have:=h.1;omega
  rw [upd_ne e];exact ⟨rfl,h⟩
theorem acZ {q:Nat} {tg:Int} (h:dM m T S D K) (hq:q<4):dM (m.move q tg) T S D K:=by
 unfold Cl.move
 split
 ·exact h
 rename_i h0
 have hw: ¬ (aY m.off q).2≠0:=λe=>h0 (.inl e);obtain ⟨hn,_,_⟩:=rJ hw;have hu:(m.ah (aY m.off q).1.node.toNat).up=true:=by
  cases e:(m.ah (aY m.off q).1.node.toNat).up with
  | true=>rfl
  | false=>exact absurd (.inr (.inr e)) h0
 generalize hnn:(aY m.off q).1.node.toNat=n at*
 split
 ·rename_i h1
  obtain ⟨g1,g2,g3,g4⟩:=go_ok h1.1;rw [g4];obtain ⟨rs,us,hU⟩:=(h.kr n hn).Cx hu;have hs:=fI (hU.mP q hq);unfold bq at hs;have hok:au ⟨2,((m.ah n).bs q).ep,0,tg,0,((m.ah n).bs q).evs⟩=0:=mE (.inr ⟨by dsimp only;omega,by dsimp only;omega,.inr (.inl ⟨rfl,rfl,g2,by dsimp only;omega,by dsimp only;omega,by dsimp only;omega⟩)⟩) (jv (b:=(m.ah n).bs q) (hU.mP q hq));have hd: ∀ k,jV ((m.ah n).bs k)=jV (upd (m.ah n).bs q ⟨2,((m.ah n).bs q).ep,0,tg,0,((m.ah n).bs q).evs⟩ k):=λk=>by
   by_cases e:k=q
   ·rw [e,upd_same,zy (.inl g1) (hU.mP q hq)];rfl
   rw [upd_ne e]
  have e:((m.aK n q ⟨2,((m.ah n).bs q).ep,0,tg,0,((m.ah n).bs q).evs⟩).ah n)=(m.ah n).aK q ⟨2,((m.ah n).bs q).ep,0,tg,0,((m.ah n).bs q).evs⟩:=dw _;refine h.at_ (m':=m.aK n q ⟨2,((m.ah n).bs q).ep,0,tg,0,((m.ah n).bs q).evs⟩) (c:=0) (s:=0) (d:=0) (u:=0) hn (λj hj=>upd_ne hj) ?_ (λx hx=> .inl hx) (by rw [e];exact λl hl=> .inl hl) (by rw [e];exact Nat.le_refl _) (Nat.le_refl _) (Nat.le_refl _) (by rw [e];exact Nat.le_refl _) (Nat.le_refl _);rw [e];refine .inl ⟨hu,rs,us,⟨hU.data,hU.syn,hU.tape.congr λk _=>hd k,λk hk=>?_,hU.ZY,λp hp=>?_,hU.len⟩⟩
  ·show au (upd (m.ah n).bs q _ k)=0
   by_cases e:k=q
   ·rw [e,upd_same];exact hok
   rw [upd_ne e];exact hU.mP k hk
  obtain ⟨p1,p2,p3⟩:=hU.O4 p hp;exact ⟨by rw [p1];exact (Z6 (tg:=tg) g1 p2).1.symm,(Z6 (tg:=tg) g1 p2).2,p3⟩
 exact h
end
section
variable {m:Cl} {n:Nat} {T S D K:Nat}
theorem YM {keep:Int} (h:dM m T S D K) (hn:n<5) (hk:0<=keep):dM (m.crash n keep) T S D K:=by
 unfold Cl.crash
 split
 ·rename_i hu
  obtain ⟨rs,us,hU⟩:=(h.kr n hn).Cx hu;obtain ⟨rs',t,f,hd,_⟩:=KD hU hk;have e:(m.put n ((m.ah n).crashed keep)).ah n=(m.ah n).crashed keep:=dw _;refine h.at_ (m':=m.put n ((m.ah n).crashed keep)) (c:=0) (s:=0) (d:=0) (u:=0) hn (λj hj=>upd_ne hj) (by rw [e];exact .inr ⟨rfl,rs',t,f,hd⟩) (λx hx=> .inl hx) ?_ ?_ (Nat.le_refl _) (Nat.le_refl _) ?_ (Nat.le_refl _)
  ·rw [e,hd.lC];simp
  ·rw [e,hd.lC];show m.fly.length+0<=_;omega
  rw [e];exact Nat.le_refl _
 exact h
theorem BS (h:G8 (m.ah n)):(m.ah n).up=true/\m.start n=m\/(m.ah n).up=false/\ ∃ rs t f,G7 (m.ah n) rs t f/\(m.start n=m\/ ∃ ws,
  let m1:=m.put n { (m.ah n).blank with up:=true,data:=bG (rs++ws),syn:=(bG (rs++ws)).length,bs:=bC (m.ah n).data (m.ah n).syn }
  m.start n=Cl.woken n (bC (m.ah n).data (m.ah n).syn) [0,1,2,3] m1/\(bG (rs++ws)).length<=100000/\
  eB (jr (m.ah n).data (m.ah n).syn).2.1 (bC (m.ah n).data (m.ah n).syn) [0,1,2,3] (jr (m.ah n).data (m.ah n).syn).1=some (bG (rs++ws))/\
  TP m1 (m.start n) n (λq=>if q∈[0,1,2,3]/\(bC (m.ah n).data (m.ah n).syn q).role=1 then iE (bC (m.ah n).data (m.ah n).syn q) else bC (m.ah n).data (m.ah n).syn q)/\
  (m.start n).aQ.length<=m.aQ.length+8004/\uN ((m.start n).ah n) (rs++ws) []/\
  ∀ q,q<4->(f q).role=1->au (iE (f q))=0):=by
 cases hu:(m.ah n).up with
 | true=>exact .inl ⟨rfl,by unfold Cl.start;rw [if_pos hu]⟩
 | false=>
  refine .inr ⟨rfl,?_⟩;obtain ⟨rs,t,f,hd⟩:=h.auP hu;refine ⟨rs,t,f,hd,?_⟩;obtain ⟨r1,r2,r3⟩:=hd.rd;have hst:m.start n=match eB (jr (m.ah n).data (m.ah n).syn).2.1 (bC (m.ah n).data (m.ah n).syn) [0,1,2,3] (jr (m.ah n).data (m.ah n).syn).1 with
   | none=>m
   | some d=>Cl.woken n (bC (m.ah n).data (m.ah n).syn) [0,1,2,3] (m.put n { (m.ah n).blank with up:=true,data:=d,syn:=d.length,bs:=bC (m.ah n).data (m.ah n).syn }):=by
   unfold Cl.start;rw [if_neg (by rw [hu];simp)]
   all_goals rfl
  cases hw:eB (jr (m.ah n).data (m.ah n).syn).2.1 (bC (m.ah n).data (m.ah n).syn) [0,1,2,3] (jr (m.ah n).data (m.ah n).syn).1 with
  | none=>rw [hw] at hst;exact .inl hst
  | some d=>
   rw [hw] at hst;refine .inr ?_;have Gg: ∀ q∈[0,1,2,3],q<4:=by decide
   have hin: ∀ q,q<4->q∈[0,1,2,3]:=by decide
   have hll:(bG rs).length<=100000:=by
    have h1:=hd.len;rw [hd.data,List.length_append] at h1;omega
   have hw':=hw;rw [r1] at hw';obtain ⟨ws,e1,e2,e3,e4⟩:=Qo (g:=f) dQ (λq hq=>⟨Gg q hq,(r3 q (Gg q hq)).symm⟩) hd.tape (λq hq=>(hd.mP q hq).1) hll hw';subst e1;refine ⟨ws,hst,e3,rfl,?_⟩;have hev: ∀ q∈[0,1,2,3],(bC (m.ah n).data (m.ah n).syn q).evs.length<=2000:=λq hq=>by
    rw [r3 q (Gg q hq)];exact jZ (jv (hd.mP q (Gg q hq)).1)
   obtain ⟨g1,g2⟩:=Ei (n:=n) (bs:=bC (m.ah n).data (m.ah n).syn) [0,1,2,3] (m.put n { (m.ah n).blank with up:=true,data:=bG (rs++ws),syn:=(bG (rs++ws)).length,bs:=bC (m.ah n).data (m.ah n).syn }) dQ λq hq=>⟨by rw [dw],hev q hq⟩;have hbs:(λq=>if q∈[0,1,2,3]/\(bC (m.ah n).data (m.ah n).syn q).role=1 then (dV (bC (m.ah n).data (m.ah n).syn q)).1 else ((m.put n { (m.ah n).blank with up:=true,data:=bG (rs++ws),syn:=(bG (rs++ws)).length,bs:=bC (m.ah n).data (m.ah n).syn }).ah n).bs q)=
     λq=>if q∈[0,1,2,3]/\(bC (m.ah n).data (m.ah n).syn q).role=1 then iE (bC (m.ah n).data (m.ah n).syn q) else bC (m.ah n).data (m.ah n).syn q:=by
    funext q
    rw [dw];by_cases c:q∈[0,1,2,3]/\(bC (m.ah n).data (m.ah n).syn q).role=1
    ·rw [if_pos c,if_pos c,(e4 q c.1 c.2).2]
    rw [if_neg c,if_neg c]
   have hst':m.start n=Cl.woken n (bC (m.ah n).data (m.ah n).syn) [0,1,2,3] (m.put n { (m.ah n).blank with up:=true,data:=bG (rs++ws),syn:=(bG (rs++ws)).length,bs:=bC (m.ah n).data (m.ah n).syn }):=hst;rw [hbs,<-hst'] at g1;rw [<-hst'] at g2;refine ⟨g1,g2,?_,λq hq hr=>?_⟩
   ·have e:(m.start n).ah n={ (m.ah n).blank with up:=true,data:=bG (rs++ws),syn:=(bG (rs++ws)).length,bs:=λq=>if q∈[0,1,2,3]/\(bC (m.ah n).data (m.ah n).syn q).role=1 then iE (bC (m.ah n).data (m.ah n).syn q) else bC (m.ah n).data (m.ah n).syn q }:=by
     rw [g1.ah,upd_same,dw]
    rw [e];have hbb: ∀ q,q<4->au (if q∈[0,1,2,3]/\(bC (m.ah n).data (m.ah n).syn q).role=1 then iE (bC (m.ah n).data (m.ah n).syn q) else bC (m.ah n).data (m.ah n).syn q)=0:=λq hq=>by
     split
     ·rename_i c;exact (e4 q c.1 c.2).1
     rw [r3 q hq];exact (hd.mP q hq).1
    refine ⟨by rw [List.append_nil],rfl,e2.congr λq hq=>?_,hbb,λ_=>rfl,λp hp=>(by cases hp),e3⟩;dsimp only;by_cases c:q∈[0,1,2,3]/\(bC (m.ah n).data (m.ah n).syn q).role=1
    ·rw [if_pos c,if_pos c];rfl
    rw [if_neg c,if_neg c,r3 q hq];exact (Bn (hd.mP q hq).2).symm
   have:=(e4 q (hin q hq) (by rw [r3 q hq];exact hr)).1;rwa [r3 q hq] at this
theorem base_start (h:dM m T S D K) (hn:n<5):dM (m.start n) T (S+8004) D K:=by
 rcases BS (h.kr n hn) with ⟨_,e⟩ | ⟨hu,rs,t,f,hd,e | ⟨ws,e1,e2,e3,W,e5,e6,e7⟩⟩
 ·rw [e];exact h.mono oQ oQ oQ oQ
 ·rw [e];exact h.mono oQ oQ oQ oQ
 have hN:=W.ah;have eX:(m.start n).ah n={ (m.ah n).blank with up:=true,data:=bG (rs++ws),syn:=(bG (rs++ws)).length,bs:=λq=>if q∈[0,1,2,3]/\(bC (m.ah n).data (m.ah n).syn q).role=1 then iE (bC (m.ah n).data (m.ah n).syn q) else bC (m.ah n).data (m.ah n).syn q }:=by
  rw [hN,upd_same,dw]
 refine h.at_ (c:=0) (s:=8004) (d:=0) (u:=0) hn (λj hj=>?_) (.inl ⟨by rw [eX],rs++ws,[],e6⟩) (λx hx=> .inl (by rw [W.fly] at hx;exact hx)) (by rw [eX];intro l hl;exact absurd hl (by simp [Nd.blank])) ?_ e5 (by rw [W.bH];exact Nat.le_refl _) ?_ (by rw [W.calls];exact Nat.le_refl _)
 ·rw [hN,upd_ne hj];exact upd_ne hj
 ·rw [eX,W.fly];show m.fly.length+0<=_;omega
 rw [eX];exact Nat.le_refl _
theorem ac0 {l:dK} (h:dM m T S D K) (hl:ko l):dM { m with fly:=m.fly++[l],calls:=m.calls+1 } (T+1) S D (K+1):=by
 have hr:=h.room;refine ⟨h.kr,λx hx=>?_,h.lC,?_,h.aQ,h.bH,λn hn=>Nat.le_succ_of_le (h.turn n hn),by have:=h.calls;show m.calls+1<=_;omega⟩
 ·rcases List.mem_append.1 hx with hx | hx
  ·exact h.qC x hx
  rw [List.mem_singleton] at hx;subst hx;exact hl
 unfold Cl.tot at hr⊢;dsimp only;rw [List.length_append,List.length_singleton];omega
theorem TS {a:Ac} (h:dM m T S D K) (ha:zF a):dM (m.act a) (T+3) (S+T+8004) (D+T+1) (K+1):=by
 obtain ⟨h1,h2,h3,h4,h5,h6⟩:=ha;have hn:a.nd.toNat<5:=oQ;have hq:a.qu.toNat<4:=oQ;unfold Cl.act
 split
 ·exact (acY h hn hq).mono oQ oQ oQ oQ
 split
 ·rename_i hk2
  exact (ac0 h ⟨hq,by show 0<=3;omega,.inr (.inr ⟨h2.1,by show a.nd<5;omega,.inl rfl⟩),λ_=>h6 hk2⟩).mono oQ oQ oQ oQ
 split
 ·exact (acW h hn).mono oQ oQ oQ oQ
 split
 ·exact (acX h).mono oQ oQ oQ oQ
 split
 ·exact (ahd h).mono oQ oQ oQ oQ
 split
 ·exact (YM h hn h5.1).mono oQ oQ oQ oQ
 split
 ·exact (base_start h hn).mono oQ oQ oQ oQ
 exact (acZ h hq).mono oQ oQ oQ oQ
end
def Bs (m:Cl) (k:Nat):Prop:=dM m (4*k) (500000*k) (500000*k) k
theorem ao4:Bs mD 0:=by
 refine ⟨λn _=> .inl ⟨rfl,[],[],⟨rfl,rfl,iJ.nil,λq _=>by show au bF=0;exact mE (.inl ⟨rfl,by decide,by decide,rfl,rfl,rfl,rfl⟩) xI,λ_=>rfl,λp hp=>(by cases hp),Nat.zero_le _⟩⟩,λl hl=>(by cases hl),λn _ l hl=>(by cases hl),Nat.le_refl _,Nat.le_refl _,Nat.le_refl _,λ_ _=>Nat.le_refl _,Nat.le_refl _⟩
theorem yE {m:Cl} {k:Nat} {a:Ac} (h:Bs m k) (ha:zF a) (hk:k<=100000):Bs (m.act a) (k+1):=by
 have:=TS h ha;exact this.mono oQ oQ oQ oQ
theorem afm: ∀ (l:List Ac) {m:Cl} {k:Nat},Bs m k->(∀ a∈l,zF a)->k+l.length<=100000->Bs (m.run l) (k+l.length)
 | [],m,k,h,_,_=>h
 | a::l,m,k,h,ha,hk=>by
  rw [List.length_cons] at hk;have:=afm l (yE h (ha a iQ) oQ) (λx hx=>ha x (by simp [hx])) oQ;rw [List.length_cons,show k+(l.length+1)=k+1+l.length by omega];exact this
def pq (q:Nat):Option dB->Option dB
 | none=>none
 | some p=>if p.q=q then some p else none
def Ay (m:Cl) (q:Nat):List fD:=m.aQ.filter λs=>decide (s.q=q)
def M9 (m:Cl) (q:Nat) (l:dK):Prop:=l.q=q/\(l∈m.fly\/ ∃ n,n<5/\l∈(m.ah n).inbox)
noncomputable def vw (m:Cl) (q:Nat) (n:Nat):bn:=(m.ah n).view q
def yS (m:Cl) (q:Nat) (n:Nat):Option dB:=pq q (m.ah n).pend
def EL (m:Cl) (n:Nat):Bool:=(m.ah n).up
def Az (m:Cl) (q:Nat) (n:Nat):Int×Int:=m.shown n q
def QI (m:Cl) (q:Nat) (g:Gh):Prop:=Inv g (vw m q) (yS m q) (EL m) (M9 m q) (m.off.at q) (Az m q) (Ay m q)
structure pO (g g':Gh):Prop where
 m:g'.m=g.m
 own:g'.own=g.own
 len:g'.len=g.len
 G:g'.G=g.G
theorem pO.refl (g:Gh):pO g g:=⟨rfl,rfl,rfl,rfl⟩
theorem pO.trans {a b c:Gh} (h:pO a b) (h':pO b c):pO a c:=⟨h'.m.trans h.m,h'.own.trans h.own,h'.len.trans h.len,h'.G.trans h.G⟩
theorem ar8 (g:Gh):pO g g.all:=⟨rfl,rfl,rfl,rfl⟩
theorem pO.o {g g':Gh} (h:pO g g'):g'.o=g.o:=by unfold Gh.o;rw [h.m,h.own]
section
variable {m m':Cl} {n q:Nat} {g g':Gh} {l:dK} {V:Nat->bn} {P:Nat->Option dB} {U:Nat->Bool} {Lt:dK->Prop} {pl:Pl} {sh:Nat->Int×Int} {sv:List fD} {X:Nd}
theorem QI.mk' (I:Inv g V P U Lt pl sh sv) (hV:vw m q=V) (hP:yS m q=P) (hU:EL m=U) (hL: ∀ l,M9 m q l->Lt l\/J2 g V pl l) (hpl:m.off.at q=pl) (hsh:Az m q=sh) (hsv:Ay m q=sv):QI m q g:=by
 unfold QI;rw [hV,hP,hU,hpl,hsh,hsv];exact I.zx hL
theorem qD (h:m'.ah=upd m.ah n X):vw m' q=upd (vw m q) n (X.view q):=by
 funext j
 unfold vw;rw [h];unfold upd
 split<;>rfl
theorem tJ (h:m'.ah=upd m.ah n X):yS m' q=upd (yS m q) n (pq q X.pend):=by
 funext j
 unfold yS;rw [h];unfold upd
 split<;>rfl
theorem V8 (h:m'.ah=upd m.ah n X):EL m'=upd (EL m) n X.up:=by
 funext j
 unfold EL;rw [h];unfold upd
 split<;>rfl
theorem mX (h:m'.ah=upd m.ah n X) (hv:X.view q=(m.ah n).view q):vw m' q=vw m q:=by rw [qD h];exact aF hv.symm
theorem sF (h:m'.ah=upd m.ah n X) (hv:pq q X.pend=pq q (m.ah n).pend):yS m' q=yS m q:=by rw [tJ h];exact aF hv.symm
theorem mg (h:m'.ah=upd m.ah n X) (hv:X.up=(m.ah n).up):EL m'=EL m:=by rw [V8 h];exact aF hv.symm
theorem Pj {q':Nat} {p:Int×Int} {s:Nat->Nat->Int×Int} (h:q'≠q):(λk=>iy s n q' p k q)=λk=>s k q:=by
 funext k
 unfold iy;rw [if_neg (λe=>h e.2.symm)]
theorem Gm {p:Int×Int} {s:Nat->Nat->Int×Int}:(λk=>iy s n q p k q)=upd (λk=>s k q) n p:=by
 funext k
 unfold iy upd;by_cases e:k=n
 ·rw [if_pos ⟨e,rfl⟩,if_pos e]
 rw [if_neg (λh=>e h.1),if_neg e]
theorem tK {sv:List fD} {s:fD}:(sv++[s]).filter (λs=>decide (s.q=q))=sv.filter (λs=>decide (s.q=q))++if s.q=q then [s] else []:=by
 rw [List.filter_append]
 congr 1
 by_cases e:s.q=q
 ·rw [if_pos e];simp [e]
 rw [if_neg e];simp [e]
theorem mQ (h:l.kd=0\/l.kd=1\/l.kd=3):J2 g V pl l:=⟨λe=>by omega,λe=>by omega,λe=>by omega,λe=>by omega⟩
theorem KF {x:dK} (hn:m'.ah=upd m.ah n X) (hi: ∀ l∈X.inbox,l∈(m.ah n).inbox) (hn5:n<5) (hf:m'.fly=m.fly++[x]) {R:dK->Prop} (hx:x.q=q->R x): ∀ l,M9 m' q l->M9 m q l\/R l:=λl hl=>by
 obtain ⟨h1,h2⟩:=hl
 rcases h2 with h2 | ⟨j,hj,h2⟩
 ·rw [hf] at h2
  rcases List.mem_append.1 h2 with h2 | h2
  ·exact .inl ⟨h1,.inl h2⟩
  rw [List.mem_singleton] at h2;subst h2;exact .inr (hx h1)
 rw [hn] at h2;by_cases e:j=n
 ·subst e;rw [upd_same] at h2;exact .inl ⟨h1,.inr ⟨j,hj,hi l h2⟩⟩
 rw [upd_ne e] at h2;exact .inl ⟨h1,.inr ⟨j,hj,h2⟩⟩
theorem xO (hn:m'.ah=upd m.ah n X) (hi: ∀ l∈X.inbox,l∈(m.ah n).inbox) (hn5:n<5) (hf:m'.fly=m.fly) {R:dK->Prop}: ∀ l,M9 m' q l->M9 m q l\/R l:=λl hl=>by
 obtain ⟨h1,h2⟩:=hl
 rcases h2 with h2 | ⟨j,hj,h2⟩
 ·rw [hf] at h2;exact .inl ⟨h1,.inl h2⟩
 rw [hn] at h2;by_cases e:j=n
 ·subst e;rw [upd_same] at h2;exact .inl ⟨h1,.inr ⟨j,hj,hi l h2⟩⟩
 rw [upd_ne e] at h2;exact .inl ⟨h1,.inr ⟨j,hj,h2⟩⟩
theorem Bv:m.ah=upd m.ah n (m.ah n):=(aF rfl).symm
theorem QI.far (I:QI m q g) (hn5:n<5) (hn:m'.ah=upd m.ah n X) (hv:X.view q=(m.ah n).view q) (hp:pq q X.pend=pq q (m.ah n).pend) (hu:X.up=(m.ah n).up) (hi: ∀ l∈X.inbox,l∈(m.ah n).inbox) (hf: ∀ l∈m'.fly,l∈m.fly\/(l.q=q->J2 g (vw m q) (m.off.at q) l))
  (ho:m'.off.at q=m.off.at q) (hs:Az m' q=Az m q) (hsv:Ay m' q=Ay m q):QI m' q g:=
 QI.mk' I (mX hn hv) (sF hn hp) (mg hn hu) (λl hl=>by
  obtain ⟨h1,h2⟩:=hl
  rcases h2 with h2 | ⟨j,hj,h2⟩
  ·rcases hf l h2 with h3 | h3
   ·exact .inl ⟨h1,.inl h3⟩
   exact .inr (h3 h1)
  rw [hn] at h2;by_cases e:j=n
  ·subst e;rw [upd_same] at h2;exact .inl ⟨h1,.inr ⟨j,hj,hi l h2⟩⟩
  rw [upd_ne e] at h2;exact .inl ⟨h1,.inr ⟨j,hj,h2⟩⟩) ho hs hsv
theorem Inv.MS (I:Inv g V P U Lt pl sh sv) (hu:U g.o=true):g.t=g.m/\g.F=g.G.length/\rp bS sv=some (av g.G).1:=by
 have hF:=I.upF hu;refine ⟨?_,hF,?_⟩
 ·rcases I.LB with h | ⟨_,_,h,_⟩
  ·exact h.1
  rw [hu] at h;cases h
 have:=I.rps;rwa [hF,List.take_length] at this
theorem Inv.oEp (I:Inv g V P U Lt pl sh sv) (hn:n<5) (hr:(V n).role=1\/(V n).role=2):n=g.o:=I.who hn hr
theorem CF {L:List Ev} {K at_:Nat} (h:at_<=K) (hK:K<=L.length):((L.take K).drop at_).take 3=(L.drop at_).take (((L.take K).drop at_).take 3).length/\at_+(((L.take K).drop at_).take 3).length<=K:=by
 have e:(((L.take K).drop at_).take 3).length=min 3 (K-at_):=by
  rw [List.length_take,List.length_drop,List.length_take];omega
 refine ⟨?_,by rw [e];omega⟩;rw [e,List.drop_take,List.take_take]
theorem ahe {b:bn} {at_:Int} (I:Inv g V P U Lt pl sh sv) (hn:n<5) (hb:V n=b) (h: ¬ (iK b at_).2.2≠0):J2 g V pl (II n q b at_):=by
 obtain ⟨h1,h2,h3,h4⟩:=O1 h;have hkd:(II n q b at_).kd=4:=rfl;refine ⟨λe=>by rw [hkd] at e;omega,λ_=>?_,λe=>by rw [hkd] at e;omega,λe=>by rw [hkd] at e;omega⟩
 show ∃ k:Nat,b.ep+1=(k:Int)+1/\1<=k/\k<=g.m/\(n:Int)=g.own k/\0<=at_/\(iK b at_).1=(g.G.drop at_.toNat).take (iK b at_).1.length/\at_.toNat+(iK b at_).1.length<=g.bd k/\((iK b at_).2.1=true->_)
 rw [h4];dsimp only;by_cases e:n=g.o
 ·subst e;have eF:b.ep=g.m:=by rw [<-hb];exact I.zW
  have hev:b.evs=g.G:=by rw [<-hb];exact I.Ga
  rw [hev] at h3⊢;obtain ⟨d1,d2⟩:=CF (L:=g.G) (K:=g.G.length) (at_:=at_.toNat) oQ (Nat.le_refl _);rw [List.take_length] at d1 d2;refine ⟨g.m,by rw [eF],I.m1,Nat.le_refl _,rfl,h2,d1,by unfold Gh.bd;rw [if_pos rfl];exact d2,λhl=> .inr ⟨rfl,?_⟩⟩;rw [decide_eq_true_eq] at hl;refine ⟨by rw [hb];exact hl.1,by rw [hb];rfl,?_⟩
  show at_.toNat+(iK b at_).1.length=g.G.length
  rw [h4]
  show at_.toNat+((b.evs.drop at_.toNat).take 3).length=g.G.length
  rw [hev,List.length_take,List.length_drop];omega
 rcases I.sj n hn e with ⟨h5,_⟩ | ⟨k,k1,k2,k3,k4,k5,k6,k7⟩ | ⟨k,k1,_⟩
 ·rw [hb] at h5;omega
 ·rw [hb] at k1 k2 k6 k7;have hlt:=I.ML k3 k4;rw [k6] at h3⊢;rw [List.length_take] at h3;obtain ⟨d1,d2⟩:=CF (L:=g.G) (K:=g.len k) (at_:=at_.toNat) oQ (Nat.le_of_lt hlt);refine ⟨k,by rw [k2],k3,Nat.le_of_lt k4,by rw [k5],h2,d1,?_,λ_=> .inl ⟨k4,by rw [<-k7];rfl⟩⟩;unfold Gh.bd;rw [if_neg oQ];exact d2
 rw [hb] at k1;omega
theorem Hg {b:bn} {at_:Int} {fl:List dK} (I:Inv g V P U Lt pl sh sv) (hn:n<5) (hb:V n=b): ∀ l∈kZ n q b at_ fl,l∈fl\/J2 g V pl l:=λl hl=>by
 unfold kZ at hl
 split at hl
 ·exact .inl hl
 rename_i h
 rcases List.mem_append.1 hl with hl | hl
 ·exact .inl hl
 rw [List.mem_singleton] at hl;subst hl;exact .inr (ahe I hn hb h)
theorem afn {b:bn} {p:dB} {bs:Nat->bn} (I:Inv g V P U Lt pl sh sv) (hn:n<5) (hb:V n=b) (hbs:bs q=b) (hL:J2 g V pl l) (nY:l.tg=n) (hpq:p.q=q) (hlq:l.q=q) (hp:p.ok bs) (hS:Src b l p) (hf:au (p.b bs)=0):GY g V n p:=by
 cases p with
 | serve k evs op num a=>
  have hk:k=q:=hpq;subst hk;obtain ⟨h1,h2,h3,h4⟩:=hp;rw [hbs] at h1 h2;obtain ⟨s1,s2,s3,s4,s5,s6⟩:=hS;have ho:=I.oEp hn (by rw [hb];exact h1);have hev:b.evs=g.G:=by rw [<-hb,ho];exact I.Ga
  rw [hev] at h2 s4;exact ⟨ho,by rw [hb];exact h1,h2,by rw [s2,s4],h4⟩
 | begun k x=>
  have hk:k=q:=hpq;subst hk;obtain ⟨h1,e,f,rfl,h2,_⟩:=hp;rw [hbs] at h1 h2;obtain ⟨s1,s2⟩:=hS;obtain ⟨j,j1,j2,j3,j4⟩:=hL.1 s1;simp only [bn.mk.injEq,true_and,and_true] at s2;refine ⟨j,?_,j2,j3,by rw [hb];exact h1,by rw [hb];omega⟩;rw [s2.1,s2.2,j1,j4]
 | got k x last=>
  have hk:k=q:=hpq;subst hk;obtain ⟨s1,s2,s3,s4,s5,s6,s7,s8,s9⟩:=hS;have hr:b.role=4:=by have:=hp.1;rwa [hbs] at this
  have hno:n≠g.o:=λe=>by
   have:=I.arl;rw [<-e,hb] at this;omega
  obtain ⟨j,j1,j2,j3,j4,j5,j6,j7,j8⟩:=hL.2.1 s1
  rcases I.sj n hn hno with ⟨h5,_⟩ | ⟨_,h5,_⟩ | ⟨k',k1,k2,k3,k4,k5,k6,k7,k8⟩
  ·rw [hb] at h5;omega
  ·rw [hb] at h5;omega
  rw [hb] at k2 k5 k6 k7;have hkj:k'=j:=oQ;subst hkj;have hbd:=I.aiq k3 k4;have e2:l.evs.drop (b.evs.length-l.at_.toNat)=(g.G.drop b.evs.length).take (l.at_.toNat+l.evs.length-b.evs.length):=by
   have:=congrArg (List.drop (b.evs.length-l.at_.toNat)) j6;rw [this,List.drop_take,List.drop_drop,show l.at_.toNat+(b.evs.length-l.at_.toNat)=b.evs.length by omega]
   congr 1
   omega
  have hE:Js b l.at_ l.evs=g.G.take (l.at_.toNat+l.evs.length):=by
   unfold Js;rw [e2];have e3:=congrArg (· ++(g.G.drop b.evs.length).take (l.at_.toNat+l.evs.length-b.evs.length)) k6;rw [e3,<-List.take_add]
   congr 1
   omega
  have hx: ∀ (h:last=true),k'=g.m->l.at_.toNat+l.evs.length=g.G.length->x=⟨1,(g.m:Int)+1,0,0,0,g.G++[aI]⟩:=λh h1 h2=>by
   rw [s9];unfold wZ;rw [if_pos (by rw [<-s8];exact h),hE,h2,List.take_length,k2,h1]
  refine ⟨by rw [hb];exact hr,λhl=>⟨l.at_.toNat+l.evs.length,?_,by rw [hb];exact s7,λk2' hk2=>?_⟩,λhl=>?_⟩
  ·rw [s9,hb];unfold wZ;rw [if_neg (by rw [<-s8,hl];simp),hE]
  ·rw [hb] at hk2;have:k2'=k':=oQ;subst this;exact j7
  rcases j8 (by rw [<-s8];exact hl) with ⟨a1,a2⟩ | ⟨a1,a2,a3,a4⟩
  ·exact absurd oQ (k8 a1)
  have hx':=hx hl a1 a4;have hf':au x=0:=hf;rw [hx'] at hf';exact ⟨by rw [hb,k2,a1],a2,a3.trans nY,hx',(eO hf').2⟩
 | gI k x a=>
  obtain ⟨h1,h2⟩:=hp;have hk:k=q:=hpq;subst hk;rw [hbs] at h1 h2;exact ⟨I.oEp hn (by rw [hb];exact .inr h1),by rw [hb];exact h1,by rw [hb];exact h2⟩
 | forget k x=>
  obtain ⟨h1,h2⟩:=hp;have hk:k=q:=hpq;subst hk;rw [hbs] at h1 h2;obtain ⟨s1,s2⟩:=hS;obtain ⟨j,j1,j2,j3,j4⟩:=hL.2.2.2 s1;obtain ⟨d,d1,d2,d3⟩:=I.dir;rw [d1] at j3;dsimp only at j3;exact ⟨by rw [hb];exact h1,by rw [hb];exact h2,by rw [hb];omega⟩
end
theorem Z7: ∀ {k:Nat} {l:List Ev},l.length=k->good l->(av l).1.fault=0
 | 0,l,hk,h=>by
  rw [List.length_eq_zero_iff.1 hk];rw [yM (l:=[]) iQ (show gX bS [] []=some (bS,[]) from rfl)];exact ab0
 | k+1,l,hk,h=>by
  have e1:l=l.take k++[l[k]]:=by rw [<-nK oQ,<-hk,List.take_length]
  have h':good (l.take k++[l[k]]):=e1▸h;obtain ⟨h1,_,h3⟩:=good_step h';rw [e1,h3];exact arF h1
theorem alz {Q:Qd} {e:Ev} (h:Q.fault=0) (he:aX e=0):(iw Q e).2.2.2=0:=by rw [zM h he]
section
variable {m m':Cl} {n q:Nat} {g g':Gh} {l:dK} {rs:List dD}
theorem sV (hu:(m.ah n).up=true):vw m q n=(m.ah n).bs q:=by unfold vw;rw [dU hu]
theorem ahf (hp:(m.ah n).pend=none):yS m q n=none:=by unfold yS;rw [hp];rfl
theorem ahg {a:iM} (I:QI m q g) (hn:n<5) (hu:(m.ah n).up=true) (h2:(gP ((m.ah n).bs l.q) l.op).2.2.1=false/\a=(gP ((m.ah n).bs l.q) l.op).2.1) (he:aX l.op=0/\l.op.kind≠4) (hb:au ((m.ah n).bs l.q)=0)
  (hG:g.G.length<1999): ∃ g',QI (m.done n l.q l.op l.num a) q g'/\pO g g':=by
 obtain ⟨h2,h3⟩:=h2;by_cases hs:serves ((m.ah n).bs l.q)
 ·rw [Fv rfl rfl hs];by_cases hq:l.q=q
  ·subst hq;have hV:=sV (q:=l.q) hu;have ho:=I.oEp hn (by rw [hV];exact hs);have eF:((m.ah n).bs l.q).ep=g.m:=by rw [<-hV,ho];exact I.zW
   have hev:((m.ah n).bs l.q).evs=g.G:=by rw [<-hV,ho];exact I.Ga
   obtain ⟨t1,t2,t3⟩:=I.MS (by rw [<-ho];exact hu);have hs':=hs;unfold serves at hs';have hsv:gP ((m.ah n).bs l.q) l.op=((m.ah n).bs l.q,(iw (av ((m.ah n).bs l.q).evs).1 l.op).2.1,false,0)/\(iw (av ((m.ah n).bs l.q).evs).1 l.op).2.2.1=false:=by
    have hl: ¬ 1999<=((m.ah n).bs l.q).evs.length:=by rw [hev];omega
    unfold gP at h2⊢;rw [if_neg (λe=>e hb),if_neg (λe=>e he.1),if_neg he.2,if_neg oQ,if_neg oQ] at h2⊢;by_cases c:(iw (av ((m.ah n).bs l.q).evs).1 l.op).2.2.1=false
    ·rw [if_pos c];exact ⟨rfl,c⟩
    rw [if_neg c,if_neg hl] at h2;cases h2
   rw [hsv.1,hev] at h3;rw [hev] at hsv;have hgq:(av g.G).1.fault=0:=Z7 rfl I.gd;have hc:(iw (av g.G).1 l.op).2.2.2=0:=alz hgq he.1;have hr:rp bS (Ay m l.q++[⟨n,l.q,g.m,l.op,a,l.num⟩])=some (av g.G).1:=by
    rw [ED t3 hc h3.symm,ale hc hsv.2]
   refine ⟨g.all,QI.mk' (I.told t1 hr λs hs=>by rw [List.mem_singleton] at hs;subst hs;exact ⟨rfl,ho⟩) rfl rfl rfl ?_ rfl ?_ ?_,ar8 g⟩
   ·rintro x ⟨x1,x2 | x2⟩
    ·rcases List.mem_append.1 x2 with x2 | x2
     ·exact .inl ⟨x1,.inl x2⟩
     rw [List.mem_singleton] at x2;subst x2;exact .inr (mQ (.inr (.inl rfl)))
    exact .inl ⟨x1,.inr x2⟩
   ·show (λk=>iy m.shown n l.q _ k l.q)=_
    rw [Gm,eF,hev,ho];rfl
   show (m.aQ++_).filter _=_
   rw [tK,if_pos rfl,eF];rfl
  refine ⟨g,I.far (n:=n) (X:=m.ah n) hn Bv rfl rfl rfl (λ_ h=>h) (λx hx=>?_) rfl (Pj hq) ?_,.refl g⟩
  ·rcases List.mem_append.1 hx with hx | hx
   ·exact .inl hx
   rw [List.mem_singleton] at hx;subst hx;exact .inr λ_=>mQ (.inr (.inl rfl))
  show (m.aQ++_).filter _=_
  rw [tK,if_neg hq,List.append_nil];rfl
 rw [Jr rfl rfl hs];refine ⟨g,I.far (n:=n) (X:=m.ah n) hn Bv rfl rfl rfl (λ_ h=>h) (λx hx=>?_) rfl rfl rfl,.refl g⟩
 rcases List.mem_append.1 hx with hx | hx
 ·exact .inl hx
 rw [List.mem_singleton] at hx;subst hx;exact .inr λ_=>mQ (.inr (.inl rfl))
theorem Xh {p:dB} (h:p.q=q):pq q (some p)=some p:=if_pos h
theorem ank {p:dB} (h:p.q≠q):pq q (some p)=none:=if_neg h
theorem Z8 (I:QI m q g) (hn:n<5) (hu:(m.ah n).up=true) (hU:uN (m.ah n) rs []) (hp:(m.ah n).pend=none) (hL:l.q=q->J2 g (vw m q) (m.off.at q) l) (nY:l.tg=n) (hk:l.kd=0->aX l.op=0/\l.op.kind≠4) (hlq:l.q<4)
  (hroom:(m.ah n).data.length+46<=100000) (hG:g.G.length<1999) (H:Hnd m n l m'): ∃ g',QI m' q g'/\pO g g'/\((vw m q g.o).role=3->(vw m' q g.o).role=3):=by
 have hbq:=hU.mP _ hlq
 cases H with
 | same=>exact ⟨g,I,.refl g,id⟩
 | done a h1 h2=>
  have hvw:vw (m.done n l.q l.op l.num a) q=vw m q:=mX (n:=n) (X:=m.ah n) (by rw [(CB (m:=m)).2.1];exact Bv) rfl
  rcases h2 with h2 | ⟨h2,h3,h4,h5,h6⟩
  ·obtain ⟨g',h7,h8⟩:=ahg I hn hu h2 (hk h1) hbq hG;exact ⟨g',h7,h8,by rw [hvw];exact id⟩
  exfalso
  have hs:=fI hbq;unfold bq at hs;unfold serves at h3;have hr:aJ (fG 2 l.q ((m.ah n).bs l.q).ep 0 l.op)=0:=vR oQ hlq oQ oQ (by simpa [kC] using h4);have hsy:=hU.syn;have hd:=congrArg List.length hU.data;rw [List.append_nil] at hd;rw [zD (λr hr'=>by rw [List.mem_singleton] at hr';subst hr';exact hr) oQ oQ (by simpa using hroom)] at h5
  cases h5
 | have_ h1=>
  refine ⟨g,I.far (n:=n) (X:=m.ah n) hn Bv rfl rfl rfl (λ_ h=>h) (λx hx=>?_) rfl rfl rfl,.refl g,id⟩
  rcases List.mem_append.1 hx with hx | hx
  ·exact .inl hx
  rw [List.mem_singleton] at hx;subst hx;exact .inr λ_=>mQ (.inr (.inr rfl))
 | part b h1 h2 h3 h4 h5 h6=>
  obtain ⟨g1,g2,g3⟩:=uR (m:=m.aK n l.q b) (n:=n) (q:=l.q) (a:=l.at_);have e:(m.aK n l.q b).ah n=(m.ah n).aK l.q b:=dw _;rw [e,show ((m.ah n).aK l.q b).bs l.q=b from upd_same _ _ _] at g3;have dH:((m.aK n l.q b).part n l.q l.at_).ah=upd m.ah n ((m.ah n).aK l.q b):=g2;have hoff:((m.aK n l.q b).part n l.q l.at_).off.at q=m.off.at q:=by rw [g1.off];rfl
  have hrest:Az ((m.aK n l.q b).part n l.q l.at_) q=Az m q/\Ay ((m.aK n l.q b).part n l.q l.at_) q=Ay m q:=by
   unfold Cl.part
   split<;>exact ⟨rfl,rfl⟩
  by_cases hq:l.q=q
  ·subst hq;have hV:=sV (q:=l.q) hu;have fU:((m.ah n).aK l.q b).view l.q=b:=by rw [dU (X:=(m.ah n).aK l.q b) hu];exact upd_same _ _ _
   have hvw:vw ((m.aK n l.q b).part n l.q l.at_) l.q=upd (vw m l.q) n b:=by rw [qD dH,fU]
   rcases h4 with ⟨h4,h7,h8⟩ | ⟨h4,h7⟩
   ·have ho:=I.oEp hn (by rw [hV];exact .inr h4);have Xi:=I.ZP (by rw [<-ho,hV];omega);have I2:Inv g (upd (vw m l.q) g.o b) (yS m l.q) (EL m) (M9 m l.q) (m.off.at l.q) (Az m l.q) (Ay m l.q):=by
     refine Inv.ab4 I (λp hp'=>?_) ?_ ?_ ?_ ?_ ?_ ?_
     ·rw [<-ho,ahf hp] at hp';cases hp'
     ·rw [h7];show ((m.ah n).bs l.q).ep=_;rw [<-hV,ho];exact I.zW
     ·rw [h7];show ((m.ah n).bs l.q).evs=_;rw [<-hV,ho];exact I.Ga
     ·rw [h7];exact .inr (.inl h4)
     ·intro _;rw [h7,<-ho];rw [<-ho,hV] at Xi;exact Xi
     ·intro h;rw [<-ho,hV] at h;omega
     intro h;rw [h7] at h;exact absurd (h4.symm.trans h) dQ
    rw [<-ho] at I2;refine ⟨g,QI.mk' I2 hvw (sF dH rfl) (mg dH rfl) (λx hx=>?_) hoff hrest.1 hrest.2,.refl g,λh=>?_⟩
    ·obtain ⟨x1,x2⟩:=hx
     rcases x2 with x2 | ⟨j,hj,x2⟩
     ·rw [g3] at x2
      rcases Hg I2 hn (upd_same _ _ _) x x2 with x3 | x3
      ·exact .inl ⟨x1,.inl x3⟩
      exact .inr x3
     rw [dH] at x2;by_cases e:j=n
     ·subst e;rw [upd_same] at x2;exact .inl ⟨x1,.inr ⟨j,hj,x2⟩⟩
     rw [upd_ne e] at x2;exact .inl ⟨x1,.inr ⟨j,hj,x2⟩⟩
    rw [<-ho,hV] at h;omega
   have au3:vw ((m.aK n l.q b).part n l.q l.at_) l.q=vw m l.q:=by rw [hvw,h7,<-hV];exact aF rfl
   refine ⟨g,QI.mk' I au3 (sF dH rfl) (mg dH rfl) (λx hx=>?_) hoff hrest.1 hrest.2,.refl g,by rw [au3];exact id⟩;obtain ⟨x1,x2⟩:=hx
   rcases x2 with x2 | ⟨j,hj,x2⟩
   ·rw [g3] at x2
    rcases Hg I hn (hV.trans h7.symm) x x2 with x3 | x3
    ·exact .inl ⟨x1,.inl x3⟩
    exact .inr x3
   rw [dH] at x2;by_cases e:j=n
   ·subst e;rw [upd_same] at x2;exact .inl ⟨x1,.inr ⟨j,hj,x2⟩⟩
   rw [upd_ne e] at x2;exact .inl ⟨x1,.inr ⟨j,hj,x2⟩⟩
  have fU:((m.ah n).aK l.q b).view q=(m.ah n).view q:=by
   rw [dU (X:=(m.ah n).aK l.q b) hu,dU hu];exact upd_ne (λe=>hq e.symm)
  refine ⟨g,I.far hn dH fU rfl rfl (λ_ h=>h) (λx hx=>?_) hoff hrest.1 hrest.2,.refl g,by rw [mX dH fU];exact id⟩;rw [g3] at hx;unfold kZ at hx
  split at hx
  ·exact .inl hx
  rcases List.mem_append.1 hx with hx | hx
  ·exact .inl hx
  rw [List.mem_singleton] at hx;subst hx;exact .inr λh=>absurd h hq
 | pend p Y d h1 h2 h3 h4 h5=>
  have hY:Y.bs=(m.ah n).bs/\Y.up=(m.ah n).up/\Y.inbox=(m.ah n).inbox:=by rcases h1 with h1 | ⟨_,h1⟩<;>rw [h1]<;>exact ⟨rfl,rfl,rfl⟩
  have fU: ∀ q,({ Y with data:=d,pend:=some p }:Nd).view q=(m.ah n).view q:=λq=>by
   rw [dU (X:={ Y with data:=d,pend:=some p }) (hY.2.1.trans hu),dU hu];exact congrFun hY.1 q
  have dH:(m.put n { Y with data:=d,pend:=some p }).ah=upd m.ah n { Y with data:=d,pend:=some p }:=rfl;have hvw:=mX (q:=q) dH (fU q);by_cases hq:l.q=q
  ·subst hq;have hfull:=(kT hU.tape hU.mP h3 (by rw [h2];exact hlq)).2;have ao5:=afn I hn (sV (q:=l.q) hu) rfl (hL rfl) nY h2 rfl h3 h5 hfull;refine ⟨g,QI.mk' (I.auw (P':=upd (yS m l.q) n (some p)) λk p' hk hp'=>?_) hvw (by rw [tJ dH];show upd _ n (pq l.q (some p))=_;rw [Xh h2]) (mg dH hY.2.1) (xO dH (λx hx=>by rw [<-hY.2.2];exact hx) hn rfl) rfl rfl rfl,.refl g,by rw [hvw];exact id⟩;by_cases e:k=n
   ·subst e;rw [upd_same] at hp'
    cases hp';exact .inr ⟨hu,ao5⟩
   rw [upd_ne e] at hp';exact .inl hp'
  refine ⟨g,I.far hn dH (fU q) ?_ hY.2.1 (λx hx=>by rw [<-hY.2.2];exact hx) (λx hx=> .inl hx) rfl rfl rfl,.refl g,by rw [hvw];exact id⟩;rw [hp];exact ank (by rw [h2];exact hq)
 | hear h1=>
  have dH:(m.put n ((m.ah n).hear n l)).ah=upd m.ah n ((m.ah n).hear n l):=rfl;have fU:((m.ah n).hear n l).view q=(m.ah n).view q:=by rw [dU (X:=(m.ah n).hear n l) hu,dU hu];rfl
  exact ⟨g,I.far hn dH fU rfl rfl (λ_ h=>h) (λx hx=> .inl hx) rfl rfl rfl,.refl g,by rw [mX dH fU];exact id⟩
theorem ahh {V:Nat->bn} {P:Nat->Option dB} {U:Nat->Bool} {Lt:dK->Prop} {pl:Pl} {sh:Nat->Int×Int} {sv:List fD} {b:bn} {s:Bool} (I:Inv g V P U Lt pl sh sv) (hn:n<5) (hb:V n=b): ∀ l∈iN n q b s,J2 g V pl l:=λl hl=>by
 unfold iN at hl
 rcases List.mem_append.1 hl with hl | hl
 ·rcases List.mem_append.1 hl with hl | hl
  ·split at hl
   ·rename_i hr
    rw [List.mem_singleton] at hl;subst hl;have hkd:(vQ n q b).kd=2:=rfl;refine ⟨λ_=>?_,λe=>by rw [hkd] at e;omega,λe=>by rw [hkd] at e;omega,λe=>by rw [hkd] at e;omega⟩
    show ∃ k:Nat,b.ep+1=(k:Int)+1/\1<=k/\k<=g.m/\(n:Int)=g.own k
    by_cases e:n=g.o
    ·subst e;exact ⟨g.m,by rw [<-hb,I.zW],I.m1,Nat.le_refl _,rfl⟩
    rcases I.sj n hn e with ⟨h5,_⟩ | ⟨k,k1,k2,k3,k4,k5,_⟩ | ⟨k,k1,_⟩
    ·rw [hb] at h5;omega
    ·rw [hb] at k2;exact ⟨k,by rw [k2],k3,Nat.le_of_lt k4,by rw [k5]⟩
    rw [hb] at k1;omega
   simp at hl
  split at hl
  ·rw [List.mem_singleton] at hl;subst hl;have hkd:(Si n q).kd=5:=rfl;refine ⟨λe=>by rw [hkd] at e;omega,λe=>by rw [hkd] at e;omega,λ_ e=>?_,λe=>by rw [hkd] at e;omega⟩;exact absurd e (by show ¬ (0:Int)<= -1;decide)
  simp at hl
 split at hl
 ·rename_i hr
  rw [List.mem_singleton] at hl;subst hl;have hkd:(MK n q b).kd=5:=rfl;refine ⟨λe=>by rw [hkd] at e;omega,λe=>by rw [hkd] at e;omega,λ_ _=>?_,λe=>by rw [hkd] at e;omega⟩;have ho:=I.oEp hn (by rw [hb];exact .inl hr.1);have eF:b.ep=g.m:=by rw [<-hb,ho];exact I.zW
  show ∃ k:Nat,b.ep-1=(k:Int)/\1<=k/\k<g.m/\((g.own (k+1):Nat):Int)=(n:Int)
  refine ⟨g.m-1,by omega,by omega,by omega,?_⟩;rw [show g.m-1+1=g.m by have:=I.m1;omega];exact congrArg Int.ofNat ho.symm
 simp at hl
theorem TU (I:QI m q g) (hn:n<5) (hu:(m.ah n).up=true):QI (m.wY n) q g/\vw (m.wY n) q=vw m q:=by
 have dH:(m.wY n).ah=upd m.ah n { m.ah n with turn:=(m.ah n).turn+1 }:=rfl;have fU:({ m.ah n with turn:=(m.ah n).turn+1 }:Nd).view q=(m.ah n).view q:=rfl;refine ⟨I.far hn dH fU rfl rfl (λ_ h=>h) (λx hx=>?_) rfl rfl rfl,mX dH fU⟩
 rcases List.mem_append.1 hx with hx | hx
 ·exact .inl hx
 refine .inr λhxq=>?_;have hxx:x.q=(m.ah n).turn % 4:=by
  unfold iN at hx
  rcases List.mem_append.1 hx with hx | hx
  ·rcases List.mem_append.1 hx with hx | hx
   ·split at hx
    ·rw [List.mem_singleton] at hx;subst hx;rfl
    simp at hx
   split at hx
   ·rw [List.mem_singleton] at hx;subst hx;rfl
   simp at hx
  split at hx
  ·rw [List.mem_singleton] at hx;subst hx;rfl
  simp at hx
 rw [hxx] at hxq;rw [hxq] at hx;exact ahh I hn (sV hu) x hx
end
structure lq (g g':Gh):Prop where
 m:g.m<=g'.m
 own: ∀ k,k<=g.m->g'.own k=g.own k
 Xj:g'.G.length<=g.G.length+1
theorem pO.next {g g':Gh} (h:pO g g'):lq g g':=⟨by rw [h.m];exact Nat.le_refl _,λk _=>by rw [h.own],by rw [h.G];omega⟩
theorem lq.refl (g:Gh):lq g g:=(pO.refl g).next
theorem lq.same {g g' g2:Gh} (h:lq g g') (h2:pO g' g2):lq g g2:=⟨by rw [h2.m];exact h.m,λk hk=>by rw [h2.own];exact h.own k hk,by rw [h2.G];exact h.Xj⟩
def DF (q:Nat) (g g':Gh) (m m':Cl):Prop:=g'.m=g.m->(vw m q g.o).role=3->(vw m' q g.o).role=3
section
variable {m m':Cl} {n q:Nat} {g g':Gh} {l:dK} {rs us:List dD} {X:Nd} {V:Nat->bn} {P:Nat->Option dB} {U:Nat->Bool} {Lt:dK->Prop} {pl:Pl} {sh:Nat->Int×Int} {sv:List fD}
theorem Inv.Xk (I:Inv g V P U Lt pl sh sv) (n:Nat):Inv g V (upd P n none) U Lt pl sh sv:=I.auw λk p _ hp=>by
 by_cases e:k=n
 ·subst e;rw [upd_same] at hp;cases hp
 rw [upd_ne e] at hp;exact .inl hp
theorem Inv.yF (I:Inv g V P U Lt pl sh sv) (hr:(V n).role=0\/(V n).role=4):n≠g.o:=λe=>by
 have:=I.arl;rw [<-e] at this;omega
theorem Inv.Pk (I:Inv g V P U Lt pl sh sv) {k:Nat} (h1:1<=k) (h2:k<=g.m) (h3:(V n).ep< (k:Int)+1):Oth g n ⟨4,(k:Int)+1,g.own k,0,0,[]⟩:=by
 refine .inr (.inr ⟨k,rfl,rfl,h1,h2,rfl,rfl,Nat.zero_le _,λh e=>?_⟩);have:=I.ge (k+1) oQ h;rw [e] at this;omega
theorem Inv.KG (I:Inv g V P U Lt pl sh sv) (hn:n<5) (hr:(V n).role=4) {j:Nat} (hj: ∀ k:Nat,(V n).ep=(k:Int)+1->j<=g.bd k):Oth g n { V n with evs:=g.G.take j }:=by
 rcases I.sj n hn (I.yF (.inr hr)) with ⟨h5,_⟩ | ⟨_,h5,_⟩ | ⟨k,k1,k2,k3,k4,k5,k6,k7,k8⟩
 ·omega
 ·omega
 have h1:=hj k k2;have h2:=I.aiq k3 k4;have e:(g.G.take j).length=j:=by rw [List.length_take];omega
 exact .inr (.inr ⟨k,k1,k2,k3,k4,k5,by show g.G.take j=g.G.take (g.G.take j).length;rw [e],by show (g.G.take j).length<=_;rw [e];exact h1,k8⟩)
theorem Inv.LP (I:Inv g V P U Lt pl sh sv) (hn:n<5) (hr:(V n).role=3) (h:(V n).ep<g.m):n≠g.o/\Oth g n ⟨0,(V n).ep,0,0,0,[]⟩:=by
 have hne:n≠g.o:=λe=>by have:=I.zW;rw [<-e] at this;omega
 refine ⟨hne,?_⟩
 rcases I.sj n hn hne with ⟨h5,_⟩ | ⟨k,k1,k2,k3,_⟩ | ⟨_,h5,_⟩
 ·omega
 ·exact .inl ⟨rfl,by show 0<=(V n).ep;omega,h⟩
 omega
theorem Inv.serve {op:Ev} {a:iM} {num:Int} {b:bn} {qq:Nat} (I:Inv g V P U Lt pl sh sv) (ho:n=g.o) (hu:U n=true) (hr:(V n).role≠3) (hg:good (g.G++[op])) (ha:(iw (av g.G).1 op).2.1=a) (hb:b.ep=(V n).ep) (hb1:b.role=(V n).role) (hb2:b.tg=(V n).tg) (hb3:b.evs=g.G++[op]):
  Inv (g.app op).all (upd V n b) (upd P n none) U Lt pl (upd sh n ((g.m:Int),((g.G++[op]).length:Int))) (sv++[⟨n,qq,g.m,op,a,num⟩]):=by
 subst ho;obtain ⟨t1,t2,t3⟩:=I.MS hu;obtain ⟨s1,s2,s3⟩:=good_step hg;have I2:=(I.down g.o).append (e:=op) (b:=b) (upd_same _ _ _) (upd_same _ _ _) hr t1 hg hb hb1 hb2 hb3;have I3:=I2.told (sv2:=[⟨g.o,qq,g.m,op,a,num⟩]) t1 (by rw [ED t3 s1 ha];show _=some (av (g.G++[op])).1;rw [s3]) λs hs=>by rw [List.mem_singleton] at hs;subst hs;exact ⟨rfl,rfl⟩
 have I4:=I3.up g.o λ_=>⟨rfl,rfl⟩;rw [qP,aF hu] at I4;exact I4
theorem Inv.activated {qq:Nat} (I:Inv g V P U Lt pl sh sv) (hu:U n=true) (hr:(V g.o).role=3) (nY:(V g.o).tg=n) (hg:good (g.G++[aI])) (hge:(V n).ep<=(g.m:Int)+1):
  Inv (g.act n).all (upd V n ⟨1,(g.m:Int)+1,0,0,0,g.G++[aI]⟩) (upd P n none) U Lt pl (upd sh n ((g.m:Int)+1,((g.G++[aI]).length:Int))) (sv++[⟨n,qq,(g.m:Int)+1,aI,eD,-1⟩]):=by
 have ht: ¬ (g.act n).t=(g.act n).m:=by
  show ¬ g.t=g.m+1
  rcases I.LB with ⟨h,_⟩ | ⟨h,_⟩<;>omega
 have ho:(g.act n).o=n:=upd_same _ _ _;have I2:=(I.down n).activate (T:=n) hr nY (upd_same _ _ _) (upd_same _ _ _) hg hge;have I3:=I2.ZQ ht (s:=⟨n,qq,(g.m:Int)+1,aI,eD,-1⟩) rfl rfl (by show (g.m:Int)+1=((g.m+1:Nat):Int);omega) ho.symm;have I4:=I3.up n λ_=>⟨rfl,rfl⟩;rw [qP,aF hu,ho] at I4;have e:(((g.act n).m:Nat):Int)=(g.m:Int)+1:=by show ((g.m+1:Nat):Int)=_;omega
 rw [e] at I4;exact I4
theorem ahi (g:Gh) (n:Nat):lq g (g.act n).all:=⟨by show g.m<=g.m+1;omega,λk hk=>upd_ne oQ,by show (g.G++[aI]).length<=_;simp⟩
theorem ahj (g:Gh) (e:Ev):lq g (g.app e).all:=⟨Nat.le_refl _,λ_ _=>rfl,by show (g.G++[e]).length<=_;simp⟩
theorem TV {p:dB} (I:QI m q g) (hn:n<5) (hX:m.ah n=X) (hu:X.up=true) (hp:X.pend=some p) (hpo:p.ok X.bs): ∃ g',QI (m.step n) q g'/\lq g g'/\DF q g g' m (m.step n):=by
 have hu':(m.ah n).up=true:=by rw [hX];exact hu
 by_cases hq:p.q=q
 ·have hpv:yS m q n=some p:=by unfold yS;rw [hX,hp];exact Xh hq
  obtain ⟨_,hk⟩:=I.nL n hn p hpv;have hV:vw m q n=X.bs q:=by rw [sV hu',hX]
  cases p with
  | serve k evs op num a=>
   have e:k=q:=hq;subst e;obtain ⟨k1,k2,k3,k4,k5⟩:=hk;have hr:(vw m k n).role≠3:=by unfold serves at k2;omega
   have eF:(X.bs k).ep=g.m:=by rw [<-hV,k1];exact I.zW
   rw [lg hX hu hp rfl (by rw [hV] at k2;exact k2)];have I2:=I.serve (b:={ X.bs k with evs:=evs }) (qq:=k) (num:=num) k1 hu' hr (by rw [<-k3];exact k5) k4 (by rw [hV]) (by rw [hV]) (by rw [hV]) k3;have dH:({ (m.put n (X.jA.aK k { X.bs k with evs:=evs })) with aQ:=m.aQ++[⟨n,k,(X.bs k).ep,op,a,num⟩],shown:=iy m.shown n k ((X.bs k).ep,evs.length),fly:=m.fly++[lK n num a nowhere] }:Cl).ah=upd m.ah n (X.jA.aK k { X.bs k with evs:=evs }):=rfl;have fU:(X.jA.aK k { X.bs k with evs:=evs }).view k={ X.bs k with evs:=evs }:=by rw [dU (X:=X.jA.aK k _) hu];exact upd_same _ _ _
   refine ⟨_,QI.mk' I2 (by rw [qD dH,fU]) (by rw [tJ dH];rfl) (mg dH (by rw [hX];rfl)) ?_ rfl ?_ ?_,ahj g op,λ_ h=>absurd h (by rw [<-k1];exact hr)⟩
   ·exact KF (x:=lK n num a nowhere) dH (λx hx=>by rw [hX];exact hx) hn rfl λ_=>mQ (.inr (.inl rfl))
   ·show (λj=>iy m.shown n k _ j k)=_
    rw [Gm,eF,k3];rfl
   show (m.aQ++_).filter _=_
   rw [tK,if_pos rfl,eF];rfl
  | begun k b=>
   have e:k=q:=hq;subst e;obtain ⟨j,j1,j2,j3,j4,j5⟩:=hk;rw [rG hX hu hp];have hne:=I.yF j4;have I2:=(I.Xk n).Sj (b:=b) hn hne (upd_same _ _ _) (by rw [j1];exact I.Pk j2 j3 j5) (by rw [j1];show _<=(j:Int)+1;omega);have dH:({ (m.put n (X.jA.aK k b)) with fly:=m.fly++[oC n k b] }:Cl).ah=upd m.ah n (X.jA.aK k b):=rfl;have fU:(X.jA.aK k b).view k=b:=by rw [dU (X:=X.jA.aK k _) hu];exact upd_same _ _ _
   have hvw:vw ({ (m.put n (X.jA.aK k b)) with fly:=m.fly++[oC n k b] }:Cl) k=upd (vw m k) n b:=by rw [qD dH,fU]
   exact ⟨g,QI.mk' I2 hvw (by rw [tJ dH];rfl) (mg dH (by rw [hX];rfl)) (KF (x:=oC n k b) dH (λx hx=>by rw [hX];exact hx) hn rfl λ_=>mQ (.inr (.inr rfl))) rfl rfl rfl,.refl g,λ_ h=>by rw [hvw,upd_ne (λe=>hne e.symm)];exact h⟩
  | got k b last=>
   have e:k=q:=hq;subst e;obtain ⟨j1,j2,j3⟩:=hk;have hne:=I.yF (.inr j1)
   cases last with
   | true=>
    obtain ⟨a1,a2,a3,a4,a5⟩:=j3 rfl;subst a4;rw [mF hX hu hp];have I2:=I.activated (qq:=k) hu' a2 a3 a5 (by rw [a1];exact Int.le_refl _);have dH:({ (m.put n { (X.jA.aK k ⟨1,(g.m:Int)+1,0,0,0,g.G++[aI]⟩) with sure:=upd X.sure k false }) with aQ:=m.aQ++[⟨n,k,(g.m:Int)+1,aI,eD,-1⟩],shown:=iy m.shown n k ((g.m:Int)+1,(g.G++[aI]).length) }:Cl).ah=upd m.ah n { (X.jA.aK k ⟨1,(g.m:Int)+1,0,0,0,g.G++[aI]⟩) with sure:=upd X.sure k false }:=rfl;have fU:({ (X.jA.aK k ⟨1,(g.m:Int)+1,0,0,0,g.G++[aI]⟩) with sure:=upd X.sure k false }:Nd).view k=⟨1,(g.m:Int)+1,0,0,0,g.G++[aI]⟩:=by rw [dU (X:={ (X.jA.aK k _) with sure:=upd X.sure k false }) hu];exact upd_same _ _ _
    refine ⟨_,QI.mk' I2 (by rw [qD dH,fU]) (by rw [tJ dH];rfl) (mg dH (by rw [hX];rfl)) (xO dH (λx hx=>by rw [hX];exact hx) hn rfl) rfl ?_ ?_,ahi g n,λh=>by
     have:g.m+1=g.m:=h;omega⟩
    ·show (λj=>iy m.shown n k _ j k)=_
     rw [Gm];rfl
    show (m.aQ++_).filter _=_
    rw [tK,if_pos rfl];rfl
   | false=>
    obtain ⟨j,a1,a2,a3⟩:=j2 rfl;rw [xM hX hu hp];have I2:=(I.Xk n).Sj (b:=b) hn hne (upd_same _ _ _) (by rw [a1];exact I.KG hn j1 a3) (by rw [a1];exact Int.le_refl _);have dH:({ (m.put n (X.jA.aK k b)) with fly:=m.fly++[oC n k b] }:Cl).ah=upd m.ah n (X.jA.aK k b):=rfl;have fU:(X.jA.aK k b).view k=b:=by rw [dU (X:=X.jA.aK k _) hu];exact upd_same _ _ _
    have hvw:vw ({ (m.put n (X.jA.aK k b)) with fly:=m.fly++[oC n k b] }:Cl) k=upd (vw m k) n b:=by rw [qD dH,fU]
    exact ⟨g,QI.mk' I2 hvw (by rw [tJ dH];rfl) (mg dH (by rw [hX];rfl)) (KF (x:=oC n k b) dH (λx hx=>by rw [hX];exact hx) hn rfl λ_=>mQ (.inr (.inr rfl))) rfl rfl rfl,.refl g,λ_ h=>by rw [hvw,upd_ne (λe=>hne e.symm)];exact h⟩
  | gI k b at_=>
   have e:k=q:=hq;subst e;obtain ⟨ho,j1,j2⟩:=hk;rw [uP hX hu hp];obtain ⟨t1,t2,t3⟩:=I.MS (by rw [<-ho];exact hu');have Xi:=I.ZP (by rw [<-ho];omega);have I2:Inv g (upd (vw m k) g.o b) (upd (yS m k) n none) (EL m) (M9 m k) (m.off.at k) (Az m k) (Ay m k):=by
    refine Inv.ab4 (I.Xk n) (λp' hp'=>?_) ?_ ?_ ?_ ?_ ?_ λ_=>t2
    ·rw [<-ho,upd_same] at hp';cases hp'
    ·rw [j2,ho];exact I.zW
    ·rw [j2,ho];exact I.Ga
    ·rw [j2];exact .inr (.inr rfl)
    ·intro _;rw [j2,ho];exact Xi
    intro h;rw [<-ho] at h;omega
   rw [<-ho] at I2;have dH:({ (m.put n (X.jA.aK k b)) with fly:=kZ n k b at_ m.fly }:Cl).ah=upd m.ah n (X.jA.aK k b):=rfl;have fU:(X.jA.aK k b).view k=b:=by rw [dU (X:=X.jA.aK k _) hu];exact upd_same _ _ _
   have hvw:vw ({ (m.put n (X.jA.aK k b)) with fly:=kZ n k b at_ m.fly }:Cl) k=upd (vw m k) n b:=by rw [qD dH,fU]
   refine ⟨g,QI.mk' I2 hvw (by rw [tJ dH];rfl) (mg dH (by rw [hX];rfl)) (λx hx=>?_) rfl rfl rfl,.refl g,λ_ h=>by rw [hvw,<-ho,upd_same,j2]⟩;obtain ⟨x1,x2⟩:=hx
   rcases x2 with x2 | ⟨j,hj,x2⟩
   ·rcases Hg I2 hn (upd_same _ _ _) x x2 with x3 | x3
    ·exact .inl ⟨x1,.inl x3⟩
    exact .inr x3
   rw [dH] at x2;by_cases e:j=n
   ·subst e;rw [upd_same] at x2;exact .inl ⟨x1,.inr ⟨j,hj,by rw [hX];exact x2⟩⟩
   rw [upd_ne e] at x2;exact .inl ⟨x1,.inr ⟨j,hj,x2⟩⟩
  | forget k b=>
   have e:k=q:=hq;subst e;obtain ⟨j1,j2,j3⟩:=hk;obtain ⟨hne,hoth⟩:=I.LP hn j1 j3;rw [pK hX hu hp];have I2:=(I.Xk n).Sj (b:=b) hn hne (upd_same _ _ _) (by rw [j2];exact hoth) (by rw [j2];exact Int.le_refl _);have dH:(m.put n (X.jA.aK k b)).ah=upd m.ah n (X.jA.aK k b):=rfl;have fU:(X.jA.aK k b).view k=b:=by rw [dU (X:=X.jA.aK k _) hu];exact upd_same _ _ _
   have hvw:vw (m.put n (X.jA.aK k b)) k=upd (vw m k) n b:=by rw [qD dH,fU]
   exact ⟨g,QI.mk' I2 hvw (by rw [tJ dH];rfl) (mg dH (by rw [hX];rfl)) (xO dH (λx hx=>by rw [hX];exact hx) hn rfl) rfl rfl rfl,.refl g,λ_ h=>by rw [hvw,upd_ne (λe=>hne e.symm)];exact h⟩
 have far: ∀ {m':Cl} {Y:Nd},m'.ah=upd m.ah n Y->Y.bs=upd X.bs p.q (p.b X.bs)->Y.up=true->Y.pend=none->Y.inbox=X.inbox->(∀ l∈m'.fly,l∈m.fly\/(l.q=q->J2 g (vw m q) (m.off.at q) l))->m'.off.at q=m.off.at q->Az m' q=Az m q->Ay m' q=Ay m q-> ∃ g',QI m' q g'/\lq g g'/\DF q g g' m m':=by
  intro m' Y h1 h2 h3 h4 h5 h6 h7 h8 h9;have fU:Y.view q=(m.ah n).view q:=by rw [dU h3,dU hu',h2,hX];exact upd_ne (λe=>hq e.symm)
  refine ⟨g,I.far hn h1 fU ?_ (by rw [hu'];exact h3) (λx hx=>by rw [hX,<-h5];exact hx) h6 h7 h8 h9,.refl g,λ_ h=>by rw [mX h1 fU];exact h⟩;rw [h4,hX,hp];exact (ank hq).symm
 have snoc: ∀ {x:dK} {fl:List dK},(x.q=q->J2 g (vw m q) (m.off.at q) x)-> ∀ l∈fl++[x],l∈fl\/(l.q=q->J2 g (vw m q) (m.off.at q) l):=λ{x fl} hx l hl=>by
  rcases List.mem_append.1 hl with hl | hl
  ·exact .inl hl
  rw [List.mem_singleton] at hl;subst hl;exact .inr hx
 cases p with
 | serve k evs op num a=>
  rw [lg hX hu hp rfl hpo.1];refine far (Y:=X.jA.aK k { X.bs k with evs:=evs }) rfl rfl hu rfl rfl (snoc λ_=>mQ (.inr (.inl rfl))) rfl (Pj hq) ?_
  show (m.aQ++_).filter _=_
  rw [tK,if_neg (show ¬ k=q from hq),List.append_nil];rfl
 | begun k b=>
  rw [rG hX hu hp];exact far (Y:=X.jA.aK k b) rfl rfl hu rfl rfl (snoc λ_=>mQ (.inr (.inr rfl))) rfl rfl rfl
 | got k b last=>
  cases last with
  | true=>
   rw [mF hX hu hp];refine far (Y:={ (X.jA.aK k b) with sure:=upd X.sure k false }) rfl rfl hu rfl rfl (λl hl=> .inl hl) rfl (Pj hq) ?_
   show (m.aQ++_).filter _=_
   rw [tK,if_neg (show ¬ k=q from hq),List.append_nil];rfl
  | false=>
   rw [xM hX hu hp];exact far (Y:=X.jA.aK k b) rfl rfl hu rfl rfl (snoc λ_=>mQ (.inr (.inr rfl))) rfl rfl rfl
 | gI k b at_=>
  rw [uP hX hu hp];refine far (Y:=X.jA.aK k b) rfl rfl hu rfl rfl (λl hl=>?_) rfl rfl rfl;unfold kZ at hl;dsimp only at hl
  split at hl
  ·exact .inl hl
  exact snoc (λh=>absurd h hq) l hl
 | forget k b=>
  rw [pK hX hu hp];exact far (Y:=X.jA.aK k b) rfl rfl hu rfl rfl (λl hl=> .inl hl) rfl rfl rfl
theorem xP: ∀ (rs:List dD),(bG rs).length<=46*rs.length
 | []=>by simp [bG]
 | r::rs=>by
  have h1:=(Bj r).2;have h2:=xP rs;have e:bG (r::rs)=l9 r++bG rs:=by simp [bG,List.flatMap_cons]
  rw [e,List.length_append,List.length_cons];omega
theorem Z9 {bs:Nat->bn} {p:dB} (hq:p.q=l.q) (hp:p.ok bs) (hS:Src (bs l.q) l p) (hl:l.evs.length<=3):(p.rs bs).length<=4:=by
 cases p with
 | serve k evs op num a=>exact Nat.le_of_ble_eq_true rfl
 | begun k b=>exact Nat.le_of_ble_eq_true rfl
 | gI k b a=>exact Nat.le_of_ble_eq_true rfl
 | forget k b=>exact Nat.le_of_ble_eq_true rfl
 | got k b last=>
  have e:k=l.q:=hq;subst e;obtain ⟨es,g1,g2,g3,g4,g5,g6,g7⟩:=Cy hp;obtain ⟨s1,s2,s3,s4,s5,s6,s7,s8,s9⟩:=hS;have hil:=TQ s4 s5 s7;have hbl:b.evs.length=l.at_.toNat+l.evs.length+if last=true then 1 else 0:=by
   rw [s9];unfold wZ;rw [<-s8]
   cases last with
   | true=>simp only [if_true,List.length_append,List.length_singleton];omega
   | false=>simp only [Bool.false_eq_true,if_false];omega
  rw [g7,List.length_append,List.length_map,List.length_drop]
  cases last with
  | true=>simp only [if_true,List.length_singleton] at*;omega
  | false=>simp only [Bool.false_eq_true,if_false,List.length_nil] at*;omega
theorem alA (hl:l.evs.length<=3) (H:Hnd m n l m'):(m'.ah n).data.length<=(m.ah n).data.length+184:=by
 cases H with
 | same=>omega
 | done a h1 h2=>rw [(CB (m:=m)).2.1];omega
 | have_ h1=>exact Nat.le_add_right _ _
 | part b h1 h2 h3 h4 h5 h6=>
  rw [(uR (m:=m.aK n l.q b)).2.1,show (m.aK n l.q b).ah n=(m.ah n).aK l.q b from dw _];exact Nat.le_add_right _ _
 | pend p Y d h1 h2 h3 h4 h5=>
  rw [dw]
  show d.length<=_
  obtain ⟨w1,_,_⟩:=qm h4;have h6:=Z9 h2 h3 h5 hl;have h7:=xP (p.rs (m.ah n).bs);rw [w1,List.length_append];omega
 | hear h1=>rw [dw];exact Nat.le_add_right _ _
theorem ahk {T S D K:Nat} (I:QI m q g) (hB:dM m T S D K) (hn:n<5) (hroom:(m.ah n).data.length+46<=100000) (hG:g.G.length<1999):(∃ g',QI (m.step n) q g'/\lq g g'/\DF q g g' m (m.step n))/\((m.step n).ah n).data.length<=(m.ah n).data.length+184:=by
 cases hu:(m.ah n).up with
 | false=>rw [uO hu];exact ⟨⟨g,I,.refl g,λ_ h=>h⟩,by omega⟩
 | true=>
  obtain ⟨rs,us,hU⟩:=(hB.kr n hn).Cx hu
  cases hp:(m.ah n).pend with
  | some p=>
   obtain ⟨h1,h2,h3⟩:=hU.O4 p hp;obtain ⟨_,hf⟩:=kT hU.tape hU.mP h2 h3;obtain ⟨Y,y1,y2,y3,_⟩:=Ph rfl hu hp h3 hf h2;refine ⟨TV I hn rfl hu hp h2,?_⟩;rw [y1,upd_same,y3];omega
  | none=>
   have hus:=hU.ZY hp;subst hus;have hd:(bG rs).length+46<=100000:=by have:=hU.data;rw [List.append_nil] at this;rw [<-this];exact hroom
   have key:=Bt (n:=n) (λm1=>(Rdg m n rs m1/\(m1.ah n).data.length<=(bG rs).length+184)/\ ∃ g1,QI m1 q g1/\pO g g1/\((vw m q g.o).role=3->(vw m1 q g.o).role=3)) (λm1 l r H hp1 hin=>by
    obtain ⟨⟨H1,D1⟩,g1,I1,S1,R1⟩:=H;obtain ⟨h1,h2,h3,h4⟩:=Bu (λl hl=>uV (hB.lC n hn l hl)) H1 hp1 hin;have hl0:l∈(m1.ah n).inbox:=by rw [hin];simp
    obtain ⟨b1,b2⟩:=hB.lC n hn l (H1.lC l hl0);have dH:(m1.put n ((m1.ah n).box r)).ah=upd m1.ah n ((m1.ah n).box r):=rfl;have fU:((m1.ah n).box r).view q=(m1.ah n).view q:=rfl;have hvw:=mX dH fU;have I2:QI (m1.put n ((m1.ah n).box r)) q g1:=I1.far hn dH fU rfl rfl (λx hx=>by rw [hin];exact List.mem_cons_of_mem _ hx) (λx hx=> .inl hx) rfl rfl rfl;have e0:(m1.put n ((m1.ah n).box r)).ah n=(m1.ah n).box r:=dw _;have hdd:=h2.data;rw [List.append_nil] at hdd;obtain ⟨g2,I3,S3,R3⟩:=Z8 I2 hn (by rw [e0];exact H1.up) h2 (by rw [e0];exact hp1) (λhlq=>by rw [hvw];exact I1.qC l ⟨hlq,.inr ⟨n,hn,hl0⟩⟩) b2 b1.2.2.2 h1.1 (by rw [hdd];exact hd) (by rw [S1.G];exact hG) h3;have D2:=alA b1.2.1 h3;rw [hdd] at D2;refine ⟨h1.1,⟨h4,D2⟩,g2,I3,S1.trans S3,λh=>?_⟩;have h9:=R1 h;rw [<-S1.o] at h9⊢;rw [<-hvw] at h9;exact R3 h9) _ m rfl ⟨⟨RL hu ⟨_,hU⟩,by have:=hU.data;rw [List.append_nil] at this;rw [this];omega⟩,g,I,.refl g,id⟩
   obtain ⟨⟨H1,D1⟩,g1,I1,S1,R1⟩:=key;have hd0:=congrArg List.length hU.data;rw [List.append_nil] at hd0;rw [nM hu hp]
   split
   ·obtain ⟨I2,e2⟩:=TU I1 hn H1.up;refine ⟨⟨g1,I2,S1.next,λ_ h=>by rw [e2];exact R1 h⟩,?_⟩;have e:(((m.more n).wY n).ah n)={ (m.more n).ah n with turn:=((m.more n).ah n).turn+1 }:=dw _;rw [e]
    show ((m.more n).ah n).data.length<=_
    omega
   exact ⟨⟨g1,I1,S1.next,λ_ h=>R1 h⟩,by omega⟩
end
def QIx (m:Cl) (q:Nat) (g:Gh) (ls:List dK):Prop:=Inv g (vw m q) (yS m q) (EL m) (λl=>M9 m q l\/(l.q=q/\l∈ls)) (m.off.at q) (Az m q) (Ay m q)
theorem YN {d:Dir} {k q:Nat} {p:Pl} (hk:k<4) (hq:q<4):(d.set k p).at q=if q=k then p else d.at q:=by
 have h1:k=0\/k=1\/k=2\/k=3:=oQ;have h2:q=0\/q=1\/q=2\/q=3:=oQ
 rcases h1 with rfl | rfl | rfl | rfl<;>rcases h2 with rfl | rfl | rfl | rfl<;>rfl
theorem alB {d:Dir} {q ep nd:Int} (h:(BJ d q ep nd).2=0):(aY d q).2=0/\0<=nd/\nd<=4/\(aY d q).1.epoch=ep/\BJ d q ep nd=(d.set q.toNat ⟨nd,ep+1⟩,0):=by
 unfold BJ at h⊢;by_cases c1:(aY d q).2≠0
 ·rw [if_pos c1] at h;exact absurd h c1
 rw [if_neg c1] at h⊢;by_cases c2:nd<0\/4<nd
 ·rw [if_pos c2] at h;exact absurd h dQ
 rw [if_neg c2] at h⊢;by_cases c3:(aY d q).1.epoch≠ep
 ·rw [if_pos c3] at h;exact absurd h dQ
 rw [if_neg c3] at h⊢;by_cases c4:(aY d q).1.node=nd
 ·rw [if_pos c4] at h;exact absurd h dQ
 rw [if_neg c4] at h⊢;by_cases c5:ep=1048576
 ·rw [if_pos c5] at h;exact absurd h dQ
 rw [if_neg c5];exact ⟨Classical.not_not.1 c1,by omega,by omega,Classical.not_not.1 c3,rfl⟩
section
variable {m m':Cl} {n q:Nat} {g g':Gh} {l:dK} {ls:List dK} {rs us:List dD} {X:Nd} {V:Nat->bn} {P:Nat->Option dB} {U:Nat->Bool} {Lt:dK->Prop} {pl:Pl} {sh:Nat->Int×Int} {sv:List fD}
theorem TW (I:QIx m q g (l::ls)) (hl:ko l) (hq:q<4):QIx (m.come l) q g ls/\vw (m.come l) q=vw m q:=by
 have drop: ∀ {x:dK},(M9 m q x\/(x.q=q/\x∈ls))->(M9 m q x\/(x.q=q/\x∈l::ls)):=λh=>h.imp id λh=>⟨h.1,List.mem_cons_of_mem _ h.2⟩;obtain ⟨hlq,_,h1 | ⟨h1,h2,h3,h4⟩ | ⟨h1,h2,h3⟩,_⟩:=id hl
 ·have e:m.come l={ m with bH:=m.bH++[l.bH] }:=if_pos h1;rw [e];exact ⟨I.zx λx hx=> .inl (drop hx),rfl⟩
 ·have key:Inv g (vw m q) (yS m q) (EL m) (λx=>M9 m q x\/(x.q=q/\x∈l::ls)) ((fu m.off l).at q) (Az m q) (Ay m q):=by
   unfold fu;by_cases c:0<=l.nd/\(BJ m.off l.q l.ep l.nd).2=0
   ·rw [if_pos c];obtain ⟨f1,f2,f3,f4,f5⟩:=alB c.2;rw [f5];dsimp only;rw [Int.toNat_natCast,YN hlq hq];by_cases e:q=l.q
    ·rw [if_pos e];obtain ⟨_,_,w3⟩:=rJ (d:=m.off) (q:=l.q) (λh=>h f1);have w3':(aY m.off l.q).1=m.off.at q:=by rw [w3,Int.toNat_natCast,e]
     rw [w3'] at f4;obtain ⟨d,d1,d2,d3⟩:=I.dir;rw [d1] at f4;dsimp only at f4;obtain ⟨k,k1,k2,k3,k4⟩:=(I.qC l (.inr ⟨e.symm,List.mem_cons_self ..⟩)).2.2.1 h4 f2;have hk:k+1=g.m:=oQ;rw [hk] at k4;refine I.awH ?_;simp only [Pl.mk.injEq];omega
    rw [if_neg e];exact I
   rw [if_neg c];exact I
  unfold Cl.come;rw [if_neg oQ,if_pos h1]
  split
  ·rename_i hw
   refine ⟨key.zx λx hx=>?_,rfl⟩
   rcases hx with ⟨x1,x2⟩ | hx
   ·rcases x2 with x2 | x2
    ·rcases List.mem_append.1 x2 with x2 | x2
     ·exact .inl (.inl ⟨x1,.inl x2⟩)
     rw [List.mem_singleton] at x2;subst x2;refine .inr ?_;have hkd:(lS l.fr l.q (aY (fu m.off l) l.q).1).kd=6:=rfl;refine ⟨λe=>by rw [hkd] at e;omega,λe=>by rw [hkd] at e;omega,λe=>by rw [hkd] at e;omega,λ_=>?_⟩;have x1':l.q=q:=x1;subst x1';obtain ⟨_,_,w3⟩:=rJ (d:=fu m.off l) (q:=l.q) (λh=>h hw);rw [Int.toNat_natCast] at w3;obtain ⟨d,d1,d2,d3⟩:=key.dir
     show ∃ k:Nat,(aY (fu m.off l) l.q).1.epoch=k/\1<=k/\(k:Int)<=((fu m.off l).at l.q).epoch/\((g.own k:Nat):Int)=(aY (fu m.off l) l.q).1.node
     rw [w3,d1];exact ⟨d,rfl,d2,Int.le_refl _,rfl⟩
    exact .inl (.inl ⟨x1,.inr x2⟩)
   exact .inl (.inr ⟨hx.1,List.mem_cons_of_mem _ hx.2⟩)
  exact ⟨key.zx λx hx=> .inl (drop hx),rfl⟩
 unfold Cl.come;rw [if_neg oQ,if_neg oQ];have hn:l.tg.toNat<5:=oQ
 split
 ·rename_i hu
  have dH:(m.put l.tg.toNat { m.ah l.tg.toNat with inbox:=(m.ah l.tg.toNat).inbox++[l] }).ah=upd m.ah l.tg.toNat ((m.ah l.tg.toNat).box ((m.ah l.tg.toNat).inbox++[l])):=rfl;have hvw:=mX (q:=q) dH rfl;refine ⟨?_,hvw⟩;unfold QIx;rw [hvw,sF dH rfl,mg dH rfl];refine I.zx λx hx=> .inl ?_
  rcases hx with ⟨x1,x2⟩ | hx
  ·rcases x2 with x2 | ⟨j,hj,x2⟩
   ·exact .inl ⟨x1,.inl x2⟩
   rw [dH] at x2;by_cases e:j=l.tg.toNat
   ·subst e;rw [upd_same] at x2
    rcases List.mem_append.1 x2 with x2 | x2
    ·exact .inl ⟨x1,.inr ⟨_,hj,x2⟩⟩
    rw [List.mem_singleton] at x2;subst x2;exact .inr ⟨x1,List.mem_cons_self ..⟩
   rw [upd_ne e] at x2;exact .inl ⟨x1,.inr ⟨j,hj,x2⟩⟩
  exact .inr ⟨hx.1,List.mem_cons_of_mem _ hx.2⟩
 exact ⟨I.zx λx hx=> .inl (drop hx),rfl⟩
theorem Pm: ∀ (ls:List dK) {m:Cl},QIx m q g ls->(∀ l∈ls,ko l)->q<4->QIx (ls.foldl Cl.come m) q g []/\vw (ls.foldl Cl.come m) q=vw m q
 | [],m,I,_,_=>⟨I,rfl⟩
 | l::ls,m,I,hl,hq=>by
  obtain ⟨I2,e⟩:=TW I (hl l iQ) hq;obtain ⟨I3,e3⟩:=Pm ls I2 (λx hx=>hl x (by simp [hx])) hq;exact ⟨I3,e3.trans e⟩
theorem Qq:QIx m q g []↔QI m q g:=by
 constructor
 ·intro I;exact I.zx λx hx=> .inl (.inl hx)
 intro I;exact I.zx λx hx=> .inl (hx.elim id λh=>by simp at h)
theorem aac (I:QI m q g) (hl: ∀ l∈m.fly,ko l) (hq:q<4):QI m.all q g/\vw m.all q=vw m q:=by
 have I0:QIx { m with fly:=[] } q g m.fly:=I.zx λx hx=> .inl (by
  rcases hx with ⟨x1,x2⟩ | ⟨x1,x2⟩
  ·rcases x2 with x2 | x2
   ·simp at x2
   exact ⟨x1,.inr x2⟩
  exact ⟨x1,.inl x2⟩)
 obtain ⟨I1,e⟩:=Pm m.fly I0 hl hq;exact ⟨Qq.1 I1,e⟩
theorem ahl {at_:Nat} {c s:Bool} (I:QI m q g) (hl: ∀ l∈m.fly,ko l) (hq:q<4):QI (m.pick at_ c s) q g/\vw (m.pick at_ c s) q=vw m q:=by
 unfold Cl.pick
 split
 ·exact ⟨I,rfl⟩
 rename_i l hl2
 have hm:=List.mem_of_getElem? hl2;have I0:QIx (if s=true then m else { m with fly:=m.fly.eraseIdx (at_ % m.fly.length) }) q g [l]/\vw (if s=true then m else { m with fly:=m.fly.eraseIdx (at_ % m.fly.length) }) q=vw m q:=by
  split
  ·exact ⟨I.zx λx hx=> .inl (hx.elim id λh=>by have:=h.2;rw [List.mem_singleton] at this;subst this;exact ⟨h.1,.inl hm⟩),rfl⟩
  exact ⟨I.zx λx hx=> .inl (by
   rcases hx with ⟨x1,x2⟩ | ⟨x1,x2⟩
   ·rcases x2 with x2 | x2
    ·exact ⟨x1,.inl (List.mem_of_mem_eraseIdx x2)⟩
    exact ⟨x1,.inr x2⟩
   rw [List.mem_singleton] at x2;subst x2;exact ⟨x1,.inl hm⟩),rfl⟩
 dsimp only
 split
 ·obtain ⟨I1,e⟩:=TW I0.1 (hl l hm) hq;exact ⟨Qq.1 I1,e.trans I0.2⟩
 exact ⟨Qq.1 (I0.1.zx λx hx=> .inl (hx.elim .inl λh=>by simp at h)),I0.2⟩
theorem ahm (I:QI m q g) {c:Nat} (hk:l.kd=0):QI { m with fly:=m.fly++[l],calls:=c } q g/\vw { m with fly:=m.fly++[l],calls:=c } q=vw m q:=by
 refine ⟨I.zx λx hx=>?_,rfl⟩;obtain ⟨x1,x2⟩:=hx
 rcases x2 with x2 | x2
 ·rcases List.mem_append.1 x2 with x2 | x2
  ·exact .inl ⟨x1,.inl x2⟩
  rw [List.mem_singleton] at x2;subst x2;exact .inr (mQ (.inl hk))
 exact .inl ⟨x1,.inr x2⟩
theorem ahn {q':Nat} {tg:Int} {T S D K:Nat} (I:QI m q g) (hB:dM m T S D K) (hq':q'<4) (hq:q<4):QI (m.move q' tg) q g/\((vw m q g.o).role=3->(vw (m.move q' tg) q g.o).role=3)/\ ∀ n,((m.move q' tg).ah n).data=(m.ah n).data:=by
 unfold Cl.move
 split
 ·exact ⟨I,id,λ_=>rfl⟩
 rename_i h0
 have hw: ¬ (aY m.off q').2≠0:=λe=>h0 (.inl e);have hne: ¬ (aY m.off q').1.node=tg:=λe=>h0 (.inr (.inl e));obtain ⟨hn,aKP,w3⟩:=rJ hw;have hu:(m.ah (aY m.off q').1.node.toNat).up=true:=by
  cases e:(m.ah (aY m.off q').1.node.toNat).up with
  | true=>rfl
  | false=>exact absurd (.inr (.inr e)) h0
 rw [Int.toNat_natCast] at w3
 split
 ·rename_i h1
  obtain ⟨h1,h2⟩:=h1;obtain ⟨g1,g2,g3,g4⟩:=go_ok h1;rw [g4] at h2⊢;dsimp only at h2⊢;have hnn:(aY m.off q').1.node=(((aY m.off q').1.node.toNat:Nat):Int):=oQ;generalize (aY m.off q').1.node.toNat=n at*;have dH:(m.aK n q' ⟨2,((m.ah n).bs q').ep,0,tg,0,((m.ah n).bs q').evs⟩).ah=upd m.ah n ((m.ah n).aK q' ⟨2,((m.ah n).bs q').ep,0,tg,0,((m.ah n).bs q').evs⟩):=rfl
  suffices hs:QI (m.aK n q' ⟨2,((m.ah n).bs q').ep,0,tg,0,((m.ah n).bs q').evs⟩) q g/\((vw m q g.o).role=3->(vw (m.aK n q' ⟨2,((m.ah n).bs q').ep,0,tg,0,((m.ah n).bs q').evs⟩) q g.o).role=3) from ⟨hs.1,hs.2,λj=>by
   rw [dH];by_cases e:j=n
   ·subst e;rw [upd_same];rfl
   rw [upd_ne e]⟩
  by_cases e:q'=q
  ·subst e;have hV:=sV (q:=q') hu;have ho:=I.oEp hn (by rw [hV];exact .inl g1);have eF:((m.ah n).bs q').ep=g.m:=by rw [<-hV,ho];exact I.zW
   have fU:((m.ah n).aK q' ⟨2,((m.ah n).bs q').ep,0,tg,0,((m.ah n).bs q').evs⟩).view q'=⟨2,((m.ah n).bs q').ep,0,tg,0,((m.ah n).bs q').evs⟩:=by rw [dU (X:=(m.ah n).aK q' _) hu];exact upd_same _ _ _
   have hvw:vw (m.aK n q' ⟨2,((m.ah n).bs q').ep,0,tg,0,((m.ah n).bs q').evs⟩) q'=upd (vw m q') n ⟨2,((m.ah n).bs q').ep,0,tg,0,((m.ah n).bs q').evs⟩:=by rw [qD dH,fU]
   have acC:((m.ah n).bs q').ep=(m.off.at q').epoch:=by rw [<-w3];exact h2
   have I2:Inv g (upd (vw m q') g.o ⟨2,((m.ah n).bs q').ep,0,tg,0,((m.ah n).bs q').evs⟩) (yS m q') (EL m) (M9 m q') (m.off.at q') (Az m q') (Ay m q'):=by
    refine Inv.ab4 I (λp hp=>?_) ?_ ?_ ?_ ?_ ?_ ?_
    ·obtain ⟨_,hk⟩:=I.nL g.o I.o5 p hp;rw [<-ho] at hk⊢
     cases p with
     | serve k evs op num a=>
      obtain ⟨k1,k2,k3⟩:=hk;exact ⟨k1,by rw [upd_same];exact .inr rfl,k3⟩
     | begun k b=>obtain ⟨_,_,_,_,k4,_⟩:=hk;rw [hV] at k4;exfalso;omega
     | got k b last=>have:=hk.1;rw [hV] at this;exfalso;omega
     | gI k b a=>have:=hk.2.1;rw [hV] at this;exfalso;omega
     | forget k b=>have:=hk.1;rw [hV] at this;exfalso;omega
    ·exact eF
    ·show ((m.ah n).bs q').evs=_;rw [<-hV,ho];exact I.Ga
    ·exact .inr (.inl rfl)
    ·intro _;refine ⟨by rw [<-acC];exact eF,?_,g2,by show tg<5;omega⟩
     show ¬ tg=(g.o:Int)
     rw [<-ho,<-hnn];exact λe=>hne e.symm
    ·intro h;rw [<-ho,hV] at h;omega
    intro h;exact absurd (show (2:Int)=3 from h) dQ
   rw [<-ho] at I2;exact ⟨QI.mk' I2 hvw (sF dH rfl) (mg dH rfl) (xO dH (λ_ h=>h) hn rfl) rfl rfl rfl,λh=>by rw [<-ho,hV] at h;omega⟩
  have fU:((m.ah n).aK q' ⟨2,((m.ah n).bs q').ep,0,tg,0,((m.ah n).bs q').evs⟩).view q=(m.ah n).view q:=by
   rw [dU (X:=(m.ah n).aK q' _) hu,dU hu];exact upd_ne (λh=>e h.symm)
  exact ⟨I.far hn dH fU rfl rfl (λ_ h=>h) (λx hx=> .inl hx) rfl rfl rfl,by rw [mX dH fU];exact id⟩
 exact ⟨I,id,λ_=>rfl⟩
theorem Inv.au4 (I:Inv g V P U Lt pl sh sv) (hn:n<5) (hp:P n=none):Inv g (upd V n (jV (V n))) P U Lt pl sh sv:=by
 by_cases hr:(V n).role=2
 ·have ho:=I.oEp hn (.inr hr);subst ho;have e:jV (V g.o)=⟨1,(V g.o).ep,0,0,0,(V g.o).evs⟩:=by unfold jV;rw [if_pos hr]
  rw [e];exact I.ab4 (λp hp'=>by rw [hp] at hp';cases hp') I.zW I.Ga (.inl rfl) (λh=>absurd rfl h) (λh=>by omega) λh=>absurd (show (1:Int)=3 from h) dQ
 rw [Bn hr,aF rfl];exact I
theorem Inv.crash {bs:Nat->bn} {x:bn} (I:Inv g V P U Lt pl sh sv) (hn:n<5) (hV:V n=bs q) (hr2: ∀ p,P n=some p->p.q=q) (hx:x=jV (bs q)\/ ∃ p,P n=some p/\p.q=q/\MP bs p x):
  ∃ g',Inv g' (upd V n x) (upd P n none) (upd U n false) Lt pl sh sv/\lq g g'/\(g'.m=g.m->(V g.o).role=3->(upd V n x g.o).role=3):=by
 have I1:=I.down n;have hpn:(upd P n none) n=none:=upd_same _ _ _;have xQ: ∀ {y:bn},((V n).role=3->y.role=3)->((V g.o).role=3->(upd V n y g.o).role=3):=λ{y} h h2=>by
  by_cases e:g.o=n
  ·rw [e] at h2⊢;rw [upd_same];exact h h2
  rw [upd_ne e];exact h2
 have au5: ∃ g',Inv g' (upd V n (jV (bs q))) (upd P n none) (upd U n false) Lt pl sh sv/\lq g g'/\(g'.m=g.m->(V g.o).role=3->(upd V n (jV (bs q)) g.o).role=3):=by
  rw [<-hV];exact ⟨g,I1.au4 hn hpn,.refl g,λ_=>xQ λh=>by rw [Bn oQ];exact h⟩
 rcases hx with hx | ⟨p,hp,hq,hx⟩
 ·rw [hx];exact au5
 obtain ⟨hu,hk⟩:=I.nL n hn p hp
 rcases hx with hx | hx | ⟨k,b,last,j,h1,hx,h3⟩
 ·rw [hx,hq];exact au5
 ·cases p with
  | serve k evs op num a=>
   have e:k=q:=hq;subst e;obtain ⟨k1,k2,k3,k4,k5⟩:=hk;obtain ⟨t1,t2,t3⟩:=I.MS (by rw [<-k1];exact hu);have hr3:(V n).role≠3:=by unfold serves at k2;omega
   have hx':x=jV { V n with evs:=evs }:=by rw [hx,hV];rfl
   have I2:Inv (g.app op) (upd V n { V n with evs:=evs }) (upd P n none) (upd U n false) Lt pl sh sv:=by
    subst k1;exact I1.append (e:=op) (b:={ V g.o with evs:=evs }) hpn (upd_same _ _ _) hr3 t1 (by rw [<-k3];exact k5) rfl rfl rfl k3
   have I3:=I2.au4 hn hpn;rw [upd_same,qP,<-hx'] at I3;exact ⟨_,I3,⟨Nat.le_refl _,λ_ _=>rfl,by show (g.G++[op]).length<=_;simp⟩,λ_=>xQ λh=>absurd h hr3⟩
  | begun k b=>
   obtain ⟨j,j1,j2,j3,j4,j5⟩:=hk;have hx':x=b:=by rw [hx];show jV b=b;rw [j1];exact Jt (.inl rfl)
   have I2:=I1.Sj (b:=b) hn (I.yF j4) hpn (by rw [j1];exact I.Pk j2 j3 j5) (by rw [j1];show _<=(j:Int)+1;omega);rw [hx'];exact ⟨g,I2,.refl g,λ_=>xQ λh=>by omega⟩
  | got k b last=>
   obtain ⟨j1,j2,j3⟩:=hk
   cases last with
   | true=>
    obtain ⟨a1,a2,a3,a4,a5⟩:=j3 rfl;have hx':x=⟨1,(g.m:Int)+1,0,0,0,g.G++[aI]⟩:=by rw [hx];show jV b=_;rw [a4];rfl
    have I2:=I1.activate (T:=n) a2 a3 hpn (upd_same _ _ _) a5 (by rw [a1];exact Int.le_refl _);rw [hx'];exact ⟨_,I2,⟨by show g.m<=g.m+1;omega,λk hk=>upd_ne oQ,by show (g.G++[aI]).length<=_;simp⟩,λh=>by
     have:g.m+1=g.m:=h;omega⟩
   | false=>
    obtain ⟨j,a1,a2,a3⟩:=j2 rfl;have hx':x=b:=by rw [hx];show jV b=b;rw [a1];exact Jt (.inl j1)
    have I2:=I1.Sj (b:=b) hn (I.yF (.inr j1)) hpn (by rw [a1];exact I.KG hn j1 a3) (by rw [a1];exact Int.le_refl _);rw [hx'];exact ⟨g,I2,.refl g,λ_=>xQ λh=>by omega⟩
  | gI k b at_=>
   obtain ⟨ho,j1,j2⟩:=hk;obtain ⟨t1,t2,t3⟩:=I.MS (by rw [<-ho];exact hu);have Xi:=I.ZP (by rw [<-ho];omega);have hx':x=b:=by rw [hx];show jV b=b;rw [j2];exact Jt (.inr (.inr (.inl rfl)))
   have I2:Inv g (upd V g.o b) (upd P n none) (upd U n false) Lt pl sh sv:=by
    refine Inv.ab4 I1 (λp' hp'=>?_) ?_ ?_ ?_ ?_ ?_ λ_=>t2
    ·rw [<-ho,upd_same] at hp';cases hp'
    ·rw [j2,ho];exact I.zW
    ·rw [j2,ho];exact I.Ga
    ·rw [j2];exact .inr (.inr rfl)
    ·intro _;rw [j2,ho];exact Xi
    intro h;rw [<-ho] at h;omega
   rw [<-ho] at I2;rw [hx'];exact ⟨g,I2,.refl g,λ_=>xQ λ_=>by rw [j2]⟩
  | forget k b=>
   obtain ⟨j1,j2,j3⟩:=hk;obtain ⟨hne,hoth⟩:=I.LP hn j1 j3;have hx':x=b:=by rw [hx];show jV b=b;rw [j2];exact Jt (.inr (.inl rfl))
   have I2:=I1.Sj (b:=b) hn hne hpn (by rw [j2];exact hoth) (by rw [j2];exact Int.le_refl _);rw [hx'];refine ⟨g,I2,.refl g,λ_ h=>?_⟩;rw [upd_ne (λe=>hne e.symm)];exact h
 subst h1;have e:k=q:=hq;subst e;obtain ⟨j1,j2,j3⟩:=hk;have hev: ∃ i,b.evs.take ((bs k).evs.length+j)=g.G.take i/\ ∀ k':Nat,(V n).ep=(k':Int)+1->i<=g.bd k':=by
  cases last with
  | true=>
   obtain ⟨a1,a2,a3,a4,a5⟩:=j3 rfl;have hb:b.evs=g.G++[aI]:=by rw [a4]
   simp only [if_true] at h3;rw [hb,List.length_append,List.length_singleton] at h3;refine ⟨(bs k).evs.length+j,by rw [hb,qh oQ],λk' hk'=>?_⟩;have:k'=g.m:=oQ;subst this;unfold Gh.bd;rw [if_pos rfl];omega
  | false=>
   obtain ⟨i,a1,a2,a3⟩:=j2 rfl;have hb:b.evs=g.G.take i:=by rw [a1]
   refine ⟨min ((bs k).evs.length+j) i,by rw [hb,List.take_take],λk' hk'=>Nat.le_trans (Nat.min_le_right _ _) (a3 k' hk')⟩
 obtain ⟨i,e1,e2⟩:=hev;have hx':x={ V n with evs:=g.G.take i }:=by rw [hx,e1,hV]
 have I2:=I1.Sj (b:={ V n with evs:=g.G.take i }) hn (I.yF (.inr j1)) hpn (I.KG hn j1 e2) (Int.le_refl _);rw [hx'];exact ⟨g,I2,.refl g,λ_=>xQ λh=>by omega⟩
theorem ac2 {keep:Int} {T S D K:Nat} (I:QI m q g) (hB:dM m T S D K) (hn:n<5) (hq:q<4) (hk:0<=keep):(∃ g',QI (m.crash n keep) q g'/\lq g g'/\DF q g g' m (m.crash n keep))/\ ∀ j,((m.crash n keep).ah j).data.length<=(m.ah j).data.length:=by
 unfold Cl.crash
 split
 ·rename_i hu
  change (∃ g',QI (m.put n ((m.ah n).crashed keep)) q g'/\lq g g'/\DF q g g' m (m.put n ((m.ah n).crashed keep)))/\ ∀ j,((m.put n ((m.ah n).crashed keep)).ah j).data.length<=(m.ah j).data.length;obtain ⟨rs,us,hU⟩:=(hB.kr n hn).Cx hu;obtain ⟨rs',t,f,hd,hf⟩:=KD hU hk;have dH:(m.put n ((m.ah n).crashed keep)).ah=upd m.ah n ((m.ah n).crashed keep):=rfl;have fU:((m.ah n).crashed keep).view q=f q:=hd.view rfl hq;have hV:=sV (q:=q) hu;have hP: ∀ p,yS m q n=some p->(m.ah n).pend=some p/\p.q=q:=λp hp=>by
   unfold yS at hp
   cases e:(m.ah n).pend with
   | none=>rw [e] at hp;cases hp
   | some p'=>
    rw [e] at hp;unfold pq at hp;dsimp only at hp
    split at hp
    ·cases hp;exact ⟨rfl,by assumption⟩
    cases hp
  obtain ⟨g',I2,N2,R2⟩:=Inv.crash I hn hV (λp hp=>(hP p hp).2) (x:=f q) (by
   rcases hf q hq with h | ⟨p,h1,h2,h3⟩
   ·exact .inl h
   exact .inr ⟨p,by unfold yS;rw [h1];exact Xh h2,h2,h3⟩)
  have hvw:vw (m.put n ((m.ah n).crashed keep)) q=upd (vw m q) n (f q):=by rw [qD dH,fU]
  refine ⟨⟨g',QI.mk' I2 hvw (by rw [tJ dH];rfl) (by rw [V8 dH];rfl) (xO dH (λx hx=>by cases hx) hn rfl) rfl rfl rfl,N2,λh1 h2=>by
   have:=R2 h1 h2;rw [<-hvw] at this;exact this⟩,λj=>?_⟩
  show ((m.put n ((m.ah n).crashed keep)).ah j).data.length<=_
  rw [dH];by_cases e:j=n
  ·subst e;rw [upd_same]
   show (mY _ _ _).1.length<=_
   unfold mY
   split
   ·split
    ·simp
    split
    ·simp
    simp;omega
   simp
  rw [upd_ne e];exact Nat.le_refl _
 exact ⟨⟨g,I,.refl g,λ_ h=>h⟩,λ_=>Nat.le_refl _⟩
end
section
variable {m m':Cl} {n q:Nat} {g g':Gh} {V:Nat->bn} {P:Nat->Option dB} {U:Nat->Bool} {Lt:dK->Prop} {pl:Pl} {sh:Nat->Int×Int} {sv:List fD}
def AY (n q:Nat) (ep:Int) (evs:List Ev) (an:List iM) (i:Nat):fD:=⟨n,q,ep,evs.getD i aO,an.getD i eD,-1⟩
theorem zX {evs:List Ev} {an:List iM}: ∀ (il:List Nat) (m:Cl),m.recovered n q evs an il=
  { m with aQ:=m.aQ++il.map (AY n q ((m.ah n).bs q).ep evs an),shown:=if il=[] then m.shown else iy m.shown n q (((m.ah n).bs q).ep,(((m.ah n).bs q).evs.length:Int)) }
 | [],m=>by simp [Cl.recovered]
 | i::r,m=>by
  rw [Cl.recovered,zX r];have e: ∀ (s:Nat->Nat->Int×Int) (p:Int×Int),iy (iy s n q p) n q p=iy s n q p:=λs p=>by
   funext a b
   unfold iy
   split<;>rfl
  unfold Cl.tell;dsimp only;rw [if_neg (by simp: ¬ i::r=[]),List.map_cons,List.append_assoc]
  congr 1
  split
  ·rfl
  exact e _ _
theorem alC {ep:Int} {evs:List Ev} {an:List iM} {q':Nat} (il:List Nat):(il.map (AY n q' ep evs an)).filter (λs=>decide (s.q=q))=if q'=q then il.map (AY n q' ep evs an) else []:=by
 by_cases e:q'=q
 ·rw [if_pos e];refine List.filter_eq_self.2 λs hs=>?_;obtain ⟨i,_,rfl⟩:=List.mem_map.1 hs;simp [AY,e]
 rw [if_neg e];refine List.filter_eq_nil_iff.2 λs hs=>?_;obtain ⟨i,_,rfl⟩:=List.mem_map.1 hs;simp [AY,e]
theorem TY {G:List Ev} {ep:Int} (hg:good G): ∀ (d F:Nat) {sv:List fD},F+d=G.length->rp bS sv=some (av (G.take F)).1->rp bS (sv++((List.range G.length).drop F).map (AY n q ep G (av G).2.1))=some (av G).1
 | 0,F,sv,hF,h=>by
  rw [Nat.add_zero] at hF;rw [List.drop_of_length_le (by rw [List.length_range];omega),List.map_nil,List.append_nil,h,hF,List.take_length]
 | d+1,F,sv,hF,h=>by
  have hlt:F<G.length:=oQ;have hlr:F< (List.range G.length).length:=by rw [List.length_range];exact hlt
  rw [List.drop_eq_getElem_cons hlr,List.getElem_range,List.map_cons];rw [show sv++AY n q ep G (av G).2.1 F::((List.range G.length).drop (F+1)).map (AY n q ep G (av G).2.1)=(sv++[AY n q ep G (av G).2.1 F])++((List.range G.length).drop (F+1)).map (AY n q ep G (av G).2.1) by rw [List.append_assoc];rfl];refine TY hg d (F+1) oQ ?_;have hs:=nK hlt;have hg2:good (G.take F++[G[F]]):=by rw [<-hs];exact pE hg
  obtain ⟨s1,s2,s3⟩:=good_step hg2;have ha:=Tz _ rfl hg F hlt;have e1:(AY n q ep G (av G).2.1 F).op=G[F]:=by
   show G.getD F aO=_
   rw [List.getD_eq_getElem?_getD,List.getElem?_eq_getElem hlt];rfl
  have e2:(AY n q ep G (av G).2.1 F).ans=(iw (av (G.take F)).1 G[F]).2.1:=by
   show (av G).2.1.getD F eD=_
   rw [List.getD_eq_getElem?_getD,ha];rfl
  rw [ED h (by rw [e1];exact s1) (by rw [e1,e2]),e1,hs,s3]
def QD (m:Cl) (q:Nat) (g:Gh) (n:Nat):Prop:=Inv g (vw m q) (yS m q) (upd (EL m) n false) (M9 m q) (m.off.at q) (Az m q) (Ay m q)
noncomputable def vY (n:Nat) (bs:Nat->bn) (m:Cl) (q:Nat):Cl:=if (bs q).role≠1 then m else ((m.recover n q).aK n q (dV (bs q)).1).tell n q aI eD (-1)
theorem Ej {bs:Nat->bn}: ∀ (ql:List Nat) (m:Cl),Cl.woken n bs ql m=ql.foldl (vY n bs) m
 | [],m=>rfl
 | q::r,m=>by
  rw [Cl.woken,List.foldl_cons];unfold vY
  split
  ·exact Ej r m
  exact Ej r _
structure W1 (m m':Cl) (n q':Nat):Prop where
 ah: ∃ b,m'.ah=upd m.ah n { m.ah n with bs:=upd (m.ah n).bs q' b }
 fly:m'.fly=m.fly
 off:m'.off=m.off
 sh: ∀ q,q'≠q->Az m' q=Az m q
 sv: ∀ q,q'≠q->Ay m' q=Ay m q
theorem LQ (m:Cl) (n q':Nat): ∃ ss p,m.recover n q'={ m with aQ:=m.aQ++ss,shown:=p }/\(∀ s∈ss,s.q=q')/\ ∀ a b,b≠q'->p a b=m.shown a b:=by
 unfold Cl.recover
 split
 ·exact ⟨_,_,rfl,λs hs=>by rw [List.mem_singleton] at hs;subst hs;rfl,λa b hb=>by unfold iy;rw [if_neg (λe=>hb e.2)]⟩
 rw [zX];refine ⟨_,_,rfl,λs hs=>?_,λa b hb=>?_⟩
 ·obtain ⟨i,_,rfl⟩:=List.mem_map.1 hs;rfl
 split
 ·rfl
 unfold iy;rw [if_neg (λe=>hb e.2)]
theorem ac3 {ss:List fD} {q':Nat} (h: ∀ s∈ss,s.q=q') (hq:q'≠q):ss.filter (λs=>decide (s.q=q))=[]:=List.filter_eq_nil_iff.2 λs hs=>by rw [h s hs];simp [hq]
theorem FC {bs:Nat->bn} (m:Cl) (n q':Nat):W1 m (vY n bs m q') n q':=by
 unfold vY
 split
 ·exact ⟨⟨(m.ah n).bs q',by rw [aF (f:=(m.ah n).bs) rfl];exact Bv⟩,rfl,rfl,λ_ _=>rfl,λ_ _=>rfl⟩
 obtain ⟨ss,p,e,h1,h2⟩:=LQ m n q';rw [e];refine ⟨⟨(dV (bs q')).1,rfl⟩,rfl,rfl,λq hq=>?_,λq hq=>?_⟩
 ·show (λj=>iy p n q' _ j q)=_
  rw [Pj hq]
  funext j
  exact h2 j q (λe=>hq e.symm)
 show ((m.aQ++ss)++_).filter _=_
 rw [tK,if_neg hq,List.append_nil,List.filter_append,ac3 h1 hq,List.append_nil];rfl
theorem QD.far (I:QD m q g n) (hn:n<5) (hu:(m.ah n).up=true) {q':Nat} (hq:q'≠q) (W:W1 m m' n q'):QD m' q g n/\vw m' q=vw m q/\(m'.ah n).up=true/\(m'.ah n).bs q=(m.ah n).bs q/\(m'.ah n).pend=(m.ah n).pend:=by
 obtain ⟨b,hb⟩:=W.ah;have fU:({ m.ah n with bs:=upd (m.ah n).bs q' b }:Nd).view q=(m.ah n).view q:=by
  rw [dU (X:={ m.ah n with bs:=upd (m.ah n).bs q' b }) hu,dU hu];exact upd_ne (λe=>hq e.symm)
 have hvw:=mX hb fU;have hun:EL m'=EL m:=mg hb rfl;refine ⟨?_,hvw,by rw [hb,upd_same];exact hu,by rw [hb,upd_same];exact upd_ne (λe=>hq e.symm),by rw [hb,upd_same]⟩;unfold QD;rw [hvw,sF hb rfl,hun,W.off,W.sh q hq,W.sv q hq];exact I.zx λx hx=>by
  obtain ⟨x1,x2⟩:=hx
  rcases x2 with x2 | ⟨j,hj,x2⟩
  ·rw [W.fly] at x2;exact .inl ⟨x1,.inl x2⟩
  rw [hb] at x2;by_cases e:j=n
  ·subst e;rw [upd_same] at x2;exact .inl ⟨x1,.inr ⟨j,hj,x2⟩⟩
  rw [upd_ne e] at x2;exact .inl ⟨x1,.inr ⟨j,hj,x2⟩⟩
theorem QD.aCW (I:QD m q g n) (hn:n<5) (hu:(m.ah n).up=true) (hr:((m.ah n).bs q).role=1):QD (m.recover n q) q g.all n/\n=g.o/\(m.recover n q).ah=m.ah:=by
 have hV:=sV (q:=q) hu;have ho:n=g.o:=I.oEp hn (by rw [hV];exact .inl hr);have eF:((m.ah n).bs q).ep=g.m:=by rw [<-hV,ho];exact I.zW
 have hev:((m.ah n).bs q).evs=g.G:=by rw [<-hV,ho];exact I.Ga
 refine ⟨?_,ho,?_⟩
 ·unfold Cl.recover;by_cases c:(m.shown n q).1≠((m.ah n).bs q).ep
  ·rw [if_pos c];have ht: ¬ g.t=g.m:=λe=>by
    rcases I.LB with ⟨_,h,_⟩ | ⟨h,_⟩
    ·apply c;have h':m.shown g.o q=_:=h;rw [eF,ho,h']
    omega
   have I2:=I.ZQ ht (s:=⟨n,q,g.m,aI,eD,-1⟩) rfl rfl rfl ho;unfold QD;have e1:Az (m.tell n q aI eD (-1)) q=upd (Az m q) g.o ((g.m:Int),(g.G.length:Int)):=by
    show (λj=>iy m.shown n q _ j q)=_
    rw [Gm,eF,hev,ho];rfl
   have e2:Ay (m.tell n q aI eD (-1)) q=Ay m q++[⟨n,q,g.m,aI,eD,-1⟩]:=by
    show (m.aQ++_).filter _=_
    rw [tK,if_pos rfl,eF];rfl
   rw [e1,e2];exact I2
  rw [if_neg c,zX,eF,hev];have c':(m.shown n q).1=((m.ah n).bs q).ep:=Classical.not_not.1 c
  rcases I.LB with ⟨h1,h2,h3⟩ | ⟨_,h2,_⟩
  ·have hsh:m.shown n q=((g.m:Int),(g.F:Int)):=by rw [ho];exact h2
   rw [hsh];dsimp only;rw [Int.toNat_natCast];have hrp:=TY (n:=n) (q:=q) (ep:=(g.m:Int)) I.gd (g.G.length-g.F) g.F oQ I.rps;have I2:=I.told h1 hrp λs hs=>by
    obtain ⟨i,_,rfl⟩:=List.mem_map.1 hs;exact ⟨rfl,ho⟩
   unfold QD;have e2:Ay { m with aQ:=m.aQ++((List.range g.G.length).drop g.F).map (AY n q (g.m:Int) g.G (av g.G).2.1),shown:=if (List.range g.G.length).drop g.F=[] then m.shown else iy m.shown n q ((g.m:Int),(g.G.length:Int)) } q=Ay m q++((List.range g.G.length).drop g.F).map (AY n q (g.m:Int) g.G (av g.G).2.1):=by
    show (m.aQ++_).filter _=_
    rw [List.filter_append,alC,if_pos rfl];rfl
   have e1:Az { m with aQ:=m.aQ++((List.range g.G.length).drop g.F).map (AY n q (g.m:Int) g.G (av g.G).2.1),shown:=if (List.range g.G.length).drop g.F=[] then m.shown else iy m.shown n q ((g.m:Int),(g.G.length:Int)) } q=upd (Az m q) g.o ((g.m:Int),(g.G.length:Int)):=by
    unfold Az;dsimp only
    split
    ·rename_i hnil
     have:=congrArg List.length hnil;rw [List.length_drop,List.length_range,List.length_nil] at this;refine (aF ?_).symm;rw [<-ho,hsh];have:g.F=g.G.length:=oQ;rw [this]
    rw [Gm,ho]
   rw [e1,e2];exact I2
  exfalso
  have h2':(m.shown g.o q).1<g.m:=h2;rw [<-ho,c',eF] at h2';omega
 obtain ⟨ss,p,e,_,_⟩:=LQ m n q;rw [e]
theorem QD.near {bs:Nat->bn} (I:QD m q g n) (hn:n<5) (hu:(m.ah n).up=true) (hp:(m.ah n).pend=none) (hb:(m.ah n).bs q=bs q) (hr:(bs q).role=1) (hw:dV (bs q)=(iE (bs q),0)) (hf:au (iE (bs q))=0) (hfb:au (bs q)=0):
  ∃ g',QD (vY n bs m q) q g' n/\lq g g'/\g'.m=g.m/\g'.o=n/\n=g.o/\g'.t=g'.m/\g'.F=g'.G.length:=by
 obtain ⟨I1,ho,zY⟩:=I.aCW hn hu (by rw [hb];exact hr);have hV1:vw (m.recover n q) q n=bs q:=by
  unfold vw;rw [zY,dU hu];exact hb
 have au6:vw (m.recover n q) q g.o=bs q:=by rw [<-hV1];congr 1;exact ho.symm
 have eF:(bs q).ep=g.m:=by rw [<-au6];exact I1.zW
 have hev:(bs q).evs=g.G:=by rw [<-au6];exact I1.Ga
 have hgd:good (g.G++[aI]):=by have:=(eO hf).2;unfold iE at this;rw [hev] at this;exact this
 have hs:=fI hfb;unfold bq at hs;have nY:(bs q).tg=0:=oQ;have hpn:yS (m.recover n q) q g.all.o=none:=by
  show pq q ((m.recover n q).ah g.o).pend=none
  rw [zY,<-ho,hp];rfl
 have huf:upd (EL (m.recover n q)) n false g.all.o=false:=by show upd _ n false g.o=false;rw [<-ho];exact upd_same _ _ _
 have hVo:vw (m.recover n q) q g.all.o=bs q:=by show vw (m.recover n q) q g.o=_;rw [<-ho];exact hV1
 have I2:=Inv.append (e:=aI) (b:=iE (bs q)) I1 hpn huf (by rw [hVo];omega) rfl hgd (by rw [hVo];rfl) (by rw [hVo];exact hr.symm) (by rw [hVo];exact nY.symm) (by show (bs q).evs++[aI]=_;rw [hev];rfl);obtain ⟨s1,s2,s3⟩:=good_step hgd;have aCX:rp bS (Ay (m.recover n q) q)=some (av g.G).1:=by
  have:=I1.rps;rwa [show g.all.G.take g.all.F=g.G from List.take_length] at this
 have I3:=I2.told (sv2:=[⟨n,q,g.m,aI,eD,-1⟩]) rfl (by rw [ED aCX s1 (aeY s2)];show _=some (av (g.G++[aI])).1;rw [s3]) λs hs=>by rw [List.mem_singleton] at hs;subst hs;exact ⟨rfl,ho⟩
 refine ⟨(g.all.app aI).all,?_,⟨Nat.le_refl _,λ_ _=>rfl,by show (g.G++[aI]).length<=_;simp⟩,rfl,ho.symm,ho,rfl,rfl⟩;unfold vY;rw [if_neg (λh=>h hr),hw];have dH:(((m.recover n q).aK n q (iE (bs q))).tell n q aI eD (-1)).ah=upd (m.recover n q).ah n (((m.recover n q).ah n).aK q (iE (bs q))):=rfl;have hur:((m.recover n q).ah n).up=true:=by rw [zY];exact hu
 have fU:(((m.recover n q).ah n).aK q (iE (bs q))).view q=iE (bs q):=by rw [dU (X:=((m.recover n q).ah n).aK q _) hur];exact upd_same _ _ _
 have e0:(((m.recover n q).aK n q (iE (bs q))).ah n).bs q=iE (bs q):=by
  show ((upd (m.recover n q).ah n _) n).bs q=_
  rw [upd_same];exact upd_same _ _ _
 unfold QD;have e1:Az (((m.recover n q).aK n q (iE (bs q))).tell n q aI eD (-1)) q=upd (Az (m.recover n q) q) g.o ((g.m:Int),((g.G++[aI]).length:Int)):=by
  show (λj=>iy (m.recover n q).shown n q _ j q)=_
  rw [Gm,e0]
  show upd _ n ((bs q).ep,((((bs q).evs++[aI]).length:Nat):Int))=_
  rw [eF,hev,ho];rfl
 have e2:Ay (((m.recover n q).aK n q (iE (bs q))).tell n q aI eD (-1)) q=Ay (m.recover n q) q++[⟨n,q,g.m,aI,eD,-1⟩]:=by
  show ((m.recover n q).aQ++_).filter _=_
  rw [tK,if_pos rfl,e0]
  show _++[(⟨n,q,(bs q).ep,aI,eD,-1⟩:fD)]=_
  rw [eF];rfl
 have e3:vw (((m.recover n q).aK n q (iE (bs q))).tell n q aI eD (-1)) q=upd (vw (m.recover n q) q) g.all.o (iE (bs q)):=by
  rw [qD dH,fU]
  show upd _ n _=upd _ g.o _
  rw [<-ho]
 rw [e1,e2,e3,sF dH rfl,mg dH rfl];exact I3.zx λx hx=>by
  obtain ⟨x1,x2⟩:=hx
  rcases x2 with x2 | ⟨j,hj,x2⟩
  ·exact .inl ⟨x1,.inl x2⟩
  rw [dH] at x2;by_cases e:j=n
  ·subst e;rw [upd_same] at x2;exact .inl ⟨x1,.inr ⟨j,hj,x2⟩⟩
  rw [upd_ne e] at x2;exact .inl ⟨x1,.inr ⟨j,hj,x2⟩⟩
theorem T9 {bs:Nat->bn} (hn:n<5): ∀ (ql:List Nat) {m:Cl},QD m q g n->(m.ah n).up=true->q ∉ ql->QD (ql.foldl (vY n bs) m) q g n/\vw (ql.foldl (vY n bs) m) q=vw m q
 | [],m,I,_,_=>⟨I,rfl⟩
 | q'::r,m,I,hu,hq=>by
  rw [List.mem_cons,not_or] at hq;obtain ⟨I1,e1,h1,_,_⟩:=I.far hn hu (λe=>hq.1 e.symm) (FC (bs:=bs) m n q');obtain ⟨I2,e2⟩:=T9 hn r I1 h1 hq.2;exact ⟨I2,e2.trans e1⟩
theorem Pn {bs:Nat->bn} (hn:n<5) (hr:(bs q).role=1) (hw:dV (bs q)=(iE (bs q),0)) (hf:au (iE (bs q))=0) (hfb:au (bs q)=0): ∀ (ql:List Nat) {m:Cl},QD m q g n->(m.ah n).up=true->(m.ah n).pend=none->(m.ah n).bs q=bs q->q∈ql->ql.Nodup->
  ∃ g',QD (ql.foldl (vY n bs) m) q g' n/\lq g g'/\g'.m=g.m/\g'.o=n/\n=g.o/\g'.t=g'.m/\g'.F=g'.G.length
 | [],m,_,_,_,_,hq,_=>by simp at hq
 | q'::r,m,I,hu,hp,hb,hq,hnd=>by
  obtain ⟨h1,h2⟩:=List.nodup_cons.1 hnd;rw [List.foldl_cons];by_cases e:q'=q
  ·subst e;obtain ⟨g',I1,N1,k1,k2,k3,k4,k5⟩:=I.near hn hu hp hb hr hw hf hfb;obtain ⟨b,hW⟩:=(FC (bs:=bs) m n q').ah;have hu1:((vY n bs m q').ah n).up=true:=by rw [hW,upd_same];exact hu
   obtain ⟨I2,_⟩:=T9 hn r I1 hu1 h1;exact ⟨g',I2,N1,k1,k2,k3,k4,k5⟩
  have hq':q∈r:=by
   rcases List.mem_cons.1 hq with h | h
   ·exact absurd h.symm e
   exact h
  obtain ⟨I1,e1,u1,b1,p1⟩:=I.far hn hu e (FC (bs:=bs) m n q');exact Pn hn hr hw hf hfb r I1 u1 (p1.trans hp) (b1.trans hb) hq' h2
theorem KH {s:Int} {f:Nat->bn}: ∀ (ql:List Nat) {d d':List UInt8},eB s f ql d=some d'->d'.length<=d.length+46*ql.length
 | [],d,d',h=>by cases h;simp
 | q::r,d,d',h=>by
  rw [eB] at h;rw [List.length_cons]
  split at h
  ·have:=KH r h;omega
  split at h
  ·cases h
  split at h
  ·cases h
  rename_i d2 hw
  obtain ⟨w1,_,_⟩:=qm hw;have h1:=KH r h;have h2:=xP [fG 2 q (f q).ep 0 aI];rw [w1,List.length_append] at h1;simp only [List.length_cons,List.length_nil] at h2;omega
theorem ac5 {T S D K:Nat} (I:QI m q g) (hB:dM m T S D K) (hn:n<5) (hq:q<4):(∃ g',QI (m.start n) q g'/\lq g g'/\DF q g g' m (m.start n))/\ ∀ j,((m.start n).ah j).data.length<=(m.ah j).data.length+184:=by
 rcases BS (hB.kr n hn) with ⟨_,e⟩ | ⟨hu,rs,t,f,hd,e | ⟨ws,e1,e2,e3,W,e5,e6,e7⟩⟩
 ·rw [e];exact ⟨⟨g,I,.refl g,λ_ h=>h⟩,λ_=>Nat.le_add_right _ _⟩
 ·rw [e];exact ⟨⟨g,I,.refl g,λ_ h=>h⟩,λ_=>Nat.le_add_right _ _⟩
 have hin:q∈[0,1,2,3]:=by
  have h:q=0\/q=1\/q=2\/q=3:=oQ
  rcases h with rfl | rfl | rfl | rfl<;>decide
 have hvb:=hd.rd.2.2 q hq;have hVn:vw m q n=f q:=hd.view hu hq;obtain ⟨hfb,hr2⟩:=hd.mP q hq;obtain ⟨m1,hm1⟩: ∃ m1,m1=m.put n { (m.ah n).blank with up:=true,data:=bG (rs++ws),syn:=(bG (rs++ws)).length,bs:=bC (m.ah n).data (m.ah n).syn }:=⟨_,rfl⟩;have zY:m1.ah=upd m.ah n { (m.ah n).blank with up:=true,data:=bG (rs++ws),syn:=(bG (rs++ws)).length,bs:=bC (m.ah n).data (m.ah n).syn }:=by rw [hm1];rfl
 have ar9:({ (m.ah n).blank with up:=true,data:=bG (rs++ws),syn:=(bG (rs++ws)).length,bs:=bC (m.ah n).data (m.ah n).syn }:Nd).view q=(m.ah n).view q:=by
  rw [dU rfl];unfold Nd.view;rw [if_neg (by rw [hu];simp)]
 have ao6:=mX zY ar9;have aCY:yS m1 q=yS m q:=sF zY (by rw [hd.nL];rfl);have aCZ:upd (EL m1) n false=EL m:=by rw [V8 zY,qP];exact aF hu
 have I1:QD m1 q g n:=by
  unfold QD;rw [ao6,aCY,aCZ];have hoff:m1.off=m.off:=by rw [hm1];rfl
  have hsh:Az m1 q=Az m q:=by rw [hm1];rfl
  have hsv:Ay m1 q=Ay m q:=by rw [hm1];rfl
  rw [hoff,hsh,hsv];exact I.zx (xO zY (λx hx=>by cases hx) hn (by rw [hm1];rfl))
 have hu1:(m1.ah n).up=true:=by rw [zY,upd_same]
 have hp1:(m1.ah n).pend=none:=by rw [zY,upd_same];rfl
 have hb1:(m1.ah n).bs q=bC (m.ah n).data (m.ah n).syn q:=by rw [zY,upd_same]
 have eX:(m.start n).ah=upd m.ah n { (m.ah n).blank with up:=true,data:=bG (rs++ws),syn:=(bG (rs++ws)).length,bs:=λq=>if q∈[0,1,2,3]/\(bC (m.ah n).data (m.ah n).syn q).role=1 then iE (bC (m.ah n).data (m.ah n).syn q) else bC (m.ah n).data (m.ah n).syn q }:=by
  rw [W.ah,dw];exact qP _ _ _ _
 have au7:EL (m.start n)=upd (upd (EL (m.start n)) n false) n true:=by
  rw [qP];refine (aF ?_).symm;unfold EL;rw [eX,upd_same]
 rw [<-hm1,Ej] at e1;refine ⟨?_,λj=>?_⟩
 ·by_cases hr:(bC (m.ah n).data (m.ah n).syn q).role=1
  ·have hf1:au (iE (bC (m.ah n).data (m.ah n).syn q))=0:=by rw [hvb] at hr⊢;exact e7 q hq hr
   have hw1:dV (bC (m.ah n).data (m.ah n).syn q)=(iE (bC (m.ah n).data (m.ah n).syn q),0):=by
    unfold dV;rw [if_neg (λh=>h (by rw [hvb];exact hfb)),if_neg oQ,if_neg (λh=>h hf1)];rfl
   obtain ⟨g',I2,N2,k1,k2,k3,k4,k5⟩:=Pn hn hr hw1 hf1 (by rw [hvb];exact hfb) [0,1,2,3] I1 hu1 hp1 hb1 hin dQ;rw [<-e1] at I2;have I3:=Inv.up I2 n λ_=>⟨k4,k5⟩;refine ⟨g',?_,N2,λ_ h=>?_⟩
   ·unfold QI;rw [au7];exact I3
   rw [<-k3,hVn,<-hvb] at h;omega
  have ac6:QD (m.start n) q g n/\vw (m.start n) q=vw m1 q:=by
   rw [e1];have key: ∀ (ql:List Nat) {m':Cl},QD m' q g n->(m'.ah n).up=true->QD (ql.foldl (vY n (bC (m.ah n).data (m.ah n).syn)) m') q g n/\vw (ql.foldl (vY n (bC (m.ah n).data (m.ah n).syn)) m') q=vw m' q:=by
    intro ql
    induction ql with
    | nil=>intro m' I' _;exact ⟨I',rfl⟩
    | cons q' r ih=>
     intro m' I' hu';rw [List.foldl_cons];by_cases e:q'=q
     ·subst e;have:vY n (bC (m.ah n).data (m.ah n).syn) m' q'=m':=if_pos hr;rw [this];exact ih I' hu'
     obtain ⟨I3,v3,u3,_,_⟩:=I'.far hn hu' e (FC (bs:=bC (m.ah n).data (m.ah n).syn) m' n q');obtain ⟨I4,v4⟩:=ih I3 u3;exact ⟨I4,v4.trans v3⟩
   exact key _ I1 hu1
  have hst:n=g.o->g.t=g.m/\g.F=g.G.length:=λho=>by
   have h3:(vw (m.start n) q g.o).role=3:=by
    rw [ac6.2,ao6,<-ho,hVn];have:=I.arl;rw [<-ho,hVn] at this;rw [hvb] at hr;omega
   have hF:=ac6.1.slF h3;refine ⟨?_,hF⟩
   rcases ac6.1.LB with h | ⟨_,_,_,h,_⟩
   ·exact h.1
   omega
  have I3:=Inv.up ac6.1 n hst;refine ⟨g,?_,.refl g,λ_ h=>by rw [ac6.2,ao6];exact h⟩;unfold QI;rw [au7];exact I3
 rw [eX];by_cases e:j=n
 ·subst e;rw [upd_same]
  show (bG (rs++ws)).length<=_
  have hww:=KH [0,1,2,3] e3;rw [hd.rd.1] at hww;dsimp only at hww;have:=congrArg List.length hd.data;rw [List.length_append] at this;simp only [List.length_cons,List.length_nil] at hww;omega
 rw [upd_ne e];exact Nat.le_add_right _ _
end
section
variable {m m' m2:Cl} {n q k:Nat} {g g' g2:Gh}
theorem Ua {T S D K:Nat} (hB:dM m T S D K) (hn:n<5) {j:Nat} (hj:j≠n):(m.step n).ah j=m.ah j:=by
 cases hu:(m.ah n).up with
 | false=>rw [uO hu]
 | true=>
  obtain ⟨rs,us,hU⟩:=(hB.kr n hn).Cx hu
  cases hp:(m.ah n).pend with
  | some p=>
   obtain ⟨h1,h2,h3⟩:=hU.O4 p hp;obtain ⟨_,hf⟩:=kT hU.tape hU.mP h2 h3;obtain ⟨Y,y1,_⟩:=Ph rfl hu hp h3 hf h2;rw [y1,upd_ne hj]
  | none=>
   have R:=TR hu ⟨us,hU⟩ λl hl=>uV (hB.lC n hn l hl);rw [nM hu hp]
   split
   ·show upd (m.more n).ah n _ j=_
    rw [upd_ne hj];exact R.sj j hj
   exact R.sj j hj
theorem Po (m:Cl) (l:dK) (j:Nat):((m.come l).ah j).data=(m.ah j).data:=by
 unfold Cl.come
 split
 ·rfl
 split
 ·split<;>rfl
 split
 ·show ((upd m.ah l.tg.toNat _) j).data=_
  by_cases e:j=l.tg.toNat
  ·rw [e,upd_same]
  rw [upd_ne e]
 rfl
theorem LU: ∀ (ls:List dK) (m:Cl) (j:Nat),((ls.foldl Cl.come m).ah j).data=(m.ah j).data
 | [],_,_=>rfl
 | l::ls,m,j=>(LU ls (m.come l) j).trans (Po m l j)
theorem ac7 (m:Cl) (at_:Nat) (c s:Bool) (j:Nat):((m.pick at_ c s).ah j).data=(m.ah j).data:=by
 unfold Cl.pick
 split
 ·rfl
 dsimp only
 split
 ·rw [Po]
  split<;>rfl
 split<;>rfl
structure Later (q:Nat) (g g':Gh) (m m':Cl):Prop where
 mle:g.m<=g'.m
 own: ∀ k,k<=g.m->g'.own k=g.own k
 gI:DF q g g' m m'
theorem Later.refl:Later q g g m m:=⟨Nat.le_refl _,λ_ _=>rfl,λ_ h=>h⟩
theorem Later.trans (h:Later q g g' m m') (h':Later q g' g2 m' m2):Later q g g2 m m2:=by
 refine ⟨Nat.le_trans h.mle h'.mle,λk hk=>(h'.own k (Nat.le_trans hk h.mle)).trans (h.own k hk),λe h3=>?_⟩;have h1:=h.mle;have h2:=h'.mle;have e1:g'.m=g.m:=oQ;have eo:g'.o=g.o:=by unfold Gh.o;rw [e1];exact h.own _ (Nat.le_refl _)
 have:=h'.gI oQ (by rw [eo];exact h.gI e1 h3);rwa [eo] at this
theorem lq.later (h:lq g g') (h':DF q g g' m m'):Later q g g' m m':=⟨h.m,h.own,h'⟩
structure LW (m:Cl) (q:Nat) (g:Gh) (k:Nat):Prop where
 qi:QI m q g
 Xj:g.G.length<=k
 data: ∀ n,n<5->(m.ah n).data.length<=184*k
theorem aad {a:Ac} (h:LW m q g k) (hB:Bs m k) (ha:zF a) (h1:a.kd≠1) (hq:q<4) (hk:k<=540): ∃ g',LW (m.act a) q g' (k+1)/\Later q g g' m (m.act a):=by
 obtain ⟨I,hG,hD⟩:=h;obtain ⟨a1,a2,a3,a4,a5,a6⟩:=ha;have hn:a.nd.toNat<5:=oQ;have hqu:a.qu.toNat<4:=oQ;have fin: ∀ {m':Cl} {g':Gh},QI m' q g'->lq g g'->DF q g g' m m'->(∀ n,n<5->(m'.ah n).data.length<=(m.ah n).data.length+184)-> ∃ g',LW m' q g' (k+1)/\Later q g g' m m':=λ{m' g'} I' N s hd=>
  ⟨g',⟨I',by have:=N.Xj;omega,λn hn=>by have:=hd n hn;have:=hD n hn;omega⟩,N.later s⟩
 unfold Cl.act;rw [if_neg h1]
 split
 ·obtain ⟨I2,e2⟩:=ahm (l:=F9 a.nd a.qu.toNat a.op m.calls) (c:=m.calls+1) I rfl;exact fin I2 (.refl g) (λ_ h=>by rw [e2];exact h) λn _=>Nat.le_add_right _ _
 split
 ·obtain ⟨⟨g',I2,N2,s2⟩,d2⟩:=ahk I hB hn (by have:=hD _ hn;omega) oQ;refine fin I2 N2 s2 λj hj=>?_;by_cases e:j=a.nd.toNat
  ·rw [e];exact d2
  rw [Ua hB hn e];exact Nat.le_add_right _ _
 split
 ·obtain ⟨I2,e2⟩:=ahl (at_:=a.at_.toNat) (c:=decide (a.kd≠5)) (s:=decide (a.kd=6)) I hB.qC hq;exact fin I2 (.refl g) (λ_ h=>by rw [e2];exact h) λn _=>by rw [ac7];exact Nat.le_add_right _ _
 split
 ·obtain ⟨I2,e2⟩:=aac I hB.qC hq;refine fin I2 (.refl g) (λ_ h=>by rw [e2];exact h) λn _=>?_;unfold Cl.all;rw [LU];exact Nat.le_add_right _ _
 split
 ·obtain ⟨⟨g',I2,N2,s2⟩,d2⟩:=ac2 (keep:=a.kp) I hB hn hq a5.1;exact fin I2 N2 s2 λj _=>Nat.le_add_right_of_le (d2 j)
 split
 ·obtain ⟨⟨g',I2,N2,s2⟩,d2⟩:=ac5 I hB hn hq;exact fin I2 N2 s2 λj _=>d2 j
 obtain ⟨I2,s2,d2⟩:=ahn (tg:=a.nd) I hB hqu hq;exact fin I2 (.refl g) (λ_ h=>s2 h) λj _=>by rw [d2 j];exact Nat.le_add_right _ _
theorem aae (hq:q<4): ∀ (l:List Ac) {m:Cl} {g:Gh} {k:Nat},LW m q g k->Bs m k->(∀ a∈l,zF a/\a.kd≠1)->k+l.length<=540-> ∃ g',LW (m.run l) q g' (k+l.length)/\Bs (m.run l) (k+l.length)/\Later q g g' m (m.run l)
 | [],m,g,k,h,hB,_,_=>⟨g,h,hB,.refl⟩
 | a::l,m,g,k,h,hB,ha,hk=>by
  rw [List.length_cons] at hk;obtain ⟨a1,a2⟩:=ha a iQ;obtain ⟨g1,h1,r1⟩:=aad h hB a1 a2 hq oQ;obtain ⟨g2,h2,b2,r2⟩:=aae hq l h1 (yE hB a1 oQ) (λx hx=>ha x (by simp [hx])) oQ;rw [List.length_cons,show k+(l.length+1)=k+1+l.length by omega];exact ⟨g2,h2,b2,r1.trans r2⟩
end
def ac8 (n q:Nat):Ac:=⟨1,n,q,0,0,0,0,0,0,0,0⟩
theorem anl {n q:Nat} (hn:n<5) (hq:q<4):zF (ac8 n q):=⟨by show (1:Int)<=1/\(1:Int)<=10;omega,by show 0<=(n:Int)/\(n:Int)<=4;omega,by show 0<=(q:Int)/\(q:Int)<=3;omega,by show (0:Int)<=0/\(0:Int)<=1048576;omega,by show (0:Int)<=0/\(0:Int)<=100000;omega,λh=>absurd (show (1:Int)=2 from h) dQ⟩
theorem aaf {m:Cl} {n q:Nat} {d:Dir} {x:List UInt8} (hu:(m.ah n).up=true) (hp:(m.ah n).pend=none) (hd:rZ m.off q n=(d,0)) (hb:iR ((m.ah n).bs q) 1=(⟨1,1,0,0,0,[]⟩,0)) (hw:eZ (m.ah n).data (m.ah n).syn [fG 1 q 1 0 aO]=some x):
  m.make n q={ m.put n { m.ah n with data:=x,syn:=x.length,bs:=upd (m.ah n).bs q ⟨1,1,0,0,0,[]⟩ } with off:=d,shown:=iy m.shown n q (1,0) }:=by
 obtain ⟨X,hX⟩: ∃ X,m.ah n=X:=⟨_,rfl⟩;rw [hX] at hu hp hb hw⊢;unfold Cl.make Nd.write;rw [hX,hd,hb,hw,if_neg (by rw [hu,hp];simp),if_neg iQ];rfl
def DI (q:Nat):List UInt8:=bG [fG 1 q 1 0 aO]
def yG (q:Nat):Nd:={ nd0 with data:=DI q,syn:=(DI q).length,bs:=upd (λ_=>bF) q ⟨1,1,0,0,0,[]⟩ }
def ao7:Cl:={ mD with ah:=upd mD.ah 0 (yG 0),off:=⟨⟨0,1⟩,nowhere,nowhere,nowhere⟩,shown:=iy mD.shown 0 0 (1,0) }
def tL:Cl:={ mD with ah:=upd (upd mD.ah 0 (yG 0)) 1 (yG 1),off:=⟨⟨0,1⟩,⟨1,1⟩,nowhere,nowhere⟩,shown:=iy (iy mD.shown 0 0 (1,0)) 1 1 (1,0) }
theorem anm {q:Nat} (hq:q<4):eZ nd0.data nd0.syn [fG 1 q 1 0 aO]=some (DI q):=by
 have:=zD (rs:=[fG 1 q 1 0 aO]) (l:=[]) (s:=0) (λr hr=>by rw [List.mem_singleton] at hr;subst hr;exact vR oQ hq oQ oQ dQ) oQ iQ iQ;rw [List.nil_append] at this;exact this
theorem dmk {d:Dir} {q n:Nat} (hd: ∀ k,k<4->za (d.at k)) (hq:q<4) (hn:n<5) (ha:d.at q=nowhere):rZ d q n=(d.set q ⟨n,1⟩,0):=by
 unfold rZ;rw [Qi (H8 hd) oQ];dsimp only;rw [if_neg iQ,if_neg oQ,if_neg (by rw [Int.toNat_natCast];exact λh=>h ha),Int.toNat_natCast]
theorem afp:mD.act (ac8 0 0)=ao7:=by
 show mD.make 0 0=_
 rw [aaf (d:=⟨⟨0,1⟩,nowhere,nowhere,nowhere⟩) (x:=DI 0) rfl rfl (dmk (d:=⟨nowhere,nowhere,nowhere,nowhere⟩) (q:=0) (n:=0) (λk hk=>by
  have h:k=0\/k=1\/k=2\/k=3:=oQ
  rcases h with rfl | rfl | rfl | rfl<;>exact .inl ⟨rfl,rfl⟩) oQ oQ rfl) (Qk (q:=0) Qn rfl dQ oQ).1 (anm oQ)]
 rfl
theorem afq:ao7.act (ac8 1 1)=tL:=by
 show ao7.make 1 1=_
 rw [aaf (d:=⟨⟨0,1⟩,⟨1,1⟩,nowhere,nowhere⟩) (x:=DI 1) rfl rfl (dmk (d:=⟨⟨0,1⟩,nowhere,nowhere,nowhere⟩) (q:=1) (n:=1) (λk hk=>by
  have h:k=0\/k=1\/k=2\/k=3:=oQ
  rcases h with rfl | rfl | rfl | rfl<;>first | exact .inl ⟨rfl,rfl⟩ | exact .inr ⟨by decide,by decide,by decide,by decide⟩) oQ oQ rfl) (Qk (q:=1) Qn rfl dQ oQ).1 (anm oQ)]
 rfl
def g0 (q:Nat):Gh:=⟨1,λ_=>q,λ_=>0,[],0,1⟩
theorem aw5 {q:Nat} (hq:q<2):LW tL q (g0 q) 2:=by
 have hV: ∀ n,vw tL q n=if n=q then ⟨1,1,0,0,0,[]⟩ else bF:=λn=>by
  have hup:(tL.ah n).up=true:=by
   show (upd (upd mD.ah 0 (yG 0)) 1 (yG 1) n).up=true
   unfold upd
   split
   ·rfl
   split<;>rfl
  rw [sV hup]
  show (upd (upd mD.ah 0 (yG 0)) 1 (yG 1) n).bs q=_
  have h:q=0\/q=1:=oQ
  rcases h with rfl | rfl
  ·by_cases e1:n=1
   ·subst e1;rfl
   by_cases e0:n=0
   ·subst e0;rfl
   rw [upd_ne e1,upd_ne e0,if_neg e0];rfl
  by_cases e1:n=1
  ·subst e1;rfl
  by_cases e0:n=0
  ·subst e0;rfl
  rw [upd_ne e1,upd_ne e0,if_neg e1];rfl
 have hP: ∀ n,yS tL q n=none:=λn=>by
  unfold yS;have:(tL.ah n).pend=none:=by
   show (upd (upd mD.ah 0 (yG 0)) 1 (yG 1) n).pend=none
   unfold upd
   split
   ·rfl
   split<;>rfl
  rw [this];rfl
 have hI: ∀ n,(tL.ah n).inbox=[]:=λn=>by
  show (upd (upd mD.ah 0 (yG 0)) 1 (yG 1) n).inbox=[]
  unfold upd
  split
  ·rfl
  split<;>rfl
 have hL: ∀ l,¬ M9 tL q l:=λl h=>by
  rcases h.2 with h | ⟨j,_,h⟩
  ·cases h
  rw [hI j] at h;cases h
 have hoff:tL.off.at q=⟨q,1⟩:=by
  have h:q=0\/q=1:=oQ
  rcases h with rfl | rfl<;>rfl
 have hsh: ∀ n,Az tL q n=if n=q then (1,0) else (0,0):=λn=>by
  show iy (iy mD.shown 0 0 (1,0)) 1 1 (1,0) n q=_
  have h:q=0\/q=1:=oQ
  rcases h with rfl | rfl
  ·unfold iy;rw [if_neg oQ];by_cases e:n=0
   ·rw [if_pos ⟨e,rfl⟩,if_pos e]
   rw [if_neg (λh=>e h.1),if_neg e];rfl
  unfold iy;by_cases e:n=1
  ·rw [if_pos ⟨e,rfl⟩,if_pos e]
  rw [if_neg (λh=>e h.1),if_neg e,if_neg oQ];rfl
 have ho:(g0 q).o=q:=rfl;have hVo:vw tL q (g0 q).o=⟨1,1,0,0,0,[]⟩:=by rw [hV,ho,if_pos rfl]
 have hm:(g0 q).m=1:=rfl;refine ⟨⟨Nat.le_refl _,λ_ _ _=>by show q<5;omega,λk h1 h2=>by rw [hm] at h2;omega,⟨1,hoff,Nat.le_refl _,.inl rfl⟩,by rw [hVo];rfl,by rw [hVo];rfl,by rw [hVo];exact .inl rfl,λh=>by rw [hVo] at h;exact absurd rfl h,xI,λn hn hne=>?_,λk h1 h2=>?_,λk h1 h2=>by rw [hm] at h2;omega,λl hl=>absurd hl (hL l),λn _ p hp=>(by rw [hP] at hp;cases hp),.inl ⟨rfl,?_,Nat.zero_le _⟩,λ_=>rfl,λ_=>rfl,λn _ hne=>?_,?_,⟨λs hs=>(by cases hs),λi a b ha=>(by cases ha),λs hs=>(by cases hs),λ_=>rfl⟩⟩,Nat.zero_le _,λn hn=>?_⟩
 ·rw [ho] at hne;rw [hV,if_neg hne];exact .inl ⟨rfl,by show (0:Int)<=0;omega,by show (0:Int)<1;omega⟩
 ·rw [hm] at h2;have:k=1:=oQ;subst this
  show (1:Int)<=(vw tL q q).ep
  rw [hV,if_pos rfl]
  decide
 ·rw [hsh,ho,if_pos rfl];rfl
 ·rw [ho] at hne;rw [hsh,if_neg hne]
  show (0:Int)<1
  omega
 ·show rp bS []=some (av (List.take 0 [])).1
  rw [List.take_nil,yM (l:=[]) iQ (show gX bS [] []=some (bS,[]) from rfl)];rfl
 have h1: ∀ q,(DI q).length<=46:=λq=>by have:=xP [fG 1 q 1 0 aO];simpa [DI] using this
 show (upd (upd mD.ah 0 (yG 0)) 1 (yG 1) n).data.length<=_
 unfold upd
 split
 ·have:=h1 1;show (DI 1).length<=_;omega
 split
 ·have:=h1 0;show (DI 0).length<=_;omega
 show 0<=_;omega
theorem Xl:Bs tL 2:=by
 rw [<-afq,<-afp];exact yE (yE ao4 (anl oQ oQ) oQ) (anl oQ oQ) oQ
def J6 (l:dK):Nat:=if l.kd=0\/l.kd=2\/l.kd=3\/l.kd=4 then 1 else 0
def chP:Option dB->Nat
 | some (.serve _ _ _ _ _)=>1
 | some (.begun _ _)=>1
 | some (.got _ _ _)=>1
 | some (.gI _ _ _)=>1
 | _=>0
def qE:List dK->Nat
 | []=>0
 | l::r=>J6 l+qE r
def xu (x:Nd):Nat:=qE x.inbox+chP x.pend
def Cl.cw (m:Cl):Nat:=qE m.fly+(xu (m.ah 0)+(xu (m.ah 1)+(xu (m.ah 2)+(xu (m.ah 3)+xu (m.ah 4)))))
def Cl.nm (m:Cl) (n:Nat):Nat:=qE m.fly+xu (m.ah n)
theorem vV: ∀ (a b:List dK),qE (a++b)=qE a+qE b
 | [],b=>by simp [qE]
 | l::a,b=>by rw [List.cons_append,qE,qE,vV a b];omega
theorem Jw (l:dK):qE [l]=J6 l:=rfl
theorem Pp: ∀ (a:List dK) (i:Nat) (l:dK),a[i]? =some l->qE (a.eraseIdx i)+J6 l=qE a
 | [],i,l,h=>by cases h
 | x::a,0,l,h=>by cases h;rw [List.eraseIdx_cons_zero,qE];omega
 | x::a,i+1,l,h=>by
  rw [List.eraseIdx_cons_succ,qE,qE];have:=Pp a i l (by simpa using h);omega
theorem Pq (l:dK):J6 l<=1:=by unfold J6;split<;>omega
theorem aw6 {l:dK} (h:l.kd≠0/\l.kd≠2/\l.kd≠3/\l.kd≠4):J6 l=0:=if_neg oQ
section
variable {m w m':Cl} {n q:Nat} {x:Nd} {l:dK} {op:Ev} {num:Int} {a:iM} {b:bn} {ac:Ac}
theorem ad7 {d:Nat} (hn:n<5) (ho: ∀ j,j≠n->m'.ah j=m.ah j) (h:m'.nm n<=m.nm n+d):m'.cw<=m.cw+d:=by
 unfold Cl.nm at h;unfold Cl.cw
 rcases five hn with rfl | rfl | rfl | rfl | rfl
 ·rw [ho 1 dQ,ho 2 dQ,ho 3 dQ,ho 4 dQ];omega
 ·rw [ho 0 dQ,ho 2 dQ,ho 3 dQ,ho 4 dQ];omega
 ·rw [ho 0 dQ,ho 1 dQ,ho 3 dQ,ho 4 dQ];omega
 ·rw [ho 0 dQ,ho 1 dQ,ho 2 dQ,ho 4 dQ];omega
 rw [ho 0 dQ,ho 1 dQ,ho 2 dQ,ho 3 dQ];omega
theorem Di:(w.put n x).nm n=qE w.fly+xu x:=by
 unfold Cl.nm;rw [show (w.put n x).ah n=x from upd_same _ _ _];rfl
theorem Jy:(w.send l).nm n=w.nm n+J6 l:=by
 show qE (w.fly++[l])+xu (w.ah n)=qE w.fly+xu (w.ah n)+J6 l
 rw [vV,Jw];omega
theorem Jz (hi:x.inbox=(w.ah n).inbox) (hp:x.pend=(w.ah n).pend):(w.put n x).nm n=w.nm n:=by
 rw [Di];unfold Cl.nm xu;rw [hi,hp]
theorem yP:(w.aK n q b).nm n=w.nm n:=Jz rfl rfl
theorem aag:(w.tell n q op a num).nm n=w.nm n:=rfl
theorem nm_done:(w.done n q op num a).nm n=w.nm n:=by
 unfold Cl.done
 split
 ·rw [Jy,aag];rfl
 rw [Jy];rfl
theorem JA:(w.have_ n q).nm n=w.nm n+1:=Jy
theorem aah {at_:Int}:(w.part n q at_).nm n<=w.nm n+1:=by
 unfold Cl.part
 split
 ·omega
 rw [Jy];exact Nat.add_le_add_left (Pq _) _
theorem FE {rs:List dD} {p:dB} (h:(w.ah n).write rs=some x):(w.put n { x with pend:=some p }).nm n<=w.nm n+chP (some p):=by
 unfold Nd.write at h;obtain ⟨d,_,rfl⟩:=Option.map_eq_some_iff.1 h;rw [Di];unfold Cl.nm xu;dsimp only;omega
theorem Pt {y:Nd} {rs:List dD} (h:y.write rs=some x):x.inbox=y.inbox:=by
 unfold Nd.write at h;obtain ⟨d,_,rfl⟩:=Option.map_eq_some_iff.1 h;rfl
theorem aho:(w.serve n l).nm n<=w.nm n+1:=by
 unfold Cl.serve
 split
 ·rw [nm_done];omega
 split
 ·rw [nm_done];omega
 rename_i x hx
 exact FE hx
theorem YO:(w.offered n l).nm n<=w.nm n+1:=by
 unfold Cl.offered
 split
 ·omega
 split
 ·rw [JA];omega
 split
 ·omega
 rename_i x hx
 exact FE hx
theorem asb:(w.got n l).nm n<=w.nm n+1:=by
 unfold Cl.got
 split
 ·omega
 split
 ·rw [JA];omega
 split
 ·omega
 split
 ·omega
 rename_i x hx
 exact FE hx
theorem ac9:(w.caught n l).nm n<=w.nm n+1:=by
 unfold Cl.caught
 split
 ·omega
 split
 ·omega
 split
 ·have:=aah (w:=w.aK n l.q (bK ((w.ah n).bs l.q) l.at_).1) (n:=n) (q:=l.q) (at_:=l.at_);rw [yP] at this;exact this
 split
 ·omega
 rename_i x hx
 exact FE hx
theorem ada:(w.learnt n l).nm n<=w.nm n:=by
 unfold Cl.learnt
 split
 ·rw [Jz (x:=(w.ah n).hear n l) rfl rfl];omega
 split
 ·rw [Jz (x:=(w.ah n).hear n l) rfl rfl];omega
 rename_i x hx
 have h0:=Pt hx;have h:x.inbox=(w.ah n).inbox:=h0;rw [Di];unfold Cl.nm xu;rw [show ({ x with pend:=some (dB.forget l.q (fZ ((w.ah n).bs l.q) l.ep).1) }:Nd).inbox=(w.ah n).inbox from h]
 show qE w.fly+(qE (w.ah n).inbox+0)<=_
 omega
theorem adb:(w.handle n l).nm n<=w.nm n+J6 l:=by
 unfold Cl.handle J6
 split
 ·rename_i h;rw [if_pos (.inl h)];exact aho
 split
 ·rename_i h;rw [if_pos (.inr (.inl h))];exact YO
 split
 ·rename_i h;rw [if_pos (.inr (.inr (.inl h)))];exact ac9
 split
 ·rename_i h;rw [if_pos (.inr (.inr (.inr h)))];exact asb
 have:=ada (w:=w) (n:=n) (l:=l);omega
theorem ade {p:dB}:(w.yA n p).nm n<=w.nm n+chP (some p):=by
 cases p with
 | serve q evs op num a=>show ((w.aK n q _).done n q op num a).nm n<=_;rw [nm_done,yP];omega
 | begun q b=>show ((w.aK n q b).have_ n q).nm n<=_;rw [JA,yP];exact Nat.le_refl _
 | got q b last=>
  show (if last=true then ((w.aK n q b).put n { (w.aK n q b).ah n with sure:=upd (w.ah n).sure q false }).tell n q aI eD (-1) else (w.aK n q b).have_ n q).nm n<=_
  split
  ·rw [aag,Jz (w:=w.aK n q b) (x:={ (w.aK n q b).ah n with sure:=upd (w.ah n).sure q false }) rfl rfl,yP];omega
  rw [JA,yP];exact Nat.le_refl _
 | gI q b at_=>
  have:=aah (w:=w.aK n q b) (n:=n) (q:=q) (at_:=at_);rw [yP] at this;exact this
 | forget q b=>show (w.aK n q b).nm n<=_;rw [yP];omega
theorem asc {s:Bool}:qE (iN n q b s)<=1:=by
 unfold iN;rw [vV,vV];have h2:qE (if b.role=3 then [Si n q] else [])=0:=by split<;>rfl
 have h3:qE (if b.role=1/\1<b.ep/\s=false then [MK n q b] else [])=0:=by split<;>rfl
 have h1:qE (if b.role=2\/b.role=3 then [vQ n q b] else [])<=1:=by
  split
  ·exact Pq (vQ n q b)
  exact Nat.zero_le _
 omega
theorem alD:(w.wY n).nm n<=w.nm n+1:=by
 show qE (w.fly++iN n ((w.ah n).turn % 4) ((w.ah n).bs ((w.ah n).turn % 4)) ((w.ah n).sure ((w.ah n).turn % 4)))+xu ((upd w.ah n { w.ah n with turn:=(w.ah n).turn+1 }) n)<=_
 rw [vV,upd_same];have:=asc (n:=n) (q:=(w.ah n).turn % 4) (b:=(w.ah n).bs ((w.ah n).turn % 4)) (s:=(w.ah n).sure ((w.ah n).turn % 4));unfold Cl.nm xu;dsimp only;omega
theorem alE {T S D K:Nat} (hB:dM m T S D K) (hn:n<5):(m.step n).cw<=m.cw+1:=by
 cases hu:(m.ah n).up with
 | false=>rw [uO hu];omega
 | true=>
  obtain ⟨rs,us,hU⟩:=(hB.kr n hn).Cx hu;refine ad7 hn (λj hj=>Ua hB hn hj) ?_
  cases hp:(m.ah n).pend with
  | some p=>
   unfold Cl.step;rw [if_neg (by rw [hu];decide),hp];dsimp only;have h1:=ade (w:=m.put n { m.ah n with syn:=(m.ah n).data.length,pend:=none }) (n:=n) (p:=p);rw [Di] at h1;unfold Cl.nm xu at h1⊢;rw [hp];dsimp only at h1;have e0:chP none=0:=rfl;rw [e0] at h1;omega
  | none=>
   have P:=Bt (n:=n) (λw=>Rdg m n rs w/\w.nm n<=m.nm n) (λw l r ⟨H,A⟩ hp1 hin=>by
    obtain ⟨h1,h2,h3,h4⟩:=Bu (λl hl=>uV (hB.lC n hn l hl)) H hp1 hin;refine ⟨h1.1,h4,?_⟩;have h5:=adb (w:=w.put n ((w.ah n).box r)) (n:=n) (l:=l);rw [Di] at h5;have h6:w.nm n=qE w.fly+(J6 l+qE r+chP (w.ah n).pend):=by unfold Cl.nm xu;rw [hin];rfl
    have h7:xu ((w.ah n).box r)=qE r+chP (w.ah n).pend:=rfl;omega) _ m rfl ⟨RL hu ⟨_,hU⟩,Nat.le_refl _⟩
   rw [nM hu hp]
   split
   ·have:=alD (w:=m.more n) (n:=n);omega
   omega
theorem aai:(w.come l).cw<=w.cw+J6 l:=by
 unfold Cl.come
 split
 ·show w.cw<=_;omega
 split
 ·split
  ·unfold Cl.cw
   show qE (w.fly++[_])+_<=_
   rw [vV,Jw,aw6 (l:=lS _ _ _) ⟨by show (6:Int)≠0;decide,by show (6:Int)≠2;decide,by show (6:Int)≠3;decide,by show (6:Int)≠4;decide⟩];dsimp only;omega
  show w.cw<=_;omega
 split
 ·by_cases h5:l.tg.toNat<5
  ·refine ad7 h5 (λj hj=>upd_ne hj) ?_;rw [Di];unfold Cl.nm xu;dsimp only;rw [vV,Jw];omega
  have e: ∀ j,j<5->(w.put l.tg.toNat { w.ah l.tg.toNat with inbox:=(w.ah l.tg.toNat).inbox++[l] }).ah j=w.ah j:=λj hj=>upd_ne oQ;unfold Cl.cw;rw [e 0 dQ,e 1 dQ,e 2 dQ,e 3 dQ,e 4 dQ]
  show qE w.fly+_<=_
  omega
 omega
theorem Ub: ∀ (ls:List dK) {w:Cl},(ls.foldl Cl.come w).cw<=w.cw+qE ls
 | [],w=>Nat.le_refl _
 | l::r,w=>by
  have h1:=Ub r (w:=w.come l);have h2:=aai (w:=w) (l:=l);rw [List.foldl_cons,qE];omega
theorem afs {fl:List dK}:({ w with fly:=fl }:Cl).cw+qE w.fly=w.cw+qE fl:=by
 unfold Cl.cw;dsimp only;omega
theorem ase:w.all.cw<=w.cw:=by
 have h1:=Ub w.fly (w:={ w with fly:=[] });have h2:=afs (w:=w) (fl:=[]);have h3:qE []=0:=rfl;unfold Cl.all;omega
theorem alF {at_:Nat} {c s:Bool}:(w.pick at_ c s).cw<=w.cw+1:=by
 unfold Cl.pick
 split
 ·omega
 rename_i l hl
 have h1:(if s=true then w else { w with fly:=w.fly.eraseIdx (at_ % w.fly.length) }:Cl).cw<=w.cw/\(if s=true then w else { w with fly:=w.fly.eraseIdx (at_ % w.fly.length) }:Cl).cw+J6 l<=w.cw+1:=by
  have hc:=Pq l
  split
  ·omega
  have h2:=afs (w:=w) (fl:=w.fly.eraseIdx (at_ % w.fly.length));have h3:=Pp _ _ _ hl;omega
 dsimp only
 split
 ·exact Nat.le_trans aai h1.2
 exact Nat.le_succ_of_le h1.1
theorem V9 (hn:n<5) (h:xu x<=xu (w.ah n)):(w.put n x).cw<=w.cw:=
 ad7 (d:=0) hn (λj hj=>upd_ne hj) (by rw [Di];unfold Cl.nm;omega)
theorem asf (h: ∀ j,j<5->xu (m'.ah j)=xu (m.ah j)) (hf:m'.fly=m.fly):m'.cw=m.cw:=by
 unfold Cl.cw;rw [hf,h 0 dQ,h 1 dQ,h 2 dQ,h 3 dQ,h 4 dQ]
theorem aaj:(w.aK n q b).cw=w.cw:=asf (λj _=>by
 by_cases e:j=n
 ·subst e;rw [show (w.aK j q b).ah j={ w.ah j with bs:=upd (w.ah j).bs q b } from upd_same _ _ _];rfl
 rw [show (w.aK n q b).ah j=w.ah j from upd_ne e]) rfl
theorem Qr:(w.tell n q op a num).cw=w.cw:=rfl
theorem Gn {evs:List Ev} {an:List iM}: ∀ (ls:List Nat) {w:Cl},(w.recovered n q evs an ls).cw=w.cw
 | [],_=>rfl
 | i::r,w=>by
  unfold Cl.recovered;rw [Gn r,Qr]
theorem YP:(w.recover n q).cw=w.cw:=by
 unfold Cl.recover
 split
 ·exact Qr
 exact Gn _
theorem KJ {bs:Nat->bn}: ∀ (ls:List Nat) {w:Cl},(Cl.woken n bs ls w).cw=w.cw
 | [],_=>rfl
 | q::r,w=>by
  unfold Cl.woken
  split
  ·exact KJ r
  rw [KJ r,Qr,aaj,YP]
theorem aft {T S D K:Nat} (hB:dM m T S D K) (ha:zF ac):(m.act ac).cw<=m.cw+1:=by
 obtain ⟨a1,a2,a3,a4,a5,a6⟩:=ha;have hn:ac.nd.toNat<5:=oQ;unfold Cl.act
 split
 ·unfold Cl.make
  split
  ·omega
  split
  ·omega
  split
  ·omega
  rename_i x hx
  have hi:=Pt hx;have hp:x.pend=(m.ah ac.nd.toNat).pend:=by
   unfold Nd.write at hx;obtain ⟨d,_,rfl⟩:=Option.map_eq_some_iff.1 hx;rfl
  have h1:=V9 (w:=m) (n:=ac.nd.toNat) (x:={ x with syn:=x.data.length,bs:=upd x.bs ac.qu.toNat (iR ((m.ah ac.nd.toNat).bs ac.qu.toNat) 1).1 }) hn (by unfold xu;rw [<-hi,<-hp];exact Nat.le_refl _);exact Nat.le_succ_of_le h1
 split
 ·show qE (m.fly++[F9 ac.nd ac.qu.toNat ac.op m.calls])+(xu (m.ah 0)+(xu (m.ah 1)+(xu (m.ah 2)+(xu (m.ah 3)+xu (m.ah 4)))))<=m.cw+1
  have hc:=Pq (F9 ac.nd ac.qu.toNat ac.op m.calls);rw [vV,Jw];unfold Cl.cw;omega
 split
 ·exact alE hB hn
 split
 ·exact alF
 split
 ·exact Nat.le_succ_of_le ase
 split
 ·unfold Cl.crash
  split
  ·exact Nat.le_succ_of_le (V9 hn (Nat.zero_le _))
  omega
 split
 ·unfold Cl.start
  split
  ·omega
  split
  ·omega
  rw [KJ];exact Nat.le_succ_of_le (V9 hn (Nat.zero_le _))
 unfold Cl.move
 split
 ·omega
 split
 ·rw [aaj];omega
 omega
theorem afu: ∀ (l:List Ac) {m:Cl} {k:Nat},Bs m k->(∀ a∈l,zF a)->k+l.length<=100000->(m.run l).cw<=m.cw+l.length
 | [],_,_,_,_,_=>Nat.le_refl _
 | a::l,m,k,hB,ha,hk=>by
  rw [List.length_cons] at hk⊢;have h1:=ha a List.mem_cons_self;have h2:=aft hB h1;have h3:=afu l (m:=m.act a) (yE hB h1 oQ) (λx hx=>ha x (List.mem_cons_of_mem _ hx)) oQ
  show ((m.act a).run l).cw<=_
  omega
end
structure Vd (m:Cl):Prop where
 rol: ∀ n,n<5-> ∀ q,2<=q->q<4->(vw m q n).role=0
 nL: ∀ n,n<5-> ∀ p,(m.ah n).pend=some p->p.q<2
 lC: ∀ n,n<5-> ∀ l∈(m.ah n).inbox,l.q<2
 fly: ∀ l∈m.fly,l.q<2
section
variable {m w m':Cl} {n q:Nat} {X:Nd} {l:dK} {p:dB} {ac:Ac} {rs us:List dD}
theorem Vd.at_ (h:Vd m) (hn:m'.ah=upd m.ah n X) (hr: ∀ q,2<=q->q<4->(X.view q).role=0) (hp: ∀ p,X.pend=some p->p.q<2) (hi: ∀ l∈X.inbox,l.q<2) (hf: ∀ l∈m'.fly,l∈m.fly\/l.q<2):Vd m':=by
 refine ⟨λj hj q h1 h2=>?_,λj hj p hp'=>?_,λj hj l hl=>?_,λl hl=>(hf l hl).elim (h.fly l) id⟩
 ·rw [qD hn];by_cases e:j=n
  ·subst e;rw [upd_same];exact hr q h1 h2
  rw [upd_ne e];exact h.rol j hj q h1 h2
 ·rw [hn] at hp';by_cases e:j=n
  ·subst e;rw [upd_same] at hp';exact hp p hp'
  rw [upd_ne e] at hp';exact h.nL j hj p hp'
 rw [hn] at hl;by_cases e:j=n
 ·subst e;rw [upd_same] at hl;exact hi l hl
 rw [upd_ne e] at hl;exact h.lC j hj l hl
theorem Vd.ah (h:Vd m) (hn:m'.ah=m.ah) (hf: ∀ l∈m'.fly,l∈m.fly\/l.q<2):Vd m':=by
 have e: ∀ q j,vw m' q j=vw m q j:=λq j=>by unfold vw;rw [hn]
 exact ⟨λj hj q h1 h2=>by rw [e];exact h.rol j hj q h1 h2,λj hj p hp'=>h.nL j hj p (by rwa [hn] at hp'),λj hj l hl=>h.lC j hj l (by rwa [hn] at hl),λl hl=>(hf l hl).elim (h.fly l) id⟩
theorem qQ {fl:List dK} {x:dK} (hx:x.q<2): ∀ l∈fl++[x],l∈fl\/l.q<2:=λl hl=>by
 rcases List.mem_append.1 hl with hl | hl
 ·exact .inl hl
 rw [List.mem_singleton] at hl;subst hl;exact .inr hx
theorem Uc {b:bn} {a:Int} {fl:List dK} (hq:q<2): ∀ l∈kZ n q b a fl,l∈fl\/l.q<2:=λl hl=>by
 unfold kZ at hl
 split at hl
 ·exact .inl hl
 exact qQ (x:=II n q b a) hq l hl
theorem Vd.view (h:Vd m) (hn:n<5) (hu:(m.ah n).up=true) {q:Nat} (h1:2<=q) (h2:q<4):((m.ah n).bs q).role=0:=by
 have:=h.rol n hn q h1 h2;rwa [sV hu] at this
theorem afw (h:Vd m) (hn:n<5) (hu:(m.ah n).up=true) (hp:(m.ah n).pend=none) (hq:l.q<2) (H:Hnd m n l m'):Vd m':=by
 cases H with
 | same=>exact h
 | done a h1 h2=>
  unfold Cl.done
  split
  ·exact h.ah rfl (qQ (x:=lK n l.num a nowhere) (by show 0<2;omega))
  exact h.ah rfl (qQ (x:=lK n l.num a ((m.ah n).hints l.q)) (by show 0<2;omega))
 | have_ h1=>exact h.ah rfl (qQ (x:=oC n l.q ((m.ah n).bs l.q)) hq)
 | part b h1 h2 h3 h4 h5 h6=>
  obtain ⟨g1,g2,g3⟩:=uR (m:=m.aK n l.q b) (n:=n) (q:=l.q) (a:=l.at_);have dH:((m.aK n l.q b).part n l.q l.at_).ah=upd m.ah n ((m.ah n).aK l.q b):=g2;refine h.at_ dH (λq h7 h8=>?_) (h.nL n hn) (h.lC n hn) (λx hx=>?_)
  ·rw [dU (X:=(m.ah n).aK l.q b) hu];rw [show ((m.ah n).aK l.q b).bs q=(m.ah n).bs q from upd_ne oQ];exact h.view hn hu h7 h8
  rw [g3] at hx;exact Uc hq x hx
 | pend p Y d h1 h2 h3 h4 h5=>
  have hY:Y.bs=(m.ah n).bs/\Y.up=(m.ah n).up/\Y.inbox=(m.ah n).inbox:=by rcases h1 with h1 | ⟨_,h1⟩<;>rw [h1]<;>exact ⟨rfl,rfl,rfl⟩
  refine h.at_ (n:=n) (X:={ Y with data:=d,pend:=some p }) rfl (λq h7 h8=>?_) (λp' hp'=>?_) (λx hx=>h.lC n hn x (by rw [<-hY.2.2];exact hx)) (λx hx=> .inl hx)
  ·rw [dU (X:={ Y with data:=d,pend:=some p }) (hY.2.1.trans hu)]
   show (Y.bs q).role=0
   rw [hY.1];exact h.view hn hu h7 h8
  cases hp';rw [h2];exact hq
 | hear h1=>
  refine h.at_ (n:=n) (X:=(m.ah n).hear n l) rfl (λq h7 h8=>?_) (h.nL n hn) (h.lC n hn) (λx hx=> .inl hx);rw [dU (X:=(m.ah n).hear n l) hu];exact h.view hn hu h7 h8
theorem adf {b:bn} {s:Bool} (h:q<2\/b.role=0): ∀ l∈iN n q b s,l.q<2:=λl hl=>by
 unfold iN at hl
 rcases h with h | h
 ·rcases List.mem_append.1 hl with hl | hl
  ·rcases List.mem_append.1 hl with hl | hl
   ·split at hl
    ·rw [List.mem_singleton] at hl;subst hl;exact h
    simp at hl
   split at hl
   ·rw [List.mem_singleton] at hl;subst hl;exact h
   simp at hl
  split at hl
  ·rw [List.mem_singleton] at hl;subst hl;exact h
  simp at hl
 rw [if_neg oQ,if_neg oQ,if_neg oQ] at hl;simp at hl
theorem aak (h:Vd m) (hn:n<5) (hu:(m.ah n).up=true):Vd (m.wY n):=by
 refine h.at_ (n:=n) (X:={ m.ah n with turn:=(m.ah n).turn+1 }) rfl (λq h7 h8=>?_) (h.nL n hn) (h.lC n hn) (λx hx=>?_)
 ·rw [dU (X:={ m.ah n with turn:=(m.ah n).turn+1 }) hu];exact h.view hn hu h7 h8
 rcases List.mem_append.1 hx with hx | hx
 ·exact .inl hx
 refine .inr (adf ?_ x hx);by_cases c:(m.ah n).turn % 4<2
 ·exact .inl c
 exact .inr (h.view hn hu oQ (Nat.mod_lt _ dQ))
theorem aal {T S D K:Nat} (h:Vd m) (hB:dM m T S D K) (hn:n<5):Vd (m.step n):=by
 cases hu:(m.ah n).up with
 | false=>rw [uO hu];exact h
 | true=>
  obtain ⟨rs,us,hU⟩:=(hB.kr n hn).Cx hu
  cases hp:(m.ah n).pend with
  | some p=>
   obtain ⟨_,h2,h3⟩:=hU.O4 p hp;have hq:=h.nL n hn p hp;obtain ⟨X,hX⟩: ∃ X,m.ah n=X:=⟨_,rfl⟩;have key: ∀ {m':Cl} {Y:Nd},m'.ah=upd m.ah n Y->Y.bs=upd (m.ah n).bs p.q (p.b (m.ah n).bs)->Y.up=true->Y.pend=none->Y.inbox=(m.ah n).inbox->(∀ l∈m'.fly,l∈m.fly\/l.q<2)->Vd m':=by
    intro m' Y e1 e2 e3 e4 e5 e6;refine h.at_ e1 (λq h7 h8=>?_) (λp' hp'=>by rw [e4] at hp';cases hp') (λx hx=>h.lC n hn x (by rw [<-e5];exact hx)) e6;rw [dU e3,e2,upd_ne oQ];exact h.view hn hu h7 h8
   cases p with
   | serve k evs op num a=>
    rw [lg rfl hu hp rfl h2.1];exact key (Y:=(m.ah n).jA.aK k { (m.ah n).bs k with evs:=evs }) rfl rfl hu rfl rfl (qQ (by show 0<2;omega))
   | begun k b=>
    rw [rG rfl hu hp];exact key (Y:=(m.ah n).jA.aK k b) rfl rfl hu rfl rfl (qQ (x:=oC n k b) hq)
   | got k b last=>
    cases last with
    | true=>
     rw [mF rfl hu hp];exact key (Y:={ ((m.ah n).jA.aK k b) with sure:=upd (m.ah n).sure k false }) rfl rfl hu rfl rfl (λl hl=> .inl hl)
    | false=>
     rw [xM rfl hu hp];exact key (Y:=(m.ah n).jA.aK k b) rfl rfl hu rfl rfl (qQ (x:=oC n k b) hq)
   | gI k b at_=>
    rw [uP rfl hu hp];exact key (Y:=(m.ah n).jA.aK k b) rfl rfl hu rfl rfl (Uc (q:=k) hq)
   | forget k b=>
    rw [pK rfl hu hp];exact key (Y:=(m.ah n).jA.aK k b) rfl rfl hu rfl rfl (λl hl=> .inl hl)
  | none=>
   have P:=Bt (n:=n) (λw=>Rdg m n rs w/\Vd w) (λw l r ⟨H,A⟩ hp1 hin=>by
    obtain ⟨h1,h2,h3,h4⟩:=Bu (λl hl=>uV (hB.lC n hn l hl)) H hp1 hin;refine ⟨h1.1,h4,?_⟩;have A2:Vd (w.put n ((w.ah n).box r)):=A.at_ (n:=n) (X:=(w.ah n).box r) rfl (λq h7 h8=>A.rol n hn q h7 h8) (A.nL n hn) (λx hx=>A.lC n hn x (by rw [hin];exact List.mem_cons_of_mem _ hx)) (λx hx=> .inl hx);exact afw A2 hn (by rw [dw];exact H.up) (by rw [dw];exact hp1) (A.lC n hn l (by rw [hin];simp)) h3) _ m rfl ⟨RL hu ⟨_,hU⟩,h⟩
   rw [nM hu hp]
   split
   ·exact aak P.2 hn P.1.up
   exact P.2
theorem aam (h:Vd m) (hl:ko l) (hq:l.q<2):Vd (m.come l):=by
 obtain ⟨_,_,h1,_⟩:=id hl;unfold Cl.come
 split
 ·exact h.ah rfl λx hx=> .inl hx
 split
 ·split
  ·exact h.ah rfl (qQ (x:=lS l.fr l.q _) hq)
  exact h.ah rfl λx hx=> .inl hx
 split
 ·have hn:l.tg.toNat<5:=oQ;refine h.at_ (n:=l.tg.toNat) (X:={ m.ah l.tg.toNat with inbox:=(m.ah l.tg.toNat).inbox++[l] }) rfl (λq h7 h8=>h.rol _ hn q h7 h8) (h.nL _ hn) (λx hx=>?_) (λx hx=> .inl hx);exact (qQ hq x hx).elim (h.lC _ hn x) id
 exact h
theorem Ud: ∀ (ls:List dK) {m:Cl},Vd m->(∀ l∈ls,ko l)->(∀ l∈ls,l.q<2)->Vd (ls.foldl Cl.come m)
 | [],_,h,_,_=>h
 | l::ls,m,h,hl,hq=>Ud ls (aam h (hl l iQ) (hq l iQ)) (λx hx=>hl x (by simp [hx])) λx hx=>hq x (by simp [hx])
theorem Pv (h:Vd m) (hl: ∀ l∈m.fly,ko l):Vd m.all:=
 Ud m.fly (m:={ m with fly:=[] }) (h.ah rfl λx hx=>by cases hx) hl h.fly
theorem alG {at_:Nat} {c s:Bool} (h:Vd m) (hl: ∀ l∈m.fly,ko l):Vd (m.pick at_ c s):=by
 unfold Cl.pick
 split
 ·exact h
 rename_i l hl2
 have hm:=List.mem_of_getElem? hl2;have h0:Vd (if s=true then m else { m with fly:=m.fly.eraseIdx (at_ % m.fly.length) }):=by
  split
  ·exact h
  exact h.ah rfl λx hx=> .inl (List.mem_of_mem_eraseIdx hx)
 dsimp only
 split
 ·exact aam h0 (hl l hm) (h.fly l hm)
 exact h0
theorem ahp {keep:Int} {T S D K:Nat} (h:Vd m) (hB:dM m T S D K) (hn:n<5) (hk:0<=keep):Vd (m.crash n keep):=by
 unfold Cl.crash
 split
 ·rename_i hu
  obtain ⟨rs,us,hU⟩:=(hB.kr n hn).Cx hu;obtain ⟨rs',t,f,hd,hf⟩:=KD hU hk;refine h.at_ (n:=n) (X:=(m.ah n).crashed keep) rfl (λq h7 h8=>?_) (λp hp=>by cases hp) (λx hx=>by cases hx) (λx hx=> .inl hx);rw [hd.view rfl h8]
  rcases hf q h8 with e | ⟨p,e1,e2,_⟩
  ·have:=h.view hn hu h7 h8;rw [e,Bn oQ];exact this
  have:=h.nL n hn p e1;omega
 exact h
theorem ahq {T S D K:Nat} (h:Vd m) (hB:dM m T S D K) (hn:n<5):Vd (m.start n):=by
 rcases BS (hB.kr n hn) with ⟨_,e⟩ | ⟨hu,rs,t,f,hd,e | ⟨ws,e1,e2,e3,W,e5,e6,e7⟩⟩
 ·rw [e];exact h
 ·rw [e];exact h
 have hN:=W.ah;rw [dw] at hN;dsimp only at hN;rw [show ∀ (Y Z:Nd),upd (m.put n Y).ah n Z=upd m.ah n Z from λY Z=>qP ..] at hN;refine h.at_ hN (λq h7 h8=>?_) (λp hp=>by cases hp) (λx hx=>by cases hx) (λx hx=> .inl (by rw [W.fly] at hx;exact hx));rw [dU rfl];dsimp only;have hv:=h.rol n hn q h7 h8;have e0:bC (m.ah n).data (m.ah n).syn q=vw m q n:=by
  unfold vw Nd.view;rw [if_neg (by rw [hu];simp)]
 rw [e0,if_neg (λc=>by omega)];exact hv
theorem alH {tg:Int} (h:Vd m) (hq:q<2):Vd (m.move q tg):=by
 unfold Cl.move
 split
 ·exact h
 rename_i h0
 split
 ·obtain ⟨hn,_,_⟩:=rJ (d:=m.off) (q:=q) (λe=>h0 (.inl e));generalize (aY m.off q).1.node.toNat=n at*;have hu:(m.ah n).up=true:=by
   cases e:(m.ah n).up with
   | true=>rfl
   | false=>exact absurd (.inr (.inr e)) h0
  refine h.at_ (n:=n) (X:=(m.ah n).aK q (zO ((m.ah n).bs q) tg).1) rfl (λk h7 h8=>?_) (h.nL n hn) (h.lC n hn) (λx hx=> .inl hx);rw [dU (X:=(m.ah n).aK q _) hu,show ((m.ah n).aK q (zO ((m.ah n).bs q) tg).1).bs k=(m.ah n).bs k from upd_ne oQ];exact h.view hn hu h7 h8
 exact h
theorem afx {T S D K:Nat} (h:Vd m) (hB:dM m T S D K) (ha:zF ac) (h1:ac.kd≠1) (hq:ac.qu<2):Vd (m.act ac):=by
 obtain ⟨a1,a2,a3,a4,a5,a6⟩:=ha;have hn:ac.nd.toNat<5:=oQ;unfold Cl.act;rw [if_neg h1]
 split
 ·exact h.ah rfl (qQ (x:=F9 ac.nd ac.qu.toNat ac.op m.calls) (by show ac.qu.toNat<2;omega))
 split
 ·exact aal h hB hn
 split
 ·exact alG h hB.qC
 split
 ·exact Pv h hB.qC
 split
 ·exact ahp h hB hn a5.1
 split
 ·exact ahq h hB hn
 exact alH h oQ
theorem afy: ∀ (l:List Ac) {m:Cl} {k:Nat},Vd m->Bs m k->(∀ a∈l,zF a/\a.kd≠1/\a.qu<2)->k+l.length<=100000->Vd (m.run l)
 | [],_,_,h,_,_,_=>h
 | a::l,m,k,h,hB,ha,hk=>by
  rw [List.length_cons] at hk;obtain ⟨h1,h2,h3⟩:=ha a List.mem_cons_self;exact afy l (m:=m.act a) (afx h hB h1 h2 h3) (yE hB h1 oQ) (λx hx=>ha x (List.mem_cons_of_mem _ hx)) oQ
end
theorem aw7:Vd tL:=by
 have hX: ∀ n,tL.ah n=nd0\/tL.ah n=yG 0\/tL.ah n=yG 1:=λn=>by
  have e:tL.ah n=upd (upd mD.ah 0 (yG 0)) 1 (yG 1) n:=rfl;rw [e];by_cases c1:n=1
  ·rw [c1,upd_same];exact .inr (.inr rfl)
  by_cases c0:n=0
  ·rw [upd_ne c1,c0,upd_same];exact .inr (.inl rfl)
  rw [upd_ne c1,upd_ne c0];exact .inl rfl
 refine ⟨λn hn q h1 h2=>?_,λn hn p hp=>?_,λn hn l hl=>?_,λl hl=>by cases hl⟩
 ·unfold vw
  rcases hX n with e | e | e<;>rw [e]
  ·rw [dU rfl];rfl
  ·rw [dU rfl];show (upd (λ_=>bF) 0 _ q).role=0;rw [upd_ne oQ];rfl
  rw [dU rfl];show (upd (λ_=>bF) 1 _ q).role=0;rw [upd_ne oQ];rfl
 ·rcases hX n with e | e | e<;>rw [e] at hp<;>cases hp
 rcases hX n with e | e | e<;>rw [e] at hl<;>cases hl
def jK (f:dK->Nat):List dK->Nat
 | []=>0
 | l::r=>f l+jK f r
def Cl.ws (f:dK->Nat) (m:Cl):Nat:=jK f m.fly+(jK f (m.ah 0).inbox+(jK f (m.ah 1).inbox+(jK f (m.ah 2).inbox+(jK f (m.ah 3).inbox+jK f (m.ah 4).inbox))))
structure Wy where
 M:Nat
 own:Nat->Nat
 R:Nat
 tg:Int
def calm (F:Wy) (l:dK):Prop:=(1<=l.ep/\l.ep<=F.M/\l.tg=F.own l.ep.toNat)\/(l.ep=F.M+1/\F.R=1/\l.tg=F.tg)
instance (F:Wy) (l:dK):Decidable (calm F l):=by unfold calm;exact inferInstance
def xw (F:Nat->Wy) (l:dK):Nat:=if l.kd=0 then 46 else if l.kd=4/\ ¬ calm (F l.q) l then 184 else 0
def Wh (r:Int):Nat:=if r=2 then 2 else if r=3 then 1 else 0
def fiT (F:Wy) (j:Nat) (b:bn):Nat:=if F.R=1/\(j:Int)=F.tg then 46*(302-if b.ep=F.M+1 then b.evs.length else 0) else 0
def fi (F:Wy) (j:Nat) (b:bn):Nat:=46*((F.M:Int)+1+F.R-b.ep).toNat+46*Wh b.role+fiT F j b
def uj (X:Nd) (q:Nat):bn:=match X.pend with
 | some p=>if p.q=q then p.b X.bs else X.bs q
 | none=>X.bs q
noncomputable def CG (m:Cl) (q:Nat) (g:Gh):Wy:=⟨g.m,g.own,if (vw m q g.o).role=1 then 0 else 1,(vw m q g.o).tg⟩
def sM (F F':Wy):Prop:=(F'.M=F.M/\(∀ k,k<=F.M->F'.own k=F.own k)/\F'.R=F.R/\F'.tg=F.tg)\/
 (F'.M=F.M+1/\(∀ k,k<=F.M->F'.own k=F.own k)/\(F'.own (F.M+1):Int)=F.tg/\F.R=1/\F'.R=0)
section
variable {m w m':Cl} {n q:Nat} {X X':Nd} {l:dK} {p:dB} {f f':dK->Nat} {F F':Wy} {g g':Gh} {b b':bn}
theorem sM.refl (F:Wy):sM F F:= .inl ⟨rfl,λ_ _=>rfl,rfl,rfl⟩
theorem sM.clm (h:sM F F') (hl:calm F l):calm F' l:=by
 unfold calm at hl⊢
 rcases h with ⟨h1,h2,h3,h4⟩ | ⟨h1,h2,h3,h4,h5⟩
 ·rcases hl with ⟨a,b,c⟩ | ⟨a,b,c⟩
  ·exact .inl ⟨a,by omega,by rw [h2 _ oQ];exact c⟩
  exact .inr ⟨by omega,by omega,by rw [h4];exact c⟩
 rcases hl with ⟨a,b,c⟩ | ⟨a,b,c⟩
 ·exact .inl ⟨a,by omega,by rw [h2 _ oQ];exact c⟩
 refine .inl ⟨by omega,by omega,?_⟩;rw [show l.ep.toNat=F.M+1 by omega,h3];exact c
theorem sM.fi_ (h:sM F F'):fi F' n b<=fi F n b:=by
 unfold fi fiT
 rcases h with ⟨h1,h2,h3,h4⟩ | ⟨h1,h2,h3,h4,h5⟩
 ·rw [h1,h3,h4];exact Nat.le_refl _
 rw [if_neg (λh=>by omega: ¬ (F'.R=1/\(n:Int)=F'.tg))];have:((F'.M:Int)+1+F'.R-b.ep).toNat=((F.M:Int)+1+F.R-b.ep).toNat:=oQ;rw [this];omega
theorem sM.lw {F F':Nat->Wy} (h:sM (F l.q) (F' l.q)):xw F' l<=xw F l:=by
 unfold xw
 split
 ·exact Nat.le_refl _
 split
 ·rename_i h1 h2
  rw [if_pos ⟨h2.1,λc=>h2.2 (h.clm c)⟩];exact Nat.le_refl _
 exact Nat.zero_le _
theorem xR: ∀ (a b:List dK),jK f (a++b)=jK f a+jK f b
 | [],b=>by simp [jK]
 | l::a,b=>by rw [List.cons_append,jK,jK,xR a b];omega
theorem Ue:jK f [l]=f l:=rfl
theorem yQ: ∀ {a:List dK},(∀ l∈a,f' l<=f l)->jK f' a<=jK f a
 | [],_=>Nat.le_refl _
 | l::a,h=>by
  have h1:=h l List.mem_cons_self;have h2:=yQ (a:=a) λx hx=>h x (List.mem_cons_of_mem _ hx);rw [jK,jK];omega
theorem ano (h1: ∀ l∈m.fly,f' l<=f l) (h2: ∀ n,n<5-> ∀ l∈(m.ah n).inbox,f' l<=f l):m.ws f'<=m.ws f:=by
 have h:=yQ h1;have i0:=yQ (h2 0 dQ);have i1:=yQ (h2 1 dQ);have i2:=yQ (h2 2 dQ);have i3:=yQ (h2 3 dQ);have i4:=yQ (h2 4 dQ);unfold Cl.ws;omega
theorem ad8 {d:Nat} (hn:n<5) (ho: ∀ j,j≠n->(m'.ah j).inbox=(m.ah j).inbox) (h:jK f m'.fly+jK f (m'.ah n).inbox+d<=jK f m.fly+jK f (m.ah n).inbox):m'.ws f+d<=m.ws f:=by
 unfold Cl.ws
 rcases five hn with rfl | rfl | rfl | rfl | rfl
 ·rw [ho 1 dQ,ho 2 dQ,ho 3 dQ,ho 4 dQ];omega
 ·rw [ho 0 dQ,ho 2 dQ,ho 3 dQ,ho 4 dQ];omega
 ·rw [ho 0 dQ,ho 1 dQ,ho 3 dQ,ho 4 dQ];omega
 ·rw [ho 0 dQ,ho 1 dQ,ho 2 dQ,ho 4 dQ];omega
 rw [ho 0 dQ,ho 1 dQ,ho 2 dQ,ho 3 dQ];omega
theorem alI (hf: ∀ x:dK,x.kd=6->f x=0) (hl:ko l):(w.come l).ws f<=w.ws f+f l:=by
 unfold Cl.come
 split
 ·show w.ws f<=_;omega
 split
 ·split
  ·unfold Cl.ws
   show jK f (w.fly++[_])+_<=_
   rw [xR,Ue,hf _ rfl];dsimp only;omega
  show w.ws f<=_;omega
 split
 ·obtain ⟨_,_,h1,_⟩:=id hl;have h5:l.tg.toNat<5:=oQ;have:=ad8 (m:={ w with fly:=w.fly++[l] }) (m':=w.put l.tg.toNat { w.ah l.tg.toNat with inbox:=(w.ah l.tg.toNat).inbox++[l] }) (f:=f) (d:=0) h5 (λj hj=>by
   show (upd w.ah _ _ j).inbox=_
   rw [upd_ne hj]) (by
   rw [dw]
   show jK f w.fly+jK f ((w.ah l.tg.toNat).inbox++[l])+0<=jK f (w.fly++[l])+jK f (w.ah l.tg.toNat).inbox
   rw [xR,xR];omega)
  have e:({ w with fly:=w.fly++[l] }:Cl).ws f=w.ws f+f l:=by
   unfold Cl.ws;dsimp only;rw [xR,Ue];omega
  omega
 omega
theorem Uf (hf: ∀ x:dK,x.kd=6->f x=0): ∀ (ls:List dK) {w:Cl},(∀ l∈ls,ko l)->(ls.foldl Cl.come w).ws f<=w.ws f+jK f ls
 | [],w,_=>Nat.le_refl _
 | l::r,w,hl=>by
  have h1:=Uf hf r (w:=w.come l) λx hx=>hl x (List.mem_cons_of_mem _ hx);have h2:=alI (w:=w) hf (hl l List.mem_cons_self);rw [List.foldl_cons,jK];omega
theorem afz (hf: ∀ x:dK,x.kd=6->f x=0) (hl: ∀ l∈m.fly,ko l):m.all.ws f<=m.ws f:=by
 have h1:=Uf hf m.fly (w:={ m with fly:=[] }) hl;have h2:({ m with fly:=[] }:Cl).ws f+jK f m.fly=m.ws f:=by unfold Cl.ws;dsimp only [jK];omega
 unfold Cl.all;omega
theorem aw8 {F:Nat->Wy} (x:dK) (h:x.kd=6):xw F x=0:=by
 unfold xw;rw [if_neg oQ,if_neg (λc=>by omega)]
theorem ad9 {F:Nat->Wy} {x:dK} (h0:x.kd≠0) (h:x.kd=4->calm (F x.q) x):xw F x=0:=by
 unfold xw;rw [if_neg h0,if_neg (λc=>c.2 (h c.1))]
theorem asg {F:Nat->Wy}:xw F l<=184*J6 l:=by
 unfold xw J6
 split
 ·rename_i h;rw [if_pos (.inl h)];decide
 split
 ·rename_i h;rw [if_pos (.inr (.inr (.inr h.1)))];decide
 exact Nat.zero_le _
theorem aw9 {F:Nat->Wy}:m.ws (xw F)<=184*m.cw:=by
 have h: ∀ a:List dK,jK (xw F) a<=184*qE a:=by
  intro a
  induction a with
  | nil=>exact Nat.zero_le _
  | cons l r ih=>
   have:=asg (l:=l) (F:=F);rw [jK,qE];omega
 have h0:=h m.fly;have i0:=h (m.ah 0).inbox;have i1:=h (m.ah 1).inbox;have i2:=h (m.ah 2).inbox;have i3:=h (m.ah 3).inbox;have i4:=h (m.ah 4).inbox;unfold Cl.ws Cl.cw xu;omega
theorem Bw (h:X.pend=none):uj X q=X.bs q:=by unfold uj;rw [h]
theorem Bz (h:X.pend=some p) (hq:p.q=q):uj X q=p.b X.bs:=by unfold uj;rw [h];exact if_pos hq
theorem Pw (h:X.pend=some p) (hq:p.q≠q):uj X q=X.bs q:=by unfold uj;rw [h];exact if_neg hq
theorem Gp {r:Int} (h:r=0\/r=4\/r=1):Wh r=0:=by unfold Wh;rw [if_neg oQ,if_neg oQ]
theorem aao (hr:Wh b'.role=Wh b.role) (he:b'.ep=b.ep) (hv:b.evs.length<=b'.evs.length):fi F n b'<=fi F n b:=by
 unfold fi fiT;rw [hr,he]
 split
 ·split<;>omega
 exact Nat.le_refl _
theorem alJ (hr:b'.role=b.role) (he:b'.ep=b.ep) (hv:b'.evs=b.evs):fi F n b'=fi F n b:=by
 unfold fi fiT;rw [hr,he,hv]
theorem ahr {V:Nat->bn} {P:Nat->Option dB} {U:Nat->Bool} {Lt:dK->Prop} {pl:Pl} {sh:Nat->Int×Int} {sv:List fD} {bs:Nat->bn} {FF:Nat->Wy} (I:Inv g V P U Lt pl sh sv) (hn:n<5) (hV:V n=bs l.q) (hpq:p.q=l.q) (hp:p.ok bs) (hS:Src (bs l.q) l p) (hk:GY g V n p)
  (nY:l.tg=n) (hl3:l.evs.length<=3) (hG:g.G.length<=300) (hM:(FF l.q).M=g.m) (ho:(FF l.q).own=g.own):46*(p.rs bs).length+fi (FF l.q) n (p.b bs)<=xw FF l+fi (FF l.q) n (bs l.q):=by
 have hlen:=Z9 hpq hp hS hl3
 cases p with
 | serve k evs op num a=>
  have e:k=l.q:=hpq;subst e;obtain ⟨s1,_⟩:=hS;obtain ⟨_,h2,_⟩:=hp;have h1:fi (FF l.q) n ((dB.serve l.q evs op num a).b bs)<=fi (FF l.q) n (bs l.q):=aao rfl rfl (by show _<=evs.length;rw [h2,List.length_append];omega);have h3:xw FF l=46:=if_pos s1;have h4:((dB.serve l.q evs op num a).rs bs).length=1:=rfl;omega
 | begun k x=>
  have e:k=l.q:=hpq;subst e;obtain ⟨j,j1,j2,j3,j4,j5⟩:=hk;rw [hV] at j4 j5;have h4:((dB.begun l.q x).rs bs).length=1:=rfl;have hx:(dB.begun l.q x).b bs=x:=rfl;rw [h4,hx,j1];unfold fi fiT;dsimp only;rw [Gp (r:=(4:Int)) oQ,Gp (r:=(bs l.q).role) oQ,hM];by_cases c:(FF l.q).R=1/\(n:Int)=(FF l.q).tg
  ·rw [if_pos c,if_pos c,if_neg (by omega: ¬ (bs l.q).ep=(g.m:Int)+1)]
   split
   ·rw [List.length_nil];omega
   omega
  rw [if_neg c,if_neg c];omega
 | got k x last=>
  have e:k=l.q:=hpq;subst e;obtain ⟨es,g1,g2,g3,g4,g5,g6,g7⟩:=Cy hp;obtain ⟨s1,s2,s3,s4,s5,s6,s7,s8,s9⟩:=hS;obtain ⟨k1,k2,k3⟩:=hk;rw [hV] at k1;have hrs:((dB.got l.q x last).rs bs).length=x.evs.length-(bs l.q).evs.length:=by
   rw [g7,List.length_append,List.length_map,List.length_drop]
   cases last with
   | true=>simp only [if_true,List.length_singleton] at*;omega
   | false=>simp only [Bool.false_eq_true,if_false,List.length_nil] at*;omega
  have hxl:(bs l.q).evs.length<=x.evs.length:=oQ;have hxr:x.role=4\/x.role=1:=by
   cases last with
   | true=>obtain ⟨_,_,_,a4,_⟩:=k3 rfl;rw [a4];exact .inr rfl
   | false=>obtain ⟨j,a1,_⟩:=k2 rfl;rw [a1];exact .inl (by show (V n).role=4;rw [hV];exact k1)
  have hxG:x.evs.length<=301:=by
   cases last with
   | true=>obtain ⟨_,_,_,a4,_⟩:=k3 rfl;rw [a4];show (g.G++[aI]).length<=301;rw [List.length_append,List.length_singleton];omega
   | false=>obtain ⟨j,a1,_⟩:=k2 rfl;rw [a1];show (g.G.take j).length<=301;rw [List.length_take];omega
  have hb:(dB.got l.q x last).b bs=x:=rfl;rw [hrs] at hlen;rw [hrs,hb];by_cases c:calm (FF l.q) l
  ·rcases c with ⟨c1,c2,c3⟩ | ⟨c1,c2,c3⟩
   ·exfalso
    have hno:n≠g.o:=I.yF (.inr (by rw [hV];exact k1));rw [hM] at c2;rw [ho,nY] at c3
    rcases I.sj n hn hno with ⟨h5,_⟩ | ⟨_,h5,_⟩ | ⟨k',_,h2,h3,h4,_,_,_,h8⟩
    ·rw [hV] at h5;omega
    ·rw [hV] at h5;omega
    rw [hV] at h2;rw [show l.ep.toNat=k'+1 by omega] at c3;exact h8 oQ oQ
   rw [nY] at c3;have hc:(FF l.q).R=1/\(n:Int)=(FF l.q).tg:=⟨c2,c3⟩;have he:(bs l.q).ep=((FF l.q).M:Int)+1:=by rw [s3];exact c1
   unfold fi fiT;rw [Gp (r:=x.role) oQ,Gp (r:=(bs l.q).role) oQ,g6];simp only [if_pos hc,if_pos he];omega
  have h3:xw FF l=184:=by
   unfold xw;rw [if_neg oQ,if_pos ⟨s1,c⟩]
  have h1:fi (FF l.q) n x<=fi (FF l.q) n (bs l.q):=aao (by rw [Gp (r:=x.role) oQ,Gp (r:=(bs l.q).role) oQ]) g6 hxl;omega
 | gI k x a=>
  have e:k=l.q:=hpq;subst e;obtain ⟨h1,h2⟩:=hp;have h4:((dB.gI l.q x a).rs bs).length=1:=rfl;have hb:(dB.gI l.q x a).b bs=x:=rfl;rw [h4,hb,h2];unfold fi fiT;dsimp only;rw [show Wh (3:Int)=1 from rfl,h1,show Wh (2:Int)=2 from rfl];omega
 | forget k x=>
  have e:k=l.q:=hpq;subst e;obtain ⟨h1,h2⟩:=hp;obtain ⟨_,_,k3⟩:=hk;rw [hV] at k3;have h4:((dB.forget l.q x).rs bs).length=1:=rfl;have hb:(dB.forget l.q x).b bs=x:=rfl;rw [h4,hb,h2];unfold fi fiT;dsimp only;have hne: ¬ (bs l.q).ep=(g.m:Int)+1:=oQ;rw [show Wh (0:Int)=0 from rfl,h1,show Wh (3:Int)=1 from rfl,hM];simp only [if_neg hne];omega
end
def qG (l:dK):Nat:=if l.kd=0 then 1 else 0
def Px:Option dB->Nat
 | some (.serve _ _ _ _ _)=>1
 | _=>0
def Cl.c0 (m:Cl):Nat:=m.ws qG+(Px (m.ah 0).pend+(Px (m.ah 1).pend+(Px (m.ah 2).pend+(Px (m.ah 3).pend+Px (m.ah 4).pend))))
noncomputable def FF (m:Cl) (G:Nat->Gh):Nat->Wy:=λq=>CG m q (G q)
noncomputable def Na (m:Cl) (G:Nat->Gh) (n:Nat):Nat:=(m.ah n).data.length+m.ws (xw (FF m G))+(fi (FF m G 0) n (uj (m.ah n) 0)+fi (FF m G 1) n (uj (m.ah n) 1))
structure Rmc (m:Cl) (G:Nat->Gh) (B c e:Nat):Prop where
 up: ∀ n,n<5->(m.ah n).up=true
 vd:Vd m
 qi: ∀ q,q<2->QI m q (G q)
 Na: ∀ n,n<5->Na m G n+c<=B
 cap: ∀ q,q<2->(G q).G.length+m.c0+e+(FF m G q).R<=300
def Rm (m:Cl) (G:Nat->Gh) (B:Nat):Prop:=Rmc m G B 0 0
section
variable {m w m':Cl} {n q B c e:Nat} {X X':Nd} {l:dK} {p:dB} {G G':Nat->Gh} {g g':Gh} {b b':bn} {rs us:List dD} {V:Nat->bn} {P:Nat->Option dB} {U:Nat->Bool} {Lt:dK->Prop} {pl:Pl} {sh:Nat->Int×Int} {sv:List fD}
theorem Xm {Q:Nat->Gh->Prop} (h: ∀ q,q<2-> ∃ g,Q q g): ∃ G:Nat->Gh,∀ q,q<2->Q q (G q):=by
 obtain ⟨a,ha⟩:=h 0 dQ;obtain ⟨b,hb⟩:=h 1 dQ;refine ⟨λq=>if q=0 then a else b,λq hq=>?_⟩;have:q=0\/q=1:=oQ
 rcases this with rfl | rfl
 ·exact ha
 exact hb
theorem sM.trans {F F' F2:Wy} (h:sM F F') (h':sM F' F2):sM F F2:=by
 rcases h with ⟨a1,a2,a3,a4⟩ | ⟨a1,a2,a3,a4,a5⟩
 ·rcases h' with ⟨b1,b2,b3,b4⟩ | ⟨b1,b2,b3,b4,b5⟩
  ·exact .inl ⟨by omega,λk hk=>(b2 k oQ).trans (a2 k hk),by omega,b4.trans a4⟩
  exact .inr ⟨by omega,λk hk=>(b2 k oQ).trans (a2 k hk),by rw [<-a1,b3,a4],by omega,b5⟩
 rcases h' with ⟨b1,b2,b3,b4⟩ | ⟨b1,b2,b3,b4,b5⟩
 ·exact .inr ⟨by omega,λk hk=>(b2 k oQ).trans (a2 k hk),by rw [b2 _ oQ];exact a3,a4,by omega⟩
 omega
theorem ash (x:dK) (h:x.kd=6):qG x=0:=if_neg oQ
theorem Wi {x:dK} (h:x.kd≠0):qG x=0:=if_neg h
theorem afA {f:dK->Nat}: ∀ {a:List dK},(∀ x∈a,f x=0)->jK f a=0
 | [],_=>rfl
 | l::a,h=>by rw [jK,h l List.mem_cons_self,afA (a:=a) λx hx=>h x (List.mem_cons_of_mem _ hx)]
theorem Py {f:dK->Nat} {new:List dK} (hn:n<5) (ho: ∀ j,j≠n->m'.ah j=m.ah j) (hi:(m'.ah n).inbox=(m.ah n).inbox) (hf:m'.fly=m.fly++new) (h0: ∀ x∈new,f x=0):m'.ws f<=m.ws f:=
 ad8 (d:=0) hn (λj hj=>by rw [ho j hj]) (by rw [hi,hf,xR,afA h0];omega)
theorem aea {d d':Nat} (hn:n<5) (ho: ∀ j,j≠n->m'.ah j=m.ah j) (hw:m'.ws qG+d<=m.ws qG) (hp:Px (m'.ah n).pend+d'<=Px (m.ah n).pend+d):m'.c0+d'<=m.c0:=by
 unfold Cl.c0
 rcases five hn with rfl | rfl | rfl | rfl | rfl
 ·rw [ho 1 dQ,ho 2 dQ,ho 3 dQ,ho 4 dQ];omega
 ·rw [ho 0 dQ,ho 2 dQ,ho 3 dQ,ho 4 dQ];omega
 ·rw [ho 0 dQ,ho 1 dQ,ho 3 dQ,ho 4 dQ];omega
 ·rw [ho 0 dQ,ho 1 dQ,ho 2 dQ,ho 4 dQ];omega
 rw [ho 0 dQ,ho 1 dQ,ho 2 dQ,ho 3 dQ];omega
theorem KL {new:List dK} (hv:Vd m) (hP: ∀ j,j<5->Na m G j+c<=B) (hn:n<5) (ho: ∀ j,j≠n->m'.ah j=m.ah j) (hi:(m'.ah n).inbox=(m.ah n).inbox) (hf:m'.fly=m.fly++new)
  (hF: ∀ q,q<2->sM (FF m G q) (FF m' G' q)) (h0: ∀ x∈new,xw (FF m' G') x=0)
  (hd:(m'.ah n).data.length+(fi (FF m G 0) n (uj (m'.ah n) 0)+fi (FF m G 1) n (uj (m'.ah n) 1))<=(m.ah n).data.length+c+(fi (FF m G 0) n (uj (m.ah n) 0)+fi (FF m G 1) n (uj (m.ah n) 1))): ∀ j,j<5->Na m' G' j<=B:=by
 have h1:m'.ws (xw (FF m' G'))<=m.ws (xw (FF m' G')):=Py hn ho hi hf h0;have h2:m.ws (xw (FF m' G'))<=m.ws (xw (FF m G)):=ano (λl hl=>(hF _ (hv.fly l hl)).lw) λj hj l hl=>(hF _ (hv.lC j hj l hl)).lw;intro j hj;have hp:=hP j hj;have f0:=(hF 0 dQ).fi_ (n:=j) (b:=uj (m'.ah j) 0);have f1:=(hF 1 dQ).fi_ (n:=j) (b:=uj (m'.ah j) 1);unfold Na at hp⊢;by_cases ej:j=n
 ·subst ej;omega
 rw [ho j ej] at f0 f1⊢;omega
theorem Pz (I:Inv g V P U Lt pl sh sv) (hn:n<5) (hr:(V n).role=2\/(V n).role=3) {x:dK} (he:x.ep=(V n).ep+1) (ht:x.tg=(V n).tg):calm ⟨g.m,g.own,if (V g.o).role=1 then 0 else 1,(V g.o).tg⟩ x:=by
 by_cases e:n=g.o
 ·rw [e] at hr he ht;rw [I.zW] at he;exact .inr ⟨he,if_neg oQ,ht⟩
 rcases I.sj n hn e with ⟨h5,_⟩ | ⟨k,k1,k2,k3,k4,k5,k6,k7⟩ | ⟨k,k1,_⟩
 ·omega
 ·refine .inl ⟨by omega,by show x.ep<=(g.m:Int);omega,?_⟩
  show x.tg=((g.own x.ep.toNat:Nat):Int)
  rw [show x.ep.toNat=k+1 by omega,ht,k7]
 omega
theorem alK (hu:(m.ah n).up=true) (H:Hnd m n l m'): ∃ new,m'.fly=m.fly++new/\ ∀ x∈new,x.kd≠0/\(x.kd=4->x.q=l.q/\(((m.ah n).bs l.q).role=2\/((m.ah n).bs l.q).role=3)/\x.ep=((m.ah n).bs l.q).ep+1/\x.tg=((m.ah n).bs l.q).tg):=by
 have one: ∀ {x:dK} {Q:dK->Prop},Q x-> ∀ y∈[x],Q y:=λh y hy=>by rw [List.mem_singleton] at hy;subst hy;exact h
 cases H with
 | same=>exact ⟨[],by simp,λx hx=>by cases hx⟩
 | done a h1 h2=>
  unfold Cl.done
  split
  ·exact ⟨_,rfl,one ⟨by show (1:Int)≠0;decide,λh=>absurd (show (1:Int)=4 from h) dQ⟩⟩
  exact ⟨_,rfl,one ⟨by show (1:Int)≠0;decide,λh=>absurd (show (1:Int)=4 from h) dQ⟩⟩
 | have_ h1=>exact ⟨_,rfl,one ⟨by show (3:Int)≠0;decide,λh=>absurd (show (3:Int)=4 from h) dQ⟩⟩
 | part b h1 h2 h3 h4 h5 h6=>
  obtain ⟨g1,g2,g3⟩:=uR (m:=m.aK n l.q b) (n:=n) (q:=l.q) (a:=l.at_);have e0:((m.aK n l.q b).ah n).bs l.q=b:=by rw [show (m.aK n l.q b).ah n=(m.ah n).aK l.q b from dw _];exact upd_same _ _ _
  rw [e0] at g3;rw [g3];unfold kZ
  split
  ·exact ⟨[],by rw [List.append_nil];rfl,λx hx=>by cases hx⟩
  refine ⟨_,rfl,one ⟨by show (4:Int)≠0;decide,λ_=>⟨rfl,?_,?_,?_⟩⟩⟩
  ·rcases h4 with ⟨h4,_⟩ | ⟨h4,_⟩
   ·exact .inl h4
   exact .inr h4
  ·show b.ep+1=_
   rcases h4 with ⟨_,h4,_⟩ | ⟨_,h4⟩<;>rw [h4]
  show b.tg=_
  rcases h4 with ⟨_,h4,_⟩ | ⟨_,h4⟩<;>rw [h4]
 | pend p Y d h1 h2 h3 h4 h5=>exact ⟨[],by rw [List.append_nil];rfl,λx hx=>by cases hx⟩
 | hear h1=>exact ⟨[],by rw [List.append_nil];rfl,λx hx=>by cases hx⟩
theorem asi (hu:(m.ah n).up=true) (hp:(m.ah n).pend=none) (H:Hnd m n l m'):
  (∀ q,((m'.ah n).bs q).role=((m.ah n).bs q).role/\((m'.ah n).bs q).tg=((m.ah n).bs q).tg/\((m'.ah n).bs q).ep=((m.ah n).bs q).ep/\((m'.ah n).bs q).evs=((m.ah n).bs q).evs)/\
  (((m'.ah n).pend=none/\(m'.ah n).data=(m.ah n).data)\/(∃ p,(m'.ah n).pend=some p/\p.q=l.q/\p.ok (m.ah n).bs/\(m'.ah n).bs=(m.ah n).bs/\Src ((m.ah n).bs l.q) l p/\(m'.ah n).data.length<=(m.ah n).data.length+46*(p.rs (m.ah n).bs).length)):=by
 have triv: ∀ {Y:Nd},Y=m.ah n->(∀ q,(Y.bs q).role=((m.ah n).bs q).role/\(Y.bs q).tg=((m.ah n).bs q).tg/\(Y.bs q).ep=((m.ah n).bs q).ep/\(Y.bs q).evs=((m.ah n).bs q).evs)/\((Y.pend=none/\Y.data=(m.ah n).data)\/(∃ p,Y.pend=some p/\p.q=l.q/\p.ok (m.ah n).bs/\Y.bs=(m.ah n).bs/\Src ((m.ah n).bs l.q) l p/\Y.data.length<=(m.ah n).data.length+46*(p.rs (m.ah n).bs).length)):=λh=>by
  subst h;exact ⟨λq=>⟨rfl,rfl,rfl,rfl⟩,.inl ⟨hp,rfl⟩⟩
 cases H with
 | same=>exact triv rfl
 | done a h1 h2=>exact triv (by rw [(CB (m:=m)).2.1])
 | have_ h1=>exact triv rfl
 | part b h1 h2 h3 h4 h5 h6=>
  obtain ⟨g1,g2,g3⟩:=uR (m:=m.aK n l.q b) (n:=n) (q:=l.q) (a:=l.at_);have e0:((m.aK n l.q b).part n l.q l.at_).ah n=(m.ah n).aK l.q b:=by rw [g2];exact dw _
  rw [e0];refine ⟨λq=>?_,.inl ⟨hp,rfl⟩⟩;by_cases hq:q=l.q
  ·rw [hq,show ((m.ah n).aK l.q b).bs l.q=b from upd_same _ _ _]
   rcases h4 with ⟨_,h4,_⟩ | ⟨_,h4⟩<;>rw [h4]<;>exact ⟨rfl,rfl,rfl,rfl⟩
  rw [show ((m.ah n).aK l.q b).bs q=(m.ah n).bs q from upd_ne hq];exact ⟨rfl,rfl,rfl,rfl⟩
 | pend p Y d h1 h2 h3 h4 h5=>
  have hY:Y.bs=(m.ah n).bs:=by rcases h1 with h1 | ⟨_,h1⟩<;>rw [h1]<;>rfl
  rw [dw];dsimp only;rw [hY];refine ⟨λq=>⟨rfl,rfl,rfl,rfl⟩,.inr ⟨p,rfl,h2,h3,rfl,h5,?_⟩⟩;obtain ⟨w1,_,_⟩:=qm h4;have:=xP (p.rs (m.ah n).bs);rw [w1,List.length_append];omega
 | hear h1=>
  rw [dw];exact ⟨λq=>⟨rfl,rfl,rfl,rfl⟩,.inl ⟨hp,rfl⟩⟩
theorem PD (h:pO g g') (hr:(vw m' q g.o).role=(vw m q g.o).role) (ht:(vw m' q g.o).tg=(vw m q g.o).tg):CG m' q g'=CG m q g:=by
 unfold CG;rw [h.m,h.own,h.o,hr,ht]
theorem asj (h:m'.ah n=m.ah n):vw m' q n=vw m q n:=by unfold vw;rw [h]
theorem asl (R:Rmc m G B (xw (FF m G) l) (qG l)) (hB:B+46<=100000) (hn:n<5) (hU:uN (m.ah n) rs []) (hp:(m.ah n).pend=none) (hL: ∀ q,q<2->l.q=q->J2 (G q) (vw m q) (m.off.at q) l) (nY:l.tg=n) (hl3:l.evs.length<=3) (hk:l.kd=0->aX l.op=0/\l.op.kind≠4) (hlq:l.q<2)
  (E:Cr m m' n) (H:Hnd m n l m'): ∃ G',Rm m' G' B/\ ∀ q,q<2->FF m' G' q=FF m G q:=by
 have hu:=R.up n hn;have hdat:(m.ah n).data.length+46<=100000:=by
  have:=R.Na n hn;unfold Na at this;omega
 have hG: ∀ q,q<2->(G q).G.length<=300:=λq hq=>by have:=R.cap q hq;omega
 obtain ⟨G',hG'⟩:=Xm (Q:=λq g'=>QI m' q g'/\pO (G q) g') λq hq=>by
  obtain ⟨g',h1,h2,_⟩:=Z8 (R.qi q hq) hn hu hU hp (hL q hq) nY hk oQ hdat (by have:=hG q hq;omega) H;exact ⟨g',h1,h2⟩
 have hu':(m'.ah n).up=true:=E.up.trans hu;obtain ⟨hbs,hpd⟩:=asi hu hp H;have hVs: ∀ q j,(vw m' q j).role=(vw m q j).role/\(vw m' q j).tg=(vw m q j).tg:=λq j=>by
  by_cases e:j=n
  ·subst e;rw [sV hu,sV hu'];exact ⟨(hbs q).1,(hbs q).2.1⟩
  rw [asj (E.sj j e)];exact ⟨rfl,rfl⟩
 have hFe: ∀ q,q<2->FF m' G' q=FF m G q:=λq hq=>PD (hG' q hq).2 (hVs q _).1 (hVs q _).2;obtain ⟨new,hf,hnew⟩:=alK hu H;have aC0: ∀ x∈new,xw (FF m' G') x=0:=λx hx=>by
  obtain ⟨h1,h2⟩:=hnew x hx;refine ad9 h1 λh4=>?_;obtain ⟨h5,h6,h7,h8⟩:=h2 h4;rw [h5,hFe _ hlq];have hV:=sV (q:=l.q) hu;exact Pz (R.qi _ hlq) hn (by rw [hV];exact h6) (by rw [hV];exact h7) (by rw [hV];exact h8)
 refine ⟨G',⟨λj hj=>?_,afw R.vd hn hu hp hlq H,λq hq=>(hG' q hq).1,?_,λq hq=>?_⟩,hFe⟩
 ·by_cases e:j=n
  ·rw [e];exact hu'
  rw [E.sj j e];exact R.up j hj
 ·refine KL (c:=xw (FF m G) l) R.vd R.Na hn E.sj E.lC hf (λq hq=>by rw [hFe q hq];exact .refl _) aC0 ?_;have hsame: ∀ q,((m'.ah n).pend=none\/ ∃ p,(m'.ah n).pend=some p/\p.q≠q)->fi (FF m G q) n (uj (m'.ah n) q)=fi (FF m G q) n (uj (m.ah n) q):=λq h=>by
   rw [Bw hp];have e:uj (m'.ah n) q=(m'.ah n).bs q:=by
    rcases h with h | ⟨p,h,h2⟩
    ·exact Bw h
    exact Pw h h2
   rw [e];exact alJ (hbs q).1 (hbs q).2.2.1 (hbs q).2.2.2
  rcases hpd with ⟨h1,h2⟩ | ⟨p,h1,h2,h3,h4,h5,h6⟩
  ·rw [hsame 0 (.inl h1),hsame 1 (.inl h1),h2];omega
  have hV:=sV (q:=l.q) hu;have hf:=(kT hU.tape hU.mP h3 (by rw [h2];omega)).2;have ao5:=afn (R.qi _ hlq) hn hV rfl (hL _ hlq rfl) nY h2 rfl h3 h5 hf;have hpp:=ahr (FF:=FF m G) (R.qi _ hlq) hn hV h2 h3 h5 ao5 nY hl3 (hG _ hlq) rfl rfl;have e1:uj (m'.ah n) l.q=p.b (m.ah n).bs:=by rw [Bz h1 h2,h4]
  have e2:uj (m.ah n) l.q=(m.ah n).bs l.q:=Bw hp;rw [<-e1,<-e2] at hpp;have h01:l.q=0\/l.q=1:=oQ
  rcases h01 with e | e
  ·rw [e] at hpp;have:=hsame 1 (.inr ⟨p,h1,by rw [h2,e];decide⟩);omega
  rw [e] at hpp;have:=hsame 0 (.inr ⟨p,h1,by rw [h2,e];decide⟩);omega
 have hc:=R.cap q hq;rw [hFe q hq,(hG' q hq).2.G];have hw:m'.ws qG+0<=m.ws qG:=Py hn E.sj E.lC hf λx hx=>Wi (hnew x hx).1;have hs:Px (m'.ah n).pend<=qG l:=by
  rcases hpd with ⟨h1,_⟩ | ⟨p,h1,h2,h3,h4,h5,h6⟩
  ·rw [h1];exact Nat.zero_le _
  rw [h1]
  cases p with
  | serve k evs op num a=>rw [show qG l=1 from if_pos h5.1];exact Nat.le_refl _
  | _=>exact Nat.zero_le _
 have h0:Px (m.ah n).pend=0:=by rw [hp];rfl
 have:m'.c0<=m.c0+qG l:=by
  have hoth:=E.sj;unfold Cl.c0
  rcases five hn with rfl | rfl | rfl | rfl | rfl
  ·rw [hoth 1 dQ,hoth 2 dQ,hoth 3 dQ,hoth 4 dQ];omega
  ·rw [hoth 0 dQ,hoth 2 dQ,hoth 3 dQ,hoth 4 dQ];omega
  ·rw [hoth 0 dQ,hoth 1 dQ,hoth 3 dQ,hoth 4 dQ];omega
  ·rw [hoth 0 dQ,hoth 1 dQ,hoth 2 dQ,hoth 4 dQ];omega
  rw [hoth 0 dQ,hoth 1 dQ,hoth 2 dQ,hoth 3 dQ];omega
 omega
end
section
variable {m w m':Cl} {n q B c e d:Nat} {X X' Y:Nd} {l:dK} {p:dB} {G G':Nat->Gh} {g g':Gh} {b b':bn} {rs us:List dD} {V:Nat->bn} {P:Nat->Option dB} {U:Nat->Bool} {Lt:dK->Prop} {pl:Pl} {sh:Nat->Int×Int} {sv:List fD}
theorem Inv.top (I:Inv g V P U Lt pl sh sv) (hn:n<5) (hr:(V n).role=1\/(V n).role=2\/(V n).role=3) (he:(g.m:Int)<=(V n).ep):n=g.o:=by
 by_cases e:n=g.o
 ·exact e
 rcases I.sj n hn e with ⟨h5,_⟩ | ⟨k,k1,k2,k3,k4,_⟩ | ⟨k,k1,_⟩
 ·omega
 ·omega
 omega
theorem xS (I:QI m q g) (I':QI m' q g') (N:lq g g') (hn:n<5) (hV:vw m' q=upd (vw m q) n b')
  (h1:n=g.o->b'.ep=(vw m q n).ep/\b'.tg=(vw m q n).tg/\(b'.role=1↔(vw m q n).role=1)/\b'.evs.length<=(vw m q n).evs.length+d)
  (h2:n≠g.o->b'.role=0\/b'.role=4\/(b'.role=3/\b'.ep<g.m)\/(b'.role=1/\b'.ep=(g.m:Int)+1/\(vw m q g.o).role=3/\(vw m q g.o).tg=n/\b'.evs.length=g.G.length+1)):
  sM (CG m q g) (CG m' q g')/\g'.G.length+(CG m' q g').R<=g.G.length+(CG m q g).R+d:=by
 have o5:=I'.o5;have adg:=I'.zW;have adh:=I'.Ga;have aiC:=I'.arl;have hm:=N.m;have keep:g'.o≠n->g'.o=g.o:=λe=>by
  rw [hV,upd_ne e] at adg aiC;exact I.top o5 aiC oQ
 have anp:g'.o=g.o->(vw m' q g.o).ep=g.m->g'.m=g.m:=λe h=>by
  rw [e] at adg;have:=adg.symm.trans h;omega
 by_cases c:n=g.o
 ·obtain ⟨a1,a2,a3,a4⟩:=h1 c;subst c;have eV:vw m' q g.o=b':=by rw [hV,upd_same]
  have eo:g'.o=g.o:=by
   by_cases e:g'.o=g.o
   ·exact e
   exact keep e
  have em:=anp eo (by rw [eV,a1];exact I.zW);have hG:g'.G.length=b'.evs.length:=by rw [<-adh,eo,eV]
  have hG0:g.G.length=(vw m q g.o).evs.length:=by rw [I.Ga]
  have hR:(CG m' q g').R=(CG m q g).R:=by
   unfold CG;dsimp only;rw [eo,eV];by_cases c1:(vw m q g.o).role=1
   ·rw [if_pos c1,if_pos (a3.2 c1)]
   rw [if_neg c1,if_neg (λh=>c1 (a3.1 h))]
  refine ⟨.inl ⟨em,N.own,hR,?_⟩,by omega⟩
  show (vw m' q g'.o).tg=(vw m q g.o).tg
  rw [eo,eV,a2]
 have eVo:vw m' q g.o=vw m q g.o:=by rw [hV,upd_ne (λe=>c e.symm)]
 by_cases e:g'.o=n
 ·rw [e] at adg adh aiC;rw [hV,upd_same] at adg adh aiC
  rcases h2 c with h | h | ⟨_,h⟩ | ⟨k1,k2,k3,k4,k5⟩
  ·omega
  ·omega
  ·omega
  have em:g'.m=g.m+1:=oQ;have hR:(CG m q g).R=1:=if_neg oQ;have hR':(CG m' q g').R=0:=if_pos (by rw [e,hV,upd_same];exact k1);have hG:g'.G.length=g.G.length+1:=by rw [<-adh,k5]
  refine ⟨.inr ⟨em,N.own,?_,hR,hR'⟩,by omega⟩
  show ((g'.own (g.m+1):Nat):Int)=(vw m q g.o).tg
  rw [k4,<-em];exact congrArg Int.ofNat e
 have eo:=keep e;have em:=anp eo (by rw [eVo];exact I.zW);have hR:(CG m' q g').R=(CG m q g).R:=by unfold CG;dsimp only;rw [eo,eVo]
 have hG:g'.G.length=g.G.length:=by rw [<-adh,eo,eVo,I.Ga]
 refine ⟨.inl ⟨em,N.own,hR,?_⟩,by omega⟩
 show (vw m' q g'.o).tg=(vw m q g.o).tg
 rw [eo,eVo]
theorem YQ (I:QI m q g) (I':QI m' q g') (N:lq g g') (hn:n<5) (hu:(m.ah n).up=true) (hp:(m.ah n).pend=some p) (hV:vw m' q=upd (vw m q) n (uj (m.ah n) q)):
  sM (CG m q g) (CG m' q g')/\g'.G.length+(CG m' q g').R<=g.G.length+(CG m q g).R+Px (m.ah n).pend:=by
 have hV0:=sV (q:=q) hu;by_cases hq:p.q=q
 ·have hpv:yS m q n=some p:=by unfold yS;rw [hp];exact Xh hq
  obtain ⟨_,hk⟩:=I.nL n hn p hpv;rw [Bz hp hq] at hV;rw [hp]
  cases p with
  | serve k evs op num a=>
   have e:k=q:=hq;subst e;obtain ⟨k1,k2,k3,k4,k5⟩:=hk;refine xS I I' N hn hV (λ_=>?_) λh=>absurd k1 h;rw [hV0];refine ⟨rfl,rfl,Iff.rfl,?_⟩
   show evs.length<=_+1
   rw [k3,List.length_append,<-hV0,k1,I.Ga];exact Nat.le_refl _
  | begun k x=>
   obtain ⟨j,j1,j2,j3,j4,j5⟩:=hk;exact xS I I' N hn hV (λh=>absurd h (I.yF j4)) λ_=> .inr (.inl (by show x.role=4;rw [j1]))
  | got k x last=>
   obtain ⟨k1,k2,k3⟩:=hk;refine xS I I' N hn hV (λh=>absurd h (I.yF (.inr k1))) λ_=>?_
   cases last with
   | true=>
    obtain ⟨a1,a2,a3,a4,a5⟩:=k3 rfl;refine .inr (.inr (.inr ⟨?_,?_,a2,a3,?_⟩))
    ·show x.role=1;rw [a4]
    ·show x.ep=_;rw [a4]
    show x.evs.length=_;rw [a4];show (g.G++[aI]).length=_;simp
   | false=>
    obtain ⟨j,a1,_⟩:=k2 rfl;exact .inr (.inl (by show x.role=4;rw [a1];exact k1))
  | gI k x a=>
   obtain ⟨ho,j1,j2⟩:=hk;refine xS I I' N hn hV (λ_=>?_) λh=>absurd ho h
   show x.ep=_/\x.tg=_/\(x.role=1↔_)/\x.evs.length<=_
   rw [j2];exact ⟨rfl,rfl,by show (3:Int)=1↔_;omega,Nat.le_refl _⟩
  | forget k x=>
   obtain ⟨j1,j2,j3⟩:=hk;exact xS I I' N hn hV (λh=>by have:=I.zW;rw [<-h] at this;omega) λ_=> .inl (by show x.role=0;rw [j2])
 rw [Pw hp hq,<-hV0] at hV;have h:=xS (d:=0) I I' N hn hV (λ_=>⟨rfl,rfl,Iff.rfl,Nat.le_refl _⟩) λh=>by
  rcases I.sj n hn h with ⟨h5,_⟩ | ⟨k,k1,k2,k3,k4,_⟩ | ⟨k,k1,_⟩
  ·exact .inl h5
  ·exact .inr (.inr (.inl ⟨k1,by omega⟩))
  exact .inr (.inl k1)
 exact ⟨h.1,by have:=h.2;omega⟩
theorem alL (hu:(m.ah n).up=true) (hp:(m.ah n).pend=some p) (hpo:p.ok (m.ah n).bs): ∃ new,(m.step n).fly=m.fly++new/\ ∀ x∈new,x.kd≠0/\(x.kd=4->x.q=p.q/\(uj (m.ah n) p.q).role=3/\x.ep=(uj (m.ah n) p.q).ep+1/\x.tg=(uj (m.ah n) p.q).tg):=by
 have one: ∀ {x:dK} {Q:dK->Prop},Q x-> ∀ y∈[x],Q y:=λh y hy=>by rw [List.mem_singleton] at hy;subst hy;exact h
 rw [Bz hp rfl]
 cases p with
 | serve k evs op num a=>
  rw [lg rfl hu hp rfl hpo.1];exact ⟨_,rfl,one ⟨by show (1:Int)≠0;decide,λh=>absurd (show (1:Int)=4 from h) dQ⟩⟩
 | begun k b=>
  rw [rG rfl hu hp];exact ⟨_,rfl,one ⟨by show (3:Int)≠0;decide,λh=>absurd (show (3:Int)=4 from h) dQ⟩⟩
 | got k b last=>
  cases last with
  | true=>
   rw [mF rfl hu hp];exact ⟨[],by rw [List.append_nil];rfl,λx hx=>by cases hx⟩
  | false=>
   rw [xM rfl hu hp];exact ⟨_,rfl,one ⟨by show (3:Int)≠0;decide,λh=>absurd (show (3:Int)=4 from h) dQ⟩⟩
 | gI k b at_=>
  rw [uP rfl hu hp];obtain ⟨h1,h2⟩:=hpo;dsimp only [dB.q,dB.b];unfold kZ
  split
  ·exact ⟨[],by rw [List.append_nil],λx hx=>by cases hx⟩
  exact ⟨_,rfl,one ⟨by show (4:Int)≠0;decide,λ_=>⟨rfl,by rw [h2],rfl,rfl⟩⟩⟩
 | forget k b=>
  rw [pK rfl hu hp];exact ⟨[],by rw [List.append_nil];rfl,λx hx=>by cases hx⟩
theorem alM {T S D K:Nat} (R:Rm m G B) (hb:dM m T S D K) (hn:n<5) (hp:(m.ah n).pend=some p): ∃ G',Rm (m.step n) G' B/\ ∀ q,q<2->sM (FF m G q) (FF (m.step n) G' q):=by
 have hu:=R.up n hn;obtain ⟨rs,us,hU⟩:=(hb.kr n hn).Cx hu;obtain ⟨h1,h2,h3⟩:=hU.O4 p hp;obtain ⟨_,hf⟩:=kT hU.tape hU.mP h2 h3;obtain ⟨Y,y1,y2,y3,y4,y5,y6,y7,y8,y9,_⟩:=Ph rfl hu hp h3 hf h2;obtain ⟨G',hG'⟩:=Xm (Q:=λq g'=>QI (m.step n) q g'/\lq (G q) g') λq hq=>by
  obtain ⟨g',k1,k2,_⟩:=TV (R.qi q hq) hn rfl hu hp h2;exact ⟨g',k1,k2⟩
 have eY:(m.step n).ah n=Y:=by rw [y1,upd_same]
 have hvY: ∀ q,Y.bs q=uj (m.ah n) q:=λq=>by
  rw [y2];by_cases e:q=p.q
  ·subst e;rw [upd_same,Bz hp rfl]
  rw [upd_ne e,Pw hp (λh=>e h.symm)]
 have hV: ∀ q,vw (m.step n) q=upd (vw m q) n (uj (m.ah n) q):=λq=>by rw [qD y1,dU y6,hvY]
 have hgh: ∀ q,q<2->sM (FF m G q) (FF (m.step n) G' q)/\_:=λq hq=>YQ (R.qi q hq) (hG' q hq).1 (hG' q hq).2 hn hu hp (hV q);have hF:=λq hq=>(hgh q hq).1;obtain ⟨new,hfl,hnew⟩:=alL hu hp h2;have hpq:=R.vd.nL n hn p hp;have hoth: ∀ j,j≠n->(m.step n).ah j=m.ah j:=λj hj=>by rw [y1,upd_ne hj]
 have ava:((m.step n).ah n).inbox=(m.ah n).inbox:=by rw [eY,y7]
 refine ⟨G',⟨λj hj=>?_,aal R.vd hb hn,λq hq=>(hG' q hq).1,?_,λq hq=>?_⟩,hF⟩
 ·by_cases e:j=n
  ·rw [e,eY];exact y6
  rw [hoth j e];exact R.up j hj
 ·refine KL (c:=0) R.vd R.Na hn hoth ava hfl hF (λx hx=>?_) ?_
  ·obtain ⟨k1,k2⟩:=hnew x hx;refine ad9 k1 λh4=>?_;obtain ⟨k5,k6,k7,k8⟩:=k2 h4;rw [k5];have hVn:vw (m.step n) p.q n=uj (m.ah n) p.q:=by rw [hV,upd_same]
   exact Pz (hG' _ hpq).1 hn (by rw [hVn];exact .inr k6) (by rw [hVn];exact k7) (by rw [hVn];exact k8)
  have e0: ∀ q,uj ((m.step n).ah n) q=uj (m.ah n) q:=λq=>by rw [eY,Bw y5,hvY]
  rw [e0,e0,eY,y3];exact Nat.le_refl _
 have hc:=R.cap q hq;have h4:=(hgh q hq).2;have hw:(m.step n).ws qG+0<=m.ws qG:=Py hn hoth ava hfl λx hx=>Wi (hnew x hx).1;have:=aea (d:=0) (d':=Px (m.ah n).pend) hn hoth hw (by rw [eY,y5];show 0+_<=_;omega)
 show (G' q).G.length+(m.step n).c0+0+(CG (m.step n) q (G' q)).R<=300
 have hc':(G q).G.length+m.c0+0+(CG m q (G q)).R<=300:=hc;omega
theorem alN (R:Rm m G B) (hn:n<5): ∃ G',Rm (m.wY n) G' B/\ ∀ q,q<2->FF (m.wY n) G' q=FF m G q:=by
 have hu:=R.up n hn;have dH:(m.wY n).ah=upd m.ah n { m.ah n with turn:=(m.ah n).turn+1 }:=rfl;have eY:(m.wY n).ah n={ m.ah n with turn:=(m.ah n).turn+1 }:=by rw [dH,upd_same]
 have hoth: ∀ j,j≠n->(m.wY n).ah j=m.ah j:=λj hj=>by rw [dH,upd_ne hj]
 have hl:=λq hq=>TU (R.qi q hq) hn hu;have hF: ∀ q,q<2->FF (m.wY n) G q=FF m G q:=λq hq=>PD (.refl _) (by rw [(hl q hq).2]) (by rw [(hl q hq).2]);have hnew: ∀ x∈iN n ((m.ah n).turn % 4) ((m.ah n).bs ((m.ah n).turn % 4)) ((m.ah n).sure ((m.ah n).turn % 4)),x.kd≠0/\x.kd≠4:=by
  intro x hx;unfold iN at hx;have two:(2:Int)≠0/\(2:Int)≠4:=by decide
  have five:(5:Int)≠0/\(5:Int)≠4:=by decide
  rcases List.mem_append.1 hx with hx | hx
  ·rcases List.mem_append.1 hx with hx | hx
   ·split at hx
    ·rw [List.mem_singleton] at hx;subst hx;exact two
    simp at hx
   split at hx
   ·rw [List.mem_singleton] at hx;subst hx;exact five
   simp at hx
  split at hx
  ·rw [List.mem_singleton] at hx;subst hx;exact five
  simp at hx
 refine ⟨G,⟨λj hj=>?_,aak R.vd hn hu,λq hq=>(hl q hq).1,?_,λq hq=>?_⟩,hF⟩
 ·by_cases e:j=n
  ·rw [e,eY];exact hu
  rw [hoth j e];exact R.up j hj
 ·refine KL (c:=0) (G:=G) (G':=G) R.vd R.Na hn hoth (by rw [eY]) rfl (λq hq=>by rw [hF q hq];exact .refl _) (λx hx=>ad9 (hnew x hx).1 λh=>absurd h (hnew x hx).2) ?_;rw [eY];exact Nat.le_refl _
 have hc:=R.cap q hq;have hw:(m.wY n).ws qG+0<=m.ws qG:=Py hn hoth (by rw [eY]) rfl λx hx=>Wi (hnew x hx).1;have:=aea (d:=0) (d':=0) hn hoth hw (by rw [eY];exact Nat.le_refl _);rw [hF q hq];omega
theorem alO {T S D K:Nat} (R:Rm m G B) (hB:B+46<=100000) (hb:dM m T S D K) (hn:n<5): ∃ G',Rm (m.step n) G' B/\ ∀ q,q<2->sM (FF m G q) (FF (m.step n) G' q):=by
 have hu:=R.up n hn;obtain ⟨rs,us,hU⟩:=(hb.kr n hn).Cx hu
 cases hp:(m.ah n).pend with
 | some p=>exact alM R hb hn hp
 | none=>
  have key:=Bt (n:=n) (λw=>Rdg m n rs w/\ ∃ G1,Rm w G1 B/\ ∀ q,q<2->FF w G1 q=FF m G q) (λw l r ⟨H,G1,R1,F1⟩ hp1 hin=>by
   obtain ⟨h1,h2,h3,h4⟩:=Bu (λl hl=>uV (hb.lC n hn l hl)) H hp1 hin;have hl0:l∈(w.ah n).inbox:=by rw [hin];simp
   obtain ⟨b1,b2⟩:=hb.lC n hn l (H.lC l hl0);have hlq:=R1.vd.lC n hn l hl0;have dH:(w.put n ((w.ah n).box r)).ah=upd w.ah n ((w.ah n).box r):=rfl;have e0:(w.put n ((w.ah n).box r)).ah n=(w.ah n).box r:=dw _;have hoth: ∀ j,j≠n->(w.put n ((w.ah n).box r)).ah j=w.ah j:=λj hj=>upd_ne hj;have hvw: ∀ q,vw (w.put n ((w.ah n).box r)) q=vw w q:=λq=>mX dH rfl;have hF1:FF (w.put n ((w.ah n).box r)) G1=FF w G1:=by funext q;exact PD (.refl _) (by rw [hvw]) (by rw [hvw])
   have hws: ∀ f:dK->Nat,(w.put n ((w.ah n).box r)).ws f+f l<=w.ws f:=λf=>ad8 hn (λj hj=>by rw [hoth j hj]) (by
    rw [e0,hin]
    show jK f w.fly+jK f r+f l<=jK f w.fly+(f l+jK f r)
    omega)
   have R2:Rmc (w.put n ((w.ah n).box r)) G1 B (xw (FF (w.put n ((w.ah n).box r)) G1) l) (qG l):=by
    refine ⟨λj hj=>?_,R1.vd.at_ (n:=n) (X:=(w.ah n).box r) rfl (λq h7 h8=>R1.vd.rol n hn q h7 h8) (R1.vd.nL n hn) (λx hx=>R1.vd.lC n hn x (by rw [hin];exact List.mem_cons_of_mem _ hx)) (λx hx=> .inl hx),λq hq=>?_,λj hj=>?_,λq hq=>?_⟩
    ·by_cases e:j=n
     ·rw [e,e0];exact R1.up n hn
     rw [hoth j e];exact R1.up j hj
    ·exact (R1.qi q hq).far hn dH rfl rfl rfl (λx hx=>by rw [hin];exact List.mem_cons_of_mem _ hx) (λx hx=> .inl hx) rfl rfl rfl
    ·have h5:=R1.Na j hj;have h6:=hws (xw (FF w G1));unfold Na at h5⊢;rw [hF1];by_cases e:j=n
     ·rw [e] at h5⊢;rw [e0];have e1: ∀ q,uj ((w.ah n).box r) q=uj (w.ah n) q:=λ_=>rfl;have e2:((w.ah n).box r).data=(w.ah n).data:=rfl;rw [e1,e1,e2];omega
     rw [hoth j e];omega
    have h5:=R1.cap q hq;have h6:=aea (d:=qG l) (d':=qG l) hn hoth (hws qG) (by rw [e0];show Px (w.ah n).pend+_<=_;omega);rw [hF1];omega
   obtain ⟨G2,R3,F2⟩:=asl R2 hB hn h2 (by rw [e0];exact hp1) (λq hq aC1=>by rw [hvw];exact (R1.qi q hq).qC l ⟨aC1,.inr ⟨n,hn,hl0⟩⟩) b2 b1.2.1 b1.2.2.2 hlq (vo h1.1) h3;exact ⟨h1.1,h4,G2,R3,λq hq=>by rw [F2 q hq,hF1];exact F1 q hq⟩) _ m rfl ⟨RL hu ⟨_,hU⟩,G,R,λ_ _=>rfl⟩
  obtain ⟨H1,G1,R1,F1⟩:=key;rw [nM hu hp]
  split
  ·obtain ⟨G2,R2,F2⟩:=alN R1 hn;exact ⟨G2,R2,λq hq=>by rw [F2 q hq,F1 q hq];exact .refl _⟩
  exact ⟨G1,R1,λq hq=>by rw [F1 q hq];exact .refl _⟩
theorem alP (m:Cl) (l:dK) (j:Nat): ∃ ib,(m.come l).ah j={ m.ah j with inbox:=ib }:=by
 unfold Cl.come
 split
 ·exact ⟨_,rfl⟩
 split
 ·split<;>exact ⟨_,rfl⟩
 split
 ·by_cases e:j=l.tg.toNat
  ·subst e;exact ⟨_,dw _⟩
  exact ⟨(m.ah j).inbox,upd_ne e⟩
 exact ⟨_,rfl⟩
theorem Ug: ∀ (ls:List dK) (m:Cl) (j:Nat),∃ ib,(ls.foldl Cl.come m).ah j={ m.ah j with inbox:=ib }
 | [],m,j=>⟨_,rfl⟩
 | l::ls,m,j=>by
  obtain ⟨i1,e1⟩:=Ug ls (m.come l) j;obtain ⟨i2,e2⟩:=alP m l j;refine ⟨i1,?_⟩;rw [List.foldl_cons,e1,e2]
theorem Wj (m:Cl) (j:Nat): ∃ ib,m.all.ah j={ m.ah j with inbox:=ib }:=Ug m.fly { m with fly:=[] } j
theorem asn {T S D K:Nat} (R:Rm m G B) (hb:dM m T S D K):Rm m.all G B/\ ∀ q,q<2->FF m.all G q=FF m G q:=by
 have hl:=λq (hq:q<2)=>aac (R.qi q hq) hb.qC oQ;have hF: ∀ q,q<2->FF m.all G q=FF m G q:=λq hq=>PD (.refl _) (by rw [(hl q hq).2]) (by rw [(hl q hq).2]);have hsp: ∀ j,(m.all.ah j).pend=(m.ah j).pend:=λj=>by obtain ⟨ib,e⟩:=Wj m j;rw [e]
 refine ⟨⟨λj hj=>?_,Pv R.vd hb.qC,λq hq=>(hl q hq).1,λj hj=>?_,λq hq=>?_⟩,hF⟩
 ·obtain ⟨ib,e⟩:=Wj m j;rw [e];exact R.up j hj
 ·have h1:=R.Na j hj;have h2:m.all.ws (xw (FF m.all G))<=m.all.ws (xw (FF m G)):=ano (λx hx=>(by rw [hF _ ((Pv R.vd hb.qC).fly x hx)];exact .refl _:sM (FF m G x.q) (FF m.all G x.q)).lw) λi hi x hx=>(by rw [hF _ ((Pv R.vd hb.qC).lC i hi x hx)];exact .refl _:sM (FF m G x.q) (FF m.all G x.q)).lw;have h3:m.all.ws (xw (FF m G))<=m.ws (xw (FF m G)):=afz aw8 hb.qC;obtain ⟨ib,e⟩:=Wj m j;unfold Na at h1⊢;rw [hF 0 dQ,hF 1 dQ,e];have e1: ∀ q,uj { m.ah j with inbox:=ib } q=uj (m.ah j) q:=λ_=>rfl;rw [e1,e1];dsimp only;omega
 have h1:=R.cap q hq;have h3:m.all.ws qG<=m.ws qG:=afz ash hb.qC;have:m.all.c0<=m.c0:=by
  unfold Cl.c0;rw [hsp,hsp,hsp,hsp,hsp];omega
 rw [hF q hq];omega
def Wm (a:Ac):Prop:=a.kd=3\/a.kd=7
theorem aso {k:Nat} {a:Ac} (R:Rm m G B) (hB:B+46<=100000) (hb:Bs m k) (ha:zF a) (h:Wm a): ∃ G',Rm (m.act a) G' B/\ ∀ q,q<2->sM (FF m G q) (FF (m.act a) G' q):=by
 obtain ⟨a1,a2,a3,a4,a5,a6⟩:=ha;unfold Cl.act
 rcases h with h | h
 ·rw [if_neg oQ,if_neg oQ,if_pos h];exact alO R hB hb oQ
 rw [if_neg oQ,if_neg oQ,if_neg oQ,if_neg oQ,if_pos h];obtain ⟨h1,h2⟩:=asn R hb;exact ⟨G,h1,λq hq=>by rw [h2 q hq];exact .refl _⟩
theorem afB: ∀ (l:List Ac) {m:Cl} {G:Nat->Gh} {k:Nat},Rm m G B->B+46<=100000->Bs m k->(∀ a∈l,zF a/\Wm a)->k+l.length<=100000-> ∃ G',Rm (m.run l) G' B/\Bs (m.run l) (k+l.length)/\ ∀ q,q<2->sM (FF m G q) (FF (m.run l) G' q)
 | [],m,G,k,R,_,hb,_,_=>⟨G,R,hb,λ_ _=> .refl _⟩
 | a::l,m,G,k,R,hB,hb,ha,hk=>by
  rw [List.length_cons] at hk;obtain ⟨a1,a2⟩:=ha a List.mem_cons_self;obtain ⟨G1,R1,F1⟩:=aso R hB hb a1 a2;obtain ⟨G2,R2,b2,F2⟩:=afB l R1 hB (yE hb a1 oQ) (λx hx=>ha x (List.mem_cons_of_mem _ hx)) oQ;rw [List.length_cons,show k+(l.length+1)=k+1+l.length by omega];exact ⟨G2,R2,b2,λq hq=>(F1 q hq).trans (F2 q hq)⟩
end
theorem CJ {n q k p i b he hn:Int} (h1:0<=n/\n<3) (h2:0<=q/\q<2) (hk:(k=1/\0<=p/\p<2/\0<=i/\i<24/\0<=b/\b<1000/\he=0/\hn=0)\/(k=2/\p=0/\i=0/\b=0/\he=0/\hn=0)\/(k=3/\p=0/\i=0/\b=0/\0<=he/\he<3/\0<=hn/\hn<6)):bY ⟨2,n,q,0,0,k,p,i,b,he,hn⟩=0:=by
 rcases hk with ⟨rfl,h3,h4,h5,h6,h7,h8,rfl,rfl⟩ | ⟨rfl,rfl,rfl,rfl,rfl,rfl⟩ | ⟨rfl,rfl,rfl,rfl,h3,h4,h5,h6⟩
 all_goals
  simp [bY,bP,Oi,Ac.get,Ac.ints,fin,zL,zeros];omega
theorem alQ {k a b c:Int} (n q:Int) (h1:0<=n/\n<3) (h2:0<=q/\q<2):bY ⟨2,n,q,0,0,if (ni k a b c).kind=4 then 2 else (ni k a b c).kind,(ni k a b c).producer,(ni k a b c).id,(ni k a b c).body,(ni k a b c).aG,(ni k a b c).hno⟩=0:=by
 have p1:=og (n:=a) (m:=2) dQ;have p2:=og (n:=b) (m:=24) dQ;have p3:=og (n:=c) (m:=1000) dQ;have p4:=og (n:=a) (m:=3) dQ;have p5:=og (n:=b) (m:=6) dQ;unfold ni
 split
 ·exact CJ h1 h2 (.inl ⟨rfl,p1.1,p1.2,p2.1,p2.2,p3.1,p3.2,rfl,rfl⟩)
 split
 ·exact CJ h1 h2 (.inr (.inl ⟨rfl,rfl,rfl,rfl,rfl,rfl⟩))
 split
 ·exact CJ h1 h2 (.inr (.inr ⟨rfl,rfl,rfl,rfl,p4.1,p4.2,p5.1,p5.2⟩))
 exact CJ h1 h2 (.inr (.inl ⟨rfl,rfl,rfl,rfl,rfl,rfl⟩))
theorem Wn (g:Gr) (cr:Bool):bY (fM g cr)=0/\(fM g cr).kd≠1:=by
 have p1:=og (n:=g.a) (m:=3) dQ;have p2:=og (n:=g.b) (m:=2) dQ;have p3:=og (n:=g.c) (m:=20) dQ;have p4:=og (n:=g.c) (m:=120) dQ;unfold fM
 split
 ·exact ⟨alQ _ _ p1 p2,by unfold RG;dsimp only;omega⟩
 repeat' split
 all_goals
  refine ⟨?_,by dsimp only;omega⟩;simp [bY,bP,Oi,Ac.get,Ac.ints,fin,zL,zeros]
  try omega
theorem ahs: ∀ a∈mks,bY a=0:=by
 intro a ha;simp only [mks,List.mem_cons,List.not_mem_nil,or_false] at ha
 rcases ha with rfl | rfl<;>rfl
theorem Vu (gs:List Gr) (m:Nat) (cr:Bool): ∀ a∈cK gs m cr,bY a=0:=by
 intro a ha
 rcases List.mem_append.1 ha with h | h
 ·exact ahs a h
 obtain ⟨g,_,rfl⟩:=List.mem_map.1 h;exact (Wn g cr).1
theorem CO (gs:List Gr) (m:Nat) (cr:Bool):(cK gs m cr).length<=2+m:=by
 unfold cK mks;simp;omega
theorem FH {k:Int} {n:Nat} (h:(k=9\/k=3)/\n<5\/k=7/\n=0):bY (TL k (n:Int))=0/\(TL k (n:Int)).kd≠1:=by
 rcases h with ⟨h1,h⟩ | ⟨rfl,rfl⟩
 ·have:n=0\/n=1\/n=2\/n=3\/n=4:=oQ
  rcases h1 with rfl | rfl<;>rcases this with rfl | rfl | rfl | rfl | rfl<;>exact ⟨rfl,by show (_:Int)≠1;decide⟩
 exact ⟨rfl,by show (7:Int)≠1;decide⟩
theorem Hl: ∀ (r:Nat),∀ a∈xg r,bY a=0/\a.kd≠1
 | 0,a,h=>by cases h
 | r+1,a,h=>by
  rw [G9] at h
  rcases List.mem_append.1 h with h | h
  ·rcases List.mem_append.1 h with h | h
   ·exact Hl r a h
   obtain ⟨n,hn,rfl⟩:=List.mem_map.1 h;exact FH (.inl ⟨.inr rfl,List.mem_range.1 hn⟩)
  rw [List.mem_singleton] at h;subst h;exact FH (n:=0) (.inr ⟨rfl,rfl⟩)
theorem adi (r:Nat): ∀ a∈starts 5++xg r,bY a=0/\a.kd≠1:=by
 intro a h
 rcases List.mem_append.1 h with h | h
 ·obtain ⟨n,hn,rfl⟩:=List.mem_map.1 h;exact FH (.inl ⟨.inl rfl,List.mem_range.1 hn⟩)
 exact Hl r a h
theorem adk (gs:List Gr) (m:Nat) (cr:Bool) (r:Nat): ∀ a∈kE (cK gs m cr) r,bY a=0:=by
 intro a h;unfold kE at h;rw [List.append_assoc] at h
 rcases List.mem_append.1 h with h | h
 ·exact Vu gs m cr a h
 exact (adi r a h).1
theorem alR (gs:List Gr) (m:Nat) (cr:Bool) (r:Nat):(kE (cK gs m cr) r).length<=7+m+6*r:=by
 have:=CO gs m cr;rw [TM];omega
end Go.Proofs.YtlfgjcahpppbbaaGreatDoor
