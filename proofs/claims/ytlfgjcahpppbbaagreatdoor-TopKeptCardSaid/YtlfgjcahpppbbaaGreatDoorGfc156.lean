import Derived.Test.YtlfgjcahpppbbaaGreatDoorGd9fc7
set_option maxRecDepth 100000
set_option maxHeartbeats 8000000
set_option linter.unusedSimpArgs false
set_option linter.unusedVariables false
namespace Go.Proofs.YtlfgjcahpppbbaaGreatDoor
section
open ChangeShapes WideShapes RowKit
theorem qm: ∀ {rs:List dD} {l:List UInt8} {s:Int} {d:List UInt8},eZ l s rs=some d->d=l++bG rs/\(∀ r∈rs,aJ r=0)/\(l.length<=100000->d.length<=100000)
 | [],l,s,d,h=>by
  cases h;exact ⟨by simp [bG],λr hr=>by simp at hr,λh=>h⟩
 | r::rs,l,s,d,h=>by
  rw [eZ] at h
  split at h
  ·cases h
  rename_i h1
  obtain ⟨h2,h3,h4⟩:=OH (Classical.not_not.1 h1);rw [h2] at h;obtain ⟨h5,h6,h7⟩:=qm h;refine ⟨by rw [h5];simp [bG,List.flatMap_cons],λx hx=>?_,λhl=>h7 (by rw [List.length_append];omega)⟩
  rcases List.mem_cons.1 hx with rfl | hx
  ·exact h3
  exact h6 x hx
theorem zD: ∀ {rs:List dD} {l:List UInt8} {s:Int},(∀ r∈rs,aJ r=0)->0<=s->s<=l.length->l.length+46*rs.length<=100000->eZ l s rs=some (l++bG rs)
 | [],l,s,_,_,_,_=>by simp [eZ,bG]
 | r::rs,l,s,h,h0,h1,h2=>by
  rw [List.length_cons] at h2;have hw:=agP (h r iQ) h0 h1 oQ;have:=Bj r;rw [eZ,hw,if_neg iQ,zD (λx hx=>h x (by simp [hx])) h0 (by rw [List.length_append];omega) (by rw [List.length_append];omega)];simp [bG,List.flatMap_cons]
theorem aln {Q:Qd} {e:Ev} (h:(iw Q e).2.2.1=true):(iw Q e).2.2.2=0:=by
 unfold iw at h⊢
 split at h
 ·cases h
 rename_i h1
 rw [if_neg h1]
 split at h
 ·cases h
 rename_i h2;rw [if_neg h2]
theorem alo {Q:Qd} {e:Ev} (h:(iw Q e).2.2.2=0):aX e=0:=by
 unfold iw at h
 split at h
 ·rename_i h1;exact absurd h h1
 split at h
 ·rename_i h2;exact absurd h h2
 rename_i h2;exact Classical.not_not.1 h2
theorem Ky: ∀ {n:Nat} {l:List Ev},l.length=n->good l-> ∀ e∈l,aX e=0
 | 0,l,hn,_,e,he=>by rw [List.length_eq_zero_iff.1 hn] at he;simp at he
 | n+1,l,hn,h,e,he=>by
  have e1:l=l.take n++[l[n]]:=by rw [<-nK oQ,<-hn,List.take_length]
  have h':good (l.take n++[l[n]]):=e1▸h;rw [e1] at he
  rcases List.mem_append.1 he with he | he
  ·exact Ky (n:=n) (by rw [List.length_take];omega) (pE h) e he
  rw [List.mem_singleton] at he;rw [he];exact alo (good_step h').1
section
variable {b:bn} {e:Ev}
theorem Yz (h: ¬ (gP b e).2.2.1=false):au b=0/\aX e=0/\serves b/\(iw (av b.evs).1 e).2.2.1=true/\b.evs.length<1999/\e.kind≠4/\gP b e=({ b with evs:=b.evs++[e] },(iw (av b.evs).1 e).2.1,true,0):=by
 unfold gP at h⊢;by_cases c1:au b≠0
 ·rw [if_pos c1] at h;exact absurd rfl h
 rw [if_neg c1] at h⊢;by_cases c2:aX e≠0
 ·rw [if_pos c2] at h;exact absurd rfl h
 rw [if_neg c2] at h⊢;by_cases c3:e.kind=4
 ·rw [if_pos c3] at h;exact absurd rfl h
 rw [if_neg c3] at h⊢;by_cases c4:b.role=3
 ·rw [if_pos c4] at h;exact absurd rfl h
 rw [if_neg c4] at h⊢;by_cases c5:b.role≠1/\b.role≠2
 ·rw [if_pos c5] at h;exact absurd rfl h
 rw [if_neg c5] at h⊢;by_cases c6:(iw (av b.evs).1 e).2.2.1=false
 ·rw [if_pos c6] at h;exact absurd rfl h
 rw [if_neg c6] at h⊢;by_cases c7:1999<=b.evs.length
 ·rw [if_pos c7] at h;exact absurd rfl h
 rw [if_neg c7];exact ⟨Classical.not_not.1 c1,Classical.not_not.1 c2,by unfold serves;omega,by simpa using c6,by omega,c3,rfl⟩
theorem ag5 {ep fr:Int} (h: ¬ (dG b ep fr).2≠0) (h2: ¬ (dG b ep fr).1.ep=b.ep):(b.role=0\/b.role=4)/\b.ep<ep/\1<=ep/\ep<=1048576/\0<=fr/\fr<=4/\dG b ep fr=(⟨4,ep,fr,0,0,[]⟩,0):=by
 unfold dG at h h2⊢;by_cases c1:au b≠0
 ·rw [if_pos c1] at h;exact absurd c1 h
 rw [if_neg c1] at h h2⊢;by_cases c2: ¬ (1<=ep/\ep<=1048576/\0<=fr/\fr<=4)
 ·rw [if_pos c2] at h;exact absurd dQ h
 rw [if_neg c2] at h h2⊢;by_cases c3:b.role≠0/\b.role≠4
 ·rw [if_pos c3] at h;exact absurd dQ h
 rw [if_neg c3] at h h2⊢;by_cases c4:b.role=4/\b.ep=ep/\b.fr=fr
 ·rw [if_pos c4] at h2;exact absurd rfl h2
 rw [if_neg c4] at h h2⊢;by_cases c5:ep<=b.ep
 ·rw [if_pos c5] at h;exact absurd dQ h
 rw [if_neg c5];have c2':=Classical.not_not.1 c2;exact ⟨by omega,by omega,c2'.1,c2'.2.1,c2'.2.2.1,c2'.2.2.2,rfl⟩
theorem YA {ep fr:Int} (h: ¬ (dG b ep fr).2≠0) (h2:(dG b ep fr).1.ep=b.ep):b.role=4/\b.ep=ep/\b.fr=fr:=by
 unfold dG at h h2;by_cases c1:au b≠0
 ·rw [if_pos c1] at h;exact absurd c1 h
 rw [if_neg c1] at h h2;by_cases c2: ¬ (1<=ep/\ep<=1048576/\0<=fr/\fr<=4)
 ·rw [if_pos c2] at h;exact absurd dQ h
 rw [if_neg c2] at h h2;by_cases c3:b.role≠0/\b.role≠4
 ·rw [if_pos c3] at h;exact absurd dQ h
 rw [if_neg c3] at h h2;by_cases c4:b.role=4/\b.ep=ep/\b.fr=fr
 ·exact c4
 rw [if_neg c4] at h h2;by_cases c5:ep<=b.ep
 ·rw [if_pos c5] at h;exact absurd dQ h
 rw [if_neg c5] at h2;exact absurd (show ep=b.ep from h2) oQ
def Js (b:bn) (at_:Int) (l:List Ev):List Ev:=b.evs++l.drop (b.evs.length-at_.toNat)
def wZ (b:bn) (at_:Int) (l:List Ev) (last:Bool):bn:=if last=true then ⟨1,b.ep,0,0,0,Js b at_ l++[aI]⟩ else { b with evs:=Js b at_ l }
theorem acv {ep at_:Int} {l:List Ev} {last:Bool} (h: ¬ (dn b ep at_ l last).2≠0):b.role=4/\b.ep=ep/\0<=at_/\at_<=b.evs.length/\(b.evs.drop at_.toNat).take l.length=l.take (b.evs.length-at_.toNat)/\
  (last=true->b.evs.length<=at_.toNat+l.length)/\au (wZ b at_ l last)=0/\dn b ep at_ l last=(wZ b at_ l last,0):=by
 unfold dn at h⊢;by_cases c1:au b≠0
 ·rw [if_pos c1] at h;exact absurd c1 h
 rw [if_neg c1] at h⊢;by_cases c2:b.role≠4
 ·rw [if_pos c2] at h;exact absurd dQ h
 rw [if_neg c2] at h⊢;by_cases c3:b.ep≠ep
 ·rw [if_pos c3] at h;exact absurd dQ h
 rw [if_neg c3] at h⊢;have c3':b.ep=ep:=Classical.not_not.1 c3;subst c3';by_cases c4: ¬ (0<=at_/\at_<=b.evs.length)
 ·rw [if_pos c4] at h;exact absurd dQ h
 rw [if_neg c4] at h⊢;by_cases c5: ¬ (b.evs.drop at_.toNat).take l.length=l.take (b.evs.length-at_.toNat)
 ·rw [if_pos c5] at h;exact absurd dQ h
 rw [if_neg c5] at h⊢;by_cases c6:last=true/\at_.toNat+l.length<b.evs.length
 ·rw [if_pos c6] at h;exact absurd dQ h
 rw [if_neg c6] at h⊢;change ¬ (if au (wZ b at_ l last)≠0 then (bF,(3:Int)) else (wZ b at_ l last,0)).2≠0 at h
 show _/\_/\_/\_/\_/\_/\_/\(if au (wZ b at_ l last)≠0 then (bF,(3:Int)) else (wZ b at_ l last,0))=_
 by_cases c7:au (wZ b at_ l last)≠0
 ·rw [if_pos c7] at h;exact absurd dQ h
 have c4':=Classical.not_not.1 c4;rw [if_neg c7];exact ⟨Classical.not_not.1 c2,rfl,c4'.1,c4'.2,Classical.not_not.1 c5,λhl=>by by_cases h9:at_.toNat+l.length<b.evs.length;exact absurd ⟨hl,h9⟩ c6;omega,Classical.not_not.1 c7,rfl⟩
theorem Rz {hv:Int} (h: ¬ (bK b hv).2≠0):0<=hv/\hv<=b.evs.length/\((b.role=3/\bK b hv=(b,0))\/(b.role=2/\(hv=b.evs.length\/b.rd=4)/\bK b hv=({ b with role:=3,rd:=0 },0))\/(b.role=2/\ ¬ (hv=b.evs.length\/b.rd=4)/\bK b hv=({ b with rd:=b.rd+1 },0))):=by
 unfold bK at h⊢;by_cases c1:au b≠0
 ·rw [if_pos c1] at h;exact absurd c1 h
 rw [if_neg c1] at h⊢;by_cases c2:b.role≠2/\b.role≠3
 ·rw [if_pos c2] at h;exact absurd dQ h
 rw [if_neg c2] at h⊢;by_cases c3: ¬ (0<=hv/\hv<=b.evs.length)
 ·rw [if_pos c3] at h;exact absurd dQ h
 rw [if_neg c3] at h⊢;have c3':=Classical.not_not.1 c3;refine ⟨c3'.1,c3'.2,?_⟩;by_cases c4:b.role=3
 ·rw [if_pos c4];exact .inl ⟨c4,rfl⟩
 rw [if_neg c4];by_cases c5:hv=b.evs.length\/b.rd=4
 ·rw [if_pos c5];exact .inr (.inl ⟨by omega,c5,rfl⟩)
 rw [if_neg c5];exact .inr (.inr ⟨by omega,c5,rfl⟩)
theorem acw {ep:Int} (h: ¬ (fZ b ep).2≠0):b.role=3/\b.ep<ep/\fZ b ep=(⟨0,b.ep,0,0,0,[]⟩,0):=by
 unfold fZ at h⊢;by_cases c1:au b≠0
 ·rw [if_pos c1] at h;exact absurd c1 h
 rw [if_neg c1] at h⊢;by_cases c2:b.role≠3
 ·rw [if_pos c2] at h;exact absurd dQ h
 rw [if_neg c2] at h⊢;by_cases c3:ep<=b.ep
 ·rw [if_pos c3] at h;exact absurd dQ h
 rw [if_neg c3];exact ⟨Classical.not_not.1 c2,by omega,rfl⟩
theorem alp {ep:Int} (h: ¬ (iR b ep).2≠0):b.role=0/\b.ep<ep/\iR b ep=(⟨1,ep,0,0,0,[]⟩,0):=by
 unfold iR at h⊢;by_cases c1:au b≠0
 ·rw [if_pos c1] at h;exact absurd c1 h
 rw [if_neg c1] at h⊢;by_cases c2: ¬ (1<=ep/\ep<=1048576)
 ·rw [if_pos c2] at h;exact absurd dQ h
 rw [if_neg c2] at h⊢;by_cases c3:b.role≠0
 ·rw [if_pos c3] at h;exact absurd dQ h
 rw [if_neg c3] at h⊢;by_cases c4:ep<=b.ep
 ·rw [if_pos c4] at h;exact absurd dQ h
 rw [if_neg c4];exact ⟨Classical.not_not.1 c3,by omega,rfl⟩
theorem go_ok {tg:Int} (h:(zO b tg).2=0):b.role=1/\0<=tg/\tg<=4/\zO b tg=(⟨2,b.ep,0,tg,0,b.evs⟩,0):=by
 unfold zO at h⊢;by_cases c1:au b≠0
 ·rw [if_pos c1] at h;exact absurd h c1
 rw [if_neg c1] at h⊢;by_cases c2: ¬ (0<=tg/\tg<=4)
 ·rw [if_pos c2] at h;exact absurd h dQ
 rw [if_neg c2] at h⊢;by_cases c3:b.role=2\/b.role=3
 ·rw [if_pos c3] at h;exact absurd h dQ
 rw [if_neg c3] at h⊢;by_cases c4:b.role≠1
 ·rw [if_pos c4] at h;exact absurd h dQ
 rw [if_neg c4] at h⊢;by_cases c5:b.ep=1048576
 ·rw [if_pos c5] at h;exact absurd h dQ
 rw [if_neg c5];have c2':=Classical.not_not.1 c2;exact ⟨Classical.not_not.1 c4,c2'.1,c2'.2,rfl⟩
theorem ZX (hr:b.role=1) (h: ¬ (dV b).2≠0):au ⟨1,b.ep,0,0,0,b.evs++[aI]⟩=0/\dV b=(⟨1,b.ep,0,0,0,b.evs++[aI]⟩,0):=by
 unfold dV at h⊢;by_cases c1:au b≠0
 ·rw [if_pos c1] at h;exact absurd c1 h
 rw [if_neg c1] at h⊢;rw [if_neg oQ] at h⊢;by_cases c3:au ⟨1,b.ep,0,0,0,b.evs++[aI]⟩≠0
 ·rw [if_pos c3] at h;exact absurd dQ h
 rw [if_neg c3];exact ⟨Classical.not_not.1 c3,rfl⟩
theorem O1 {hv:Int} (h: ¬ (iK b hv).2.2≠0):(b.role=2\/b.role=3)/\0<=hv/\hv<=b.evs.length/\iK b hv=((b.evs.drop hv.toNat).take 3,decide (b.role=3/\b.evs.length<=hv.toNat+3),0):=by
 unfold iK at h⊢;by_cases c1:au b≠0
 ·rw [if_pos c1] at h;exact absurd c1 h
 rw [if_neg c1] at h⊢;by_cases c2:b.role≠2/\b.role≠3
 ·rw [if_pos c2] at h;exact absurd dQ h
 rw [if_neg c2] at h⊢;by_cases c3: ¬ (0<=hv/\hv<=b.evs.length)
 ·rw [if_pos c3] at h;exact absurd dQ h
 rw [if_neg c3];have c3':=Classical.not_not.1 c3;exact ⟨by omega,c3'.1,c3'.2,rfl⟩
end
structure uN (X:Nd) (rs us:List dD):Prop where
 data:X.data=bG (rs++us)
 syn:X.syn=(bG rs).length
 tape:iJ rs λq=>jV (X.bs q)
 mP: ∀ q,q<4->au (X.bs q)=0
 ZY:X.pend=none->us=[]
 O4: ∀ p,X.pend=some p->us=p.rs X.bs/\p.ok X.bs/\p.q<4
 len:X.data.length<=100000
structure G7 (X:Nd) (rs:List dD) (t:List UInt8) (f:Nat->bn):Prop where
 data:X.data=bG rs++t
 auO:(firstM t).2=0
 tape:iJ rs f
 mP: ∀ q,q<4->au (f q)=0/\(f q).role≠2
 syn:0<=X.syn/\X.syn<=X.data.length
 len:X.data.length<=100000
 nL:X.pend=none
 lC:X.inbox=[]
 bz: ∀ q,q<4->au (X.bs q)=0
theorem Qn:au bF=0:=mE (.inl ⟨rfl,by decide,by decide,rfl,rfl,rfl,rfl⟩) xI
def G8 (X:Nd):Prop:=(X.up=true/\ ∃ rs us,uN X rs us)\/(X.up=false/\ ∃ rs t f,G7 X rs t f)
section
variable {X:Nd} {rs us:List dD} {t:List UInt8} {f:Nat->bn} {q:Nat} {p:dB}
theorem G8.Cx (h:G8 X) (hu:X.up=true): ∃ rs us,uN X rs us:=h.elim (λh=>h.2) λh=>by rw [h.1] at hu;cases hu
theorem G8.auP (h:G8 X) (hu:X.up=false): ∃ rs t f,G7 X rs t f:=h.elim (λh=>by rw [h.1] at hu;cases hu) λh=>h.2
theorem uN.may (h:uN X rs us):cB X.data X.syn=true:=by
 have h1:=h.len;have h2:=h.data;rw [lJ] at h2;have h3:=congrArg List.length h2;rw [List.length_append] at h3;simp only [cB,h.syn,Bool.and_eq_true,decide_eq_true_eq];omega
theorem G7.may (h:G7 X rs t f):cB X.data X.syn=true:=by
 simp only [cB,Bool.and_eq_true,decide_eq_true_eq];exact ⟨⟨h.len,h.syn.1⟩,h.syn.2⟩
theorem G7.rd (h:G7 X rs t f):jr X.data X.syn=(bG rs,min X.syn (bG rs).length,0)/\DC X.data X.syn=some (vB f)/\ ∀ q,q<4->bC X.data X.syn q=f q:=h.tape.read h.data h.auO h.len h.syn.1 h.syn.2
theorem G7.view (h:G7 X rs t f) (hu:X.up=false) (hq:q<4):X.view q=f q:=by
 unfold Nd.view;rw [if_neg (by rw [hu];simp)];exact h.rd.2.2 q hq
theorem dU (hu:X.up=true):X.view=X.bs:=if_pos hu
def MP (bs:Nat->bn) (p:dB) (x:bn):Prop:=
 x=jV (bs p.q)\/x=jV (p.b bs)\/ ∃ q b last j,p= .got q b last/\x={ bs q with evs:=b.evs.take ((bs q).evs.length+j) }/\(bs q).evs.length+j+(if last=true then 1 else 0)<=b.evs.length
theorem Jt {b:bn} (h:b.role=4\/b.role=0\/b.role=3\/b.role=1):jV b=b:=Bn oQ
theorem alq {bs:Nat->bn} {b:bn}:upd (λq=>jV (bs q)) q (jV b)=λk=>jV (upd bs q b k):=by
 funext k
 unfold upd
 split<;>rfl
theorem imports {bs:Nat->bn} {ep:Int} {es:List Ev} (h:iJ rs λq=>jV (bs q)) (hb:au (bs q)=0) (hr:(bs q).role=4) (eF:(bs q).ep=ep) (hq:q<4) (hg:good es) (he:(bs q).evs=es.take (bs q).evs.length):
  ∀ j,(bs q).evs.length+j<=es.length->iJ (rs++((es.drop (bs q).evs.length).take j).map λx=>fG 5 q ep 0 x) (upd (λq=>jV (bs q)) q { bs q with evs:=es.take ((bs q).evs.length+j) })
 | 0,_=>by
  rw [Nat.add_zero,<-he,List.take_zero,List.map_nil,List.append_nil];exact h.congr λk _=>by
   unfold upd
   split
   ·rename_i e;subst e;exact Jt (.inl hr)
   rfl
 | j+1,hj=>by
  have ih:=imports h hb hr eF hq hg he j oQ;have hk:(bs q).evs.length+j<es.length:=oQ;have e1:(es.drop (bs q).evs.length).take (j+1)=(es.drop (bs q).evs.length).take j++[es[(bs q).evs.length+j]]:=by
   rw [nK (by rw [List.length_drop];omega),List.getElem_drop]
  have hg2:good (es.take ((bs q).evs.length+j)++[es[(bs q).evs.length+j]]):=by rw [<-nK hk];exact pE hg
  have hb2:au { bs q with evs:=es.take ((bs q).evs.length+j) }=0:=mE (oK (fI hb) oQ _) (pE hg);obtain ⟨h1,h2,h3⟩:=ab6 (b:={ bs q with evs:=es.take ((bs q).evs.length+j) }) hb2 hr eF hq (Ky rfl hg _ (List.getElem_mem hk)) hg2;rw [e1,List.map_append,<-List.append_assoc];have:=ih.snoc (q:=q) h2 hq rfl (by rw [upd_same];exact h1);refine this.congr λk _=>?_;unfold upd
  split
  ·dsimp only;rw [<-nK hk,Nat.add_assoc]
  rfl
theorem J3 {bs:Nat->bn} {r:dD} {x:bn} (h:iJ rs λq=>jV (bs q)) (hq:q<4) (hr:aJ r=0) (hrq:r.queue=q) (ha:eu (jV (bs q)) r=(jV x,0)):iJ (rs++[r]) λk=>jV (upd bs q x k):=by
 rw [<-alq];exact h.snoc hr hq hrq ha
theorem Cy {bs:Nat->bn} {b:bn} {last:Bool} (hp:(dB.got q b last).ok bs): ∃ es,good es/\(bs q).evs=es.take (bs q).evs.length/\(bs q).evs.length<=es.length/\es=b.evs.take es.length/\es.length+(if last=true then 1 else 0)=b.evs.length/\b.ep=(bs q).ep/\
  (dB.got q b last).rs bs=((es.drop (bs q).evs.length).map λx=>fG 5 q b.ep 0 x)++if last=true then [fG 6 q b.ep 0 aO] else []:=by
 obtain ⟨h1,h2,h3,h4,h5⟩:=hp;have hlen: ∀ {es:List Ev},(bs q).evs=es.take (bs q).evs.length->(bs q).evs.length<=es.length:=λ{es} h=>by
  have:=congrArg List.length h;rw [List.length_take] at this;omega
 cases last with
 | false=>
  obtain ⟨h6,h7⟩:=h4 rfl;refine ⟨b.evs,h2,h7,hlen h7,by rw [List.take_length],by simp,by rw [h6],?_⟩;unfold dB.rs uK;simp
 | true=>
  obtain ⟨es,h6,h7⟩:=h5 rfl;subst h6;refine ⟨es,Tx h2,h7,hlen h7,by simp,by simp,rfl,?_⟩;unfold dB.rs uK;simp
theorem kT (h:iJ rs λq=>jV (X.bs q)) (hb: ∀ q,q<4->au (X.bs q)=0) (hp:p.ok X.bs) (hq:p.q<4):iJ (rs++p.rs X.bs) (λk=>jV (upd X.bs p.q (p.b X.bs) k))/\au (p.b X.bs)=0:=by
 have hbq:=hb _ hq
 cases p with
 | serve q evs op num a=>
  obtain ⟨h1,h2,h3,h4⟩:=hp;have hbq:au (X.bs q)=0:=hbq;have hr:(X.bs q).role≠0:=by unfold serves at h1;omega
  have hb2:au { X.bs q with evs:=evs }=0:=mE (oK (fI hbq) hr _) h4;have hd:=zy h1 hbq;have hd2:jV { X.bs q with evs:=evs }=⟨1,(X.bs q).ep,0,0,0,evs⟩:=zy (b:={ X.bs q with evs:=evs }) h1 hb2;obtain ⟨a1,a2⟩:=TA (b:=jV (X.bs q)) (q:=q) (e:=op) (uL hbq) (by rw [hd]) V3 hq h3 (by rw [alg,<-h2];exact h4);refine ⟨J3 h hq a2 rfl ?_,hb2⟩
  show eu (jV (X.bs q)) (fG 2 q (X.bs q).ep 0 op)=(jV { X.bs q with evs:=evs },0)
  rw [a1,hd2,hd,h2]
 | begun q b=>
  obtain ⟨h1,e,f,rfl,h2,h3,h4,h5,h6⟩:=hp;have hd:jV (X.bs q)=X.bs q:=Jt oQ;obtain ⟨a1,a2⟩:=agS (q:=q) hbq h1 h2 ⟨h3,h4⟩ hq ⟨h5,h6⟩;refine ⟨J3 h hq a2 rfl ?_,mE (.inr ⟨h3,h4,.inr (.inr (.inr ⟨rfl,h5,by show f<5;omega,rfl,rfl⟩))⟩) xI⟩
  show eu (jV (X.bs q)) _=_
  rw [hd];exact a1
 | got q b last=>
  obtain ⟨es,g1,g2,g3,g4,g5,g6,g7⟩:=Cy hp;have hr:(X.bs q).role=4:=hp.1;have hgb:good b.evs:=hp.2.1;have hbq:au (X.bs q)=0:=hbq;have hs:=fI hbq;unfold bq at hs;have hi:=imports h hbq hr g6.symm hq g1 g2 (es.length-(X.bs q).evs.length) oQ;rw [show (X.bs q).evs.length+(es.length-(X.bs q).evs.length)=es.length by omega,List.take_length,List.take_of_length_le (by rw [List.length_drop];omega)] at hi;rw [g7]
  cases last with
  | false=>
   have e1:=(hp.2.2.2.1 rfl).1;have e2:es=b.evs:=by rw [g4];simp only [Bool.false_eq_true,if_false,Nat.add_zero] at g5;rw [g5,List.take_length]
   subst e2;simp only [Bool.false_eq_true,if_false,List.append_nil];have hr0:(X.bs q).role≠0:=by rw [hr];decide
   have hbk:au b=0:=by rw [e1];exact mE (oK (fI hbq) hr0 _) hgb
   refine ⟨hi.congr λk _=>?_,hbk⟩
   show _=jV (upd X.bs q b k)
   unfold upd
   split
   ·rw [<-e1];exact (Jt (.inl (by rw [e1];exact hr))).symm
   rfl
  | true=>
   obtain ⟨es',e1,e2⟩:=hp.2.2.2.2 rfl;have e3:es=es':=by rw [g4,e1];rw [e1] at g5;simp only [if_true,List.length_append,List.length_singleton] at g5;rw [show es.length=es'.length by omega];simp
   subst e3;subst e1;have hr0:(X.bs q).role≠0:=by rw [hr];decide
   have hb2:au { X.bs q with evs:=es }=0:=mE (oK (fI hbq) hr0 _) g1;obtain ⟨a1,a2⟩:=arJ (b:={ X.bs q with evs:=es }) (q:=q) hb2 hr rfl hq hgb;have hk:=mE (b:=⟨1,(X.bs q).ep,0,0,0,es++[aI]⟩) (yB oQ oQ _) hgb;simp only [if_true];rw [<-List.append_assoc];have:=hi.snoc (q:=q) a2 hq rfl (by rw [upd_same];exact a1);refine ⟨this.congr λk _=>?_,hk⟩
   show _=jV (upd X.bs q _ k)
   unfold upd
   split
   ·rfl
   rfl
 | gI q b at_=>
  obtain ⟨h1,rfl⟩:=hp;have hbq:au (X.bs q)=0:=hbq;have hs:=fI hbq;unfold bq at hs;have hd:=zy (.inr h1) hbq;obtain ⟨a1,a2⟩:=alf (b:=jV (X.bs q)) (q:=q) (tg:=(X.bs q).tg) (uL hbq) (by rw [hd]) V3 hq oQ;rw [V3] at a1;have hbk:au { X.bs q with role:=3,rd:=0 }=0:=mE (.inr ⟨by show 1<=(X.bs q).ep;omega,by show (X.bs q).ep<=_;omega,.inr (.inr (.inl ⟨rfl,by show (X.bs q).fr=0;omega,by show 0<=(X.bs q).tg;omega,by show (X.bs q).tg<5;omega,rfl⟩))⟩) (jv (b:=X.bs q) hbq);refine ⟨J3 h hq a2 rfl ?_,hbk⟩
  show eu (jV (X.bs q)) (fG 3 q (X.bs q).ep (X.bs q).tg aO)=(jV { X.bs q with role:=3,rd:=0 },0)
  rw [a1,Jt (b:={ X.bs q with role:=3,rd:=0 }) (.inr (.inr (.inl rfl))),hd]
  show ((⟨3,(X.bs q).ep,0,(X.bs q).tg,0,(X.bs q).evs⟩:bn),(0:Int))=(⟨3,(X.bs q).ep,(X.bs q).fr,(X.bs q).tg,0,(X.bs q).evs⟩,0)
  have:(X.bs q).fr=0:=oQ;rw [this]
 | forget q b=>
  obtain ⟨h1,rfl⟩:=hp;have hbq:au (X.bs q)=0:=hbq;have hs:=fI hbq;unfold bq at hs;obtain ⟨a1,a2⟩:=ab7 (q:=q) hbq h1 rfl hq;refine ⟨J3 h hq a2 rfl ?_,mE (.inl ⟨rfl,by show 0<=(X.bs q).ep;omega,by show (X.bs q).ep<=_;omega,rfl,rfl,rfl,rfl⟩) xI⟩
  show eu (jV (X.bs q)) _=_
  rw [Jt (.inr (.inr (.inl h1)))];exact a1
theorem V5 {bs:Nat->bn} (hb: ∀ q,q<4->au (bs q)=0) (hq:q<4):au (jV (bs q))=0/\(jV (bs q)).role≠2:=⟨uL (hb q hq),Ku⟩
theorem acy (h:iJ rs λq=>jV (X.bs q)) (hb: ∀ q,q<4->au (X.bs q)=0) (hp:p.ok X.bs) (hq:p.q<4) (j:Nat):
  ∃ f',iJ (rs++(p.rs X.bs).take j) f'/\(∀ q,q<4->q≠p.q->f' q=jV (X.bs q))/\MP X.bs p (f' p.q)/\au (f' p.q)=0/\(f' p.q).role≠2:=by
 obtain ⟨hf,hfb⟩:=kT h hb hp hq;have full: ∃ f',iJ (rs++p.rs X.bs) f'/\(∀ q,q<4->q≠p.q->f' q=jV (X.bs q))/\MP X.bs p (f' p.q)/\au (f' p.q)=0/\(f' p.q).role≠2:=
  ⟨_,hf,λq _ hne=>by rw [upd_ne hne],.inr (.inl (by rw [upd_same])),by rw [upd_same];exact uL hfb,Ku⟩
 have zero: ∃ f',iJ (rs++([]:List dD)) f'/\(∀ q,q<4->q≠p.q->f' q=jV (X.bs q))/\MP X.bs p (f' p.q)/\au (f' p.q)=0/\(f' p.q).role≠2:=
  ⟨_,by rw [List.append_nil];exact h,λ_ _ _=>rfl,.inl rfl,uL (hb _ hq),Ku⟩
 have one: ∀ r,p.rs X.bs=[r]-> ∃ f',iJ (rs++(p.rs X.bs).take j) f'/\(∀ q,q<4->q≠p.q->f' q=jV (X.bs q))/\MP X.bs p (f' p.q)/\au (f' p.q)=0/\(f' p.q).role≠2:=λr hr=>by
  cases j with
  | zero=>rw [List.take_zero];exact zero
  | succ j=>rw [hr,List.take_of_length_le iQ,<-hr];exact full
 cases p with
 | serve q evs op num a=>exact one _ rfl
 | begun q b=>exact one _ rfl
 | gI q b at_=>exact one _ rfl
 | forget q b=>exact one _ rfl
 | got q b last=>
  obtain ⟨es,g1,g2,g3,g4,g5,g6,g7⟩:=Cy hp;have hr:(X.bs q).role=4:=hp.1;by_cases hj:j<=es.length-(X.bs q).evs.length
  ·have hbq:au (X.bs q)=0:=hb _ hq;have hi:=imports h hbq hr g6.symm hq g1 g2 j oQ;have e1:((dB.got q b last).rs X.bs).take j=((es.drop (X.bs q).evs.length).take j).map λx=>fG 5 q b.ep 0 x:=by
    rw [g7,List.take_append_of_le_length (by rw [List.length_map,List.length_drop];omega),List.map_take]
   have e2:es.take ((X.bs q).evs.length+j)=b.evs.take ((X.bs q).evs.length+j):=by
    rw [g4,List.take_take,Nat.min_eq_left oQ]
   rw [e1];refine ⟨_,hi,λk _ hk=>upd_ne hk,?_,?_,?_⟩
   ·refine .inr (.inr ⟨q,b,last,j,rfl,?_,by omega⟩)
    show upd _ q _ q=_
    rw [upd_same,e2]
   ·show au (upd _ q _ q)=0
    rw [upd_same];exact mE (oK (fI hbq) oQ _) (pE g1)
   show (upd (λq=>jV (X.bs q)) q { X.bs q with evs:=es.take ((X.bs q).evs.length+j) } q).role≠2
   rw [upd_same]
   show (X.bs q).role≠2
   omega
  have:((dB.got q b last).rs X.bs).take j=(dB.got q b last).rs X.bs:=by
   refine List.take_of_length_le ?_;rw [g7,List.length_append,List.length_map,List.length_drop]
   cases last<;>simp<;>omega
  rw [this];exact full
end
theorem RD {B kn kw bb n turn calls dc ic fc sc tc:Nat} {up:Bool} {dA iA fA sA tA:Option Addr} {data:List UInt8} {syn:Int} {Hh:Nat->Pl} {Us:Nat->Bool} {pv nv:Value} {d:Dir} {sh:Nat->Nat->Int×Int} {bs:List BX} {ix fx:List LX} {aQ:List fD} {tl:List xk} {w0 w:World} {fs:List Fact} {q b1 b2 b3 b4 b5 b6 b7:Nat} {y2:BX} {x:LX} {a:iM} (hn:n<5) (hq:q<4) {y:BX} (hy:bs[q]? =some y) (S:St B w0 w (nF kn n up dA data dc syn bb Hh Us iA ix ic pv turn bs (wF kw nv d fA fx fc sh sA aQ sc tA tl tc calls fs))) (hm1:Fact.blk b1 (BX.cells y2).toArray 57∈fs) (hm2:Fact.blk b2 #[gT kn] 106∈fs) (xq:Fact.blk b3 #[iV ((q:Nat):Int)] 3∈fs) (Gg:Fact.blk b4 #[.func (.func 117) #[] #[gT b6,gT b2,gT b3,gT b7]] 224∈fs) (TK:Fact.blk b5 (iM.cells a).toArray 67∈fs) (hm6:Fact.blk b6 (LX.row x) 140∈fs) (ZT:Fact.blk b7 #[gT kw] 95∈fs) (hu:Uk B w0) (hb:(fx.length+1)*200<=140737488355328) (hb2:(aQ.length+1)*112<=140737488355328):
    Calls Tryz.prog 118 #[pV b1 0,pV b2 0,pV b3 0,pV b4 0,pV b5 0] w (λe w'=>e= .returned (.tuple #[])/\(serves y.b-> ∃ sA' sc' Cu EI EJ qL,Cu=aQ++[(⟨n,q,y.b.ep,x.l.op,a,x.l.num⟩:fD)]/\qL=fx++[⟨lK n x.l.num a nowhere,none,0⟩]/\St B w0 w' (nF kn n up dA data dc syn bb Hh Us iA ix ic pv turn (bs.set q ⟨{ y.b with evs:=y2.b.evs },y2.A,y2.c⟩) (wF kw nv d EI qL EJ (iy sh n q (y.b.ep,(y2.b.evs.length:Int))) sA' Cu sc' tA tl tc calls fs)))/\(¬ serves y.b-> ∃ EI EJ qL,qL=fx++[⟨lK n x.l.num a (Hh q),none,0⟩]/\St B w0 w' (nF kn n up dA data dc syn bb Hh Us iA ix ic pv turn (bs.set q ⟨{ y.b with evs:=y2.b.evs },y2.A,y2.c⟩) (wF kw nv d EI qL EJ sh sA aQ sc tA tl tc calls fs)))):=by
 have hlen:=(S.own 1 rfl).1;rw [gL (sz:=6) (λ_=>rfl)] at hlen;refine gu 17 Tryz.func118 ?_;refine cw [0,1,2,3,4] ?_;refine zQ ?_;have S1:=S.drew;refine BF (C:=λw'=>St B w0 w' (nF kn n up dA data dc syn bb Hh Us iA ix ic pv turn bs (wF kw nv d fA fx fc sh sA aQ sc tA tl tc calls fs))) (m:=10) (listed:= #[false,false,false,false,false,false,false,false,false,false]) 7 mixed rfl rfl ?_;refine gk (v:=pV kn 0) 0 rfl S1 (λ_ Sx2=>(aj rfl rfl (aC ((St.hblk Sx2 (memT 7 rfl dX _ hm2)).cell rfl)))) ?_;iterate 3 refine gU ?_
 refine gk (v:=iV ((q:Nat):Int)) 4 rfl S1 (λ_ Sx6=>(aj rfl rfl (aC ((St.hblk Sx6 (memT 7 rfl dX _ xq)).cell rfl)))) ?_;refine gU ?_;refine gk (v:= .slice y2.A y2.b.evs.length y2.c) 6 rfl S1 (λ_ Sx8=>(aj rfl rfl (aC ((St.hblk Sx8 (memT 7 rfl dX _ hm1)).cell rfl)))) ?_;refine eU kQ rfl rfl rfl ?_;refine vv (jf q) ?_;refine zQ ?_;refine lN (xs':=(bs.set q ⟨{ y.b with evs:=y2.b.evs },y2.A,y2.c⟩).flatMap BX.cells) 1 S1 (wn rfl) rfl rfl rfl rfl rfl rfl amn rfl (bM rfl) (by omega) (arM hy) ?_;intro w9 qx;have aCm:(bs.set q ⟨{ y.b with evs:=y2.b.evs },y2.A,y2.c⟩)[q]? =some ⟨{ y.b with evs:=y2.b.evs },y2.A,y2.c⟩:=List.getElem?_set_self oQ;refine zQ ?_;refine iY ?_;refine zN 2 ?_;refine vv (aj rfl rfl (aC ((St.hblk qx (memT 7 rfl dX _ Gg)).cell rfl))) ?_;refine vv (aj rfl rfl (sP (St.hblk qx (memT 7 rfl dX _ TK)) Tryz.underlying67 rfl kQ rfl)) ?_;refine wM eQ (Eh hn hq aCm x a qx hm6 hm2 xq ZT hu hb hb2) ?_;rintro _ ZC ⟨rfl,aCn⟩;refine ⟨_,rfl,?_⟩;refine zQ ?_;refine bQ (l':=[]) trivial (aV (rs:=[]) (vs:=[]) rfl trivial ?_);exact ⟨rfl,aCn⟩
theorem RF {B kn kw bb n turn calls dc ic fc sc tc:Nat} {up:Bool} {dA iA fA sA tA:Option Addr} {data:List UInt8} {syn:Int} {Hh:Nat->Pl} {Us:Nat->Bool} {pv nv:Value} {d:Dir} {sh:Nat->Nat->Int×Int} {bs:List BX} {ix fx:List LX} {aQ:List fD} {tl:List xk} {w0 w:World} {fs:List Fact} {q b1 b2 b3 b4:Nat} {y2:BX} (hn:n<5) (hq:q<4) {y:BX} (hy:bs[q]? =some y) (S:St B w0 w (nF kn n up dA data dc syn bb Hh Us iA ix ic pv turn bs (wF kw nv d fA fx fc sh sA aQ sc tA tl tc calls fs))) (hm1:Fact.blk b1 (BX.cells y2).toArray 57∈fs) (hm2:Fact.blk b2 #[gT kn] 106∈fs) (xq:Fact.blk b3 #[iV ((q:Nat):Int)] 3∈fs) (Gg:Fact.blk b4 #[gT kw] 95∈fs) (hb:(fx.length+1)*200<=140737488355328):
    Calls Tryz.prog 121 #[pV b1 0,pV b2 0,pV b3 0,pV b4 0] w (λe w'=>e= .returned (.tuple #[])/\ ∃ (EI:Option Addr) (EJ:Nat) (qL:List LX),qL=fx++[⟨oC n q y2.b,none,0⟩]/\St B w0 w' (nF kn n up dA data dc syn bb Hh Us iA ix ic pv turn (bs.set q y2) (wF kw nv d EI qL EJ sh sA aQ sc tA tl tc calls fs))):=by
 have hlen:=(S.own 1 rfl).1;rw [gL (sz:=6) (λ_=>rfl)] at hlen;refine gu 15 Tryz.func121 ?_;refine cw [0,1,2,3] ?_;refine zQ ?_;have S1:=S.drew;refine BF (C:=λw'=>St B w0 w' (nF kn n up dA data dc syn bb Hh Us iA ix ic pv turn bs (wF kw nv d fA fx fc sh sA aQ sc tA tl tc calls fs))) (m:=8) (listed:= #[false,false,false,false,false,false,false,false]) 6 mixed rfl rfl ?_;refine gk (v:=pV kn 0) 0 rfl S1 (λ_ Sx2=>(aj rfl rfl (aC ((St.hblk Sx2 (memT 7 rfl dX _ hm2)).cell rfl)))) ?_;iterate 3 refine gU ?_
 refine gk (v:=iV ((q:Nat):Int)) 4 rfl S1 (λ_ Sx6=>(aj rfl rfl (aC ((St.hblk Sx6 (memT 7 rfl dX _ xq)).cell rfl)))) ?_;refine gk (v:= .agg ((BX.cells y2).toArray)) 5 rfl S1 (λ_ Sx7=>(aj rfl rfl (sP (St.hblk Sx7 (memT 7 rfl dX _ hm1)) Tryz.underlying57 rfl kQ rfl))) ?_;refine eU kQ rfl rfl rfl ?_;refine vv (jf q) ?_;refine lN (xs':=(bs.set q y2).flatMap BX.cells) 1 S1 (wn rfl) rfl rfl rfl rfl rfl rfl xD rfl (bM rfl) (by omega) (by rw [Nat.zero_add];exact qA (enc:=BX.cells) (sz:=6) (λ_=>rfl) y2 _ _ (by omega)) ?_;intro w8 S9;have Sm:(bs.set q y2)[q]? =some y2:=List.getElem?_set_self oQ;refine zQ ?_;refine iY ?_;refine zN 2 ?_;refine vv (aj rfl rfl (aC ((St.hblk S9 (memT 7 rfl dX _ Gg)).cell rfl))) ?_;refine vv (aj rfl rfl (aC ((St.hblk S9 (memT 7 rfl dX _ hm2)).cell rfl))) ?_;refine vv (aj rfl rfl (aC ((St.hblk S9 (memT 7 rfl dX _ xq)).cell rfl))) ?_;refine dF eQ (zA hn hq Sm S9 oQ) ?_;rintro _ JV ⟨rfl,A11,c12,aoO,aCo,lV⟩;refine ⟨_,rfl,?_⟩;refine zQ ?_;refine bQ (l':=[]) trivial (aV (rs:=[]) (vs:=[]) rfl trivial ?_);exact ⟨rfl,A11,c12,aoO,aCo,lV⟩
theorem YB {B kn kw bb n turn calls dc ic fc sc tc:Nat} {up:Bool} {dA iA fA sA tA:Option Addr} {data:List UInt8} {syn:Int} {Hh:Nat->Pl} {Us:Nat->Bool} {pv nv:Value} {d:Dir} {sh:Nat->Nat->Int×Int} {bs:List BX} {ix fx:List LX} {aQ:List fD} {tl:List xk} {w0 w:World} {fs:List Fact} {q b1 b2 b3 b4 b5:Nat} {y2:BX} {x:LX} (hn:n<5) (hq:q<4) {y:BX} (hy:bs[q]? =some y) (S:St B w0 w (nF kn n up dA data dc syn bb Hh Us iA ix ic pv turn bs (wF kw nv d fA fx fc sh sA aQ sc tA tl tc calls fs))) (hm1:Fact.blk b1 (BX.cells y2).toArray 57∈fs) (hm2:Fact.blk b2 #[gT kn] 106∈fs) (xq:Fact.blk b3 #[iV ((q:Nat):Int)] 3∈fs) (Gg:Fact.blk b4 (LX.row x) 140∈fs) (TK:Fact.blk b5 #[gT kw] 95∈fs) (hb:(fx.length+1)*200<=140737488355328) (hb2:(aQ.length+1)*112<=140737488355328):
    Calls Tryz.prog 126 #[pV b1 0,pV b2 0,pV b3 0,pV b4 0,pV b5 0] w (λe w'=>e= .returned (.tuple #[])/\(x.l.last=true-> ∃ (sA':Option Addr) (sc':Nat) (Cu:List fD),Cu=aQ++[(⟨n,q,y2.b.ep,aI,eD,-1⟩:fD)]/\St B w0 w' (nF kn n up dA data dc syn bb Hh (upd Us q false) iA ix ic pv turn (bs.set q y2) (wF kw nv d fA fx fc (iy sh n q (y2.b.ep,(y2.b.evs.length:Int))) sA' Cu sc' tA tl tc calls fs)))/\(x.l.last=false-> ∃ (EI:Option Addr) (EJ:Nat) (qL:List LX),qL=fx++[⟨oC n q y2.b,none,0⟩]/\St B w0 w' (nF kn n up dA data dc syn bb Hh Us iA ix ic pv turn (bs.set q y2) (wF kw nv d EI qL EJ sh sA aQ sc tA tl tc calls fs)))):=by
 have hlen:=(S.own 1 rfl).1;rw [gL (sz:=6) (λ_=>rfl)] at hlen;refine gu 29 Tryz.func126 ?_;refine cw [0,1,2,3,4] ?_;refine zQ ?_;have S1:=S.drew;refine BF (C:=λw'=>St B w0 w' (nF kn n up dA data dc syn bb Hh Us iA ix ic pv turn bs (wF kw nv d fA fx fc sh sA aQ sc tA tl tc calls fs))) (m:=8) (listed:= #[false,false,false,false,false,false,false,false]) 6 mixed rfl rfl ?_;refine gk (v:=pV kn 0) 0 rfl S1 (λ_ Sx2=>(aj rfl rfl (aC ((St.hblk Sx2 (memT 7 rfl dX _ hm2)).cell rfl)))) ?_;iterate 3 refine gU ?_
 refine gk (v:=iV ((q:Nat):Int)) 4 rfl S1 (λ_ Sx6=>(aj rfl rfl (aC ((St.hblk Sx6 (memT 7 rfl dX _ xq)).cell rfl)))) ?_;refine gk (v:= .agg ((BX.cells y2).toArray)) 5 rfl S1 (λ_ Sx7=>(aj rfl rfl (sP (St.hblk Sx7 (memT 7 rfl dX _ hm1)) Tryz.underlying57 rfl kQ rfl))) ?_;refine eU kQ rfl rfl rfl ?_;refine vv (jf q) ?_;refine lN (xs':=(bs.set q y2).flatMap BX.cells) 1 S1 (wn rfl) rfl rfl rfl rfl rfl rfl xD rfl (bM rfl) (by omega) (by rw [Nat.zero_add];exact qA (enc:=BX.cells) (sz:=6) (λ_=>rfl) y2 _ _ (by omega)) ?_;intro w8 S9;have Sm:(bs.set q y2)[q]? =some y2:=List.getElem?_set_self oQ;refine zQ ?_;refine iY ?_;refine zN 5 ?_;refine vv (v:= .bool x.l.last) (aj rfl rfl (aC ((St.hblk S9 (memT 7 rfl dX _ Gg)).cell rfl))) ?_;refine zN 2 ?_
 cases aKB:(x.l.last)
 ·refine aZ (l':=[(1,pV b2 0),(2,pV b3 0),(4,pV b5 0),(13,.bool false)]) ji (kM rfl (pQ (gF (ay (vv (aj rfl rfl (aC ((St.hblk S9 (memT 7 rfl dX _ TK)).cell rfl))) ?_)))));refine vv (aj rfl rfl (aC ((St.hblk S9 (memT 7 rfl dX _ hm2)).cell rfl))) ?_;refine vv (aj rfl rfl (aC ((St.hblk S9 (memT 7 rfl dX _ xq)).cell rfl))) ?_;refine dF eQ (zA hn hq Sm S9 oQ) ?_;rintro _ w16 ⟨rfl,Q0,c13,aCp,aoP,kP⟩;refine ⟨_,rfl,?_⟩;refine zQ ?_;refine bQ (l':=[]) trivial (aV (rs:=[]) (vs:=[]) rfl trivial ?_);exact ⟨rfl,λh=>by simp_all,λ_=>⟨Q0,c13,aCp,aoP,kP⟩⟩
 refine aZ (l':=[(1,pV b2 0),(2,pV b3 0),(4,pV b5 0),(13,.bool true)]) ji (lY rfl (aH ?_));have jc:=S9.drew;refine aN 6 jc [0] ?_;refine ak (v:=pV kn 0) 0 rfl (St.del 0 jc) (λ_ aoQ=>(aj rfl rfl (aC ((St.hblk aoQ (memT 6 rfl dX _ hm2)).cell rfl)))) ?_;refine ak (v:=iV ((q:Nat):Int)) 1 rfl (St.del 0 jc) (λ_ acu=>(aj rfl rfl (aC ((St.hblk acu (memT 6 rfl dX _ xq)).cell rfl)))) ?_;refine aL 2 ?_;refine ak (v:=pV kn (13+q*1)) 4 rfl (St.del 0 jc) (λ_ _=>(aR rfl rfl rfl (fH q Tryz.underlying110 kQ rfl hq))) ?_;refine aU 5 ?_;refine uw (i:=5) rfl rfl (cs:= #[.bool false]) (row':=dI n up (.slice dA data.length dc) syn (.slice (aD bb 0) 4 4) Hh (upd Us q false) (.slice iA ix.length ic) (pv) turn) (fs':=((bN kn n up dA data dc syn bb Hh (upd Us q false) iA ix ic pv turn)::_::_::_::_::_::_::fs)) 0 jc (wn rfl) rfl rfl rfl rfl rfl rfl anM rfl (bM rfl) (by rw [show Array.size (dI _ _ _ _ _ _ _ _ _ _)=20 from rfl];omega) (ZR hq (v:=false)) rfl ?_;intro Oq jE;refine aL 2 ?_;refine zN 3 ?_;refine vv (aj rfl rfl (aC ((St.hblk jE (memT 7 rfl dX _ TK)).cell rfl))) ?_;refine vv (aj rfl rfl (aC ((St.hblk jE (memT 7 rfl dX _ hm2)).cell rfl))) ?_;refine vv (aj rfl rfl (aC ((St.hblk jE (memT 7 rfl dX _ xq)).cell rfl))) ?_;refine vv (v:= .agg #[iV 4,iV 0,iV 0,iV 0,iV 0,iV 0]) gD ?_;refine zQ ?_;refine dF eQ (nE hn hq Sm aI eD (-1) jE oQ) ?_;rintro _ SS ⟨rfl,A26,c27,aCq,aCr,kV⟩;refine ⟨_,rfl,?_⟩;refine zQ ?_;refine bQ (l':=[]) trivial (gF (nW (ig (dS (rs:=[]) (vs:=[]) rfl trivial ?_))));exact ⟨rfl,λ_=>⟨A26,c27,aCq,aCr,kV⟩,λh=>by simp_all⟩
theorem Vl {B kn kw bb n turn calls dc ic fc sc tc:Nat} {up:Bool} {dA iA fA sA tA:Option Addr} {data:List UInt8} {syn:Int} {Hh:Nat->Pl} {Us:Nat->Bool} {pv nv:Value} {d:Dir} {sh:Nat->Nat->Int×Int} {bs:List BX} {ix fx:List LX} {aQ:List fD} {tl:List xk} {w0 w:World} {fs:List Fact} {L:List Fact} {q b1 b2 b3 b4 b5:Nat} {y2:BX} {x:LX} (hn:n<5) (hq:q<4) {y:BX} (hy:bs[q]? =some y) (S:St B w0 w (nF kn n up dA data dc syn bb Hh Us iA ix ic pv turn bs (wF kw nv d fA fx fc sh sA aQ sc tA tl tc calls fs))) (hm1:Fact.blk b1 (BX.cells y2).toArray 57∈fs) (hm2:Fact.blk b2 #[gT kn] 106∈fs) (xq:Fact.blk b3 #[iV ((q:Nat):Int)] 3∈fs) (Gg:Fact.blk b4 #[gT kw] 95∈fs) (TK:Fact.blk b5 (LX.row x) 140∈fs) (hev:Ct L y2) (hL: ∀ f∈L,f∈fs) (aoC:y2.b.evs.length*48<=reachBytes) (eF: -2<=y2.b.ep/\y2.b.ep<=2000000) (hb:(fx.length+1)*200<=140737488355328):
    Calls Tryz.prog 124 #[pV b1 0,pV b2 0,pV b3 0,pV b4 0,pV b5 0] w (λe w'=>e= .returned (.tuple #[])/\ ∃ (A':Option Addr) (c':Nat) (qL:List LX) (N:List Fact),qL.map LX.l=kZ n q y2.b x.l.at_ (fx.map LX.l)/\(∀ x∈qL,x∈fx\/Rt N x)/\St B w0 w' (nF kn n up dA data dc syn bb Hh Us iA ix ic pv turn (bs.set q y2) (wF kw nv d A' qL c' sh sA aQ sc tA tl tc calls (fs++N)))):=by
 have hlen:=(S.own 1 rfl).1;rw [gL (sz:=6) (λ_=>rfl)] at hlen;refine gu 18 Tryz.func124 ?_;refine cw [0,1,2,3,4] ?_;refine zQ ?_;have S1:=S.drew;refine BF (C:=λw'=>St B w0 w' (nF kn n up dA data dc syn bb Hh Us iA ix ic pv turn bs (wF kw nv d fA fx fc sh sA aQ sc tA tl tc calls fs))) (m:=8) (listed:= #[false,false,false,false,false,false,false,false]) 6 mixed rfl rfl ?_;refine gk (v:=pV kn 0) 0 rfl S1 (λ_ Sx2=>(aj rfl rfl (aC ((St.hblk Sx2 (memT 7 rfl dX _ hm2)).cell rfl)))) ?_;iterate 3 refine gU ?_
 refine gk (v:=iV ((q:Nat):Int)) 4 rfl S1 (λ_ Sx6=>(aj rfl rfl (aC ((St.hblk Sx6 (memT 7 rfl dX _ xq)).cell rfl)))) ?_;refine gk (v:= .agg ((BX.cells y2).toArray)) 5 rfl S1 (λ_ Sx7=>(aj rfl rfl (sP (St.hblk Sx7 (memT 7 rfl dX _ hm1)) Tryz.underlying57 rfl kQ rfl))) ?_;refine eU kQ rfl rfl rfl ?_;refine vv (jf q) ?_;refine lN (xs':=(bs.set q y2).flatMap BX.cells) 1 S1 (wn rfl) rfl rfl rfl rfl rfl rfl xD rfl (bM rfl) (by omega) (by rw [Nat.zero_add];exact qA (enc:=BX.cells) (sz:=6) (λ_=>rfl) y2 _ _ (by omega)) ?_;intro w8 S9;have Sm:(bs.set q y2)[q]? =some y2:=List.getElem?_set_self oQ;refine zQ ?_;refine iY ?_;refine zN 2 ?_;refine vv (aj rfl rfl (aC ((St.hblk S9 (memT 7 rfl dX _ Gg)).cell rfl))) ?_;refine vv (aj rfl rfl (aC ((St.hblk S9 (memT 7 rfl dX _ hm2)).cell rfl))) ?_;refine vv (aj rfl rfl (aC ((St.hblk S9 (memT 7 rfl dX _ xq)).cell rfl))) ?_;refine zQ ?_;refine vv (aj rfl rfl (aC ((St.hblk S9 (memT 7 rfl dX _ TK)).cell rfl))) ?_;refine dF eQ (LG (L:=L) hn hq Sm x.l.at_ hev (memT 0 rfl hL) aoC eF S9 oQ) ?_;rintro _ Lb ⟨rfl,A11,c12,aoO,N14,aoP,hx16,jc⟩;refine ⟨_,rfl,?_⟩;refine zQ ?_;refine bQ (l':=[]) trivial (aV (rs:=[]) (vs:=[]) rfl trivial ?_);exact ⟨rfl,A11,c12,aoO,N14,aoP,hx16,jc⟩
theorem Nq {B kn kw bb n turn calls dc ic fc sc tc:Nat} {up:Bool} {dA iA fA sA tA:Option Addr} {data:List UInt8} {syn:Int} {Hh:Nat->Pl} {Us:Nat->Bool} {pv nv:Value} {d:Dir} {sh:Nat->Nat->Int×Int} {bs:List BX} {ix fx:List LX} {aQ:List fD} {tl:List xk} {w0 w:World} {fs:List Fact} {q b1 b2 b3:Nat} {y2:BX} (hn:n<5) (hq:q<4) {y:BX} (hy:bs[q]? =some y) (S:St B w0 w (nF kn n up dA data dc syn bb Hh Us iA ix ic pv turn bs (wF kw nv d fA fx fc sh sA aQ sc tA tl tc calls fs))) (hm1:Fact.blk b1 (BX.cells y2).toArray 57∈fs) (hm2:Fact.blk b2 #[gT kn] 106∈fs) (xq:Fact.blk b3 #[iV ((q:Nat):Int)] 3∈fs):
    Calls Tryz.prog 128 #[pV b1 0,pV b2 0,pV b3 0] w (λe w'=>e= .returned (.tuple #[])/\St B w0 w' (nF kn n up dA data dc syn bb Hh Us iA ix ic pv turn (bs.set q y2) (wF kw nv d fA fx fc sh sA aQ sc tA tl tc calls fs))):=by
 have hlen:=(S.own 1 rfl).1;rw [gL (sz:=6) (λ_=>rfl)] at hlen;refine gu 10 Tryz.func128 ?_;refine aZ (l':=[(0,pV b1 0),(1,pV b2 0),(2,pV b3 0)]) FJ ?_;have S1:=S.drew;refine BF (C:=λw'=>St B w0 w' (nF kn n up dA data dc syn bb Hh Us iA ix ic pv turn bs (wF kw nv d fA fx fc sh sA aQ sc tA tl tc calls fs))) (m:=8) (listed:= #[false,false,false,false,false,false,false,false]) 6 mixed rfl rfl ?_;refine gk (v:=pV kn 0) 0 rfl S1 (λ_ Sx2=>(aj rfl rfl (aC ((St.hblk Sx2 (memT 7 rfl dX _ hm2)).cell rfl)))) ?_;iterate 3 refine gU ?_
 refine gk (v:=iV ((q:Nat):Int)) 4 rfl S1 (λ_ Sx6=>(aj rfl rfl (aC ((St.hblk Sx6 (memT 7 rfl dX _ xq)).cell rfl)))) ?_;refine gk (v:= .agg ((BX.cells y2).toArray)) 5 rfl S1 (λ_ Sx7=>(aj rfl rfl (sP (St.hblk Sx7 (memT 7 rfl dX _ hm1)) Tryz.underlying57 rfl kQ rfl))) ?_;refine eU kQ rfl rfl rfl ?_;refine vv (jf q) ?_;refine lN (xs':=(bs.set q y2).flatMap BX.cells) 1 S1 (wn rfl) rfl rfl rfl rfl rfl rfl xD rfl (bM rfl) (by omega) (by rw [Nat.zero_add];exact qA (enc:=BX.cells) (sz:=6) (λ_=>rfl) y2 _ _ (by omega)) ?_;intro w8 S9;have Sm:(bs.set q y2)[q]? =some y2:=List.getElem?_set_self oQ;refine zQ ?_;refine iY ?_;refine bQ (l':=[]) trivial (aV (rs:=[]) (vs:=[]) rfl trivial ?_);exact ⟨rfl,S9⟩
theorem YC {b:bn} {hv:Int} (h:au b=0):(bK b hv).1.evs.length<=b.evs.length/\(-2<=(bK b hv).1.ep/\(bK b hv).1.ep<=2000000):=by
 have e:=xJ h;unfold bK;rw [if_neg (λh2=>h2 h)];have z:bF.evs.length<=b.evs.length/\(-2<=bF.ep/\bF.ep<=2000000):=⟨Nat.zero_le _,by decide,by decide⟩
 split
 ·exact z
 split
 ·exact z
 split
 ·exact ⟨Nat.le_refl _,e⟩
 split
 ·exact ⟨Nat.le_refl _,e⟩
 exact ⟨Nat.le_refl _,e⟩
theorem Nr {K:CK} {B n kn kw:Nat} {w0 w:World} {fs:List Fact} {m:Cl} {H:List LX} {x:LX} (hn:n<5) (hkn:K.nb n=kn) (bU:K.wb=kw) (hu:Uk B w0) (hB1:m.fly.length<=1000000000) (hB2:m.aQ.length<=1000000000000) (HW:Wd K B w0 w fs m (x::H)) (hq:x.l.q<4) (hv: ∀ q,q<4->au ((m.ah n).bs q)=0):
    Calls tP 88 #[pV kw 0,pV kn 0,.agg (LX.row x)] w (λe w'=>e= .returned (.tuple #[])/\Wd K B w0 w' fs (m.caught n x.l) H):=by
 obtain ⟨R,G,S0⟩:=HW.open hn;have hfl:R.fx.length=m.fly.length:=by rw [<-G.fly,List.length_map]
 have NG:=G.kr n hn;obtain ⟨X,hX⟩: ∃ X,m.ah n=X:=⟨_,rfl⟩;obtain ⟨z,hz⟩: ∃ z,R.nx n=z:=⟨_,rfl⟩;rw [hX,hz] at S0 NG;have hL: ∀ f∈R.L,f∈gy K R m fs n:=λf h=>List.mem_append_right _ (List.mem_append_right _ h);obtain ⟨rr,hrr⟩: ∃ r,gy K R m fs n=r:=⟨_,rfl⟩;rw [hrr] at S0 hL;have S:St B w0 w (cN kn n X z z.pv (cF kw R m rr)):=by subst hkn;subst bU;exact S0
 clear S0 HW;have hlen:=(S.own 1 rfl).1;rw [gL (sz:=6) (λ_=>rfl)] at hlen;rw [hX] at hv;obtain ⟨y,hy,hyb,sW⟩:=NG.at_ hq;have hln:=jZ (jv (hyb▸hv _ hq));have zC:y.b.evs.length*48<=reachBytes:=by unfold reachBytes;omega
 have Mq:=xJ (hyb▸hv _ hq);refine gu 75 Tryz.func88 ?_;refine cw [0,1,2] ?_;refine zN 2 ?_;refine VH S ?_;intro b1 w2 S3;refine VH S3 ?_;intro b4 w5 S6;refine iH S6 ?_;intro b7 w8 S9;refine zN 6 ?_;refine gq S9 zr3 ?_;intro b10 GI l5;refine jD (row':= #[iV ((x.l.q:Nat):Int)]) 0 l5 kQ ?_;intro Ey kD;refine zN 3 ?_;have iG:=kD.drew;refine fC 9 8 iG [] ?_;iterate 5 refine gU ?_
 refine gk 5 rfl iG (λ_ _=>jf x.l.q) ?_;refine gk (v:= .agg (bR y.b y.A y.c)) 6 rfl iG (λ_ GK=>(aj rfl rfl (cZ (cs:=BX.cells y) (Rd.uq (St.ord 5 GK rfl) (λ_ _ h=>aW (enc:=BX.cells) (sz:=6) (λ_=>rfl) hy h))))) ?_;refine fq (m:=1) (r:=7) kQ ?_;refine mo (i:=7) rfl rfl (V:=λb=>pV b 0) (row:=zB) (t:=57) iG (wn rfl) rfl rfl (dO rfl (Tryz.zeroValue57 _) rfl) ?_;intro Av Oq jE;refine gU ?_;refine eU kQ rfl rfl rfl ?_;refine sa 0 jE kQ ?_;intro Om tX;refine zQ ?_;refine iY ?_;refine zN 8 ?_;by_cases h28:y.b.tg=x.l.fr
 ·refine zN 4 ?_;refine vg (v:=iV (y.b.ep+1)) fJ ?_;refine zN 2 ?_;by_cases h29:y.b.ep+1=x.l.ep
  ·refine zN 8 ?_;obtain ⟨BR,qp⟩: ∃ r,bK y.b x.l.at_=r:=⟨_,rfl⟩;have HP:=λw h=>Ra y.b.role y.b.ep y.b.fr y.b.tg y.b.rd y.A y.c y.b.evs x.l.at_ w h zC;rw [show bK ⟨y.b.role,y.b.ep,y.b.fr,y.b.tg,y.b.rd,y.b.evs⟩ x.l.at_=BR from qp] at HP;have aoR:=YC (b:=y.b) (hv:=x.l.at_) (hyb▸hv _ hq);rw [qp] at aoR;have aoS:BR.1.evs.length*48<=reachBytes:=by have:=aoR.1;omega
   have acC:=aoR.2;refine zN 4 ?_;refine dF eQ (HP _ (sW.1.rd tX (memT 12 rfl hL))) ?_;rintro _ ZA ⟨om,c31,MO,rfl,T35⟩;refine ⟨_,rfl,?_⟩;have qo:=tX.ext T35 rfl;refine zN 3 ?_;refine gq qo fP ?_;intro qK Te qJ;refine sa 0 qJ kQ ?_;intro w39 rY;refine zN 7 ?_;by_cases h41:BR.2=0
   ·refine zN 13 ?_;by_cases h42:BR.1.role=y.b.role
    ·refine zN 5 ?_;have tT:=rY.drew;refine fC 8 6 tT [] ?_;iterate 6 refine gU ?_
     refine eU kQ rfl rfl rfl ?_;refine vv (jf x.l.q) ?_;refine lN (xs':=(z.bx.set x.l.q (⟨BR.1,om,c31⟩:BX)).flatMap BX.cells) 8 tT (wn rfl) rfl rfl rfl rfl rfl rfl xD rfl (bM rfl) (by omega) (by rw [Nat.zero_add];exact qA (enc:=BX.cells) (sz:=6) (λ_=>rfl) (⟨BR.1,om,c31⟩:BX) _ _ (by omega)) ?_;intro VK uX;have aCs:(z.bx.set x.l.q (⟨BR.1,om,c31⟩:BX))[x.l.q]? =some (⟨BR.1,om,c31⟩:BX):=List.getElem?_set_self oQ;refine zQ ?_;refine iY ?_;refine zN 8 ?_;have zP:St B w0 VK (_::_::_::_::_::_::_::_::_::_::_::_::_::(rr++[.bJ 6 om BR.1.evs.length ((BR.1.evs).flatMap Ev.cells)])):=uX.toEnd 1 rfl;have l7:=zP.eG [12,12,12,12,12,12,12];have acD:Ct (R.L++[.bJ 6 om BR.1.evs.length ((BR.1.evs).flatMap Ev.cells)]) (⟨BR.1,om,c31⟩:BX):=⟨Ro.bJ (List.mem_append_right _ (List.mem_singleton.2 rfl)),MO⟩;refine dF eQ (LG (L:=(R.L++[.bJ 6 om BR.1.evs.length ((BR.1.evs).flatMap Ev.cells)])) hn hq aCs x.l.at_ acD (memT 6 rfl (WX hL)) aoS acC l7 oQ) ?_;rintro _ VQ ⟨rfl,A56,c57,aoT,N59,aCt,aCu,vP⟩;refine ⟨_,rfl,?_⟩;change St _ _ _ (_::_::_::(bW kw (.slice R.nA 5 R.nc) m.off A56 aoT c57 m.shown R.sA m.aQ R.sc R.tA m.bH R.tc m.calls)::(oL A56 aoT c57)::_::_::_::_::_::_::_::_::((rr++[.bJ 6 om BR.1.evs.length ((BR.1.evs).flatMap Ev.cells)])++N59)) at vP;refine zQ ?_;refine bQ (l':=[]) trivial (gF (nW (ig (dS (rs:=[]) (vs:=[]) rfl trivial ?_))));have hch: ¬ (y.b.tg≠x.l.fr\/y.b.ep+1≠x.l.ep):=oQ;rw [Vh hX hyb.symm qp hch (by first | assumption | omega) (by first | assumption | omega)];rw [List.append_assoc] at vP;exact ⟨rfl,Wd.fin (X':={ X with bs:=upd X.bs x.l.q BR.1 }) (z':={ z with bx:=z.bx.set x.l.q (⟨BR.1,om,c31⟩:BX) }) (N:=([.bJ 6 om BR.1.evs.length ((BR.1.evs).flatMap Ev.cells)]++N59)) (Ls:=[.blk qK (bR BR.1 om c31) 57,.blk Av (bR y.b y.A y.c) 57,.blk b10 #[iV ((x.l.q:Nat):Int)] 3,.blk b7 (LX.row x) 140,.blk b4 #[pV kn 0] 106,.blk b1 #[pV kw 0] 95]) (fA:=A56) (fc:=c57) (fx:=aoT) (sA:=R.sA) (sc:=R.sc) (tA:=R.tA) (tc:=R.tc) hkn bU hrr G hn vP { (NG.more:dW K _ n X z) with Ru:=Jq NG.Ru hq,TG:=EK (λu hu=>(NG.TG u hu).mono λf hf=>List.mem_append_left _ hf) ⟨Ro.bJ (List.mem_append_right _ (List.mem_append_left _ (List.mem_append_left _ (List.mem_singleton.2 rfl)))),MO⟩ } (λu hu=>(aCu u hu).imp id λh=>h.mono λf hf=>by simp [hf]) rfl (by rw [aCt,G.fly]) mH⟩
    refine zN 10 ?_;refine cab eQ rY (jh 3 x.l.q ⟨BR.1,om,c31⟩ _) ?_;intro ZK Bd;refine gq Bd xE ?_;intro b67 w68 uE;refine sa 0 uE kQ ?_;intro Zz lu;refine zN 7 ?_;refine jD (row':= #[iV 3,iV ((x.l.q:Nat):Int),iV BR.1.ep,iV BR.1.tg,iV 0,iV 0,iV 0,iV 0,iV 0,iV 0]) 0 lu kQ ?_;intro w72 tY;refine zN 7 ?_;refine NY tY ?_;intro b74 w75 MZ;have DY:=MZ.eG [15,15,15,15,15,15,15];refine dF eQ (pJ (rs:=[fG 3 x.l.q BR.1.ep BR.1.tg aO]) (Ro.blk (List.mem_iff_getElem?.2 ⟨0,rfl⟩) rfl rfl) NG.yD (by exact memT 9 rfl hL) (Nat.le_of_ble_eq_true rfl) DY) ?_;rintro _ w84 (⟨aoU,rfl,JW⟩ | ⟨auQ,A79,c80,N81,aoU,rfl,awX,JW⟩)
    ·refine ⟨_,rfl,?_⟩;refine zN 7 ?_;have hch: ¬ (y.b.tg≠x.l.fr\/y.b.ep+1≠x.l.ep):=oQ;rw [Vi hX hyb.symm qp hch (by first | assumption | omega) (by first | assumption | omega) aoU];exact ⟨rfl,Wd.dL (X':=X) (z':=z) (Ls:=[.blk b74 #[iV 3,iV ((x.l.q:Nat):Int),iV BR.1.ep,iV BR.1.tg,iV 0,iV 0,iV 0,iV 0,iV 0,iV 0] 171,.blk b67 #[iV 3,iV ((x.l.q:Nat):Int),iV BR.1.ep,iV BR.1.tg,iV 0,iV 0,iV 0,iV 0,iV 0,iV 0] 171,.blk qK (bR BR.1 om c31) 57,.bJ 6 om BR.1.evs.length ((BR.1.evs).flatMap Ev.cells),.blk Av (bR y.b y.A y.c) 57,.blk b10 #[iV ((x.l.q:Nat):Int)] 3,.blk b7 (LX.row x) 140,.blk b4 #[pV kn 0] 106,.blk b1 #[pV kw 0] 95]) (fA:=R.fA) (fc:=R.fc) (fx:=R.fx) (sA:=R.sA) (sc:=R.sc) (tA:=R.tA) (tc:=R.tc) hkn bU hrr G hn JW NG.more (λu hu=> .inl hu) (aF hX).symm G.fly.symm mH⟩
    refine ⟨_,rfl,?_⟩;refine zN 8 ?_;refine vv JK ?_;refine zN 2 ?_;refine jD (row':=dI n X.up (.slice A79 auQ.length c80) X.syn (.slice (aD z.bb 0) 4 4) X.hints X.sure (.slice z.iA z.ix.length z.ic) (.func (.func 124) #[] #[pV qK 0,pV b4 0,pV b10 0,pV b1 0,pV b7 0]) X.turn) 0 JW kQ ?_;intro w86 Ez;refine zQ ?_;refine bQ (l':=[]) trivial (aV (rs:=[]) (vs:=[]) rfl trivial ?_);have hch: ¬ (y.b.tg≠x.l.fr\/y.b.ep+1≠x.l.ep):=oQ;rw [acj hX hyb.symm qp hch (by first | assumption | omega) (by first | assumption | omega) aoU];refine ⟨rfl,Wd.fin (X':={ X with data:=auQ,pend:=some (.gI x.l.q BR.1 x.l.at_) }) (z':={ z with tA:=A79,tc:=c80,pv:= .func (.func 124) #[] #[pV qK 0,pV b4 0,pV b10 0,pV b1 0,pV b7 0] }) (N:=N81) (Ls:=[.blk b74 #[iV 3,iV ((x.l.q:Nat):Int),iV BR.1.ep,iV BR.1.tg,iV 0,iV 0,iV 0,iV 0,iV 0,iV 0] 171,.blk b67 #[iV 3,iV ((x.l.q:Nat):Int),iV BR.1.ep,iV BR.1.tg,iV 0,iV 0,iV 0,iV 0,iV 0,iV 0] 171,.blk qK (bR BR.1 om c31) 57,.bJ 6 om BR.1.evs.length ((BR.1.evs).flatMap Ev.cells),.blk Av (bR y.b y.A y.c) 57,.blk b10 #[iV ((x.l.q:Nat):Int)] 3,.blk b7 (LX.row x) 140,.blk b4 #[pV kn 0] 106,.blk b1 #[pV kw 0] 95]) (fA:=R.fA) (fc:=R.fc) (fx:=R.fx) (sA:=R.sA) (sc:=R.sc) (tA:=R.tA) (tc:=R.tc) hkn bU hrr G hn Ez ?_ (λu hu=> .inl hu) rfl G.fly.symm mH⟩;refine { (NG.more:dW K _ n X z) with yD:=awX.mono mLN,nL:=?_ }
    show pI (K.nb n) K.wb _ _ _
    rw [hkn,bU];exact ⟨qK,b4,b10,b1,b7,⟨BR.1,om,c31⟩,x,rfl,(sD (List.mem_iff_getElem?.2 ⟨2,rfl⟩)),rfl,⟨(Ro.bJ (sD (List.mem_iff_getElem?.2 ⟨3,rfl⟩))),MO⟩,(sD (List.mem_iff_getElem?.2 ⟨7,rfl⟩)),(sD (List.mem_iff_getElem?.2 ⟨5,rfl⟩)),(sD (List.mem_iff_getElem?.2 ⟨8,rfl⟩)),(sD (List.mem_iff_getElem?.2 ⟨6,rfl⟩)),rfl⟩
   refine zN 7 ?_;have hch: ¬ (y.b.tg≠x.l.fr\/y.b.ep+1≠x.l.ep):=oQ;have JN:=rY.eG [13,13,13,13,13,13,13];rw [Yw hX hyb.symm qp hch (by first | assumption | omega)];exact ⟨rfl,Wd.dL (X':=X) (z':=z) (Ls:=[.blk qK (bR BR.1 om c31) 57,.bJ 6 om BR.1.evs.length ((BR.1.evs).flatMap Ev.cells),.blk Av (bR y.b y.A y.c) 57,.blk b10 #[iV ((x.l.q:Nat):Int)] 3,.blk b7 (LX.row x) 140,.blk b4 #[pV kn 0] 106,.blk b1 #[pV kw 0] 95]) (fA:=R.fA) (fc:=R.fc) (fx:=R.fx) (sA:=R.sA) (sc:=R.sc) (tA:=R.tA) (tc:=R.tc) hkn bU hrr G hn JN NG.more (λu hu=> .inl hu) (aF hX).symm G.fly.symm mH⟩
  refine zN 8 ?_;have GJ:=tX.eG [11,11,11,11,11,11,11];rw [OT hX hyb.symm oQ];exact ⟨rfl,Wd.dL (X':=X) (z':=z) (Ls:=[.blk Av (bR y.b y.A y.c) 57,.blk b10 #[iV ((x.l.q:Nat):Int)] 3,.blk b7 (LX.row x) 140,.blk b4 #[pV kn 0] 106,.blk b1 #[pV kw 0] 95]) (fA:=R.fA) (fc:=R.fc) (fx:=R.fx) (sA:=R.sA) (sc:=R.sc) (tA:=R.tA) (tc:=R.tc) hkn bU hrr G hn GJ NG.more (λu hu=> .inl hu) (aF hX).symm G.fly.symm mH⟩
 refine zN 15 ?_;have S90:=tX.eG [11,11,11,11,11,11,11];rw [OT hX hyb.symm oQ];exact ⟨rfl,Wd.dL (X':=X) (z':=z) (Ls:=[.blk Av (bR y.b y.A y.c) 57,.blk b10 #[iV ((x.l.q:Nat):Int)] 3,.blk b7 (LX.row x) 140,.blk b4 #[pV kn 0] 106,.blk b1 #[pV kw 0] 95]) (fA:=R.fA) (fc:=R.fc) (fx:=R.fx) (sA:=R.sA) (sc:=R.sc) (tA:=R.tA) (tc:=R.tc) hkn bU hrr G hn S90 NG.more (λu hu=> .inl hu) (aF hX).symm G.fly.symm mH⟩
theorem aff {P:Program} {t:TypeId} {xo yo:Operand} {w:World} {a b:Int} (ha:0<=a) (hb:0<b):(do eqGuard .rem t xo yo (iV a) (iV b);binOp .rem t (iV a) (iV b):Sem Value).run P w= .ok (iV (a % b)) w:=by
 obtain ⟨k,rfl⟩:=Int.eq_ofNat_of_zero_le ha;obtain ⟨m,rfl⟩:=Int.eq_ofNat_of_zero_le (Int.le_of_lt hb);exact V4 (c:=k % m) rfl oQ
theorem awY {P:Program} {w:World} {x:Int} (h: -9223372036854775807<=x/\x<=9223372036854775807):(Op.unary .neg (iV x)).run P w= .ok (iV (-x)) w:=by
 simp [Op.unary,Op.intArith,Int.zero_sub,wrap64_in (z:= -x) oQ oQ]
def aT (n m:Int):Int:=(if n<0 then-(n+1) else n) % m
theorem og {n m:Int} (hm:0<m):0<=aT n m/\aT n m<m:=⟨Int.emod_nonneg _ oQ,Int.emod_lt_of_pos _ hm⟩
def ni (k a b c:Int):Ev:=
 if aT k 8<3 then ⟨1,aT a 2,aT b 24,aT c 1000,0,0⟩ else if aT k 8<5 then ⟨2,0,0,0,0,0⟩
 else if aT k 8<7 then ⟨3,0,0,0,aT a 3,aT b 6⟩ else ⟨4,0,0,0,0,0⟩
structure Gr where
 kd:Int
 a:Int
 b:Int
 c:Int
 d:Int
def Gr.cells (g:Gr):List Value:=[iV g.kd,iV g.a,iV g.b,iV g.c,iV g.d]
def LH (x:Int):Prop:= -9223372036854775808<=x/\x<=9223372036854775807
def Gr.ok (g:Gr):Prop:=LH g.kd/\LH g.a/\LH g.b/\LH g.c/\LH g.d
def RG (g:Gr) (e:Ev):Ac:=⟨2,aT g.a 3,aT g.b 2,0,0,if e.kind=4 then 2 else e.kind,e.producer,e.id,e.body,e.aG,e.hno⟩
def fM (g:Gr) (cr:Bool):Ac:=
 if aT g.kd 24<7 then RG g (ni g.c g.a g.d g.d)
 else if aT g.kd 24<13 then ⟨3,aT g.a 3,0,0,0,0,0,0,0,0,0⟩
 else if aT g.kd 24=13 then ⟨4,0,0,aT g.c 20,0,0,0,0,0,0,0⟩
 else if aT g.kd 24=14 then ⟨5,0,0,aT g.c 20,0,0,0,0,0,0,0⟩
 else if aT g.kd 24=15 then ⟨6,0,0,aT g.c 20,0,0,0,0,0,0,0⟩
 else if aT g.kd 24=16 then ⟨10,aT g.a 3,aT g.b 2,0,0,0,0,0,0,0,0⟩
 else if aT g.kd 24=17/\cr=true then ⟨8,aT g.a 3,0,0,aT g.c 120,0,0,0,0,0,0⟩
 else if aT g.kd 24=18/\cr=true then ⟨9,aT g.a 3,0,0,0,0,0,0,0,0,0⟩
 else ⟨7,0,0,0,0,0,0,0,0,0,0⟩
theorem fK {n m:Int} (hn: -9223372036854775808<=n/\n<=9223372036854775807) (hm:0<m) (w:World):
    Calls Tryz.prog 34 #[iV n,iV m] w (λe w'=>e= .returned (iV (aT n m))/\w'=w):=by
 have S:=St.start w;refine gu 13 Tryz.func34 ?_;refine cw [0,1] ?_;refine zN 9 ?_;by_cases h1:n<0
 ·refine zN 6 ?_;refine vv (v:=iV (n+1)) fJ ?_;refine vv (v:=iV (-(n+1))) (aei rfl rfl (awY oQ)) ?_;refine zN 7 ?_;refine vv (v:=iV ((-(n+1)) % m)) (bE rfl rfl rfl (aff oQ hm)) ?_;refine zN 5 ?_;rw [show aT n m=((-(n+1)) % m) from by unfold aT;first | rw [if_pos oQ] | rw [if_neg oQ]];exact ⟨rfl,rfl⟩
 refine zN 10 ?_;refine vv (v:=iV (n % m)) (bE rfl rfl rfl (aff oQ hm)) ?_;refine zN 5 ?_;rw [show aT n m=(n % m) from by unfold aT;first | rw [if_pos oQ] | rw [if_neg oQ]];exact ⟨rfl,rfl⟩
theorem lX {n m:Int} (hn: -9223372036854775808<=n/\n<=9223372036854775807) (hm:0<m) (w:World):
    Calls Tryz.prog 19 #[iV n,iV m] w (λe w'=>e= .returned (iV (aT n m))/\w'=w):=by
 have S:=St.start w;refine gu 8 Tryz.func19 ?_;refine cw [0,1] ?_;refine zN 9 ?_;refine dF eQ (fK hn hm _) ?_;rintro _ w1 ⟨rfl,rfl⟩;refine ⟨_,rfl,?_⟩;refine zN 5 ?_;exact ⟨rfl,rfl⟩
theorem Vm {k a b c:Int} (h1:LH k) (h2:LH a) (h3:LH b) (h4:LH c) (w:World):
    Calls Tryz.prog 35 #[.agg #[iV k,iV a,iV b,iV c]] w (λe w'=>e= .returned (.agg (Ev.cells (ni k a b c)).toArray)/\Below w.heap.size w w'):=by
 have S:=St.start w;refine gu 36 Tryz.func35 ?_;refine cw [0] ?_;refine zN 2 ?_;refine iH S ?_;intro b1 w2 S3;refine gq S3 aaI ?_;intro b4 w5 S6;refine zQ ?_;refine JH (vv (oG 0 Zd) ?_);refine zQ ?_;refine dF Ca (fK (m:=8) h1 (by decide) _) ?_;rintro _ w7 ⟨rfl,rfl⟩;refine ⟨_,rfl,?_⟩;refine zN 5 ?_;have hp:=og (n:=k) (m:=8) (by decide);refine zQ ?_;by_cases h8:(aT k 8)=0
 ·refine zN 9 ?_;have S9:=S6.drew;refine fC 11 10 S9 [] ?_;refine gk (v:= .pointer (some ⟨b1,1,none⟩)) 0 rfl S9 (λ_ _=>oG _ BH) ?_;refine gU ?_;refine gk (v:= .pointer (some ⟨b1,2,none⟩)) 3 rfl S9 (λ_ _=>oG _ BI) ?_;refine gU ?_;refine gk (v:= .pointer (some ⟨b1,3,none⟩)) 6 rfl S9 (λ_ _=>oG _ IU) ?_;refine gU ?_;refine fq (m:=4) (r:=2) (by kernel_rfl) ?_;refine kW (i:=2) rfl rfl (wn rfl) rfl rfl (jd (vs:=[iV a,iV 2]) rfl Ca ⟨rfl,rfl,trivial⟩) (fK (m:=2) h2 (by decide) _) ?_;rintro _ w16 ⟨rfl,rfl⟩;refine ⟨_,rfl,?_⟩;refine gU ?_;refine fq (m:=3) (r:=5) (by kernel_rfl) ?_;refine kW (i:=5) rfl rfl (wn rfl) rfl rfl (jd (vs:=[iV b,iV 24]) rfl Ca ⟨rfl,rfl,trivial⟩) (fK (m:=24) h3 (by decide) _) ?_;rintro _ Lb ⟨rfl,rfl⟩;refine ⟨_,rfl,?_⟩;refine gU ?_;refine fq (m:=2) (r:=8) (by kernel_rfl) ?_;refine kW (i:=8) rfl rfl (wn rfl) rfl rfl (jd (vs:=[iV c,iV 1000]) rfl Ca ⟨rfl,rfl,trivial⟩) (fK (m:=1000) h4 (by decide) _) ?_;rintro _ MX ⟨rfl,rfl⟩;refine ⟨_,rfl,?_⟩;refine gU ?_;refine gk (v:= .agg #[iV 1,iV (aT a 2),iV (aT b 24),iV (aT c 1000),iV 0,iV 0]) 9 rfl S9 (λ_ _=>gD) ?_;refine eU (by kernel_rfl) rfl rfl rfl ?_;refine sa 0 S9 zH ?_;intro ZF tZ;refine zQ ?_;refine iY ?_;refine zN 5 ?_;rw [show ni k a b c=⟨1,(aT a 2),(aT b 24),(aT c 1000),0,0⟩ from by unfold ni;first | rw [if_pos (by omega)] | rw [if_neg (by omega),if_pos (by omega)] | rw [if_neg (by omega),if_neg (by omega),if_pos (by omega)] | rw [if_neg (by omega),if_neg (by omega),if_neg (by omega)]];exact ⟨rfl,tZ.low⟩
 refine zN 7 ?_;by_cases h22:(aT k 8)=1
 ·refine zN 9 ?_;have oh:=S6.drew;refine fC 11 10 oh [] ?_;refine gk (v:= .pointer (some ⟨b1,1,none⟩)) 0 rfl oh (λ_ _=>oG _ BH) ?_;refine gU ?_;refine gk (v:= .pointer (some ⟨b1,2,none⟩)) 3 rfl oh (λ_ _=>oG _ BI) ?_;refine gU ?_;refine gk (v:= .pointer (some ⟨b1,3,none⟩)) 6 rfl oh (λ_ _=>oG _ IU) ?_;refine gU ?_;refine fq (m:=4) (r:=2) (by kernel_rfl) ?_;refine kW (i:=2) rfl rfl (wn rfl) rfl rfl (jd (vs:=[iV a,iV 2]) rfl Ca ⟨rfl,rfl,trivial⟩) (fK (m:=2) h2 (by decide) _) ?_;rintro _ SS ⟨rfl,rfl⟩;refine ⟨_,rfl,?_⟩;refine gU ?_;refine fq (m:=3) (r:=5) (by kernel_rfl) ?_;refine kW (i:=5) rfl rfl (wn rfl) rfl rfl (jd (vs:=[iV b,iV 24]) rfl Ca ⟨rfl,rfl,trivial⟩) (fK (m:=24) h3 (by decide) _) ?_;rintro _ ZI ⟨rfl,rfl⟩;refine ⟨_,rfl,?_⟩;refine gU ?_;refine fq (m:=2) (r:=8) (by kernel_rfl) ?_;refine kW (i:=8) rfl rfl (wn rfl) rfl rfl (jd (vs:=[iV c,iV 1000]) rfl Ca ⟨rfl,rfl,trivial⟩) (fK (m:=1000) h4 (by decide) _) ?_;rintro _ w32 ⟨rfl,rfl⟩;refine ⟨_,rfl,?_⟩;refine gU ?_;refine gk (v:= .agg #[iV 1,iV (aT a 2),iV (aT b 24),iV (aT c 1000),iV 0,iV 0]) 9 rfl oh (λ_ _=>gD) ?_;refine eU (by kernel_rfl) rfl rfl rfl ?_;refine sa 0 oh zH ?_;intro w34 uf;refine zQ ?_;refine iY ?_;refine zN 5 ?_;rw [show ni k a b c=⟨1,(aT a 2),(aT b 24),(aT c 1000),0,0⟩ from by unfold ni;first | rw [if_pos (by omega)] | rw [if_neg (by omega),if_pos (by omega)] | rw [if_neg (by omega),if_neg (by omega),if_pos (by omega)] | rw [if_neg (by omega),if_neg (by omega),if_neg (by omega)]];exact ⟨rfl,uf.low⟩
 refine zN 6 ?_;by_cases zV:(aT k 8)=2
 ·refine zN 6 ?_;have qz:=S6.drew;refine fC 11 10 qz [] ?_;refine gk (v:= .pointer (some ⟨b1,1,none⟩)) 0 rfl qz (λ_ _=>oG _ BH) ?_;refine gU ?_;refine gk (v:= .pointer (some ⟨b1,2,none⟩)) 3 rfl qz (λ_ _=>oG _ BI) ?_;refine gU ?_;refine gk (v:= .pointer (some ⟨b1,3,none⟩)) 6 rfl qz (λ_ _=>oG _ IU) ?_;refine gU ?_;refine fq (m:=4) (r:=2) (by kernel_rfl) ?_;refine kW (i:=2) rfl rfl (wn rfl) rfl rfl (jd (vs:=[iV a,iV 2]) rfl Ca ⟨rfl,rfl,trivial⟩) (fK (m:=2) h2 (by decide) _) ?_;rintro _ QX ⟨rfl,rfl⟩;refine ⟨_,rfl,?_⟩;refine gU ?_;refine fq (m:=3) (r:=5) (by kernel_rfl) ?_;refine kW (i:=5) rfl rfl (wn rfl) rfl rfl (jd (vs:=[iV b,iV 24]) rfl Ca ⟨rfl,rfl,trivial⟩) (fK (m:=24) h3 (by decide) _) ?_;rintro _ w45 ⟨rfl,rfl⟩;refine ⟨_,rfl,?_⟩;refine gU ?_;refine fq (m:=2) (r:=8) (by kernel_rfl) ?_;refine kW (i:=8) rfl rfl (wn rfl) rfl rfl (jd (vs:=[iV c,iV 1000]) rfl Ca ⟨rfl,rfl,trivial⟩) (fK (m:=1000) h4 (by decide) _) ?_;rintro _ VW ⟨rfl,rfl⟩;refine ⟨_,rfl,?_⟩;refine gU ?_;refine gk (v:= .agg #[iV 1,iV (aT a 2),iV (aT b 24),iV (aT c 1000),iV 0,iV 0]) 9 rfl qz (λ_ _=>gD) ?_;refine eU (by kernel_rfl) rfl rfl rfl ?_;refine sa 0 qz zH ?_;intro ZG uF;refine zQ ?_;refine iY ?_;refine zN 5 ?_;rw [show ni k a b c=⟨1,(aT a 2),(aT b 24),(aT c 1000),0,0⟩ from by unfold ni;first | rw [if_pos (by omega)] | rw [if_neg (by omega),if_pos (by omega)] | rw [if_neg (by omega),if_neg (by omega),if_pos (by omega)] | rw [if_neg (by omega),if_neg (by omega),if_neg (by omega)]];exact ⟨rfl,uF.low⟩
 refine zN 8 ?_;by_cases h50:(aT k 8)=3
 ·refine zN 10 ?_;refine vv (v:= .agg #[iV 2,iV 0,iV 0,iV 0,iV 0,iV 0]) gD ?_;refine sa 0 S6 zH ?_;intro SX lU;refine zN 6 ?_;rw [show ni k a b c=⟨2,0,0,0,0,0⟩ from by unfold ni;first | rw [if_pos (by omega)] | rw [if_neg (by omega),if_pos (by omega)] | rw [if_neg (by omega),if_neg (by omega),if_pos (by omega)] | rw [if_neg (by omega),if_neg (by omega),if_neg (by omega)]];exact ⟨rfl,lU.low⟩
 refine zN 6 ?_;by_cases h53:(aT k 8)=4
 ·refine zN 7 ?_;refine vv (v:= .agg #[iV 2,iV 0,iV 0,iV 0,iV 0,iV 0]) gD ?_;refine sa 0 S6 zH ?_;intro w54 uY;refine zN 6 ?_;rw [show ni k a b c=⟨2,0,0,0,0,0⟩ from by unfold ni;first | rw [if_pos (by omega)] | rw [if_neg (by omega),if_pos (by omega)] | rw [if_neg (by omega),if_neg (by omega),if_pos (by omega)] | rw [if_neg (by omega),if_neg (by omega),if_neg (by omega)]];exact ⟨rfl,uY.low⟩
 refine zN 8 ?_;by_cases h56:(aT k 8)=5
 ·refine zN 9 ?_;have qW:=S6.drew;refine fC 9 8 qW [] ?_;refine gk (v:= .pointer (some ⟨b1,1,none⟩)) 0 rfl qW (λ_ _=>oG _ BH) ?_;refine gU ?_;refine gk (v:= .pointer (some ⟨b1,2,none⟩)) 3 rfl qW (λ_ _=>oG _ BI) ?_;refine gU ?_;refine fq (m:=4) (r:=2) (by kernel_rfl) ?_;refine kW (i:=2) rfl rfl (wn rfl) rfl rfl (jd (vs:=[iV a,iV 3]) rfl Ca ⟨rfl,rfl,trivial⟩) (fK (m:=3) h2 (by decide) _) ?_;rintro _ VQ ⟨rfl,rfl⟩;refine ⟨_,rfl,?_⟩;refine gU ?_;refine fq (m:=3) (r:=5) (by kernel_rfl) ?_;refine kW (i:=5) rfl rfl (wn rfl) rfl rfl (jd (vs:=[iV b,iV 6]) rfl Ca ⟨rfl,rfl,trivial⟩) (fK (m:=6) h3 (by decide) _) ?_;rintro _ w63 ⟨rfl,rfl⟩;refine ⟨_,rfl,?_⟩;refine gU ?_;refine gk (v:= .agg #[iV (aT a 3),iV (aT b 6)]) 6 rfl qW (λ_ _=>gD) ?_;refine gk (v:= .agg #[iV 3,iV 0,iV 0,iV 0,iV (aT a 3),iV (aT b 6)]) 7 rfl qW (λ_ _=>gD) ?_;refine eU (by kernel_rfl) rfl rfl rfl ?_;refine sa 0 qW zH ?_;intro VL uD;refine zQ ?_;refine iY ?_;refine zN 5 ?_;rw [show ni k a b c=⟨3,0,0,0,(aT a 3),(aT b 6)⟩ from by unfold ni;first | rw [if_pos (by omega)] | rw [if_neg (by omega),if_pos (by omega)] | rw [if_neg (by omega),if_neg (by omega),if_pos (by omega)] | rw [if_neg (by omega),if_neg (by omega),if_neg (by omega)]];exact ⟨rfl,uD.low⟩
 refine zN 6 ?_;by_cases h68:(aT k 8)=6
 ·refine zN 6 ?_;have uE:=S6.drew;refine fC 9 8 uE [] ?_;refine gk (v:= .pointer (some ⟨b1,1,none⟩)) 0 rfl uE (λ_ _=>oG _ BH) ?_;refine gU ?_;refine gk (v:= .pointer (some ⟨b1,2,none⟩)) 3 rfl uE (λ_ _=>oG _ BI) ?_;refine gU ?_;refine fq (m:=4) (r:=2) (by kernel_rfl) ?_;refine kW (i:=2) rfl rfl (wn rfl) rfl rfl (jd (vs:=[iV a,iV 3]) rfl Ca ⟨rfl,rfl,trivial⟩) (fK (m:=3) h2 (by decide) _) ?_;rintro _ w74 ⟨rfl,rfl⟩;refine ⟨_,rfl,?_⟩;refine gU ?_;refine fq (m:=3) (r:=5) (by kernel_rfl) ?_;refine kW (i:=5) rfl rfl (wn rfl) rfl rfl (jd (vs:=[iV b,iV 6]) rfl Ca ⟨rfl,rfl,trivial⟩) (fK (m:=6) h3 (by decide) _) ?_;rintro _ w75 ⟨rfl,rfl⟩;refine ⟨_,rfl,?_⟩;refine gU ?_;refine gk (v:= .agg #[iV (aT a 3),iV (aT b 6)]) 6 rfl uE (λ_ _=>gD) ?_;refine gk (v:= .agg #[iV 3,iV 0,iV 0,iV 0,iV (aT a 3),iV (aT b 6)]) 7 rfl uE (λ_ _=>gD) ?_;refine eU (by kernel_rfl) rfl rfl rfl ?_;refine sa 0 uE zH ?_;intro w78 Ci;refine zQ ?_;refine iY ?_;refine zN 5 ?_;rw [show ni k a b c=⟨3,0,0,0,(aT a 3),(aT b 6)⟩ from by unfold ni;first | rw [if_pos (by omega)] | rw [if_neg (by omega),if_pos (by omega)] | rw [if_neg (by omega),if_neg (by omega),if_pos (by omega)] | rw [if_neg (by omega),if_neg (by omega),if_neg (by omega)]];exact ⟨rfl,Ci.low⟩
 refine zN 10 ?_;refine vv (v:= .agg #[iV 4,iV 0,iV 0,iV 0,iV 0,iV 0]) gD ?_;refine sa 0 S6 zH ?_;intro w80 tV;refine zN 4 ?_;rw [show ni k a b c=⟨4,0,0,0,0,0⟩ from by unfold ni;first | rw [if_pos (by omega)] | rw [if_neg (by omega),if_pos (by omega)] | rw [if_neg (by omega),if_neg (by omega),if_pos (by omega)] | rw [if_neg (by omega),if_neg (by omega),if_neg (by omega)]];exact ⟨rfl,tV.low⟩
theorem Vn {k a b c:Int} (h1:LH k) (h2:LH a) (h3:LH b) (h4:LH c) (w:World):
    Calls Tryz.prog 20 #[.agg #[iV k,iV a,iV b,iV c]] w (λe w'=>e= .returned (.agg (Ev.cells (ni k a b c)).toArray)/\Below w.heap.size w w'):=by
 have S:=St.start w;refine gu 5 Tryz.func20 ?_;refine cw [0] ?_;refine zN 2 ?_;refine iH S ?_;intro b1 w2 S3;refine gq S3 aaI ?_;intro b4 w5 S6;refine zQ ?_;refine Ww (vv (aj rfl rfl (oH 1 S6 rfl Tryz.underlying93 rfl kQ rfl)) ?_);refine cab eQ S6 (Vm h1 h2 h3 h4 _) ?_;intro w7 S8;refine sa 0 S8 kQ ?_;intro ZE qI;refine zN 4 ?_;exact ⟨rfl,qI.low⟩
theorem acE {g:Gr} (h:g.ok) (cr:Bool) (w:World):
    Calls Tryz.prog 14 #[.agg #[iV g.kd,iV g.a,iV g.b,iV g.c,iV g.d],.bool cr] w (λe w'=>e= .returned (.agg (Ac.cells (fM g cr)).toArray)/\Below w.heap.size w w'):=by
 have S:=St.start w;refine gu 91 Tryz.func14 ?_;refine cw [0,1] ?_;refine zN 2 ?_;refine iH S ?_;intro b1 w2 S3;refine gq S3 ahW ?_;intro b4 w5 S6;refine zQ ?_;refine Ww (vv (oG 1 P7) ?_);refine zQ ?_;refine dF RX (lX (m:=3) h.2.1 (by decide) _) ?_;rintro _ w7 ⟨rfl,rfl⟩;refine ⟨_,rfl,?_⟩;refine zN 2 ?_;refine Ww (vv (oG 2 Zb) ?_);refine zQ ?_;refine dF RX (lX (m:=2) h.2.2.1 (by decide) _) ?_;rintro _ w8 ⟨rfl,rfl⟩;refine ⟨_,rfl,?_⟩;refine zN 2 ?_;refine JH (vv (oG 0 Za) ?_);refine zQ ?_;refine dF RX (lX (m:=24) h.1 (by decide) _) ?_;rintro _ w9 ⟨rfl,rfl⟩;refine ⟨_,rfl,?_⟩;refine zN 7 ?_;by_cases h10:(aT g.kd 24)<7
 ·refine zN 3 ?_;refine C8 (vv (oG 3 BG) ?_);refine zQ ?_;refine vv (oG 1 P7) ?_;refine zQ ?_;refine vv (oG 4 P8) ?_;refine zQ ?_;refine vv (oG 4 P8) ?_;refine zQ ?_;refine vv (v:= .agg #[iV g.c,iV g.a,iV g.d,iV g.d]) gD ?_;refine cab azp S6 (Vn h.2.2.2.1 h.2.1 h.2.2.2.2 h.2.2.2.2 _) ?_;intro GI l5;refine gq l5 aaI ?_;intro b14 JV lV;refine sa 0 lV zH ?_;intro Lb jc;refine zN 7 ?_;by_cases h19:(ni g.c g.a g.d g.d).kind=4
  ·refine zN 6 ?_;refine Hz 0 jc asO ?_;intro ZF tZ;refine zN 7 ?_;refine vv (v:= .agg #[iV 2,iV (aT g.a 3),iV (aT g.b 2),iV 0,iV 0,iV 2,iV ((ni g.c g.a g.d g.d).producer),iV ((ni g.c g.a g.d g.d).id),iV ((ni g.c g.a g.d g.d).body),iV ((ni g.c g.a g.d g.d).aG),iV ((ni g.c g.a g.d g.d).hno)]) gD ?_;refine sa 1 tZ uy ?_;intro w22 oh;refine zN 6 ?_;rw [show fM g cr=⟨2,(aT g.a 3),(aT g.b 2),0,0,2,(ni g.c g.a g.d g.d).producer,(ni g.c g.a g.d g.d).id,(ni g.c g.a g.d g.d).body,(ni g.c g.a g.d g.d).aG,(ni g.c g.a g.d g.d).hno⟩ from by unfold fM;rw [if_pos (by omega),RG,if_pos (by assumption)]];exact ⟨rfl,oh.low⟩
  refine zN 11 ?_;refine vv (v:= .agg #[iV 2,iV (aT g.a 3),iV (aT g.b 2),iV 0,iV 0,iV ((ni g.c g.a g.d g.d).kind),iV ((ni g.c g.a g.d g.d).producer),iV ((ni g.c g.a g.d g.d).id),iV ((ni g.c g.a g.d g.d).body),iV ((ni g.c g.a g.d g.d).aG),iV ((ni g.c g.a g.d g.d).hno)]) gD ?_;refine sa 1 jc uy ?_;intro Oq jE;refine zN 6 ?_;rw [show fM g cr=⟨2,(aT g.a 3),(aT g.b 2),0,0,(ni g.c g.a g.d g.d).kind,(ni g.c g.a g.d g.d).producer,(ni g.c g.a g.d g.d).id,(ni g.c g.a g.d g.d).body,(ni g.c g.a g.d g.d).aG,(ni g.c g.a g.d g.d).hno⟩ from by unfold fM;rw [if_pos (by omega),RG,if_neg (by assumption)]];exact ⟨rfl,jE.low⟩
 refine zN 8 ?_;by_cases h26:(aT g.kd 24)<13
 ·refine zN 8 ?_;refine vv (v:= .agg #[iV 3,iV (aT g.a 3),iV 0,iV 0,iV 0,iV 0,iV 0,iV 0,iV 0,iV 0,iV 0]) gD ?_;refine sa 0 S6 uy ?_;intro MW qy;refine zN 6 ?_;rw [show fM g cr=⟨3,(aT g.a 3),0,0,0,0,0,0,0,0,0⟩ from by unfold fM;rw [if_neg (by omega),if_pos (by omega)]];exact ⟨rfl,qy.low⟩
 refine zN 8 ?_;by_cases h29:(aT g.kd 24)=13
 ·refine zN 3 ?_;refine C8 (vv (oG 3 BG) ?_);refine zQ ?_;refine dF RX (lX (m:=20) h.2.2.2.1 (by decide) _) ?_;rintro _ SS ⟨rfl,rfl⟩;refine ⟨_,rfl,?_⟩;refine vv (v:= .agg #[iV 4,iV 0,iV 0,iV (aT g.c 20),iV 0,iV 0,iV 0,iV 0,iV 0,iV 0,iV 0]) gD ?_;refine sa 0 S6 uy ?_;intro ZI pU;refine zN 6 ?_;rw [show fM g cr=⟨4,0,0,(aT g.c 20),0,0,0,0,0,0,0⟩ from by unfold fM;rw [if_neg (by omega),if_neg (by omega),if_pos (by omega)]];exact ⟨rfl,pU.low⟩
 refine zN 8 ?_;by_cases h33:(aT g.kd 24)=14
 ·refine zN 3 ?_;refine C8 (vv (oG 3 BG) ?_);refine zQ ?_;refine dF RX (lX (m:=20) h.2.2.2.1 (by decide) _) ?_;rintro _ w34 ⟨rfl,rfl⟩;refine ⟨_,rfl,?_⟩;refine vv (v:= .agg #[iV 5,iV 0,iV 0,iV (aT g.c 20),iV 0,iV 0,iV 0,iV 0,iV 0,iV 0,iV 0]) gD ?_;refine sa 0 S6 uy ?_;intro VO nQ;refine zN 6 ?_;rw [show fM g cr=⟨5,0,0,(aT g.c 20),0,0,0,0,0,0,0⟩ from by unfold fM;rw [if_neg (by omega),if_neg (by omega),if_neg (by omega),if_pos (by omega)]];exact ⟨rfl,nQ.low⟩
 refine zN 8 ?_;by_cases h37:(aT g.kd 24)=15
 ·refine zN 3 ?_;refine C8 (vv (oG 3 BG) ?_);refine zQ ?_;refine dF RX (lX (m:=20) h.2.2.2.1 (by decide) _) ?_;rintro _ w38 ⟨rfl,rfl⟩;refine ⟨_,rfl,?_⟩;refine vv (v:= .agg #[iV 6,iV 0,iV 0,iV (aT g.c 20),iV 0,iV 0,iV 0,iV 0,iV 0,iV 0,iV 0]) gD ?_;refine sa 0 S6 uy ?_;intro w39 rY;refine zN 6 ?_;rw [show fM g cr=⟨6,0,0,(aT g.c 20),0,0,0,0,0,0,0⟩ from by unfold fM;rw [if_neg (by omega),if_neg (by omega),if_neg (by omega),if_neg (by omega),if_pos (by omega)]];exact ⟨rfl,rY.low⟩
 refine zN 8 ?_;by_cases h41:(aT g.kd 24)=16
 ·refine zN 9 ?_;refine vv (v:= .agg #[iV 10,iV (aT g.a 3),iV (aT g.b 2),iV 0,iV 0,iV 0,iV 0,iV 0,iV 0,iV 0,iV 0]) gD ?_;refine sa 0 S6 uy ?_;intro VJ tT;refine zN 6 ?_;rw [show fM g cr=⟨10,(aT g.a 3),(aT g.b 2),0,0,0,0,0,0,0,0⟩ from by unfold fM;rw [if_neg (by omega),if_neg (by omega),if_neg (by omega),if_neg (by omega),if_neg (by omega),if_pos (by omega)]];exact ⟨rfl,tT.low⟩
 refine zN 6 ?_;have hp:=og (n:=g.kd) (m:=24) (by decide)
 cases cr with
 | false=>
  refine zN 2 ?_;by_cases h44:(aT g.kd 24)=17
  ·refine zN 24 ?_;refine vv (v:= .agg #[iV 7,iV 0,iV 0,iV 0,iV 0,iV 0,iV 0,iV 0,iV 0,iV 0,iV 0]) gD ?_;refine sa 0 S6 uy ?_;intro w45 rX;refine zN 4 ?_;rw [show fM g false=⟨7,0,0,0,0,0,0,0,0,0,0⟩ from by unfold fM;rw [if_neg (by omega),if_neg (by omega),if_neg (by omega),if_neg (by omega),if_neg (by omega),if_neg (by omega),if_neg (λh=>by have:=h.2;cases this),if_neg (λh=>by have:=h.2;cases this)]];exact ⟨rfl,rX.low⟩
  refine zN 11 ?_;by_cases h47:(aT g.kd 24)=18
  ·refine zN 13 ?_;refine vv (v:= .agg #[iV 7,iV 0,iV 0,iV 0,iV 0,iV 0,iV 0,iV 0,iV 0,iV 0,iV 0]) gD ?_;refine sa 0 S6 uy ?_;intro ZG uF;refine zN 4 ?_;rw [show fM g false=⟨7,0,0,0,0,0,0,0,0,0,0⟩ from by unfold fM;rw [if_neg (by omega),if_neg (by omega),if_neg (by omega),if_neg (by omega),if_neg (by omega),if_neg (by omega),if_neg (λh=>by have:=h.2;cases this),if_neg (λh=>by have:=h.2;cases this)]];exact ⟨rfl,uF.low⟩
  refine zN 13 ?_;refine vv (v:= .agg #[iV 7,iV 0,iV 0,iV 0,iV 0,iV 0,iV 0,iV 0,iV 0,iV 0,iV 0]) gD ?_;refine sa 0 S6 uy ?_;intro VK uX;refine zN 4 ?_;rw [show fM g false=⟨7,0,0,0,0,0,0,0,0,0,0⟩ from by unfold fM;rw [if_neg (by omega),if_neg (by omega),if_neg (by omega),if_neg (by omega),if_neg (by omega),if_neg (by omega),if_neg (λh=>by have:=h.2;cases this),if_neg (λh=>by have:=h.2;cases this)]];exact ⟨rfl,uX.low⟩
 | true=>
  refine zN 2 ?_;by_cases h52:(aT g.kd 24)=17
  ·refine zN 11 ?_;refine vv (oG 3 BG) ?_;refine zQ ?_;refine dF RX (lX (m:=120) h.2.2.2.1 (by decide) _) ?_;rintro _ w53 ⟨rfl,rfl⟩;refine ⟨_,rfl,?_⟩;refine vv (v:= .agg #[iV 8,iV (aT g.a 3),iV 0,iV 0,iV (aT g.c 120),iV 0,iV 0,iV 0,iV 0,iV 0,iV 0]) gD ?_;refine sa 0 S6 uy ?_;intro w54 uY;refine zN 6 ?_;rw [show fM g true=⟨8,(aT g.a 3),0,0,(aT g.c 120),0,0,0,0,0,0⟩ from by unfold fM;rw [if_neg (by omega),if_neg (by omega),if_neg (by omega),if_neg (by omega),if_neg (by omega),if_neg (by omega),if_pos ⟨by omega,rfl⟩]];exact ⟨rfl,uY.low⟩
  refine zN 11 ?_;by_cases h56:(aT g.kd 24)=18
  ·refine zN 11 ?_;refine vv (v:= .agg #[iV 9,iV (aT g.a 3),iV 0,iV 0,iV 0,iV 0,iV 0,iV 0,iV 0,iV 0,iV 0]) gD ?_;refine sa 0 S6 uy ?_;intro w57 D6;refine zN 6 ?_;rw [show fM g true=⟨9,(aT g.a 3),0,0,0,0,0,0,0,0,0⟩ from by unfold fM;rw [if_neg (by omega),if_neg (by omega),if_neg (by omega),if_neg (by omega),if_neg (by omega),if_neg (by omega),if_neg (λh=>by have:=h.1;omega),if_pos ⟨by omega,rfl⟩]];exact ⟨rfl,D6.low⟩
  refine zN 13 ?_;refine vv (v:= .agg #[iV 7,iV 0,iV 0,iV 0,iV 0,iV 0,iV 0,iV 0,iV 0,iV 0,iV 0]) gD ?_;refine sa 0 S6 uy ?_;intro w59 VX;refine zN 4 ?_;rw [show fM g true=⟨7,0,0,0,0,0,0,0,0,0,0⟩ from by unfold fM;rw [if_neg (by omega),if_neg (by omega),if_neg (by omega),if_neg (by omega),if_neg (by omega),if_neg (by omega),if_neg (λh=>by have:=h.1;omega),if_neg (λh=>by have:=h.1;omega)]];exact ⟨rfl,VX.low⟩
theorem arU (x:Ac): ∀ u∈x.cells,u.oneCell'=true:=bM rfl
theorem ag6 (l:List Ac): ∀ u∈l.flatMap Ac.cells,u.oneCell'=true:=by
 intro u hu;rw [List.mem_flatMap] at hu;obtain ⟨z,_,hz⟩:=hu;exact arU z u hz
def TL (k n:Int):Ac:=⟨k,n,0,0,0,0,0,0,0,0,0⟩
def mks:List Ac:=[⟨1,0,0,0,0,0,0,0,0,0,0⟩,⟨1,1,1,0,0,0,0,0,0,0,0⟩]
def cK (gs:List Gr) (m:Nat) (cr:Bool):List Ac:=mks++(gs.take m).map (fM · cr)
theorem Vo {gs:List Gr} {k:Nat} {g:Gr} {cr:Bool} (h:gs[k]? =some g):cK gs (k+1) cr=cK gs k cr++[fM g cr]:=by
 unfold cK;rw [List.take_add_one,h];simp
theorem LJ {gs:List Gr} {k m:Nat} {cr:Bool} (h1:k<=gs.length) (h2:k<=m) (h3:k=gs.length\/k=m):cK gs k cr=cK gs m cr:=by
 rcases h3 with rfl | rfl
 ·unfold cK;rw [List.take_of_length_le (Nat.le_refl _),List.take_of_length_le h2]
 rfl
theorem LK {gs:List Gr} {k:Nat} {cr:Bool} (h:k<=gs.length):(cK gs k cr).length=2+k:=by
 unfold cK mks;simp;omega
def starts (k:Nat):List Ac:=(List.range k).map λ(n:Nat)=>TL 9 (n:Int)
def steps (k:Nat):List Ac:=(List.range k).map λ(n:Nat)=>TL 3 (n:Int)
def xg:Nat->List Ac
 | 0=>[]
 | i+1=>xg i++steps 5++[TL 7 0]
theorem Ir (k:Nat):starts (k+1)=starts k++[TL 9 (k:Int)]:=by unfold starts;rw [List.range_succ,List.map_append];rfl
theorem YD (k:Nat):steps (k+1)=steps k++[TL 3 (k:Int)]:=by unfold steps;rw [List.range_succ,List.map_append];rfl
theorem G9 (i:Nat):xg (i+1)=xg i++steps 5++[TL 7 0]:=rfl
theorem Kz: ∀ i,(xg i).length=6*i
 | 0=>rfl
 | i+1=>by rw [xg,List.length_append,List.length_append,Kz i];simp [steps];omega
def kE (l:List Ac) (r:Nat):List Ac:=l++starts 5++xg r
theorem TM {l:List Ac} {r:Nat}:(kE l r).length=l.length+5+6*r:=by
 unfold kE;rw [List.length_append,List.length_append,Kz];simp [starts]
theorem RH {gs:List Gr} {A:Option Addr} {c m:Nat} {cr:Bool} (hm:m<=1000) (hg: ∀ g∈gs,g.ok) (w:World) (h:Rd w w.heap.size 5 A gs.length (gs.flatMap Gr.cells)):
    Calls Tryz.prog 5 #[.slice A gs.length c,iV ((m:Nat):Int),.bool cr] w (λe w'=> ∃ A' c',e= .returned (.slice A' ((cK gs m cr).length) c')/\St w.heap.size w w' [.own 71 11 (.slice A' ((cK gs m cr).length) c') ((cK gs m cr).length) ((cK gs m cr).flatMap Ac.cells)]):=by
 have S:=(St.start w).bL h;refine gu 35 Tryz.func5 ?_;refine cw [0,1,2] ?_;refine zN 7 ?_;refine vv (v:= .agg #[iV 1,iV 0,iV 0,iV 0,iV 0,iV 0,iV 0,iV 0,iV 0,iV 0,iV 0]) gD ?_;refine vv (v:= .agg #[iV 1,iV 1,iV 1,iV 0,iV 0,iV 0,iV 0,iV 0,iV 0,iV 0,iV 0]) gD ?_;refine oM (V:=λb=> .slice (some ⟨b,0,none⟩) 2 2) (row:=(mks.flatMap Ac.cells).toArray) (t:=71) (n:=2) (s:=11) (xs:=mks.flatMap Ac.cells) S (wn rfl) rfl rfl (aS (vs:=[(0,.agg #[iV 1,iV 0,iV 0,iV 0,iV 0,iV 0,iV 0,iV 0,iV 0,iV 0,iV 0]),(1,.agg #[iV 1,iV 1,iV 1,iV 0,iV 0,iV 0,iV 0,iV 0,iV 0,iV 0,iV 0])]) rfl ji kQ) rfl dQ rfl ?_;intro b1 w2 S3;refine zN 10 ?_;refine dN (X:=Nat×(Option Addr)×Nat) (λxv=>[(0,.slice A gs.length c),(1,iV ((m:Nat):Int)),(2,.bool cr),(6,.slice none 0 0),(7,.slice xv.2.1 (2+xv.1) xv.2.2),(8,iV ((xv.1:Nat):Int))]) (λxv wr=>(xv.1<=gs.length)/\(xv.1<=m)/\St w.heap.size w wr [.own 71 11 (.slice xv.2.1 (2+xv.1) xv.2.2) (2+xv.1) ((cK gs xv.1 cr).flatMap Ac.cells),.rd 5 A gs.length ((gs).flatMap Gr.cells)]) (λxv=>gs.length-xv.1) (0,(some ⟨b1,0,none⟩),2) ?_ ?_ ?_
 ·exact ⟨Nat.zero_le _,Nat.zero_le _,S3⟩
 ·exact rP
 rintro ⟨k,Ab,cb⟩ w4 ⟨hi6,Aw,S5⟩
 try dsimp only at hi6 Aw S5
 refine aZ (l':=[(0,.slice A gs.length c),(1,iV ((m:Nat):Int)),(2,.bool cr),(6,.slice none 0 0),(7,.slice Ab (2+k) cb),(8,iV ((k:Nat):Int))]) rP (aH (aH (ay (vm ?_))));refine zQ ?_;refine vv (v:=iV ((gs.length:Nat):Int)) (qR (vs:=[.slice A gs.length c]) rfl tU1 λ_=>amg rfl Tryz.underlying22) ?_;by_cases h8:((k:Nat):Int)< ((gs.length:Nat):Int)
 ·refine zN 4 ?_;by_cases h9:((k:Nat):Int)< ((m:Nat):Int)
  ·refine zN 13 ?_;obtain ⟨b10,o11,rfl⟩:=Rd.addr (St.rd 1 S5 rfl) oQ;obtain ⟨Dh,aoV⟩:=DT k (St.rd 1 S5 rfl) oQ;refine vv (v:= .pointer (some ⟨b10,o11+k*5,none⟩)) (aR rfl rfl rfl (lF k Tryz.underlying22 kQ oQ oQ)) ?_;refine vv (aj rfl rfl (cZ (cs:=Gr.cells Dh) (Rd.uq (St.rd 1 S5 rfl) (λ_ _ h=>aW (enc:=Gr.cells) (sz:=5) (λ_=>rfl) aoV h)))) ?_;refine zQ ?_;refine cab eQ S5 (acE (hg _ (List.mem_of_getElem? aoV)) cr _) ?_;intro JO iG;refine gq iG ahW ?_;intro b17 MX mq;refine sa 0 mq kQ ?_;intro ZF tZ;refine zN 5 ?_;refine NY tZ ?_;intro Ta H9 iP;refine dx (news:=[iV ((fM Dh cr).kd),iV ((fM Dh cr).nd),iV ((fM Dh cr).qu),iV ((fM Dh cr).at_),iV ((fM Dh cr).kp),iV ((fM Dh cr).ek),iV ((fM Dh cr).ep),iV ((fM Dh cr).ei),iV ((fM Dh cr).eb),iV ((fM Dh cr).eh),iV ((fM Dh cr).en)]) (xs':=(cK gs (k+1) cr).flatMap Ac.cells) 2 iP (wn rfl) rfl rfl rfl rfl rfl rfl (St.lD (xs:=[iV ((fM Dh cr).kd),iV ((fM Dh cr).nd),iV ((fM Dh cr).qu),iV ((fM Dh cr).at_),iV ((fM Dh cr).kp),iV ((fM Dh cr).ek),iV ((fM Dh cr).ep),iV ((fM Dh cr).ei),iV ((fM Dh cr).eb),iV ((fM Dh cr).eh),iV ((fM Dh cr).en)]) 0 iP rfl rfl rfl) Tryz.underlying23 JI rfl dQ (bM rfl) lQ oQ (iU (enc:=Ac.cells) (Vo aoV).symm rfl) ?_;intro A25 c26 MW hc29 aAW qy;refine zN 6 ?_;refine vv (v:=iV ((k+1:Nat):Int)) fJ ?_;refine zN 2 ?_;have kV:=qy.aP [1,0];refine aM (k+1,A25,c26) ?_ rP (by first | omega | (dsimp only;omega));exact ⟨uQ,uQ,kV⟩
  refine zN 18 ?_;have pU:=S5.aP [1];rw [show cK gs m cr=cK gs k cr from (LJ oQ oQ oQ).symm,LK oQ];exact ⟨Ab,cb,rfl,pU⟩
 refine zN 22 ?_;have rW:=S5.aP [1];rw [show cK gs m cr=cK gs k cr from (LJ oQ oQ oQ).symm,LK oQ];exact ⟨Ab,cb,rfl,rW⟩
theorem YE {l:List Ac} {A:Option Addr} {c r:Nat} (hr:r<=100000) (hl:l.length<=100000) (w:World) (h:Rd w w.heap.size 11 A l.length (l.flatMap Ac.cells)):
    Calls Tryz.prog 7 #[.slice A l.length c,iV ((r:Nat):Int)] w (λe w'=> ∃ A' c',e= .returned (.slice A' ((kE l r).length) c')/\St w.heap.size w w' [.own 71 11 (.slice A' ((kE l r).length) c') ((kE l r).length) ((kE l r).flatMap Ac.cells)]):=by
 have S:=(St.start w).bL h;refine gu 39 Tryz.func7 ?_;refine cw [0,1] ?_;refine zN 6 ?_;have S1:=S.nil 71 11;refine zN 2 ?_;refine dx (news:=(l).flatMap Ac.cells) (xs':=(l).flatMap Ac.cells) 0 S1 (wn rfl) rfl rfl rfl rfl rfl rfl (St.rd 1 S1 rfl) Tryz.underlying23 JI rfl dQ (ag6 _) lQ oQ iQ ?_;intro A2 c3 w4 hc6 ZT S5;refine zN 10 ?_;refine dN (X:=Nat×Nat×(Option Addr)×Nat) (λxv=>[(1,iV ((r:Nat):Int)),(4,.slice none 0 0),(5,.slice xv.2.2.1 xv.2.1 xv.2.2.2),(6,iV ((xv.1:Nat):Int))]) (λxv wr=>(xv.1<=5)/\(xv.2.1=l.length+xv.1)/\St w.heap.size w wr [.own 71 11 (.slice xv.2.2.1 xv.2.1 xv.2.2.2) xv.2.1 ((l++starts xv.1).flatMap Ac.cells),.rd 11 A l.length ((l).flatMap Ac.cells)]) (λxv=>5-xv.1) (0,0+l.length,A2,c3) ?_ ?_ ?_
 ·exact ⟨Nat.zero_le _,by dsimp only;omega,by dsimp only;rw [show l++starts 0=l from List.append_nil l];exact S5⟩
 ·exact ji
 rintro ⟨k,nb,Ab,cb⟩ w8 ⟨oz,Mh,S9⟩
 try dsimp only at oz Mh S9
 refine aZ (l':=[(1,iV ((r:Nat):Int)),(4,.slice none 0 0),(5,.slice Ab nb cb),(6,iV ((k:Nat):Int))]) ji (aH (aH (ay (vm ?_))));by_cases h12:((k:Nat):Int)<5
 ·refine zN 11 ?_;refine vv (v:= .agg #[iV 9,iV ((k:Nat):Int),iV 0,iV 0,iV 0,iV 0,iV 0,iV 0,iV 0,iV 0,iV 0]) gD ?_;refine NY S9 ?_;intro b13 JO iG;refine dx (news:=[iV 9,iV ((k:Nat):Int),iV 0,iV 0,iV 0,iV 0,iV 0,iV 0,iV 0,iV 0,iV 0]) (xs':=(l++starts (k+1)).flatMap Ac.cells) 1 iG (wn rfl) rfl rfl rfl rfl rfl rfl (St.lD (xs:=[iV 9,iV ((k:Nat):Int),iV 0,iV 0,iV 0,iV 0,iV 0,iV 0,iV 0,iV 0,iV 0]) 0 iG rfl rfl rfl) Tryz.underlying23 JI rfl dQ (bM rfl) lQ oQ (iU (enc:=Ac.cells) (by rw [Ir,List.append_assoc]) rfl) ?_;intro A16 c17 MX at1 at5 mq;refine zN 6 ?_;refine vv (v:=iV ((k+1:Nat):Int)) fJ ?_;refine zN 2 ?_;have iX:=mq.aP [0];refine aM (k+1,nb+1,A16,c17) ?_ ji (by first | omega | (dsimp only;omega));exact ⟨uQ,uQ,iX⟩
 refine zN 16 ?_;obtain rfl:k=5:=oQ;refine dN (X:=Nat×Nat×(Option Addr)×Nat) (λxv=>[(1,iV ((r:Nat):Int)),(4,.slice none 0 0),(5,.slice xv.2.2.1 xv.2.1 xv.2.2.2),(7,iV ((xv.1:Nat):Int))]) (λxv wr=>(xv.1<=r)/\(xv.2.1=l.length+5+6*xv.1)/\St w.heap.size w wr [.own 71 11 (.slice xv.2.2.1 xv.2.1 xv.2.2.2) xv.2.1 ((l++starts 5++xg xv.1).flatMap Ac.cells),.rd 11 A l.length ((l).flatMap Ac.cells)]) (λxv=>r-xv.1) (0,nb,Ab,cb) ?_ ?_ ?_
 ·exact ⟨Nat.zero_le _,by dsimp only;omega,by dsimp only;rw [show l++starts 5++xg 0=l++starts 5 from List.append_nil _];exact S9⟩
 ·exact ji
 rintro ⟨i,nb,Ab,cb⟩ H9 ⟨acF,aCv,iP⟩
 try dsimp only at acF aCv iP
 refine aZ (l':=[(1,iV ((r:Nat):Int)),(4,.slice none 0 0),(5,.slice Ab nb cb),(7,iV ((i:Nat):Int))]) ji (aH (aH (ay (vm ?_))));refine zQ ?_;by_cases h27:((i:Nat):Int)< ((r:Nat):Int)
 ·refine zN 15 ?_;refine dN (X:=Nat×Nat×(Option Addr)×Nat) (λxv=>[(1,iV ((r:Nat):Int)),(4,.slice none 0 0),(7,iV ((i:Nat):Int)),(5,.slice xv.2.2.1 xv.2.1 xv.2.2.2),(8,iV ((xv.1:Nat):Int))]) (λxv wr=>(xv.1<=5)/\(xv.2.1=l.length+5+6*i+xv.1)/\St w.heap.size w wr [.own 71 11 (.slice xv.2.2.1 xv.2.1 xv.2.2.2) xv.2.1 ((l++starts 5++xg i++steps xv.1).flatMap Ac.cells),.rd 11 A l.length ((l).flatMap Ac.cells)]) (λxv=>5-xv.1) (0,nb,Ab,cb) ?_ ?_ ?_
  ·exact ⟨Nat.zero_le _,by dsimp only;omega,by dsimp only;rw [show l++starts 5++xg i++steps 0=l++starts 5++xg i from List.append_nil _];exact iP⟩
  ·exact vJ
  rintro ⟨j,nb,Ab,cb⟩ VN ⟨aCw,acG,qH⟩
  try dsimp only at aCw acG qH
  refine aZ (l':=[(1,iV ((r:Nat):Int)),(4,.slice none 0 0),(7,iV ((i:Nat):Int)),(5,.slice Ab nb cb),(8,iV ((j:Nat):Int))]) vJ (aH (aH (ay (vm ?_))));by_cases h32:((j:Nat):Int)<5
  ·refine zN 11 ?_;refine vv (v:= .agg #[iV 3,iV ((j:Nat):Int),iV 0,iV 0,iV 0,iV 0,iV 0,iV 0,iV 0,iV 0,iV 0]) gD ?_;refine NY qH ?_;intro b33 w34 uf;refine dx (news:=[iV 3,iV ((j:Nat):Int),iV 0,iV 0,iV 0,iV 0,iV 0,iV 0,iV 0,iV 0,iV 0]) (xs':=(l++starts 5++xg i++steps (j+1)).flatMap Ac.cells) 1 uf (wn rfl) rfl rfl rfl rfl rfl rfl (St.lD (xs:=[iV 3,iV ((j:Nat):Int),iV 0,iV 0,iV 0,iV 0,iV 0,iV 0,iV 0,iV 0,iV 0]) 0 uf rfl rfl rfl) Tryz.underlying23 JI rfl dQ (bM rfl) lQ oQ (iU (enc:=Ac.cells) (by rw [YD,List.append_assoc]) rfl) ?_;intro A36 c37 w38 aAX aAY Ck;refine zN 6 ?_;refine vv (v:=iV ((j+1:Nat):Int)) fJ ?_;refine zN 2 ?_;have wo:=Ck.aP [0];refine aM (j+1,nb+1,A36,c37) ?_ vJ (by first | omega | (dsimp only;omega));exact ⟨uQ,uQ,wo⟩
  refine zN 9 ?_;obtain rfl:j=5:=oQ;refine zN 2 ?_;refine vv (v:= .agg #[iV 7,iV 0,iV 0,iV 0,iV 0,iV 0,iV 0,iV 0,iV 0,iV 0,iV 0]) gD ?_;refine NY qH ?_;intro b43 QX nX;refine dx (news:=[iV 7,iV 0,iV 0,iV 0,iV 0,iV 0,iV 0,iV 0,iV 0,iV 0,iV 0]) (xs':=(l++starts 5++xg (i+1)).flatMap Ac.cells) 1 nX (wn rfl) rfl rfl rfl rfl rfl rfl (St.lD (xs:=[iV 7,iV 0,iV 0,iV 0,iV 0,iV 0,iV 0,iV 0,iV 0,iV 0,iV 0]) 0 nX rfl rfl rfl) Tryz.underlying23 JI rfl dQ (bM rfl) lQ oQ (iU (enc:=Ac.cells) (x:=TL 7 0) (by rw [G9];simp only [List.append_assoc]) rfl) ?_;intro A46 c47 ZG aKC aKD uF;refine zN 6 ?_;refine vv (v:=iV ((i+1:Nat):Int)) fJ ?_;refine zN 2 ?_;have lU:=uF.aP [0];refine aM (i+1,nb+1,A46,c47) ?_ ji (by first | omega | (dsimp only;omega));exact ⟨uQ,uQ,lU⟩
 refine zN 17 ?_;have zP:=iP.aP [1];obtain rfl:i=r:=oQ;rw [TM,show l.length+5+6*i=nb by omega];exact ⟨Ab,cb,rfl,zP⟩
open Am
theorem Z0 {α β:Type} {R:α->β->Prop} {r:β}: ∀ {l:List α} {m j:Nat} {u:α},dR R l (List.replicate m r)->l[j]? =some u->R u r
 | _::_,_+1,0,_,h,hj=>by cases hj;exact h.1
 | _::l,m+1,j+1,_,h,hj=>Z0 (l:=l) (m:=m) h.2 hj
 | [],_,_,_,_,hj=>by simp at hj
theorem wf_i64 {x:Int} (h:(Lit.int .i64 x).wf=true):LH x:=by
 have h1:IntKind.i64.min= -9223372036854775808:=by decide
 have h2:IntKind.i64.max=9223372036854775807:=by decide
 unfold LH;simp only [Lit.wf,h1,h2,Bool.and_eq_true,decide_eq_true_eq] at h;exact h
theorem alr {α:Type} [Am α] {W:World} {v:Value} {b:Nat} (h:Fits W v (.sl b (List.replicate (size α) (.int .i64)))) {A:Option Addr} {n c:Nat} {l:List α} (hv:v= .slice A n c) (hr:Rd W W.heap.size (size α) A n (jX l)): ∀ x∈l,∀ y∈ints x,LH y:=by
 intro x hx y hy;obtain ⟨k,hk⟩:=List.mem_iff_getElem?.1 hx;obtain ⟨j,hj⟩:=List.mem_iff_getElem?.1 hy;have hkn:k<n:=by rw [<-hr.Qc];exact (List.getElem?_eq_some_iff.1 hk).1
 obtain ⟨bb,off,a,rfl,_,ha,hc⟩:=hr.aqM hkn;rw [hk] at ha
 cases ha;have h1:=hc j y hj;have hjs:j<size α:=by rw [<-len x];exact (List.getElem?_eq_some_iff.1 hj).1
 rcases h with h | ⟨ad,n',c',h,_,_,_,hcell⟩
 ·rw [hv] at h;cases h
 rw [hv] at h
 cases h;obtain ⟨cs,h2,_,h3⟩:=hcell k hkn;have hl:=h2.len;rw [List.length_replicate] at hl;have hu:cs[j]? =some (cs[j]'oQ):=List.getElem?_eq_getElem oQ;have h4:=h3 j _ hu;rw [List.length_replicate,Go.WideShapes.add_plain,h1] at h4;obtain ⟨z,hz,hw⟩:=Z0 h2 hu;rw [hz] at h4
 cases h4;exact wf_i64 hw
instance:Am Gr where
 size:=5
 ints x:=[x.kd,x.a,x.b,x.c,x.d]
 of l:=⟨l.getD 0 0,l.getD 1 0,l.getD 2 0,l.getD 3 0,l.getD 4 0⟩
 pos:=oQ
 len _:=rfl
 inv xs h:=by
  match xs,h with
  | [a,b,c,d,e],_=>rfl
theorem ag7:flat Tryz.prog 30 22=some [.sl 40 (List.replicate 5 (.int .i64))]:=kQ
theorem O5 {W:World} {v:Value} (h:Qw Tryz.prog W v 22): ∃ A c,∃ l:List Gr,v= .slice A l.length c/\Rd W W.heap.size 5 A l.length (l.flatMap Gr.cells)/\ ∀ g∈l,g.ok:=by
 obtain ⟨⟨base,hk⟩,l,hl,ha⟩:=h;rw [ag7] at hl
 cases hl;obtain ⟨A,n,c,rfl⟩:=okWide_slice Tryz.underlying22 hk;obtain ⟨a,l1,e,h1,_⟩:=dR.xB ha;simp [Value.cells] at e;obtain ⟨rfl,_⟩:=e;obtain ⟨A',n',c',l,e,hr,hn,hc,hb,h0⟩:=aaO (α:=Gr) h1;have hw:=alr (α:=Gr) h1 e hr;simp only [Value.slice.injEq] at e;obtain ⟨rfl,rfl,rfl⟩:=e;have hlen:l.length=n:=Rd.Qc (α:=Gr) hr;subst hlen;refine ⟨A,c,l,rfl,hr,λg hg=>?_⟩;have h:=hw g hg;exact ⟨h _ (by simp [ints]),h _ (by simp [ints]),h _ (by simp [ints]),h _ (by simp [ints]),h _ (by simp [ints])⟩
end
section
open ChangeShapes WideShapes RowKit
def enA (a:Ac):Nat:=if a.kd=1\/a.kd=2\/a.kd=6\/a.kd=10\/a.kd=8 then 20 else 0
def wu:List Ac->Nat
 | []=>200
 | a::l=>wu l+enA a
theorem Z4: ∀ (l:List Ac) (a:Ac),wu (l++[a])=wu l+enA a
 | [],a=>rfl
 | b::l,a=>by rw [List.cons_append,wu,wu,Z4 l a];omega
theorem V6: ∀ (l:List Ac),wu l<=200+20*l.length
 | []=>Nat.le_refl _
 | a::l=>by
  have h:=V6 l;have:enA a<=20:=by unfold enA;split<;>omega
  rw [wu,List.length_cons];omega
theorem xL {l:List Ac} {k:Nat} {a:Ac} (h:l[k]? =some a):wu (l.take (k+1))=wu (l.take k)+enA a:=by
 rw [List.take_add_one,h];exact Z4 _ _
theorem MQ {a:Ac} (h:a.kd=1\/a.kd=2\/a.kd=6\/a.kd=10\/a.kd=8):enA a=20:=if_pos h
theorem MR {a:Ac} (h: ¬ (a.kd=1\/a.kd=2\/a.kd=6\/a.kd=10\/a.kd=8)):enA a=0:=if_neg h
theorem Gi {l:List Ac} {A:Option Addr} {c:Nat} (hl:l.length<=1000) (w:World) (h:Rd w w.heap.size 11 A l.length (l.flatMap Ac.cells)):
    Calls Tryz.prog 8 #[.slice A l.length c] w (λe w'=>e= .returned (.int .i64 ((wu l:Nat):Int))/\Below w.heap.size w w'):=by
 have S:=(St.start w).bL h;refine gu 25 Tryz.func8 ?_;refine cw [0] ?_;refine zN 17 ?_;refine dN (X:=Nat×Nat) (λxv=>[(0,.slice A l.length c),(2,.int .i64 0),(3,.int .i64 ((xv.2:Nat):Int)),(4,.int .i64 ((xv.1:Nat):Int))]) (λxv wr=>(xv.1<=l.length)/\(xv.2=wu (l.take xv.1))/\St w.heap.size w wr [.rd 11 A l.length ((l).flatMap Ac.cells)]) (λxv=>l.length-xv.1) (0,200) ?_ ?_ ?_
 ·exact ⟨Nat.zero_le _,rfl,S⟩
 ·exact ji
 rintro ⟨k,n⟩ w1 ⟨hi3,hi4,S2⟩
 try dsimp only at hi3 hi4 S2
 refine aZ (l':=[(0,.slice A l.length c),(2,.int .i64 0),(3,.int .i64 ((n:Nat):Int)),(4,.int .i64 ((k:Nat):Int))]) ji (aH (aH (ay (vm ?_))));refine zN 2 ?_;by_cases h5:((k:Nat):Int)< ((l.length:Nat):Int)
 ·refine zN 9 ?_;have hle:=V6 (l.take k);have hlt:(l.take k).length<=1000:=by rw [List.length_take];omega
  refine zN 3 ?_;obtain ⟨b6,o7,rfl⟩:=Rd.addr (St.rd 0 S2 rfl) oQ;obtain ⟨x8,VR⟩:=DT k (St.rd 0 S2 rfl) oQ;refine vv (jf k) ?_;refine zQ ?_;refine vv (aj rfl rfl (aC (Rd.KU (i:=0) (St.rd 0 S2 rfl) (aW (enc:=Ac.cells) (sz:=11) (λ_=>rfl) VR rfl)))) ?_;refine zN 6 ?_;by_cases h10:x8.kd=1
  ·refine zN 10 ?_;refine vv (v:= .int .i64 ((n+20:Nat):Int)) fJ ?_;refine zN 7 ?_;refine vv (v:= .int .i64 ((k+1:Nat):Int)) fJ ?_;refine zN 2 ?_;refine aM (k+1,n+20) ?_ ji (by first | omega | (dsimp only;omega));exact ⟨uQ,(by dsimp only;rw [xL VR];first | rw [MQ oQ];omega | rw [MR oQ];omega),S2⟩
  refine zN 7 ?_;by_cases h11:x8.kd=2
  ·refine zN 10 ?_;refine vv (v:= .int .i64 ((n+20:Nat):Int)) fJ ?_;refine zN 7 ?_;refine vv (v:= .int .i64 ((k+1:Nat):Int)) fJ ?_;refine zN 2 ?_;refine aM (k+1,n+20) ?_ ji (by first | omega | (dsimp only;omega));exact ⟨uQ,(by dsimp only;rw [xL VR];first | rw [MQ oQ];omega | rw [MR oQ];omega),S2⟩
  refine zN 7 ?_;by_cases h12:x8.kd=6
  ·refine zN 10 ?_;refine vv (v:= .int .i64 ((n+20:Nat):Int)) fJ ?_;refine zN 7 ?_;refine vv (v:= .int .i64 ((k+1:Nat):Int)) fJ ?_;refine zN 2 ?_;refine aM (k+1,n+20) ?_ ji (by first | omega | (dsimp only;omega));exact ⟨uQ,(by dsimp only;rw [xL VR];first | rw [MQ oQ];omega | rw [MR oQ];omega),S2⟩
  refine zN 7 ?_;by_cases pR:x8.kd=10
  ·refine zN 10 ?_;refine vv (v:= .int .i64 ((n+20:Nat):Int)) fJ ?_;refine zN 7 ?_;refine vv (v:= .int .i64 ((k+1:Nat):Int)) fJ ?_;refine zN 2 ?_;refine aM (k+1,n+20) ?_ ji (by first | omega | (dsimp only;omega));exact ⟨uQ,(by dsimp only;rw [xL VR];first | rw [MQ oQ];omega | rw [MR oQ];omega),S2⟩
  refine zN 6 ?_;by_cases h14:x8.kd=8
  ·refine zN 7 ?_;refine vv (v:= .int .i64 ((n+20:Nat):Int)) fJ ?_;refine zN 7 ?_;refine vv (v:= .int .i64 ((k+1:Nat):Int)) fJ ?_;refine zN 2 ?_;refine aM (k+1,n+20) ?_ ji (by first | omega | (dsimp only;omega));exact ⟨uQ,(by dsimp only;rw [xL VR];first | rw [MQ oQ];omega | rw [MR oQ];omega),S2⟩
  refine zN 11 ?_;refine vv (v:= .int .i64 ((k+1:Nat):Int)) fJ ?_;refine zN 2 ?_;refine aM (k+1,n) ?_ ji (by first | omega | (dsimp only;omega));exact ⟨uQ,(by dsimp only;rw [xL VR];first | rw [MQ oQ];omega | rw [MR oQ];omega),S2⟩
 refine zN 17 ?_;rw [show n=wu l by rw [hi4,List.take_of_length_le oQ]];exact ⟨rfl,S2.low⟩
end
end Go.Proofs.YtlfgjcahpppbbaaGreatDoor
