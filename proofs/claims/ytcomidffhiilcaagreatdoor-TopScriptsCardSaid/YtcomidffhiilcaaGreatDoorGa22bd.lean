import Derived.Test.YtcomidffhiilcaaGreatDoorGf6e00
set_option maxRecDepth 100000
set_option maxHeartbeats 8000000
set_option linter.unusedSimpArgs false
set_option linter.unusedVariables false
namespace Go.Proofs.YtcomidffhiilcaaGreatDoor
open ChangeShapes WideShapes RowKit
section
variable {xo yo:Operand} {w:World} {f:Fn} {xs ys:Array Value}
theorem akP {d:Nat}:(Op.equalIn (d+1) 108 (.func f xs ys) .nilFunc).run Tryz.prog w= .ok false w:=by
 unfold Op.equalIn;simp [Tryz.underlying108]
theorem akQ {d:Nat}:(Op.equalIn (d+1) 108 .nilFunc .nilFunc).run Tryz.prog w= .ok true w:=by
 unfold Op.equalIn;simp [Tryz.underlying108]
theorem wO:(do eqGuard .neq 108 xo yo (.func f xs ys) .nilFunc;binOp .neq 108 (.func f xs ys) .nilFunc:Sem Value).run Tryz.prog w= .ok (.bool true) w:=by
 have h1:(eqGuard .neq 108 xo yo (.func f xs ys) .nilFunc)=pure ():=by unfold eqGuard;rfl
 have h2:binOp .neq 108 (.func f xs ys) .nilFunc=(do let b<-Op.equalIn (9999+1) 108 (.func f xs ys) .nilFunc;pure (.bool (!b))):=by unfold binOp;rfl
 rw [h1,h2];simp [akP]
theorem JY:(do eqGuard .neq 108 xo yo .nilFunc .nilFunc;binOp .neq 108 .nilFunc .nilFunc:Sem Value).run Tryz.prog w= .ok (.bool false) w:=by
 have h1:(eqGuard .neq 108 xo yo .nilFunc .nilFunc)=pure ():=by unfold eqGuard;rfl
 have h2:binOp .neq 108 .nilFunc .nilFunc=(do let b<-Op.equalIn (9999+1) 108 .nilFunc .nilFunc;pure (.bool (!b))):=by unfold binOp;rfl
 rw [h1,h2];simp [akQ]
theorem JZ:(do eqGuard .eql 108 xo yo (.func f xs ys) .nilFunc;binOp .eql 108 (.func f xs ys) .nilFunc:Sem Value).run Tryz.prog w= .ok (.bool false) w:=by
 have h1:(eqGuard .eql 108 xo yo (.func f xs ys) .nilFunc)=pure ():=by unfold eqGuard;rfl
 have h2:binOp .eql 108 (.func f xs ys) .nilFunc=(do let b<-Op.equalIn (9999+1) 108 (.func f xs ys) .nilFunc;pure (.bool b)):=by unfold binOp;rfl
 rw [h1,h2];simp [akP]
theorem RH:(do eqGuard .eql 108 xo yo .nilFunc .nilFunc;binOp .eql 108 .nilFunc .nilFunc:Sem Value).run Tryz.prog w= .ok (.bool true) w:=by
 have h1:(eqGuard .eql 108 xo yo .nilFunc .nilFunc)=pure ():=by unfold eqGuard;rfl
 have h2:binOp .eql 108 .nilFunc .nilFunc=(do let b<-Op.equalIn (9999+1) 108 .nilFunc .nilFunc;pure (.bool b)):=by unfold binOp;rfl
 rw [h1,h2];simp [akQ]
end
theorem wP: ∀ {rs:List dH} {l:List UInt8} {s:Int} {d:List UInt8},fG l s rs=some d->d=l++dh rs/\(∀ r∈rs,aJ r=0)/\(l.length<=100000->d.length<=100000)
 | [],l,s,d,h=>by
  cases h;exact ⟨by simp [dh],λr hr=>by simp at hr,λh=>h⟩
 | r::rs,l,s,d,h=>by
  rw [fG] at h
  split at h
  ·cases h
  rename_i h1
  obtain ⟨h2,h3,h4⟩:=Nl (Classical.not_not.1 h1);rw [h2] at h;obtain ⟨h5,h6,h7⟩:=wP h;refine ⟨by rw [h5];simp [dh,List.flatMap_cons],λx hx=>?_,λhl=>h7 (by rw [List.length_append];omega)⟩
  rcases List.mem_cons.1 hx with rfl | hx
  ·exact h3
  exact h6 x hx
theorem ajj {Q:Qd} {e:Ev} (h:(jS Q e).2.2.1=true):(jS Q e).2.2.2=0:=by
 unfold jS at h⊢
 split at h
 ·cases h
 rename_i h1
 rw [if_neg h1]
 split at h
 ·cases h
 rename_i h2;rw [if_neg h2]
theorem ajk {Q:Qd} {e:Ev} (h:(jS Q e).2.2.2=0):bL e=0:=by
 unfold jS at h
 split at h
 ·rename_i h1;exact absurd h h1
 split at h
 ·rename_i h2;exact absurd h h2
 rename_i h2;exact Classical.not_not.1 h2
theorem J2: ∀ {n:Nat} {l:List Ev},l.length=n->good l-> ∀ e∈l,bL e=0
 | 0,l,hn,_,e,he=>by rw [List.length_eq_zero_iff.1 hn] at he;simp at he
 | n+1,l,hn,h,e,he=>by
  have e1:l=l.take n++[l[n]]:=by rw [<-Bt oQ,<-hn,List.take_length]
  have h':good (l.take n++[l[n]]):=e1▸h;rw [e1] at he
  rcases List.mem_append.1 he with he | he
  ·exact J2 (n:=n) (by rw [List.length_take];omega) (Bp h) e he
  rw [List.mem_singleton] at he;rw [he];exact ajk (good_step h').1
section
variable {b:bK} {e:Ev}
theorem WS (h: ¬ (iK b e).2.2.1=false):aj b=0/\bL e=0/\serves b/\(jS (aP b.evs).1 e).2.2.1=true/\b.evs.length<1999/\e.kind≠4/\iK b e=({ b with evs:=b.evs++[e] },(jS (aP b.evs).1 e).2.1,true,0):=by
 unfold iK at h⊢;by_cases c1:aj b≠0
 ·rw [if_pos c1] at h;exact absurd rfl h
 rw [if_neg c1] at h⊢;by_cases c2:bL e≠0
 ·rw [if_pos c2] at h;exact absurd rfl h
 rw [if_neg c2] at h⊢;by_cases c3:e.kind=4
 ·rw [if_pos c3] at h;exact absurd rfl h
 rw [if_neg c3] at h⊢;by_cases c4:b.role=3
 ·rw [if_pos c4] at h;exact absurd rfl h
 rw [if_neg c4] at h⊢;by_cases c5:b.role≠1/\b.role≠2
 ·rw [if_pos c5] at h;exact absurd rfl h
 rw [if_neg c5] at h⊢;by_cases c6:(jS (aP b.evs).1 e).2.2.1=false
 ·rw [if_pos c6] at h;exact absurd rfl h
 rw [if_neg c6] at h⊢;by_cases c7:1999<=b.evs.length
 ·rw [if_pos c7] at h;exact absurd rfl h
 rw [if_neg c7];exact ⟨Classical.not_not.1 c1,Classical.not_not.1 c2,by unfold serves;omega,by simpa using c6,by omega,c3,rfl⟩
theorem afi {ep fr:Int} (h: ¬ (dB b ep fr).2≠0) (h2: ¬ (dB b ep fr).1.ep=b.ep):(b.role=0\/b.role=4)/\b.ep<ep/\1<=ep/\ep<=1048576/\0<=fr/\fr<=4/\dB b ep fr=(⟨4,ep,fr,0,0,[]⟩,0):=by
 unfold dB at h h2⊢;by_cases c1:aj b≠0
 ·rw [if_pos c1] at h;exact absurd c1 h
 rw [if_neg c1] at h h2⊢;by_cases c2: ¬ (1<=ep/\ep<=1048576/\0<=fr/\fr<=4)
 ·rw [if_pos c2] at h;exact absurd dQ h
 rw [if_neg c2] at h h2⊢;by_cases c3:b.role≠0/\b.role≠4
 ·rw [if_pos c3] at h;exact absurd dQ h
 rw [if_neg c3] at h h2⊢;by_cases c4:b.role=4/\b.ep=ep/\b.fr=fr
 ·rw [if_pos c4] at h2;exact absurd rfl h2
 rw [if_neg c4] at h h2⊢;by_cases c5:ep<=b.ep
 ·rw [if_pos c5] at h;exact absurd dQ h
 rw [if_neg c5];have c2':=Classical.not_not.1 c2;exact ⟨by omega,by omega,c2'.1,c2'.2.1,c2'.2.2.1,c2'.2.2.2,rfl⟩
theorem WT {ep fr:Int} (h: ¬ (dB b ep fr).2≠0) (h2:(dB b ep fr).1.ep=b.ep):b.role=4/\b.ep=ep/\b.fr=fr:=by
 unfold dB at h h2;by_cases c1:aj b≠0
 ·rw [if_pos c1] at h;exact absurd c1 h
 rw [if_neg c1] at h h2;by_cases c2: ¬ (1<=ep/\ep<=1048576/\0<=fr/\fr<=4)
 ·rw [if_pos c2] at h;exact absurd dQ h
 rw [if_neg c2] at h h2;by_cases c3:b.role≠0/\b.role≠4
 ·rw [if_pos c3] at h;exact absurd dQ h
 rw [if_neg c3] at h h2;by_cases c4:b.role=4/\b.ep=ep/\b.fr=fr
 ·exact c4
 rw [if_neg c4] at h h2;by_cases c5:ep<=b.ep
 ·rw [if_pos c5] at h;exact absurd dQ h
 rw [if_neg c5] at h2;exact absurd (show ep=b.ep from h2) oQ
def NK (b:bK) (at_:Int) (l:List Ev):List Ev:=b.evs++l.drop (b.evs.length-at_.toNat)
def zC (b:bK) (at_:Int) (l:List Ev) (last:Bool):bK:=if last=true then ⟨1,b.ep,0,0,0,NK b at_ l++[cO]⟩ else { b with evs:=NK b at_ l }
theorem aaS {ep at_:Int} {l:List Ev} {last:Bool} (h: ¬ (dw b ep at_ l last).2≠0):b.role=4/\b.ep=ep/\0<=at_/\at_<=b.evs.length/\(b.evs.drop at_.toNat).take l.length=l.take (b.evs.length-at_.toNat)/\
  (last=true->b.evs.length<=at_.toNat+l.length)/\aj (zC b at_ l last)=0/\dw b ep at_ l last=(zC b at_ l last,0):=by
 unfold dw at h⊢;by_cases c1:aj b≠0
 ·rw [if_pos c1] at h;exact absurd c1 h
 rw [if_neg c1] at h⊢;by_cases c2:b.role≠4
 ·rw [if_pos c2] at h;exact absurd dQ h
 rw [if_neg c2] at h⊢;by_cases c3:b.ep≠ep
 ·rw [if_pos c3] at h;exact absurd dQ h
 rw [if_neg c3] at h⊢;have c3':b.ep=ep:=Classical.not_not.1 c3;subst c3';by_cases c4: ¬ (0<=at_/\at_<=b.evs.length)
 ·rw [if_pos c4] at h;exact absurd dQ h
 rw [if_neg c4] at h⊢;by_cases c5: ¬ (b.evs.drop at_.toNat).take l.length=l.take (b.evs.length-at_.toNat)
 ·rw [if_pos c5] at h;exact absurd dQ h
 rw [if_neg c5] at h⊢;by_cases c6:last=true/\at_.toNat+l.length<b.evs.length
 ·rw [if_pos c6] at h;exact absurd dQ h
 rw [if_neg c6] at h⊢;change ¬ (if aj (zC b at_ l last)≠0 then (bG,(3:Int)) else (zC b at_ l last,0)).2≠0 at h
 show _/\_/\_/\_/\_/\_/\_/\(if aj (zC b at_ l last)≠0 then (bG,(3:Int)) else (zC b at_ l last,0))=_
 by_cases c7:aj (zC b at_ l last)≠0
 ·rw [if_pos c7] at h;exact absurd dQ h
 have c4':=Classical.not_not.1 c4;rw [if_neg c7];exact ⟨Classical.not_not.1 c2,rfl,c4'.1,c4'.2,Classical.not_not.1 c5,λhl=>by by_cases h9:at_.toNat+l.length<b.evs.length;exact absurd ⟨hl,h9⟩ c6;omega,Classical.not_not.1 c7,rfl⟩
theorem P6 {hv:Int} (h: ¬ (bM b hv).2≠0):0<=hv/\hv<=b.evs.length/\((b.role=3/\bM b hv=(b,0))\/(b.role=2/\(hv=b.evs.length\/b.rd=4)/\bM b hv=({ b with role:=3,rd:=0 },0))\/(b.role=2/\ ¬ (hv=b.evs.length\/b.rd=4)/\bM b hv=({ b with rd:=b.rd+1 },0))):=by
 unfold bM at h⊢;by_cases c1:aj b≠0
 ·rw [if_pos c1] at h;exact absurd c1 h
 rw [if_neg c1] at h⊢;by_cases c2:b.role≠2/\b.role≠3
 ·rw [if_pos c2] at h;exact absurd dQ h
 rw [if_neg c2] at h⊢;by_cases c3: ¬ (0<=hv/\hv<=b.evs.length)
 ·rw [if_pos c3] at h;exact absurd dQ h
 rw [if_neg c3] at h⊢;have c3':=Classical.not_not.1 c3;refine ⟨c3'.1,c3'.2,?_⟩;by_cases c4:b.role=3
 ·rw [if_pos c4];exact .inl ⟨c4,rfl⟩
 rw [if_neg c4];by_cases c5:hv=b.evs.length\/b.rd=4
 ·rw [if_pos c5];exact .inr (.inl ⟨by omega,c5,rfl⟩)
 rw [if_neg c5];exact .inr (.inr ⟨by omega,c5,rfl⟩)
theorem aaT {ep:Int} (h: ¬ (fZ b ep).2≠0):b.role=3/\b.ep<ep/\fZ b ep=(⟨0,b.ep,0,0,0,[]⟩,0):=by
 unfold fZ at h⊢;by_cases c1:aj b≠0
 ·rw [if_pos c1] at h;exact absurd c1 h
 rw [if_neg c1] at h⊢;by_cases c2:b.role≠3
 ·rw [if_pos c2] at h;exact absurd dQ h
 rw [if_neg c2] at h⊢;by_cases c3:ep<=b.ep
 ·rw [if_pos c3] at h;exact absurd dQ h
 rw [if_neg c3];exact ⟨Classical.not_not.1 c2,by omega,rfl⟩
theorem ajl {ep:Int} (h: ¬ (ji b ep).2≠0):b.role=0/\b.ep<ep/\ji b ep=(⟨1,ep,0,0,0,[]⟩,0):=by
 unfold ji at h⊢;by_cases c1:aj b≠0
 ·rw [if_pos c1] at h;exact absurd c1 h
 rw [if_neg c1] at h⊢;by_cases c2: ¬ (1<=ep/\ep<=1048576)
 ·rw [if_pos c2] at h;exact absurd dQ h
 rw [if_neg c2] at h⊢;by_cases c3:b.role≠0
 ·rw [if_pos c3] at h;exact absurd dQ h
 rw [if_neg c3] at h⊢;by_cases c4:ep<=b.ep
 ·rw [if_pos c4] at h;exact absurd dQ h
 rw [if_neg c4];exact ⟨Classical.not_not.1 c3,by omega,rfl⟩
theorem go_ok {tg:Int} (h:(zH b tg).2=0):b.role=1/\0<=tg/\tg<=4/\zH b tg=(⟨2,b.ep,0,tg,0,b.evs⟩,0):=by
 unfold zH at h⊢;by_cases c1:aj b≠0
 ·rw [if_pos c1] at h;exact absurd h c1
 rw [if_neg c1] at h⊢;by_cases c2: ¬ (0<=tg/\tg<=4)
 ·rw [if_pos c2] at h;exact absurd h dQ
 rw [if_neg c2] at h⊢;by_cases c3:b.role=2\/b.role=3
 ·rw [if_pos c3] at h;exact absurd h dQ
 rw [if_neg c3] at h⊢;by_cases c4:b.role≠1
 ·rw [if_pos c4] at h;exact absurd h dQ
 rw [if_neg c4] at h⊢;by_cases c5:b.ep=1048576
 ·rw [if_pos c5] at h;exact absurd h dQ
 rw [if_neg c5];have c2':=Classical.not_not.1 c2;exact ⟨Classical.not_not.1 c4,c2'.1,c2'.2,rfl⟩
theorem Yf (hr:b.role=1) (h: ¬ (fJ b).2≠0):aj ⟨1,b.ep,0,0,0,b.evs++[cO]⟩=0/\fJ b=(⟨1,b.ep,0,0,0,b.evs++[cO]⟩,0):=by
 unfold fJ at h⊢;by_cases c1:aj b≠0
 ·rw [if_pos c1] at h;exact absurd c1 h
 rw [if_neg c1] at h⊢;rw [if_neg oQ] at h⊢;by_cases c3:aj ⟨1,b.ep,0,0,0,b.evs++[cO]⟩≠0
 ·rw [if_pos c3] at h;exact absurd dQ h
 rw [if_neg c3];exact ⟨Classical.not_not.1 c3,rfl⟩
theorem aaU {hv:Int} (h: ¬ (jD b hv).2.2≠0):(b.role=2\/b.role=3)/\0<=hv/\hv<=b.evs.length/\jD b hv=((b.evs.drop hv.toNat).take 3,decide (b.role=3/\b.evs.length<=hv.toNat+3),0):=by
 unfold jD at h⊢;by_cases c1:aj b≠0
 ·rw [if_pos c1] at h;exact absurd c1 h
 rw [if_neg c1] at h⊢;by_cases c2:b.role≠2/\b.role≠3
 ·rw [if_pos c2] at h;exact absurd dQ h
 rw [if_neg c2] at h⊢;by_cases c3: ¬ (0<=hv/\hv<=b.evs.length)
 ·rw [if_pos c3] at h;exact absurd dQ h
 rw [if_neg c3];have c3':=Classical.not_not.1 c3;exact ⟨by omega,c3'.1,c3'.2,rfl⟩
end
structure vW (X:Nd) (rs us:List dH):Prop where
 data:X.data=dh (rs++us)
 syn:X.syn=(dh rs).length
 tape:iN rs λq=>mE (X.bs q)
 qW: ∀ q,q<4->aj (X.bs q)=0
 pnn:X.pend=none->us=[]
 pns: ∀ p,X.pend=some p->us=p.rs X.bs/\p.ok X.bs/\p.q<4
 len:X.data.length<=100000
structure Gf (X:Nd) (rs:List dH) (t:List UInt8) (f:Nat->bK):Prop where
 data:X.data=dh rs++t
 asa:(firstM t).2=0
 tape:iN rs f
 qW: ∀ q,q<4->aj (f q)=0/\(f q).role≠2
 syn:0<=X.syn/\X.syn<=X.data.length
 len:X.data.length<=100000
 zf:X.pend=none
 u7:X.inbox=[]
 bz: ∀ q,q<4->aj (X.bs q)=0
theorem ajm:aj bG=0:=mR (.inl ⟨rfl,by decide,by decide,rfl,rfl,rfl,rfl⟩) zT
def Gg (X:Nd):Prop:=(X.up=true/\ ∃ rs us,vW X rs us)\/(X.up=false/\ ∃ rs t f,Gf X rs t f)
section
variable {X:Nd} {rs us:List dH} {t:List UInt8} {f:Nat->bK} {q:Nat} {p:fO}
theorem Gg.aaX (h:Gg X) (hu:X.up=true): ∃ rs us,vW X rs us:=h.elim (λh=>h.2) λh=>by rw [h.1] at hu;cases hu
theorem Gg.azS (h:Gg X) (hu:X.up=false): ∃ rs t f,Gf X rs t f:=h.elim (λh=>by rw [h.1] at hu;cases hu) λh=>h.2
theorem vW.may (h:vW X rs us):dn X.data X.syn=true:=by
 have h1:=h.len;have h2:=h.data;rw [lN] at h2;have h3:=congrArg List.length h2;rw [List.length_append] at h3;simp only [dn,h.syn,Bool.and_eq_true,decide_eq_true_eq];omega
theorem Gf.may (h:Gf X rs t f):dn X.data X.syn=true:=by
 simp only [dn,Bool.and_eq_true,decide_eq_true_eq];exact ⟨⟨h.len,h.syn.1⟩,h.syn.2⟩
theorem Gf.rd (h:Gf X rs t f):jL X.data X.syn=(dh rs,min X.syn (dh rs).length,0)/\Cw X.data X.syn=some (vB f)/\ ∀ q,q<4->bV X.data X.syn q=f q:=h.tape.read h.data h.asa h.len h.syn.1 h.syn.2
theorem Gf.view (h:Gf X rs t f) (hu:X.up=false) (hq:q<4):X.view q=f q:=by
 unfold Nd.view;rw [if_neg (by rw [hu];simp)];exact h.rd.2.2 q hq
theorem Yg (hu:X.up=true):X.view=X.bs:=if_pos hu
def P7 (bs:Nat->bK) (p:fO) (x:bK):Prop:=
 x=mE (bs p.q)\/x=mE (p.b bs)\/ ∃ q b last j,p= .got q b last/\x={ bs q with evs:=b.evs.take ((bs q).evs.length+j) }/\(bs q).evs.length+j+(if last=true then 1 else 0)<=b.evs.length
theorem Va {b:bK} (h:b.role=4\/b.role=0\/b.role=3\/b.role=1):mE b=b:=Rx oQ
theorem ajn {bs:Nat->bK} {b:bK}:upd (λq=>mE (bs q)) q (mE b)=λk=>mE (upd bs q b k):=by
 funext k
 unfold upd
 split<;>rfl
theorem imports {bs:Nat->bK} {ep:Int} {es:List Ev} (h:iN rs λq=>mE (bs q)) (hb:aj (bs q)=0) (hr:(bs q).role=4) (iC:(bs q).ep=ep) (hq:q<4) (hg:good es) (he:(bs q).evs=es.take (bs q).evs.length):
  ∀ j,(bs q).evs.length+j<=es.length->iN (rs++((es.drop (bs q).evs.length).take j).map λx=>fV 5 q ep 0 x) (upd (λq=>mE (bs q)) q { bs q with evs:=es.take ((bs q).evs.length+j) })
 | 0,_=>by
  rw [Nat.add_zero,<-he,List.take_zero,List.map_nil,List.append_nil];exact h.congr λk _=>by
   unfold upd
   split
   ·rename_i e;subst e;exact Va (.inl hr)
   rfl
 | j+1,hj=>by
  have ih:=imports h hb hr iC hq hg he j oQ;have hk:(bs q).evs.length+j<es.length:=oQ;have e1:(es.drop (bs q).evs.length).take (j+1)=(es.drop (bs q).evs.length).take j++[es[(bs q).evs.length+j]]:=by
   rw [Bt (by rw [List.length_drop];omega),List.getElem_drop]
  have hg2:good (es.take ((bs q).evs.length+j)++[es[(bs q).evs.length+j]]):=by rw [<-Bt hk];exact Bp hg
  have hb2:aj { bs q with evs:=es.take ((bs q).evs.length+j) }=0:=mR (oK (ig hb) oQ _) (Bp hg);obtain ⟨h1,h2,h3⟩:=aaw (b:={ bs q with evs:=es.take ((bs q).evs.length+j) }) hb2 hr iC hq (J2 rfl hg _ (List.getElem_mem hk)) hg2;rw [e1,List.map_append,<-List.append_assoc];have:=ih.snoc (q:=q) h2 hq rfl (by rw [upd_same];exact h1);refine this.congr λk _=>?_;unfold upd
  split
  ·dsimp only;rw [<-Bt hk,Nat.add_assoc]
  rfl
theorem Jr {bs:Nat->bK} {r:dH} {x:bK} (h:iN rs λq=>mE (bs q)) (hq:q<4) (hr:aJ r=0) (hrq:r.queue=q) (ha:dV (mE (bs q)) r=(mE x,0)):iN (rs++[r]) λk=>mE (upd bs q x k):=by
 rw [<-ajn];exact h.snoc hr hq hrq ha
theorem NM {bs:Nat->bK} {b:bK} {last:Bool} (hp:(fO.got q b last).ok bs): ∃ es,good es/\(bs q).evs=es.take (bs q).evs.length/\(bs q).evs.length<=es.length/\es=b.evs.take es.length/\es.length+(if last=true then 1 else 0)=b.evs.length/\b.ep=(bs q).ep/\
  (fO.got q b last).rs bs=((es.drop (bs q).evs.length).map λx=>fV 5 q b.ep 0 x)++if last=true then [fV 6 q b.ep 0 aQ] else []:=by
 obtain ⟨h1,h2,h3,h4,h5⟩:=hp;have hlen: ∀ {es:List Ev},(bs q).evs=es.take (bs q).evs.length->(bs q).evs.length<=es.length:=λ{es} h=>by
  have:=congrArg List.length h;rw [List.length_take] at this;omega
 cases last with
 | false=>
  obtain ⟨h6,h7⟩:=h4 rfl;refine ⟨b.evs,h2,h7,hlen h7,by rw [List.take_length],by simp,by rw [h6],?_⟩;unfold fO.rs uy;simp
 | true=>
  obtain ⟨es,h6,h7⟩:=h5 rfl;subst h6;refine ⟨es,Rk h2,h7,hlen h7,by simp,by simp,rfl,?_⟩;unfold fO.rs uy;simp
theorem xA (h:iN rs λq=>mE (X.bs q)) (hb: ∀ q,q<4->aj (X.bs q)=0) (hp:p.ok X.bs) (hq:p.q<4):iN (rs++p.rs X.bs) (λk=>mE (upd X.bs p.q (p.b X.bs) k))/\aj (p.b X.bs)=0:=by
 have hbq:=hb _ hq
 cases p with
 | serve q evs op num a=>
  obtain ⟨h1,h2,h3,h4⟩:=hp;have hbq:aj (X.bs q)=0:=hbq;have hr:(X.bs q).role≠0:=by unfold serves at h1;omega
  have hb2:aj { X.bs q with evs:=evs }=0:=mR (oK (ig hbq) hr _) h4;have hd:=yw h1 hbq;have hd2:mE { X.bs q with evs:=evs }=⟨1,(X.bs q).ep,0,0,0,evs⟩:=yw (b:={ X.bs q with evs:=evs }) h1 hb2;obtain ⟨a1,a2⟩:=Rw (b:=mE (X.bs q)) (q:=q) (e:=op) (uD hbq) (by rw [hd]) Ui hq h3 (by rw [ajd,<-h2];exact h4);refine ⟨Jr h hq a2 rfl ?_,hb2⟩
  show dV (mE (X.bs q)) (fV 2 q (X.bs q).ep 0 op)=(mE { X.bs q with evs:=evs },0)
  rw [a1,hd2,hd,h2]
 | begun q b=>
  obtain ⟨h1,e,f,rfl,h2,h3,h4,h5,h6⟩:=hp;have hd:mE (X.bs q)=X.bs q:=Va oQ;obtain ⟨a1,a2⟩:=ae7 (q:=q) hbq h1 h2 ⟨h3,h4⟩ hq ⟨h5,h6⟩;refine ⟨Jr h hq a2 rfl ?_,mR (.inr ⟨h3,h4,.inr (.inr (.inr ⟨rfl,h5,by show f<5;omega,rfl,rfl⟩))⟩) zT⟩
  show dV (mE (X.bs q)) _=_
  rw [hd];exact a1
 | got q b last=>
  obtain ⟨es,g1,g2,g3,g4,g5,g6,g7⟩:=NM hp;have hr:(X.bs q).role=4:=hp.1;have hgb:good b.evs:=hp.2.1;have hbq:aj (X.bs q)=0:=hbq;have hs:=ig hbq;unfold bD at hs;have hi:=imports h hbq hr g6.symm hq g1 g2 (es.length-(X.bs q).evs.length) oQ;rw [show (X.bs q).evs.length+(es.length-(X.bs q).evs.length)=es.length by omega,List.take_length,List.take_of_length_le (by rw [List.length_drop];omega)] at hi;rw [g7]
  cases last with
  | false=>
   have e1:=(hp.2.2.2.1 rfl).1;have e2:es=b.evs:=by rw [g4];simp only [Bool.false_eq_true,if_false,Nat.add_zero] at g5;rw [g5,List.take_length]
   subst e2;simp only [Bool.false_eq_true,if_false,List.append_nil];have hr0:(X.bs q).role≠0:=by rw [hr];decide
   have hbk:aj b=0:=by rw [e1];exact mR (oK (ig hbq) hr0 _) hgb
   refine ⟨hi.congr λk _=>?_,hbk⟩
   show _=mE (upd X.bs q b k)
   unfold upd
   split
   ·rw [<-e1];exact (Va (.inl (by rw [e1];exact hr))).symm
   rfl
  | true=>
   obtain ⟨es',e1,e2⟩:=hp.2.2.2.2 rfl;have e3:es=es':=by rw [g4,e1];rw [e1] at g5;simp only [if_true,List.length_append,List.length_singleton] at g5;rw [show es.length=es'.length by omega];simp
   subst e3;subst e1;have hr0:(X.bs q).role≠0:=by rw [hr];decide
   have hb2:aj { X.bs q with evs:=es }=0:=mR (oK (ig hbq) hr0 _) g1;obtain ⟨a1,a2⟩:=ao5 (b:={ X.bs q with evs:=es }) (q:=q) hb2 hr rfl hq hgb;have hk:=mR (b:=⟨1,(X.bs q).ep,0,0,0,es++[cO]⟩) (Bu oQ oQ _) hgb;simp only [if_true];rw [<-List.append_assoc];have:=hi.snoc (q:=q) a2 hq rfl (by rw [upd_same];exact a1);refine ⟨this.congr λk _=>?_,hk⟩
   show _=mE (upd X.bs q _ k)
   unfold upd
   split
   ·rfl
   rfl
 | jU q b at_=>
  obtain ⟨h1,rfl⟩:=hp;have hbq:aj (X.bs q)=0:=hbq;have hs:=ig hbq;unfold bD at hs;have hd:=yw (.inr h1) hbq;obtain ⟨a1,a2⟩:=ajc (b:=mE (X.bs q)) (q:=q) (tg:=(X.bs q).tg) (uD hbq) (by rw [hd]) Ui hq oQ;rw [Ui] at a1;have hbk:aj { X.bs q with role:=3,rd:=0 }=0:=mR (.inr ⟨by show 1<=(X.bs q).ep;omega,by show (X.bs q).ep<=_;omega,.inr (.inr (.inl ⟨rfl,by show (X.bs q).fr=0;omega,by show 0<=(X.bs q).tg;omega,by show (X.bs q).tg<5;omega,rfl⟩))⟩) (jB (b:=X.bs q) hbq);refine ⟨Jr h hq a2 rfl ?_,hbk⟩
  show dV (mE (X.bs q)) (fV 3 q (X.bs q).ep (X.bs q).tg aQ)=(mE { X.bs q with role:=3,rd:=0 },0)
  rw [a1,Va (b:={ X.bs q with role:=3,rd:=0 }) (.inr (.inr (.inl rfl))),hd]
  show ((⟨3,(X.bs q).ep,0,(X.bs q).tg,0,(X.bs q).evs⟩:bK),(0:Int))=(⟨3,(X.bs q).ep,(X.bs q).fr,(X.bs q).tg,0,(X.bs q).evs⟩,0)
  have:(X.bs q).fr=0:=oQ;rw [this]
 | forget q b=>
  obtain ⟨h1,rfl⟩:=hp;have hbq:aj (X.bs q)=0:=hbq;have hs:=ig hbq;unfold bD at hs;obtain ⟨a1,a2⟩:=aax (q:=q) hbq h1 rfl hq;refine ⟨Jr h hq a2 rfl ?_,mR (.inl ⟨rfl,by show 0<=(X.bs q).ep;omega,by show (X.bs q).ep<=_;omega,rfl,rfl,rfl,rfl⟩) zT⟩
  show dV (mE (X.bs q)) _=_
  rw [Va (.inr (.inr (.inl h1)))];exact a1
theorem Ul {bs:Nat->bK} (hb: ∀ q,q<4->aj (bs q)=0) (hq:q<4):aj (mE (bs q))=0/\(mE (bs q)).role≠2:=⟨uD (hb q hq),JW⟩
theorem aaY (h:iN rs λq=>mE (X.bs q)) (hb: ∀ q,q<4->aj (X.bs q)=0) (hp:p.ok X.bs) (hq:p.q<4) (j:Nat):
  ∃ f',iN (rs++(p.rs X.bs).take j) f'/\(∀ q,q<4->q≠p.q->f' q=mE (X.bs q))/\P7 X.bs p (f' p.q)/\aj (f' p.q)=0/\(f' p.q).role≠2:=by
 obtain ⟨hf,hfb⟩:=xA h hb hp hq;have full: ∃ f',iN (rs++p.rs X.bs) f'/\(∀ q,q<4->q≠p.q->f' q=mE (X.bs q))/\P7 X.bs p (f' p.q)/\aj (f' p.q)=0/\(f' p.q).role≠2:=
  ⟨_,hf,λq _ hne=>by rw [upd_ne hne],.inr (.inl (by rw [upd_same])),by rw [upd_same];exact uD hfb,JW⟩
 have zero: ∃ f',iN (rs++([]:List dH)) f'/\(∀ q,q<4->q≠p.q->f' q=mE (X.bs q))/\P7 X.bs p (f' p.q)/\aj (f' p.q)=0/\(f' p.q).role≠2:=
  ⟨_,by rw [List.append_nil];exact h,λ_ _ _=>rfl,.inl rfl,uD (hb _ hq),JW⟩
 have one: ∀ r,p.rs X.bs=[r]-> ∃ f',iN (rs++(p.rs X.bs).take j) f'/\(∀ q,q<4->q≠p.q->f' q=mE (X.bs q))/\P7 X.bs p (f' p.q)/\aj (f' p.q)=0/\(f' p.q).role≠2:=λr hr=>by
  cases j with
  | zero=>rw [List.take_zero];exact zero
  | succ j=>rw [hr,List.take_of_length_le iQ,<-hr];exact full
 cases p with
 | serve q evs op num a=>exact one _ rfl
 | begun q b=>exact one _ rfl
 | jU q b at_=>exact one _ rfl
 | forget q b=>exact one _ rfl
 | got q b last=>
  obtain ⟨es,g1,g2,g3,g4,g5,g6,g7⟩:=NM hp;have hr:(X.bs q).role=4:=hp.1;by_cases hj:j<=es.length-(X.bs q).evs.length
  ·have hbq:aj (X.bs q)=0:=hb _ hq;have hi:=imports h hbq hr g6.symm hq g1 g2 j oQ;have e1:((fO.got q b last).rs X.bs).take j=((es.drop (X.bs q).evs.length).take j).map λx=>fV 5 q b.ep 0 x:=by
    rw [g7,List.take_append_of_le_length (by rw [List.length_map,List.length_drop];omega),List.map_take]
   have e2:es.take ((X.bs q).evs.length+j)=b.evs.take ((X.bs q).evs.length+j):=by
    rw [g4,List.take_take,Nat.min_eq_left oQ]
   rw [e1];refine ⟨_,hi,λk _ hk=>upd_ne hk,?_,?_,?_⟩
   ·refine .inr (.inr ⟨q,b,last,j,rfl,?_,by omega⟩)
    show upd _ q _ q=_
    rw [upd_same,e2]
   ·show aj (upd _ q _ q)=0
    rw [upd_same];exact mR (oK (ig hbq) oQ _) (Bp g1)
   show (upd (λq=>mE (X.bs q)) q { X.bs q with evs:=es.take ((X.bs q).evs.length+j) } q).role≠2
   rw [upd_same]
   show (X.bs q).role≠2
   omega
  have:((fO.got q b last).rs X.bs).take j=(fO.got q b last).rs X.bs:=by
   refine List.take_of_length_le ?_;rw [g7,List.length_append,List.length_map,List.length_drop]
   cases last<;>simp<;>omega
  rw [this];exact full
end
theorem adz {P:Program} {t:TypeId} {xo yo:Operand} {w:World} {a b:Int} (ha:0<=a) (hb:0<b):(do eqGuard .rem t xo yo (iV a) (iV b);binOp .rem t (iV a) (iV b):Sem Value).run P w= .ok (iV (a % b)) w:=by
 obtain ⟨k,rfl⟩:=Int.eq_ofNat_of_zero_le ha;obtain ⟨m,rfl⟩:=Int.eq_ofNat_of_zero_le (Int.le_of_lt hb);exact Uj (c:=k % m) rfl oQ
theorem auv {P:Program} {w:World} {x:Int} (h: -9223372036854775807<=x/\x<=9223372036854775807):(Op.unary .neg (iV x)).run P w= .ok (iV (-x)) w:=by
 simp [Op.unary,Op.intArith,Int.zero_sub,wrap64_in (z:= -x) oQ oQ]
def aV (n m:Int):Int:=(if n<0 then-(n+1) else n) % m
theorem p8 {n m:Int} (hm:0<m):0<=aV n m/\aV n m<m:=⟨Int.emod_nonneg _ oQ,Int.emod_lt_of_pos _ hm⟩
def mZ (k a b c:Int):Ev:=
 if aV k 8<3 then ⟨1,aV a 2,aV b 24,aV c 1000,0,0⟩ else if aV k 8<5 then ⟨2,0,0,0,0,0⟩
 else if aV k 8<7 then ⟨3,0,0,0,aV a 3,aV b 6⟩ else ⟨4,0,0,0,0,0⟩
structure Gr where
 kd:Int
 a:Int
 b:Int
 c:Int
 d:Int
def Gr.cells (g:Gr):List Value:=[iV g.kd,iV g.a,iV g.b,iV g.c,iV g.d]
def KJ (x:Int):Prop:= -9223372036854775808<=x/\x<=9223372036854775807
def Gr.ok (g:Gr):Prop:=KJ g.kd/\KJ g.a/\KJ g.b/\KJ g.c/\KJ g.d
def Vb (g:Gr) (e:Ev):Ac:=⟨2,aV g.a 3,aV g.b 2,0,0,if e.kind=4 then 2 else e.kind,e.producer,e.id,e.body,e.aL,e.hno⟩
def iB (g:Gr) (cr:Bool):Ac:=
 if aV g.kd 24<7 then Vb g (mZ g.c g.a g.d g.d)
 else if aV g.kd 24<13 then ⟨3,aV g.a 3,0,0,0,0,0,0,0,0,0⟩
 else if aV g.kd 24=13 then ⟨4,0,0,aV g.c 20,0,0,0,0,0,0,0⟩
 else if aV g.kd 24=14 then ⟨5,0,0,aV g.c 20,0,0,0,0,0,0,0⟩
 else if aV g.kd 24=15 then ⟨6,0,0,aV g.c 20,0,0,0,0,0,0,0⟩
 else if aV g.kd 24=16 then ⟨10,aV g.a 3,aV g.b 2,0,0,0,0,0,0,0,0⟩
 else if aV g.kd 24=17/\cr=true then ⟨8,aV g.a 3,0,0,aV g.c 120,0,0,0,0,0,0⟩
 else if aV g.kd 24=18/\cr=true then ⟨9,aV g.a 3,0,0,0,0,0,0,0,0,0⟩
 else ⟨7,0,0,0,0,0,0,0,0,0,0⟩
theorem fH {n m:Int} (hn: -9223372036854775808<=n/\n<=9223372036854775807) (hm:0<m) (w:World):
    Calls Tryz.prog 30 #[iV n,iV m] w (λe w'=>e= .returned (iV (aV n m))/\w'=w):=by
 have S:=St.start w;refine gK 13 Tryz.func30 ?_;refine cw [0,1] ?_;refine zN 9 ?_;by_cases h1:n<0
 ·refine zN 6 ?_;refine vv (v:=iV (n+1)) j6 ?_;refine vv (v:=iV (-(n+1))) (EH rfl rfl (auv oQ)) ?_;refine zN 7 ?_;refine vv (v:=iV ((-(n+1)) % m)) (aC rfl rfl rfl (adz oQ hm)) ?_;refine zN 5 ?_;rw [show aV n m=((-(n+1)) % m) from by unfold aV;first | rw [if_pos oQ] | rw [if_neg oQ]];exact ⟨rfl,rfl⟩
 refine zN 10 ?_;refine vv (v:=iV (n % m)) (aC rfl rfl rfl (adz oQ hm)) ?_;refine zN 5 ?_;rw [show aV n m=(n % m) from by unfold aV;first | rw [if_pos oQ] | rw [if_neg oQ]];exact ⟨rfl,rfl⟩
theorem l7 {n m:Int} (hn: -9223372036854775808<=n/\n<=9223372036854775807) (hm:0<m) (w:World):
    Calls Tryz.prog 16 #[iV n,iV m] w (λe w'=>e= .returned (iV (aV n m))/\w'=w):=by
 have S:=St.start w;refine gK 8 Tryz.func16 ?_;refine cw [0,1] ?_;refine zN 9 ?_;refine dL eQ (fH hn hm _) ?_;rintro _ w1 ⟨rfl,rfl⟩;refine ⟨_,rfl,?_⟩;refine zN 5 ?_;exact ⟨rfl,rfl⟩
theorem Tt {k a b c:Int} (h1:KJ k) (h2:KJ a) (h3:KJ b) (h4:KJ c) (w:World):
    Calls Tryz.prog 31 #[.agg #[iV k,iV a,iV b,iV c]] w (λe w'=>e= .returned (.agg (Ev.cells (mZ k a b c)).toArray)/\Below w.heap.size w w'):=by
 have S:=St.start w;refine gK 36 Tryz.func31 ?_;refine cw [0] ?_;refine zN 2 ?_;refine iT S ?_;intro b1 w2 S3;refine fT S3 YX ?_;intro b4 w5 S6;refine zQ ?_;refine yS (vv (vH 0 Xt) ?_);refine zQ ?_;refine dL AZ (fH (m:=8) h1 (by decide) _) ?_;rintro _ w7 ⟨rfl,rfl⟩;refine ⟨_,rfl,?_⟩;refine zN 5 ?_;have hp:=p8 (n:=k) (m:=8) (by decide);refine zQ ?_;by_cases h8:(aV k 8)=0
 ·refine zN 9 ?_;have S9:=S6.drew;refine eZ 11 10 S9 [] ?_;refine gk (v:= .pointer (some ⟨b1,1,none⟩)) 0 rfl S9 (λ_ _=>vH _ Ao) ?_;refine gP ?_;refine gk (v:= .pointer (some ⟨b1,2,none⟩)) 3 rfl S9 (λ_ _=>vH _ Ap) ?_;refine gP ?_;refine gk (v:= .pointer (some ⟨b1,3,none⟩)) 6 rfl S9 (λ_ _=>vH _ Ia) ?_;refine gP ?_;refine eG (m:=4) (r:=2) (by kernel_rfl) ?_;refine lF (i:=2) rfl rfl (wn rfl) rfl rfl (eF (vs:=[iV a,iV 2]) rfl AZ ⟨rfl,rfl,trivial⟩) (fH (m:=2) h2 (by decide) _) ?_;rintro _ w16 ⟨rfl,rfl⟩;refine ⟨_,rfl,?_⟩;refine gP ?_;refine eG (m:=3) (r:=5) (by kernel_rfl) ?_;refine lF (i:=5) rfl rfl (wn rfl) rfl rfl (eF (vs:=[iV b,iV 24]) rfl AZ ⟨rfl,rfl,trivial⟩) (fH (m:=24) h3 (by decide) _) ?_;rintro _ Kt ⟨rfl,rfl⟩;refine ⟨_,rfl,?_⟩;refine gP ?_;refine eG (m:=2) (r:=8) (by kernel_rfl) ?_;refine lF (i:=8) rfl rfl (wn rfl) rfl rfl (eF (vs:=[iV c,iV 1000]) rfl AZ ⟨rfl,rfl,trivial⟩) (fH (m:=1000) h4 (by decide) _) ?_;rintro _ Jg ⟨rfl,rfl⟩;refine ⟨_,rfl,?_⟩;refine gP ?_;refine gk (v:= .agg #[iV 1,iV (aV a 2),iV (aV b 24),iV (aV c 1000),iV 0,iV 0]) 9 rfl S9 (λ_ _=>gB) ?_;refine eB (by kernel_rfl) rfl rfl rfl ?_;refine sa 0 S9 Al ?_;intro Pt nO;refine zQ ?_;refine iX ?_;refine zN 5 ?_;rw [show mZ k a b c=⟨1,(aV a 2),(aV b 24),(aV c 1000),0,0⟩ from by unfold mZ;first | rw [if_pos (by omega)] | rw [if_neg (by omega),if_pos (by omega)] | rw [if_neg (by omega),if_neg (by omega),if_pos (by omega)] | rw [if_neg (by omega),if_neg (by omega),if_neg (by omega)]];exact ⟨rfl,nO.low⟩
 refine zN 7 ?_;by_cases h22:(aV k 8)=1
 ·refine zN 9 ?_;have kS:=S6.drew;refine eZ 11 10 kS [] ?_;refine gk (v:= .pointer (some ⟨b1,1,none⟩)) 0 rfl kS (λ_ _=>vH _ Ao) ?_;refine gP ?_;refine gk (v:= .pointer (some ⟨b1,2,none⟩)) 3 rfl kS (λ_ _=>vH _ Ap) ?_;refine gP ?_;refine gk (v:= .pointer (some ⟨b1,3,none⟩)) 6 rfl kS (λ_ _=>vH _ Ia) ?_;refine gP ?_;refine eG (m:=4) (r:=2) (by kernel_rfl) ?_;refine lF (i:=2) rfl rfl (wn rfl) rfl rfl (eF (vs:=[iV a,iV 2]) rfl AZ ⟨rfl,rfl,trivial⟩) (fH (m:=2) h2 (by decide) _) ?_;rintro _ TY ⟨rfl,rfl⟩;refine ⟨_,rfl,?_⟩;refine gP ?_;refine eG (m:=3) (r:=5) (by kernel_rfl) ?_;refine lF (i:=5) rfl rfl (wn rfl) rfl rfl (eF (vs:=[iV b,iV 24]) rfl AZ ⟨rfl,rfl,trivial⟩) (fH (m:=24) h3 (by decide) _) ?_;rintro _ T9 ⟨rfl,rfl⟩;refine ⟨_,rfl,?_⟩;refine gP ?_;refine eG (m:=2) (r:=8) (by kernel_rfl) ?_;refine lF (i:=8) rfl rfl (wn rfl) rfl rfl (eF (vs:=[iV c,iV 1000]) rfl AZ ⟨rfl,rfl,trivial⟩) (fH (m:=1000) h4 (by decide) _) ?_;rintro _ w32 ⟨rfl,rfl⟩;refine ⟨_,rfl,?_⟩;refine gP ?_;refine gk (v:= .agg #[iV 1,iV (aV a 2),iV (aV b 24),iV (aV c 1000),iV 0,iV 0]) 9 rfl kS (λ_ _=>gB) ?_;refine eB (by kernel_rfl) rfl rfl rfl ?_;refine sa 0 kS Al ?_;intro w34 uj;refine zQ ?_;refine iX ?_;refine zN 5 ?_;rw [show mZ k a b c=⟨1,(aV a 2),(aV b 24),(aV c 1000),0,0⟩ from by unfold mZ;first | rw [if_pos (by omega)] | rw [if_neg (by omega),if_pos (by omega)] | rw [if_neg (by omega),if_neg (by omega),if_pos (by omega)] | rw [if_neg (by omega),if_neg (by omega),if_neg (by omega)]];exact ⟨rfl,uj.low⟩
 refine zN 6 ?_;by_cases sM:(aV k 8)=2
 ·refine zN 6 ?_;have o8:=S6.drew;refine eZ 11 10 o8 [] ?_;refine gk (v:= .pointer (some ⟨b1,1,none⟩)) 0 rfl o8 (λ_ _=>vH _ Ao) ?_;refine gP ?_;refine gk (v:= .pointer (some ⟨b1,2,none⟩)) 3 rfl o8 (λ_ _=>vH _ Ap) ?_;refine gP ?_;refine gk (v:= .pointer (some ⟨b1,3,none⟩)) 6 rfl o8 (λ_ _=>vH _ Ia) ?_;refine gP ?_;refine eG (m:=4) (r:=2) (by kernel_rfl) ?_;refine lF (i:=2) rfl rfl (wn rfl) rfl rfl (eF (vs:=[iV a,iV 2]) rfl AZ ⟨rfl,rfl,trivial⟩) (fH (m:=2) h2 (by decide) _) ?_;rintro _ QU ⟨rfl,rfl⟩;refine ⟨_,rfl,?_⟩;refine gP ?_;refine eG (m:=3) (r:=5) (by kernel_rfl) ?_;refine lF (i:=5) rfl rfl (wn rfl) rfl rfl (eF (vs:=[iV b,iV 24]) rfl AZ ⟨rfl,rfl,trivial⟩) (fH (m:=24) h3 (by decide) _) ?_;rintro _ w45 ⟨rfl,rfl⟩;refine ⟨_,rfl,?_⟩;refine gP ?_;refine eG (m:=2) (r:=8) (by kernel_rfl) ?_;refine lF (i:=8) rfl rfl (wn rfl) rfl rfl (eF (vs:=[iV c,iV 1000]) rfl AZ ⟨rfl,rfl,trivial⟩) (fH (m:=1000) h4 (by decide) _) ?_;rintro _ Ub ⟨rfl,rfl⟩;refine ⟨_,rfl,?_⟩;refine gP ?_;refine gk (v:= .agg #[iV 1,iV (aV a 2),iV (aV b 24),iV (aV c 1000),iV 0,iV 0]) 9 rfl o8 (λ_ _=>gB) ?_;refine eB (by kernel_rfl) rfl rfl rfl ?_;refine sa 0 o8 Al ?_;intro ZL u6;refine zQ ?_;refine iX ?_;refine zN 5 ?_;rw [show mZ k a b c=⟨1,(aV a 2),(aV b 24),(aV c 1000),0,0⟩ from by unfold mZ;first | rw [if_pos (by omega)] | rw [if_neg (by omega),if_pos (by omega)] | rw [if_neg (by omega),if_neg (by omega),if_pos (by omega)] | rw [if_neg (by omega),if_neg (by omega),if_neg (by omega)]];exact ⟨rfl,u6.low⟩
 refine zN 8 ?_;by_cases h50:(aV k 8)=3
 ·refine zN 10 ?_;refine vv (v:= .agg #[iV 2,iV 0,iV 0,iV 0,iV 0,iV 0]) gB ?_;refine sa 0 S6 Al ?_;intro Zm oh;refine zN 6 ?_;rw [show mZ k a b c=⟨2,0,0,0,0,0⟩ from by unfold mZ;first | rw [if_pos (by omega)] | rw [if_neg (by omega),if_pos (by omega)] | rw [if_neg (by omega),if_neg (by omega),if_pos (by omega)] | rw [if_neg (by omega),if_neg (by omega),if_neg (by omega)]];exact ⟨rfl,oh.low⟩
 refine zN 6 ?_;by_cases h53:(aV k 8)=4
 ·refine zN 7 ?_;refine vv (v:= .agg #[iV 2,iV 0,iV 0,iV 0,iV 0,iV 0]) gB ?_;refine sa 0 S6 Al ?_;intro w54 vI;refine zN 6 ?_;rw [show mZ k a b c=⟨2,0,0,0,0,0⟩ from by unfold mZ;first | rw [if_pos (by omega)] | rw [if_neg (by omega),if_pos (by omega)] | rw [if_neg (by omega),if_neg (by omega),if_pos (by omega)] | rw [if_neg (by omega),if_neg (by omega),if_neg (by omega)]];exact ⟨rfl,vI.low⟩
 refine zN 8 ?_;by_cases h56:(aV k 8)=5
 ·refine zN 9 ?_;have qN:=S6.drew;refine eZ 9 8 qN [] ?_;refine gk (v:= .pointer (some ⟨b1,1,none⟩)) 0 rfl qN (λ_ _=>vH _ Ao) ?_;refine gP ?_;refine gk (v:= .pointer (some ⟨b1,2,none⟩)) 3 rfl qN (λ_ _=>vH _ Ap) ?_;refine gP ?_;refine eG (m:=4) (r:=2) (by kernel_rfl) ?_;refine lF (i:=2) rfl rfl (wn rfl) rfl rfl (eF (vs:=[iV a,iV 3]) rfl AZ ⟨rfl,rfl,trivial⟩) (fH (m:=3) h2 (by decide) _) ?_;rintro _ Ua ⟨rfl,rfl⟩;refine ⟨_,rfl,?_⟩;refine gP ?_;refine eG (m:=3) (r:=5) (by kernel_rfl) ?_;refine lF (i:=5) rfl rfl (wn rfl) rfl rfl (eF (vs:=[iV b,iV 6]) rfl AZ ⟨rfl,rfl,trivial⟩) (fH (m:=6) h3 (by decide) _) ?_;rintro _ w63 ⟨rfl,rfl⟩;refine ⟨_,rfl,?_⟩;refine gP ?_;refine gk (v:= .agg #[iV (aV a 3),iV (aV b 6)]) 6 rfl qN (λ_ _=>gB) ?_;refine gk (v:= .agg #[iV 3,iV 0,iV 0,iV 0,iV (aV a 3),iV (aV b 6)]) 7 rfl qN (λ_ _=>gB) ?_;refine eB (by kernel_rfl) rfl rfl rfl ?_;refine sa 0 qN Al ?_;intro Pg qO;refine zQ ?_;refine iX ?_;refine zN 5 ?_;rw [show mZ k a b c=⟨3,0,0,0,(aV a 3),(aV b 6)⟩ from by unfold mZ;first | rw [if_pos (by omega)] | rw [if_neg (by omega),if_pos (by omega)] | rw [if_neg (by omega),if_neg (by omega),if_pos (by omega)] | rw [if_neg (by omega),if_neg (by omega),if_neg (by omega)]];exact ⟨rfl,qO.low⟩
 refine zN 6 ?_;by_cases h68:(aV k 8)=6
 ·refine zN 6 ?_;have tN:=S6.drew;refine eZ 9 8 tN [] ?_;refine gk (v:= .pointer (some ⟨b1,1,none⟩)) 0 rfl tN (λ_ _=>vH _ Ao) ?_;refine gP ?_;refine gk (v:= .pointer (some ⟨b1,2,none⟩)) 3 rfl tN (λ_ _=>vH _ Ap) ?_;refine gP ?_;refine eG (m:=4) (r:=2) (by kernel_rfl) ?_;refine lF (i:=2) rfl rfl (wn rfl) rfl rfl (eF (vs:=[iV a,iV 3]) rfl AZ ⟨rfl,rfl,trivial⟩) (fH (m:=3) h2 (by decide) _) ?_;rintro _ w74 ⟨rfl,rfl⟩;refine ⟨_,rfl,?_⟩;refine gP ?_;refine eG (m:=3) (r:=5) (by kernel_rfl) ?_;refine lF (i:=5) rfl rfl (wn rfl) rfl rfl (eF (vs:=[iV b,iV 6]) rfl AZ ⟨rfl,rfl,trivial⟩) (fH (m:=6) h3 (by decide) _) ?_;rintro _ w75 ⟨rfl,rfl⟩;refine ⟨_,rfl,?_⟩;refine gP ?_;refine gk (v:= .agg #[iV (aV a 3),iV (aV b 6)]) 6 rfl tN (λ_ _=>gB) ?_;refine gk (v:= .agg #[iV 3,iV 0,iV 0,iV 0,iV (aV a 3),iV (aV b 6)]) 7 rfl tN (λ_ _=>gB) ?_;refine eB (by kernel_rfl) rfl rfl rfl ?_;refine sa 0 tN Al ?_;intro w78 zJ;refine zQ ?_;refine iX ?_;refine zN 5 ?_;rw [show mZ k a b c=⟨3,0,0,0,(aV a 3),(aV b 6)⟩ from by unfold mZ;first | rw [if_pos (by omega)] | rw [if_neg (by omega),if_pos (by omega)] | rw [if_neg (by omega),if_neg (by omega),if_pos (by omega)] | rw [if_neg (by omega),if_neg (by omega),if_neg (by omega)]];exact ⟨rfl,zJ.low⟩
 refine zN 10 ?_;refine vv (v:= .agg #[iV 4,iV 0,iV 0,iV 0,iV 0,iV 0]) gB ?_;refine sa 0 S6 Al ?_;intro w80 tO;refine zN 4 ?_;rw [show mZ k a b c=⟨4,0,0,0,0,0⟩ from by unfold mZ;first | rw [if_pos (by omega)] | rw [if_neg (by omega),if_pos (by omega)] | rw [if_neg (by omega),if_neg (by omega),if_pos (by omega)] | rw [if_neg (by omega),if_neg (by omega),if_neg (by omega)]];exact ⟨rfl,tO.low⟩
theorem Tv {k a b c:Int} (h1:KJ k) (h2:KJ a) (h3:KJ b) (h4:KJ c) (w:World):
    Calls Tryz.prog 17 #[.agg #[iV k,iV a,iV b,iV c]] w (λe w'=>e= .returned (.agg (Ev.cells (mZ k a b c)).toArray)/\Below w.heap.size w w'):=by
 have S:=St.start w;refine gK 5 Tryz.func17 ?_;refine cw [0] ?_;refine zN 2 ?_;refine iT S ?_;intro b1 w2 S3;refine fT S3 YX ?_;intro b4 w5 S6;refine zQ ?_;refine yF (vv (ah rfl rfl (jc 1 S6 rfl Tryz.underlying78 rfl kQ rfl)) ?_);refine cab eQ S6 (Tt h1 h2 h3 h4 _) ?_;intro w7 S8;refine sa 0 S8 kQ ?_;intro Zo rJ;refine zN 4 ?_;exact ⟨rfl,rJ.low⟩
theorem aaZ {g:Gr} (h:g.ok) (cr:Bool) (w:World):
    Calls Tryz.prog 8 #[.agg #[iV g.kd,iV g.a,iV g.b,iV g.c,iV g.d],.bool cr] w (λe w'=>e= .returned (.agg (Ac.cells (iB g cr)).toArray)/\Below w.heap.size w w'):=by
 have S:=St.start w;refine gK 91 Tryz.func8 ?_;refine cw [0,1] ?_;refine zN 2 ?_;refine iT S ?_;intro b1 w2 S3;refine fT S3 afZ ?_;intro b4 w5 S6;refine zQ ?_;refine yF (vv (vH 1 Om) ?_);refine zQ ?_;refine dL Qg (l7 (m:=3) h.2.1 (by decide) _) ?_;rintro _ w7 ⟨rfl,rfl⟩;refine ⟨_,rfl,?_⟩;refine zN 2 ?_;refine yF (vv (vH 2 Xq) ?_);refine zQ ?_;refine dL Qg (l7 (m:=2) h.2.2.1 (by decide) _) ?_;rintro _ w8 ⟨rfl,rfl⟩;refine ⟨_,rfl,?_⟩;refine zN 2 ?_;refine yS (vv (vH 0 Xp) ?_);refine zQ ?_;refine dL Qg (l7 (m:=24) h.1 (by decide) _) ?_;rintro _ w9 ⟨rfl,rfl⟩;refine ⟨_,rfl,?_⟩;refine zN 7 ?_;by_cases h10:(aV g.kd 24)<7
 ·refine zN 3 ?_;refine tK (vv (vH 3 Am) ?_);refine zQ ?_;refine vv (vH 1 Om) ?_;refine zQ ?_;refine vv (vH 4 Oo) ?_;refine zQ ?_;refine vv (vH 4 Oo) ?_;refine zQ ?_;refine vv (v:= .agg #[iV g.c,iV g.a,iV g.d,iV g.d]) gB ?_;refine cab awC S6 (Tv h.2.2.2.1 h.2.1 h.2.2.2.2 h.2.2.2.2 _) ?_;intro EW kP;refine fT kP YX ?_;intro b14 C8 jR;refine sa 0 jR Al ?_;intro Kt iU;refine zN 7 ?_;by_cases h19:(mZ g.c g.a g.d g.d).kind=4
  ·refine zN 6 ?_;refine Gz 0 iU apU ?_;intro Pt nO;refine zN 7 ?_;refine vv (v:= .agg #[iV 2,iV (aV g.a 3),iV (aV g.b 2),iV 0,iV 0,iV 2,iV ((mZ g.c g.a g.d g.d).producer),iV ((mZ g.c g.a g.d g.d).id),iV ((mZ g.c g.a g.d g.d).body),iV ((mZ g.c g.a g.d g.d).aL),iV ((mZ g.c g.a g.d g.d).hno)]) gB ?_;refine sa 1 nO tY ?_;intro Px kS;refine zN 6 ?_;rw [show iB g cr=⟨2,(aV g.a 3),(aV g.b 2),0,0,2,(mZ g.c g.a g.d g.d).producer,(mZ g.c g.a g.d g.d).id,(mZ g.c g.a g.d g.d).body,(mZ g.c g.a g.d g.d).aL,(mZ g.c g.a g.d g.d).hno⟩ from by unfold iB;rw [if_pos (by omega),Vb,if_pos (by assumption)]];exact ⟨rfl,kS.low⟩
  refine zN 11 ?_;refine vv (v:= .agg #[iV 2,iV (aV g.a 3),iV (aV g.b 2),iV 0,iV 0,iV ((mZ g.c g.a g.d g.d).kind),iV ((mZ g.c g.a g.d g.d).producer),iV ((mZ g.c g.a g.d g.d).id),iV ((mZ g.c g.a g.d g.d).body),iV ((mZ g.c g.a g.d g.d).aL),iV ((mZ g.c g.a g.d g.d).hno)]) gB ?_;refine sa 1 iU tY ?_;intro LG iy;refine zN 6 ?_;rw [show iB g cr=⟨2,(aV g.a 3),(aV g.b 2),0,0,(mZ g.c g.a g.d g.d).kind,(mZ g.c g.a g.d g.d).producer,(mZ g.c g.a g.d g.d).id,(mZ g.c g.a g.d g.d).body,(mZ g.c g.a g.d g.d).aL,(mZ g.c g.a g.d g.d).hno⟩ from by unfold iB;rw [if_pos (by omega),Vb,if_neg (by assumption)]];exact ⟨rfl,iy.low⟩
 refine zN 8 ?_;by_cases h26:(aV g.kd 24)<13
 ·refine zN 8 ?_;refine vv (v:= .agg #[iV 3,iV (aV g.a 3),iV 0,iV 0,iV 0,iV 0,iV 0,iV 0,iV 0,iV 0,iV 0]) gB ?_;refine sa 0 S6 tY ?_;intro MW sJ;refine zN 6 ?_;rw [show iB g cr=⟨3,(aV g.a 3),0,0,0,0,0,0,0,0,0⟩ from by unfold iB;rw [if_neg (by omega),if_pos (by omega)]];exact ⟨rfl,sJ.low⟩
 refine zN 8 ?_;by_cases h29:(aV g.kd 24)=13
 ·refine zN 3 ?_;refine tK (vv (vH 3 Am) ?_);refine zQ ?_;refine dL Qg (l7 (m:=20) h.2.2.2.1 (by decide) _) ?_;rintro _ TY ⟨rfl,rfl⟩;refine ⟨_,rfl,?_⟩;refine vv (v:= .agg #[iV 4,iV 0,iV 0,iV (aV g.c 20),iV 0,iV 0,iV 0,iV 0,iV 0,iV 0,iV 0]) gB ?_;refine sa 0 S6 tY ?_;intro T9 pX;refine zN 6 ?_;rw [show iB g cr=⟨4,0,0,(aV g.c 20),0,0,0,0,0,0,0⟩ from by unfold iB;rw [if_neg (by omega),if_neg (by omega),if_pos (by omega)]];exact ⟨rfl,pX.low⟩
 refine zN 8 ?_;by_cases h33:(aV g.kd 24)=14
 ·refine zN 3 ?_;refine tK (vv (vH 3 Am) ?_);refine zQ ?_;refine dL Qg (l7 (m:=20) h.2.2.2.1 (by decide) _) ?_;rintro _ w34 ⟨rfl,rfl⟩;refine ⟨_,rfl,?_⟩;refine vv (v:= .agg #[iV 5,iV 0,iV 0,iV (aV g.c 20),iV 0,iV 0,iV 0,iV 0,iV 0,iV 0,iV 0]) gB ?_;refine sa 0 S6 tY ?_;intro XW og;refine zN 6 ?_;rw [show iB g cr=⟨5,0,0,(aV g.c 20),0,0,0,0,0,0,0⟩ from by unfold iB;rw [if_neg (by omega),if_neg (by omega),if_neg (by omega),if_pos (by omega)]];exact ⟨rfl,og.low⟩
 refine zN 8 ?_;by_cases h37:(aV g.kd 24)=15
 ·refine zN 3 ?_;refine tK (vv (vH 3 Am) ?_);refine zQ ?_;refine dL Qg (l7 (m:=20) h.2.2.2.1 (by decide) _) ?_;rintro _ w38 ⟨rfl,rfl⟩;refine ⟨_,rfl,?_⟩;refine vv (v:= .agg #[iV 6,iV 0,iV 0,iV (aV g.c 20),iV 0,iV 0,iV 0,iV 0,iV 0,iV 0,iV 0]) gB ?_;refine sa 0 S6 tY ?_;intro w39 vX;refine zN 6 ?_;rw [show iB g cr=⟨6,0,0,(aV g.c 20),0,0,0,0,0,0,0⟩ from by unfold iB;rw [if_neg (by omega),if_neg (by omega),if_neg (by omega),if_neg (by omega),if_pos (by omega)]];exact ⟨rfl,vX.low⟩
 refine zN 8 ?_;by_cases h41:(aV g.kd 24)=16
 ·refine zN 9 ?_;refine vv (v:= .agg #[iV 10,iV (aV g.a 3),iV (aV g.b 2),iV 0,iV 0,iV 0,iV 0,iV 0,iV 0,iV 0,iV 0]) gB ?_;refine sa 0 S6 tY ?_;intro QT qM;refine zN 6 ?_;rw [show iB g cr=⟨10,(aV g.a 3),(aV g.b 2),0,0,0,0,0,0,0,0⟩ from by unfold iB;rw [if_neg (by omega),if_neg (by omega),if_neg (by omega),if_neg (by omega),if_neg (by omega),if_pos (by omega)]];exact ⟨rfl,qM.low⟩
 refine zN 6 ?_;have hp:=p8 (n:=g.kd) (m:=24) (by decide)
 cases cr with
 | false=>
  refine zN 2 ?_;by_cases h44:(aV g.kd 24)=17
  ·refine zN 24 ?_;refine vv (v:= .agg #[iV 7,iV 0,iV 0,iV 0,iV 0,iV 0,iV 0,iV 0,iV 0,iV 0,iV 0]) gB ?_;refine sa 0 S6 tY ?_;intro w45 sN;refine zN 4 ?_;rw [show iB g false=⟨7,0,0,0,0,0,0,0,0,0,0⟩ from by unfold iB;rw [if_neg (by omega),if_neg (by omega),if_neg (by omega),if_neg (by omega),if_neg (by omega),if_neg (by omega),if_neg (λh=>by have:=h.2;cases this),if_neg (λh=>by have:=h.2;cases this)]];exact ⟨rfl,sN.low⟩
  refine zN 11 ?_;by_cases h47:(aV g.kd 24)=18
  ·refine zN 13 ?_;refine vv (v:= .agg #[iV 7,iV 0,iV 0,iV 0,iV 0,iV 0,iV 0,iV 0,iV 0,iV 0,iV 0]) gB ?_;refine sa 0 S6 tY ?_;intro ZL u6;refine zN 4 ?_;rw [show iB g false=⟨7,0,0,0,0,0,0,0,0,0,0⟩ from by unfold iB;rw [if_neg (by omega),if_neg (by omega),if_neg (by omega),if_neg (by omega),if_neg (by omega),if_neg (by omega),if_neg (λh=>by have:=h.2;cases this),if_neg (λh=>by have:=h.2;cases this)]];exact ⟨rfl,u6.low⟩
  refine zN 13 ?_;refine vv (v:= .agg #[iV 7,iV 0,iV 0,iV 0,iV 0,iV 0,iV 0,iV 0,iV 0,iV 0,iV 0]) gB ?_;refine sa 0 S6 tY ?_;intro Pf uh;refine zN 4 ?_;rw [show iB g false=⟨7,0,0,0,0,0,0,0,0,0,0⟩ from by unfold iB;rw [if_neg (by omega),if_neg (by omega),if_neg (by omega),if_neg (by omega),if_neg (by omega),if_neg (by omega),if_neg (λh=>by have:=h.2;cases this),if_neg (λh=>by have:=h.2;cases this)]];exact ⟨rfl,uh.low⟩
 | true=>
  refine zN 2 ?_;by_cases h52:(aV g.kd 24)=17
  ·refine zN 11 ?_;refine vv (vH 3 Am) ?_;refine zQ ?_;refine dL Qg (l7 (m:=120) h.2.2.2.1 (by decide) _) ?_;rintro _ w53 ⟨rfl,rfl⟩;refine ⟨_,rfl,?_⟩;refine vv (v:= .agg #[iV 8,iV (aV g.a 3),iV 0,iV 0,iV (aV g.c 120),iV 0,iV 0,iV 0,iV 0,iV 0,iV 0]) gB ?_;refine sa 0 S6 tY ?_;intro w54 vI;refine zN 6 ?_;rw [show iB g true=⟨8,(aV g.a 3),0,0,(aV g.c 120),0,0,0,0,0,0⟩ from by unfold iB;rw [if_neg (by omega),if_neg (by omega),if_neg (by omega),if_neg (by omega),if_neg (by omega),if_neg (by omega),if_pos ⟨by omega,rfl⟩]];exact ⟨rfl,vI.low⟩
  refine zN 11 ?_;by_cases h56:(aV g.kd 24)=18
  ·refine zN 11 ?_;refine vv (v:= .agg #[iV 9,iV (aV g.a 3),iV 0,iV 0,iV 0,iV 0,iV 0,iV 0,iV 0,iV 0,iV 0]) gB ?_;refine sa 0 S6 tY ?_;intro w57 um;refine zN 6 ?_;rw [show iB g true=⟨9,(aV g.a 3),0,0,0,0,0,0,0,0,0⟩ from by unfold iB;rw [if_neg (by omega),if_neg (by omega),if_neg (by omega),if_neg (by omega),if_neg (by omega),if_neg (by omega),if_neg (λh=>by have:=h.1;omega),if_pos ⟨by omega,rfl⟩]];exact ⟨rfl,um.low⟩
  refine zN 13 ?_;refine vv (v:= .agg #[iV 7,iV 0,iV 0,iV 0,iV 0,iV 0,iV 0,iV 0,iV 0,iV 0,iV 0]) gB ?_;refine sa 0 S6 tY ?_;intro w59 M8;refine zN 4 ?_;rw [show iB g true=⟨7,0,0,0,0,0,0,0,0,0,0⟩ from by unfold iB;rw [if_neg (by omega),if_neg (by omega),if_neg (by omega),if_neg (by omega),if_neg (by omega),if_neg (by omega),if_neg (λh=>by have:=h.1;omega),if_neg (λh=>by have:=h.1;omega)]];exact ⟨rfl,M8.low⟩
def mks:List Ac:=[⟨1,0,0,0,0,0,0,0,0,0,0⟩,⟨1,1,1,0,0,0,0,0,0,0,0⟩]
def iI (gs:List Gr) (m:Nat) (cr:Bool):List Ac:=mks++(gs.take m).map (iB · cr)
theorem Tw {gs:List Gr} {k:Nat} {g:Gr} {cr:Bool} (h:gs[k]? =some g):iI gs (k+1) cr=iI gs k cr++[iB g cr]:=by
 unfold iI;rw [List.take_add_one,h];simp
theorem KL {gs:List Gr} {k m:Nat} {cr:Bool} (h1:k<=gs.length) (h2:k<=m) (h3:k=gs.length\/k=m):iI gs k cr=iI gs m cr:=by
 rcases h3 with rfl | rfl
 ·unfold iI;rw [List.take_of_length_le (Nat.le_refl _),List.take_of_length_le h2]
 rfl
theorem KM {gs:List Gr} {k:Nat} {cr:Bool} (h:k<=gs.length):(iI gs k cr).length=2+k:=by
 unfold iI mks;simp;omega
theorem P8 {gs:List Gr} {A:Option Addr} {c m:Nat} {cr:Bool} (hm:m<=1000) (hg: ∀ g∈gs,g.ok) (w:World) (h:Rd w w.heap.size 5 A gs.length (gs.flatMap Gr.cells)):
    Calls Tryz.prog 4 #[.slice A gs.length c,iV ((m:Nat):Int),.bool cr] w (λe w'=> ∃ A' c',e= .returned (.slice A' ((iI gs m cr).length) c')/\St w.heap.size w w' [.own 53 11 (.slice A' ((iI gs m cr).length) c') ((iI gs m cr).length) ((iI gs m cr).flatMap Ac.cells)]):=by
 have S:=(St.start w).bX h;refine gK 35 Tryz.func4 ?_;refine cw [0,1,2] ?_;refine zN 7 ?_;refine vv (v:= .agg #[iV 1,iV 0,iV 0,iV 0,iV 0,iV 0,iV 0,iV 0,iV 0,iV 0,iV 0]) gB ?_;refine vv (v:= .agg #[iV 1,iV 1,iV 1,iV 0,iV 0,iV 0,iV 0,iV 0,iV 0,iV 0,iV 0]) gB ?_;refine qJ (V:=λb=> .slice (some ⟨b,0,none⟩) 2 2) (row:=(mks.flatMap Ac.cells).toArray) (t:=53) (n:=2) (s:=11) (xs:=mks.flatMap Ac.cells) S (wn rfl) rfl rfl (aS (vs:=[(0,.agg #[iV 1,iV 0,iV 0,iV 0,iV 0,iV 0,iV 0,iV 0,iV 0,iV 0,iV 0]),(1,.agg #[iV 1,iV 1,iV 1,iV 0,iV 0,iV 0,iV 0,iV 0,iV 0,iV 0,iV 0])]) rfl mG kQ) rfl dQ rfl ?_;intro b1 w2 S3;refine zN 10 ?_;refine eP (X:=Nat×(Option Addr)×Nat) (λxv=>[(0,.slice A gs.length c),(1,iV ((m:Nat):Int)),(2,.bool cr),(6,.slice none 0 0),(7,.slice xv.2.1 (2+xv.1) xv.2.2),(8,iV ((xv.1:Nat):Int))]) (λxv wr=>(xv.1<=gs.length)/\(xv.1<=m)/\St w.heap.size w wr [.own 53 11 (.slice xv.2.1 (2+xv.1) xv.2.2) (2+xv.1) ((iI gs xv.1 cr).flatMap Ac.cells),.rd 5 A gs.length ((gs).flatMap Gr.cells)]) (λxv=>gs.length-xv.1) (0,(some ⟨b1,0,none⟩),2) ?_ ?_ ?_
 ·exact ⟨Nat.zero_le _,Nat.zero_le _,S3⟩
 ·exact rE
 rintro ⟨k,Ab,cb⟩ w4 ⟨hi6,Rv,S5⟩
 try dsimp only at hi6 Rv S5
 refine bg (l':=[(0,.slice A gs.length c),(1,iV ((m:Nat):Int)),(2,.bool cr),(6,.slice none 0 0),(7,.slice Ab (2+k) cb),(8,iV ((k:Nat):Int))]) rE (aA (aA (av (vm ?_))));refine zQ ?_;refine vv (v:=iV ((gs.length:Nat):Int)) (cu (vs:=[.slice A gs.length c]) rfl tU1 λ_=>kT rfl Tryz.underlying22) ?_;by_cases h8:((k:Nat):Int)< ((gs.length:Nat):Int)
 ·refine zN 4 ?_;by_cases h9:((k:Nat):Int)< ((m:Nat):Int)
  ·refine zN 13 ?_;obtain ⟨b10,o11,rfl⟩:=Rd.addr (St.rd 1 S5 rfl) oQ;obtain ⟨Ci,amt⟩:=EL k (St.rd 1 S5 rfl) oQ;refine vv (v:= .pointer (some ⟨b10,o11+k*5,none⟩)) (aZ rfl rfl rfl (lJ k Tryz.underlying22 kQ oQ oQ)) ?_;refine vv (ah rfl rfl (dK (cs:=Gr.cells Ci) (Rd.vG (St.rd 1 S5 rfl) (λ_ _ h=>bU (enc:=Gr.cells) (sz:=5) (λ_=>rfl) amt h)))) ?_;refine zQ ?_;refine cab eQ S5 (aaZ (hg _ (List.mem_of_getElem? amt)) cr _) ?_;intro LB iW;refine fT iW afZ ?_;intro b17 Jg kM;refine sa 0 kM kQ ?_;intro Pt nO;refine zN 5 ?_;refine YZ nO ?_;intro Q7 Jj jq;refine dY (news:=[iV ((iB Ci cr).kd),iV ((iB Ci cr).nd),iV ((iB Ci cr).qu),iV ((iB Ci cr).at_),iV ((iB Ci cr).kp),iV ((iB Ci cr).ek),iV ((iB Ci cr).ep),iV ((iB Ci cr).ei),iV ((iB Ci cr).eb),iV ((iB Ci cr).eh),iV ((iB Ci cr).en)]) (xs':=(iI gs (k+1) cr).flatMap Ac.cells) 2 jq (wn rfl) rfl rfl rfl rfl rfl rfl (St.lI (xs:=[iV ((iB Ci cr).kd),iV ((iB Ci cr).nd),iV ((iB Ci cr).qu),iV ((iB Ci cr).at_),iV ((iB Ci cr).kp),iV ((iB Ci cr).ek),iV ((iB Ci cr).ep),iV ((iB Ci cr).ei),iV ((iB Ci cr).eb),iV ((iB Ci cr).eh),iV ((iB Ci cr).en)]) 0 jq rfl rfl rfl) Tryz.underlying23 aco rfl dQ (aM rfl) lQ oQ (kI (enc:=Ac.cells) (Tw amt).symm rfl) ?_;intro A25 c26 MW hc29 ayO sJ;refine zN 6 ?_;refine vv (v:=iV ((k+1:Nat):Int)) j6 ?_;refine zN 2 ?_;have lg:=sJ.aU [1,0];refine bT (k+1,A25,c26) ?_ rE (by first | omega | (dsimp only;omega));exact ⟨uQ,uQ,lg⟩
  refine zN 18 ?_;have pX:=S5.aU [1];rw [show iI gs m cr=iI gs k cr from (KL oQ oQ oQ).symm,KM oQ];exact ⟨Ab,cb,rfl,pX⟩
 refine zN 22 ?_;have kE:=S5.aU [1];rw [show iI gs m cr=iI gs k cr from (KL oQ oQ oQ).symm,KM oQ];exact ⟨Ab,cb,rfl,kE⟩
open yU
theorem Yh {α β:Type} {R:α->β->Prop} {r:β}: ∀ {l:List α} {m j:Nat} {u:α},dW R l (List.replicate m r)->l[j]? =some u->R u r
 | _::_,_+1,0,_,h,hj=>by cases hj;exact h.1
 | _::l,m+1,j+1,_,h,hj=>Yh (l:=l) (m:=m) h.2 hj
 | [],_,_,_,_,hj=>by simp at hj
theorem wf_i64 {x:Int} (h:(Lit.int .i64 x).wf=true):KJ x:=by
 have h1:IntKind.i64.min= -9223372036854775808:=by decide
 have h2:IntKind.i64.max=9223372036854775807:=by decide
 unfold KJ;simp only [Lit.wf,h1,h2,Bool.and_eq_true,decide_eq_true_eq] at h;exact h
theorem ajo {α:Type} [yU α] {W:World} {v:Value} {b:Nat} (h:Fits W v (.sl b (List.replicate (size α) (.int .i64)))) {A:Option Addr} {n c:Nat} {l:List α} (hv:v= .slice A n c) (hr:Rd W W.heap.size (size α) A n (jZ l)): ∀ x∈l,∀ y∈ints x,KJ y:=by
 intro x hx y hy;obtain ⟨k,hk⟩:=List.mem_iff_getElem?.1 hx;obtain ⟨j,hj⟩:=List.mem_iff_getElem?.1 hy;have hkn:k<n:=by rw [<-hr.Ov];exact (List.getElem?_eq_some_iff.1 hk).1
 obtain ⟨bb,off,a,rfl,_,ha,hc⟩:=hr.aof hkn;rw [hk] at ha
 cases ha;have h1:=hc j y hj;have hjs:j<size α:=by rw [<-len x];exact (List.getElem?_eq_some_iff.1 hj).1
 rcases h with h | ⟨ad,n',c',h,_,_,_,hcell⟩
 ·rw [hv] at h;cases h
 rw [hv] at h
 cases h;obtain ⟨cs,h2,_,h3⟩:=hcell k hkn;have hl:=h2.len;rw [List.length_replicate] at hl;have hu:cs[j]? =some (cs[j]'oQ):=List.getElem?_eq_getElem oQ;have h4:=h3 j _ hu;rw [List.length_replicate,Go.WideShapes.add_plain,h1] at h4;obtain ⟨z,hz,hw⟩:=Yh h2 hu;rw [hz] at h4
 cases h4;exact wf_i64 hw
instance:yU Gr where
 size:=5
 ints x:=[x.kd,x.a,x.b,x.c,x.d]
 of l:=⟨l.getD 0 0,l.getD 1 0,l.getD 2 0,l.getD 3 0,l.getD 4 0⟩
 pos:=oQ
 len _:=rfl
 inv xs h:=by
  match xs,h with
  | [a,b,c,d,e],_=>rfl
theorem afj:flat Tryz.prog 30 22=some [.sl 40 (List.replicate 5 (.int .i64))]:=kQ
theorem aa0 {W:World} {v:Value} (h:Uv Tryz.prog W v 22): ∃ A c,∃ l:List Gr,v= .slice A l.length c/\Rd W W.heap.size 5 A l.length (l.flatMap Gr.cells)/\ ∀ g∈l,g.ok:=by
 obtain ⟨⟨base,hk⟩,l,hl,ha⟩:=h;rw [afj] at hl
 cases hl;obtain ⟨A,n,c,rfl⟩:=okWide_slice Tryz.underlying22 hk;obtain ⟨a,l1,e,h1,_⟩:=dW.yD ha;simp [Value.cells] at e;obtain ⟨rfl,_⟩:=e;obtain ⟨A',n',c',l,e,hr,hn,hc,hb,h0⟩:=YQ (α:=Gr) h1;have hw:=ajo (α:=Gr) h1 e hr;simp only [Value.slice.injEq] at e;obtain ⟨rfl,rfl,rfl⟩:=e;have hlen:l.length=n:=Rd.Ov (α:=Gr) hr;subst hlen;refine ⟨A,c,l,rfl,hr,λg hg=>?_⟩;have h:=hw g hg;exact ⟨h _ (by simp [ints]),h _ (by simp [ints]),h _ (by simp [ints]),h _ (by simp [ints]),h _ (by simp [ints])⟩
end Go.Proofs.YtcomidffhiilcaaGreatDoor
