import Derived.Test.YtcomidffhiilcaaGreatDoorG8266a
import Derived.Test.YtcomidffhiilcaaGreatDoorG8b520
set_option maxRecDepth 100000
set_option maxHeartbeats 8000000
set_option linter.unusedSimpArgs false
set_option linter.unusedVariables false
namespace Go.Proofs.YtcomidffhiilcaaGreatDoor
section
open ChangeShapes WideShapes RowKit
def mE (b:bK):bK:=if b.role=2 then ⟨1,b.ep,0,0,0,b.evs⟩ else b
def vB (f:Nat->bK):List bK:=[f 0,f 1,f 2,f 3]
section
variable {f:Nat->bK} {q:Nat} {b:bK} {rs:List dH} {r:dH}
theorem adn (hq:q<4):II (vB f) (q:Int)=f q:=by
 have h:q=0\/q=1\/q=2\/q=3:=oQ
 rcases h with rfl | rfl | rfl | rfl<;>rfl
theorem Uh (hq:q<4):(vB f).set q b=vB (upd f q b):=by
 have h:q=0\/q=1\/q=2\/q=3:=oQ
 rcases h with rfl | rfl | rfl | rfl<;>rfl
theorem zW {f':Nat->bK} (h: ∀ q,q<4->f q=f' q):vB f=vB f':=by unfold vB;rw [h 0 oQ,h 1 oQ,h 2 oQ,h 3 oQ]
def iN (rs:List dH) (f:Nat->bK):Prop:=(∀ r∈rs,aJ r=0)/\(allM rs).1=some (vB f)
theorem KH: ∀ (a:List dH) (i:Nat) (T T':List bK),(nP a i T).1=some T'->nP (a++[r]) i T=nP [r] (i+a.length) T'
 | [],i,T,T',h=>by
  rw [nP] at h
  cases h;rfl
 | x::a,i,T,T',h=>by
  rw [List.cons_append,nP];rw [nP] at h
  split at h
  ·cases h
  rename_i h1
  rw [if_neg h1]
  split at h
  ·cases h
  rename_i h2
  rw [if_neg h2,KH a (i+1) _ T' h,List.length_cons,show i+1+a.length=i+(a.length+1) by omega]
theorem iN.nil:iN [] λ_=>bG:=⟨λr h=>by simp at h,rfl⟩
theorem iN.snoc (h:iN rs f) (hr:aJ r=0) (hq:q<4) (hrq:r.queue=q) (ha:dV (f q) r=(b,0)):iN (rs++[r]) (upd f q b):=by
 refine ⟨λx hx=>?_,?_⟩
 ·rcases List.mem_append.1 hx with hx | hx
  ·exact h.1 x hx
  rw [List.mem_singleton] at hx;subst hx;exact hr
 have h2:=h.2;unfold allM at h2⊢;rw [KH _ _ _ _ h2,nP,hrq,adn hq,if_neg (by simpa using hr),if_neg (by rw [ha];simp),ha,show ((q:Int)).toNat=q from rfl,Uh hq,nP]
theorem iN.congr {f':Nat->bK} (h:iN rs f) (he: ∀ q,q<4->f q=f' q):iN rs f':=⟨h.1,by rw [h.2,zW he]⟩
theorem iN.read {t data:List UInt8} {syn:Int} (h:iN rs f) (hd:data=dh rs++t) (ht:(firstM t).2=0) (hz:data.length<=100000) (h0:0<=syn) (h1:syn<=data.length):
  jL data syn=(dh rs,min syn (dh rs).length,0)/\Cw data syn=some (vB f)/\ ∀ q,q<4->bV data syn q=f q:=by
 have hm:dn data syn=true:=by simp [dn];omega
 have hrd:bP data=(rs,(dh rs).length):=by rw [hd];exact yu h.1 ht
 have hrep:jL data syn=(dh rs,min syn (dh rs).length,0):=by
  unfold jL;rw [if_pos hm,hrd,hd,List.take_left]
 have hl:(dh rs).length<=data.length:=by rw [hd,List.length_append];omega
 have hrb:Cw data syn=some (vB f):=by
  unfold Cw;rw [hrep];unfold uw;rw [if_pos (by simp [dn];omega)];have:=yu (t:=[]) h.1 xq;rw [List.append_nil] at this;dsimp only;rw [this];exact h.2
 refine ⟨hrep,hrb,λq hq=>?_⟩;unfold bV;rw [hrb];exact adn hq
theorem ig (h:aj b=0):bD b:=(eH h).1
theorem jB (h:aj b=0):good b.evs:=(eH h).2
theorem oK (h:bD b) (hr:b.role≠0) (l:List Ev):bD ⟨b.role,b.ep,b.fr,b.tg,b.rd,l⟩:=h.elim (λh=>absurd h.1 hr) .inr
theorem Bu {ep:Int} (h:1<=ep) (h1:ep<=1048576) (l:List Ev):bD ⟨1,ep,0,0,0,l⟩:= .inr ⟨h,h1,.inl ⟨rfl,rfl,rfl,rfl⟩⟩
theorem Ch {k ep pe:Int} {e:Ev} (hk:1<=k/\k<=7) (hq:q<4) (iC:0<=ep/\ep<=1048576) (hpe:0<=pe/\pe<=4) (he:if kW k=true then bL e=0 else e=aQ):aJ (fV k q ep pe e)=0:=by
 unfold aJ fV;dsimp only;rw [if_neg (by simp [kC];omega),if_neg (by simp [kC];omega)];by_cases hh:kW k=true
 ·rw [if_pos hh] at he⊢;exact he
 rw [if_neg hh] at he⊢;rw [if_pos he]
theorem ajb (hb:aj b=0) (hr:b.role=0) (he:b.ep<1) (hq:q<4):ji b 1=(⟨1,1,0,0,0,[]⟩,0)/\dV b (fV 1 q 1 0 aQ)=(⟨1,1,0,0,0,[]⟩,0):=by
 have hm:ji b 1=(⟨1,1,0,0,0,[]⟩,0):=by unfold ji;rw [if_neg (by simp [hb]),if_neg oQ,if_neg (by simp [hr]),if_neg oQ]
 have ha:ku b (fV 1 q 1 0 aQ)=(⟨1,1,0,0,0,[]⟩,0):=by unfold ku fV;simpa using hm
 exact ⟨hm,by rw [kg hb (Ch oQ hq oQ oQ dQ) (by simp [fV];omega) (by rw [ha]),ha]⟩
theorem Rw {e:Ev} {ep:Int} (hb:aj b=0) (hr:b.role=1) (iC:b.ep=ep) (hq:q<4) (he:bL e=0) (hg:good (b.evs++[e])):dV b (fV 2 q ep 0 e)=({ b with evs:=b.evs++[e] },0)/\aJ (fV 2 q ep 0 e)=0:=by
 subst iC;have hs:=ig hb;unfold bD at hs;have hrec:aJ (fV 2 q b.ep 0 e)=0:=Ch oQ hq oQ oQ (by simpa [kW] using he);have hok:aj ⟨b.role,b.ep,b.fr,b.tg,b.rd,b.evs++[e]⟩=0:=mR (oK (ig hb) oQ _) hg;have ha:ku b (fV 2 q b.ep 0 e)=({ b with evs:=b.evs++[e] },0):=by
  have h1:=ac4 (b:=b) (qu:=q) (e:=b.ep) (pe:=0) (x:=e);rw [if_neg (λh=>h ⟨hr,rfl⟩)] at h1;unfold Cv at h1;rw [if_neg (λh=>h hok)] at h1;exact h1
 exact ⟨by rw [kg hb hrec (by simp [fV];omega) (by rw [ha]),ha],hrec⟩
theorem aaw {e:Ev} {ep:Int} (hb:aj b=0) (hr:b.role=4) (iC:b.ep=ep) (hq:q<4) (he:bL e=0) (hg:good (b.evs++[e])):dV b (fV 5 q ep 0 e)=({ b with evs:=b.evs++[e] },0)/\aJ (fV 5 q ep 0 e)=0/\aj { b with evs:=b.evs++[e] }=0:=by
 subst iC;have hs:=ig hb;unfold bD at hs;have hrec:aJ (fV 5 q b.ep 0 e)=0:=Ch oQ hq oQ oQ (by simpa [kW] using he);have hok:aj ⟨b.role,b.ep,b.fr,b.tg,b.rd,b.evs++[e]⟩=0:=mR (oK (ig hb) oQ _) hg;have ha:ku b (fV 5 q b.ep 0 e)=({ b with evs:=b.evs++[e] },0):=by
  have h1:=ac5 (b:=b) (qu:=q) (e:=b.ep) (pe:=0) (x:=e);rw [if_neg (λh=>h ⟨hr,rfl⟩)] at h1;unfold Cv at h1;rw [if_neg (λh=>h hok)] at h1;exact h1
 exact ⟨by rw [kg hb hrec (by simp [fV];omega) (by rw [ha]),ha],hrec,hok⟩
theorem ajc {ep tg:Int} (hb:aj b=0) (hr:b.role=1) (iC:b.ep=ep) (hq:q<4) (ht:0<=tg/\tg<=4):dV b (fV 3 q ep tg aQ)=(⟨3,b.ep,0,tg,0,b.evs⟩,0)/\aJ (fV 3 q ep tg aQ)=0:=by
 subst iC;have hs:=ig hb;unfold bD at hs;have hrec:aJ (fV 3 q b.ep tg aQ)=0:=Ch oQ hq oQ oQ dQ;have ha:ku b (fV 3 q b.ep tg aQ)=(⟨3,b.ep,0,tg,0,b.evs⟩,0):=by
  unfold ku fV UQ;have h1:b.fr=0:=oQ;have h2:b.rd=0:=oQ;simp [hr,h1,h2]
 exact ⟨by rw [kg hb hrec (by simp [fV];omega) (by rw [ha]),ha],hrec⟩
theorem ae7 {ep fr:Int} (hb:aj b=0) (hr:b.role=0\/b.role=4) (iC:b.ep<ep) (h1:1<=ep/\ep<=1048576) (hq:q<4) (ht:0<=fr/\fr<=4):dV b (fV 4 q ep fr aQ)=(⟨4,ep,fr,0,0,[]⟩,0)/\aJ (fV 4 q ep fr aQ)=0:=by
 have hrec:aJ (fV 4 q ep fr aQ)=0:=Ch oQ hq oQ oQ dQ;have ha:ku b (fV 4 q ep fr aQ)=(⟨4,ep,fr,0,0,[]⟩,0):=by
  unfold ku fV dB;rw [if_neg iQ,if_pos rfl];dsimp only;rw [if_neg (by simp [hb]),if_neg oQ,if_neg oQ,if_neg oQ,if_neg oQ]
 exact ⟨by rw [kg hb hrec (by simp [fV];omega) (by rw [ha]),ha],hrec⟩
theorem ao5 {ep:Int} (hb:aj b=0) (hr:b.role=4) (iC:b.ep=ep) (hq:q<4) (hg:good (b.evs++[cO])):dV b (fV 6 q ep 0 aQ)=(⟨1,b.ep,0,0,0,b.evs++[cO]⟩,0)/\aJ (fV 6 q ep 0 aQ)=0:=by
 subst iC;have hs:=ig hb;unfold bD at hs;have hrec:aJ (fV 6 q b.ep 0 aQ)=0:=Ch oQ hq oQ oQ dQ;have hok:aj ⟨1,b.ep,0,0,0,b.evs++[cO]⟩=0:=mR (Bu oQ oQ _) hg;have hi:dw b b.ep b.evs.length [] true=(⟨1,b.ep,0,0,0,b.evs++[cO]⟩,0):=by
  unfold dw;rw [if_neg (by simp [hb]),if_neg (by simp [hr]),if_neg iQ,if_neg oQ,if_neg iQ,if_neg iQ];simp only [if_pos,List.drop_nil,List.append_nil];rw [if_neg (by simpa using hok)]
 have ha:ku b (fV 6 q b.ep 0 aQ)=(⟨1,b.ep,0,0,0,b.evs++[cO]⟩,0):=by
  unfold ku fV;simp [hr,hi]
 exact ⟨by rw [kg hb hrec (by simp [fV];omega) (by rw [ha]),ha],hrec⟩
theorem aax {ep:Int} (hb:aj b=0) (hr:b.role=3) (iC:b.ep=ep) (hq:q<4):dV b (fV 7 q ep 0 aQ)=(⟨0,b.ep,0,0,0,[]⟩,0)/\aJ (fV 7 q ep 0 aQ)=0:=by
 subst iC;have hs:=ig hb;unfold bD at hs;have hrec:aJ (fV 7 q b.ep 0 aQ)=0:=Ch oQ hq oQ oQ dQ;have ha:ku b (fV 7 q b.ep 0 aQ)=(⟨0,b.ep,0,0,0,[]⟩,0):=by
  unfold ku fV fZ;simp [hr,hb];omega
 exact ⟨by rw [kg hb hrec (by simp [fV];omega) (by rw [ha]),ha],hrec⟩
theorem uD (h:aj b=0):aj (mE b)=0:=by
 unfold mE
 split
 ·rename_i hr
  have hs:=ig h;unfold bD at hs;exact mR (Bu oQ oQ _) (jB (b:=b) h)
 exact h
theorem Ui:(mE b).ep=b.ep:=by unfold mE;split<;>rfl
theorem ajd:(mE b).evs=b.evs:=by unfold mE;split<;>rfl
theorem JW:(mE b).role≠2:=by unfold mE;split<;>first | assumption | simp
theorem Rx (h:b.role≠2):mE b=b:=if_neg h
theorem yw (h:serves b) (hb:aj b=0):mE b=⟨1,b.ep,0,0,0,b.evs⟩:=by
 unfold mE
 split
 ·rfl
 have hs:=ig hb;unfold bD at hs;unfold serves at h;obtain ⟨ro,ep,fr,tg,rd,evs⟩:=b;dsimp only at*;simp only [bK.mk.injEq,and_true,true_and];omega
end
def fO.q:fO->Nat
 | .serve q .. =>q
 | .begun q _=>q
 | .got q .. =>q
 | .jU q .. =>q
 | .forget q _=>q
def fO.b (bs:Nat->bK):fO->bK
 | .serve q evs _ _ _=>{ bs q with evs:=evs }
 | .begun _ b=>b
 | .got _ b _=>b
 | .jU _ b _=>b
 | .forget _ b=>b
def fO.rs (bs:Nat->bK):fO->List dH
 | .serve q _ op _ _=>[fV 2 q (bs q).ep 0 op]
 | .begun q b=>[fV 4 q b.ep b.fr aQ]
 | .got q b last=>uy q b (bs q).evs.length (b.evs.length-if last=true then 1 else 0) last
 | .jU q b _=>[fV 3 q b.ep b.tg aQ]
 | .forget q _=>[fV 7 q (bs q).ep 0 aQ]
def fO.ok (bs:Nat->bK):fO->Prop
 | .serve q evs op _ _=>serves (bs q)/\evs=(bs q).evs++[op]/\bL op=0/\good evs
 | .begun q b=>((bs q).role=0\/(bs q).role=4)/\ ∃ e f,b=⟨4,e,f,0,0,[]⟩/\(bs q).ep<e/\1<=e/\e<=1048576/\0<=f/\f<=4
 | .got q b last=>(bs q).role=4/\good b.evs/\(∀ e∈b.evs,bL e=0)/\(last=false->b={ bs q with evs:=b.evs }/\(bs q).evs=b.evs.take (bs q).evs.length)/\
   (last=true-> ∃ es,b=⟨1,(bs q).ep,0,0,0,es++[cO]⟩/\(bs q).evs=es.take (bs q).evs.length)
 | .jU q b _=>(bs q).role=2/\b={ bs q with role:=3,rd:=0 }
 | .forget q b=>(bs q).role=3/\b=⟨0,(bs q).ep,0,0,0,[]⟩
def iO.ok (l:iO):Prop:=l.q<4/\l.evs.length<=2000/\(l.kd=0\/l.kd=2\/l.kd=3\/l.kd=4\/l.kd=6)
theorem G6 {b:bK} {hv:Int} (h:aj b=0) (h2:(bM b hv).2=0):aj (bM b hv).1=0:=by
 have hb:=eH h;have hs:=hb.1;unfold bD at hs;unfold bM at h2⊢;rw [if_neg (λe=>e h)] at h2⊢;by_cases c1:b.role≠2/\b.role≠3
 ·rw [if_pos c1] at h2;exact absurd h2 dQ
 rw [if_neg c1] at h2⊢;by_cases c2: ¬ (0<=hv/\hv<=b.evs.length)
 ·rw [if_pos c2] at h2;exact absurd h2 dQ
 rw [if_neg c2] at h2⊢;by_cases c3:b.role=3
 ·rw [if_pos c3];exact h
 rw [if_neg c3];have key: ∀ r d,bD ⟨r,b.ep,b.fr,b.tg,d,b.evs⟩->aj ⟨r,b.ep,b.fr,b.tg,d,b.evs⟩=0:=λr d h=>mR h hb.2;by_cases c4:hv=b.evs.length\/b.rd=4
 ·rw [if_pos c4];refine key 3 0 ?_;clear h2 key h hb;unfold bD;dsimp only;omega
 rw [if_neg c4];have hr:b.role=2:=by clear h2 key h hb c2 c4;omega
 have hd: ¬ b.rd=4:=λe=>c4 (.inr e);rw [hr] at hs;have hs2:1<=b.ep/\b.ep<=1048576/\b.fr=0/\0<=b.tg/\b.tg<5/\0<=b.rd/\b.rd<=4:=by clear h2 key h hb c1 c2 c3 c4;omega
 refine key b.role (b.rd+1) (.inr ⟨hs2.1,hs2.2.1,.inr (.inl ⟨hr,hs2.2.2.1,hs2.2.2.2.1,hs2.2.2.2.2.1,?_,?_⟩)⟩)
 ·show 0<=b.rd+1
  have:=hs2.2.2.2.2.2;clear h2 key h hb c1 c2 c3 c4 hs;omega
 show b.rd+1<=4
 have:=hs2.2.2.2.2.2;clear h2 key h hb c1 c2 c3 c4 hs;omega
structure Cy (m m':Cl) (n:Nat):Prop where
 PE: ∀ j,j≠n->m'.au j=m.au j
 up:(m'.au n).up=(m.au n).up
 u7:(m'.au n).inbox=(m.au n).inbox
 trn:(m'.au n).turn=(m.au n).turn
 qW:(∀ q,q<4->aj ((m.au n).bs q)=0)-> ∀ q,q<4->aj ((m'.au n).bs q)=0
 fly:m'.fly.length<=m.fly.length+1
 aX:m'.aX.length<=m.aX.length+1
section
variable {m m':Cl} {n:Nat} {l:iO}
theorem zX (h:m'.au=m.au) (h1:m'.fly.length<=m.fly.length+1) (h2:m'.aX.length<=m.aX.length+1):Cy m m' n:=
 ⟨λj _=>by rw [h],by rw [h],by rw [h],by rw [h],λhb=>by rw [h];exact hb,h1,h2⟩
theorem qj:Cy m m n:=zX rfl (Nat.le_succ _) (Nat.le_succ _)
theorem DN {X:Nd} (h:m'.au=upd m.au n X) (h0:X.up=(m.au n).up) (h3:X.inbox=(m.au n).inbox) (h4:X.turn=(m.au n).turn) (h5:(∀ q,q<4->aj ((m.au n).bs q)=0)-> ∀ q,q<4->aj (X.bs q)=0) (h1:m'.fly.length<=m.fly.length+1) (h2:m'.aX.length<=m.aX.length+1):Cy m m' n:=by
 have e:m'.au n=X:=by rw [h];exact if_pos rfl
 exact ⟨λj hj=>by rw [h];exact if_neg hj,by rw [e,h0],by rw [e,h3],by rw [e,h4],λhb=>by rw [e];exact h5 hb,h1,h2⟩
theorem Ry {q:Nat} {op:Ev} {num:Int} {a:jo}:Cy m (m.done n q op num a) n:=by
 unfold Cl.done
 split
 ·exact zX rfl (by simp [Cl.send,Cl.tell]) (by simp [Cl.send,Cl.tell])
 exact zX rfl (by simp [Cl.send]) (by simp [Cl.send])
theorem Rz {q:Nat}:Cy m (m.have_ n q) n:=zX rfl (by simp [Cl.have_,Cl.send]) (by simp [Cl.have_,Cl.send])
theorem ae8 {q:Nat} {a:Int}:Cy m (m.part n q a) n:=by
 unfold Cl.part
 split
 ·exact qj
 exact zX rfl (by simp [Cl.send]) (by simp [Cl.send])
theorem NA {X x:Nd} {rs:List dH} (h:X.write rs=some x):x.up=X.up/\x.inbox=X.inbox/\x.turn=X.turn/\x.bs=X.bs:=by
 unfold Nd.write at h;rw [Option.map_eq_some_iff] at h;obtain ⟨d,_,rfl⟩:=h;exact ⟨rfl,rfl,rfl,rfl⟩
theorem Ew {x:Nd} {p:fO} {rs:List dH} (h:(m.au n).write rs=some x):Cy m (m.put n { x with pend:=some p }) n:=by
 obtain ⟨h1,h2,h3,h4⟩:=NA h;exact DN rfl h1 h2 h3 (λhb q hq=>by show aj (x.bs q)=0;rw [h4];exact hb q hq) (Nat.le_succ _) (Nat.le_succ _)
theorem Cy.ao6 {m2:Cl} (h:Cy m m2 n) (h1:m2.fly.length<=m.fly.length) (h2:m2.aX.length<=m.aX.length) (h3:Cy m2 m' n):Cy m m' n:=
 ⟨λj hj=>(h3.PE j hj).trans (h.PE j hj),h3.up.trans h.up,h3.u7.trans h.u7,h3.trn.trans h.trn,λhb=>h3.qW (h.qW hb),by have:=h3.fly;omega,by have:=h3.aX;omega⟩
theorem yA (hq:l.q<4):Cy m (m.handle n l) n:=by
 unfold Cl.handle
 split
 ·unfold Cl.serve
  split
  ·exact Ry
  split
  ·exact Ry
  exact Ew ‹_›
 split
 ·unfold Cl.offered
  split
  ·exact qj
  split
  ·exact Rz
  split
  ·exact qj
  exact Ew ‹_›
 split
 ·unfold Cl.caught
  split
  ·exact qj
  split
  ·exact qj
  rename_i h1 h2
  split
  ·refine Cy.ao6 (m2:=m.eO n l.q (bM ((m.au n).bs l.q) l.at_).1) (DN rfl rfl rfl rfl (λhb q hq'=>?_) (Nat.le_succ _) (Nat.le_succ _)) (Nat.le_refl _) (Nat.le_refl _) ae8
   show aj (upd (m.au n).bs l.q (bM ((m.au n).bs l.q) l.at_).1 q)=0
   unfold upd
   split
   ·exact G6 (hb _ hq) oQ
   exact hb q hq'
  split
  ·exact qj
  exact Ew ‹_›
 split
 ·unfold Cl.got
  split
  ·exact qj
  split
  ·exact Rz
  split
  ·exact qj
  split
  ·exact qj
  exact Ew ‹_›
 unfold Cl.learnt
 split
 ·exact DN rfl rfl rfl rfl (λhb=>hb) (Nat.le_succ _) (Nat.le_succ _)
 split
 ·exact DN rfl rfl rfl rfl (λhb=>hb) (Nat.le_succ _) (Nat.le_succ _)
 rename_i x h
 obtain ⟨h1,h2,h3,h4⟩:=NA h;exact DN rfl h1 h2 h3 (λhb q hq=>by show aj (x.bs q)=0;rw [h4];exact hb q hq) (Nat.le_succ _) (Nat.le_succ _)
end
end
section
open ChangeShapes WideShapes ChangeAt RowKit
structure LX where
 l:iO
 A:Option Addr
 c:Nat
def ae9 (l:iO) (s:Value):List Value:=[iV l.kd,iV l.fr,iV l.tg,iV ((l.q:Nat):Int),iV l.ep,iV l.at_,iV l.nd,iV l.op.kind,iV l.op.producer,iV l.op.id,iV l.op.body,iV l.op.aL,iV l.op.hno,s,.bool l.last,iV l.num,
 iV l.bF.num,iV l.bF.ans.code,iV l.bF.ans.iC,iV l.bF.ans.hno,iV l.bF.ans.body,iV l.bF.pl.node,iV l.bF.pl.epoch]
def LX.cells (x:LX):List Value:=ae9 x.l (.slice x.A x.l.evs.length x.c)
def LX.row (x:LX):Array Value:=x.cells.toArray
def vY.cells (t:vY):List Value:=[iV t.num,iV t.ans.code,iV t.ans.iC,iV t.ans.hno,iV t.ans.body,iV t.pl.node,iV t.pl.epoch]
def lD.cells (s:lD):List Value:=[iV ((s.nd:Nat):Int),iV ((s.q:Nat):Int),iV s.ep,iV s.op.kind,iV s.op.producer,iV s.op.id,iV s.op.body,iV s.op.aL,iV s.op.hno,iV s.ans.code,iV s.ans.iC,iV s.ans.hno,iV s.ans.body,iV s.num]
theorem DT (x:LX): ∀ u∈x.cells,u.oneCell'=true:=aM rfl
theorem aje (l:List LX): ∀ u∈l.flatMap LX.cells,u.oneCell'=true:=by
 intro u hu;rw [List.mem_flatMap] at hu;obtain ⟨z,_,hz⟩:=hu;exact DT z u hz
def dF (me:Nat) (up:Bool) (tv:Value) (syn:Int) (bv:Value) (H:Nat->Pl) (U:Nat->Bool) (iv pv:Value) (turn:Nat):Array Value:=
 #[iV ((me:Nat):Int),.bool up,tv,iV syn,bv,iV (H 0).node,iV (H 0).epoch,iV (H 1).node,iV (H 1).epoch,iV (H 2).node,iV (H 2).epoch,iV (H 3).node,iV (H 3).epoch,.bool (U 0),.bool (U 1),.bool (U 2),.bool (U 3),iv,pv,iV ((turn:Nat):Int)]
def PN (p:Int×Int):List Value:=[iV p.1,iV p.2]
def PO (sh:Nat->Nat->Int×Int) (n:Nat):List Value:=PN (sh n 0)++(PN (sh n 1)++(PN (sh n 2)++PN (sh n 3)))
def ajf (sh:Nat->Nat->Int×Int):List Value:=PO sh 0++(PO sh 1++(PO sh 2++(PO sh 3++PO sh 4)))
def NC (nv:Value) (d:Dir) (fv:Value) (sh:Nat->Nat->Int×Int) (sv tv:Value) (calls:Nat):List Value:=
 nv::(d.cells++(fv::(ajf sh++[iV 0,.bool false,.bool false,.bool false,.bool false,.bool false,iV 0,iV 0,iV 0,iV 0,iV 0,iV 0,iV 0,iV 0,.slice none 0 0,sv,tv,iV ((calls:Nat):Int)])))
def lq (nv:Value) (d:Dir) (fv:Value) (sh:Nat->Nat->Int×Int) (sv tv:Value) (calls:Nat):Array Value:=(NC nv d fv sh sv tv calls).toArray
section
variable {me turn calls k:Nat} {up:Bool} {tv bv iv pv nv fv sv uv x:Value} {syn:Int} {H:Nat->Pl} {U:Nat->Bool} {d:Dir} {sh:Nat->Nat->Int×Int}
theorem zy:(lq nv d fv sh sv tv calls)[0]? =some nv:=rfl
theorem Qt:(lq nv d fv sh sv tv calls)[9]? =some fv:=rfl
theorem aud:(lq nv d fv sh sv tv calls)[65]? =some sv:=rfl
theorem aue:(lq nv d fv sh sv tv calls)[66]? =some tv:=rfl
theorem akC:(lq nv d fv sh sv tv calls)[67]? =some (iV ((calls:Nat):Int)):=rfl
theorem Hu {nv' fv' sv' tv':Value} {d':Dir} {sh':Nat->Nat->Int×Int} {calls' o:Nat} {vs:List Value} (h:o+vs.length<=68) (he:(NC nv d fv sh sv tv calls).take o++vs++(NC nv d fv sh sv tv calls).drop (o+vs.length)=NC nv' d' fv' sh' sv' tv' calls'):
  cB (lq nv d fv sh sv tv calls) o vs=lq nv' d' fv' sh' sv' tv' calls':=Array.ext' (by rw [iq _ _ _ h];exact he)
theorem al6:cB (lq nv d fv sh sv tv calls) 9 [x]=lq nv d x sh sv tv calls:=Hu (Nat.le_of_ble_eq_true rfl) rfl
theorem auf:cB (lq nv d fv sh sv tv calls) 65 [x]=lq nv d fv sh x tv calls:=Hu (Nat.le_of_ble_eq_true rfl) rfl
theorem aug:cB (lq nv d fv sh sv tv calls) 66 [x]=lq nv d fv sh sv x calls:=Hu (Nat.le_of_ble_eq_true rfl) rfl
theorem auh {c':Nat}:cB (lq nv d fv sh sv tv calls) 67 [iV ((c':Nat):Int)]=lq nv d fv sh sv tv c':=Hu (Nat.le_of_ble_eq_true rfl) rfl
theorem al7 {d':Dir}:cB (lq nv d fv sh sv tv calls) 1 d'.cells=lq nv d' fv sh sv tv calls:=Hu (Nat.le_of_ble_eq_true rfl) rfl
theorem xu: ∀ (j:Nat) (u:Value),d.cells[j]? =some u->(lq nv d fv sh sv tv calls)[1+j]? =some u:=by
 intro j u h;have hj:j<8:=(List.getElem?_eq_some_iff.1 h).1;have:j=0\/j=1\/j=2\/j=3\/j=4\/j=5\/j=6\/j=7:=oQ
 rcases this with rfl | rfl | rfl | rfl | rfl | rfl | rfl | rfl<;>exact h
theorem adp:(lq nv d fv sh sv tv calls).size=68:=rfl
theorem akD {n q:Nat} (hn:n<5) (hq:q<4) {a b:Int}:cB (lq nv d fv sh sv tv calls) (10+n*8+q*2) [iV a,iV b]=lq nv d fv (oz sh n q (a,b)) sv tv calls:=by
 have h1:n=0\/n=1\/n=2\/n=3\/n=4:=oQ;have h2:q=0\/q=1\/q=2\/q=3:=oQ
 rcases h1 with rfl | rfl | rfl | rfl | rfl<;>rcases h2 with rfl | rfl | rfl | rfl<;>exact Hu (Nat.le_of_ble_eq_true rfl) rfl
theorem aui {n q:Nat} (hn:n<5) (hq:q<4): ∀ (j:Nat) (u:Value),(PN (sh n q))[j]? =some u->(lq nv d fv sh sv tv calls)[10+n*8+q*2+j]? =some u:=by
 intro j u h;have hj:j<2:=(List.getElem?_eq_some_iff.1 h).1;have h0:j=0\/j=1:=oQ;have h1:n=0\/n=1\/n=2\/n=3\/n=4:=oQ;have h2:q=0\/q=1\/q=2\/q=3:=oQ
 rcases h1 with rfl | rfl | rfl | rfl | rfl<;>rcases h2 with rfl | rfl | rfl | rfl<;>rcases h0 with rfl | rfl<;>exact h
theorem DU {q:Nat} (hq:q<4) {p:Pl}:cB (dF me up tv syn bv H U iv pv turn) (5+q*2) [iV p.node,iV p.epoch]=dF me up tv syn bv (upd H q p) U iv pv turn:=by
 have h2:q=0\/q=1\/q=2\/q=3:=oQ
 rcases h2 with rfl | rfl | rfl | rfl<;>rfl
theorem Oy {q:Nat} (hq:q<4):(dF me up tv syn bv H U iv pv turn)[5+q*2]? =some (iV (H q).node)/\(dF me up tv syn bv H U iv pv turn)[5+q*2+1]? =some (iV (H q).epoch):=by
 have h2:q=0\/q=1\/q=2\/q=3:=oQ
 rcases h2 with rfl | rfl | rfl | rfl<;>exact ⟨rfl,rfl⟩
theorem Yd {q:Nat} (hq:q<4) {v:Bool}:cB (dF me up tv syn bv H U iv pv turn) (13+q*1) [.bool v]=dF me up tv syn bv H (upd U q v) iv pv turn:=by
 have h2:q=0\/q=1\/q=2\/q=3:=oQ
 rcases h2 with rfl | rfl | rfl | rfl<;>rfl
theorem ajg {q:Nat} (hq:q<4):(dF me up tv syn bv H U iv pv turn)[13+q*1]? =some (.bool (U q)):=by
 have h2:q=0\/q=1\/q=2\/q=3:=oQ
 rcases h2 with rfl | rfl | rfl | rfl<;>rfl
end
def Ro (L:List Fact) (s:Nat) (A:Option Addr) (n:Nat) (xs:List Value):Prop:= ∀ B w,(∀ f∈L,f.holds B w)->Rd w w.heap.size s A n xs
section
variable {L L':List Fact} {s n:Nat} {A:Option Addr} {xs:List Value} {B:Nat} {w w0:World} {fs:List Fact}
theorem Ro.mono (h:Ro L s A n xs) (hl: ∀ f∈L,f∈L'):Ro L' s A n xs:=λB w hw=>h B w λf hf=>hw f (hl f hf)
theorem Ro.rd (h:Ro L s A n xs) (S:St B w0 w fs) (hl: ∀ f∈L,f∈fs):Rd w w.heap.size s A n xs:=h B w λf hf=>S.has (hl f hf)
theorem Ro.none_:Ro L s none 0 []:=λ_ _ _=>Rd.none_
theorem Ro.bI (h:Fact.bI s A n xs∈L):Ro L s A n xs:=λ_ _ hw=>(hw _ h).1
theorem Ro.own {e:TypeId} {c:Nat} (h:Fact.own e s (.slice A n c) n xs∈L):Ro L s A n xs:=λ_ _ hw=>Rd.tF (hw _ h)
end
structure NX where
 bb:Nat
 tA:Option Addr
 tc:Nat
 bx:List BX
 iA:Option Addr
 ic:Nat
 ix:List LX
 pv:Value
structure CX where
 nx:Nat->NX
 fA:Option Addr
 fc:Nat
 fx:List LX
 sA:Option Addr
 sc:Nat
 tA:Option Addr
 tc:Nat
 nA:Option Addr
 nc:Nat
 L:List Fact
structure CK where
 wb:Nat
 nb:Nat->Nat
def gL (b:Nat):Value:= .pointer (some ⟨b,0,none⟩)
def ajh (n:Nat) (X:Nd) (x:NX):Array Value:=dF n X.up (.slice x.tA X.data.length x.tc) X.syn (.slice (some ⟨x.bb,0,none⟩) 4 4) X.hints X.sure (.slice x.iA x.ix.length x.ic) x.pv X.turn
def auj (R:CX) (m:Cl):Array Value:=lq (.slice R.nA 5 R.nc) m.off (.slice R.fA R.fx.length R.fc) m.shown (.slice R.sA m.aX.length R.sc) (.slice R.tA m.bF.length R.tc) m.calls
def Dj (kn n:Nat) (X:Nd) (x:NX):List Fact:=
 [.blk kn (ajh n X x) 110,.own 150 6 (.slice (some ⟨x.bb,0,none⟩) 4 4) 4 (x.bx.flatMap BX.cells),.off 125 23 x.iA x.ix.length x.ic (x.ix.flatMap LX.cells)]
def kr (K:CK) (n:Nat) (X:Nd) (x:NX):List Fact:=Dj (K.nb n) n X x
def Dk (kw:Nat) (R:CX) (m:Cl):List Fact:=
 [.blk kw (auj R m) 103,.own 125 23 (.slice R.fA R.fx.length R.fc) R.fx.length (R.fx.flatMap LX.cells),.own 50 14 (.slice R.sA m.aX.length R.sc) m.aX.length (m.aX.flatMap lD.cells),.own 123 7 (.slice R.tA m.bF.length R.tc) m.bF.length (m.bF.flatMap vY.cells)]
def uE (K:CK) (R:CX) (m:Cl):List Fact:=Dk K.wb R m
def l5 (K:CK) (R:CX) (m:Cl) (n:Nat):List Fact:=((List.range 5).filter (· ≠n)).flatMap λj=>kr K j (m.au j) (R.nx j)
def fU (K:CK) (R:CX) (m:Cl) (fs:List Fact) (n:Nat):List Fact:=fs++(l5 K R m n++R.L)
def lG (K:CK) (R:CX) (m:Cl):List Fact:=uE K R m++(((List.range 5).flatMap λj=>kr K j (m.au j) (R.nx j))++R.L)
def Gd (L:List Fact) (A:Option Addr) (c:Nat) (l:List Ev):Prop:=Ro L 6 A l.length (bn l)/\l.length<=c
def PS (L:List Fact) (x:LX):Prop:=Gd L x.A x.c x.l.evs
def Bv (L:List Fact) (y:BX):Prop:=Gd L y.A y.c y.b.evs
theorem Gd.mono {L L':List Fact} {A:Option Addr} {c:Nat} {l:List Ev} (h:Gd L A c l) (hl: ∀ f∈L,f∈L'):Gd L' A c l:=⟨h.1.mono hl,h.2⟩
def pO (kn kw:Nat) (L:List Fact):Option fO->Value->Prop
 | none,v=>v= .nilFunc
 | some (.serve q evs op num a),v=> ∃ b1 b2 b3 b4 b5 b6 b7 y x,v= .func (.func 131) #[] #[gL b1,gL b2,gL b3,gL b4,gL b5]/\ .blk b1 (BX.cells y).toArray 150∈L/\y.b.evs=evs/\Bv L y/\ .blk b2 #[gL kn] 104∈L/\ .blk b3 #[.int .i64 ((q:Nat):Int)] 3∈L/\
   .blk b4 #[.func (.func 130) #[] #[gL b6,gL b2,gL b3,gL b7]] 231∈L/\ .blk b5 (jo.cells a).toArray 48∈L/\ .blk b6 (LX.row x) 125∈L/\x.l.op=op/\x.l.num=num/\ .blk b7 #[gL kw] 93∈L
 | some (.begun q b),v=> ∃ b1 b2 b3 b4 y,v= .func (.func 134) #[] #[gL b1,gL b2,gL b3,gL b4]/\ .blk b1 (BX.cells y).toArray 150∈L/\y.b=b/\Bv L y/\ .blk b2 #[gL kn] 104∈L/\ .blk b3 #[.int .i64 ((q:Nat):Int)] 3∈L/\ .blk b4 #[gL kw] 93∈L
 | some (.got q b last),v=> ∃ b1 b2 b3 b4 b5 y x,v= .func (.func 139) #[] #[gL b1,gL b2,gL b3,gL b4,gL b5]/\ .blk b1 (BX.cells y).toArray 150∈L/\y.b=b/\Bv L y/\ .blk b2 #[gL kn] 104∈L/\ .blk b3 #[.int .i64 ((q:Nat):Int)] 3∈L/\
   .blk b4 (LX.row x) 125∈L/\x.l.last=last/\ .blk b5 #[gL kw] 93∈L
 | some (.jU q b at_),v=> ∃ b1 b2 b3 b4 b5 y x,v= .func (.func 137) #[] #[gL b1,gL b2,gL b3,gL b4,gL b5]/\ .blk b1 (BX.cells y).toArray 150∈L/\y.b=b/\Bv L y/\ .blk b2 #[gL kn] 104∈L/\ .blk b3 #[.int .i64 ((q:Nat):Int)] 3∈L/\
   .blk b4 #[gL kw] 93∈L/\ .blk b5 (LX.row x) 125∈L/\x.l.at_=at_
 | some (.forget q b),v=> ∃ b1 b2 b3 y,v= .func (.func 141) #[] #[gL b1,gL b2,gL b3]/\ .blk b1 (BX.cells y).toArray 150∈L/\y.b=b/\Bv L y/\ .blk b2 #[gL kn] 104∈L/\ .blk b3 #[.int .i64 ((q:Nat):Int)] 3∈L
def ay6 (K:CK) (L:List Fact) (n:Nat) (p:Option fO) (v:Value):Prop:=pO (K.nb n) K.wb L p v
structure dM (K:CK) (L:List Fact) (n:Nat) (X:Nd) (x:NX):Prop where
 PU:x.bx.map BX.b=vB X.bs
 RD: ∀ y∈x.bx,Bv L y
 xw:Ro L 1 x.tA X.data.length (byteCells X.data)
 ixm:x.ix.map LX.l=X.inbox
 ixo: ∀ y∈x.ix,PS L y
 zf:ay6 K L n X.pend x.pv
structure Good (K:CK) (R:CX) (m:Cl) (H:List LX):Prop where
 fly:R.fx.map LX.l=m.fly
 flo: ∀ x∈R.fx,PS R.L x
 mJ: ∀ n,n<5->dM K R.L n (m.au n) (R.nx n)
 arr:Ro R.L 1 R.nA 5 ((List.range 5).map λj=>gL (K.nb j))
 hld: ∀ x∈H,PS R.L x
def Wd (K:CK) (B:Nat) (w0 w:World) (fs:List Fact) (m:Cl) (H:List LX):Prop:= ∃ R,Good K R m H/\St B w0 w (fs++lG K R m)
section
variable {K:CK} {B n:Nat} {w0 w w':World} {fs N:List Fact} {m m':Cl} {H H':List LX} {R R':CX}
theorem pO.mono {kn kw:Nat} {L L':List Fact} {p:Option fO} {v:Value} (h:pO kn kw L p v) (hl: ∀ f∈L,f∈L'):pO kn kw L' p v:=by
 match p,h with
 | none,h=>exact h
 | some (.serve q evs op num a),⟨b1,b2,b3,b4,b5,b6,b7,y,x,h1,h2,h3,h4,h5,h6,h7,h8,h9,h10,h11,h12⟩=>
  exact ⟨b1,b2,b3,b4,b5,b6,b7,y,x,h1,hl _ h2,h3,Gd.mono h4 hl,hl _ h5,hl _ h6,hl _ h7,hl _ h8,hl _ h9,h10,h11,hl _ h12⟩
 | some (.begun q b),⟨b1,b2,b3,b4,y,h1,h2,h3,h4,h5,h6,h7⟩=>exact ⟨b1,b2,b3,b4,y,h1,hl _ h2,h3,Gd.mono h4 hl,hl _ h5,hl _ h6,hl _ h7⟩
 | some (.got q b last),⟨b1,b2,b3,b4,b5,y,x,h1,h2,h3,h4,h5,h6,h7,h8,h9⟩=>exact ⟨b1,b2,b3,b4,b5,y,x,h1,hl _ h2,h3,Gd.mono h4 hl,hl _ h5,hl _ h6,hl _ h7,h8,hl _ h9⟩
 | some (.jU q b at_),⟨b1,b2,b3,b4,b5,y,x,h1,h2,h3,h4,h5,h6,h7,h8,h9⟩=>exact ⟨b1,b2,b3,b4,b5,y,x,h1,hl _ h2,h3,Gd.mono h4 hl,hl _ h5,hl _ h6,hl _ h7,hl _ h8,h9⟩
 | some (.forget q b),⟨b1,b2,b3,y,h1,h2,h3,h4,h5,h6⟩=>exact ⟨b1,b2,b3,y,h1,hl _ h2,h3,Gd.mono h4 hl,hl _ h5,hl _ h6⟩
theorem dM.mono {L L':List Fact} {X:Nd} {x:NX} (h:dM K L n X x) (hl: ∀ f∈L,f∈L'):dM K L' n X x:=
 ⟨h.PU,λy hy=>(h.RD y hy).mono hl,h.xw.mono hl,h.ixm,λy hy=>(h.ixo y hy).mono hl,pO.mono h.zf hl⟩
theorem uR {α:Type} (f:Nat->List α) (hn:n<5):((List.range 5).flatMap f).Perm (f n++((List.range 5).filter (· ≠n)).flatMap f):=by
 have h:n=0\/n=1\/n=2\/n=3\/n=4:=oQ;have key: ∀ l:List Nat,(List.range 5).Perm (n::l)->((List.range 5).flatMap f).Perm (f n++l.flatMap f):=λl hl=>by
  have:=hl.flatMap_right f;rwa [List.flatMap_cons] at this
 refine key _ ?_
 rcases h with rfl | rfl | rfl | rfl | rfl<;>decide
open Classical in
theorem Wd.open (h:Wd K B w0 w fs m H) (hn:n<5): ∃ R,Good K R m H/\St B w0 w (kr K n (m.au n) (R.nx n)++(uE K R m++fU K R m fs n)):=by
 obtain ⟨R,hG,S⟩:=h;refine ⟨R,hG,S.perm (List.perm_iff_count.2 λa=>?_)⟩;have h1:=List.perm_iff_count.1 (uR (λj=>kr K j (m.au j) (R.nx j)) hn) a;unfold lG fU l5;simp only [List.count_append] at h1⊢;omega
theorem aaA (hs: ∀ j,j<5->j≠n->m'.au j=m.au j/\R'.nx j=R.nx j):l5 K R' m' n=l5 K R m n:=by
 unfold l5;rw [List.flatMap_def,List.flatMap_def]
 congr 1
 refine List.map_congr_left λj hj=>?_;rw [List.mem_filter,List.mem_range] at hj;obtain ⟨h1,h2⟩:=hs j hj.1 (by simpa using hj.2);rw [h1,h2]
open Classical in
theorem Wd.close {Ls:List Fact} (G:Good K R' m' H') (S:St B w0 w' (kr K n (m'.au n) (R'.nx n)++(uE K R' m'++(Ls++(fU K R m fs n++N))))) (hn:n<5) (hL:R'.L=R.L++(N++Ls)) (hs: ∀ j,j<5->j≠n->m'.au j=m.au j/\R'.nx j=R.nx j):Wd K B w0 w' fs m' H':=by
 refine ⟨R',G,S.perm (List.perm_iff_count.2 λa=>?_)⟩;have h1:=List.perm_iff_count.1 (uR (λj=>kr K j (m'.au j) (R'.nx j)) hn) a;unfold fU lG;rw [hL,<-aaA hs];unfold l5;simp only [List.count_append] at h1⊢;omega
theorem memT {L gs fs:List Fact} (k:Nat) (h:gs.drop k=fs) (hL: ∀ f∈L,f∈fs): ∀ f∈L,f∈gs:=λf hf=>List.mem_of_mem_drop (h▸hL f hf)
theorem U3 {L fs N:List Fact} (hL: ∀ f∈L,f∈fs): ∀ f∈L++N,f∈fs++N:=λf hf=>(List.mem_append.1 hf).elim (λh=>List.mem_append_left _ (hL f h)) (λh=>List.mem_append_right _ h)
theorem dN {fs:List Fact}: ∀ f∈fs,f∈fs:=λ_ h=>h
theorem adr {L N:List Fact} {x:Fact}:x∈L++(N++[x]):=by simp
theorem St.toEnd {f:Fact} (i:Nat) (S:St B w0 w fs) (hi:fs[i]? =some f):St B w0 w (fs.eraseIdx i++[f]):=(S.bring i hi).perm (List.perm_append_comm (l₁:=[f]) (l₂:=fs.eraseIdx i))
theorem St.PV {a b c d e f g:Fact} (S:St B w0 w (a::b::c::d::e::f::g::(fs++N))):St B w0 w (a::b::c::d::e::f::g::fs):=
 S.sub (((((((List.sublist_append_left fs N).cons_cons g).cons_cons f).cons_cons e).cons_cons d).cons_cons c).cons_cons b |>.cons_cons a)
theorem Ro.blk {L:List Fact} {b n s:Nat} {row:Array Value} {t:TypeId} {xs:List Value} (h:Fact.blk b row t∈L) (hx:row.toList=xs) (hl:xs.length=n*s):Ro L s (some ⟨b,0,none⟩) n xs:=λ_ _ hw=>
 ⟨hl,λ_=>⟨b,0,rfl,(hw _ h).2.lt,λj u hu=>by
  rw [Nat.zero_add];exact (hw _ h).2.cell (by rw [<-hx] at hu;simpa using hu)⟩⟩
end
end
section
open ChangeShapes WideShapes RowKit
abbrev oL (a:Option Addr) (l:List LX) (c:Nat):Fact:= .own 125 23 (.slice a l.length c) l.length (l.flatMap LX.cells)
abbrev oS (a:Option Addr) (l:List lD) (c:Nat):Fact:= .own 50 14 (.slice a l.length c) l.length (l.flatMap lD.cells)
abbrev oT (a:Option Addr) (l:List vY) (c:Nat):Fact:= .own 123 7 (.slice a l.length c) l.length (l.flatMap vY.cells)
abbrev oB (b:Nat) (l:List BX):Fact:= .own 150 6 (.slice (some ⟨b,0,none⟩) 4 4) 4 (l.flatMap BX.cells)
abbrev fL (a:Option Addr) (l:List LX) (c:Nat):Fact:= .off 125 23 a l.length c (l.flatMap LX.cells)
abbrev bW (k:Nat) (n:Value) (d:Dir) (fA:Option Addr) (fx:List LX) (fc:Nat) (sh:Nat->Nat->Int×Int) (sA:Option Addr) (sr:List lD) (sc:Nat) (tA:Option Addr) (tl:List vY) (tc cs:Nat):Fact:= .blk k (lq n d (.slice fA fx.length fc) sh (.slice sA sr.length sc) (.slice tA tl.length tc) cs) 103
abbrev bN (k n:Nat) (u:Bool) (tA:Option Addr) (dd:List UInt8) (tc:Nat) (sy:Int) (b:Nat) (H:Nat->Pl) (U:Nat->Bool) (iA:Option Addr) (ix:List LX) (ic:Nat) (pv:Value) (tn:Nat):Fact:= .blk k (dF n u (.slice tA dd.length tc) sy (.slice (some ⟨b,0,none⟩) 4 4) H U (.slice iA ix.length ic) pv tn) 110
abbrev wF (k:Nat) (n:Value) (d:Dir) (fA:Option Addr) (fx:List LX) (fc:Nat) (sh:Nat->Nat->Int×Int) (sA:Option Addr) (sr:List lD) (sc:Nat) (tA:Option Addr) (tl:List vY) (tc cs:Nat) (r:List Fact):List Fact:=bW k n d fA fx fc sh sA sr sc tA tl tc cs::oL fA fx fc::oS sA sr sc::oT tA tl tc::r
abbrev nF (k n:Nat) (u:Bool) (tA:Option Addr) (dd:List UInt8) (tc:Nat) (sy:Int) (b:Nat) (H:Nat->Pl) (U:Nat->Bool) (iA:Option Addr) (ix:List LX) (ic:Nat) (pv:Value) (tn:Nat) (bs:List BX) (r:List Fact):List Fact:=bN k n u tA dd tc sy b H U iA ix ic pv tn::oB b bs::fL iA ix ic::r
abbrev cF (k:Nat) (R:CX) (m:Cl) (r:List Fact):List Fact:=wF k (.slice R.nA 5 R.nc) m.off R.fA R.fx R.fc m.shown R.sA m.aX R.sc R.tA m.bF R.tc m.calls r
abbrev cN (k n:Nat) (X:Nd) (z:NX) (pv:Value) (r:List Fact):List Fact:=nF k n X.up z.tA X.data z.tc X.syn z.bb X.hints X.sure z.iA z.ix z.ic pv X.turn z.bx r
theorem U4 {x:LX}: ∀ (j:Nat) (u:Value),[Value.int .i64 x.l.op.kind,iV x.l.op.producer,iV x.l.op.id,iV x.l.op.body,iV x.l.op.aL,iV x.l.op.hno][j]? =some u->(LX.row x)[7+j]? =some u:=by
 intro j u h;have hj:j<6:=(List.getElem?_eq_some_iff.1 h).1;have:j=0\/j=1\/j=2\/j=3\/j=4\/j=5:=oQ
 rcases this with rfl | rfl | rfl | rfl | rfl | rfl<;>exact h
theorem ao7 {x:LX}: ∀ (j:Nat) (u:Value),[Value.int .i64 x.l.bF.num,iV x.l.bF.ans.code,iV x.l.bF.ans.iC,iV x.l.bF.ans.hno,iV x.l.bF.ans.body,iV x.l.bF.pl.node,iV x.l.bF.pl.epoch][j]? =some u->(LX.row x)[16+j]? =some u:=by
 intro j u h;have hj:j<7:=(List.getElem?_eq_some_iff.1 h).1;have:j=0\/j=1\/j=2\/j=3\/j=4\/j=5\/j=6:=oQ
 rcases this with rfl | rfl | rfl | rfl | rfl | rfl | rfl<;>exact h
theorem rP {me turn:Nat} {up:Bool} {tv bv iv pv:Value} {syn:Int} {H:Nat->Pl} {U:Nat->Bool}: ∀ (j:Nat) (u:Value),[tv,iV syn][j]? =some u->(dF me up tv syn bv H U iv pv turn)[2+j]? =some u:=by
 intro j u h;have hj:j<2:=(List.getElem?_eq_some_iff.1 h).1;have:j=0\/j=1:=oQ
 rcases this with rfl | rfl<;>exact h
theorem vk (d:Dir): ∀ u∈d.cells.toArray.toList,u.oneCell'=true:=aM rfl
theorem aji {me turn q:Nat} {up:Bool} {tv bv iv pv:Value} {syn:Int} {H:Nat->Pl} {U:Nat->Bool} (hq:q<4): ∀ (j:Nat) (u:Value),[Value.int .i64 (H q).node,iV (H q).epoch][j]? =some u->(dF me up tv syn bv H U iv pv turn)[5+q*2+j]? =some u:=by
 intro j u h;have hj:j<2:=(List.getElem?_eq_some_iff.1 h).1;have:j=0\/j=1:=oQ
 rcases this with rfl | rfl
 ·rw [Nat.add_zero,(Oy hq).1];exact h
 rw [(Oy hq).2];exact h
theorem ao8 {bs:List BX} {q c:Nat} {y:BX} {A:Option Addr} {evs:List Ev} (hy:bs[q]? =some y):rU (bs.flatMap BX.cells) (0+q*6+5) [.slice A evs.length c]=(bs.set q ⟨{ y.b with evs:=evs },A,c⟩).flatMap BX.cells:=by
 obtain ⟨hl,he⟩:=List.getElem?_eq_some_iff.1 hy;rw [<-qz (enc:=BX.cells) (sz:=6) (λ_=>rfl) ⟨{ y.b with evs:=evs },A,c⟩ q bs hl,Nat.zero_add];have hg: ∀ j u,(BX.cells y)[j]? =some u->(bs.flatMap BX.cells)[q*6+j]? =some u:=λj u h=>bU (enc:=BX.cells) (sz:=6) (λ_=>rfl) hy h;simp only [rU,BX.cells];have e: ∀ (l:List Value) (k:Nat) (u:Value),l[k]? =some u->l.set k u=l:=λl k u h=>by
  obtain ⟨h1,h2⟩:=List.getElem?_eq_some_iff.1 h;subst h2;exact List.set_getElem_self h1
 rw [e _ (q*6) _ (hg 0 _ rfl),e _ (q*6+1) _ (hg 1 _ rfl),e _ (q*6+1+1) _ (hg 2 _ rfl),e _ (q*6+1+1+1) _ (hg 3 _ rfl),e _ (q*6+1+1+1+1) _ (hg 4 _ rfl)]
theorem jk (k:Int) (q:Nat) (y:BX) (w:World):
    Calls tP 66 #[iV k,iV ((q:Nat):Int),.agg (bR y.b y.A y.c)] w (λe w'=>e= .returned (.agg (dH.cells (fV k q y.b.ep 0 aQ)).toArray)/\Below w.heap.size w w'):=by
 have S:=St.start w;refine gK 12 Tryz.func66 ?_;refine cw [0,1,2] ?_;refine zN 2 ?_;refine iT S ?_;intro b1 w2 S3;refine fT S3 wu ?_;intro b4 w5 S6;refine zN 8 ?_;refine vv (v:= .agg #[iV k,iV ((q:Nat):Int),iV y.b.ep,iV 0,iV 0,iV 0,iV 0,iV 0,iV 0,iV 0]) gB ?_;refine sa 0 S6 kQ ?_;intro w7 S8;refine zN 4 ?_;exact ⟨rfl,S8.low⟩
theorem gT {B kw calls fc sc tc:Nat} {fA sA tA:Option Addr} {nv:Value} {d:Dir} {sh:Nat->Nat->Int×Int} {fx:List LX} {aX:List lD} {tl:List vY} {w0 w:World} {fs:List Fact} {x:LX} (S:St B w0 w ((.blk kw (lq (nv) d (.slice fA fx.length fc) sh (.slice sA aX.length sc) (.slice tA tl.length tc) calls) 103)::(.own 125 23 (.slice fA fx.length fc) fx.length ((fx).flatMap LX.cells))::fs)) (hb:(fx.length+1)*200<=140737488355328):
    Calls tP 42 #[pV kw 0,.agg (LX.row x)] w (λe w'=>e= .returned (.tuple #[])/\ ∃ A' c' qE,qE=fx++[x]/\St B w0 w' ((.blk kw (lq (nv) d (.slice A' qE.length c') sh (.slice sA aX.length sc) (.slice tA tl.length tc) calls) 103)::(.own 125 23 (.slice A' qE.length c') qE.length ((qE).flatMap LX.cells))::fs)):=by
 refine gK 14 Tryz.func42 ?_;refine cw [0,1] ?_;refine zN 2 ?_;refine iT S ?_;intro b1 w2 S3;refine zN 2 ?_;have S4:=S3.drew;refine eZ 11 8 S4 [2] ?_;iterate 4 refine gP ?_
 refine gk (v:= .slice fA fx.length fc) 4 rfl (St.del 2 S4) (λ_ Sx9=>(ah rfl rfl (aG (St.cl 1 Sx9 rfl Qt)))) ?_;refine gP ?_;refine eG (m:=4) (r:=6) kQ ?_;refine mq (i:=6) rfl rfl (V:=λb=> .slice (aD b 0) 1 1) (row:=LX.row x) (t:=125) S4 (wn rfl) rfl rfl (aS (vs:=[(0,.agg (LX.row x))]) rfl wT kQ) ?_;intro b11 w12 za;refine gP ?_;refine eG (m:=3) (r:=7) kQ ?_;refine kX (i:=7) rfl rfl (news:=(LX.cells x)) (xs':=(fx++[x]).flatMap LX.cells) 3 za (wn rfl) rfl rfl rfl rfl rfl rfl (St.lI (xs:=(LX.cells x)) 0 za rfl rfl rfl) Tryz.underlying97 Xu rfl dQ (DT _) lQ oQ (kI (enc:=LX.cells) rfl rfl) ?_;intro A14 c15 w16 hc18 aHJ kR;refine gP ?_;refine eB kQ rfl rfl rfl ?_;refine zN 2 ?_;refine jE 2 kR kQ ?_ (hs:=by exact al6);intro Pt nO;refine zQ ?_;refine iX ?_;refine aK (l':=[]) trivial (nZ ?_);have iM:=nO.aU [1,0];refine ⟨rfl,A14,c15,fx++[x],rfl,?_⟩;rw [List.length_append];exact iM
theorem nC {B kn kw bb n turn calls dc ic fc sc tc:Nat} {up:Bool} {dA iA fA sA tA:Option Addr} {data:List UInt8} {syn:Int} {Hh:Nat->Pl} {Us:Nat->Bool} {pv nv:Value} {d:Dir} {sh:Nat->Nat->Int×Int} {bs:List BX} {ix fx:List LX} {aX:List lD} {tl:List vY} {w0 w:World} {fs:List Fact} {q:Nat} (hn:n<5) (hq:q<4) {y:BX} (hy:bs[q]? =some y) (e:Ev) (a:jo) (num:Int) (S:St B w0 w ((.blk kn (dF n up (.slice dA data.length dc) syn (.slice (aD bb 0) 4 4) Hh Us (.slice iA ix.length ic) (pv) turn) 110)::(.own 150 6 (.slice (aD bb 0) 4 4) 4 ((bs).flatMap BX.cells))::(.off 125 23 iA ix.length ic ((ix).flatMap LX.cells))::(.blk kw (lq (nv) d (.slice fA fx.length fc) sh (.slice sA aX.length sc) (.slice tA tl.length tc) calls) 103)::(.own 125 23 (.slice fA fx.length fc) fx.length ((fx).flatMap LX.cells))::(.own 50 14 (.slice sA aX.length sc) aX.length ((aX).flatMap lD.cells))::(.own 123 7 (.slice tA tl.length tc) tl.length ((tl).flatMap vY.cells))::fs)) (hb:(aX.length+1)*112<=140737488355328):
    Calls tP 77 #[pV kw 0,pV kn 0,iV ((q:Nat):Int),.agg #[iV e.kind,iV e.producer,iV e.id,iV e.body,iV e.aL,iV e.hno],.agg #[iV a.code,iV a.iC,iV a.hno,iV a.body],iV num] w (λe' w'=>e'= .returned (.tuple #[])/\ ∃ A' c' Bw,Bw=aX++[(⟨n,q,y.b.ep,e,a,num⟩:lD)]/\St B w0 w' ((.blk kn (dF n up (.slice dA data.length dc) syn (.slice (aD bb 0) 4 4) Hh Us (.slice iA ix.length ic) (pv) turn) 110)::(.own 150 6 (.slice (aD bb 0) 4 4) 4 ((bs).flatMap BX.cells))::(.off 125 23 iA ix.length ic ((ix).flatMap LX.cells))::(.blk kw (lq (nv) d (.slice fA fx.length fc) (oz sh n q (y.b.ep,(y.b.evs.length:Int))) (.slice A' Bw.length c') (.slice tA tl.length tc) calls) 103)::(.own 125 23 (.slice fA fx.length fc) fx.length ((fx).flatMap LX.cells))::(.own 50 14 (.slice A' Bw.length c') Bw.length ((Bw).flatMap lD.cells))::(.own 123 7 (.slice tA tl.length tc) tl.length ((tl).flatMap vY.cells))::fs)):=by
 have hlen:=(S.own 1 rfl).1;rw [iE (sz:=6) (λ_=>rfl)] at hlen;refine gK 68 Tryz.func77 ?_;refine cw [0,1,2,3,4,5] ?_;refine zN 2 ?_;refine iT S ?_;intro b1 w2 S3;refine iT S3 ?_;intro b4 w5 S6;refine zN 3 ?_;have S7:=S6.drew;refine eZ 29 25 S7 [7] ?_;iterate 5 refine gP ?_
 refine gk (v:= .slice sA aX.length sc) 5 rfl (St.del 7 S7) (λ_ Qn=>(ah rfl rfl (aG (St.cl 5 Qn rfl aud)))) ?_;iterate 10 refine gP ?_
 refine gk 16 rfl (St.del 7 S7) (λ_ _=>kY q) ?_;refine gP ?_;refine gk (v:=iV y.b.ep) 18 rfl (St.del 7 S7) (λ_ alG=>(ah rfl rfl (aG (Rd.Xm (i:=1) (St.ord 3 alG rfl) (bU (enc:=BX.cells) (sz:=6) (λ_=>rfl) hy rfl))))) ?_;iterate 3 refine gP ?_
 refine gk (v:= .agg #[iV ((n:Nat):Int),iV ((q:Nat):Int),iV y.b.ep,iV e.kind,iV e.producer,iV e.id,iV e.body,iV e.aL,iV e.hno,iV a.code,iV a.iC,iV a.hno,iV a.body,iV num]) 22 rfl (St.del 7 S7) (λ_ _=>gB) ?_;refine eG (m:=5) (r:=23) kQ ?_;refine mq (i:=23) rfl rfl (V:=λb=> .slice (aD b 0) 1 1) (row:= #[iV ((n:Nat):Int),iV ((q:Nat):Int),iV y.b.ep,iV e.kind,iV e.producer,iV e.id,iV e.body,iV e.aL,iV e.hno,iV a.code,iV a.iC,iV a.hno,iV a.body,iV num]) (t:=50) S7 (wn rfl) rfl rfl (aS (vs:=[(0,.agg #[iV ((n:Nat):Int),iV ((q:Nat):Int),iV y.b.ep,iV e.kind,iV e.producer,iV e.id,iV e.body,iV e.aL,iV e.hno,iV a.code,iV a.iC,iV a.hno,iV a.body,iV num])]) rfl wT kQ) ?_;intro b31 w32 kE;refine gP ?_;refine eG (m:=4) (r:=24) kQ ?_;refine kX (i:=24) rfl rfl (news:=[iV ((n:Nat):Int),iV ((q:Nat):Int),iV y.b.ep,iV e.kind,iV e.producer,iV e.id,iV e.body,iV e.aL,iV e.hno,iV a.code,iV a.iC,iV a.hno,iV a.body,iV num]) (xs':=(aX++[(⟨n,q,y.b.ep,e,a,num⟩:lD)]).flatMap lD.cells) 8 kE (wn rfl) rfl rfl rfl rfl rfl rfl (St.lI (xs:=[iV ((n:Nat):Int),iV ((q:Nat):Int),iV y.b.ep,iV e.kind,iV e.producer,iV e.id,iV e.body,iV e.aL,iV e.hno,iV a.code,iV a.iC,iV a.hno,iV a.body,iV num]) 0 kE rfl rfl rfl) Tryz.underlying37 anL rfl dQ (aM rfl) lQ oQ (kI (enc:=lD.cells) rfl rfl) ?_;intro A34 c35 w36 hc38 ay7 o8;refine gP ?_;refine eB kQ rfl rfl rfl ?_;refine zN 3 ?_;refine jE 6 o8 kQ ?_ (hs:=by exact auf);intro w40 Jf;refine zQ ?_;refine iX ?_;refine zQ ?_;have uZ:=Jf.drew;refine aF 29 uZ [6] ?_;refine aI 11 ?_;refine ak 11 rfl (St.del 6 uZ) (λ_ _=>kY q) ?_;refine dJ ?_;refine ak (v:=iV y.b.ep) 13 rfl (St.del 6 uZ) (λ_ aaB=>(ah rfl rfl (aG (Rd.Xm (i:=1) (St.ord 4 aaB rfl) (bU (enc:=BX.cells) (sz:=6) (λ_=>rfl) hy rfl))))) ?_;refine aI 5 ?_;refine ak 19 rfl (St.del 6 uZ) (λ_ _=>kY q) ?_;refine dJ ?_;refine ak (v:= .slice y.A y.b.evs.length y.c) 21 rfl (St.del 6 uZ) (λ_ Zc=>(ah rfl rfl (aG (Rd.Xm (i:=5) (St.ord 4 Zc rfl) (bU (enc:=BX.cells) (sz:=6) (λ_=>rfl) hy rfl))))) ?_;refine dJ ?_;refine ak (v:= .agg #[iV y.b.ep,iV ((y.b.evs.length:Nat):Int)]) 23 rfl (St.del 6 uZ) (λ_ _=>gB) ?_;refine aI 2 ?_;refine ak (v:=pV kw (10+n*8)) 26 rfl (St.del 6 uZ) (λ_ _=>(aZ rfl rfl rfl (fE n Tryz.underlying101 kQ rfl hn))) ?_;refine ak (v:=pV kw (10+n*8+q*2)) 27 rfl (St.del 6 uZ) (λ_ _=>(aZ rfl rfl rfl (fE q Tryz.underlying100 kQ rfl hq))) ?_;refine aY 28 ?_;refine sD (i:=28) rfl rfl (cs:= #[iV y.b.ep,iV ((y.b.evs.length:Nat):Int)]) (row':=lq (nv) d (.slice fA fx.length fc) (oz sh n q (y.b.ep,((y.b.evs.length:Nat):Int))) (.slice A34 (aX.length+1) c35) (.slice tA tl.length tc) calls) (fs':=(_::_::_::_::_::_::(.blk kw (lq (nv) d (.slice fA fx.length fc) (oz sh n q (y.b.ep,((y.b.evs.length:Nat):Int))) (.slice A34 (aX.length+1) c35) (.slice tA tl.length tc) calls) 103)::_::_::_::fs)) 6 uZ (wn rfl) rfl rfl rfl rfl rfl rfl TN rfl (aM rfl) (by rw [adp];omega) (akD hn hq (a:=y.b.ep) (b:=((y.b.evs.length:Nat):Int))) rfl ?_;intro w71 Ca;refine aI 2 ?_;refine aK (l':=[]) trivial (nZ ?_);have tQ:=Ca.aU [2,1,0];refine ⟨rfl,A34,c35,aX++[(⟨n,q,y.b.ep,e,a,num⟩:lD)],rfl,?_⟩
 rw [List.length_append];exact tQ
theorem yB {B kn kw bb n turn calls dc ic fc sc tc:Nat} {up:Bool} {dA iA fA sA tA:Option Addr} {data:List UInt8} {syn:Int} {Hh:Nat->Pl} {Us:Nat->Bool} {pv nv:Value} {d:Dir} {sh:Nat->Nat->Int×Int} {bs:List BX} {ix fx:List LX} {aX:List lD} {tl:List vY} {w0 w:World} {fs:List Fact} {q:Nat} (hn:n<5) (hq:q<4) {y:BX} (hy:bs[q]? =some y) (S:St B w0 w (nF kn n up dA data dc syn bb Hh Us iA ix ic pv turn bs (wF kw nv d fA fx fc sh sA aX sc tA tl tc calls fs))) (hb:(fx.length+1)*200<=140737488355328):
    Calls Tryz.prog 133 #[pV kw 0,pV kn 0,iV ((q:Nat):Int)] w (λe w'=>e= .returned (.tuple #[])/\ ∃ A' c' qE,qE=fx++[⟨Ay n q y.b,none,0⟩]/\St B w0 w' (nF kn n up dA data dc syn bb Hh Us iA ix ic pv turn bs (wF kw nv d A' qE c' sh sA aX sc tA tl tc calls fs))):=by
 have hlen:=(S.own 1 rfl).1;rw [iE (sz:=6) (λ_=>rfl)] at hlen;refine gK 29 Tryz.func133 ?_;refine cw [0,1,2] ?_;refine zN 7 ?_;refine vv (kY q) ?_;refine vv (ah rfl rfl (dK (cs:=BX.cells y) (Rd.vG (St.ord 1 S rfl) (λ_ _ h=>bU (enc:=BX.cells) (sz:=6) (λ_=>rfl) hy h)))) ?_;refine fT S fM ?_;intro b1 w2 S3;refine sa 0 S3 kQ ?_;intro w4 S5;refine zN 2 ?_;have S6:=S5.dZ [5,5];have S7:=S6.drew;refine aF 15 S7 [1,0] ?_;refine aI 13 ?_;refine ak (v:= .agg #[iV 3,iV ((n:Nat):Int),iV y.b.fr,iV ((q:Nat):Int),iV y.b.ep,iV ((y.b.evs.length:Nat):Int),iV 0,iV 0,iV 0,iV 0,iV 0,iV 0,iV 0,.slice none 0 0,.bool false,iV 0,iV 0,iV 0,iV 0,iV 0,iV 0,iV 0,iV 0]) 13 rfl (S7.mg [1,0]) (λ_ _=>gB) ?_;refine aY 14 ?_;refine j5 14 rfl eQ (gT (x:=⟨Ay n q y.b,none,0⟩) S7 oQ) ?_;rintro _ Jh ⟨rfl,A22,c23,ay8,ay9,qx⟩;refine ⟨_,rfl,?_⟩;refine aI 2 ?_;refine aK (l':=[]) trivial (nZ ?_);have sJ:=qx.aU [2];have oW:=sJ.dZ [6,6,3,3,6,6,6];exact ⟨rfl,A22,c23,ay8,ay9,oW⟩
noncomputable def uF (n q:Nat) (b:bK) (at_:Int) (fl:List iO):List iO:=if (jD b at_).2.2≠0 then fl else fl++[UR n q b at_]
theorem aza {B:Nat} {w0 w:World} {a b c d e f g x:Fact} {fs:List Fact} (S:St B w0 w (a::b::c::d::e::f::g::x::fs)):St B w0 w (a::b::c::d::e::f::g::(fs++[x])):=
 S.perm (List.Perm.cons _ (List.Perm.cons _ (List.Perm.cons _ (List.Perm.cons _ (List.Perm.cons _ (List.Perm.cons _ (List.Perm.cons _ (List.perm_append_comm (l₁:=[x]) (l₂:=fs)))))))))
theorem KI {B kn kw bb n turn calls dc ic fc sc tc:Nat} {up:Bool} {dA iA fA sA tA:Option Addr} {data:List UInt8} {syn:Int} {Hh:Nat->Pl} {Us:Nat->Bool} {pv nv:Value} {d:Dir} {sh:Nat->Nat->Int×Int} {bs:List BX} {ix fx:List LX} {aX:List lD} {tl:List vY} {w0 w:World} {fs:List Fact} {q:Nat} {L:List Fact} (hn:n<5) (hq:q<4) {y:BX} (hy:bs[q]? =some y) (at_:Int) (hev:Bv L y) (hL: ∀ f∈L,f∈fs) (al8:y.b.evs.length*48<=reachBytes) (iC: -2<=y.b.ep/\y.b.ep<=2000000) (S:St B w0 w (nF kn n up dA data dc syn bb Hh Us iA ix ic pv turn bs (wF kw nv d fA fx fc sh sA aX sc tA tl tc calls fs))) (hb:(fx.length+1)*200<=140737488355328):
    Calls Tryz.prog 136 #[pV kw 0,pV kn 0,iV ((q:Nat):Int),iV at_] w (λe w'=>e= .returned (.tuple #[])/\ ∃ (A':Option Addr) (c':Nat) (qE:List LX) (N:List Fact),qE.map LX.l=uF n q y.b at_ (fx.map LX.l)/\(∀ x∈qE,x∈fx\/PS N x)/\St B w0 w' (nF kn n up dA data dc syn bb Hh Us iA ix ic pv turn bs (wF kw nv d A' qE c' sh sA aX sc tA tl tc calls (fs++N)))):=by
 have hlen:=(S.own 1 rfl).1;rw [iE (sz:=6) (λ_=>rfl)] at hlen;refine gK 44 Tryz.func136 ?_;refine cw [0,1,2,3] ?_;refine zN 7 ?_;refine vv (kY q) ?_;refine vv (ah rfl rfl (dK (cs:=BX.cells y) (Rd.vG (St.ord 1 S rfl) (λ_ _ h=>bU (enc:=BX.cells) (sz:=6) (λ_=>rfl) hy h)))) ?_;refine fT S fM ?_;intro b1 w2 S3;refine sa 0 S3 kQ ?_;intro w4 S5;refine zN 6 ?_;refine dL eQ ((show Calls _ _ _ _ (Q8 _ (jD y.b at_)) from Ww y.b.role y.b.ep y.b.fr y.b.tg y.b.rd y.A y.c y.b.evs at_ hev.2 _ (hev.1.rd S5 (memT 8 rfl hL)) al8)) ?_;rintro _ w9 ⟨A6,c7,azb,rfl,T11⟩;refine ⟨_,rfl,?_⟩;have nN:=S5.ext T11 rfl;refine zN 13 ?_;by_cases h12:(jD y.b at_).2.2=0
 ·refine zN 6 ?_;have za:=nN.dZ [6,6];have jP:=za.drew;refine aF 16 jP [1,0] ?_;refine aI 10 ?_;refine ak (v:=iV (y.b.ep+1)) 10 rfl (jP.mg [1,0]) (λ_ _=>j6) ?_;refine aI 3 ?_;refine ak (v:= .agg #[iV 4,iV ((n:Nat):Int),iV y.b.tg,iV ((q:Nat):Int),iV (y.b.ep+1),iV at_,iV 0,iV 0,iV 0,iV 0,iV 0,iV 0,iV 0,.slice A6 ((jD y.b at_).1.length) c7,.bool ((jD y.b at_).2.1),iV 0,iV 0,iV 0,iV 0,iV 0,iV 0,iV 0,iV 0]) 14 rfl (jP.mg [1,0]) (λ_ _=>gB) ?_;refine aY 15 ?_;refine j5 15 rfl eQ (gT (x:=⟨UR n q y.b at_,A6,c7⟩) jP oQ) ?_;rintro _ w34 ⟨rfl,om,c31,azc,arR,uj⟩;refine ⟨_,rfl,?_⟩;refine aI 2 ?_;refine aK (l':=[]) trivial (nZ ?_);have og:=uj.aU [3];have o8:=og.dZ [7,7,3,3,7,7,7];refine ⟨rfl,om,c31,azc,[.bI 6 A6 ((jD y.b at_).1.length) (((jD y.b at_).1).flatMap Ev.cells)],?_,?_,?_⟩
  · rw [uF,if_neg (λh=>h h12),arR,List.map_append];rfl
  · intro x hx;rw [arR] at hx;rcases List.mem_append.1 hx with hx | hx;exact .inl hx;rw [List.mem_singleton] at hx;subst hx;exact .inr ⟨Ro.bI (List.mem_singleton.2 rfl),azb⟩
  · exact aza o8
 refine zN 7 ?_;have qD:=nN.aU [1];have CY:=qD.dZ [7,7,7,7,7,7,7];have vX:=CY.aU [7];refine ⟨rfl,fA,fc,fx,[],?_,?_,?_⟩
 · rw [uF,if_pos h12]
 · exact λx hx=> .inl hx
 · rw [List.append_nil];exact vX
def azd (w:World) (r:List UInt8×Int×Int) (e:Ending) (w':World):Prop:=
 ∃ A c,e= .returned (.tuple #[.agg #[.slice A r.1.length c,iV r.2.1],iV r.2.2])/\St w.heap.size w w' [.bI 1 A r.1.length (byteCells r.1)]
theorem AB {P:Program} {f:FuncId} {vs:Array Value} {w:World} {r:List UInt8×Int×Int} (h:Calls P f vs w (rG w r)):Calls P f vs w (azd w r):=h.mono λe w' ⟨A,c,h1,h2,h3,h4⟩=>
 ⟨A,c,h1,((St.start w).on h2).cons ⟨h3,h4⟩ λk _ i g hg=>by simp at hg⟩
theorem IL {d:List UInt8} {s:Int} {rs:List dH} {k:Nat} {r:dH} (hk:rs[k]? =some r):fG d s (rs.drop k)=if (jr d s r).2.2≠0 then none else fG (jr d s r).1 s (rs.drop (k+1)):=by rw [drop_cons hk,fG]
theorem ads {d:List UInt8} {s:Int} {r:dH} (h:(jr d s r).2.2=0):(jr d s r).2.1=s:=by rw [(Nl h).1]
theorem pQ {B kn kw bb n turn calls dc ic fc sc tc:Nat} {up:Bool} {dA iA fA sA tA:Option Addr} {data:List UInt8} {syn:Int} {Hh:Nat->Pl} {Us:Nat->Bool} {pv nv:Value} {d:Dir} {sh:Nat->Nat->Int×Int} {bs:List BX} {ix fx:List LX} {aX:List lD} {tl:List vY} {w0 w:World} {fs:List Fact} {L:List Fact} {rs:List dH} {RA:Option Addr} {rc:Nat} (hrs:Ro fs 10 RA rs.length (rs.flatMap dH.cells)) (htp:Ro L 1 dA data.length (byteCells data)) (hL: ∀ f∈L,f∈fs) (hrl:rs.length<=1000000) (S:St B w0 w (nF kn n up dA data dc syn bb Hh Us iA ix ic pv turn bs (wF kw nv d fA fx fc sh sA aX sc tA tl tc calls fs))):
    Calls Tryz.prog 65 #[pV kn 0,.slice RA rs.length rc] w (λe w'=>(fG data syn rs=none/\e= .returned (.bool false)/\St B w0 w' (nF kn n up dA data dc syn bb Hh Us iA ix ic pv turn bs (wF kw nv d fA fx fc sh sA aX sc tA tl tc calls fs)))\/ ∃ d' A' c' N,fG data syn rs=some d'/\e= .returned (.bool true)/\Ro (L++N) 1 A' d'.length (byteCells d')/\St B w0 w' (nF kn n up A' d' c' syn bb Hh Us iA ix ic pv turn bs (wF kw nv d fA fx fc sh sA aX sc tA tl tc calls (fs++N)))):=by
 refine gK 34 Tryz.func65 ?_;refine cw [0,1] ?_;refine zN 10 ?_;refine vv (ah rfl rfl (dK (cs:=[.slice dA data.length dc,iV syn]) (St.rg 0 S rfl (rP)))) ?_;refine fT S yI ?_;intro b1 w2 S3;refine sa 0 S3 kQ ?_;intro w4 S5;refine zN 11 ?_;refine eP (X:=Nat×(Option Addr)×Nat×(List UInt8)×(List Fact)) (λxv=>[(0,pV kn 0),(5,pV b1 0),(14,.slice RA rs.length rc),(15,iV ((rs.length:Nat):Int)),(16,iV ((xv.1:Nat):Int))]) (λxv wr=>(xv.1<=rs.length)/\(fG data syn rs=fG xv.2.2.2.1 syn (rs.drop xv.1))/\(Ro (L++xv.2.2.2.2) 1 xv.2.1 xv.2.2.2.1.length (byteCells xv.2.2.2.1))/\St B w0 wr ((.blk b1 #[.slice xv.2.1 xv.2.2.2.1.length xv.2.2.1,iV syn] 106)::(nF kn n up dA data dc syn bb Hh Us iA ix ic pv turn bs (wF kw nv d fA fx fc sh sA aX sc tA tl tc calls (fs++xv.2.2.2.2))))) (λxv=>rs.length-xv.1) (0,dA,dc,data,[]) ?_ ?_ ?_
 ·exact ⟨Nat.zero_le _,rfl,by rw [List.append_nil];exact htp,by rw [List.append_nil];exact S5⟩
 ·exact CS
 rintro ⟨k,A1,c1,d1,N1⟩ w6 ⟨Gc,hi9,nJ,S7⟩
 try dsimp only at Gc hi9 nJ S7
 refine bg (l':=[(0,pV kn 0),(5,pV b1 0),(14,.slice RA rs.length rc),(15,iV ((rs.length:Nat):Int)),(16,iV ((k:Nat):Int))]) CS (aA (av ?_));by_cases h11:((k:Nat):Int)< ((rs.length:Nat):Int)
 ·refine zN 10 ?_;obtain ⟨x,hx⟩: ∃ x,rs[k]? =some x:=⟨_,List.getElem?_eq_getElem oQ⟩;refine zQ ?_;obtain ⟨rb,ro,hra,_,hrc⟩:=(hrs.rd S7 (memT 8 rfl (λf hf=>List.mem_append_left _ hf))).2 oQ;subst hra;refine vv (kY k) ?_;refine vv (v:= .agg #[iV x.kind,iV x.queue,iV x.epoch,iV x.peer,iV x.ev.kind,iV x.ev.producer,iV x.ev.id,iV x.ev.body,iV x.ev.aL,iV x.ev.hno]) (ah rfl rfl (dK (cs:=dH.cells x) (λj u hu=>by rw [Nat.add_assoc];exact hrc (k*10+j) u (bU (enc:=dH.cells) (sz:=10) (λ_=>rfl) hx hu)))) ?_;refine fT S7 wu ?_;intro b12 Ce jP;refine stA 0 jP kQ ?_;intro C8 jR;refine zN 6 ?_;refine dL eQ (AB (GL A1 d1.length c1 d1 syn x _ (nJ.rd jR (memT 9 rfl (U3 hL))))) ?_;rintro _ BZ ⟨LJ,c18,rfl,T21⟩;refine ⟨_,rfl,?_⟩;have kD:=jR.ext T21 rfl;refine zN 3 ?_;refine fT kD yI ?_;intro Q7 Jj jq;refine stA 0 jq kQ ?_;intro w25 nV;refine zN 7 ?_;by_cases h27:(jr d1 syn x).2.2=0
  ·have hsy:=ads h27;rw [hsy] at nV;refine zN 8 ?_;refine stA 3 nV kQ ?_;intro XU oW;refine zN 4 ?_;refine vv (v:=iV ((k+1:Nat):Int)) j6 ?_;refine zN 2 ?_;have uq:=oW.aU [2,0];have lg:=uq.dZ [8,8,8,8,8,8,8,8];have pX:St B w0 XU (_::_::_::_::_::_::_::_::((fs++N1)++[.bI 1 LJ ((jr d1 syn x).1.length) (byteCells ((jr d1 syn x).1))])):=lg.toEnd 8 rfl;have kE:=pX;rw [List.append_assoc] at kE;refine bT (k+1,LJ,c18,(jr d1 syn x).1,N1++[.bI 1 LJ ((jr d1 syn x).1.length) (byteCells ((jr d1 syn x).1))]) ?_ CS (by first | omega | (dsimp only;omega));exact ⟨uQ,(by dsimp only;rw [hi9,IL hx,if_neg (λh=>h h27)]),(Ro.bI adr),kE⟩
  refine zN 17 ?_;have mX:=nV.aU [3,2,1,0];exact .inl ⟨by rw [hi9,IL hx,if_pos h27],rfl,mX.PV⟩
 refine zN 16 ?_;refine jE (row':=dF n up (.slice A1 d1.length c1) syn (.slice (aD bb 0) 4 4) Hh Us (.slice iA ix.length ic) (pv) turn) 1 S7 kQ ?_;intro XW og;refine zQ ?_;refine aK (l':=[]) trivial (ay (aA (av (va ?_))));refine zN 4 ?_;have o8:=og.aU [0];exact .inr ⟨d1,A1,c1,N1,by rw [hi9,List.drop_eq_nil_of_le oQ];rfl,rfl,nJ,o8⟩
structure Uk (B:Nat) (w0:World):Prop where
 u0:w0.cell? ⟨1,0,none⟩=some (iV (-1))
 u1:w0.cell? ⟨1,1,none⟩=some (iV 0)
 ul:1<B
 n0:w0.cell? ⟨0,0,none⟩=some (iV (-1))
 n1:w0.cell? ⟨0,1,none⟩=some (iV 0)
 nl:0<B
theorem Uk.rg {B:Nat} {w0 w:World} {fs:List Fact} (h:Uk B w0) (S:St B w0 w fs):w.rangeAt 1 0 [iV (-1),iV 0]:=λj u hu=>by
 have hj:j<2:=(List.getElem?_eq_some_iff.1 hu).1;have:j=0\/j=1:=oQ
 rcases this with rfl | rfl
 ·rw [<-hu];exact (S.low.cell (p:=⟨1,0,none⟩) h.ul).trans h.u0
 rw [<-hu];exact (S.low.cell (p:=⟨1,1,none⟩) h.ul).trans h.u1
theorem Uk.nw {B:Nat} {w0 w:World} {fs:List Fact} (h:Uk B w0) (S:St B w0 w fs):Nw w:=
 ⟨(S.low.cell (p:=⟨0,0,none⟩) h.nl).trans h.n0,(S.low.cell (p:=⟨0,1,none⟩) h.nl).trans h.n1,Nat.lt_of_lt_of_le h.nl S.base⟩
theorem sw {P:Program} {t:TypeId} {w:World} {b m:Nat} {row:Array Value} {tt:TypeId} {ds:TypeDesc} (hb:fK w b row tt) (hu:P.underlying t=some ds) (hd:ds.isRow=true) (hz:(P.info? t).map (·.size)=some m) (hm:row.size=m):(Instr.loadAt t (pV b 0)).run P w= .ok (.agg row) w:=by
 have:=lT (P:=P) (w:=w) (t:=t) (b:=b) (off:=0) (cs:=row.toList) hu hd hz (by simpa using hm) (λj u h=>by rw [Nat.zero_add];exact hb.cell (by simpa using h));simpa using this
theorem Dl {B kn kw bb n turn calls dc ic fc sc tc:Nat} {up:Bool} {dA iA fA sA tA:Option Addr} {data:List UInt8} {syn:Int} {Hh:Nat->Pl} {Us:Nat->Bool} {pv nv:Value} {d:Dir} {sh:Nat->Nat->Int×Int} {bs:List BX} {ix fx:List LX} {aX:List lD} {tl:List vY} {w0 w:World} {fs:List Fact} {q b6 b2 b3 b7:Nat} (hn:n<5) (hq:q<4) {y:BX} (hy:bs[q]? =some y) (x:LX) (a:jo) (S:St B w0 w (nF kn n up dA data dc syn bb Hh Us iA ix ic pv turn bs (wF kw nv d fA fx fc sh sA aX sc tA tl tc calls fs))) (hm6:Fact.blk b6 (LX.row x) 125∈fs) (hm2:Fact.blk b2 #[gL kn] 104∈fs) (vZ:Fact.blk b3 #[iV ((q:Nat):Int)] 3∈fs) (hm7:Fact.blk b7 #[gL kw] 93∈fs) (hu:Uk B w0) (hb:(fx.length+1)*200<=140737488355328) (hb2:(aX.length+1)*112<=140737488355328):
    Calls Tryz.prog 130 #[.agg #[iV a.code,iV a.iC,iV a.hno,iV a.body],pV b6 0,pV b2 0,pV b3 0,pV b7 0] w (λe w'=>e= .returned (.tuple #[])/\(serves y.b-> ∃ sA' sc' Bw DV DW qE,Bw=aX++[(⟨n,q,y.b.ep,x.l.op,a,x.l.num⟩:lD)]/\qE=fx++[⟨pG n x.l.num a nowhere,none,0⟩]/\St B w0 w' (nF kn n up dA data dc syn bb Hh Us iA ix ic pv turn bs (wF kw nv d DV qE DW (oz sh n q (y.b.ep,(y.b.evs.length:Int))) sA' Bw sc' tA tl tc calls fs)))/\(¬ serves y.b-> ∃ DV DW qE,qE=fx++[⟨pG n x.l.num a (Hh q),none,0⟩]/\St B w0 w' (nF kn n up dA data dc syn bb Hh Us iA ix ic pv turn bs (wF kw nv d DV qE DW sh sA aX sc tA tl tc calls fs)))):=by
 have hlen:=(S.own 1 rfl).1;rw [iE (sz:=6) (λ_=>rfl)] at hlen;refine gK 51 Tryz.func130 ?_;refine cw [0,1,2,3,4] ?_;refine zN 2 ?_;refine iT S ?_;intro b1 w2 S3;refine zN 5 ?_;refine vv (ah rfl rfl (aG ((St.hblk S3 (memT 8 rfl dN _ hm6)).cell rfl))) ?_;refine zQ ?_;refine vv (ah rfl rfl (dK (cs:=[iV (-1),iV 0]) (Uk.rg hu S3))) ?_;refine vv (v:= .agg #[iV x.l.num,iV a.code,iV a.iC,iV a.hno,iV a.body,iV (-1),iV 0]) gB ?_;refine fT S3 aw9 ?_;intro b4 w5 S6;refine sa 0 S6 kQ ?_;intro w7 S8;refine zN 4 ?_;refine gZ S8 mixed kQ ?_;refine uv (v:=pV kn 0) (λ_ Sx9=>(ah rfl rfl (aG ((St.hblk Sx9 (memT 9 rfl dN _ hm2)).cell rfl)))) ?_;refine zN 3 ?_;refine uv (v:=iV ((q:Nat):Int)) (λ_ Qn=>(ah rfl rfl (aG ((St.hblk Qn (memT 9 rfl dN _ vZ)).cell rfl)))) ?_;refine uv (λ_ _=>kY q) ?_;refine zQ ?_;refine uv (v:=iV y.b.role) (λ_ aze=>(ah rfl rfl (aG (Rd.Xm (i:=0) (St.ord 3 aze rfl) (bU (enc:=BX.cells) (sz:=6) (λ_=>rfl) hy rfl))))) ?_;refine zQ ?_;refine iG λJg kM=>?_;refine zN 4 ?_;by_cases h20:y.b.role=1
 ·refine zN 9 ?_;refine vv (ah rfl rfl (aG ((St.hblk kM (memT 9 rfl dN _ hm7)).cell rfl))) ?_;refine vv (ah rfl rfl (aG ((St.hblk kM (memT 9 rfl dN _ hm2)).cell rfl))) ?_;refine vv (ah rfl rfl (aG ((St.hblk kM (memT 9 rfl dN _ vZ)).cell rfl))) ?_;refine zQ ?_;refine vv (ah rfl rfl (dK (cs:=[iV x.l.op.kind,iV x.l.op.producer,iV x.l.op.id,iV x.l.op.body,iV x.l.op.aL,iV x.l.op.hno]) (λj u hj=>(St.hblk kM (memT 9 rfl dN _ hm6)).cell (U4 j u hj)))) ?_;refine zN 2 ?_;refine vv (ah rfl rfl (aG ((St.hblk kM (memT 9 rfl dN _ hm6)).cell rfl))) ?_;have nO:=kM.dZ [8,8,8,8,8,8,8];refine dL eQ (nC hn hq hy x.l.op a x.l.num nO oQ) ?_;rintro _ Jh ⟨rfl,A22,c23,azf,azg,qx⟩;refine ⟨_,rfl,?_⟩;refine zN 2 ?_;have sJ:=qx.dZ [4,4];have oW:=sJ.drew;refine aF 8 oW [1,0] ?_;refine ak (v:=pV kw 0) 0 rfl (oW.mg [1,0]) (λ_ aaF=>(ah rfl rfl (aG ((St.hblk aaF (memT 7 rfl dN _ hm7)).cell rfl)))) ?_;refine ak (v:=pV kn 0) 1 rfl (oW.mg [1,0]) (λ_ Zt=>(ah rfl rfl (aG ((St.hblk Zt (memT 7 rfl dN _ hm2)).cell rfl)))) ?_;refine aI 4 ?_;refine ak (v:= .agg #[iV 1,iV ((n:Nat):Int),iV (-1),iV 0,iV 0,iV 0,iV 0,iV 0,iV 0,iV 0,iV 0,iV 0,iV 0,.slice none 0 0,.bool false,iV 0,iV x.l.num,iV a.code,iV a.iC,iV a.hno,iV a.body,iV (-1),iV 0]) 6 rfl (oW.mg [1,0]) (λ_ _=>gB) ?_;refine aY 7 ?_;refine j5 7 rfl eQ (gT (x:=⟨pG n x.l.num a nowhere,none,0⟩) oW oQ) ?_;rintro _ w41 ⟨rfl,A37,c38,arS,al9,uZ⟩;refine ⟨_,rfl,?_⟩;refine aI 2 ?_;refine aK (l':=[]) trivial (nZ ?_);have qM:=uZ.aU [8,7];have yO:=qM.dZ [6,6,3,3,6,6,6];exact ⟨rfl,λ_=>⟨A22,c23,azf,A37,c38,arS,azg,al9,yO⟩,λh=>absurd (by unfold serves;omega) h⟩
 refine zN 3 ?_;by_cases h45:y.b.role=2
 ·refine zN 6 ?_;refine vv (ah rfl rfl (aG ((St.hblk kM (memT 9 rfl dN _ hm7)).cell rfl))) ?_;refine vv (ah rfl rfl (aG ((St.hblk kM (memT 9 rfl dN _ hm2)).cell rfl))) ?_;refine vv (ah rfl rfl (aG ((St.hblk kM (memT 9 rfl dN _ vZ)).cell rfl))) ?_;refine zQ ?_;refine vv (ah rfl rfl (dK (cs:=[iV x.l.op.kind,iV x.l.op.producer,iV x.l.op.id,iV x.l.op.body,iV x.l.op.aL,iV x.l.op.hno]) (λj u hj=>(St.hblk kM (memT 9 rfl dN _ hm6)).cell (U4 j u hj)))) ?_;refine zN 2 ?_;refine vv (ah rfl rfl (aG ((St.hblk kM (memT 9 rfl dN _ hm6)).cell rfl))) ?_;have sN:=kM.dZ [8,8,8,8,8,8,8];refine dL eQ (nC hn hq hy x.l.op a x.l.num sN oQ) ?_;rintro _ Zm ⟨rfl,LD,c48,ama,agp,oh⟩;refine ⟨_,rfl,?_⟩;refine zN 2 ?_;have zI:=oh.dZ [4,4];have lC:=zI.drew;refine aF 8 lC [1,0] ?_;refine ak (v:=pV kw 0) 0 rfl (lC.mg [1,0]) (λ_ aav=>(ah rfl rfl (aG ((St.hblk aav (memT 7 rfl dN _ hm7)).cell rfl)))) ?_;refine ak (v:=pV kn 0) 1 rfl (lC.mg [1,0]) (λ_ aaB=>(ah rfl rfl (aG ((St.hblk aaB (memT 7 rfl dN _ hm2)).cell rfl)))) ?_;refine aI 4 ?_;refine ak (v:= .agg #[iV 1,iV ((n:Nat):Int),iV (-1),iV 0,iV 0,iV 0,iV 0,iV 0,iV 0,iV 0,iV 0,iV 0,iV 0,.slice none 0 0,.bool false,iV 0,iV x.l.num,iV a.code,iV a.iC,iV a.hno,iV a.body,iV (-1),iV 0]) 6 rfl (lC.mg [1,0]) (λ_ _=>gB) ?_;refine aY 7 ?_;refine j5 7 rfl eQ (gT (x:=⟨pG n x.l.num a nowhere,none,0⟩) lC oQ) ?_;rintro _ Pg ⟨rfl,A62,c63,azh,azi,qO⟩;refine ⟨_,rfl,?_⟩;refine aI 2 ?_;refine aK (l':=[]) trivial (nZ ?_);have zL:=qO.aU [8,7];have tN:=zL.dZ [6,6,3,3,6,6,6];exact ⟨rfl,λ_=>⟨LD,c48,ama,A62,c63,azh,agp,azi,tN⟩,λh=>absurd (by unfold serves;omega) h⟩
 refine zN 5 ?_;have r9:=kM.drew;refine eZ 8 6 r9 [] ?_;refine gk (v:=pV kn 0) 0 rfl r9 (λ_ azj=>(ah rfl rfl (aG ((St.hblk azj (memT 9 rfl dN _ hm2)).cell rfl)))) ?_;refine gk (v:=iV ((q:Nat):Int)) 1 rfl r9 (λ_ azk=>(ah rfl rfl (aG ((St.hblk azk (memT 9 rfl dN _ vZ)).cell rfl)))) ?_;iterate 2 refine gP ?_
 refine gk (v:=pV kn (5+q*2)) 4 rfl r9 (λ_ _=>(aZ rfl rfl rfl (fE q Tryz.underlying33 kQ rfl hq))) ?_;refine gk (v:= .agg #[iV ((Hh q).node),iV ((Hh q).epoch)]) 5 rfl r9 (λ_ amb=>(ah rfl rfl (dK (cs:=[iV ((Hh q).node),iV ((Hh q).epoch)]) (St.rg 2 amb rfl (aji hq))))) ?_;refine eB kQ rfl rfl rfl ?_;refine zQ ?_;refine jE (row':= #[iV x.l.num,iV a.code,iV a.iC,iV a.hno,iV a.body,iV ((Hh q).node),iV ((Hh q).epoch)]) 0 r9 kQ ?_;intro w77 Jm;refine zQ ?_;refine iX ?_;refine zQ ?_;have zJ:=Jm.dZ [6,6];have Bg:=zJ.drew;refine aF 8 Bg [1,0] ?_;refine ak (v:=pV kw 0) 0 rfl (Bg.mg [1,0]) (λ_ azl=>(ah rfl rfl (aG ((St.hblk azl (memT 7 rfl dN _ hm7)).cell rfl)))) ?_;refine ak (v:=pV kn 0) 1 rfl (Bg.mg [1,0]) (λ_ azm=>(ah rfl rfl (aG ((St.hblk azm (memT 7 rfl dN _ hm2)).cell rfl)))) ?_;refine aI 4 ?_;refine ak (v:= .agg #[iV 1,iV ((n:Nat):Int),iV (-1),iV 0,iV 0,iV 0,iV 0,iV 0,iV 0,iV 0,iV 0,iV 0,iV 0,.slice none 0 0,.bool false,iV 0,iV x.l.num,iV a.code,iV a.iC,iV a.hno,iV a.body,iV ((Hh q).node),iV ((Hh q).epoch)]) 6 rfl (Bg.mg [1,0]) (λ_ _=>gB) ?_;refine aY 7 ?_;refine j5 7 rfl eQ (gT (x:=⟨pG n x.l.num a (Hh q),none,0⟩) Bg oQ) ?_;rintro _ w92 ⟨rfl,A88,c89,azn,azo,yZ⟩;refine ⟨_,rfl,?_⟩;refine aI 2 ?_;refine aK (l':=[]) trivial (nZ ?_);have GJ:=yZ.aU [3,2];have F3:=GJ.dZ [6,6,3,3,6,6,6];exact ⟨rfl,λh=>absurd h (by unfold serves;omega),λ_=>⟨A88,c89,azn,azo,F3⟩⟩
end
section
open ChangeShapes WideShapes ChangeAt RowKit
section
variable {K:CK} {B n q:Nat} {w0 w w':World} {fs N Ls L:List Fact} {m m':Cl} {H H':List LX} {R:CX} {X X':Nd} {z z':NX}
theorem wM {b:bK} (h:aj b=0): -2<=b.ep/\b.ep<=2000000:=by
 have h1:=(eH h).1;unfold bD at h1;omega
theorem dM.at_ (h:dM K L n X z) (hq:q<4): ∃ y,z.bx[q]? =some y/\y.b=X.bs q/\Bv L y:=by
 have hl:z.bx.length=4:=by have:=congrArg List.length h.PU;simpa [vB] using this
 refine ⟨z.bx[q],List.getElem?_eq_getElem oQ,?_,h.RD _ (List.getElem_mem _)⟩;have h1:(z.bx.map BX.b)[q]? =some (z.bx[q]).b:=by rw [List.getElem?_map,List.getElem?_eq_getElem oQ];rfl
 rw [h.PU] at h1;have h2:q=0\/q=1\/q=2\/q=3:=oQ
 rcases h2 with rfl | rfl | rfl | rfl<;>(simp only [vB] at h1;exact (Option.some.inj h1).symm)
theorem IQ {bx:List BX} {f:Nat->bK} {y:BX} (h:bx.map BX.b=vB f) (hq:q<4):(bx.set q y).map BX.b=vB (upd f q y.b):=by rw [List.map_set,h,Uh hq]
theorem DX {bx:List BX} {y:BX} (h: ∀ u∈bx,Bv L u) (hy:Bv L y): ∀ u∈bx.set q y,Bv L u:=λu hu=>by
 rcases List.mem_or_eq_of_mem_set hu with h1 | h1
 ·exact h u h1
 rw [h1];exact hy
def CX.go (R:CX) (n:Nat) (z':NX) (fA:Option Addr) (fc:Nat) (fx:List LX) (sA:Option Addr) (sc:Nat) (tA:Option Addr) (tc:Nat) (N:List Fact):CX:=
 { R with nx:=upd R.nx n z',fA:=fA,fc:=fc,fx:=fx,sA:=sA,sc:=sc,tA:=tA,tc:=tc,L:=R.L++N }
theorem Wd.fin {fA sA tA:Option Addr} {fc sc tc kn kw:Nat} {fx:List LX} {rr:List Fact} (hkn:K.nb n=kn) (bY:K.wb=kw) (hrr:fU K R m fs n=rr) (G:Good K R m H) (hn:n<5)
  (S:St B w0 w' (Dj kn n X' z'++(Dk kw (R.go n z' fA fc fx sA sc tA tc (N++Ls)) m'++(Ls++(rr++N)))))
  (hX:dM K (R.L++(N++Ls)) n X' z') (hf: ∀ u∈fx,u∈R.fx\/PS (R.L++(N++Ls)) u) (h1:m'.au=upd m.au n X') (h2:m'.fly=fx.map LX.l) (hH: ∀ u∈H',u∈H\/PS (R.L++(N++Ls)) u):Wd K B w0 w' fs m' H':=by
 subst hkn;subst bY;subst hrr;have hsub: ∀ f∈R.L,f∈R.L++(N++Ls):=λf h=>List.mem_append_left _ h;have ez:(R.go n z' fA fc fx sA sc tA tc (N++Ls)).nx n=z':=upd_same _ _ _;have eX:m'.au n=X':=by rw [h1];exact upd_same _ _ _
 refine Wd.close (n:=n) (R:=R) (m:=m) (N:=N) (Ls:=Ls) (R':=R.go n z' fA fc fx sA sc tA tc (N++Ls)) ?_ (by rw [ez,eX];exact S) hn rfl ?_
 ·refine ⟨h2.symm,λu hu=>(hf u hu).elim (λh=>(G.flo u h).mono hsub) id,λj hj=>?_,G.arr.mono hsub,λu hu=>(hH u hu).elim (λh=>(G.hld u h).mono hsub) id⟩;by_cases e:j=n
  ·subst e;rw [ez,eX];exact hX
  rw [h1,upd_ne e]
  show dM K _ j _ (upd R.nx n z' j)
  rw [upd_ne e];exact (G.mJ j hj).mono hsub
 intro j _ hj;exact ⟨by rw [h1,upd_ne hj],upd_ne hj⟩
theorem Wd.dI {fA sA tA:Option Addr} {fc sc tc kn kw:Nat} {fx:List LX} {rr:List Fact} (hkn:K.nb n=kn) (bY:K.wb=kw) (hrr:fU K R m fs n=rr) (G:Good K R m H) (hn:n<5)
  (S:St B w0 w' (Dj kn n X' z'++(Dk kw (R.go n z' fA fc fx sA sc tA tc Ls) m'++(Ls++rr))))
  (hX:dM K (R.L++Ls) n X' z') (hf: ∀ u∈fx,u∈R.fx\/PS (R.L++Ls) u) (h1:m'.au=upd m.au n X') (h2:m'.fly=fx.map LX.l) (hH: ∀ u∈H',u∈H\/PS (R.L++Ls) u):Wd K B w0 w' fs m' H':=
 Wd.fin (N:=[]) hkn bY hrr G hn (by rw [List.append_nil];exact S) hX hf h1 h2 hH
theorem dM.more (h:dM K L n X z):dM K (L++N) n X z:=h.mono λ_ hf=>List.mem_append_left _ hf
theorem dM.hear {hs:Nat->Pl} {su:Nat->Bool} (h:dM K L n X z):dM K L n { X with hints:=hs,sure:=su } z:=⟨h.PU,h.RD,h.xw,h.ixm,h.ixo,h.zf⟩
theorem mH {x:LX} {P:LX->Prop}: ∀ u∈H,u∈x::H\/P u:=λ_ h=> .inl (List.mem_cons_of_mem _ h)
theorem oD {fx:List LX} {x:LX} {P:LX->Prop} (hx:P x): ∀ u∈fx++[x],u∈fx\/P u:=λu hu=>(List.mem_append.1 hu).elim .inl λh=>by rw [List.mem_singleton] at h;subst h;exact .inr hx
theorem iY {l:iO} {c:Nat} (h:l.evs=[]):PS L ⟨l,none,c⟩:=by
 unfold PS Gd;dsimp only;rw [h];exact ⟨Ro.none_,Nat.zero_le _⟩
theorem rQ {f:Fact} (h:f∈Ls):f∈L++(N++Ls):=List.mem_append_right _ (List.mem_append_right _ h)
theorem mLN: ∀ f∈L++N,f∈L++(N++Ls):=λf h=>by rw [<-List.append_assoc];exact List.mem_append_left _ h
end
section
variable {m:Cl} {n q:Nat} {X:Nd} {b:bK} {op:Ev} {num:Int} {a:jo} {l:iO} {d:List UInt8}
theorem JX (hX:m.au n=X) (hb:X.bs q=b) (h:serves b):m.done n q op num a={ m with aX:=m.aX++[⟨n,q,b.ep,op,a,num⟩],shown:=oz m.shown n q (b.ep,b.evs.length),fly:=m.fly++[pG n num a nowhere] }:=by
 subst hX;subst hb;unfold Cl.done;rw [if_pos h];rfl
theorem Oz (hX:m.au n=X) (hb:X.bs q=b) (h: ¬ serves b):m.done n q op num a={ m with fly:=m.fly++[pG n num a (X.hints q)] }:=by
 subst hX;subst hb;unfold Cl.done;rw [if_neg h];rfl
theorem afa {SR:bK×jo×Bool×Int} (hX:m.au n=X) (hb:X.bs l.q=b) (hR:iK b l.op=SR) (h:SR.2.2.1=false):m.serve n l=m.done n l.q l.op l.num SR.2.1:=by
 subst hX;subst hb;subst hR;unfold Cl.serve;rw [if_pos h]
theorem WH {SR:bK×jo×Bool×Int} (hX:m.au n=X) (hb:X.bs l.q=b) (hR:iK b l.op=SR) (h:SR.2.2.1=true) (hw:fG X.data X.syn [fV 2 l.q SR.1.ep 0 l.op]=none):m.serve n l=m.done n l.q l.op l.num (rV 14):=by
 subst hX;subst hb;subst hR;unfold Cl.serve Nd.write;rw [if_neg (by rw [h];simp),hw];rfl
theorem afb {SR:bK×jo×Bool×Int} (hX:m.au n=X) (hb:X.bs l.q=b) (hR:iK b l.op=SR) (h:SR.2.2.1=true) (hw:fG X.data X.syn [fV 2 l.q SR.1.ep 0 l.op]=some d):
  m.serve n l=m.put n { X with data:=d,pend:=some (.serve l.q SR.1.evs l.op l.num SR.2.1) }:=by
 subst hX;subst hb;subst hR;unfold Cl.serve Nd.write;rw [if_neg (by rw [h];simp),hw];rfl
theorem WI {BR:bK×Int} (hX:m.au n=X) (hb:X.bs l.q=b) (hR:dB b l.ep l.fr=BR) (h:BR.2≠0):m.offered n l=m:=by
 subst hX;subst hb;subst hR;unfold Cl.offered;rw [if_pos h]
theorem PX {BR:bK×Int} (hX:m.au n=X) (hb:X.bs l.q=b) (hR:dB b l.ep l.fr=BR) (h:BR.2=0) (h2:BR.1.ep=b.ep):m.offered n l={ m with fly:=m.fly++[Ay n l.q b] }:=by
 subst hX;subst hb;subst hR;unfold Cl.offered;rw [if_neg (λe=>e h),if_pos h2];rfl
theorem PY {BR:bK×Int} (hX:m.au n=X) (hb:X.bs l.q=b) (hR:dB b l.ep l.fr=BR) (h:BR.2=0) (h2:BR.1.ep≠b.ep) (hw:fG X.data X.syn [fV 4 l.q BR.1.ep l.fr aQ]=none):m.offered n l=m:=by
 subst hX;subst hb;subst hR;unfold Cl.offered Nd.write;rw [if_neg (λe=>e h),if_neg h2,hw];rfl
theorem WJ {BR:bK×Int} (hX:m.au n=X) (hb:X.bs l.q=b) (hR:dB b l.ep l.fr=BR) (h:BR.2=0) (h2:BR.1.ep≠b.ep) (hw:fG X.data X.syn [fV 4 l.q BR.1.ep l.fr aQ]=some d):
  m.offered n l=m.put n { X with data:=d,pend:=some (.begun l.q BR.1) }:=by
 subst hX;subst hb;subst hR;unfold Cl.offered Nd.write;rw [if_neg (λe=>e h),if_neg h2,hw];rfl
theorem ND (hX:m.au n=X) (hb:X.bs l.q=b) (h:b.tg≠l.fr\/b.ep+1≠l.ep):m.caught n l=m:=by
 subst hX;subst hb;unfold Cl.caught;rw [if_pos h]
theorem WK {BR:bK×Int} (hX:m.au n=X) (hb:X.bs l.q=b) (hR:bM b l.at_=BR) (h1: ¬ (b.tg≠l.fr\/b.ep+1≠l.ep)) (h:BR.2≠0):m.caught n l=m:=by
 subst hX;subst hb;subst hR;unfold Cl.caught;rw [if_neg h1,if_pos h]
theorem Tj {BR:bK×Int} (hX:m.au n=X) (hb:X.bs l.q=b) (hR:bM b l.at_=BR) (h1: ¬ (b.tg≠l.fr\/b.ep+1≠l.ep)) (h:BR.2=0) (h2:BR.1.role=b.role):
  m.caught n l={ (m.put n { X with bs:=upd X.bs l.q BR.1 }) with fly:=uF n l.q BR.1 l.at_ m.fly }:=by
 subst hX;subst hb;subst hR;unfold Cl.caught;rw [if_neg h1,if_neg (λe=>e h),if_pos h2];have e:((m.eO n l.q (bM ((m.au n).bs l.q) l.at_).1).au n).bs l.q=(bM ((m.au n).bs l.q) l.at_).1:=by
  unfold Cl.eO Cl.put;dsimp only;rw [upd_same];exact upd_same _ _ _
 unfold Cl.part uF;rw [e]
 split
 ·rfl
 rfl
theorem Tk {BR:bK×Int} (hX:m.au n=X) (hb:X.bs l.q=b) (hR:bM b l.at_=BR) (h1: ¬ (b.tg≠l.fr\/b.ep+1≠l.ep)) (h:BR.2=0) (h2:BR.1.role≠b.role) (hw:fG X.data X.syn [fV 3 l.q BR.1.ep BR.1.tg aQ]=none):m.caught n l=m:=by
 subst hX;subst hb;subst hR;unfold Cl.caught Nd.write;rw [if_neg h1,if_neg (λe=>e h),if_neg h2,hw];rfl
theorem aaH {BR:bK×Int} (hX:m.au n=X) (hb:X.bs l.q=b) (hR:bM b l.at_=BR) (h1: ¬ (b.tg≠l.fr\/b.ep+1≠l.ep)) (h:BR.2=0) (h2:BR.1.role≠b.role) (hw:fG X.data X.syn [fV 3 l.q BR.1.ep BR.1.tg aQ]=some d):
  m.caught n l=m.put n { X with data:=d,pend:=some (.jU l.q BR.1 l.at_) }:=by
 subst hX;subst hb;subst hR;unfold Cl.caught Nd.write;rw [if_neg h1,if_neg (λe=>e h),if_neg h2,hw];rfl
theorem adt (hX:m.au n=X) (hb:X.bs l.q=b) (h:b.role≠4\/b.fr≠l.fr):m.got n l=m:=by
 subst hX;subst hb;unfold Cl.got;rw [if_pos h]
theorem afc {BR:bK×Int} (hX:m.au n=X) (hb:X.bs l.q=b) (hR:dw b l.ep l.at_ l.evs l.last=BR) (h1: ¬ (b.role≠4\/b.fr≠l.fr)) (h:BR.2=2):m.got n l={ m with fly:=m.fly++[Ay n l.q b] }:=by
 subst hX;subst hb;subst hR;unfold Cl.got;rw [if_neg h1,if_pos h];rfl
theorem RF {BR:bK×Int} (hX:m.au n=X) (hb:X.bs l.q=b) (hR:dw b l.ep l.at_ l.evs l.last=BR) (h1: ¬ (b.role≠4\/b.fr≠l.fr)) (h:BR.2≠2) (h2:BR.2≠0\/BR.1.evs.length=b.evs.length):m.got n l=m:=by
 subst hX;subst hb;subst hR;unfold Cl.got;rw [if_neg h1,if_neg h,if_pos h2]
theorem RG {BR:bK×Int} (hX:m.au n=X) (hb:X.bs l.q=b) (hR:dw b l.ep l.at_ l.evs l.last=BR) (h1: ¬ (b.role≠4\/b.fr≠l.fr)) (h:BR.2≠2) (h2: ¬ (BR.2≠0\/BR.1.evs.length=b.evs.length))
  (hw:fG X.data X.syn (uy l.q BR.1 b.evs.length (l.at_.toNat+l.evs.length) l.last)=none):m.got n l=m:=by
 subst hX;subst hb;subst hR;unfold Cl.got Nd.write;rw [if_neg h1,if_neg h,if_neg h2,hw];rfl
theorem adu {BR:bK×Int} (hX:m.au n=X) (hb:X.bs l.q=b) (hR:dw b l.ep l.at_ l.evs l.last=BR) (h1: ¬ (b.role≠4\/b.fr≠l.fr)) (h:BR.2≠2) (h2: ¬ (BR.2≠0\/BR.1.evs.length=b.evs.length))
  (hw:fG X.data X.syn (uy l.q BR.1 b.evs.length (l.at_.toNat+l.evs.length) l.last)=some d):m.got n l=m.put n { X with data:=d,pend:=some (.got l.q BR.1 l.last) }:=by
 subst hX;subst hb;subst hR;unfold Cl.got Nd.write;rw [if_neg h1,if_neg h,if_neg h2,hw];rfl
theorem aaI {BR:bK×Int} (hX:m.au n=X) (hb:X.bs l.q=b) (hR:fZ b l.ep=BR) (h:BR.2≠0):m.learnt n l=m.put n (X.hear n l):=by
 subst hX;subst hb;subst hR;unfold Cl.learnt;rw [if_pos h]
theorem Tm {BR:bK×Int} (hX:m.au n=X) (hb:X.bs l.q=b) (hR:fZ b l.ep=BR) (h:BR.2=0) (hw:fG X.data X.syn [fV 7 l.q b.ep 0 aQ]=none):m.learnt n l=m.put n (X.hear n l):=by
 subst hX;subst hb;subst hR;unfold Cl.learnt Nd.write;rw [if_neg (λe=>e h)];have hw':fG ((m.au n).hear n l).data ((m.au n).hear n l).syn [fV 7 l.q ((m.au n).bs l.q).ep 0 aQ]=none:=hw;rw [hw'];rfl
theorem aaJ {BR:bK×Int} (hX:m.au n=X) (hb:X.bs l.q=b) (hR:fZ b l.ep=BR) (h:BR.2=0) (hw:fG X.data X.syn [fV 7 l.q b.ep 0 aQ]=some d):
  m.learnt n l=m.put n { (X.hear n l) with data:=d,pend:=some (.forget l.q BR.1) }:=by
 subst hX;subst hb;subst hR;unfold Cl.learnt Nd.write;rw [if_neg (λe=>e h)];have hw':fG ((m.au n).hear n l).data ((m.au n).hear n l).syn [fV 7 l.q ((m.au n).bs l.q).ep 0 aQ]=some d:=hw;rw [hw'];rfl
end
end
section
open ChangeShapes WideShapes RowKit
theorem Tn {K:CK} {B n kn kw:Nat} {w0 w:World} {fs:List Fact} {m:Cl} {H:List LX} {x:LX} (hn:n<5) (hkn:K.nb n=kn) (bY:K.wb=kw) (hu:Uk B w0) (hB1:m.fly.length<=1000000000) (hB2:m.aX.length<=1000000000000) (HW:Wd K B w0 w fs m (x::H)) (hq:x.l.q<4) (hv: ∀ q,q<4->aj ((m.au n).bs q)=0):
    Calls tP 96 #[pV kw 0,pV kn 0,.agg (LX.row x)] w (λe w'=>e= .returned (.tuple #[])/\Wd K B w0 w' fs (m.serve n x.l) H):=by
 obtain ⟨R,G,S0⟩:=HW.open hn;have hfl:R.fx.length=m.fly.length:=by rw [<-G.fly,List.length_map]
 have NG:=G.mJ n hn;obtain ⟨X,hX⟩: ∃ X,m.au n=X:=⟨_,rfl⟩;obtain ⟨z,hz⟩: ∃ z,R.nx n=z:=⟨_,rfl⟩;rw [hX,hz] at S0 NG;have hL: ∀ f∈R.L,f∈fU K R m fs n:=λf h=>List.mem_append_right _ (List.mem_append_right _ h);obtain ⟨rr,hrr⟩: ∃ r,fU K R m fs n=r:=⟨_,rfl⟩;rw [hrr] at S0 hL;have S:St B w0 w (cN kn n X z z.pv (cF kw R m rr)):=by subst hkn;subst bY;exact S0
 clear S0 HW;have hlen:=(S.own 1 rfl).1;rw [iE (sz:=6) (λ_=>rfl)] at hlen;rw [hX] at hv;obtain ⟨y,hy,hyb,sP⟩:=NG.at_ hq;have hln:=ko (jB (hyb▸hv _ hq));have yC:y.b.evs.length*48<=reachBytes:=by unfold reachBytes;omega
 have K9:=wM (hyb▸hv _ hq);refine gK 54 Tryz.func96 ?_;refine cw [0,1,2] ?_;refine zN 2 ?_;refine TU S ?_;intro b1 w2 S3;refine TU S3 ?_;intro b4 w5 S6;refine iT S6 ?_;intro b7 w8 S9;refine zN 6 ?_;refine fT S9 zr3 ?_;intro b10 EW kP;refine jE (row':= #[iV ((x.l.q:Nat):Int)]) 0 kP kQ ?_;intro Ce jP;refine zN 2 ?_;obtain ⟨SR,hSR⟩: ∃ r,iK y.b x.l.op=r:=⟨_,rfl⟩;have HP:=λw h=>SY y.b.role y.b.ep y.b.fr y.b.tg y.b.rd y.A y.c y.b.evs x.l.op w h yC;rw [show iK ⟨y.b.role,y.b.ep,y.b.fr,y.b.tg,y.b.rd,y.b.evs⟩ x.l.op=SR from hSR] at HP;refine mU (X:=Nat×Nat×(Option Addr)×Nat) (λxv=>[(3,pV b1 0),(4,pV b4 0),(5,pV b7 0),(6,pV b10 0),(7,pV xv.1 0),(8,pV xv.2.1 0),(9,.bool SR.2.2.1)]) (λxv wr=>(SR.1.evs.length<=xv.2.2.2)/\St B w0 wr ((.blk xv.2.1 #[iV SR.2.1.code,iV SR.2.1.iC,iV SR.2.1.hno,iV SR.2.1.body] 48)::(.blk xv.1 (bR SR.1 xv.2.2.1 xv.2.2.2) 150)::(.bI 6 xv.2.2.1 SR.1.evs.length ((SR.1.evs).flatMap Ev.cells))::(.blk b10 #[iV ((x.l.q:Nat):Int)] 3)::(.blk b7 (LX.row x) 125)::(.blk b4 #[pV kn 0] 104)::(.blk b1 #[pV kw 0] 93)::(cN kn n X z z.pv (cF kw R m rr)))) ?_ ?_
 ·have iW:=jP.drew;refine aF 21 iW [] ?_;refine aI 5 ?_;refine ak 5 rfl iW (λ_ _=>kY x.l.q) ?_;refine ak (v:= .agg (bR y.b y.A y.c)) 6 rfl iW (λ_ FX=>(ah rfl rfl (dK (cs:=BX.cells y) (Rd.vG (St.ord 5 FX rfl) (λ_ _ h=>bU (enc:=BX.cells) (sz:=6) (λ_=>rfl) hy h))))) ?_;refine dJ ?_;refine ak (v:= .agg #[iV x.l.op.kind,iV x.l.op.producer,iV x.l.op.id,iV x.l.op.body,iV x.l.op.aL,iV x.l.op.hno]) 8 rfl iW (λ_ azp=>(ah rfl rfl (dK (cs:=[iV x.l.op.kind,iV x.l.op.producer,iV x.l.op.id,iV x.l.op.body,iV x.l.op.aL,iV x.l.op.hno]) (St.rg 1 azp rfl (U4))))) ?_;refine Qz (n:=11) (r:=9) (s:=15) (t:=16) kQ ?_ ?_ ?_
  ·refine j5 9 rfl eQ (HP _ (sP.1.rd iW (memT 11 rfl hL))) ?_;rintro _ XU ⟨A25,c26,akH,rfl,T30⟩;refine ⟨_,rfl,?_⟩;have oW:=iW.ext T30 rfl;refine aI 6 ?_;refine fu (n:=5) (r:=15) (s:=16) kQ ?_ ?_
   ·refine lM 15 rfl oW fM ?_;intro sO Ud qD;refine dJ ?_;refine aY 16 ?_;refine lM 16 rfl qD sS ?_;intro b39 w40 Jf;refine dJ ?_;refine aY 17 ?_;refine sn 17 rfl 1 Jf kQ ?_;intro QT qM;refine dJ ?_;refine aY 18 ?_;refine sn 18 rfl 0 qM kQ ?_;intro QU oP;refine aI 4 ?_;refine dD (sO,b39,A25,c26) ?_ CU;exact ⟨akH,oP⟩
   refine lM 16 rfl oW sS ?_;intro X6 w49 wZ;refine dJ ?_;refine aY 15 ?_;refine lM 15 rfl wZ fM ?_;intro b51 w52 zI;refine dJ ?_;refine aY 17 ?_;refine sn 17 rfl 0 zI kQ ?_;intro w54 vI;refine dJ ?_;refine aY 18 ?_;refine sn 18 rfl 1 vI kQ ?_;intro w56 qN;refine aI 4 ?_;have M8:=qN.dZ [13,13,13,13,13,13,13,13,13,13,13,13,12,13];refine dD (b51,X6,A25,c26) ?_ CU;exact ⟨akH,M8⟩
  ·refine lM 15 rfl iW fM ?_;intro b61 Ua uM;refine dJ ?_;refine fu (n:=10) (r:=9) (s:=16) kQ ?_ ?_
   ·refine j5 9 rfl eQ (HP _ (sP.1.rd uM (memT 12 rfl hL))) ?_;rintro _ w67 ⟨A64,c65,auk,rfl,T69⟩;refine ⟨_,rfl,?_⟩;have zL:=uM.ext T69 rfl;refine aI 6 ?_;refine aY 16 ?_;refine lM 16 rfl zL sS ?_;intro b75 w76 xL;refine dJ ?_;refine aY 17 ?_;refine sn 17 rfl 2 xL kQ ?_;intro w78 zJ;refine dJ ?_;refine aY 18 ?_;refine sn 18 rfl 0 zJ kQ ?_;intro w80 tO;refine aI 4 ?_;have CZ:=tO.dZ [13,13,13,13,13,13,13,13,13,13,13,12,13,13];refine dD (b61,b75,A64,c65) ?_ CU;exact ⟨auk,CZ⟩
   refine lM 16 rfl uM sS ?_;intro b85 w86 FU;refine dJ ?_;refine aY 9 ?_;refine j5 9 rfl eQ (HP _ (sP.1.rd FU (memT 13 rfl hL))) ?_;rintro _ w91 ⟨A88,c89,akI,rfl,T93⟩;refine ⟨_,rfl,?_⟩;have yL:=FU.ext T93 rfl;refine aI 6 ?_;refine aY 17 ?_;refine sn 17 rfl 2 yL kQ ?_;intro w99 rW;refine dJ ?_;refine aY 18 ?_;refine sn 18 rfl 1 rW kQ ?_;intro aqR sZ;refine aI 4 ?_;have rY:=sZ.dZ [13,13,13,13,13,13,13,13,13,13,13,11,13,13];refine dD (b61,b85,A88,c89) ?_ CU;exact ⟨akI,rY⟩
  refine lM 16 rfl iW sS ?_;intro agm ax7 uU;refine dJ ?_;refine fu (n:=10) (r:=9) (s:=15) kQ ?_ ?_
  ·refine j5 9 rfl eQ (HP _ (sP.1.rd uU (memT 12 rfl hL))) ?_;rintro _ ZN ⟨NH,Qu,ao9,rfl,azq⟩;refine ⟨_,rfl,?_⟩;have nI:=uU.ext azq rfl;refine aI 6 ?_;refine aY 15 ?_;refine lM 15 rfl nI fM ?_;intro azr Z8 Cu;refine dJ ?_;refine aY 17 ?_;refine sn 17 rfl 0 Cu kQ ?_;intro azs NI;refine dJ ?_;refine aY 18 ?_;refine sn 18 rfl 2 NI kQ ?_;intro alQ xk;refine aI 4 ?_;have zx:=xk.dZ [13,13,13,13,13,13,13,13,13,13,13,12,12,13];refine dD (azr,agm,NH,Qu) ?_ CU;exact ⟨ao9,zx⟩
  refine lM 15 rfl uU fM ?_;intro agq af2 xV;refine dJ ?_;refine aY 9 ?_;refine j5 9 rfl eQ (HP _ (sP.1.rd xV (memT 13 rfl hL))) ?_;rintro _ ZO ⟨azt,azu,apa,rfl,amc⟩;refine ⟨_,rfl,?_⟩;have Er:=xV.ext amc rfl;refine aI 6 ?_;refine aY 17 ?_;refine sn 17 rfl 1 Er kQ ?_;intro af3 K5;refine dJ ?_;refine aY 18 ?_;refine sn 18 rfl 2 K5 kQ ?_;intro aHK Qk;refine aI 4 ?_;have aaK:=Qk.dZ [13,13,13,13,13,13,13,13,13,13,13,11,12,13];refine dD (agq,agm,azt,azu) ?_ CU;exact ⟨apa,aaK⟩
 rintro ⟨La,Ey,Ez,c154⟩ azv ⟨hx157,Z6⟩
 try dsimp only at hx157 Z6
 refine bg (l':=[(3,pV b1 0),(4,pV b4 0),(5,pV b7 0),(6,pV b10 0),(7,pV La 0),(8,pV Ey 0),(9,.bool SR.2.2.1)]) CU (aA (av (vv (v:= .func (.func 130) #[] #[pV b7 0,pV b4 0,pV b10 0,pV b1 0]) (Dc (vs:=[]) (us:=[pV b7 0,pV b4 0,pV b10 0,pV b1 0]) rfl trivial mG) ?_)));refine fT Z6 atL ?_;intro NJ aqM Nf;refine jE (row':= #[.func (.func 130) #[] #[pV b7 0,pV b4 0,pV b10 0,pV b1 0]]) 0 Nf kQ ?_;intro ayb Iw;refine zN 6 ?_
 cases aDn:(SR.2.2.1)
 ·refine zN 8 ?_;have U5:=Iw.dZ [14,14,14,14,14,14,14];refine vO eQ (Dl (b6:=b7) (b2:=b4) (b3:=b10) (b7:=b1) hn hq hy x SR.2.1 U5 (List.mem_iff_getElem?.2 ⟨5,rfl⟩) (List.mem_iff_getElem?.2 ⟨6,rfl⟩) (List.mem_iff_getElem?.2 ⟨4,rfl⟩) (List.mem_iff_getElem?.2 ⟨7,rfl⟩) hu oQ oQ) ?_;rintro _ aHL ⟨rfl,aul,hd167⟩;refine ⟨_,rfl,?_⟩;refine zQ ?_;refine aK (l':=[]) trivial (ay (fP (aO (bQ (rs:=[]) (vs:=[]) rfl trivial ?_))));have hch:SR.2.2.1=false:=by assumption
  rw [afa hX hyb.symm hSR hch];by_cases hs:serves y.b
  ·obtain ⟨sA,sc,sv,fA,fc,fx,h1,h2,S9⟩:=aul hs;subst h1;subst h2;rw [JX hX hyb.symm hs];exact ⟨rfl,Wd.dI (X':=X) (z':=z) (Ls:=[.blk NJ #[.func (.func 130) #[] #[pV b7 0,pV b4 0,pV b10 0,pV b1 0]] 231,.blk Ey #[iV SR.2.1.code,iV SR.2.1.iC,iV SR.2.1.hno,iV SR.2.1.body] 48,.blk La (bR SR.1 Ez c154) 150,.bI 6 Ez SR.1.evs.length ((SR.1.evs).flatMap Ev.cells),.blk b10 #[iV ((x.l.q:Nat):Int)] 3,.blk b7 (LX.row x) 125,.blk b4 #[pV kn 0] 104,.blk b1 #[pV kw 0] 93]) (sA:=sA) (sc:=sc) (tA:=R.tA) (tc:=R.tc) hkn bY hrr G hn S9 NG.more (oD (iY rfl)) (aH hX).symm (by rw [List.map_append,G.fly];rfl) mH⟩
  obtain ⟨fA,fc,fx,h2,S9⟩:=hd167 hs;subst h2;rw [Oz hX hyb.symm hs];exact ⟨rfl,Wd.dI (X':=X) (z':=z) (Ls:=[.blk NJ #[.func (.func 130) #[] #[pV b7 0,pV b4 0,pV b10 0,pV b1 0]] 231,.blk Ey #[iV SR.2.1.code,iV SR.2.1.iC,iV SR.2.1.hno,iV SR.2.1.body] 48,.blk La (bR SR.1 Ez c154) 150,.bI 6 Ez SR.1.evs.length ((SR.1.evs).flatMap Ev.cells),.blk b10 #[iV ((x.l.q:Nat):Int)] 3,.blk b7 (LX.row x) 125,.blk b4 #[pV kn 0] 104,.blk b1 #[pV kw 0] 93]) (sA:=R.sA) (sc:=R.sc) (tA:=R.tA) (tc:=R.tc) hkn bY hrr G hn S9 NG.more (oD (iY rfl)) (aH hX).symm (by rw [List.map_append,G.fly];rfl) mH⟩
 refine zN 10 ?_;refine cab eQ Iw (jk 2 x.l.q ⟨SR.1,Ez,c154⟩ _) ?_;intro alI K7;refine fT K7 wu ?_;intro amd al0 U1;refine sa 0 U1 kQ ?_;intro ayX UO;refine zN 5 ?_;refine vv (ah rfl rfl (dK (cs:=[iV x.l.op.kind,iV x.l.op.producer,iV x.l.op.id,iV x.l.op.body,iV x.l.op.aL,iV x.l.op.hno]) (St.rg 6 UO rfl (U4)))) ?_;refine zQ ?_;refine jE (row':= #[iV 2,iV ((x.l.q:Nat):Int),iV SR.1.ep,iV 0,iV x.l.op.kind,iV x.l.op.producer,iV x.l.op.id,iV x.l.op.body,iV x.l.op.aL,iV x.l.op.hno]) 0 UO kQ ?_;intro aHM azw;refine zN 7 ?_;refine YZ azw ?_;intro aaL azx Z7;have Zj:=Z7.dZ [16,16,16,16,16,16,16];refine dL eQ (pQ (rs:=[fV 2 x.l.q SR.1.ep 0 x.l.op]) (Ro.blk (List.mem_iff_getElem?.2 ⟨0,rfl⟩) rfl rfl) NG.xw (by exact memT 10 rfl hL) (Nat.le_of_ble_eq_true rfl) Zj) ?_;rintro _ aHN (⟨ab6,rfl,ame⟩ | ⟨akJ,arT,arU,azy,ab6,rfl,apb,ame⟩)
 ·refine ⟨_,rfl,?_⟩;refine zN 7 ?_;refine vv (v:= .agg #[iV 14,iV 0,iV 0,iV 0]) gB ?_;refine vO eQ (Dl (b6:=b7) (b2:=b4) (b3:=b10) (b7:=b1) hn hq hy x (rV 14) ame (List.mem_iff_getElem?.2 ⟨7,rfl⟩) (List.mem_iff_getElem?.2 ⟨8,rfl⟩) (List.mem_iff_getElem?.2 ⟨6,rfl⟩) (List.mem_iff_getElem?.2 ⟨9,rfl⟩) hu oQ oQ) ?_;rintro _ axu ⟨rfl,aum,aun⟩;refine ⟨_,rfl,?_⟩;refine zQ ?_;refine aK (l':=[]) trivial (ay (fP (aO (bQ (rs:=[]) (vs:=[]) rfl trivial ?_))));have hch:SR.2.2.1=true:=by assumption
  rw [WH hX hyb.symm hSR hch ab6];by_cases hs:serves y.b
  ·obtain ⟨sA,sc,sv,fA,fc,fx,h1,h2,S9⟩:=aum hs;subst h1;subst h2;rw [JX hX hyb.symm hs];exact ⟨rfl,Wd.dI (X':=X) (z':=z) (Ls:=[.blk aaL #[iV 2,iV ((x.l.q:Nat):Int),iV SR.1.ep,iV 0,iV x.l.op.kind,iV x.l.op.producer,iV x.l.op.id,iV x.l.op.body,iV x.l.op.aL,iV x.l.op.hno] 155,.blk amd #[iV 2,iV ((x.l.q:Nat):Int),iV SR.1.ep,iV 0,iV x.l.op.kind,iV x.l.op.producer,iV x.l.op.id,iV x.l.op.body,iV x.l.op.aL,iV x.l.op.hno] 155,.blk NJ #[.func (.func 130) #[] #[pV b7 0,pV b4 0,pV b10 0,pV b1 0]] 231,.blk Ey #[iV SR.2.1.code,iV SR.2.1.iC,iV SR.2.1.hno,iV SR.2.1.body] 48,.blk La (bR SR.1 Ez c154) 150,.bI 6 Ez SR.1.evs.length ((SR.1.evs).flatMap Ev.cells),.blk b10 #[iV ((x.l.q:Nat):Int)] 3,.blk b7 (LX.row x) 125,.blk b4 #[pV kn 0] 104,.blk b1 #[pV kw 0] 93]) (sA:=sA) (sc:=sc) (tA:=R.tA) (tc:=R.tc) hkn bY hrr G hn S9 NG.more (oD (iY rfl)) (aH hX).symm (by rw [List.map_append,G.fly];rfl) mH⟩
  obtain ⟨fA,fc,fx,h2,S9⟩:=aun hs;subst h2;rw [Oz hX hyb.symm hs];exact ⟨rfl,Wd.dI (X':=X) (z':=z) (Ls:=[.blk aaL #[iV 2,iV ((x.l.q:Nat):Int),iV SR.1.ep,iV 0,iV x.l.op.kind,iV x.l.op.producer,iV x.l.op.id,iV x.l.op.body,iV x.l.op.aL,iV x.l.op.hno] 155,.blk amd #[iV 2,iV ((x.l.q:Nat):Int),iV SR.1.ep,iV 0,iV x.l.op.kind,iV x.l.op.producer,iV x.l.op.id,iV x.l.op.body,iV x.l.op.aL,iV x.l.op.hno] 155,.blk NJ #[.func (.func 130) #[] #[pV b7 0,pV b4 0,pV b10 0,pV b1 0]] 231,.blk Ey #[iV SR.2.1.code,iV SR.2.1.iC,iV SR.2.1.hno,iV SR.2.1.body] 48,.blk La (bR SR.1 Ez c154) 150,.bI 6 Ez SR.1.evs.length ((SR.1.evs).flatMap Ev.cells),.blk b10 #[iV ((x.l.q:Nat):Int)] 3,.blk b7 (LX.row x) 125,.blk b4 #[pV kn 0] 104,.blk b1 #[pV kw 0] 93]) (sA:=R.sA) (sc:=R.sc) (tA:=R.tA) (tc:=R.tc) hkn bY hrr G hn S9 NG.more (oD (iY rfl)) (aH hX).symm (by rw [List.map_append,G.fly];rfl) mH⟩
 refine ⟨_,rfl,?_⟩;refine zN 8 ?_;refine vv Jb ?_;refine zN 2 ?_;refine jE (row':=dF n X.up (.slice arT akJ.length arU) X.syn (.slice (aD z.bb 0) 4 4) X.hints X.sure (.slice z.iA z.ix.length z.ic) (.func (.func 131) #[] #[pV La 0,pV b4 0,pV b10 0,pV NJ 0,pV Ey 0]) X.turn) 0 ame kQ ?_;intro azz Qm;refine zQ ?_;refine aK (l':=[]) trivial (nZ ?_);have hch:SR.2.2.1=true:=by assumption
 rw [afb hX hyb.symm hSR hch ab6];refine ⟨rfl,Wd.fin (X':={ X with data:=akJ,pend:=some (.serve x.l.q SR.1.evs x.l.op x.l.num SR.2.1) }) (z':={ z with tA:=arT,tc:=arU,pv:= .func (.func 131) #[] #[pV La 0,pV b4 0,pV b10 0,pV NJ 0,pV Ey 0] }) (N:=azy) (Ls:=[.blk aaL #[iV 2,iV ((x.l.q:Nat):Int),iV SR.1.ep,iV 0,iV x.l.op.kind,iV x.l.op.producer,iV x.l.op.id,iV x.l.op.body,iV x.l.op.aL,iV x.l.op.hno] 155,.blk amd #[iV 2,iV ((x.l.q:Nat):Int),iV SR.1.ep,iV 0,iV x.l.op.kind,iV x.l.op.producer,iV x.l.op.id,iV x.l.op.body,iV x.l.op.aL,iV x.l.op.hno] 155,.blk NJ #[.func (.func 130) #[] #[pV b7 0,pV b4 0,pV b10 0,pV b1 0]] 231,.blk Ey #[iV SR.2.1.code,iV SR.2.1.iC,iV SR.2.1.hno,iV SR.2.1.body] 48,.blk La (bR SR.1 Ez c154) 150,.bI 6 Ez SR.1.evs.length ((SR.1.evs).flatMap Ev.cells),.blk b10 #[iV ((x.l.q:Nat):Int)] 3,.blk b7 (LX.row x) 125,.blk b4 #[pV kn 0] 104,.blk b1 #[pV kw 0] 93]) (fA:=R.fA) (fc:=R.fc) (fx:=R.fx) (sA:=R.sA) (sc:=R.sc) (tA:=R.tA) (tc:=R.tc) hkn bY hrr G hn Qm ?_ (λu hu=> .inl hu) rfl G.fly.symm mH⟩;refine { (NG.more:dM K _ n X z) with xw:=apb.mono mLN,zf:=?_ }
 show pO (K.nb n) K.wb _ _ _
 rw [hkn,bY];exact ⟨La,b4,b10,NJ,Ey,b7,b1,⟨SR.1,Ez,c154⟩,x,rfl,(rQ (List.mem_iff_getElem?.2 ⟨4,rfl⟩)),rfl,⟨Ro.bI (rQ (List.mem_iff_getElem?.2 ⟨5,rfl⟩)),hx157⟩,(rQ (List.mem_iff_getElem?.2 ⟨8,rfl⟩)),(rQ (List.mem_iff_getElem?.2 ⟨6,rfl⟩)),(rQ (List.mem_iff_getElem?.2 ⟨2,rfl⟩)),(rQ (List.mem_iff_getElem?.2 ⟨3,rfl⟩)),(rQ (List.mem_iff_getElem?.2 ⟨7,rfl⟩)),rfl,rfl,(rQ (List.mem_iff_getElem?.2 ⟨9,rfl⟩))⟩
theorem WL {b:bK} {hv:Int} (h:aj b=0):(bM b hv).1.evs.length<=b.evs.length/\(-2<=(bM b hv).1.ep/\(bM b hv).1.ep<=2000000):=by
 have e:=wM h;unfold bM;rw [if_neg (λh2=>h2 h)];have z:bG.evs.length<=b.evs.length/\(-2<=bG.ep/\bG.ep<=2000000):=⟨Nat.zero_le _,by decide,by decide⟩
 split
 ·exact z
 split
 ·exact z
 split
 ·exact ⟨Nat.le_refl _,e⟩
 split
 ·exact ⟨Nat.le_refl _,e⟩
 exact ⟨Nat.le_refl _,e⟩
theorem Me {K:CK} {B n kn kw:Nat} {w0 w:World} {fs:List Fact} {m:Cl} {H:List LX} {x:LX} (hn:n<5) (hkn:K.nb n=kn) (bY:K.wb=kw) (hu:Uk B w0) (hB1:m.fly.length<=1000000000) (hB2:m.aX.length<=1000000000000) (HW:Wd K B w0 w fs m (x::H)) (hq:x.l.q<4) (hv: ∀ q,q<4->aj ((m.au n).bs q)=0):
    Calls tP 98 #[pV kw 0,pV kn 0,.agg (LX.row x)] w (λe w'=>e= .returned (.tuple #[])/\Wd K B w0 w' fs (m.caught n x.l) H):=by
 obtain ⟨R,G,S0⟩:=HW.open hn;have hfl:R.fx.length=m.fly.length:=by rw [<-G.fly,List.length_map]
 have NG:=G.mJ n hn;obtain ⟨X,hX⟩: ∃ X,m.au n=X:=⟨_,rfl⟩;obtain ⟨z,hz⟩: ∃ z,R.nx n=z:=⟨_,rfl⟩;rw [hX,hz] at S0 NG;have hL: ∀ f∈R.L,f∈fU K R m fs n:=λf h=>List.mem_append_right _ (List.mem_append_right _ h);obtain ⟨rr,hrr⟩: ∃ r,fU K R m fs n=r:=⟨_,rfl⟩;rw [hrr] at S0 hL;have S:St B w0 w (cN kn n X z z.pv (cF kw R m rr)):=by subst hkn;subst bY;exact S0
 clear S0 HW;have hlen:=(S.own 1 rfl).1;rw [iE (sz:=6) (λ_=>rfl)] at hlen;rw [hX] at hv;obtain ⟨y,hy,hyb,sP⟩:=NG.at_ hq;have hln:=ko (jB (hyb▸hv _ hq));have yC:y.b.evs.length*48<=reachBytes:=by unfold reachBytes;omega
 have K9:=wM (hyb▸hv _ hq);refine gK 75 Tryz.func98 ?_;refine cw [0,1,2] ?_;refine zN 2 ?_;refine TU S ?_;intro b1 w2 S3;refine TU S3 ?_;intro b4 w5 S6;refine iT S6 ?_;intro b7 w8 S9;refine zN 6 ?_;refine fT S9 zr3 ?_;intro b10 EW kP;refine jE (row':= #[iV ((x.l.q:Nat):Int)]) 0 kP kQ ?_;intro Ce jP;refine zN 3 ?_;have iW:=jP.drew;refine eZ 9 8 iW [] ?_;iterate 5 refine gP ?_
 refine gk 5 rfl iW (λ_ _=>kY x.l.q) ?_;refine gk (v:= .agg (bR y.b y.A y.c)) 6 rfl iW (λ_ FX=>(ah rfl rfl (dK (cs:=BX.cells y) (Rd.vG (St.ord 5 FX rfl) (λ_ _ h=>bU (enc:=BX.cells) (sz:=6) (λ_=>rfl) hy h))))) ?_;refine eG (m:=1) (r:=7) kQ ?_;refine mq (i:=7) rfl rfl (V:=λb=>pV b 0) (row:=zB) (t:=150) iW (wn rfl) rfl rfl (fD rfl (Tryz.zeroValue150 _) rfl) ?_;intro zO LG iy;refine gP ?_;refine eB kQ rfl rfl rfl ?_;refine sa 0 iy kQ ?_;intro Jh qx;refine zQ ?_;refine iX ?_;refine zN 8 ?_;by_cases h28:y.b.tg=x.l.fr
 ·refine zN 4 ?_;refine vg (v:=iV (y.b.ep+1)) j6 ?_;refine zN 2 ?_;by_cases h29:y.b.ep+1=x.l.ep
  ·refine zN 8 ?_;obtain ⟨BR,qp⟩: ∃ r,bM y.b x.l.at_=r:=⟨_,rfl⟩;have HP:=λw h=>Pw y.b.role y.b.ep y.b.fr y.b.tg y.b.rd y.A y.c y.b.evs x.l.at_ w h yC;rw [show bM ⟨y.b.role,y.b.ep,y.b.fr,y.b.tg,y.b.rd,y.b.evs⟩ x.l.at_=BR from qp] at HP;have amf:=WL (b:=y.b) (hv:=x.l.at_) (hyb▸hv _ hq);rw [qp] at amf;have amg:BR.1.evs.length*48<=reachBytes:=by have:=amf.1;omega
   have amh:=amf.2;refine zN 4 ?_;refine dL eQ (HP _ (sP.1.rd qx (memT 12 rfl hL))) ?_;rintro _ XV ⟨om,c31,Lm,rfl,T35⟩;refine ⟨_,rfl,?_⟩;have mX:=qx.ext T35 rfl;refine zN 3 ?_;refine fT mX fM ?_;intro sO Ud qD;refine sa 0 qD kQ ?_;intro w39 vX;refine zN 7 ?_;by_cases h41:BR.2=0
   ·refine zN 13 ?_;by_cases h42:BR.1.role=y.b.role
    ·refine zN 5 ?_;have qM:=vX.drew;refine eZ 8 6 qM [] ?_;iterate 6 refine gP ?_
     refine eB kQ rfl rfl rfl ?_;refine vv (kY x.l.q) ?_;refine lZ (xs':=(z.bx.set x.l.q (⟨BR.1,om,c31⟩:BX)).flatMap BX.cells) 8 qM (wn rfl) rfl rfl rfl rfl rfl rfl wm rfl (aM rfl) (by omega) (by rw [Nat.zero_add];exact qz (enc:=BX.cells) (sz:=6) (λ_=>rfl) (⟨BR.1,om,c31⟩:BX) _ _ (by omega)) ?_;intro Pf uh;have azA:(z.bx.set x.l.q (⟨BR.1,om,c31⟩:BX))[x.l.q]? =some (⟨BR.1,om,c31⟩:BX):=List.getElem?_set_self oQ;refine zQ ?_;refine iX ?_;refine zN 8 ?_;have zI:St B w0 Pf (_::_::_::_::_::_::_::_::_::_::_::_::_::(rr++[.bI 6 om BR.1.evs.length ((BR.1.evs).flatMap Ev.cells)])):=uh.toEnd 1 rfl;have lC:=zI.dZ [12,12,12,12,12,12,12];have ami:Bv (R.L++[.bI 6 om BR.1.evs.length ((BR.1.evs).flatMap Ev.cells)]) (⟨BR.1,om,c31⟩:BX):=⟨Ro.bI (List.mem_append_right _ (List.mem_singleton.2 rfl)),Lm⟩;refine dL eQ (KI (L:=(R.L++[.bI 6 om BR.1.evs.length ((BR.1.evs).flatMap Ev.cells)])) hn hq azA x.l.at_ ami (memT 6 rfl (U3 hL)) amg amh lC oQ) ?_;rintro _ Ua ⟨rfl,A56,c57,amj,N59,azB,azC,uM⟩;refine ⟨_,rfl,?_⟩;change St _ _ _ (_::_::_::(bW kw (.slice R.nA 5 R.nc) m.off A56 amj c57 m.shown R.sA m.aX R.sc R.tA m.bF R.tc m.calls)::(oL A56 amj c57)::_::_::_::_::_::_::_::_::((rr++[.bI 6 om BR.1.evs.length ((BR.1.evs).flatMap Ev.cells)])++N59)) at uM;refine zQ ?_;refine aK (l':=[]) trivial (ay (fP (aO (bQ (rs:=[]) (vs:=[]) rfl trivial ?_))));have hch: ¬ (y.b.tg≠x.l.fr\/y.b.ep+1≠x.l.ep):=oQ;rw [Tj hX hyb.symm qp hch (by first | assumption | omega) (by first | assumption | omega)];rw [List.append_assoc] at uM;exact ⟨rfl,Wd.fin (X':={ X with bs:=upd X.bs x.l.q BR.1 }) (z':={ z with bx:=z.bx.set x.l.q (⟨BR.1,om,c31⟩:BX) }) (N:=([.bI 6 om BR.1.evs.length ((BR.1.evs).flatMap Ev.cells)]++N59)) (Ls:=[.blk sO (bR BR.1 om c31) 150,.blk zO (bR y.b y.A y.c) 150,.blk b10 #[iV ((x.l.q:Nat):Int)] 3,.blk b7 (LX.row x) 125,.blk b4 #[pV kn 0] 104,.blk b1 #[pV kw 0] 93]) (fA:=A56) (fc:=c57) (fx:=amj) (sA:=R.sA) (sc:=R.sc) (tA:=R.tA) (tc:=R.tc) hkn bY hrr G hn uM { (NG.more:dM K _ n X z) with PU:=IQ NG.PU hq,RD:=DX (λu hu=>(NG.RD u hu).mono λf hf=>List.mem_append_left _ hf) ⟨Ro.bI (List.mem_append_right _ (List.mem_append_left _ (List.mem_append_left _ (List.mem_singleton.2 rfl)))),Lm⟩ } (λu hu=>(azC u hu).imp id λh=>h.mono λf hf=>by simp [hf]) rfl (by rw [azB,G.fly]) mH⟩
    refine zN 10 ?_;refine cab eQ vX (jk 3 x.l.q ⟨BR.1,om,c31⟩ _) ?_;intro Uc yN;refine fT yN wu ?_;intro b67 w68 tN;refine sa 0 tN kQ ?_;intro Y9 sK;refine zN 7 ?_;refine jE (row':= #[iV 3,iV ((x.l.q:Nat):Int),iV BR.1.ep,iV BR.1.tg,iV 0,iV 0,iV 0,iV 0,iV 0,iV 0]) 0 sK kQ ?_;intro w72 tQ;refine zN 7 ?_;refine YZ tQ ?_;intro b74 w75 Lv;have xL:=Lv.dZ [15,15,15,15,15,15,15];refine dL eQ (pQ (rs:=[fV 3 x.l.q BR.1.ep BR.1.tg aQ]) (Ro.blk (List.mem_iff_getElem?.2 ⟨0,rfl⟩) rfl rfl) NG.xw (by exact memT 9 rfl hL) (Nat.le_of_ble_eq_true rfl) xL) ?_;rintro _ w84 (⟨amk,rfl,Jo⟩ | ⟨arV,A79,c80,N81,amk,rfl,auo,Jo⟩)
    ·refine ⟨_,rfl,?_⟩;refine zN 7 ?_;have hch: ¬ (y.b.tg≠x.l.fr\/y.b.ep+1≠x.l.ep):=oQ;rw [Tk hX hyb.symm qp hch (by first | assumption | omega) (by first | assumption | omega) amk];exact ⟨rfl,Wd.dI (X':=X) (z':=z) (Ls:=[.blk b74 #[iV 3,iV ((x.l.q:Nat):Int),iV BR.1.ep,iV BR.1.tg,iV 0,iV 0,iV 0,iV 0,iV 0,iV 0] 155,.blk b67 #[iV 3,iV ((x.l.q:Nat):Int),iV BR.1.ep,iV BR.1.tg,iV 0,iV 0,iV 0,iV 0,iV 0,iV 0] 155,.blk sO (bR BR.1 om c31) 150,.bI 6 om BR.1.evs.length ((BR.1.evs).flatMap Ev.cells),.blk zO (bR y.b y.A y.c) 150,.blk b10 #[iV ((x.l.q:Nat):Int)] 3,.blk b7 (LX.row x) 125,.blk b4 #[pV kn 0] 104,.blk b1 #[pV kw 0] 93]) (fA:=R.fA) (fc:=R.fc) (fx:=R.fx) (sA:=R.sA) (sc:=R.sc) (tA:=R.tA) (tc:=R.tc) hkn bY hrr G hn Jo NG.more (λu hu=> .inl hu) (aH hX).symm G.fly.symm mH⟩
    refine ⟨_,rfl,?_⟩;refine zN 8 ?_;refine vv Jb ?_;refine zN 2 ?_;refine jE (row':=dF n X.up (.slice A79 arV.length c80) X.syn (.slice (aD z.bb 0) 4 4) X.hints X.sure (.slice z.iA z.ix.length z.ic) (.func (.func 137) #[] #[pV sO 0,pV b4 0,pV b10 0,pV b1 0,pV b7 0]) X.turn) 0 Jo kQ ?_;intro w86 FU;refine zQ ?_;refine aK (l':=[]) trivial (nZ ?_);have hch: ¬ (y.b.tg≠x.l.fr\/y.b.ep+1≠x.l.ep):=oQ;rw [aaH hX hyb.symm qp hch (by first | assumption | omega) (by first | assumption | omega) amk];refine ⟨rfl,Wd.fin (X':={ X with data:=arV,pend:=some (.jU x.l.q BR.1 x.l.at_) }) (z':={ z with tA:=A79,tc:=c80,pv:= .func (.func 137) #[] #[pV sO 0,pV b4 0,pV b10 0,pV b1 0,pV b7 0] }) (N:=N81) (Ls:=[.blk b74 #[iV 3,iV ((x.l.q:Nat):Int),iV BR.1.ep,iV BR.1.tg,iV 0,iV 0,iV 0,iV 0,iV 0,iV 0] 155,.blk b67 #[iV 3,iV ((x.l.q:Nat):Int),iV BR.1.ep,iV BR.1.tg,iV 0,iV 0,iV 0,iV 0,iV 0,iV 0] 155,.blk sO (bR BR.1 om c31) 150,.bI 6 om BR.1.evs.length ((BR.1.evs).flatMap Ev.cells),.blk zO (bR y.b y.A y.c) 150,.blk b10 #[iV ((x.l.q:Nat):Int)] 3,.blk b7 (LX.row x) 125,.blk b4 #[pV kn 0] 104,.blk b1 #[pV kw 0] 93]) (fA:=R.fA) (fc:=R.fc) (fx:=R.fx) (sA:=R.sA) (sc:=R.sc) (tA:=R.tA) (tc:=R.tc) hkn bY hrr G hn FU ?_ (λu hu=> .inl hu) rfl G.fly.symm mH⟩;refine { (NG.more:dM K _ n X z) with xw:=auo.mono mLN,zf:=?_ }
    show pO (K.nb n) K.wb _ _ _
    rw [hkn,bY];exact ⟨sO,b4,b10,b1,b7,⟨BR.1,om,c31⟩,x,rfl,(rQ (List.mem_iff_getElem?.2 ⟨2,rfl⟩)),rfl,⟨(Ro.bI (rQ (List.mem_iff_getElem?.2 ⟨3,rfl⟩))),Lm⟩,(rQ (List.mem_iff_getElem?.2 ⟨7,rfl⟩)),(rQ (List.mem_iff_getElem?.2 ⟨5,rfl⟩)),(rQ (List.mem_iff_getElem?.2 ⟨8,rfl⟩)),(rQ (List.mem_iff_getElem?.2 ⟨6,rfl⟩)),rfl⟩
   refine zN 7 ?_;have hch: ¬ (y.b.tg≠x.l.fr\/y.b.ep+1≠x.l.ep):=oQ;have GY:=vX.dZ [13,13,13,13,13,13,13];rw [WK hX hyb.symm qp hch (by first | assumption | omega)];exact ⟨rfl,Wd.dI (X':=X) (z':=z) (Ls:=[.blk sO (bR BR.1 om c31) 150,.bI 6 om BR.1.evs.length ((BR.1.evs).flatMap Ev.cells),.blk zO (bR y.b y.A y.c) 150,.blk b10 #[iV ((x.l.q:Nat):Int)] 3,.blk b7 (LX.row x) 125,.blk b4 #[pV kn 0] 104,.blk b1 #[pV kw 0] 93]) (fA:=R.fA) (fc:=R.fc) (fx:=R.fx) (sA:=R.sA) (sc:=R.sc) (tA:=R.tA) (tc:=R.tc) hkn bY hrr G hn GY NG.more (λu hu=> .inl hu) (aH hX).symm G.fly.symm mH⟩
  refine zN 8 ?_;have Lx:=qx.dZ [11,11,11,11,11,11,11];rw [ND hX hyb.symm oQ];exact ⟨rfl,Wd.dI (X':=X) (z':=z) (Ls:=[.blk zO (bR y.b y.A y.c) 150,.blk b10 #[iV ((x.l.q:Nat):Int)] 3,.blk b7 (LX.row x) 125,.blk b4 #[pV kn 0] 104,.blk b1 #[pV kw 0] 93]) (fA:=R.fA) (fc:=R.fc) (fx:=R.fx) (sA:=R.sA) (sc:=R.sc) (tA:=R.tA) (tc:=R.tc) hkn bY hrr G hn Lx NG.more (λu hu=> .inl hu) (aH hX).symm G.fly.symm mH⟩
 refine zN 15 ?_;have QW:=qx.dZ [11,11,11,11,11,11,11];rw [ND hX hyb.symm oQ];exact ⟨rfl,Wd.dI (X':=X) (z':=z) (Ls:=[.blk zO (bR y.b y.A y.c) 150,.blk b10 #[iV ((x.l.q:Nat):Int)] 3,.blk b7 (LX.row x) 125,.blk b4 #[pV kn 0] 104,.blk b1 #[pV kw 0] 93]) (fA:=R.fA) (fc:=R.fc) (fx:=R.fx) (sA:=R.sA) (sc:=R.sc) (tA:=R.tA) (tc:=R.tc) hkn bY hrr G hn QW NG.more (λu hu=> .inl hu) (aH hX).symm G.fly.symm mH⟩
theorem Fe {B kn kw bb n turn calls dc ic fc sc tc:Nat} {up:Bool} {dA iA fA sA tA:Option Addr} {data:List UInt8} {syn:Int} {Hh:Nat->Pl} {Us:Nat->Bool} {pv nv:Value} {d:Dir} {sh:Nat->Nat->Int×Int} {bs:List BX} {ix fx:List LX} {aX:List lD} {tl:List vY} {w0 w:World} {fs:List Fact} {L:List Fact} {rs:List dH} {RA:Option Addr} {rc:Nat} (hw:fG data syn rs=none) (hrs:Ro fs 10 RA rs.length (rs.flatMap dH.cells)) (htp:Ro L 1 dA data.length (byteCells data)) (hL: ∀ f∈L,f∈fs) (hrl:rs.length<=1000000) (S:St B w0 w (nF kn n up dA data dc syn bb Hh Us iA ix ic pv turn bs (wF kw nv d fA fx fc sh sA aX sc tA tl tc calls fs))):
  Calls tP 65 #[pV kn 0,.slice RA rs.length rc] w (λe w'=>e= .returned (.bool false)/\St B w0 w' (nF kn n up dA data dc syn bb Hh Us iA ix ic pv turn bs (wF kw nv d fA fx fc sh sA aX sc tA tl tc calls fs))):=(pQ (rc:=rc) hrs htp hL hrl S).mono λe w' h=>h.elim (λh=>h.2) λ⟨_,_,_,_,h,_⟩=>by rw [hw] at h;cases h
theorem Fg {B kn kw bb n turn calls dc ic fc sc tc:Nat} {up:Bool} {dA iA fA sA tA:Option Addr} {data:List UInt8} {syn:Int} {Hh:Nat->Pl} {Us:Nat->Bool} {pv nv:Value} {d:Dir} {sh:Nat->Nat->Int×Int} {bs:List BX} {ix fx:List LX} {aX:List lD} {tl:List vY} {w0 w:World} {fs:List Fact} {d':List UInt8} {L:List Fact} {rs:List dH} {RA:Option Addr} {rc:Nat} (hw:fG data syn rs=some d') (hrs:Ro fs 10 RA rs.length (rs.flatMap dH.cells)) (htp:Ro L 1 dA data.length (byteCells data)) (hL: ∀ f∈L,f∈fs) (hrl:rs.length<=1000000) (S:St B w0 w (nF kn n up dA data dc syn bb Hh Us iA ix ic pv turn bs (wF kw nv d fA fx fc sh sA aX sc tA tl tc calls fs))):
  Calls tP 65 #[pV kn 0,.slice RA rs.length rc] w (λe w'=> ∃ A' c' N,e= .returned (.bool true)/\Ro (L++N) 1 A' d'.length (byteCells d')/\St B w0 w' (nF kn n up A' d' c' syn bb Hh Us iA ix ic pv turn bs (wF kw nv d fA fx fc sh sA aX sc tA tl tc calls (fs++N)))):=(pQ (rc:=rc) hrs htp hL hrl S).mono λe w' h=>h.elim (λh=>by rw [hw] at h;cases h.1) λ⟨d2,A',c',N,h,h1,h2,h3⟩=>by
 rw [hw] at h
 cases h;exact ⟨A',c',N,h1,h2,h3⟩
theorem OB {X:Nd} {n:Nat} {l:iO} {b:bK} {hs:Nat->Pl} {su:Nat->Bool} (hb:X.bs l.q=b) (h1:hs=if (X.hints l.q).epoch<l.ep then upd X.hints l.q ⟨l.nd,l.ep⟩ else X.hints) (h2:su=if l.nd=n/\b.ep=l.ep then upd X.sure l.q true else X.sure):X.hear n l={ X with hints:=hs,sure:=su }:=by
 subst hb;subst h1;subst h2;rfl
theorem Mf {K:CK} {B n kn kw:Nat} {w0 w:World} {fs:List Fact} {m:Cl} {H:List LX} {x:LX} (hn:n<5) (hkn:K.nb n=kn) (bY:K.wb=kw) (hu:Uk B w0) (hB1:m.fly.length<=1000000000) (hB2:m.aX.length<=1000000000000) (HW:Wd K B w0 w fs m (x::H)) (hq:x.l.q<4) (hv: ∀ q,q<4->aj ((m.au n).bs q)=0):
    Calls tP 100 #[pV kw 0,pV kn 0,.agg (LX.row x)] w (λe w'=>e= .returned (.tuple #[])/\Wd K B w0 w' fs (m.learnt n x.l) H):=by
 obtain ⟨R,G,S0⟩:=HW.open hn;have hfl:R.fx.length=m.fly.length:=by rw [<-G.fly,List.length_map]
 have NG:=G.mJ n hn;obtain ⟨X,hX⟩: ∃ X,m.au n=X:=⟨_,rfl⟩;obtain ⟨z,hz⟩: ∃ z,R.nx n=z:=⟨_,rfl⟩;rw [hX,hz] at S0 NG;have hL: ∀ f∈R.L,f∈fU K R m fs n:=λf h=>List.mem_append_right _ (List.mem_append_right _ h);obtain ⟨rr,hrr⟩: ∃ r,fU K R m fs n=r:=⟨_,rfl⟩;rw [hrr] at S0 hL;have S:St B w0 w (cN kn n X z z.pv (cF kw R m rr)):=by subst hkn;subst bY;exact S0
 clear S0 HW;have hlen:=(S.own 1 rfl).1;rw [iE (sz:=6) (λ_=>rfl)] at hlen;rw [hX] at hv;obtain ⟨y,hy,hyb,sP⟩:=NG.at_ hq;have hln:=ko (jB (hyb▸hv _ hq));have yC:y.b.evs.length*48<=reachBytes:=by unfold reachBytes;omega
 have K9:=wM (hyb▸hv _ hq);refine gK 80 Tryz.func100 ?_;refine cw [0,1,2] ?_;refine zN 2 ?_;refine TU S ?_;intro b1 w2 S3;refine iT S3 ?_;intro b4 w5 S6;refine zN 6 ?_;refine fT S6 zr3 ?_;intro b7 w8 S9;refine jE (row':= #[iV ((x.l.q:Nat):Int)]) 0 S9 kQ ?_;intro Zo rJ;refine zN 2 ?_;obtain ⟨hs,hhs⟩: ∃ f,f=if (X.hints x.l.q).epoch<x.l.ep then upd X.hints x.l.q ⟨x.l.nd,x.l.ep⟩ else X.hints:=⟨_,rfl⟩
 refine mU (X:=Unit) (λ_=>[(4,pV b1 0),(5,pV b4 0),(6,pV b7 0)]) (λ_ wr=>St B w0 wr ((.blk b7 #[iV ((x.l.q:Nat):Int)] 3)::(.blk b4 (LX.row x) 125)::(.blk b1 #[pV kn 0] 104)::(nF kn n X.up z.tA X.data z.tc X.syn z.bb hs X.sure z.iA z.ix z.ic z.pv X.turn z.bx (cF kw R m rr)))) ?_ ?_
 ·refine zQ ?_;refine gZ rJ mixed kQ ?_;refine zN 6 ?_;refine uv (v:=pV kn (5+x.l.q*2)) (λ_ _=>(aZ rfl rfl rfl (fE x.l.q Tryz.underlying33 kQ rfl hq))) ?_;refine zQ ?_;refine uv (v:=iV ((X.hints x.l.q).epoch)) (λ_ aaM=>(ah rfl rfl (aG (St.cl 3 aaM rfl (Oy hq).2)))) ?_;refine uv (v:= .bool (decide ((X.hints x.l.q).epoch<x.l.ep))) (λ_ _=>aC rfl rfl rfl as5) ?_;refine iG λPx kS=>?_;refine zQ ?_
  cases Ni:(decide ((X.hints x.l.q).epoch<x.l.ep))
  ·refine bg (l':=[(4,pV b1 0),(5,pV b4 0),(6,pV b7 0),(21,.bool false)]) mG (bZ rfl (fC ?_));rw [if_neg (by simpa using (by assumption:decide ((X.hints x.l.q).epoch<x.l.ep)=false))] at hhs;subst hhs;refine dD () ?_ EO;exact kS
  refine bg (l':=[(4,pV b1 0),(5,pV b4 0),(6,pV b7 0),(21,.bool true)]) mG (dO rfl ?_);have iy:=kS.drew;refine aF 11 iy [3] ?_;refine aI 6 ?_;refine ak (v:= .agg #[iV x.l.nd,iV x.l.ep]) 6 rfl (St.del 3 iy) (λ_ _=>gB) ?_;refine aI 2 ?_;refine ak (v:=pV kn (5+x.l.q*2)) 9 rfl (St.del 3 iy) (λ_ _=>(aZ rfl rfl rfl (fE x.l.q Tryz.underlying33 kQ rfl hq))) ?_;refine aY 10 ?_;refine sD (i:=10) rfl rfl (cs:= #[iV x.l.nd,iV x.l.ep]) (row':=dF n X.up (.slice z.tA X.data.length z.tc) X.syn (.slice (aD z.bb 0) 4 4) (upd X.hints x.l.q (⟨x.l.nd,x.l.ep⟩:Pl)) X.sure (.slice z.iA z.ix.length z.ic) (z.pv) X.turn) (fs':=(_::_::_::(bN kn n X.up z.tA X.data z.tc X.syn z.bb (upd X.hints x.l.q (⟨x.l.nd,x.l.ep⟩:Pl)) X.sure z.iA z.ix z.ic z.pv X.turn)::_::_::_::_::_::_::rr)) 3 iy (wn rfl) rfl rfl rfl rfl rfl rfl Lf rfl (aM rfl) (by rw [show Array.size (dF _ _ _ _ _ _ _ _ _ _)=20 from rfl];omega) (DU hq (p:=(⟨x.l.nd,x.l.ep⟩:Pl))) rfl ?_;intro w36 o8;refine aI 2 ?_;rw [if_pos (by simpa using (by assumption:decide ((X.hints x.l.q).epoch<x.l.ep)=true))] at hhs;subst hhs;refine dD () ?_ EO;exact o8
 rintro _ w38 CY;refine bg (l':=[(4,pV b1 0),(5,pV b4 0),(6,pV b7 0)]) EO (aA ?_);have vX:=CY.drew;refine eZ 9 8 vX [] ?_;iterate 5 refine gP ?_
 refine gk 5 rfl vX (λ_ _=>kY x.l.q) ?_;refine gk (v:= .agg (bR y.b y.A y.c)) 6 rfl vX (λ_ azD=>(ah rfl rfl (dK (cs:=BX.cells y) (Rd.vG (St.ord 4 azD rfl) (λ_ _ h=>bU (enc:=BX.cells) (sz:=6) (λ_=>rfl) hy h))))) ?_;refine eG (m:=1) (r:=7) kQ ?_;refine mq (i:=7) rfl rfl (V:=λb=>pV b 0) (row:=zB) (t:=150) vX (wn rfl) rfl rfl (fD rfl (Tryz.zeroValue150 _) rfl) ?_;intro X6 w49 wZ;refine gP ?_;refine eB kQ rfl rfl rfl ?_;refine sa 0 wZ kQ ?_;intro Zm oh;refine zQ ?_;refine iX ?_;refine zQ ?_;obtain ⟨su,hsu⟩: ∃ f,f=if x.l.nd=n/\y.b.ep=x.l.ep then upd X.sure x.l.q true else X.sure:=⟨_,rfl⟩
 refine mU (X:=Unit) (λ_=>[(4,pV b1 0),(5,pV b4 0),(6,pV b7 0),(7,pV X6 0)]) (λ_ wr=>St B w0 wr ((.blk X6 (bR y.b y.A y.c) 150)::(.blk b7 #[iV ((x.l.q:Nat):Int)] 3)::(.blk b4 (LX.row x) 125)::(.blk b1 #[pV kn 0] 104)::(nF kn n X.up z.tA X.data z.tc X.syn z.bb hs su z.iA z.ix z.ic z.pv X.turn z.bx (cF kw R m rr)))) ?_ ?_
 ·by_cases hN:x.l.nd=((n:Nat):Int)
  ·by_cases hE:y.b.ep=x.l.ep
   ·refine zQ ?_;refine gZ oh mixed kQ ?_;refine zN 14 ?_;refine iG λw67 zL=>?_;refine zN 2 ?_;have tN:=zL.drew;refine aF 6 tN [4] ?_;refine aI 4 ?_;refine ak (v:=pV kn (13+x.l.q*1)) 4 rfl (St.del 4 tN) (λ_ _=>(aZ rfl rfl rfl (fE x.l.q Tryz.underlying107 kQ rfl hq))) ?_;refine aY 5 ?_;refine sD (i:=5) rfl rfl (cs:= #[.bool true]) (row':=dF n X.up (.slice z.tA X.data.length z.tc) X.syn (.slice (aD z.bb 0) 4 4) hs (upd X.sure x.l.q true) (.slice z.iA z.ix.length z.ic) (z.pv) X.turn) (fs':=(_::_::_::_::(bN kn n X.up z.tA X.data z.tc X.syn z.bb hs (upd X.sure x.l.q true) z.iA z.ix z.ic z.pv X.turn)::_::_::_::_::_::_::rr)) 4 tN (wn rfl) rfl rfl rfl rfl rfl rfl alg rfl (aM rfl) (by rw [show Array.size (dF _ _ _ _ _ _ _ _ _ _)=20 from rfl];omega) (Yd hq (v:=true)) rfl ?_;intro w75 Lv;refine aI 2 ?_;rw [if_pos oQ] at hsu;subst hsu;refine dD () ?_ mG;exact Lv
   refine zQ ?_;refine gZ oh mixed kQ ?_;refine zN 14 ?_;refine iG λw91 yL=>?_;refine zN 3 ?_;rw [if_neg oQ] at hsu;subst hsu;refine dD () ?_ mG;exact yL
  refine zQ ?_;refine gZ oh mixed kQ ?_;refine zN 14 ?_;refine iG λalP qU=>?_;refine zN 3 ?_;rw [if_neg oQ] at hsu;subst hsu;refine dD () ?_ mG;exact qU
 rintro _ arB rY;refine bg (l':=[(4,pV b1 0),(5,pV b4 0),(6,pV b7 0),(7,pV X6 0)]) mG (aA ?_);obtain ⟨BR,qp⟩: ∃ r,fZ y.b x.l.ep=r:=⟨_,rfl⟩;have HP:=λw h=>E8 y.b.role y.b.ep y.b.fr y.b.tg y.b.rd y.A y.c y.b.evs x.l.ep w h yC;rw [show fZ ⟨y.b.role,y.b.ep,y.b.fr,y.b.tg,y.b.rd,y.b.evs⟩ x.l.ep=BR from qp] at HP;refine zN 4 ?_;refine dL eQ (HP _ (sP.1.rd rY (memT 11 rfl hL))) ?_;rintro _ Ze ⟨IC,c107,apc,rfl,azE⟩;refine ⟨_,rfl,?_⟩;have qP:=rY.ext azE rfl;refine zN 3 ?_;refine fT qP fM ?_;intro U7 alU Ep;refine sa 0 Ep kQ ?_;intro aml yh;refine zN 5 ?_;have zA:=yh.dZ [12,12,12,12,12,12,12];by_cases hB:BR.2=0
 ·rcases U8:fG X.data X.syn [fV 7 x.l.q y.b.ep 0 aQ] with _ | akK
  ·have qC:=zA.drew;refine aF 11 qC [6,5,4,3,2,1,0] ?_;refine aI 6 ?_;refine aY 6 ?_;refine uG (i:=6) rfl rfl (wg rfl rfl rfl rfl) rfl rfl (eF (vs:=[iV 7,iV ((x.l.q:Nat):Int),.agg (bR y.b y.A y.c)]) rfl eQ EO) (jk 7 x.l.q ⟨y.b,y.A,y.c⟩ _) ?_;rintro _ Zf ⟨rfl,ab7⟩;refine ⟨_,rfl,?_⟩;have xU:=qC.on ab7;refine dJ ?_;refine aY 7 ?_;refine jV (i:=7) rfl rfl (V:=λb=> .slice (aD b 0) 1 1) (row:= #[iV 7,iV ((x.l.q:Nat):Int),iV y.b.ep,iV 0,iV 0,iV 0,iV 0,iV 0,iV 0,iV 0]) (t:=155) xU (wg rfl rfl rfl rfl) rfl rfl (aS (vs:=[(0,.agg #[iV 7,iV ((x.l.q:Nat):Int),iV y.b.ep,iV 0,iV 0,iV 0,iV 0,iV 0,iV 0,iV 0])]) rfl wT kQ) ?_;intro agq af2 xV;refine dJ ?_;refine aY 8 ?_;have Ql:=xV.dZ [7,7,7,7,7,7,7];refine uG (i:=8) rfl rfl (wg rfl rfl rfl rfl) rfl rfl (eF (vs:=[pV kn 0,.slice (aD agq 0) 1 1]) rfl eQ wT) (Fe (rs:=[fV 7 x.l.q y.b.ep 0 aQ]) U8 (Ro.blk (List.mem_iff_getElem?.2 ⟨0,rfl⟩) rfl rfl) NG.xw (by exact memT 7 rfl hL) (Nat.le_of_ble_eq_true rfl) Ql) ?_;rintro _ ayr ⟨rfl,FZ⟩;refine ⟨_,rfl,?_⟩;refine aI 4 ?_;refine zN 5 ?_;have PZ:X.hear n x.l={ X with hints:=hs,sure:=su }:=OB hyb.symm hhs hsu;rw [Tm hX hyb.symm qp (by first | assumption | omega) U8,PZ];exact ⟨rfl,Wd.dI (X':={ X with hints:=hs,sure:=su }) (z':=z) (Ls:=[.blk agq #[iV 7,iV ((x.l.q:Nat):Int),iV y.b.ep,iV 0,iV 0,iV 0,iV 0,iV 0,iV 0,iV 0] 155,.blk U7 (bR BR.1 IC c107) 150,.bI 6 IC BR.1.evs.length ((BR.1.evs).flatMap Ev.cells),.blk X6 (bR y.b y.A y.c) 150,.blk b7 #[iV ((x.l.q:Nat):Int)] 3,.blk b4 (LX.row x) 125,.blk b1 #[pV kn 0] 104]) (fA:=R.fA) (fc:=R.fc) (fx:=R.fx) (sA:=R.sA) (sc:=R.sc) (tA:=R.tA) (tc:=R.tc) hkn bY hrr G hn FZ (dM.hear NG.more) (λu hu=> .inl hu) rfl G.fly.symm mH⟩
  have Io:=zA.drew;refine aF 11 Io [6,5,4,3,2,1,0] ?_;refine aI 6 ?_;refine aY 6 ?_;refine uG (i:=6) rfl rfl (wg rfl rfl rfl rfl) rfl rfl (eF (vs:=[iV 7,iV ((x.l.q:Nat):Int),.agg (bR y.b y.A y.c)]) rfl eQ EO) (jk 7 x.l.q ⟨y.b,y.A,y.c⟩ _) ?_;rintro _ aHO ⟨rfl,aup⟩;refine ⟨_,rfl,?_⟩;have aaK:=Io.on aup;refine dJ ?_;refine aY 7 ?_;refine jV (i:=7) rfl rfl (V:=λb=> .slice (aD b 0) 1 1) (row:= #[iV 7,iV ((x.l.q:Nat):Int),iV y.b.ep,iV 0,iV 0,iV 0,iV 0,iV 0,iV 0,iV 0]) (t:=155) aaK (wg rfl rfl rfl rfl) rfl rfl (aS (vs:=[(0,.agg #[iV 7,iV ((x.l.q:Nat):Int),iV y.b.ep,iV 0,iV 0,iV 0,iV 0,iV 0,iV 0,iV 0])]) rfl wT kQ) ?_;intro Ey arM uV;refine dJ ?_;refine aY 8 ?_;have azF:=uV.dZ [7,7,7,7,7,7,7];refine uG (i:=8) rfl rfl (wg rfl rfl rfl rfl) rfl rfl (eF (vs:=[pV kn 0,.slice (aD Ey 0) 1 1]) rfl eQ wT) (Fg (rs:=[fV 7 x.l.q y.b.ep 0 aQ]) U8 (Ro.blk (List.mem_iff_getElem?.2 ⟨0,rfl⟩) rfl rfl) NG.xw (by exact memT 7 rfl hL) (Nat.le_of_ble_eq_true rfl) azF) ?_;rintro _ ayn ⟨arW,c157,azG,rfl,apd,ZP⟩;refine ⟨_,rfl,?_⟩;refine ⟨(St.sub (ZP.mg [7,6,5,4,3,2,1,0]) (List.Sublist.cons_cons _ (List.Sublist.cons_cons _ (List.Sublist.cons_cons _ (List.Sublist.cons_cons _ (List.Sublist.cons_cons _ (List.Sublist.cons_cons _ (List.sublist_append_left _ _)))))))),?_⟩;refine aI 3 ?_;refine zN 6 ?_;refine vv Jb ?_;refine zN 2 ?_;refine jE (row':=dF n X.up (.slice arW akK.length c157) X.syn (.slice (aD z.bb 0) 4 4) hs su (.slice z.iA z.ix.length z.ic) (.func (.func 141) #[] #[pV U7 0,pV b1 0,pV b7 0]) X.turn) 0 ZP kQ ?_;intro aqf xY;refine zQ ?_;refine aK (l':=[]) trivial (nZ ?_);have PZ:X.hear n x.l={ X with hints:=hs,sure:=su }:=OB hyb.symm hhs hsu;rw [aaJ hX hyb.symm qp (by first | assumption | omega) U8,PZ];refine ⟨rfl,Wd.fin (X':={ X with hints:=hs,sure:=su,data:=akK,pend:=some (.forget x.l.q BR.1) }) (z':={ z with tA:=arW,tc:=c157,pv:= .func (.func 141) #[] #[pV U7 0,pV b1 0,pV b7 0] }) (N:=azG) (Ls:=[.blk Ey #[iV 7,iV ((x.l.q:Nat):Int),iV y.b.ep,iV 0,iV 0,iV 0,iV 0,iV 0,iV 0,iV 0] 155,.blk U7 (bR BR.1 IC c107) 150,.bI 6 IC BR.1.evs.length ((BR.1.evs).flatMap Ev.cells),.blk X6 (bR y.b y.A y.c) 150,.blk b7 #[iV ((x.l.q:Nat):Int)] 3,.blk b4 (LX.row x) 125,.blk b1 #[pV kn 0] 104]) (fA:=R.fA) (fc:=R.fc) (fx:=R.fx) (sA:=R.sA) (sc:=R.sc) (tA:=R.tA) (tc:=R.tc) hkn bY hrr G hn xY ?_ (λu hu=> .inl hu) rfl G.fly.symm mH⟩;refine { (dM.hear NG.more:dM K _ n { X with hints:=hs,sure:=su } z) with xw:=apd.mono mLN,zf:=?_ }
  show pO (K.nb n) K.wb _ _ _
  rw [hkn,bY];exact ⟨U7,b1,b7,⟨BR.1,IC,c107⟩,rfl,(rQ (List.mem_iff_getElem?.2 ⟨1,rfl⟩)),rfl,⟨(Ro.bI (rQ (List.mem_iff_getElem?.2 ⟨2,rfl⟩))),apc⟩,(rQ (List.mem_iff_getElem?.2 ⟨6,rfl⟩)),(rQ (List.mem_iff_getElem?.2 ⟨4,rfl⟩))⟩
 have arX:=zA.drew;refine aF 11 arX [] ?_;refine aI 12 ?_;refine zN 5 ?_;have PZ:X.hear n x.l={ X with hints:=hs,sure:=su }:=OB hyb.symm hhs hsu;rw [aaI hX hyb.symm qp (by first | assumption | omega),PZ];exact ⟨rfl,Wd.dI (X':={ X with hints:=hs,sure:=su }) (z':=z) (Ls:=[.blk U7 (bR BR.1 IC c107) 150,.bI 6 IC BR.1.evs.length ((BR.1.evs).flatMap Ev.cells),.blk X6 (bR y.b y.A y.c) 150,.blk b7 #[iV ((x.l.q:Nat):Int)] 3,.blk b4 (LX.row x) 125,.blk b1 #[pV kn 0] 104]) (fA:=R.fA) (fc:=R.fc) (fx:=R.fx) (sA:=R.sA) (sc:=R.sc) (tA:=R.tA) (tc:=R.tc) hkn bY hrr G hn arX (dM.hear NG.more) (λu hu=> .inl hu) rfl G.fly.symm mH⟩
theorem Fh {B kn kw bb n turn calls dc ic fc sc tc:Nat} {up:Bool} {dA iA fA sA tA:Option Addr} {data:List UInt8} {syn:Int} {Hh:Nat->Pl} {Us:Nat->Bool} {pv nv:Value} {d:Dir} {sh:Nat->Nat->Int×Int} {bs:List BX} {ix fx:List LX} {aX:List lD} {tl:List vY} {w0 w:World} {fs:List Fact} {L:List Fact} {rs:List dH} {RA:Option Addr} {rc nn:Nat} (hnn:nn=rs.length) (hrs:Ro fs 10 RA nn (rs.flatMap dH.cells)) (htp:Ro L 1 dA data.length (byteCells data)) (hL: ∀ f∈L,f∈fs) (hrl:nn<=1000000) (S:St B w0 w (nF kn n up dA data dc syn bb Hh Us iA ix ic pv turn bs (wF kw nv d fA fx fc sh sA aX sc tA tl tc calls fs))):
  Calls tP 65 #[pV kn 0,.slice RA nn rc] w (λe w'=>(fG data syn rs=none/\e= .returned (.bool false)/\St B w0 w' (nF kn n up dA data dc syn bb Hh Us iA ix ic pv turn bs (wF kw nv d fA fx fc sh sA aX sc tA tl tc calls fs)))\/ ∃ d' A' c' N,fG data syn rs=some d'/\e= .returned (.bool true)/\Ro (L++N) 1 A' d'.length (byteCells d')/\St B w0 w' (nF kn n up A' d' c' syn bb Hh Us iA ix ic pv turn bs (wF kw nv d fA fx fc sh sA aX sc tA tl tc calls (fs++N)))):=by
 subst hnn;exact pQ hrs htp hL hrl S
theorem aaN {b:bK} {ep at_:Int} {l:List Ev} {last:Bool} {BR:bK×Int} (hR:dw b ep at_ l last=BR) (h:aj b=0) (h1:BR.2=0) (h2: ¬ BR.1.evs.length=b.evs.length):0<=at_/\b.evs.length<=at_.toNat+l.length/\at_.toNat+l.length<=BR.1.evs.length/\at_<=2000:=by
 have hl:=ko (jB h);subst hR;unfold dw at h1 h2⊢;rw [if_neg (λe=>e h)] at h1 h2⊢;by_cases c0:b.role≠4
 ·rw [if_pos c0] at h1;exact absurd h1 dQ
 rw [if_neg c0] at h1 h2⊢;by_cases c1:b.ep≠ep
 ·rw [if_pos c1] at h1;exact absurd h1 dQ
 rw [if_neg c1] at h1 h2⊢;by_cases c2: ¬ (0<=at_/\at_<=b.evs.length)
 ·rw [if_pos c2] at h1;exact absurd h1 dQ
 rw [if_neg c2] at h1 h2⊢;by_cases c3: ¬ (b.evs.drop at_.toNat).take l.length=l.take (b.evs.length-at_.toNat)
 ·rw [if_pos c3] at h1;exact absurd h1 dQ
 rw [if_neg c3] at h1 h2⊢;by_cases c4:last=true/\at_.toNat+l.length<b.evs.length
 ·rw [if_pos c4] at h1;exact absurd h1 dQ
 rw [if_neg c4] at h1 h2⊢;by_cases c6:aj (if last=true then (⟨1,ep,0,0,0,b.evs++l.drop (b.evs.length-at_.toNat)++[cO]⟩:bK) else { b with evs:=b.evs++l.drop (b.evs.length-at_.toNat) })≠0
 ·rw [if_pos c6] at h1;exact absurd h1 dQ
 rw [if_neg c6] at h2⊢;have hd:(l.drop (b.evs.length-at_.toNat)).length=l.length-(b.evs.length-at_.toNat):=List.length_drop;by_cases hla:last=true
 ·rw [if_pos hla] at h2⊢;have: ¬ (at_.toNat+l.length<b.evs.length):=λe=>c4 ⟨hla,e⟩;simp only [List.length_append,hd,List.length_singleton] at h2⊢;omega
 rw [if_neg hla] at h2⊢;simp only [List.length_append,hd] at h2⊢;omega
theorem EA {q:Nat} {b:bK} {k m m0 kk:Nat} {last:Bool} {G:List Ev} {acc:List dH} (hG:G=(b.evs.drop k).take m0) (hm:m0=m-k) (hacc:acc=(G.take kk).map (λx=>fV 5 q b.ep 0 x)) (hk:G.length<=kk):uy q b k m last=acc++(if last=true then [fV 6 q b.ep 0 aQ] else []):=by
 subst hm;subst hacc;unfold uy;rw [List.take_of_length_le hk,hG,List.drop_take]
theorem WM {K:CK} {B n kn kw:Nat} {w0 w:World} {fs:List Fact} {m:Cl} {H:List LX} {x:LX} (hn:n<5) (hkn:K.nb n=kn) (bY:K.wb=kw) (hu:Uk B w0) (hB1:m.fly.length<=1000000000) (hB2:m.aX.length<=1000000000000) (HW:Wd K B w0 w fs m (x::H)) (hq:x.l.q<4) (hv: ∀ q,q<4->aj ((m.au n).bs q)=0) (hxe:x.l.evs.length<=2000):
    Calls tP 99 #[pV kw 0,pV kn 0,.agg (LX.row x)] w (λe w'=>e= .returned (.tuple #[])/\Wd K B w0 w' fs (m.got n x.l) H):=by
 obtain ⟨R,G,S0⟩:=HW.open hn;have hfl:R.fx.length=m.fly.length:=by rw [<-G.fly,List.length_map]
 have NG:=G.mJ n hn;obtain ⟨X,hX⟩: ∃ X,m.au n=X:=⟨_,rfl⟩;obtain ⟨z,hz⟩: ∃ z,R.nx n=z:=⟨_,rfl⟩;rw [hX,hz] at S0 NG;have hL: ∀ f∈R.L,f∈fU K R m fs n:=λf h=>List.mem_append_right _ (List.mem_append_right _ h);obtain ⟨rr,hrr⟩: ∃ r,fU K R m fs n=r:=⟨_,rfl⟩;rw [hrr] at S0 hL;have S:St B w0 w (cN kn n X z z.pv (cF kw R m rr)):=by subst hkn;subst bY;exact S0
 clear S0 HW;have hlen:=(S.own 1 rfl).1;rw [iE (sz:=6) (λ_=>rfl)] at hlen;rw [hX] at hv;obtain ⟨y,hy,hyb,sP⟩:=NG.at_ hq;have hln:=ko (jB (hyb▸hv _ hq));have yC:y.b.evs.length*48<=reachBytes:=by unfold reachBytes;omega
 have K9:=wM (hyb▸hv _ hq);have hxo:=G.hld x (List.mem_cons_self ..);have hbK:(x.l.evs.length+2001)*48<=reachBytes:=by unfold reachBytes;omega
 refine gK 108 Tryz.func99 ?_;refine cw [0,1,2] ?_;refine zN 2 ?_;refine TU S ?_;intro b1 w2 S3;refine TU S3 ?_;intro b4 w5 S6;refine iT S6 ?_;intro b7 w8 S9;refine zN 6 ?_;refine fT S9 zr3 ?_;intro b10 EW kP;refine jE (row':= #[iV ((x.l.q:Nat):Int)]) 0 kP kQ ?_;intro Ce jP;refine zN 3 ?_;have iW:=jP.drew;refine eZ 9 8 iW [] ?_;iterate 5 refine gP ?_
 refine gk 5 rfl iW (λ_ _=>kY x.l.q) ?_;refine gk (v:= .agg (bR y.b y.A y.c)) 6 rfl iW (λ_ FX=>(ah rfl rfl (dK (cs:=BX.cells y) (Rd.vG (St.ord 5 FX rfl) (λ_ _ h=>bU (enc:=BX.cells) (sz:=6) (λ_=>rfl) hy h))))) ?_;refine eG (m:=1) (r:=7) kQ ?_;refine mq (i:=7) rfl rfl (V:=λb=>pV b 0) (row:=zB) (t:=150) iW (wn rfl) rfl rfl (fD rfl (Tryz.zeroValue150 _) rfl) ?_;intro zO LG iy;refine gP ?_;refine eB kQ rfl rfl rfl ?_;refine sa 0 iy kQ ?_;intro Jh qx;refine zQ ?_;refine iX ?_;refine zN 6 ?_;by_cases h28:y.b.role=4
 ·refine zN 6 ?_;by_cases h29:y.b.fr=x.l.fr
  ·refine zN 8 ?_;obtain ⟨BR,qp⟩: ∃ r,dw y.b x.l.ep x.l.at_ x.l.evs x.l.last=r:=⟨_,rfl⟩;have HP:=λw hK h=>Fa y.b.role y.b.ep y.b.fr y.b.tg y.b.rd y.A y.c y.b.evs x.l.ep x.l.at_ x.A x.c x.l.evs x.l.last sP.2 hxo.2 w hK h yC hbK;rw [show dw ⟨y.b.role,y.b.ep,y.b.fr,y.b.tg,y.b.rd,y.b.evs⟩ x.l.ep x.l.at_ x.l.evs x.l.last=BR from qp] at HP;refine zN 10 ?_;refine dL eQ (HP _ (hxo.1.rd qx (memT 12 rfl hL)) (sP.1.rd qx (memT 12 rfl hL))) ?_;rintro _ XV ⟨om,c31,Lm,rfl,T35⟩;refine ⟨_,rfl,?_⟩;have mX:=qx.ext T35 rfl;refine zN 3 ?_;refine fT mX fM ?_;intro sO Ud qD;refine sa 0 qD kQ ?_;intro w39 vX;refine zN 7 ?_;by_cases h41:BR.2=2
   ·refine zN 9 ?_;have uZ:=vX.dZ [13,13,13,13,13,13,13];refine dL eQ (yB hn hq hy uZ oQ) ?_;rintro _ w47 ⟨rfl,A43,c44,azH,arY,pW⟩;refine ⟨_,rfl,?_⟩;refine zQ ?_;refine aK (l':=[]) trivial (ay (fP (aO (bQ (rs:=[]) (vs:=[]) rfl trivial ?_))));rw [afc hX hyb.symm qp oQ oQ];exact ⟨rfl,Wd.dI (X':=X) (z':=z) (Ls:=[.blk sO (bR BR.1 om c31) 150,.bI 6 om BR.1.evs.length ((BR.1.evs).flatMap Ev.cells),.blk zO (bR y.b y.A y.c) 150,.blk b10 #[iV ((x.l.q:Nat):Int)] 3,.blk b7 (LX.row x) 125,.blk b4 #[pV kn 0] 104,.blk b1 #[pV kw 0] 93]) (fA:=A43) (fc:=c44) (fx:=azH) (sA:=R.sA) (sc:=R.sc) (tA:=R.tA) (tc:=R.tc) hkn bY hrr G hn pW NG.more (by rw [arY];exact oD (iY rfl)) (aH hX).symm (by rw [arY,List.map_append,G.fly];rfl) mH⟩
   refine zN 10 ?_;by_cases h49:BR.2=0
   ·refine zN 8 ?_;by_cases h50:((BR.1.evs.length:Nat):Int)=((y.b.evs.length:Nat):Int)
    ·refine zN 8 ?_;have uh:=vX.dZ [13,13,13,13,13,13,13];rw [RF hX hyb.symm qp oQ oQ oQ];exact ⟨rfl,Wd.dI (X':=X) (z':=z) (Ls:=[.blk sO (bR BR.1 om c31) 150,.bI 6 om BR.1.evs.length ((BR.1.evs).flatMap Ev.cells),.blk zO (bR y.b y.A y.c) 150,.blk b10 #[iV ((x.l.q:Nat):Int)] 3,.blk b7 (LX.row x) 125,.blk b4 #[pV kn 0] 104,.blk b1 #[pV kw 0] 93]) (fA:=R.fA) (fc:=R.fc) (fx:=R.fx) (sA:=R.sA) (sc:=R.sc) (tA:=R.tA) (tc:=R.tc) hkn bY hrr G hn uh NG.more (λu hu=> .inl hu) (aH hX).symm G.fly.symm mH⟩
    refine zN 8 ?_;obtain ⟨ha0,ha1,ha2,ha3⟩:=aaN qp (hyb▸hv _ hq) oQ oQ;obtain ⟨M,hM⟩: ∃ k,k=x.l.at_.toNat+x.l.evs.length:=⟨_,rfl⟩;rw [<-hM] at ha1 ha2;obtain ⟨m0,hm0⟩: ∃ k,k=M-y.b.evs.length:=⟨_,rfl⟩;refine zQ ?_;have oh:=vX.nil 155 10;refine zN 10 ?_;refine vv (v:=iV ((M:Nat):Int)) (aC rfl rfl rfl (qY (z:=((M:Nat):Int)) oQ oQ)) ?_;refine zN 12 ?_;obtain ⟨A2,hs2,hr2,_⟩:=ES (P:=tP) (t:=121) (enc:=Ev.cells) (s:=6) (λ_=>rfl) (A:=om) (b:=BR.1.evs) (n:=BR.1.evs.length) (c:=c31) (lo:=(some (iV ((y.b.evs.length:Nat):Int)))) (hi:=(some (iV ((M:Nat):Int)))) (mx:=none) (l:=y.b.evs.length) (k:=M) (q:=c31) (m:=m0) (c':=c31-y.b.evs.length) Tryz.underlying121 kQ (Uy (y.b.evs.length) M rfl rfl oQ oQ) oQ oQ oQ hm0.symm rfl;obtain ⟨GE,hG⟩: ∃ g,g=(BR.1.evs.drop y.b.evs.length).take m0:=⟨_,rfl⟩;rw [<-hG] at hr2;have hGl:GE.length=m0:=by rw [hG,List.length_take,List.length_drop];omega
    refine vv (v:= .slice A2 m0 (c31-y.b.evs.length)) (jA rfl rfl (jd rfl) (jd rfl) lH (hs2 _)) ?_;refine zN 5 ?_;refine eP (X:=(List dH)×Nat×(Option Addr)×Nat) (λxv=>[(3,pV b1 0),(4,pV b4 0),(5,pV b7 0),(6,pV b10 0),(8,pV sO 0),(76,.slice A2 m0 (c31-y.b.evs.length)),(77,iV ((m0:Nat):Int)),(10,.slice xv.2.2.1 xv.2.1 xv.2.2.2),(78,iV ((xv.2.1:Nat):Int))]) (λxv wr=>(xv.1=(GE.take xv.2.1).map (λu=>fV 5 x.l.q BR.1.ep 0 u))/\(xv.2.1<=m0)/\(xv.2.1=xv.1.length)/\St B w0 wr ((.own 155 10 (.slice xv.2.2.1 xv.2.1 xv.2.2.2) xv.2.1 ((xv.1).flatMap dH.cells))::(.blk sO (bR BR.1 om c31) 150)::(.bI 6 om BR.1.evs.length ((BR.1.evs).flatMap Ev.cells))::(.blk zO (bR y.b y.A y.c) 150)::(.blk b10 #[iV ((x.l.q:Nat):Int)] 3)::(.blk b7 (LX.row x) 125)::(.blk b4 #[pV kn 0] 104)::(.blk b1 #[pV kw 0] 93)::(cN kn n X z z.pv (cF kw R m rr)))) (λxv=>m0-xv.2.1) ([],0,none,0) ?_ ?_ ?_
    ·exact ⟨iQ,Nat.zero_le _,rfl,oh⟩
    ·exact tU9
    rintro ⟨acc,k,A9,c9⟩ w53 ⟨M4,azI,agr,lC⟩
    try dsimp only at M4 azI agr lC
    refine bg (l':=[(3,pV b1 0),(4,pV b4 0),(5,pV b7 0),(6,pV b10 0),(8,pV sO 0),(76,.slice A2 m0 (c31-y.b.evs.length)),(77,iV ((m0:Nat):Int)),(10,.slice A9 k c9),(78,iV ((k:Nat):Int))]) tU9 (aA (av ?_));by_cases h58:((k:Nat):Int)< ((m0:Nat):Int)
    ·refine zN 10 ?_;obtain ⟨e,he⟩: ∃ e,GE[k]? =some e:=⟨_,List.getElem?_eq_getElem oQ⟩;refine zQ ?_;obtain ⟨rb,ro,hra,_,hrc⟩:=(hr2 _ _ (St.bI 2 lC rfl)).2 oQ;subst hra;refine vv (kY k) ?_;refine vv (v:= .agg #[iV e.kind,iV e.producer,iV e.id,iV e.body,iV e.aL,iV e.hno]) (ah rfl rfl (dK (cs:=Ev.cells e) (λj u hu=>by rw [Nat.add_assoc];exact hrc (k*6+j) u (bU (enc:=Ev.cells) (sz:=6) (λ_=>rfl) he hu)))) ?_;refine fT lC YX ?_;intro b59 Zu EY;refine sa 0 EY kQ ?_;intro Ua uM;refine zN 6 ?_;refine cab eQ uM (jk 5 x.l.q ⟨BR.1,om,c31⟩ _) ?_;intro Uc yN;refine fT yN wu ?_;intro b67 w68 tN;refine sa 0 tN kQ ?_;intro Y9 sK;refine zN 6 ?_;refine jE (row':= #[iV 5,iV ((x.l.q:Nat):Int),iV BR.1.ep,iV 0,iV e.kind,iV e.producer,iV e.id,iV e.body,iV e.aL,iV e.hno]) 0 sK kQ ?_;intro w72 tQ;refine zN 5 ?_;refine YZ tQ ?_;intro b74 w75 Lv;refine dY (news:=[iV 5,iV ((x.l.q:Nat):Int),iV BR.1.ep,iV 0,iV e.kind,iV e.producer,iV e.id,iV e.body,iV e.aL,iV e.hno]) (xs':=(acc++[fV 5 x.l.q BR.1.ep 0 e]).flatMap dH.cells) 3 Lv (wn rfl) rfl rfl rfl rfl rfl rfl (St.lI (xs:=[iV 5,iV ((x.l.q:Nat):Int),iV BR.1.ep,iV 0,iV e.kind,iV e.producer,iV e.id,iV e.body,iV e.aL,iV e.hno]) 0 Lv rfl rfl rfl) Tryz.underlying132 Oq rfl dQ (aM rfl) lQ oQ (kI (enc:=dH.cells) rfl rfl) ?_;intro A77 c78 w79 aHP aHQ Bg;change St _ _ _ (_::_::_::(.own 155 10 (.slice A77 (k+1) c78) (k+1) ((acc++[fV 5 x.l.q BR.1.ep 0 e]).flatMap dH.cells))::_::_::_::_::_::_::_::_::_::_::_::_::_::_::rr) at Bg;refine zN 5 ?_;refine vv (v:=iV ((k+1:Nat):Int)) j6 ?_;refine zN 2 ?_;have zK:=Bg.aU [2,1,0];refine bT (acc++[fV 5 x.l.q BR.1.ep 0 e],k+1,A77,c78) ?_ tU9 (by first | omega | (dsimp only;omega));exact ⟨(by dsimp only;rw [M4,List.take_add_one,he];simp),uQ,(by dsimp only;simp [agr]),zK⟩
    refine zN 14 ?_;refine vv (v:= .bool x.l.last) (ah rfl rfl (aG (St.cl 5 lC rfl rfl))) ?_;refine qk [3,4,5,6,8,10,93] ?_;refine ay ?_
    cases aHR:(x.l.last)
    ·refine bg (l':=[(3,pV b1 0),(4,pV b4 0),(5,pV b7 0),(6,pV b10 0),(8,pV sO 0),(10,.slice A9 k c9),(93,.bool false)]) CU (bZ rfl (fC (ay (aA (aA (av (vv (ah rfl rfl (aG (St.cl 6 lC rfl rfl))) ?_)))))));refine zQ ?_;have Jo:=lC.dZ [14,14,14,14,14,14,14];refine dL eQ (Fh (nn:=k) (rs:=acc) (by simp [<-agr]) (Ro.own (List.mem_iff_getElem?.2 ⟨0,rfl⟩)) NG.xw (by exact memT 8 rfl hL) oQ Jo) ?_;rintro _ w92 (⟨amm,rfl,yZ⟩ | ⟨arZ,A87,c88,N89,amm,rfl,auq,yZ⟩)
     ·refine ⟨_,rfl,?_⟩;refine zN 7 ?_;have hgr:uy x.l.q BR.1 y.b.evs.length (x.l.at_.toNat+x.l.evs.length) x.l.last=acc:=by
       rw [<-hM,EA hG hm0 M4 oQ,if_neg (by simp [*])];exact List.append_nil _
      rw [RG hX hyb.symm qp oQ oQ oQ (by rw [hgr];exact amm)];exact ⟨rfl,Wd.dI (X':=X) (z':=z) (Ls:=[.own 155 10 (.slice A9 k c9) k ((acc).flatMap dH.cells),.blk sO (bR BR.1 om c31) 150,.bI 6 om BR.1.evs.length ((BR.1.evs).flatMap Ev.cells),.blk zO (bR y.b y.A y.c) 150,.blk b10 #[iV ((x.l.q:Nat):Int)] 3,.blk b7 (LX.row x) 125,.blk b4 #[pV kn 0] 104,.blk b1 #[pV kw 0] 93]) (fA:=R.fA) (fc:=R.fc) (fx:=R.fx) (sA:=R.sA) (sc:=R.sc) (tA:=R.tA) (tc:=R.tc) hkn bY hrr G hn yZ NG.more (λu hu=> .inl hu) (aH hX).symm G.fly.symm mH⟩
     refine ⟨_,rfl,?_⟩;refine zN 8 ?_;refine vv Jb ?_;refine zN 2 ?_;refine jE (row':=dF n X.up (.slice A87 arZ.length c88) X.syn (.slice (aD z.bb 0) 4 4) X.hints X.sure (.slice z.iA z.ix.length z.ic) (.func (.func 139) #[] #[pV sO 0,pV b4 0,pV b10 0,pV b7 0,pV b1 0]) X.turn) 0 yZ kQ ?_;intro w94 F3;refine zQ ?_;refine aK (l':=[]) trivial (nZ ?_);have hgr:uy x.l.q BR.1 y.b.evs.length (x.l.at_.toNat+x.l.evs.length) x.l.last=acc:=by
      rw [<-hM,EA hG hm0 M4 oQ,if_neg (by simp [*])];exact List.append_nil _
     rw [adu hX hyb.symm qp oQ oQ oQ (by rw [hgr];exact amm)];refine ⟨rfl,Wd.fin (X':={ X with data:=arZ,pend:=some (.got x.l.q BR.1 x.l.last) }) (z':={ z with tA:=A87,tc:=c88,pv:= .func (.func 139) #[] #[pV sO 0,pV b4 0,pV b10 0,pV b7 0,pV b1 0] }) (N:=N89) (Ls:=[.own 155 10 (.slice A9 k c9) k ((acc).flatMap dH.cells),.blk sO (bR BR.1 om c31) 150,.bI 6 om BR.1.evs.length ((BR.1.evs).flatMap Ev.cells),.blk zO (bR y.b y.A y.c) 150,.blk b10 #[iV ((x.l.q:Nat):Int)] 3,.blk b7 (LX.row x) 125,.blk b4 #[pV kn 0] 104,.blk b1 #[pV kw 0] 93]) (fA:=R.fA) (fc:=R.fc) (fx:=R.fx) (sA:=R.sA) (sc:=R.sc) (tA:=R.tA) (tc:=R.tc) hkn bY hrr G hn F3 ?_ (λu hu=> .inl hu) rfl G.fly.symm mH⟩;refine { (NG.more:dM K _ n X z) with xw:=auq.mono mLN,zf:=?_ }
     show pO (K.nb n) K.wb _ _ _
     rw [hkn,bY];exact ⟨sO,b4,b10,b7,b1,⟨BR.1,om,c31⟩,x,rfl,(rQ (List.mem_iff_getElem?.2 ⟨1,rfl⟩)),rfl,⟨(Ro.bI (rQ (List.mem_iff_getElem?.2 ⟨2,rfl⟩))),Lm⟩,(rQ (List.mem_iff_getElem?.2 ⟨6,rfl⟩)),(rQ (List.mem_iff_getElem?.2 ⟨4,rfl⟩)),(rQ (List.mem_iff_getElem?.2 ⟨5,rfl⟩)),rfl,(rQ (List.mem_iff_getElem?.2 ⟨7,rfl⟩))⟩
    refine bg (l':=[(3,pV b1 0),(4,pV b4 0),(5,pV b7 0),(6,pV b10 0),(8,pV sO 0),(10,.slice A9 k c9),(93,.bool true)]) CU (dO rfl (av (vm ?_)));refine zN 2 ?_;refine cab eQ lC (jk 6 x.l.q ⟨BR.1,om,c31⟩ _) ?_;intro w96 Cc;refine YZ Cc ?_;intro b99 agl vS;refine dY (news:=[iV 6,iV ((x.l.q:Nat):Int),iV BR.1.ep,iV 0,iV 0,iV 0,iV 0,iV 0,iV 0,iV 0]) (xs':=(acc++[fV 6 x.l.q BR.1.ep 0 aQ]).flatMap dH.cells) 1 vS (wn rfl) rfl rfl rfl rfl rfl rfl (St.lI (xs:=[iV 6,iV ((x.l.q:Nat):Int),iV BR.1.ep,iV 0,iV 0,iV 0,iV 0,iV 0,iV 0,iV 0]) 0 vS rfl rfl rfl) Tryz.underlying132 Oq rfl dQ (aM rfl) lQ oQ (kI (enc:=dH.cells) rfl rfl) ?_;intro amn amo arB aDo aDp rY;refine zN 8 ?_;have uU:=rY.dZ [15,15,15,15,15,15,15];refine dL eQ (Fh (nn:=k+1) (rs:=acc++[fV 6 x.l.q BR.1.ep 0 aQ]) (by simp [<-agr]) (Ro.own (List.mem_iff_getElem?.2 ⟨1,rfl⟩)) NG.xw (by exact memT 9 rfl hL) oQ uU) ?_;rintro _ aml (⟨ab8,rfl,yh⟩ | ⟨akL,ags,agt,azJ,ab8,rfl,apf,yh⟩)
    ·refine ⟨_,rfl,?_⟩;refine zN 7 ?_;have hgr:uy x.l.q BR.1 y.b.evs.length (x.l.at_.toNat+x.l.evs.length) x.l.last=acc++[fV 6 x.l.q BR.1.ep 0 aQ]:=by
      rw [<-hM,EA hG hm0 M4 oQ,if_pos ‹_›]
     rw [RG hX hyb.symm qp oQ oQ oQ (by rw [hgr];exact ab8)];exact ⟨rfl,Wd.dI (X':=X) (z':=z) (Ls:=[.blk b99 #[iV 6,iV ((x.l.q:Nat):Int),iV BR.1.ep,iV 0,iV 0,iV 0,iV 0,iV 0,iV 0,iV 0] 155,.own 155 10 (.slice amn (k+1) amo) (k+1) ((acc++[fV 6 x.l.q BR.1.ep 0 aQ]).flatMap dH.cells),.blk sO (bR BR.1 om c31) 150,.bI 6 om BR.1.evs.length ((BR.1.evs).flatMap Ev.cells),.blk zO (bR y.b y.A y.c) 150,.blk b10 #[iV ((x.l.q:Nat):Int)] 3,.blk b7 (LX.row x) 125,.blk b4 #[pV kn 0] 104,.blk b1 #[pV kw 0] 93]) (fA:=R.fA) (fc:=R.fc) (fx:=R.fx) (sA:=R.sA) (sc:=R.sc) (tA:=R.tA) (tc:=R.tc) hkn bY hrr G hn yh NG.more (λu hu=> .inl hu) (aH hX).symm G.fly.symm mH⟩
    refine ⟨_,rfl,?_⟩;refine zN 8 ?_;refine vv Jb ?_;refine zN 2 ?_;refine jE (row':=dF n X.up (.slice ags akL.length agt) X.syn (.slice (aD z.bb 0) 4 4) X.hints X.sure (.slice z.iA z.ix.length z.ic) (.func (.func 139) #[] #[pV sO 0,pV b4 0,pV b10 0,pV b7 0,pV b1 0]) X.turn) 0 yh kQ ?_;intro Z4 vR;refine zQ ?_;refine aK (l':=[]) trivial (nZ ?_);have hgr:uy x.l.q BR.1 y.b.evs.length (x.l.at_.toNat+x.l.evs.length) x.l.last=acc++[fV 6 x.l.q BR.1.ep 0 aQ]:=by
     rw [<-hM,EA hG hm0 M4 oQ,if_pos ‹_›]
    rw [adu hX hyb.symm qp oQ oQ oQ (by rw [hgr];exact ab8)];refine ⟨rfl,Wd.fin (X':={ X with data:=akL,pend:=some (.got x.l.q BR.1 x.l.last) }) (z':={ z with tA:=ags,tc:=agt,pv:= .func (.func 139) #[] #[pV sO 0,pV b4 0,pV b10 0,pV b7 0,pV b1 0] }) (N:=azJ) (Ls:=[.blk b99 #[iV 6,iV ((x.l.q:Nat):Int),iV BR.1.ep,iV 0,iV 0,iV 0,iV 0,iV 0,iV 0,iV 0] 155,.own 155 10 (.slice amn (k+1) amo) (k+1) ((acc++[fV 6 x.l.q BR.1.ep 0 aQ]).flatMap dH.cells),.blk sO (bR BR.1 om c31) 150,.bI 6 om BR.1.evs.length ((BR.1.evs).flatMap Ev.cells),.blk zO (bR y.b y.A y.c) 150,.blk b10 #[iV ((x.l.q:Nat):Int)] 3,.blk b7 (LX.row x) 125,.blk b4 #[pV kn 0] 104,.blk b1 #[pV kw 0] 93]) (fA:=R.fA) (fc:=R.fc) (fx:=R.fx) (sA:=R.sA) (sc:=R.sc) (tA:=R.tA) (tc:=R.tc) hkn bY hrr G hn vR ?_ (λu hu=> .inl hu) rfl G.fly.symm mH⟩;refine { (NG.more:dM K _ n X z) with xw:=apf.mono mLN,zf:=?_ }
    show pO (K.nb n) K.wb _ _ _
    rw [hkn,bY];exact ⟨sO,b4,b10,b7,b1,⟨BR.1,om,c31⟩,x,rfl,(rQ (List.mem_iff_getElem?.2 ⟨2,rfl⟩)),rfl,⟨(Ro.bI (rQ (List.mem_iff_getElem?.2 ⟨3,rfl⟩))),Lm⟩,(rQ (List.mem_iff_getElem?.2 ⟨7,rfl⟩)),(rQ (List.mem_iff_getElem?.2 ⟨5,rfl⟩)),(rQ (List.mem_iff_getElem?.2 ⟨6,rfl⟩)),rfl,(rQ (List.mem_iff_getElem?.2 ⟨8,rfl⟩))⟩
   refine zN 16 ?_;have tq:=vX.dZ [13,13,13,13,13,13,13];rw [RF hX hyb.symm qp oQ oQ oQ];exact ⟨rfl,Wd.dI (X':=X) (z':=z) (Ls:=[.blk sO (bR BR.1 om c31) 150,.bI 6 om BR.1.evs.length ((BR.1.evs).flatMap Ev.cells),.blk zO (bR y.b y.A y.c) 150,.blk b10 #[iV ((x.l.q:Nat):Int)] 3,.blk b7 (LX.row x) 125,.blk b4 #[pV kn 0] 104,.blk b1 #[pV kw 0] 93]) (fA:=R.fA) (fc:=R.fc) (fx:=R.fx) (sA:=R.sA) (sc:=R.sc) (tA:=R.tA) (tc:=R.tc) hkn bY hrr G hn tq NG.more (λu hu=> .inl hu) (aH hX).symm G.fly.symm mH⟩
  refine zN 8 ?_;have qC:=qx.dZ [11,11,11,11,11,11,11];rw [adt hX hyb.symm oQ];exact ⟨rfl,Wd.dI (X':=X) (z':=z) (Ls:=[.blk zO (bR y.b y.A y.c) 150,.blk b10 #[iV ((x.l.q:Nat):Int)] 3,.blk b7 (LX.row x) 125,.blk b4 #[pV kn 0] 104,.blk b1 #[pV kw 0] 93]) (fA:=R.fA) (fc:=R.fc) (fx:=R.fx) (sA:=R.sA) (sc:=R.sc) (tA:=R.tA) (tc:=R.tc) hkn bY hrr G hn qC NG.more (λu hu=> .inl hu) (aH hX).symm G.fly.symm mH⟩
 refine zN 14 ?_;have zu:=qx.dZ [11,11,11,11,11,11,11];rw [adt hX hyb.symm oQ];exact ⟨rfl,Wd.dI (X':=X) (z':=z) (Ls:=[.blk zO (bR y.b y.A y.c) 150,.blk b10 #[iV ((x.l.q:Nat):Int)] 3,.blk b7 (LX.row x) 125,.blk b4 #[pV kn 0] 104,.blk b1 #[pV kw 0] 93]) (fA:=R.fA) (fc:=R.fc) (fx:=R.fx) (sA:=R.sA) (sc:=R.sc) (tA:=R.tA) (tc:=R.tc) hkn bY hrr G hn zu NG.more (λu hu=> .inl hu) (aH hX).symm G.fly.symm mH⟩
theorem Uj {P:Program} {t:TypeId} {xo yo:Operand} {w:World} {a b c:Nat} (h:c=a % b) (hb:b≠0):(do eqGuard .rem t xo yo (iV ((a:Nat):Int)) (iV ((b:Nat):Int));binOp .rem t (iV ((a:Nat):Int)) (iV ((b:Nat):Int)):Sem Value).run P w= .ok (iV ((c:Nat):Int)) w:=by
 subst h;have h1:((a:Int)).tmod (b:Int)=((a % b:Nat):Int):=by rw [Int.tmod_eq_emod_of_nonneg (Int.natCast_nonneg a)];rfl
 have h2: ¬ ((b:Int)=0):=oQ;simp [binOp,Op.intDiv,h2,h1,eqGuard_rem];exact λh=>absurd h hb
theorem AJ {m:Cl} {n q:Nat} {X:Nd} {b:bK} (hX:m.au n=X) (hq:q=X.turn % 4) (hb:X.bs q=b):m.aad n={ (m.put n { X with turn:=X.turn+1 }) with fly:=m.fly++mD n q b (X.sure q) }:=by
 subst hX;subst hq;subst hb;rfl
theorem dM.turn {K:CK} {L:List Fact} {n t:Nat} {X:Nd} {z:NX} (h:dM K L n X z):dM K L n { X with turn:=t } z:=⟨h.PU,h.RD,h.xw,h.ixm,h.ixo,h.zf⟩
theorem aur {fx:List LX} {x y:LX} {P:LX->Prop} (hx:P x) (hy:P y): ∀ u∈fx++[x,y],u∈fx\/P u:=λu hu=>(List.mem_append.1 hu).elim .inl λh=>by
 rcases List.mem_cons.1 h with h | h
 ·subst h;exact .inr hx
 rw [List.mem_singleton] at h;subst h;exact .inr hy
theorem WO {K:CK} {B n kn kw:Nat} {w0 w:World} {fs:List Fact} {m:Cl} {H:List LX} (hn:n<5) (hkn:K.nb n=kn) (bY:K.wb=kw) (hu:Uk B w0) (hB1:m.fly.length<=1000000000) (hB2:m.aX.length<=1000000000000) (HW:Wd K B w0 w fs m H) (htn:(m.au n).turn<=1000000000000) (hv: ∀ q,q<4->aj ((m.au n).bs q)=0):
    Calls Tryz.prog 69 #[pV kw 0,pV kn 0] w (λe w'=>e= .returned (.tuple #[])/\Wd K B w0 w' fs (m.aad n) H):=by
 obtain ⟨R,G,S0⟩:=HW.open hn;have hfl:R.fx.length=m.fly.length:=by rw [<-G.fly,List.length_map]
 have NG:=G.mJ n hn;obtain ⟨X,hX⟩: ∃ X,m.au n=X:=⟨_,rfl⟩;obtain ⟨z,hz⟩: ∃ z,R.nx n=z:=⟨_,rfl⟩;rw [hX,hz] at S0 NG;have hL: ∀ f∈R.L,f∈fU K R m fs n:=λf h=>List.mem_append_right _ (List.mem_append_right _ h);obtain ⟨rr,hrr⟩: ∃ r,fU K R m fs n=r:=⟨_,rfl⟩;rw [hrr] at S0 hL;have S:St B w0 w (cN kn n X z z.pv (cF kw R m rr)):=by subst hkn;subst bY;exact S0
 clear S0 HW;have hlen:=(S.own 1 rfl).1;rw [iE (sz:=6) (λ_=>rfl)] at hlen;rw [hX] at hv htn;obtain ⟨q,hqt⟩: ∃ q,q=X.turn % 4:=⟨_,rfl⟩;have hq:q<4:=oQ;obtain ⟨y,hy,hyb,sP⟩:=NG.at_ hq;have K9:=wM (hyb▸hv _ hq);refine gK 89 Tryz.func69 ?_;refine cw [0,1] ?_;refine zN 6 ?_;refine vv (v:=iV ((q:Nat):Int)) (aC rfl rfl rfl (Uj hqt dQ)) ?_;refine zN 9 ?_;refine vv (v:=iV ((X.turn+1:Nat):Int)) j6 ?_;refine zN 2 ?_;refine jE (row':=dF n X.up (.slice z.tA X.data.length z.tc) X.syn (.slice (aD z.bb 0) 4 4) X.hints X.sure (.slice z.iA z.ix.length z.ic) (z.pv) (X.turn+1)) 0 S kQ ?_;intro w1 S2;refine zN 9 ?_;refine vv (kY q) ?_;refine vv (ah rfl rfl (dK (cs:=BX.cells y) (Rd.vG (St.ord 1 S2 rfl) (λ_ _ h=>bU (enc:=BX.cells) (sz:=6) (λ_=>rfl) hy h)))) ?_;refine fT S2 fM ?_;intro b3 w4 S5;refine sa 0 S5 kQ ?_;intro w6 S7;refine zN 7 ?_;by_cases h8:y.b.role=2
 ·refine zN 9 ?_;have S9:=S7.dZ [5,5];have nN:=S9.drew;refine aF 13 nN [1,0] ?_;refine aI 10 ?_;refine ak (v:=iV (y.b.ep+1)) 10 rfl (nN.mg [1,0]) (λ_ _=>j6) ?_;refine ak (v:= .agg #[iV 2,iV ((n:Nat):Int),iV y.b.tg,iV ((q:Nat):Int),iV (y.b.ep+1),iV 0,iV 0,iV 0,iV 0,iV 0,iV 0,iV 0,iV 0,.slice none 0 0,.bool false,iV 0,iV 0,iV 0,iV 0,iV 0,iV 0,iV 0,iV 0]) 11 rfl (nN.mg [1,0]) (λ_ _=>gB) ?_;refine aY 12 ?_;refine j5 12 rfl eQ (gT (x:=⟨Cg n q y.b,none,0⟩) nN oQ) ?_;rintro _ MW ⟨rfl,A23,c24,azK,azL,sJ⟩;refine ⟨_,rfl,?_⟩;refine aI 2 ?_;refine zN 36 ?_;have oW:=sJ.aU [2];have uq:=oW.dZ [6,6,3,3,6,6,6];have hdl:mD n q y.b (X.sure q)=[Cg n q y.b]:=by
   unfold mD
   (rw [if_pos (by first | omega | exact ⟨by omega,by omega,by assumption⟩),if_neg (by first | omega | (rintro ⟨h1,h2,h3⟩;first | omega | simp_all)),if_neg (by first | omega | (rintro ⟨h1,h2,h3⟩;first | omega | simp_all))])<;>rfl
  rw [AJ hX hqt hyb.symm];have hfx:=azL;exact ⟨rfl,Wd.dI (X':={ X with turn:=X.turn+1 }) (z':=z) (Ls:=[]) (fA:=A23) (fc:=c24) (fx:=azK) (sA:=R.sA) (sc:=R.sc) (tA:=R.tA) (tc:=R.tc) hkn bY hrr G hn uq (dM.turn NG.more) (by rw [hfx];exact oD (iY rfl)) rfl (by rw [hfx,hdl,List.map_append,G.fly];rfl) (λu h=> .inl h)⟩
 refine zN 4 ?_;by_cases h31:y.b.role=3
 ·refine zN 5 ?_;have pX:=S7.dZ [5,5];have kE:=pX.drew;refine aF 13 kE [1,0] ?_;refine aI 10 ?_;refine ak (v:=iV (y.b.ep+1)) 10 rfl (kE.mg [1,0]) (λ_ _=>j6) ?_;refine ak (v:= .agg #[iV 2,iV ((n:Nat):Int),iV y.b.tg,iV ((q:Nat):Int),iV (y.b.ep+1),iV 0,iV 0,iV 0,iV 0,iV 0,iV 0,iV 0,iV 0,.slice none 0 0,.bool false,iV 0,iV 0,iV 0,iV 0,iV 0,iV 0,iV 0,iV 0]) 11 rfl (kE.mg [1,0]) (λ_ _=>gB) ?_;refine aY 12 ?_;refine j5 12 rfl eQ (gT (x:=⟨Cg n q y.b,none,0⟩) kE oQ) ?_;rintro _ Pf ⟨rfl,A46,c47,aHS,ar0,uh⟩;refine ⟨_,rfl,?_⟩;refine aI 2 ?_;refine zN 17 ?_;refine vv (v:= .agg #[iV 5,iV ((n:Nat):Int),iV (-2),iV ((q:Nat):Int),iV 0,iV 0,iV (-1),iV 0,iV 0,iV 0,iV 0,iV 0,iV 0,.slice none 0 0,.bool false,iV 0,iV 0,iV 0,iV 0,iV 0,iV 0,iV 0,iV 0]) gB ?_;refine dL eQ (gT (x:=⟨aac n q,none,0⟩) uh (by simp only [ar0,List.length_append,List.length_cons,List.length_nil];omega)) ?_;rintro _ w56 ⟨rfl,A52,c53,ar1,azM,qN⟩;refine ⟨_,rfl,?_⟩;refine zN 26 ?_;have um:=qN.aU [2];have Bl:=um.dZ [6,6,3,3,6,6,6];have hdl:mD n q y.b (X.sure q)=[Cg n q y.b,aac n q]:=by
   unfold mD
   (rw [if_pos (by first | omega | exact ⟨by omega,by omega,by assumption⟩),if_pos (by first | omega | exact ⟨by omega,by omega,by assumption⟩),if_neg (by first | omega | (rintro ⟨h1,h2,h3⟩;first | omega | simp_all))])<;>rfl
  rw [AJ hX hqt hyb.symm];have hfx:ar1=R.fx++[⟨Cg n q y.b,none,0⟩,⟨aac n q,none,0⟩]:=by rw [azM,ar0];simp
  exact ⟨rfl,Wd.dI (X':={ X with turn:=X.turn+1 }) (z':=z) (Ls:=[]) (fA:=A52) (fc:=c53) (fx:=ar1) (sA:=R.sA) (sc:=R.sc) (tA:=R.tA) (tc:=R.tc) hkn bY hrr G hn Bl (dM.turn NG.more) (by rw [hfx];exact aur (iY rfl) (iY rfl)) rfl (by rw [hfx,hdl,List.map_append,G.fly];rfl) (λu h=> .inl h)⟩
 refine zN 22 ?_;by_cases h60:y.b.role=1
 ·refine zN 4 ?_;by_cases h61:1<y.b.ep
  ·refine zN 7 ?_;refine vg (v:=pV kn (13+q*1)) (aZ rfl rfl rfl (fE q Tryz.underlying107 kQ rfl hq)) ?_;refine vg (ah rfl rfl (aG (St.cl 1 S7 rfl (ajg hq)))) ?_
   cases arI:(X.sure q)
   ·refine zN 5 ?_;have uM:=S7.dZ [5,5];have S64:=uM.drew;refine aF 15 S64 [1,0] ?_;refine aI 8 ?_;refine ak (v:=iV (y.b.ep-1)) 8 rfl (S64.mg [1,0]) (λ_ _=>ysu) ?_;refine aI 4 ?_;refine ak (v:= .agg #[iV 5,iV ((n:Nat):Int),iV (-2),iV ((q:Nat):Int),iV (y.b.ep-1),iV 0,iV ((n:Nat):Int),iV 0,iV 0,iV 0,iV 0,iV 0,iV 0,.slice none 0 0,.bool false,iV 0,iV 0,iV 0,iV 0,iV 0,iV 0,iV 0,iV 0]) 13 rfl (S64.mg [1,0]) (λ_ _=>gB) ?_;refine aY 14 ?_;refine j5 14 rfl eQ (gT (x:=⟨UU n q y.b,none,0⟩) S64 oQ) ?_;rintro _ w83 ⟨rfl,A79,c80,azN,azO,CZ⟩;refine ⟨_,rfl,?_⟩;refine aI 2 ?_;refine aK (l':=[]) trivial (nZ ?_);have Jo:=CZ.aU [2];have yQ:=Jo.dZ [6,6,3,3,6,6,6];have hdl:mD n q y.b (X.sure q)=[UU n q y.b]:=by
     unfold mD
     (rw [if_neg (by first | omega | (rintro ⟨h1,h2,h3⟩;first | omega | simp_all)),if_neg (by first | omega | (rintro ⟨h1,h2,h3⟩;first | omega | simp_all)),if_pos (by first | omega | exact ⟨by omega,by omega,by assumption⟩)])<;>rfl
    rw [AJ hX hqt hyb.symm];have hfx:=azO;exact ⟨rfl,Wd.dI (X':={ X with turn:=X.turn+1 }) (z':=z) (Ls:=[]) (fA:=A79) (fc:=c80) (fx:=azN) (sA:=R.sA) (sc:=R.sc) (tA:=R.tA) (tc:=R.tc) hkn bY hrr G hn yQ (dM.turn NG.more) (by rw [hfx];exact oD (iY rfl)) rfl (by rw [hfx,hdl,List.map_append,G.fly];rfl) (λu h=> .inl h)⟩
   refine zN 7 ?_;have FU:=S7.aU [0];have hdl:mD n q y.b (X.sure q)=[]:=by
    unfold mD
    (rw [if_neg (by first | omega | (rintro ⟨h1,h2,h3⟩;first | omega | simp_all)),if_neg (by first | omega | (rintro ⟨h1,h2,h3⟩;first | omega | simp_all)),if_neg (by first | omega | (rintro ⟨h1,h2,h3⟩;first | omega | simp_all))])<;>rfl
   rw [AJ hX hqt hyb.symm];exact ⟨rfl,Wd.dI (X':={ X with turn:=X.turn+1 }) (z':=z) (Ls:=[]) (fA:=R.fA) (fc:=R.fc) (fx:=R.fx) (sA:=R.sA) (sc:=R.sc) (tA:=R.tA) (tc:=R.tc) hkn bY hrr G hn FU (dM.turn NG.more) (λu hu=> .inl hu) rfl (by rw [hdl,G.fly,List.append_nil]) (λu h=> .inl h)⟩
  refine zN 16 ?_;have GY:=S7.aU [0];have hdl:mD n q y.b (X.sure q)=[]:=by
   unfold mD
   (rw [if_neg (by first | omega | (rintro ⟨h1,h2,h3⟩;first | omega | simp_all)),if_neg (by first | omega | (rintro ⟨h1,h2,h3⟩;first | omega | simp_all)),if_neg (by first | omega | (rintro ⟨h1,h2,h3⟩;first | omega | simp_all))])<;>rfl
  rw [AJ hX hqt hyb.symm];exact ⟨rfl,Wd.dI (X':={ X with turn:=X.turn+1 }) (z':=z) (Ls:=[]) (fA:=R.fA) (fc:=R.fc) (fx:=R.fx) (sA:=R.sA) (sc:=R.sc) (tA:=R.tA) (tc:=R.tc) hkn bY hrr G hn GY (dM.turn NG.more) (λu hu=> .inl hu) rfl (by rw [hdl,G.fly,List.append_nil]) (λu h=> .inl h)⟩
 refine zN 20 ?_;have Lx:=S7.aU [0];have hdl:mD n q y.b (X.sure q)=[]:=by
  unfold mD
  (rw [if_neg (by first | omega | (rintro ⟨h1,h2,h3⟩;first | omega | simp_all)),if_neg (by first | omega | (rintro ⟨h1,h2,h3⟩;first | omega | simp_all)),if_neg (by first | omega | (rintro ⟨h1,h2,h3⟩;first | omega | simp_all))])<;>rfl
 rw [AJ hX hqt hyb.symm];exact ⟨rfl,Wd.dI (X':={ X with turn:=X.turn+1 }) (z':=z) (Ls:=[]) (fA:=R.fA) (fc:=R.fc) (fx:=R.fx) (sA:=R.sA) (sc:=R.sc) (tA:=R.tA) (tc:=R.tc) hkn bY hrr G hn Lx (dM.turn NG.more) (λu hu=> .inl hu) rfl (by rw [hdl,G.fly,List.append_nil]) (λu h=> .inl h)⟩
abbrev hMf (kw:Nat):Int->Option Value:=λy=>if y=6 then some (.func (.func 100) #[pV kw 0] #[]) else (λy=>if y=4 then some (.func (.func 99) #[pV kw 0] #[]) else (λy=>if y=3 then some (.func (.func 98) #[pV kw 0] #[]) else (λy=>if y=2 then some (.func (.func 97) #[pV kw 0] #[]) else (λy=>if y=0 then some (.func (.func 96) #[pV kw 0] #[]) else (λ_=>none) y) y) y) y) y
abbrev hMk (kw:Nat):Obj->Prop:=qd tP 3 (hMf kw) 5
theorem Lb (kw:Nat) (w:World):
    Calls Tryz.prog 68 #[pV kw 0] w (λe w'=> ∃ b,e= .returned (.map (some b))/\St w.heap.size w w' [.loc b (hMk kw)]):=by
 have S:=St.start w;refine gK 15 Tryz.func68 ?_;refine cw [0] ?_;refine zN 7 ?_;refine JF (k:=3) S (wn rfl) rfl rfl rfl ?_;intro b1 w2 S3;refine zQ ?_;refine vv Jb ?_;refine kG (e:=157) 0 S3 (wn rfl) rfl rfl rfl rfl rfl rfl Tryz.underlying3 Tryz.underlying158 dQ dQ ?_;intro w4 S5;refine zQ ?_;refine vv Jb ?_;refine kG (e:=157) 0 S5 (wn rfl) rfl rfl rfl rfl rfl rfl Tryz.underlying3 Tryz.underlying158 dQ dQ ?_;intro w6 S7;refine zQ ?_;refine vv Jb ?_;refine kG (e:=157) 0 S7 (wn rfl) rfl rfl rfl rfl rfl rfl Tryz.underlying3 Tryz.underlying158 dQ dQ ?_;intro w8 S9;refine zQ ?_;refine vv Jb ?_;refine kG (e:=157) 0 S9 (wn rfl) rfl rfl rfl rfl rfl rfl Tryz.underlying3 Tryz.underlying158 dQ dQ ?_;intro Zo rJ;refine zQ ?_;refine vv Jb ?_;refine kG (e:=157) 0 rJ (wn rfl) rfl rfl rfl rfl rfl rfl Tryz.underlying3 Tryz.underlying158 dQ dQ ?_;intro w12 za;refine zN 6 ?_;exact ⟨b1,rfl,za⟩
end
end Go.Proofs.YtcomidffhiilcaaGreatDoor
