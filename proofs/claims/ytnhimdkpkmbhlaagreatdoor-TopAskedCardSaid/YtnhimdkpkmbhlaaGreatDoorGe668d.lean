import Derived.Test.YtnhimdkpkmbhlaaGreatDoorG33f52
import Derived.Test.YtnhimdkpkmbhlaaGreatDoorGe3f7d
set_option maxRecDepth 100000
set_option maxHeartbeats 8000000
set_option linter.unusedSimpArgs false
set_option linter.unusedVariables false
namespace Go.Proofs.YtnhimdkpkmbhlaaGreatDoor
open ChangeShapes WideShapes RowKit
def tO (cs:List Ac) (num:Int) (op:Ev) (nd:Int) (q:Nat):Prop:=0<=num/\ ∃ a,cs[num.toNat]? =some a/\a.op=op/\a.nd=nd/\a.qu=((q:Nat):Int)
def Tv (cs:List Ac) (l:iD):Prop:=l.kd=0->0<=l.tg/\tO cs l.num l.op l.tg l.q
def SvA (cs:List Ac) (s:dI):Prop:=s.num<0\/tO cs s.num s.op ((s.nd:Nat):Int) s.q
structure NdA (cs:List Ac) (n:Nat) (x:Nd):Prop where
 lS: ∀ l∈x.inbox,Tv cs l/\(l.kd=0->l.tg=((n:Nat):Int))
 qN: ∀ q evs op num a,x.pend=some (.serve q evs op num a)->tO cs num op ((n:Nat):Int) q
structure aW (cs:List Ac) (m:Cl):Prop where
 ah: ∀ n,NdA cs n (m.ah n)
 fly: ∀ l∈m.fly,Tv cs l
 aP: ∀ s∈m.aP,SvA cs s
 calls:m.calls=cs.length
section
variable {cs:List Ac} {m w:Cl} {n q:Nat} {x y:Nd} {l:iD} {op:Ev} {num:Int} {a:iT} {ac:Ac}
theorem Tv.not (h:l.kd≠0):Tv cs l:=λh1=>absurd h1 h
theorem NdA.same (h:NdA cs n x) (hi:y.inbox=x.inbox) (hp:y.pend=x.pend):NdA cs n y:=⟨by rw [hi];exact h.lS,by rw [hp];exact h.qN⟩
theorem NdA.pend (h:NdA cs n x) (hi:y.inbox=x.inbox) (hp: ∀ q evs op num a,y.pend=some (.serve q evs op num a)->tO cs num op ((n:Nat):Int) q):NdA cs n y:=⟨by rw [hi];exact h.lS,hp⟩
theorem aW.put (h:aW cs w) (hx:NdA cs n x):aW cs (w.put n x):=
 ⟨λj=>by
  by_cases e:j=n
  ·subst e;rw [show (w.put j x).ah j=x from upd_same _ _ _];exact hx
  rw [show (w.put n x).ah j=w.ah j from upd_ne e];exact h.ah j,h.fly,h.aP,h.calls⟩
theorem aW.aY (h:aW cs w) {b:bJ}:aW cs (w.aY n q b):=h.put ((h.ah n).same rfl rfl)
theorem aW.send (h:aW cs w) (hl:Tv cs l):aW cs (w.send l):=
 ⟨h.ah,λk hk=>(List.mem_append.1 hk).elim (h.fly k) λhk=>by rw [List.mem_singleton] at hk;subst hk;exact hl,h.aP,h.calls⟩
theorem aW.tell (h:aW cs w) (hs:num<0\/tO cs num op ((n:Nat):Int) q):aW cs (w.tell n q op a num):=
 ⟨h.ah,h.fly,λs hk=>(List.mem_append.1 hk).elim (h.aP s) λhk=>by rw [List.mem_singleton] at hk;subst hk;exact hs,h.calls⟩
theorem aW.brk (h:aW cs w):aW cs (w.tell n q op a (-1)):=h.tell (.inl (by decide))
theorem aW.done (h:aW cs w) (hc:tO cs num op ((n:Nat):Int) q):aW cs (w.done n q op num a):=by
 unfold Cl.done
 split
 ·exact (h.tell (.inr hc)).send (.not (by show (1:Int)≠0;decide))
 exact h.send (.not (by show (1:Int)≠0;decide))
theorem vZ {rs:List dM} (h:y.write rs=some x):x.inbox=y.inbox/\x.pend=y.pend:=by
 unfold Nd.write at h;obtain ⟨d,_,rfl⟩:=Option.map_eq_some_iff.1 h;exact ⟨rfl,rfl⟩
theorem aW.have_ (h:aW cs w):aW cs (w.have_ n q):=h.send (.not (by show (3:Int)≠0;decide))
theorem aW.part (h:aW cs w) {at_:Int}:aW cs (w.part n q at_):=by
 unfold Cl.part
 split
 ·exact h
 exact h.send (.not (by show (4:Int)≠0;decide))
theorem aW.serve (h:aW cs w) (hc:tO cs l.num l.op ((n:Nat):Int) l.q):aW cs (w.serve n l):=by
 unfold Cl.serve
 split
 ·exact h.done hc
 split
 ·exact h.done hc
 rename_i x hx
 exact h.put ((h.ah n).pend (vZ hx).1 λq evs op num a e=>by cases e;exact hc)
theorem aW.LU (h:aW cs w) {rs:List dM} {p:fP} (hx:(w.ah n).write rs=some x) (hp: ∀ q evs op num a,p≠ .serve q evs op num a):aW cs (w.put n { x with pend:=some p }):=
 h.put ((h.ah n).pend (vZ hx).1 λq evs op num a e=>absurd (Option.some.inj e) (hp q evs op num a))
theorem aW.offered (h:aW cs w):aW cs (w.offered n l):=by
 unfold Cl.offered
 split
 ·exact h
 split
 ·exact h.have_
 split
 ·exact h
 rename_i x hx
 exact h.LU hx (λ_ _ _ _ _ e=>by cases e)
theorem aW.got (h:aW cs w):aW cs (w.got n l):=by
 unfold Cl.got
 split
 ·exact h
 split
 ·exact h.have_
 split
 ·exact h
 split
 ·exact h
 rename_i x hx
 exact h.LU hx (λ_ _ _ _ _ e=>by cases e)
theorem aW.caught (h:aW cs w):aW cs (w.caught n l):=by
 unfold Cl.caught
 split
 ·exact h
 split
 ·exact h
 split
 ·exact h.aY.part
 split
 ·exact h
 rename_i x hx
 exact h.LU hx (λ_ _ _ _ _ e=>by cases e)
theorem aW.learnt (h:aW cs w):aW cs (w.learnt n l):=by
 unfold Cl.learnt
 split
 ·exact h.put ((h.ah n).same rfl rfl)
 split
 ·exact h.put ((h.ah n).same rfl rfl)
 rename_i x hx
 exact h.put ((h.ah n).pend (vZ hx).1 λq evs op num a e=>by cases e)
theorem aW.handle (h:aW cs w) (hl:Tv cs l) (ht:l.kd=0->l.tg=((n:Nat):Int)):aW cs (w.handle n l):=by
 unfold Cl.handle
 split
 ·rename_i hk
  have:=(hl hk).2;rw [ht hk] at this;exact h.serve this
 split
 ·exact h.offered
 split
 ·exact h.caught
 split
 ·exact h.got
 exact h.learnt
theorem aW.drain: ∀ (ls:List iD) {w:Cl},aW cs w->(∀ l∈ls,Tv cs l/\(l.kd=0->l.tg=((n:Nat):Int)))->aW cs (Cl.drain n ls w)
 | [],w,h,_=>h
 | l::r,w,h,hl=>by
  have hr: ∀ l∈r,Tv cs l/\(l.kd=0->l.tg=((n:Nat):Int)):=λk hk=>hl k (List.mem_cons_of_mem _ hk);have h1:aW cs ((w.put n { w.ah n with inbox:=r }).handle n l):=aW.handle (h.put ⟨hr,(h.ah n).qN⟩) (hl l List.mem_cons_self).1 (hl l List.mem_cons_self).2;unfold Cl.drain
  split
  ·exact aW.drain r h1 hr
  exact h1
theorem amr {b:bJ} {s:Bool}: ∀ l∈jV n q b s,l.kd≠0:=by
 intro l hl;unfold jV at hl
 rcases List.mem_append.1 hl with hl | hl
 ·rcases List.mem_append.1 hl with hl | hl
  ·split at hl
   ·rw [List.mem_singleton] at hl;subst hl;show (2:Int)≠0;decide
   cases hl
  split at hl
  ·rw [List.mem_singleton] at hl;subst hl;show (5:Int)≠0;decide
  cases hl
 split at hl
 ·rw [List.mem_singleton] at hl;subst hl;show (5:Int)≠0;decide
 cases hl
theorem aW.FB (h:aW cs w):aW cs (w.FB n):=by
 have h1:aW cs (w.put n { w.ah n with turn:=(w.ah n).turn+1 }):=h.put ((h.ah n).same rfl rfl);exact ⟨h1.ah,λk hk=>(List.mem_append.1 hk).elim (h.fly k) λhk=> .not (amr k hk),h1.aP,h1.calls⟩
theorem aW.uS (h:aW cs w) {p:fP} (hp: ∀ q evs op num a,p= .serve q evs op num a->tO cs num op ((n:Nat):Int) q):aW cs (w.uS n p):=by
 cases p with
 | serve q evs op num a=>exact h.aY.done (hp _ _ _ _ _ rfl)
 | begun q b=>exact h.aY.have_
 | got q b last=>
  show aW cs (if last=true then ((w.aY n q b).put n { (w.aY n q b).ah n with sure:=upd (w.ah n).sure q false }).tell n q aS eH (-1) else (w.aY n q b).have_ n q)
  split
  ·exact aW.brk (aW.put h.aY (x:={ (w.aY n q b).ah n with sure:=upd (w.ah n).sure q false }) ((h.aY.ah n).same rfl rfl))
  exact h.aY.have_
 | iU q b at_=>exact h.aY.part
 | forget q b=>exact h.aY
theorem aW.step (h:aW cs w):aW cs (w.step n):=by
 unfold Cl.step
 split
 ·exact h
 split
 ·rename_i p hp
  exact aW.uS (h.put (x:={ w.ah n with syn:=(w.ah n).data.length,pend:=none }) ((h.ah n).pend rfl λq evs op num a e=>by cases e)) λq evs op num a e=>(h.ah n).qN q evs op num a (by rw [hp,e])
 have h1:=aW.drain (n:=n) (w.ah n).inbox h (h.ah n).lS
 split
 ·exact h1.FB
 exact h1
theorem aW.come (h:aW cs w) (hl:Tv cs l):aW cs (w.come l):=by
 unfold Cl.come
 split
 ·exact ⟨h.ah,h.fly,h.aP,h.calls⟩
 split
 ·split
  ·exact ⟨h.ah,λk hk=>(List.mem_append.1 hk).elim (h.fly k) λhk=>by rw [List.mem_singleton] at hk;subst hk;exact .not (by show (6:Int)≠0;decide),h.aP,h.calls⟩
  exact ⟨h.ah,h.fly,h.aP,h.calls⟩
 split
 ·refine h.put ⟨λk hk=>(List.mem_append.1 hk).elim ((h.ah _).lS k) λhk=>?_,(h.ah _).qN⟩;rw [List.mem_singleton] at hk;subst hk;exact ⟨hl,λe=>(Int.toNat_of_nonneg (hl e).1).symm⟩
 exact h
theorem aW.pick (h:aW cs w) {at_:Nat} {c s:Bool}:aW cs (w.pick at_ c s):=by
 unfold Cl.pick
 split
 ·exact h
 rename_i l hl
 have h1:aW cs (if s=true then w else { w with fly:=w.fly.eraseIdx (at_ % w.fly.length) }):=by
  split
  ·exact h
  exact ⟨h.ah,λk hk=>h.fly k (List.mem_of_mem_eraseIdx hk),h.aP,h.calls⟩
 dsimp only
 split
 ·exact h1.come (h.fly l (List.mem_of_getElem? hl))
 exact h1
theorem aW.comes: ∀ (ls:List iD) {w:Cl},aW cs w->(∀ l∈ls,Tv cs l)->aW cs (ls.foldl Cl.come w)
 | [],_,h,_=>h
 | l::r,_,h,hl=>aW.comes r (h.come (hl l List.mem_cons_self)) λk hk=>hl k (List.mem_cons_of_mem _ hk)
theorem aW.all (h:aW cs w):aW cs w.all:=aW.comes w.fly ⟨h.ah,λk hk=>(by cases hk),h.aP,h.calls⟩ h.fly
theorem aW.make (h:aW cs w):aW cs (w.make n q):=by
 unfold Cl.make
 split
 ·exact h
 split
 ·exact h
 split
 ·exact h
 rename_i x hx
 have h1:=h.put (n:=n) (x:={ x with syn:=x.data.length,bs:=upd x.bs q (iZ ((w.ah n).bs q) 1).1 }) ((h.ah n).same (vZ hx).1 (vZ hx).2);exact ⟨h1.ah,h1.fly,h1.aP,h1.calls⟩
theorem aW.move (h:aW cs w) {tg:Int}:aW cs (w.move q tg):=by
 unfold Cl.move
 split
 ·exact h
 split
 ·exact h.aY
 exact h
theorem aW.recovered {evs:List Ev} {an:List iT}: ∀ (ls:List Nat) {w:Cl},aW cs w->aW cs (w.recovered n q evs an ls)
 | [],_,h=>h
 | i::r,w,h=>by
  unfold Cl.recovered;exact aW.recovered r h.brk
theorem aW.recover (h:aW cs w):aW cs (w.recover n q):=by
 unfold Cl.recover
 split
 ·exact h.brk
 exact aW.recovered _ h
theorem aW.woken {bs:Nat->bJ}: ∀ (ls:List Nat) {w:Cl},aW cs w->aW cs (Cl.woken n bs ls w)
 | [],_,h=>h
 | q::r,w,h=>by
  unfold Cl.woken
  split
  ·exact aW.woken r h
  exact aW.woken r h.recover.aY.brk
theorem aW.start (h:aW cs w):aW cs (w.start n):=by
 unfold Cl.start
 split
 ·exact h
 split
 ·exact h
 exact aW.woken _ (h.put ⟨λl hl=>(by cases hl),λ_ _ _ _ _ e=>(by cases e)⟩)
theorem aW.crash (h:aW cs w) {kp:Int}:aW cs (w.crash n kp):=by
 unfold Cl.crash
 split
 ·exact h.put ⟨λl hl=>(by cases hl),λ_ _ _ _ _ e=>(by cases e)⟩
 exact h
theorem tO.more {nd:Int} (h:tO cs num op nd q):tO (cs++[ac]) num op nd q:=by
 obtain ⟨h1,b,h2,h3⟩:=h;exact ⟨h1,b,by rw [List.getElem?_append_left (List.getElem?_eq_some_iff.1 h2).1];exact h2,h3⟩
theorem Tv.more (h:Tv cs l):Tv (cs++[ac]) l:=λe=>⟨(h e).1,(h e).2.more⟩
def lV (a:Ac):Bool:=decide (a.kd=2)
theorem aW.act (h:aW cs m) (ha:Ke ac):aW (if ac.kd=2 then cs++[ac] else cs) (m.act ac):=by
 obtain ⟨a1,a2,a3,a4,a5,a6⟩:=ha;unfold Cl.act;by_cases k2:ac.kd=2
 ·rw [if_pos k2,if_neg (by omega),if_pos k2];refine ⟨λn=>⟨λl hl=>⟨((h.ah n).lS l hl).1.more,((h.ah n).lS l hl).2⟩,λq evs op num a e=>((h.ah n).qN q evs op num a e).more⟩,λl hl=>?_,λs hs=>(h.aP s hs).imp id tO.more,by rw [List.length_append];show m.calls+1=_;rw [h.calls];rfl⟩
  rcases List.mem_append.1 hl with hl | hl
  ·exact (h.fly l hl).more
  rw [List.mem_singleton] at hl;subst hl;refine λ_=>⟨by show 0<=ac.nd;omega,by show (0:Int)<=((m.calls:Nat):Int);omega,ac,?_,rfl,rfl,by show ac.qu=((ac.qu.toNat:Nat):Int);omega⟩
  show (cs++[ac])[((m.calls:Nat):Int).toNat]? =some ac
  rw [Int.toNat_natCast,h.calls,List.getElem?_append_right (Nat.le_refl _),Nat.sub_self];rfl
 rw [if_neg k2]
 split
 ·exact h.make
 split; · exact h.step
 split; · exact h.pick
 split; · exact h.all
 split; · exact h.crash
 split; · exact h.start
 exact h.move
theorem aW.run: ∀ (l:List Ac) {cs:List Ac} {m:Cl},aW cs m->(∀ a∈l,Ke a)->aW (cs++l.filter lV) (m.run l)
 | [],cs,m,h,_=>by
  rw [show ([]:List Ac).filter lV=[] from rfl,List.append_nil];exact h
 | a::l,cs,m,h,ha=>by
  have h1:=aW.run l (h.act (ha a List.mem_cons_self)) λx hx=>ha x (List.mem_cons_of_mem _ hx);rw [List.filter_cons];by_cases e:a.kd=2
  ·rw [if_pos e,List.append_assoc] at h1;rw [if_pos (by unfold lV;exact decide_eq_true e)];exact h1
  rw [if_neg e] at h1;rw [if_neg (by unfold lV;rw [decide_eq_false e];decide)];exact h1
theorem ams:aW [] iX:=⟨λ_=>⟨λl hl=>(by cases hl),λ_ _ _ _ _ e=>(by cases e)⟩,λl hl=>(by cases hl),λs hs=>(by cases hs),rfl⟩
end
theorem MZ: ∀ r,(wz r).filter lV=[]
 | 0=>rfl
 | r+1=>by
  rw [Iw,List.filter_append,List.filter_append,MZ r];rfl
theorem O5 (s:List Ac) (r:Nat):(jv s r).filter lV=s.filter lV:=by
 unfold jv;rw [List.filter_append,List.filter_append,MZ,show (starts 5).filter lV=[] from rfl,List.append_nil,List.append_nil]
theorem aef (gs:List Gr) (m r:Nat) (cr:Bool):aW ((bG gs m cr).filter lV) (iX.run (jv (bG gs m cr) r)):=by
 have:=aW.run (jv (bG gs m cr) r) ams λa ha=>Oh (pW gs m cr r a ha);rwa [O5,List.nil_append] at this
section
variable {l:List Ac} {i:Nat} {a:Ac}
theorem asw (h:l[i]? =some a) (hq:a.kd=2):(l.take i).filter lV++[a]=(l.take (i+1)).filter lV:=by
 rw [List.take_add_one,h,List.filter_append];simp [lV,hq]
theorem ayy (h:l[i]? =some a) (hq: ¬ a.kd=2):(l.take i).filter lV=(l.take (i+1)).filter lV:=by
 rw [List.take_add_one,h,List.filter_append];simp [lV,hq]
end
theorem O6 {A:Option Addr} {c:Nat} {l cs:List Ac} {w:World} (hv:l.filter lV=cs) (hl:l.length<=1000) (h:Rd w w.heap.size 11 A l.length (l.flatMap Ac.cells)):
    Calls Tryz.prog 17 #[.slice A l.length c] w (λe w'=> ∃ A' c',e= .returned (.slice A' cs.length c')/\St w.heap.size w w' [.own 69 11 (.slice A' cs.length c') cs.length (cs.flatMap Ac.cells)]):=by
 have S:=(St.start w).bU h;refine gq 25 Tryz.func17 ?_;refine cw [0] ?_;refine zN 17 ?_;have S1:=S.nil 69 11;refine cZ (X:=Nat×Nat×(Option Addr)×Nat×(List Ac)) (λxv=>[(0,.slice A l.length c),(2,.slice none 0 0),(3,.slice xv.2.2.1 xv.2.1 xv.2.2.2.1),(4,.int .i64 ((xv.1:Nat):Int))]) (λxv wr=>(xv.1<=l.length)/\(xv.2.1<=xv.1)/\(xv.2.2.2.2=(l.take xv.1).filter lV)/\St w.heap.size w wr [.own 69 11 (.slice xv.2.2.1 xv.2.1 xv.2.2.2.1) xv.2.1 ((xv.2.2.2.2).flatMap Ac.cells),.rd 11 A l.length ((l).flatMap Ac.cells)]) (λxv=>l.length-xv.1) (0,0,none,0,[]) ?_ ?_ ?_
 ·exact ⟨Nat.zero_le _,Nat.zero_le _,rfl,S1⟩
 ·exact ⟨rfl,rfl,rfl,rfl,trivial⟩
 rintro ⟨i,k,Ab,cb,ys⟩ w2 ⟨hi4,hi5,Ip,S3⟩
 try dsimp only at hi4 hi5 Ip S3
 refine bq (l':=[(0,.slice A l.length c),(2,.slice none 0 0),(3,.slice Ab k cb),(4,.int .i64 ((i:Nat):Int))]) ⟨rfl,rfl,rfl,rfl,trivial⟩ (aH (aH (aC (vm ?_))));refine zN 2 ?_;by_cases h7:((i:Nat):Int)< ((l.length:Nat):Int)
 ·refine zN 12 ?_;obtain ⟨b8,o9,rfl⟩:=Rd.addr (St.rd 1 S3 rfl) (by omega);obtain ⟨x10,Hy⟩:=zL i (St.rd 1 S3 rfl) (by omega);refine vv (jI i) ?_;refine zQ ?_;refine vv (aj rfl rfl (av Tryz.underlying3 rfl (Rd.xH (i:=0) (St.rd 1 S3 rfl) (aX (enc:=Ac.cells) (sz:=11) (λ_=>rfl) Hy rfl)))) ?_;by_cases h12:x10.kd=2
  ·refine zN 8 ?_;refine vv (jI i) ?_;refine vv (aj rfl rfl (aA (cs:=Ac.cells x10) Tryz.underlying69 rfl kP rfl (Rd.uW (St.rd 1 S3 rfl) (λ_ _ h=>aX (enc:=Ac.cells) (sz:=11) (λ_=>rfl) Hy h)))) ?_;refine Oo S3 ?_;intro b13 MB iH;refine dw (news:=[.int .i64 x10.kd,.int .i64 x10.nd,.int .i64 x10.qu,.int .i64 x10.at_,.int .i64 x10.kp,.int .i64 x10.ek,.int .i64 x10.ep,.int .i64 x10.ei,.int .i64 x10.eb,.int .i64 x10.eh,.int .i64 x10.en]) (xs':=(ys++[x10]).flatMap Ac.cells) 1 iH (wn rfl) rfl rfl rfl rfl rfl rfl (St.lM (xs:=[.int .i64 x10.kd,.int .i64 x10.nd,.int .i64 x10.qu,.int .i64 x10.at_,.int .i64 x10.kp,.int .i64 x10.ek,.int .i64 x10.ep,.int .i64 x10.ei,.int .i64 x10.eb,.int .i64 x10.eh,.int .i64 x10.en]) 0 iH rfl rfl rfl) Tryz.underlying23 Ae rfl (by decide) (bX rfl) (by simp only [maxLen];omega) (by omega) (iJ (enc:=Ac.cells) rfl rfl) ?_;intro A16 c17 DK aoC aoD jU;refine zN 6 ?_;refine vv (v:= .int .i64 ((i+1:Nat):Int)) gu ?_;refine zN 2 ?_;have iY:=jU.aU [0];refine aM (i+1,k+1,A16,c17,ys++[x10]) ?_ ⟨rfl,rfl,rfl,rfl,trivial⟩ (by first | omega | (dsimp only;omega));exact ⟨(by dsimp only;omega),(by dsimp only;omega),(by dsimp only;rw [Ip];exact asw Hy h12),iY⟩
  refine zN 9 ?_;refine vv (v:= .int .i64 ((i+1:Nat):Int)) gu ?_;refine zN 2 ?_;refine aM (i+1,k,Ab,cb,ys) ?_ ⟨rfl,rfl,rfl,rfl,trivial⟩ (by first | omega | (dsimp only;omega));exact ⟨(by dsimp only;omega),(by dsimp only;omega),(by dsimp only;rw [Ip];exact ayy Hy h12),S3⟩
 refine zN 17 ?_;have hys:=(S3.own 0 rfl).1;rw [gQ (sz:=11) (λ_=>rfl)] at hys;obtain rfl:k=ys.length:=by omega
 have hyl:=Ip;rw [List.take_of_length_le (by omega)] at hyl;rw [<-hyl] at hv;subst hv;have nP:=S3.aU [1];exact ⟨Ab,cb,rfl,nP⟩
theorem WR {gs:List Gr} {s F:List Ac} {A:Option Addr} {c:Nat} {w:World} (hs:s=bG gs 120 true) (hF:F=jv s 40) (hg: ∀ g∈gs,g.ok) (h0: ∀ a∈F,bV a=0) (hsl:s.length<=1000) (XG:F.length<=1000) (AP:(iX.run F).aP.length<=1000000000) (hu:Uk w.heap.size w) (h:Rd w w.heap.size 5 A gs.length (gs.flatMap Gr.cells)) {cs:List Ac} (hcs:s.filter lV=cs) (hI:aW cs (iX.run F)):
    Calls Tryz.prog 8 #[.slice A gs.length c] w (λe w'=>e= .returned (.bool true)/\Below w.heap.size w w'):=by
 have S:=(St.start w).bU h;refine gq 80 Tryz.func8 ?_;refine cw [0] ?_;refine zN 8 ?_;refine dz TA (tN (m:=120) hs (by decide) hg _ ((St.rd 0 S rfl))) ?_;rintro _ w3 ⟨A1,c2,rfl,T5⟩;refine ⟨_,rfl,?_⟩;have S4:=S.ext T5 rfl;refine zN 6 ?_;refine dz XM (GL (r:=40) hF (by decide) hsl _ ((St.ord 0 S4 rfl))) ?_;rintro _ w8 ⟨A6,c7,rfl,Oy⟩;refine ⟨_,rfl,?_⟩;have S9:=S4.ext Oy rfl;refine dz PS (Ol h0 XG S9 hu (Ro.own (List.mem_of_getElem? (i:=0) rfl))) ?_;rintro _ Cc ⟨x,ru,rfl,Iz,kE⟩;refine ⟨_,rfl,?_⟩;have hX:=Iz;have D6: ∀ f∈ru,f∈(ru++[.own 69 11 (.slice A6 F.length c7) F.length ((F).flatMap Ac.cells),.own 69 11 (.slice A1 s.length c2) s.length ((s).flatMap Ac.cells),.rd 5 A gs.length ((gs).flatMap Gr.cells)]):=λf h=>List.mem_append_left _ h;have hRs:Ro (ru++[.own 69 11 (.slice A6 F.length c7) F.length ((F).flatMap Ac.cells),.own 69 11 (.slice A1 s.length c2) s.length ((s).flatMap Ac.cells),.rd 5 A gs.length ((gs).flatMap Gr.cells)]) 11 A1 s.length (s.flatMap Ac.cells):=Ro.own (c:=c2) (List.mem_append_right _ (List.mem_of_getElem? (i:=1) rfl));refine zN 3 ?_;refine fJ kE Fb ?_;intro b15 w16 jM;refine stA 0 jM sH ?_;intro DK jU;refine zN 6 ?_;refine dz aFc (O6 hcs hsl (hRs.rd jU (memT 1 rfl dS))) ?_;rintro _ w22 ⟨A20,c21,rfl,T24⟩;refine ⟨_,rfl,?_⟩;have nP:=jU.ext T24 rfl;change St _ _ _ ((.own 69 11 (.slice A20 cs.length c21) cs.length ((cs).flatMap Ac.cells))::_::(ru++[.own 69 11 (.slice A6 F.length c7) F.length ((F).flatMap Ac.cells),.own 69 11 (.slice A1 s.length c2) s.length ((s).flatMap Ac.cells),.rd 5 A gs.length ((gs).flatMap Gr.cells)])) at nP;refine zN 10 ?_;have hsr:x.sn<=1000000000:=by rw [hX.sn];exact AP
 refine cZ (X:=Nat) (λxv=>[(2,.bool false),(4,.pointer (some ⟨b15,0,none⟩)),(5,.bool true),(6,.slice A20 cs.length c21),(7,.int .i64 ((xv:Nat):Int))]) (λxv wr=>(xv<=x.sn)/\St w.heap.size w wr ((.own 69 11 (.slice A20 cs.length c21) cs.length ((cs).flatMap Ac.cells))::(.blk b15 #[.int .i64 ((x.fl:Nat):Int),.bool (x.U 0),.bool (x.U 1),.bool (x.U 2),.bool (x.U 3),.bool (x.U 4),.int .i64 x.d.p0.node,.int .i64 x.d.p0.epoch,.int .i64 x.d.p1.node,.int .i64 x.d.p1.epoch,.int .i64 x.d.p2.node,.int .i64 x.d.p2.epoch,.int .i64 x.d.p3.node,.int .i64 x.d.p3.epoch,.slice x.BA 5 x.bc,.slice x.sA x.sn x.sc,.slice x.tA x.tn x.tc,.int .i64 ((x.calls:Nat):Int)] 35)::(ru++[.own 69 11 (.slice A6 F.length c7) F.length ((F).flatMap Ac.cells),.own 69 11 (.slice A1 s.length c2) s.length ((s).flatMap Ac.cells),.rd 5 A gs.length ((gs).flatMap Gr.cells)]))) (λxv=>x.sn-xv) (0) ?_ ?_ ?_
 ·exact ⟨Nat.zero_le _,nP⟩
 ·exact ⟨rfl,rfl,rfl,rfl,rfl,trivial⟩
 rintro i w25 ⟨hi27,kJ⟩
 try dsimp only at hi27 kJ
 refine bq (l':=[(2,.bool false),(4,.pointer (some ⟨b15,0,none⟩)),(5,.bool true),(6,.slice A20 cs.length c21),(7,.int .i64 ((i:Nat):Int))]) ⟨rfl,rfl,rfl,rfl,rfl,trivial⟩ (aH (aH (aC (vm ?_))));refine zN 3 ?_;by_cases h28:((i:Nat):Int)< ((x.sn:Nat):Int)
 ·refine zN 9 ?_;obtain ⟨y,hy⟩: ∃ y,(iX.run F).aP[i]? =some y:=⟨_,List.getElem?_eq_getElem (by rw [<-hX.sn];omega)⟩;have hlw:=hI.aP y (List.mem_of_getElem? hy);obtain ⟨bS,oS,hSa⟩:=yO hX.aP kJ (memT 2 rfl D6) (by omega);refine zN 4 ?_;refine vv (v:= .pointer (some ⟨bS,oS+i*14,none⟩)) (aJ rfl rfl rfl (jr i hSa Tryz.underlying32 iN rfl (by omega))) ?_;refine vv (v:= .agg #[.int .i64 ((y.nd:Nat):Int),.int .i64 ((y.q:Nat):Int),.int .i64 y.ep,.int .i64 y.op.kind,.int .i64 y.op.producer,.int .i64 y.op.id,.int .i64 y.op.body,.int .i64 y.op.aG,.int .i64 y.op.hno,.int .i64 y.ans.code,.int .i64 y.ans.dK,.int .i64 y.ans.hno,.int .i64 y.ans.body,.int .i64 y.num]) (aj rfl rfl (aA (cs:=dI.cells y) Tryz.underlying60 rfl iN rfl (λj u hu=>by rw [Nat.add_assoc];exact rA hX.aP hSa kJ (memT 2 rfl D6) (aX (enc:=dI.cells) (sz:=14) (k:=i) (λ_=>rfl) hy hu)))) ?_;refine je (V:=λb=> .pointer (some ⟨b,0,none⟩)) (row:= #[.int .i64 0,.int .i64 0,.int .i64 0,.int .i64 0,.int .i64 0,.int .i64 0,.int .i64 0,.int .i64 0,.int .i64 0,.int .i64 0,.int .i64 0,.int .i64 0,.int .i64 0,.int .i64 0]) (t:=60) kJ (wn rfl) rfl rfl (dZ rfl (Tryz.zeroValue60 _) rfl) ?_;intro Qe Xe ni;refine stA 0 ni iN ?_;intro w32 oG;refine zQ ?_;refine KA (vv (fO 13 KQ) ?_);refine zQ ?_;by_cases hng:y.num<0
  ·refine zN 10 ?_;refine vv (v:= .int .i64 ((i+1:Nat):Int)) gu ?_;refine zN 2 ?_;have mg:=oG.aU [0];refine aM (i+1) ?_ ⟨rfl,rfl,rfl,rfl,rfl,trivial⟩ (by first | omega | (dsimp only;omega));exact ⟨(by omega),mg⟩
  refine zN 6 ?_;obtain ⟨hn0,a,ha,hao,han,haq⟩:=hlw.resolve_left hng;obtain ⟨j,hj⟩:=Int.eq_ofNat_of_zero_le hn0;rw [hj,Int.toNat_natCast] at ha;have hjl:=(List.getElem?_eq_some_iff.1 ha).1;obtain ⟨b35,o36,rfl⟩:=Rd.addr (St.ord 1 oG rfl) (by omega);refine zQ ?_;refine dR oG mixed (by kernel_rfl) ?_;refine uv (v:= .pointer (some ⟨Qe,13,none⟩)) (λ_ _=>fO _ KQ) ?_;refine zN 6 ?_;refine ug (v:= .pointer (some ⟨Qe,13,none⟩)) (λ_ _=>fO _ KQ) ?_;refine zQ ?_;refine ug (λ_ _=>jI j) ?_;refine zQ ?_;refine ug (v:= .agg #[.int .i64 a.ek,.int .i64 a.ep,.int .i64 a.ei,.int .i64 a.eb,.int .i64 a.eh,.int .i64 a.en]) (λ_ apz=>(aj rfl rfl (aA (cs:=[.int .i64 a.ek,.int .i64 a.ep,.int .i64 a.ei,.int .i64 a.eb,.int .i64 a.eh,.int .i64 a.en]) Tryz.underlying55 rfl iC rfl (Rd.rg3 (x:=5) (m:=6) (L:=Ac.cells a) (St.ord 1 apz rfl) (λ_ _ h=>aX (enc:=Ac.cells) (sz:=11) (λ_=>rfl) ha h) rfl)))) ?_;refine ug (v:= .pointer (some ⟨Qe,3,none⟩)) (λ_ _=>fO _ iL) ?_;refine ug (v:= .agg #[.int .i64 y.op.kind,.int .i64 y.op.producer,.int .i64 y.op.id,.int .i64 y.op.body,.int .i64 y.op.aG,.int .i64 y.op.hno]) (λ_ aFR=>(aj rfl rfl (aA (cs:=[.int .i64 y.op.kind,.int .i64 y.op.producer,.int .i64 y.op.id,.int .i64 y.op.body,.int .i64 y.op.aG,.int .i64 y.op.hno]) Tryz.underlying55 rfl iC rfl (St.rg 0 aFR rfl (kW (x:=3) (m:=6) rfl))))) ?_;refine ug (v:= .bool false) (λ_ _=>(aR rfl rfl rfl (xO (by kernel_rfl) (aaQ hao _)))) ?_;refine zN 3 ?_;refine ug (v:= .pointer (some ⟨Qe,13,none⟩)) (λ_ _=>fO _ KQ) ?_;refine zQ ?_;refine ug (λ_ _=>jI j) ?_;refine zQ ?_;refine ug (v:= .int .i64 a.nd) (λ_ TJ=>(aj rfl rfl (av Tryz.underlying3 rfl (Rd.xH (i:=1) (St.ord 1 TJ rfl) (aX (enc:=Ac.cells) (sz:=11) (λ_=>rfl) ha rfl))))) ?_;refine ug (v:= .pointer (some ⟨Qe,0,none⟩)) (λ_ _=>fO _ Kz) ?_;refine zN 5 ?_;refine ug (v:= .pointer (some ⟨Qe,13,none⟩)) (λ_ _=>fO _ KQ) ?_;refine zQ ?_;refine ug (λ_ _=>jI j) ?_;refine zQ ?_;refine ug (v:= .int .i64 a.qu) (λ_ aFS=>(aj rfl rfl (av Tryz.underlying3 rfl (Rd.xH (i:=2) (St.ord 1 aFS rfl) (aX (enc:=Ac.cells) (sz:=11) (λ_=>rfl) ha rfl))))) ?_;refine ug (v:= .pointer (some ⟨Qe,1,none⟩)) (λ_ _=>fO _ ae0) ?_;refine zN 3 ?_;refine fC λw75 Hr=>?_;refine zN 7 ?_;refine vv (v:= .int .i64 ((i+1:Nat):Int)) gu ?_;refine zN 2 ?_;have DL:=Hr.aU [0];refine aM (i+1) ?_ ⟨rfl,rfl,rfl,rfl,rfl,trivial⟩ (by first | omega | (dsimp only;omega));exact ⟨(by omega),DL⟩
 refine zN 10 ?_;have hcc:x.calls=cs.length:=hX.calls.trans hI.calls;refine zN 14 ?_;exact ⟨rfl,kJ.low⟩
theorem O7 (W:World) (hu:Uk W.heap.size W) (args:Array Value) (h:dD (zG Tryz.prog W) args.toList Tryz.f8.params.toList):
  Calls Tryz.prog 8 args W λe W'=>e= .returned (.bool true)/\Below W.heap.size W W':=by
 rw [Tryz.params8] at h;obtain ⟨v,l1,hv,h1,h0⟩:=dD.p8 h;have h4:=dD.rC h0;subst h4;obtain rfl:args= #[v]:=by cases args;simp_all
 obtain ⟨A,c,gs,rfl,hr,hg⟩:=rX h1;exact WR rfl rfl hg (pW gs 120 true 40) (by have:=nS gs 120 true;omega) (by have:=yP gs 120 true 40;omega) (by have:=(RH gs (m:=120) (r:=40) (by decide) true).aP;omega) hu hr rfl (aef gs 120 40 true)
end Go.Proofs.YtnhimdkpkmbhlaaGreatDoor
