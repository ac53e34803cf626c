import Derived.Deep.MidRow
import Derived.StillTailTactics
import Derived.OrdersHeld
import Derived.Deep.RegionHeld3
import Derived.Test.YtnhimdkpkmbhlaaGreatDoorGaee60
set_option maxRecDepth 100000
set_option maxHeartbeats 8000000
set_option linter.unusedSimpArgs false
set_option linter.unusedVariables false
namespace Go.Proofs.YtnhimdkpkmbhlaaGreatDoor
open ChangeShapes WideShapes ChangeAt RowKit
abbrev Slots:=List (Nat×Value)
def lk:Slots->Nat->Option Value
 | [],_=>none
 | (t,v)::l,k=>bif Nat.beq t k then some v else lk l k
def ev (l:Slots):Operand->Option Value
 | .tmp t=>lk l t
 | .const v=>some v
 | .global g=>some (.pointer (some ⟨g,0,none⟩))
 | .func f=>some (.func (.func f) #[] #[])
def NC (l:Slots):List Operand->List Value->Prop
 | [],[]=>True
 | x::xs,v::vs=>ev l x=some v/\NC l xs vs
 | _,_=>False
def ents:Nat->List Value->Slots
 | _,[]=>[]
 | k,v::vs=>(k,v)::ents (k+1) vs
def JO (l:Slots):Slots->Prop
 | []=>True
 | (k,v)::r=>lk l k=some v/\JO l r
structure Fr (N:Nat) (l:Slots) (a:Act):Prop where
 defers:a.defers=[]
 size:a.tmps.size=N
 get: ∀ k v,lk l k=some v->a.tmps[k]? =some v
section
variable {P:Program} {N:Nat} {l l':Slots} {a:Act} {w w' w0:World} {B:Nat} {fs:List Fact} {ops:Array Oper} {o:Oper} {rest:List Oper} {Q:Exit->Act->World->Prop} {v u p:Value} {d:Nat}
theorem Fr.ev {x:Operand} (F:Fr N l a) (h:ev l x=some v):a.eval x=v:=by
 cases x with
 | tmp t=>
  have:=F.get t v h;simp [Act.eval,this]
 | const c=>simpa [Go.Proofs.YtnhimdkpkmbhlaaGreatDoor.ev,Act.eval] using h
 | global g=>simpa [Go.Proofs.YtnhimdkpkmbhlaaGreatDoor.ev,Act.eval] using h
 | func f=>simpa [Go.Proofs.YtnhimdkpkmbhlaaGreatDoor.ev,Act.eval] using h
theorem Fr.evs (F:Fr N l a): ∀ {xs:List Operand} {vs:List Value},NC l xs vs->xs.map a.eval=vs
 | [],[],_=>rfl
 | x::xs,v::vs,h=>by
  rw [List.map_cons,F.ev h.1,F.evs h.2]
 | [],_::_,h=>h.elim
 | _::_,[],h=>h.elim
theorem RN {k:Nat}:lk ((k,v)::l) k=some v:=by simp [lk]
theorem MS {t k:Nat} (h:t≠k):lk ((t,v)::l) k=lk l k:=by
 have:Nat.beq t k=false:=by
  cases e:Nat.beq t k
  ·rfl
  exact absurd (Nat.eq_of_beq_eq_true e) h
 simp [lk,this]
theorem Fr.put (F:Fr N l a) (hd:Nat.blt d N=true) (v:Value):Fr N ((d,v)::l) (a.put (some d) v):=by
 have hdN:d<N:=by simpa [Nat.blt_eq] using hd
 refine ⟨F.defers,by simp [Act.put,F.size],λk u hk=>?_⟩;simp only [Act.put];by_cases e:d=k
 ·subst e;rw [RN] at hk;rw [Array.getElem?_setIfInBounds_self_of_lt (by rw [F.size];exact hdN)];exact hk
 rw [MS e] at hk;rw [Array.getElem?_setIfInBounds_ne e];exact F.get k u hk
theorem aaU: ∀ {l':Slots},JO l l'-> ∀ k v,lk l' k=some v->lk l k=some v
 | [],_,k,v,h=>by cases h
 | (t,u)::r,hs,k,v,h=>by
  by_cases e:t=k
  ·subst e;rw [RN] at h
   cases h;exact hs.1
  rw [MS e] at h;exact aaU hs.2 k v h
theorem Fr.sub (F:Fr N l a) (h:JO l l'):Fr N l' a:=⟨F.defers,F.size,λk v hk=>F.get k v (aaU h k v hk)⟩
theorem VL: ∀ (vs:List Value) (m k:Nat) (v:Value),lk (ents m vs) k=some v->m<=k/\vs[k-m]? =some v
 | [],_,_,_,h=>by cases h
 | u::vs,m,k,v,h=>by
  by_cases e:m=k
  ·subst e;rw [ents,RN] at h;exact ⟨Nat.le_refl _,by simpa using h⟩
  rw [ents,MS e] at h;obtain ⟨h1,h2⟩:=VL vs (m+1) k v h;refine ⟨by omega,?_⟩;rw [show k-m=(k-(m+1))+1 by omega];simpa using h2
theorem Fr.enter (vs:List Value) (hN:Nat.ble vs.length N=true):Fr N (ents 0 vs) { tmps:=vs.toArray++Array.replicate (N-vs.toArray.size) undef,defers:=[] }:=by
 have h:vs.length<=N:=by simpa using hN
 refine ⟨rfl,by simp;omega,λk v hk=>?_⟩;have:=(VL vs 0 k v hk).2;simp only [Nat.sub_zero] at this;have hl:k<vs.length:=(List.getElem?_eq_some_iff.1 this).1;rw [Array.getElem?_append_left (by simpa using hl)];simpa using this
def wC (P:Program) (N:Nat) (c:Code) (Q:Exit->Act->World->Prop) (l:Slots) (w:World):Prop:= ∀ a,Fr N l a->c.wp P Q a w
def wL (P:Program) (N:Nat) (ops:Array Oper) (Q:Exit->Act->World->Prop) (rest:List Oper) (l:Slots) (w:World):Prop:= ∀ a,Fr N l a->wpList P ops Q rest a w
def wQ (N:Nat) (Q:Exit->Act->World->Prop) (e:Exit) (l:Slots) (w:World):Prop:= ∀ a,Fr N l a->Q e a w
theorem Fx {f:FuncId} {fn:Func} {c:Code} {vs:List Value} {R:Ending->World->Prop} (hf:P.funcs[f]? =some fn) (hb:fn.body=some c) (hn:fn.ntmps=N) (hN:Nat.ble vs.length N=true)
  (h:wC P N c (bodyPost P fn R) (ents 0 vs) w):Calls P f vs.toArray w R:=calls_of_wp hf hb (by rw [hn];exact h _ (Fr.enter vs hN))
theorem aH {x y:Code} (h:wC P N x (Exit.then (y.wp P Q) Q) l w):wC P N (.seq x y) Q l w:=λa F=>wp_seq (h a F)
theorem aB {id:Nat} {os:List Oper} (h:wL P N os.toArray Q os l w):wC P N (.region id os.toArray false) Q l w:=λa F=>wp_region_lit (h a F)
theorem iT {c:Operand} {x y:Code} (hc:ev l c=some (.bool true)) (h:wC P N x Q l w):wC P N (.cond c x y) Q l w:=λa F=>wp_cond_true (F.ev hc) (h a F)
theorem dD {c:Operand} {x y:Code} (hc:ev l c=some (.bool false)) (h:wC P N y Q l w):wC P N (.cond c x y) Q l w:=λa F=>wp_cond_false (F.ev hc) (h a F)
theorem lg {id:Nat} {c:Code} (h:wC P N c (Exit.inBlock id Q) l w):wC P N (.block id c) Q l w:=λa F=>wp_block (h a F)
theorem um {id:Nat} (h:wQ N Q (.exit id) l w):wC P N (.exit id) Q l w:=λa F=>wp_exit (h a F)
theorem gG (h:wQ N Q .normal l w):wC P N .skip Q l w:=λa F=>wp_skip (h a F)
theorem nG (h:wQ N Q .ret l w):wC P N .ret Q l w:=λa F=>wp_ret (h a F)
theorem bn {c:Code} (hs:JO l l') (h:wC P N c Q l' w):wC P N c Q l w:=λa F=>h a (F.sub hs)
theorem bU {e:Exit} (hs:JO l l') (h:wQ N Q e l' w):wQ N Q e l w:=λa F=>h a (F.sub hs)
theorem aI {y:Code} (h:wC P N y Q l w):wQ N (Exit.then (y.wp P Q) Q) .normal l w:=h
theorem fF {K:Act->World->Prop} {id:Nat} (h:wQ N Q (.exit id) l w):wQ N (Exit.then K Q) (.exit id) l w:=h
theorem gT {K:Act->World->Prop} (h:wQ N Q .ret l w):wQ N (Exit.then K Q) .ret l w:=h
theorem bY {id:Nat} (h:wQ N Q .normal l w):wQ N (Exit.inBlock id Q) .normal l w:=h
theorem Ux {id:Nat} (h:wQ N Q .ret l w):wQ N (Exit.inBlock id Q) .ret l w:=h
theorem kW {id:Nat} (h:wQ N Q .normal l w):wQ N (Exit.inBlock id Q) (.exit id) l w:=λa F=>by
 show if id=id then _ else _
 rw [if_pos rfl];exact h a F
theorem eD {X:Type} {c:Code} (L:X->Slots) (I:X->World->Prop) (m:X->Nat) (x0:X) (hI:I x0 w) (hs:JO l (L x0))
  (round: ∀ x w,I x w->wC P N c (Exit.then (λa' w'=> ∃ x',Fr N (L x') a'/\I x' w'/\m x'<m x) Q) (L x) w):wC P N (.loop c) Q l w:=by
 intro a F b k cs;have key: ∀ n x a w,m x=n->Fr N (L x) a->I x w-> ∃ e a' w',Q e a' w'/\Arrives P (lone (b.at a (.code c:: .inLoop c::k)) cs w) b k cs e a' w':=by
  intro n
  induction n using Nat.strongRecOn with
  | _ n ih=>
   intro x a w hn hF hI;obtain ⟨e,a₁,w₁,hq,harr⟩:=round x w hI a hF b (.inLoop c::k) cs
   cases e with
   | normal=>
    obtain ⟨x',hF',hI',hlt⟩:=hq;obtain ⟨e₂,a₂,w₂,hq₂,harr₂⟩:=ih (m x') (hn▸hlt) x' a₁ w₁ rfl hF' hI';exact ⟨e₂,a₂,w₂,hq₂,.of_steps (Steps.trans harr (.one step_inLoop)) harr₂⟩
   | exit id=>exact ⟨_,a₁,w₁,hq,.pass (x:= .inLoop c) rfl (λ_ _=> .inl (by simp)) harr⟩
   | goto l=>exact ⟨_,a₁,w₁,hq,.pass (x:= .inLoop c) rfl (λ_ _=> .inl (by simp)) harr⟩
   | ret=>exact ⟨_,a₁,w₁,hq,.pass (x:= .inLoop c) rfl (λ_ _=> .inl (by simp)) harr⟩
   | panic ch=>exact ⟨_,a₁,w₁,hq,.pass (x:= .inLoop c) rfl (λ_ _=> .inl (by simp)) harr⟩
   | outgrown=>exact ⟨_,a₁,w₁,hq,.pass (x:= .inLoop c) rfl (λ_ _=> .inl (by simp)) harr⟩
 obtain ⟨e,a',w',hq,harr⟩:=key _ x0 a w rfl (F.sub hs) hI;exact ⟨e,a',w',hq,.of_steps (.one step_loop) harr⟩
theorem aU {X:Type} {L:X->Slots} {I:X->World->Prop} {m:X->Nat} {x:X} (x':X) (hI:I x' w) (hs:JO l (L x')) (hm:m x'<m x):
  wQ N (Exit.then (λa' w'=> ∃ x',Fr N (L x') a'/\I x' w'/\m x'<m x) Q) .normal l w:=λ_ F=>⟨x',F.sub hs,hI,hm⟩
theorem mh {x y:Code} {X:Type} (L:X->Slots) (I:X->World->Prop) (hx:wC P N x (Exit.then (λa' w'=> ∃ x',Fr N (L x') a'/\I x' w') Q) l w)
  (hy: ∀ x w,I x w->wC P N y Q (L x) w):wC P N (.seq x y) Q l w:=aH λa F=>wp_mono (hx a F) λe a w h=>by
 cases e with
 | normal=>obtain ⟨x',hF,hI⟩:=h;exact hy x' w hI a hF
 | _=>exact h
theorem dJ {X:Type} {L:X->Slots} {I:X->World->Prop} (x':X) (hI:I x' w) (hs:JO l (L x')):wQ N (Exit.then (λa' w'=> ∃ x',Fr N (L x') a'/\I x' w') Q) .normal l w:=λ_ F=>⟨x',F.sub hs,hI⟩
def Kh (P:Program) (l:Slots) (w:World):List ResultVar->List Value->Prop
 | [],[]=>True
 | .tmp t::rs,v::vs=>lk l t=some v/\Kh P l w rs vs
 | .cell t ty::rs,v::vs=>(∃ ad,lk l t=some (.pointer (some ad))/\(loadVar ty ad).run P w= .ok v w)/\Kh P l w rs vs
 | _,_=>False
def qx:List Value->Value
 | [v]=>v
 | vs=> .tuple vs.toArray
def Lg (tmps:Array Value):ResultVar->Sem Value
 | .tmp t=>pure (tmps.getD t undef)
 | .cell ad t=>do loadVar t (<-asAddr (tmps.getD ad undef))
theorem acg (F:Fr N l a) {t:Tmp} (h:lk l t=some v):(Lg a.tmps (.tmp t)).run P w= .ok v w:=by
 have h2:=F.get t v h;simp [Lg,h2]
theorem XB (F:Fr N l a) {t:Tmp} {ty:TypeId} {ad:Addr} (h:lk l t=some (.pointer (some ad))) (h3:(loadVar ty ad).run P w= .ok v w):(Lg a.tmps (.cell t ty)).run P w= .ok v w:=by
 have h2:=F.get t _ h;simp [Lg,h2,asAddr,h3]
theorem Ij (F:Fr N l a): ∀ {rs:List ResultVar} {vs:List Value},Kh P l w rs vs->(rs.mapM (Lg a.tmps)).run P w= .ok vs w
 | [],[],_=>rfl
 | .tmp t::rs,v::vs,h=>by
  have h1:=Ij F h.2;have h2:=acg (P:=P) (w:=w) F h.1;rw [List.mapM_cons];simp only [Sem.run_bind,h1,h2,Sem.run_pure,Result.andThen]
 | .cell t ty::rs,v::vs,h=>by
  obtain ⟨⟨ad,h2,h3⟩,h4⟩:=h;have h1:=Ij F h4;have h2:=XB F h2 h3;rw [List.mapM_cons];simp only [Sem.run_bind,h1,h2,Sem.run_pure,Result.andThen]
 | [],_::_,h=>h.elim
 | .tmp _::_,[],h=>h.elim
 | .cell _ _::_,[],h=>h.elim
theorem Fy {fn:Func} {rs:List ResultVar} {vs:List Value} (F:Fr N l a) (hr:fn.results=rs.toArray) (h:Kh P l w rs vs):(results fn a.tmps).run P w= .ok (qx vs) w:=by
 have h1:=Ij F h;have e:results fn a.tmps=(fn.results.mapM (Lg a.tmps)) >>= λvs=>pure (if h:vs.size=1 then vs[0] else .tuple vs):=rfl;have e2:(List.toArray <$> rs.mapM (Lg a.tmps))=(rs.mapM (Lg a.tmps)) >>= λx=>(pure x.toArray:Sem (Array Value)):=rfl;rw [e,hr,List.mapM_toArray,e2];simp only [Sem.run_bind,h1,Sem.run_pure,Result.andThen]
 match vs with
 | []=>simp [qx]
 | [v]=>simp [qx]
 | v::u::vs=>simp [qx]
theorem dR {fn:Func} {R:Ending->World->Prop} {rs:List ResultVar} {vs:List Value} (hr:fn.results=rs.toArray) (h:Kh P l w rs vs) (hR:R (.returned (qx vs)) w):wQ N (bodyPost P fn R) .ret l w:=
 λ_ F=>bodyPost_ret (Fy F hr h) F.defers hR
theorem aY {fn:Func} {R:Ending->World->Prop} {rs:List ResultVar} {vs:List Value} (hr:fn.results=rs.toArray) (h:Kh P l w rs vs) (hR:R (.returned (qx vs)) w):wQ N (bodyPost P fn R) .normal l w:=
 λ_ F=>bodyPost_end (Fy F hr h) F.defers hR
theorem eF {b:Nat} {row:Array Value} {t ty:TypeId} {ds:TypeDesc} (i:Nat) (S:St B w0 w fs) (hi:fs[i]? =some (.blk b row t)) (hu:P.underlying ty=some ds) (hd:ds.isRow=true) (hz:(P.info? ty).map (·.size)=some row.size):
  (loadVar ty ⟨b,0,none⟩).run P w= .ok (.agg row) w:=run_loadVar_row w b t ty row (0,0) ds (S.blk i hi).blk hu (by cases ds<;>simp_all) hz
end
end Go.Proofs.YtnhimdkpkmbhlaaGreatDoor
