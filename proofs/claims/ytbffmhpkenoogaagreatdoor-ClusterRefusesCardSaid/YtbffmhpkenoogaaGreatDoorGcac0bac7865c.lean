/- Parts of proofs: lemmas on memory, on single functions and on the plain models; no condition of their own. -/
import Derived.Deep.MidRow
import Derived.StillTailTactics
import Derived.OrdersHeld
import Derived.Deep.RegionHeld3
import Derived.Test.YtbffmhpkenoogaaGreatDoorG3a717e6e86da
set_option linter.unusedVariables false
set_option linter.unusedSimpArgs false
set_option linter.unnecessarySimpa false
set_option maxRecDepth 100000
set_option maxHeartbeats 8000000

namespace Go.Proofs.YtbffmhpkenoogaaGreatDoor
open Go.ChangeShapes Go.WideShapes Go.ChangeAt Go.RowKit
abbrev Slots:=List (Nat×Value)
def lk:Slots→Nat→Option Value
 | [],_=>none
 | (t,v)::l,k=>bif Nat.beq t k then some v else lk l k
def ev (l:Slots):Operand→Option Value
 | .tmp t=>lk l t
 | .const v=>some v
 | .global g=>some (.pointer (some ⟨g,0,none⟩))
 | .func f=>some (.func (.func f) #[] #[])
def LA (l:Slots):List Operand→List Value→Prop
 | [],[]=>True
 | x::xs,v::vs=>ev l x=some v∧LA l xs vs
 | _,_=>False
def ents:Nat→List Value→Slots
 | _,[]=>[]
 | k,v::vs=>(k,v)::ents (k+1) vs
def HY (l:Slots):Slots→Prop
 | []=>True
 | (k,v)::r=>lk l k=some v∧HY l r
structure Fr (N:Nat) (l:Slots) (a:Act):Prop where
 defers:a.defers=[]
 size:a.tmps.size=N
 get: ∀ k v,lk l k=some v→a.tmps[k]? =some v
section
variable {P:Program} {N:Nat} {l l':Slots} {a:Act} {w w' w0:World} {B:Nat} {fs:List Fact} {ops:Array Oper} {o:Oper} {rest:List Oper} {Q:Exit→Act→World→Prop} {v u p:Value} {d:Nat}
theorem Fr.ev {x:Operand} (F:Fr N l a) (h:ev l x=some v):a.eval x=v:=by
 cases x with
 | tmp t=>
  have:=F.get t v h;simp [Act.eval,this]
 | const c=>simpa [Go.Proofs.YtbffmhpkenoogaaGreatDoor.ev,Act.eval] using h
 | global g=>simpa [Go.Proofs.YtbffmhpkenoogaaGreatDoor.ev,Act.eval] using h
 | func f=>simpa [Go.Proofs.YtbffmhpkenoogaaGreatDoor.ev,Act.eval] using h
theorem Fr.evs (F:Fr N l a): ∀ {xs:List Operand} {vs:List Value},LA l xs vs→xs.map a.eval=vs
 | [],[],_=>rfl
 | x::xs,v::vs,h=>by
  rw [List.map_cons,F.ev h.1,F.evs h.2]
 | [],_::_,h=>h.elim
 | _::_,[],h=>h.elim
theorem Qh {k:Nat}:lk ((k,v)::l) k=some v:=by simp [lk]
theorem KL {t k:Nat} (h:t≠k):lk ((t,v)::l) k=lk l k:=by
 have:Nat.beq t k=false:=by
  cases e:Nat.beq t k
  ·rfl
  exact absurd (Nat.eq_of_beq_eq_true e) h
 simp [lk,this]
theorem Fr.put (F:Fr N l a) (hd:Nat.blt d N=true) (v:Value):Fr N ((d,v)::l) (a.put (some d) v):=by
 have hdN:d<N:=by simpa [Nat.blt_eq] using hd
 refine ⟨F.defers,by simp [Act.put,F.size],fun k u hk=>?_⟩;simp only [Act.put];by_cases e:d=k
 ·subst e;rw [Qh] at hk;rw [Array.getElem?_setIfInBounds_self_of_lt (by rw [F.size];exact hdN)];exact hk
 rw [KL e] at hk;rw [Array.getElem?_setIfInBounds_ne e];exact F.get k u hk
theorem Y5: ∀ {l':Slots},HY l l'→ ∀ k v,lk l' k=some v→lk l k=some v
 | [],_,k,v,h=>by cases h
 | (t,u)::r,hs,k,v,h=>by
  by_cases e:t=k
  ·subst e;rw [Qh] at h
   cases h;exact hs.1
  rw [KL e] at h;exact Y5 hs.2 k v h
theorem Fr.sub (F:Fr N l a) (h:HY l l'):Fr N l' a:=⟨F.defers,F.size,fun k v hk=>F.get k v (Y5 h k v hk)⟩
theorem TY: ∀ (vs:List Value) (m k:Nat) (v:Value),lk (ents m vs) k=some v→m≤k∧vs[k-m]? =some v
 | [],_,_,_,h=>by cases h
 | u::vs,m,k,v,h=>by
  by_cases e:m=k
  ·subst e;rw [ents,Qh] at h;exact ⟨Nat.le_refl _,by simpa using h⟩
  rw [ents,KL e] at h;obtain ⟨h1,h2⟩:=TY vs (m+1) k v h;refine ⟨by omega,?_⟩;rw [show k-m=(k-(m+1))+1 by omega];simpa using h2
theorem Fr.enter (vs:List Value) (hN:Nat.ble vs.length N=true):Fr N (ents 0 vs) { tmps:=vs.toArray++Array.replicate (N-vs.toArray.size) undef,defers:=[] }:=by
 have h:vs.length≤N:=by simpa using hN
 refine ⟨rfl,by simp;omega,fun k v hk=>?_⟩;have:=(TY vs 0 k v hk).2;simp only [Nat.sub_zero] at this;have hl:k<vs.length:=(List.getElem?_eq_some_iff.1 this).1;rw [Array.getElem?_append_left (by simpa using hl)];simpa using this
def wC (P:Program) (N:Nat) (c:Code) (Q:Exit→Act→World→Prop) (l:Slots) (w:World):Prop:= ∀ a,Fr N l a→c.wp P Q a w
def wL (P:Program) (N:Nat) (ops:Array Oper) (Q:Exit→Act→World→Prop) (rest:List Oper) (l:Slots) (w:World):Prop:= ∀ a,Fr N l a→wpList P ops Q rest a w
def wQ (N:Nat) (Q:Exit→Act→World→Prop) (e:Exit) (l:Slots) (w:World):Prop:= ∀ a,Fr N l a→Q e a w
theorem O7 {f:FuncId} {fn:Func} {c:Code} {vs:List Value} {R:Ending→World→Prop} (hf:P.funcs[f]? =some fn) (hb:fn.body=some c) (hn:fn.ntmps=N) (hN:Nat.ble vs.length N=true)
  (h:wC P N c (bodyPost P fn R) (ents 0 vs) w):Calls P f vs.toArray w R:=calls_of_wp hf hb (by rw [hn];exact h _ (Fr.enter vs hN))
theorem aW {x y:Code} (h:wC P N x (Exit.then (y.wp P Q) Q) l w):wC P N (.seq x y) Q l w:=fun a F=>wp_seq (h a F)
theorem aO {id:Nat} {os:List Oper} (h:wL P N os.toArray Q os l w):wC P N (.region id os.toArray false) Q l w:=fun a F=>wp_region_lit (h a F)
theorem kP {c:Operand} {x y:Code} (hc:ev l c=some (.bool true)) (h:wC P N x Q l w):wC P N (.cond c x y) Q l w:=fun a F=>wp_cond_true (F.ev hc) (h a F)
theorem kQ {c:Operand} {x y:Code} (hc:ev l c=some (.bool false)) (h:wC P N y Q l w):wC P N (.cond c x y) Q l w:=fun a F=>wp_cond_false (F.ev hc) (h a F)
theorem BH {id:Nat} {c:Code} (h:wC P N c (Exit.inBlock id Q) l w):wC P N (.block id c) Q l w:=fun a F=>wp_block (h a F)
theorem adD {id:Nat} (h:wQ N Q (.exit id) l w):wC P N (.exit id) Q l w:=fun a F=>wp_exit (h a F)
theorem oU (h:wQ N Q .normal l w):wC P N .skip Q l w:=fun a F=>wp_skip (h a F)
theorem nJ (h:wQ N Q .ret l w):wC P N .ret Q l w:=fun a F=>wp_ret (h a F)
theorem bq {c:Code} (hs:HY l l') (h:wC P N c Q l' w):wC P N c Q l w:=fun a F=>h a (F.sub hs)
theorem bN {e:Exit} (hs:HY l l') (h:wQ N Q e l' w):wQ N Q e l w:=fun a F=>h a (F.sub hs)
theorem gJ {y:Code} (h:wC P N y Q l w):wQ N (Exit.then (y.wp P Q) Q) .normal l w:=h
theorem LB {K:Act→World→Prop} {id:Nat} (h:wQ N Q (.exit id) l w):wQ N (Exit.then K Q) (.exit id) l w:=h
theorem fZ {K:Act→World→Prop} (h:wQ N Q .ret l w):wQ N (Exit.then K Q) .ret l w:=h
theorem gy {id:Nat} (h:wQ N Q .normal l w):wQ N (Exit.inBlock id Q) .normal l w:=h
theorem Sw {id:Nat} (h:wQ N Q .ret l w):wQ N (Exit.inBlock id Q) .ret l w:=h
theorem O8 {id:Nat} (h:wQ N Q .normal l w):wQ N (Exit.inBlock id Q) (.exit id) l w:=fun a F=>by
 show if id=id then _ else _
 rw [if_pos rfl];exact h a F
theorem fH {X:Type} {c:Code} (L:X→Slots) (I:X→World→Prop) (m:X→Nat) (x0:X) (hI:I x0 w) (hs:HY l (L x0))
  (round: ∀ x w,I x w→wC P N c (Exit.then (fun a' w'=> ∃ x',Fr N (L x') a'∧I x' w'∧m x'<m x) Q) (L x) w):wC P N (.loop c) Q l w:=by
 intro a F b k cs;have key: ∀ n x a w,m x=n→Fr N (L x) a→I x w→ ∃ e a' w',Q e a' w'∧Arrives P (lone (b.at a (.code c:: .inLoop c::k)) cs w) b k cs e a' w':=by
  intro n
  induction n using Nat.strongRecOn with
  | _ n ih=>
   intro x a w hn hF hI;obtain ⟨e,a₁,w₁,hq,harr⟩:=round x w hI a hF b (.inLoop c::k) cs
   cases e with
   | normal=>
    obtain ⟨x',hF',hI',hlt⟩:=hq;obtain ⟨e₂,a₂,w₂,hq₂,harr₂⟩:=ih (m x') (hn▸hlt) x' a₁ w₁ rfl hF' hI';exact ⟨e₂,a₂,w₂,hq₂,.of_steps (Steps.trans harr (.one step_inLoop)) harr₂⟩
   | exit id=>exact ⟨_,a₁,w₁,hq,.pass (x:= .inLoop c) rfl (fun _ _=> .inl (by simp)) harr⟩
   | goto l=>exact ⟨_,a₁,w₁,hq,.pass (x:= .inLoop c) rfl (fun _ _=> .inl (by simp)) harr⟩
   | ret=>exact ⟨_,a₁,w₁,hq,.pass (x:= .inLoop c) rfl (fun _ _=> .inl (by simp)) harr⟩
   | panic ch=>exact ⟨_,a₁,w₁,hq,.pass (x:= .inLoop c) rfl (fun _ _=> .inl (by simp)) harr⟩
   | outgrown=>exact ⟨_,a₁,w₁,hq,.pass (x:= .inLoop c) rfl (fun _ _=> .inl (by simp)) harr⟩
 obtain ⟨e,a',w',hq,harr⟩:=key _ x0 a w rfl (F.sub hs) hI;exact ⟨e,a',w',hq,.of_steps (.one step_loop) harr⟩
theorem bY {X:Type} {L:X→Slots} {I:X→World→Prop} {m:X→Nat} {x:X} (x':X) (hI:I x' w) (hs:HY l (L x')) (hm:m x'<m x):
  wQ N (Exit.then (fun a' w'=> ∃ x',Fr N (L x') a'∧I x' w'∧m x'<m x) Q) .normal l w:=fun _ F=>⟨x',F.sub hs,hI,hm⟩
theorem jU {x y:Code} {X:Type} (L:X→Slots) (I:X→World→Prop) (hx:wC P N x (Exit.then (fun a' w'=> ∃ x',Fr N (L x') a'∧I x' w') Q) l w)
  (hy: ∀ x w,I x w→wC P N y Q (L x) w):wC P N (.seq x y) Q l w:=aW fun a F=>wp_mono (hx a F) fun e a w h=>by
 cases e with
 | normal=>obtain ⟨x',hF,hI⟩:=h;exact hy x' w hI a hF
 | _=>exact h
theorem bJ {X:Type} {L:X→Slots} {I:X→World→Prop} (x':X) (hI:I x' w) (hs:HY l (L x')):wQ N (Exit.then (fun a' w'=> ∃ x',Fr N (L x') a'∧I x' w') Q) .normal l w:=fun _ F=>⟨x',F.sub hs,hI⟩
def IC (P:Program) (l:Slots) (w:World):List ResultVar→List Value→Prop
 | [],[]=>True
 | .tmp t::rs,v::vs=>lk l t=some v∧IC P l w rs vs
 | .cell t ty::rs,v::vs=>(∃ ad,lk l t=some (.pointer (some ad))∧(loadVar ty ad).run P w= .ok v w)∧IC P l w rs vs
 | _,_=>False
def qU:List Value→Value
 | [v]=>v
 | vs=> .tuple vs.toArray
def Jz (tmps:Array Value):ResultVar→Sem Value
 | .tmp t=>pure (tmps.getD t undef)
 | .cell ad t=>do loadVar t (←asAddr (tmps.getD ad undef))
theorem aaw (F:Fr N l a) {t:Tmp} (h:lk l t=some v):(Jz a.tmps (.tmp t)).run P w= .ok v w:=by
 have h2:=F.get t v h;simp [Jz,h2]
theorem VA (F:Fr N l a) {t:Tmp} {ty:TypeId} {ad:Addr} (h:lk l t=some (.pointer (some ad))) (h3:(loadVar ty ad).run P w= .ok v w):(Jz a.tmps (.cell t ty)).run P w= .ok v w:=by
 have h2:=F.get t _ h;simp [Jz,h2,asAddr,h3]
theorem F5 (F:Fr N l a): ∀ {rs:List ResultVar} {vs:List Value},IC P l w rs vs→(rs.mapM (Jz a.tmps)).run P w= .ok vs w
 | [],[],_=>rfl
 | .tmp t::rs,v::vs,h=>by
  have h1:=F5 F h.2;have h2:=aaw (P:=P) (w:=w) F h.1;rw [List.mapM_cons];simp only [Sem.run_bind,h1,h2,Sem.run_pure,Result.andThen]
 | .cell t ty::rs,v::vs,h=>by
  obtain ⟨⟨ad,h2,h3⟩,h4⟩:=h;have h1:=F5 F h4;have h2:=VA F h2 h3;rw [List.mapM_cons];simp only [Sem.run_bind,h1,h2,Sem.run_pure,Result.andThen]
 | [],_::_,h=>h.elim
 | .tmp _::_,[],h=>h.elim
 | .cell _ _::_,[],h=>h.elim
theorem D5 {fn:Func} {rs:List ResultVar} {vs:List Value} (F:Fr N l a) (hr:fn.results=rs.toArray) (h:IC P l w rs vs):(results fn a.tmps).run P w= .ok (qU vs) w:=by
 have h1:=F5 F h;have e:results fn a.tmps=(fn.results.mapM (Jz a.tmps)) >>= fun vs=>pure (if h:vs.size=1 then vs[0] else .tuple vs):=rfl
 have e2:(List.toArray <$> rs.mapM (Jz a.tmps))=(rs.mapM (Jz a.tmps)) >>= fun x=>(pure x.toArray:Sem (Array Value)):=rfl
 rw [e,hr,List.mapM_toArray,e2];simp only [Sem.run_bind,h1,Sem.run_pure,Result.andThen]
 match vs with
 | []=>simp [qU]
 | [v]=>simp [qU]
 | v::u::vs=>simp [qU]
theorem dI {fn:Func} {R:Ending→World→Prop} {rs:List ResultVar} {vs:List Value} (hr:fn.results=rs.toArray) (h:IC P l w rs vs) (hR:R (.returned (qU vs)) w):wQ N (bodyPost P fn R) .ret l w:=
 fun _ F=>bodyPost_ret (D5 F hr h) F.defers hR
theorem aY {fn:Func} {R:Ending→World→Prop} {rs:List ResultVar} {vs:List Value} (hr:fn.results=rs.toArray) (h:IC P l w rs vs) (hR:R (.returned (qU vs)) w):wQ N (bodyPost P fn R) .normal l w:=
 fun _ F=>bodyPost_end (D5 F hr h) F.defers hR
theorem dQ {b:Nat} {row:Array Value} {t ty:TypeId} {ds:TypeDesc} (i:Nat) (S:St B w0 w fs) (hi:fs[i]? =some (.blk b row t)) (hu:P.underlying ty=some ds) (hd:ds.isRow=true) (hz:(P.info? ty).map (·.size)=some row.size):
  (loadVar ty ⟨b,0,none⟩).run P w= .ok (.agg row) w:=run_loadVar_row w b t ty row (0,0) ds (S.blk i hi).blk hu (by cases ds<;>simp_all) hz
end
section
variable {P:Program} {N:Nat} {l l':Slots} {w:World} {Q:Exit→Act→World→Prop}
def F6 (P:Program) (c:Code) (Q:Exit→Act→World→Prop) (a:Act) (w:World):Prop:= ∀ (b:Frame) (k:List Item) (cs:List Frame),∃ e a' w',Q e a' w'∧Arrives P (lone (b.at a (.code c:: .inLoop c::k)) cs w) b k cs e a' w'
def wI (P:Program) (N:Nat) (c:Code) (Q:Exit→Act→World→Prop) (l:Slots) (w:World):Prop:= ∀ a,Fr N l a→F6 P c Q a w
theorem JA {c:Code} (h:wI P N c Q l w):wC P N (.loop c) Q l w:=by
 intro a F b k cs;obtain ⟨e,a',w',hq,harr⟩:=h a F b k cs;exact ⟨e,a',w',hq,.of_steps (.one step_loop) harr⟩
theorem kZ {c:Code} (h:wC P N c (Exit.then (F6 P c Q) Q) l w):wI P N c Q l w:=by
 intro a F b k cs;obtain ⟨e,a₁,w₁,hq,harr⟩:=h a F b (.inLoop c::k) cs
 cases e with
 | normal=>
  obtain ⟨e₂,a₂,w₂,hq₂,harr₂⟩:=hq b k cs;exact ⟨e₂,a₂,w₂,hq₂,.of_steps (Steps.trans harr (.one step_inLoop)) harr₂⟩
 | exit id=>exact ⟨_,a₁,w₁,hq,.pass (x:= .inLoop c) rfl (fun _ _=> .inl (by simp)) harr⟩
 | goto l=>exact ⟨_,a₁,w₁,hq,.pass (x:= .inLoop c) rfl (fun _ _=> .inl (by simp)) harr⟩
 | ret=>exact ⟨_,a₁,w₁,hq,.pass (x:= .inLoop c) rfl (fun _ _=> .inl (by simp)) harr⟩
 | panic ch=>exact ⟨_,a₁,w₁,hq,.pass (x:= .inLoop c) rfl (fun _ _=> .inl (by simp)) harr⟩
 | outgrown=>exact ⟨_,a₁,w₁,hq,.pass (x:= .inLoop c) rfl (fun _ _=> .inl (by simp)) harr⟩
theorem nZ {c:Code} (h:wI P N c Q l w):wQ N (Exit.then (F6 P c Q) Q) .normal l w:=h
end
end Go.Proofs.YtbffmhpkenoogaaGreatDoor
