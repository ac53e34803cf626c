import Derived.Test.YtnhimdkpkmbhlaaGreatDoorG2108f
import Derived.Test.YtnhimdkpkmbhlaaGreatDoorGd95e7
import Derived.Test.YtnhimdkpkmbhlaaGreatDoorGde541
set_option maxRecDepth 100000
set_option maxHeartbeats 8000000
set_option linter.unusedSimpArgs false
set_option linter.unusedVariables false
namespace Go.Proofs.YtnhimdkpkmbhlaaGreatDoor
open ChangeShapes WideShapes ChangeAt RowKit
section
variable {P:Program} {N:Nat} {l l':Slots} {a:Act} {w w' w0:World} {B:Nat} {fs fs':List Fact} {ops:Array Oper} {o:Oper} {rest:List Oper} {Q:Exit->Act->World->Prop} {v u p:Value} {d:Nat}
theorem lJ {V:Nat->Value} {row:Array Value} {t:TypeId} (S:St B w0 w fs) (hw:Wanted N ops l o true) (hd:o.dst=some d) (hN:Nat.blt d N=true) (hy:Does P N l o w (V w.heap.size) (w.alloc (.cells row t)))
  (h: ∀ b w',St B w0 w' (.blk b row t::fs)->wL P N ops Q rest ((d,V b)::l) w'):wL P N ops Q (o::rest) l w:=NK hw hd hN hy (h _ _ S.alloc)
theorem St.aco {row:Array Value} {t:TypeId} {n s:Nat} (S:St B w0 w fs) (hs:row.size=n*s) (hn:n<=maxLen):St B w0 (w.alloc (.cells row t)) (.own t s (.slice (some ⟨w.heap.size,0,none⟩) n n) n row.toList::fs):=
 S.sD ((Below.refl _ _).alloc (Nat.le_refl _) _) (VG w row t n s hs hn)
theorem qb {V:Nat->Value} {row:Array Value} {t:TypeId} {n s:Nat} {xs:List Value} (S:St B w0 w fs) (hw:Wanted N ops l o true) (hd:o.dst=some d) (hN:Nat.blt d N=true) (hy:Does P N l o w (V w.heap.size) (w.alloc (.cells row t)))
  (hs:row.size=n*s) (hn:n<=maxLen) (hx:row.toList=xs) (h: ∀ b w',St B w0 w' (.own t s (.slice (some ⟨b,0,none⟩) n n) n xs::fs)->wL P N ops Q rest ((d,V b)::l) w'):wL P N ops Q (o::rest) l w:=by
 subst hx;exact NK hw hd hN hy (h _ _ (S.aco hs hn))
theorem St.nil (S:St B w0 w fs) (e:TypeId) (s:Nat):St B w0 w (.own e s (.slice none 0 0) 0 []::fs):=S.cons (iN _ _ _ _) λk hk=>by cases hk
theorem St.there {b:Nat} {row:Array Value} {t:TypeId} (i:Nat) (S:St B w0 w fs) (hi:fs[i]? =some (.blk b row t)) (off m:Nat) (h:off+m<=row.size):w.there b off m:=λj hj=>by
 have hb:=S.blk i hi;exact ⟨by rw [hb.cell (k:=off+j) (Array.getElem?_eq_getElem (by omega))];rfl,hb.free _⟩
theorem zf {ty t:TypeId} {x y:Operand} {b off m:Nat} {cs row row':Array Value} (i:Nat) (S:St B w0 w fs) (hw:Wanted N ops l o true) (hd:o.dst=none) (ho:o.op= .store ty x y) (hx:ev l x=some (.pointer (some ⟨b,off,none⟩))) (hy:ev l y=some v)
  (hi:fs[i]? =some (.blk b row t)) (hv:v.cells=cs) (hz:(P.info? ty).map (·.size)=some m) (hm:cs.size=m) (h1: ∀ u∈cs.toList,u.oneCell'=true) (hr:off+m<=row.size) (hrow:dn row off cs.toList=row') (hfs:fs.set i (.blk b row' t)=fs')
  (h: ∀ w',St B w0 w' fs'->wL P N ops Q rest l w'):wL P N ops Q (o::rest) l w:=by
 subst hrow;subst hfs;exact Li hw hd (MU ho hx hy (MX hv hz hm h1 (S.there i hi off m hr))) (h _ (S.set i hi (jr b cs.toList off w) (jq cs.toList off (S.blk i hi))))
theorem dI {x y:Operand} {t e:TypeId} {z:Value} {size bytes n m c Br:Nat} {A:Option Addr} {xs news xs':List Value} {sv:Value} (i:Nat) (S:St B w0 w fs) (hw:Wanted N ops l o true) (hd:o.dst=some d) (hN:Nat.blt d N=true)
  (ho:o.op= .call { callee:= .builtin .append,args:= #[x,y],argTypes:= #[t,t] }) (hx:ev l x=some sv) (hy:ev l y=some (.slice A m c)) (hi:fs[i]? =some (.own e size sv n xs)) (hr:Rd w Br size A m news)
  (ht:P.underlying t=some (.slice e)) (XE:(P.info? e).map (λi=>(i.zero,i.size,i.bytes))=some (some z,size,bytes)) (hzs:z.cells.size=size) (hsz:0<size) (h1: ∀ u∈news,u.oneCell'=true) (h63:n+m<=maxLen) (hbytes:(n+m)*bytes<=140737488355328)
  (hxs:xs++news=xs') (h: ∀ A' c' w',n+m<=c'->c'<=maxLen->St B w0 w' (fs.set i (.own e size (.slice A' (n+m) c') (n+m) xs'))->wL P N ops Q rest ((d,.slice A' (n+m) c')::l) w'):wL P N ops Q (o::rest) l w:=by
 subst hxs;obtain ⟨j0,hj0,hz,hs,hb⟩:=info_parts XE;obtain ⟨v',w',hrun,h2,h3,h4⟩:=tY (P:=P) w B t o.type e j0 z size bytes ht hj0 hz hs hb hzs hsz sv n xs (S.own i hi) Br A m c news hr h1 h63 hbytes S.base;obtain ⟨A',c',rfl,hc1,hc2⟩:=lX h2;exact NK hw hd hN (Ew (xs:=[x,y]) (vs:=[sv,.slice A m c]) ho ⟨hx,hy,trivial⟩ (λcs=>by simp [builtin,hrun,Sem.run_bind,Result.andThen])) (h A' c' w' hc1 hc2 (S.append i hi h3 h2 h4))
theorem St.lC {b n s:Nat} {row:Array Value} {t:TypeId} {xs:List Value} (i:Nat) (S:St B w0 w fs) (hi:fs[i]? =some (.blk b row t)) (hx:row.toList=xs) (hl:xs.length=n*s):Rd w w.heap.size s (some ⟨b,0,none⟩) n xs:=
 ⟨hl,λ_=>⟨b,0,rfl,S.lt i hi,λj u hu=>by
  rw [Nat.zero_add];exact (S.blk i hi).cell (by rw [<-hx] at hu;simpa using hu)⟩⟩
theorem Rd.addr {B s n:Nat} {A:Option Addr} {xs:List Value} (h:Rd w B s A n xs) (hn:0<n): ∃ b off,A=some ⟨b,off,none⟩:=by
 obtain ⟨b,off,e,_⟩:=h.2 hn;exact ⟨b,off,e⟩
theorem Rd.cl {B s n b off j:Nat} {xs:List Value} (h:Rd w B s (some ⟨b,off,none⟩) n xs) (hx:xs[j]? =some v):w.cell? ⟨b,off+j,none⟩=some v:=by
 have hl:j<xs.length:=(List.getElem?_eq_some_iff.1 hx).1;have hn:0<n:=by
  rcases Nat.eq_zero_or_pos n with e | e
  ·rw [h.1,e] at hl;omega
  exact e
 obtain ⟨b',off',e,_,hc⟩:=h.2 hn;simp only [Option.some.injEq,Addr.mk.injEq,and_true] at e;obtain ⟨rfl,rfl⟩:=e;exact hc j v hx
theorem Rd.rg {B s n b off j m:Nat} {xs cs:List Value} (h:Rd w B s (some ⟨b,off,none⟩) n xs) (hx: ∀ i u,cs[i]? =some u->xs[j+i]? =some u):w.rangeAt b (off+j) cs:=λi u hu=>by
 rw [Nat.add_assoc];exact h.cl (hx i u hu)
theorem St.rg {b off:Nat} {row:Array Value} {t:TypeId} {cs:List Value} (i:Nat) (S:St B w0 w fs) (hi:fs[i]? =some (.blk b row t)) (hx: ∀ j u,cs[j]? =some u->row[off+j]? =some u):w.rangeAt b off cs:=λj u hu=>(S.blk i hi).cell (hx j u hu)
theorem St.cl {b k:Nat} {row:Array Value} {t:TypeId} (i:Nat) (S:St B w0 w fs) (hi:fs[i]? =some (.blk b row t)) (hk:row[k]? =some v):w.cell? ⟨b,k,none⟩=some v:=(S.blk i hi).cell hk
theorem mo {row cs:Array Value} (h:row.size=cs.size):dn row 0 cs.toList=cs:=by
 apply Array.toList_inj.1;rw [gQ _ _ _ (by simp;omega)];simp only [List.take_zero,List.nil_append,Nat.zero_add,Array.length_toList];rw [List.drop_of_length_le (by simp;omega),List.append_nil]
theorem afE {L cs:List Value} {x m:Nat} (h:(L.drop x).take m=cs): ∀ (j:Nat) (u:Value),cs[j]? =some u->L[x+j]? =some u:=by
 intro j u hu;subst h;have hj:j<m:=by
  have:=(List.getElem?_eq_some_iff.1 hu).1;rw [List.length_take] at this;omega
 rw [List.getElem?_take_of_lt hj,List.getElem?_drop] at hu;exact hu
theorem je {row:Array Value} {cs:List Value} {x m:Nat} (h:(row.toList.drop x).take m=cs): ∀ (j:Nat) (u:Value),cs[j]? =some u->row[x+j]? =some u:=by
 intro j u hu;have:=afE h j u hu;simpa using this
theorem Rd.XF {B s n b off j i:Nat} {xs:List Value} (h:Rd w B s (some ⟨b,off,none⟩) n xs) (hx:xs[j+i]? =some v):w.cell? ⟨b,off+j+i,none⟩=some v:=by
 rw [Nat.add_assoc];exact h.cl hx
theorem Rd.uY {B s n b off j:Nat} {xs cs:List Value} (h:Rd w B s (some ⟨b,off,none⟩) n xs) (hx: ∀ i u,cs[i]? =some u->xs[j+i]? =some u):w.rangeAt b (off+j) cs:=h.rg (m:=0) hx
theorem bL {cs:List Value} (h:cs.all (·.oneCell')=true): ∀ u∈cs,u.oneCell'=true:=by simpa using h
theorem bC {α:Type} {enc:α->List Value} {sz:Nat} (hsz: ∀ x,(enc x).length=sz): ∀ {l:List α} {k:Nat} {x:α} {j:Nat} {u:Value},l[k]? =some x->(enc x)[j]? =some u->(l.flatMap enc)[k*sz+j]? =some u
 | [],k,x,j,u,h,_=>by simp at h
 | y::l,0,x,j,u,h,hj=>by
  simp at h;subst h;rw [List.flatMap_cons,Nat.zero_mul,Nat.zero_add,List.getElem?_append_left (List.getElem?_eq_some_iff.1 hj).1];exact hj
 | y::l,k+1,x,j,u,h,hj=>by
  have hj':j<sz:=by have:=(List.getElem?_eq_some_iff.1 hj).1;rw [hsz] at this;exact this
  rw [List.flatMap_cons,List.getElem?_append_right (by rw [hsz,Nat.succ_mul];omega),hsz,show (k+1)*sz+j-sz=k*sz+j by rw [Nat.succ_mul];omega];exact bC hsz (by simpa using h) hj
theorem gX {α:Type} {enc:α->List Value} {sz:Nat} (hsz: ∀ x,(enc x).length=sz) (l:List α):(l.flatMap enc).length=l.length*sz:=by
 induction l with
 | nil=>simp
 | cons y l ih=>rw [List.flatMap_cons,List.length_append,ih,hsz,List.length_cons,Nat.succ_mul];omega
theorem zI {t e:TypeId} {b off n c s:Nat} {i:Int} {kd:IntKind} (k:Nat) (hu:P.underlying t=some (.slice e)) (hz:(P.info? e).map (·.size)=some s) (hik:i=k) (hk:k<n):
  (Instr.indexAt t (.slice (some ⟨b,off,none⟩) n c) (.int kd i)).run P w= .ok (.pointer (some ⟨b,off+k*s,none⟩)) w:=by
 subst hik;obtain ⟨q,hq,hs⟩: ∃ q,P.info? e=some q/\q.size=s:=by
  cases h:P.info? e with
  | none=>simp [h] at hz
  | some q=>exact ⟨q,rfl,by simpa [h] using hz⟩
 have hkk:(0:Int)<=k/\(k:Int)<n:=by omega
 simp [Instr.indexAt,asIntOf,Sem.run_bind,run_underlying hu,Result.andThen,hkk,hk,sizeOf,typeInfo,hq,hs,Go.WideShapes.add_plain]
theorem fD {t e:TypeId} {b off n s:Nat} {i:Int} {kd:IntKind} (k:Nat) (hu:P.underlying t=some (.array n e)) (hz:(P.info? e).map (·.size)=some s) (hik:i=k) (hk:k<n):
  (Instr.indexAt t (.pointer (some ⟨b,off,none⟩)) (.int kd i)).run P w= .ok (.pointer (some ⟨b,off+k*s,none⟩)) w:=by
 subst hik;obtain ⟨q,hq,hs⟩: ∃ q,P.info? e=some q/\q.size=s:=by
  cases h:P.info? e with
  | none=>simp [h] at hz
  | some q=>exact ⟨q,rfl,by simpa [h] using hz⟩
 have hkk:(0:Int)<=k/\(k:Int)<n:=by omega
 simp [Instr.indexAt,asIntOf,Sem.run_bind,run_underlying hu,Result.andThen,hkk,hk,sizeOf,typeInfo,hq,hs,Go.WideShapes.add_plain,Instr.sureAddr]
def wU (P:Program) (N:Nat) (ops:Array Oper) (C:World->Prop) (Qa:Act->Prop) (rest:List Oper) (l:Slots):Prop:= ∀ a,Fr N l a->wpQuiet P ops C Qa rest a
theorem dY {id:Nat} {os:List Oper} (S:St B w0 w fs) (hm:P.follows .mixedOrders=true) (hB:Region.lexB .any os.toArray=true)
  (h:wU P N os.toArray (λw'=>St B w0 w' fs) (λa'=> ∀ w',St B w0 w' fs->Q .normal a' w') os l):wC P N (.region id os.toArray true) Q l w:=λa F=>
 wp_region_quiet (C:=λw'=>St B w0 w' fs) hm hB S.drew (by simpa using h a F)
theorem Ll {C:World->Prop} {Qa:Act->Prop} (hw:Wanted N ops l o true) (hd:o.dst=some d) (hN:Nat.blt d N=true) (hy: ∀ w,C w->fV P N l o w v) (h:wU P N ops C Qa rest ((d,v)::l)):wU P N ops C Qa (o::rest) l:=λa F=>by
 unfold wpQuiet;rw [if_pos (hw a F)];refine ⟨v,λw hC=>?_,by rw [hd];exact h _ (F.put hN v)⟩;unfold Oper.quietAt;rw [hy w hC a F];exact ⟨rfl,rfl⟩
theorem VT {C:World->Prop} {Qa:Act->Prop} (hw:Wanted N ops l o false) (hd:o.dst=some d) (hN:Nat.blt d N=true) (h:wU P N ops C Qa rest ((d,undef)::l)):wU P N ops C Qa (o::rest) l:=λa F=>by
 unfold wpQuiet;rw [if_neg (by rw [hw a F];simp),hd];exact h _ (F.put hN undef)
theorem VU {C:World->Prop} {Qa:Act->Prop} {f:FuncId} {vs:List Value} (hw:Wanted N ops l o true) (hd:o.dst=some d) (hN:Nat.blt d N=true) (he: ∀ w,Enter P N l o w f vs) (hc: ∀ w,C w->Calls P f vs.toArray w λe w'=>e= .returned v/\C w')
  (h:wU P N ops C Qa rest ((d,v)::l)):wU P N ops C Qa (o::rest) l:=λa F=>by
 unfold wpQuiet;rw [if_pos (hw a F)];refine ⟨v,λw hC=>?_,by rw [hd];exact h _ (F.put hN v)⟩;unfold Oper.quietAt;rw [he w a F];exact ⟨rfl,hc w hC⟩
theorem fC (h: ∀ w',St B w0 w' fs->wQ N Q .normal l w'):wU P N ops (λw'=>St B w0 w' fs) (λa'=> ∀ w',St B w0 w' fs->Q .normal a' w') [] l:=λa F w' S=>h w' S a F
def wA (P:Program) (N:Nat) (ops:Array Oper) (Q:Exit->Act->World->Prop) (C:World->Prop) (n:Nat) (listed:Array Bool) (l:Slots) (w:World):Prop:= ∀ a,Fr N l a->wpAnyH P .any ops (NoPanic Q) C n listed a w
theorem alg {id:Nat} {os:List Oper} {C:World->Prop} (hm:P.follows .mixedOrders=true) (h:wA P N os.toArray Q C os.toArray.size (Array.replicate os.toArray.size false) l w.drew):wC P N (.region id os.toArray true) Q l w:=λa F=>
 wp_region_noPanic (wp_region_held hm (h a F))
theorem Cg {C:World->Prop} {n i:Nat} {listed listed':Array Bool} (hi:ops[i]? =some o) (hs:Region.noSelect ops=true) (hf:Region.free .any ops listed i=true) (hr:(Region.ready .any ops listed).contains i=true) (hS:C w)
  (hl:listed.setIfInBounds i true=listed') (hw:Wanted N ops l o true) (hd:o.dst=some d) (hN:Nat.blt d N=true) (hy: ∀ w,C w->fV P N l o w v) (h:wA P N ops Q C n listed' ((d,v)::l) w):wA P N ops Q C (n+1) listed l w:=λa F=>by
 subst hl;refine wpAnyH_take hi hs hf hr (λc a w h=>h) (.inl ⟨hw a F,λw hC=>hy w hC a F⟩) hS ?_;rw [hd];exact h _ (F.put hN v)
theorem zh {C:World->Prop} {n i:Nat} {listed listed':Array Bool} (hi:ops[i]? =some o) (hs:Region.noSelect ops=true) (hf:Region.free .any ops listed i=true) (hr:(Region.ready .any ops listed).contains i=true) (hS:C w)
  (hl:listed.setIfInBounds i true=listed') (hw:Wanted N ops l o false) (hd:o.dst=some d) (hN:Nat.blt d N=true) (h:wA P N ops Q C n listed' ((d,undef)::l) w):wA P N ops Q C (n+1) listed l w:=λa F=>by
 subst hl;refine wpAnyH_take (v:=undef) hi hs hf hr (λc a w h=>h) (.inr ⟨hw a F,rfl⟩) hS ?_;rw [hd];exact h _ (F.put hN undef)
def wN (P:Program) (N:Nat) (ops:Array Oper) (Q:Exit->Act->World->Prop) (i:Nat) (l:Slots) (w:World) (K:Act->World->Prop):Prop:= ∀ a,Fr N l a->wpOp P ops (NoPanic Q) i K a w
theorem afF {C:World->Prop} {n:Nat} {listed:Array Bool} (hr:Region.ready .any ops listed=[]) (h:wQ N Q .normal l w):wA P N ops Q C n listed l w:=λa F=>wpAnyH_done hr (NoPanic.normal (h a F)) n
theorem ahY {C:World->Prop} {n i:Nat} {listed listed':Array Bool} (hi:ops[i]? =some o) (hl:listed.setIfInBounds i true=listed') (hw:Wanted N ops l o true) (hd:o.dst=some d) (hN:Nat.blt d N=true) (hy:Does P N l o w v w') (hC:C w') (h:wA P N ops Q C n listed' ((d,v)::l) w'):
  wN P N ops Q i l w (λa' w'=>C w'/\wpAnyH P .any ops (NoPanic Q) C n (listed.setIfInBounds i true) a' w'):=λa F=>by
 subst hl;unfold wpOp;simp only [hi];rw [if_pos (hw a F)];refine .inl ?_;unfold Oper.wp;rw [hy a F];refine ⟨hC,?_⟩;rw [hd];exact h _ (F.put hN v)
theorem alh {C:World->Prop} {n i:Nat} {listed listed':Array Bool} (hi:ops[i]? =some o) (hl:listed.setIfInBounds i true=listed') (hw:Wanted N ops l o true) (hd:o.dst=none) (hy:Eff P N l o w w') (hC:C w') (h:wA P N ops Q C n listed' l w'):
  wN P N ops Q i l w (λa' w'=>C w'/\wpAnyH P .any ops (NoPanic Q) C n (listed.setIfInBounds i true) a' w'):=λa F=>by
 subst hl;unfold wpOp;simp only [hi];rw [if_pos (hw a F)];refine .inl ?_;unfold Oper.wp;rw [hy a F];refine ⟨hC,?_⟩;rw [hd];exact h _ F
theorem afG {C:World->Prop} {n i:Nat} {listed listed':Array Bool} {f:FuncId} {vs:List Value} {R:Ending->World->Prop} (hi:ops[i]? =some o) (hl:listed.setIfInBounds i true=listed') (hw:Wanted N ops l o true) (hd:o.dst=some d) (hN:Nat.blt d N=true) (he:Enter P N l o w f vs) (hc:Calls P f vs.toArray w R)
  (h: ∀ e w',R e w'-> ∃ v,e= .returned v/\C w'/\wA P N ops Q C n listed' ((d,v)::l) w'):
  wN P N ops Q i l w (λa' w'=>C w'/\wpAnyH P .any ops (NoPanic Q) C n (listed.setIfInBounds i true) a' w'):=λa F=>by
 subst hl;unfold wpOp;simp only [hi];rw [if_pos (hw a F)];refine .inl ?_;unfold Oper.wp;rw [he a F];refine hc.mono λe w' hr=>?_;obtain ⟨v,rfl,hC,hv⟩:=h e w' hr;refine ⟨hC,?_⟩;rw [hd];exact hv _ (F.put hN v)
theorem Gp {id n:Nat} {os:List Oper} {C:World->Prop} {listed:Array Bool} (hm:P.follows .mixedOrders=true) (hn:os.length=n) (hl:Array.replicate n false=listed) (h:wA P N os.toArray Q C n listed l w.drew):wC P N (.region id os.toArray true) Q l w:=by
 subst hn;subst hl;exact alg hm (by simpa using h)
def wK (P:Program) (N:Nat) (ops:Array Oper) (Q:Exit->Act->World->Prop) (C:World->Prop) (n i:Nat) (listed:Array Bool) (l:Slots) (w:World):Prop:=wN P N ops Q i l w (λa' w'=>C w'/\wpAnyH P .any ops (NoPanic Q) C n (listed.setIfInBounds i true) a' w')
theorem MZ {C:World->Prop} {n:Nat} {listed:Array Bool} {r:Nat} {rs:List Nat} (hr:Region.ready .any ops listed=r::rs) (h: ∀ i∈r::rs,wK P N ops Q C n i listed l w):wA P N ops Q C (n+1) listed l w:=λa F=>
 wpAnyH_all hr (by simp) λi hi=>h i hi a F
theorem ali {C:World->Prop} {n:Nat} {listed:Array Bool} {r:Nat} (hr:Region.ready .any ops listed=[r]) (h:wK P N ops Q C n r listed l w):wA P N ops Q C (n+1) listed l w:=MZ hr λi hi=>by
 rcases List.mem_singleton.1 hi with rfl
 exact h
theorem gU {C:World->Prop} {n:Nat} {listed:Array Bool} {r s:Nat} (hr:Region.ready .any ops listed=[r,s]) (h:wK P N ops Q C n r listed l w) (h':wK P N ops Q C n s listed l w):wA P N ops Q C (n+1) listed l w:=MZ hr λi hi=>by
 rcases List.mem_cons.1 hi with rfl | hi
 ·exact h
 rcases List.mem_singleton.1 hi with rfl
 exact h'
theorem Pm {C:World->Prop} {n:Nat} {listed:Array Bool} {r s t:Nat} (hr:Region.ready .any ops listed=[r,s,t]) (h:wK P N ops Q C n r listed l w) (h':wK P N ops Q C n s listed l w) (h'':wK P N ops Q C n t listed l w):wA P N ops Q C (n+1) listed l w:=MZ hr λi hi=>by
 rcases List.mem_cons.1 hi with rfl | hi
 ·exact h
 rcases List.mem_cons.1 hi with rfl | hi
 ·exact h'
 rcases List.mem_singleton.1 hi with rfl
 exact h''
section
variable {C:World->Prop} {n i:Nat} {listed listed':Array Bool}
theorem gY (hi:ops[i]? =some o) (hl:listed.setIfInBounds i true=listed') (hw:Wanted N ops l o true) (hd:o.dst=some d) (hN:Nat.blt d N=true) (hy:fV P N l o w v) (h:C w/\wA P N ops Q C n listed' ((d,v)::l) w):wK P N ops Q C n i listed l w:=
 ahY hi hl hw hd hN hy h.1 h.2
theorem jJ {V:Nat->Value} {row:Array Value} {t:TypeId} (hi:ops[i]? =some o) (hl:listed.setIfInBounds i true=listed') (S:St B w0 w fs) (hw:Wanted N ops l o true) (hd:o.dst=some d) (hN:Nat.blt d N=true) (hy:Does P N l o w (V w.heap.size) (w.alloc (.cells row t)))
  (h: ∀ b w',St B w0 w' (.blk b row t::fs)->C w'/\wA P N ops Q C n listed' ((d,V b)::l) w'):wK P N ops Q C n i listed l w:=
 ahY hi hl hw hd hN hy (h _ _ S.alloc).1 (h _ _ S.alloc).2
theorem sG {ty t:TypeId} {x y:Operand} {b off m:Nat} {cs row row':Array Value} (hi':ops[i]? =some o) (hl:listed.setIfInBounds i true=listed') (j:Nat) (S:St B w0 w fs) (hw:Wanted N ops l o true) (hd:o.dst=none) (ho:o.op= .store ty x y) (hx:ev l x=some (.pointer (some ⟨b,off,none⟩))) (hy:ev l y=some v)
  (hi:fs[j]? =some (.blk b row t)) (hv:v.cells=cs) (hz:(P.info? ty).map (·.size)=some m) (hm:cs.size=m) (h1: ∀ u∈cs.toList,u.oneCell'=true) (hr:off+m<=row.size) (hrow:dn row off cs.toList=row') (hfs:fs.set j (.blk b row' t)=fs')
  (h: ∀ w',St B w0 w' fs'->C w'/\wA P N ops Q C n listed' l w'):wK P N ops Q C n i listed l w:=by
 subst hrow;subst hfs;have hk:=h _ (S.set j hi (jr b cs.toList off w) (jq cs.toList off (S.blk j hi)));exact alh hi' hl hw hd (MU ho hx hy (MX hv hz hm h1 (S.there j hi off m hr))) hk.1 hk.2
theorem vF {f:FuncId} {vs:List Value} {R:Ending->World->Prop} (hi:ops[i]? =some o) (hl:listed.setIfInBounds i true=listed') (hw:Wanted N ops l o true) (hd:o.dst=some d) (hN:Nat.blt d N=true) (he:Enter P N l o w f vs) (hc:Calls P f vs.toArray w R)
  (h: ∀ e w',R e w'-> ∃ v,e= .returned v/\C w'/\wA P N ops Q C n listed' ((d,v)::l) w'):wK P N ops Q C n i listed l w:=afG hi hl hw hd hN he hc h
end
end
section
variable {P:Program} {ops:Array Oper} {Q:Exit->Act->World->Prop} {C:World->Prop} {n:Nat}
def Ay (P:Program) (ops:Array Oper) (Q:Exit->Act->World->Prop) (C:World->Prop) (n:Nat):Nat->Array Bool->Act->World->Prop
 | 0,listed,a,w=>Region.ready .any ops listed=[]/\Q .normal a w
 | fuel+1,listed,a,w=>
  (Region.ready .any ops listed=[]->Q .normal a w)/\
  ∀ i∈Region.ready .any ops listed,wpOp P ops Q i (λa' w'=>((listed.setIfInBounds i true).getD n true=false->C w')/\Ay P ops Q C n fuel (listed.setIfInBounds i true) a' w') a w
theorem Jj: ∀ (fuel:Nat) (listed:Array Bool) (a:Act) (w:World),Ay P ops Q C n fuel listed a w->wpAny P .any ops Q fuel listed a w
 | 0,_,_,_,h=>h
 | fuel+1,_,_,_,h=>⟨h.1,λi hi=>wpOp_mono (λa' w' h'=>Jj fuel _ a' w' h'.2) (h.2 i hi)⟩
def vV (ops:Array Oper) (n i:Nat):Bool:=match ops[n]? with | none=>false | some o=>o.after.any λe=>Region.binds .any e&&e.on==i
theorem Ch {i:Nat} {listed:Array Bool} (hw:vV ops n i=true) (hi:listed.getD i true=false):n ∉ Region.ready .any ops listed:=by
 intro hr;obtain ⟨_,o,ho,hall⟩:=mem_ready.1 hr;unfold vV at hw;rw [ho] at hw;obtain ⟨e,he,hb⟩:=Array.any_eq_true'.1 hw;simp only [Bool.and_eq_true,beq_iff_eq] at hb;have h1:=hall e he hb.1;rw [hb.2] at h1
 rcases Nat.lt_or_ge i listed.size with h' | h'
 ·simp [h'] at hi h1;rw [hi] at h1;cases h1
 simp [Array.getElem?_eq_none h'] at hi
theorem Dy {i:Nat} {oi:Oper} {v:Value} (hi:ops[i]? =some oi) (hsel: ∀ (j:Nat) (o:Oper) cs b,ops[j]? =some o->o.op≠ .select cs b)
  (hQ: ∀ c a w,Q (.panic c) (a.put oi.dst v) w->Q (.panic c) a w) (hni:vV ops n i=true) (hne:n≠i):
  ∀ (fuel:Nat) (listed:Array Bool) (a:Act) (w:World),
   (∀ j oj,ops[j]? =some oj->j≠i->listed.getD j true=false->(∀ e∈oj.after,Region.binds .any e=true->e.on≠i)->oi.apart ops oj=true)->
   i∈Region.ready .any ops listed->listed.getD n true=false->YieldsIf P ops C oi v a->C w->
   Ay P ops Q C n fuel (listed.setIfInBounds i true) (a.put oi.dst v) w->Ay P ops Q C n (fuel+1) listed a w:=by
 intro fuel
 induction fuel with
 | zero=>
  intro listed a w _ hr hnl hy hS H;refine ⟨λh=>(by rw [h] at hr;cases hr),λj hj=>?_⟩;by_cases hji:j=i
  ·subst hji;exact hy.wpOp hi hS ⟨λ_=>hS,H⟩
  have:=ready_mono hj hji;rw [H.1] at this
  cases this
 | succ fuel ih=>
  intro listed a w hfree hr hnl hy hS H;refine ⟨λh=>(by rw [h] at hr;cases hr),λj hj=>?_⟩;by_cases hji:j=i
  ·subst hji;exact hy.wpOp hi hS ⟨λ_=>hS,H⟩
  have h1:=H.2 j (ready_mono hj hji);obtain ⟨hjun,oj,hoj,hall⟩:=mem_ready.1 hj;have ajm:=(mem_ready.1 hr).1;have ari:listed.getD i true=false:=by
   rcases Nat.lt_or_ge i listed.size with h' | h'
   ·simp [h'] at ajm⊢;exact ajm
   simp [Array.getElem?_eq_none h'] at ajm
  have hjn:j≠n:=λe=>Ch hni ari (e▸hj);have hnot: ∀ e∈oj.after,Region.binds .any e=true->e.on≠i:=λe he hb heq=>by
   have h1:=hall e he hb;have h0:=(mem_ready.1 hr).1;rw [heq] at h1
   rcases Nat.lt_or_ge i listed.size with h' | h'
   ·simp [h'] at h0 h1;rw [h0] at h1;cases h1
   simp [Array.getElem?_eq_none h'] at h0
  have h2:=wpOp_putIf hoj (hfree j oj hoj hji hjun hnot) (λcs b=>hsel i oi cs b hi) (λcs b=>hsel j oj cs b hoj) hQ hy h1;have hfree': ∀ k ok,ops[k]? =some ok->k≠i->(listed.setIfInBounds j true).getD k true=false->
    (∀ e∈ok.after,Region.binds .any e=true->e.on≠i)->oi.apart ops ok=true:=λk ok hk hki hun hno=>by
   refine hfree k ok hk hki ?_ hno;by_cases hjk:j=k
   ·subst hjk;exact hjun
   rw [getD_set_ne true hjk] at hun;exact hun
  have anY:(listed.setIfInBounds j true).getD n true=false:=by rw [getD_set_ne true hjn];exact hnl
  refine wpOp_mono (λa' w' h3=>?_) h2;have hC:C w':=h3.2.1 (by rw [Array.setIfInBounds_comm _ _ (Ne.symm hji),getD_set_ne true (Ne.symm hne)];exact anY);refine ⟨λ_=>hC,ih (listed.setIfInBounds j true) a' w' hfree' (ready_mono hr (Ne.symm hji)) anY h3.1 hC ?_⟩;rw [Array.setIfInBounds_comm _ _ hji];exact h3.2.2
theorem Bt: ∀ (l:List Oper) (k:Nat) (listed:Array Bool) (a:Act) (w:World),(∀ j,l[j]? =ops[k+j]?)->(listed.setIfInBounds k true).getD n true=true\/l=[]->(listed.getD n true=true\/k=n)->n<listed.size->
  Region.seqB .any ops l.length k listed=true->wpList P ops Q l a w->Ay P ops Q C n l.length listed a w
 | [],_,_,_,_,_,_,_,_,hB,h=>⟨by simpa [Region.seqB] using hB,h⟩
 | o::l,k,listed,a,w,hl,_,hk,hnz,hB,h=>by
  have h0:ops[k]? =some o:=by simpa using (hl 0).symm
  simp only [List.length_cons,Region.seqB,Bool.and_eq_true,decide_eq_true_eq] at hB;refine ⟨λh1=>(by rw [hB.1] at h1;cases h1),λi hi=>?_⟩;rw [hB.1] at hi;have hik:i=k:=by simpa using hi
  subst hik;have hw:wpOp P ops Q i (wpList P ops Q l) a w:=by unfold wpOp;simp only [h0];exact h
  have hn2:(listed.setIfInBounds i true).getD n true=true:=by
   rcases hk with hk | hk
   ·by_cases e:i=n
    ·subst e;simp [Array.getD_eq_getD_getElem?,hnz]
    rw [getD_set_ne true e];exact hk
   subst hk;simp [Array.getD_eq_getD_getElem?,hnz]
  refine wpOp_mono (λa' w' h'=>⟨λh=>(by rw [hn2] at h;cases h),Bt l (i+1) _ a' w' (λj=>by have:=hl (j+1);simpa [Nat.add_assoc,Nat.add_comm 1 j] using this) ?_ (.inl hn2) (by simpa using hnz) hB.2 h'⟩) hw;by_cases e:i+1=n
  ·left;subst e;simp [Array.getD_eq_getD_getElem?]
  left;rw [getD_set_ne true e];exact hn2
end
section
variable {P:Program} {N:Nat} {l l':Slots} {a:Act} {w w' w0:World} {B:Nat} {fs fs':List Fact} {ops:Array Oper} {o:Oper} {Q:Exit->Act->World->Prop} {v:Value} {d:Nat} {C:World->Prop} {n m i:Nat} {listed listed':Array Bool}
def wG (P:Program) (N:Nat) (ops:Array Oper) (Q:Exit->Act->World->Prop) (C:World->Prop) (n m:Nat) (listed:Array Bool) (l:Slots) (w:World):Prop:= ∀ a,Fr N l a->Ay P ops (NoPanic Q) C n m listed a w
def wH (P:Program) (N:Nat) (ops:Array Oper) (Q:Exit->Act->World->Prop) (C:World->Prop) (n m i:Nat) (listed:Array Bool) (l:Slots) (w:World):Prop:=
 wN P N ops Q i l w (λa' w'=>((listed.setIfInBounds i true).getD n true=false->C w')/\Ay P ops (NoPanic Q) C n m (listed.setIfInBounds i true) a' w')
theorem zi {id:Nat} {os:List Oper} (n:Nat) (hm:P.follows .mixedOrders=true) (hn:os.length=m) (hl:Array.replicate m false=listed) (h:wG P N os.toArray Q C n m listed l w.drew):wC P N (.region id os.toArray true) Q l w:=λa F=>by
 subst hn;subst hl;exact wp_region_noPanic (wp_region_any hm (Jj _ _ _ _ (by simpa using h a F)))
theorem Ci (hi:ops[i]? =some o) (hs:Region.noSelect ops=true) (hf:Region.free .any ops listed i=true) (hr:(Region.ready .any ops listed).contains i=true) (hnl:listed.getD n true=false) (hni:vV ops n i=true) (hne:Nat.beq n i=false) (hS:C w)
  (hl:listed.setIfInBounds i true=listed') (hw:Wanted N ops l o true) (hd:o.dst=some d) (hN:Nat.blt d N=true) (hy: ∀ w,C w->fV P N l o w v) (h:wG P N ops Q C n m listed' ((d,v)::l) w):wG P N ops Q C n (m+1) listed l w:=λa F=>by
 subst hl;refine Dy hi (Region.noSelect_spec hs) (λc a w h=>h) hni (λe=>by subst e;simp at hne) m listed a w (Region.free_spec hi hf) (by simpa using hr) hnl (.inl ⟨hw a F,λw hC=>hy w hC a F⟩) hS ?_;rw [hd];exact h _ (F.put hN v)
theorem afH (hi:ops[i]? =some o) (hs:Region.noSelect ops=true) (hf:Region.free .any ops listed i=true) (hr:(Region.ready .any ops listed).contains i=true) (hnl:listed.getD n true=false) (hni:vV ops n i=true) (hne:Nat.beq n i=false) (hS:C w)
  (hl:listed.setIfInBounds i true=listed') (hw:Wanted N ops l o false) (hd:o.dst=some d) (hN:Nat.blt d N=true) (h:wG P N ops Q C n m listed' ((d,undef)::l) w):wG P N ops Q C n (m+1) listed l w:=λa F=>by
 subst hl;refine Dy (v:=undef) hi (Region.noSelect_spec hs) (λc a w h=>h) hni (λe=>by subst e;simp at hne) m listed a w (Region.free_spec hi hf) (by simpa using hr) hnl (.inr ⟨hw a F,rfl⟩) hS ?_;rw [hd];exact h _ (F.put hN undef)
theorem aaX {rs:List Nat} (hr:Region.ready .any ops listed=rs) (hne:rs.isEmpty=false) (h: ∀ i∈rs,wH P N ops Q C n m i listed l w):wG P N ops Q C n (m+1) listed l w:=λa F=>
 ⟨λh0=>(by rw [hr] at h0;subst h0;cases hne),λi hi=>h i (hr▸hi) a F⟩
theorem eH {r:Nat} (hr:Region.ready .any ops listed=[r]) (h:wH P N ops Q C n m r listed l w):wG P N ops Q C n (m+1) listed l w:=aaX hr rfl λi hi=>by
 rcases List.mem_singleton.1 hi with rfl
 exact h
theorem aaY {r s:Nat} (hr:Region.ready .any ops listed=[r,s]) (h:wH P N ops Q C n m r listed l w) (h':wH P N ops Q C n m s listed l w):wG P N ops Q C n (m+1) listed l w:=aaX hr rfl λi hi=>by
 rcases List.mem_cons.1 hi with rfl | hi
 ·exact h
 rcases List.mem_singleton.1 hi with rfl
 exact h'
theorem iK (h:wQ N Q .normal l w):wQ N (NoPanic Q) .normal l w:=λa F=>NoPanic.normal (h a F)
theorem eG {rest:List Oper} {k:Nat} (hB:Region.seqB .any ops m n listed=true) (hz:Nat.blt n listed.size=true) (hrest:ops.toList.drop n=rest) (hm:rest.length=m) (h:wL P N ops (NoPanic Q) rest l w) (hk:k=m:=by rfl):wG P N ops Q C n m listed l w:=λa F=>by
 subst hrest;subst hm;have hz':n<listed.size:=by simpa [Nat.blt_eq] using hz
 refine Bt _ n listed a w (λj=>by simp [List.getElem?_drop]) (.inl ?_) (.inr rfl) hz' hB (h a F);simp [Array.getD_eq_getD_getElem?,hz']
section
theorem aau (hi:ops[i]? =some o) (hl:listed.setIfInBounds i true=listed') (hw:Wanted N ops l o true) (hd:o.dst=some d) (hN:Nat.blt d N=true) (hy:Does P N l o w v w') (h:C w'/\wG P N ops Q C n m listed' ((d,v)::l) w'):wH P N ops Q C n m i listed l w:=λa F=>by
 subst hl;unfold wpOp;simp only [hi];rw [if_pos (hw a F)];refine .inl ?_;unfold Oper.wp;rw [hy a F];refine ⟨λ_=>h.1,?_⟩;rw [hd];exact h.2 _ (F.put hN v)
theorem lK {V:Nat->Value} {row:Array Value} {t:TypeId} (hi:ops[i]? =some o) (hl:listed.setIfInBounds i true=listed') (S:St B w0 w fs) (hw:Wanted N ops l o true) (hd:o.dst=some d) (hN:Nat.blt d N=true) (hy:Does P N l o w (V w.heap.size) (w.alloc (.cells row t)))
  (h: ∀ b w',St B w0 w' (.blk b row t::fs)->C w'/\wG P N ops Q C n m listed' ((d,V b)::l) w'):wH P N ops Q C n m i listed l w:=aau hi hl hw hd hN hy (h _ _ S.alloc)
theorem kJ {x y:Operand} {t e:TypeId} {z:Value} {size bytes k q c Br:Nat} {A:Option Addr} {xs news xs':List Value} {sv:Value} (hi':ops[i]? =some o) (hl:listed.setIfInBounds i true=listed') (j:Nat) (S:St B w0 w fs) (hw:Wanted N ops l o true) (hd:o.dst=some d) (hN:Nat.blt d N=true)
  (ho:o.op= .call { callee:= .builtin .append,args:= #[x,y],argTypes:= #[t,t] }) (hx:ev l x=some sv) (hy:ev l y=some (.slice A q c)) (hi:fs[j]? =some (.own e size sv k xs)) (hr:Rd w Br size A q news)
  (ht:P.underlying t=some (.slice e)) (XE:(P.info? e).map (λi=>(i.zero,i.size,i.bytes))=some (some z,size,bytes)) (hzs:z.cells.size=size) (hsz:0<size) (h1: ∀ u∈news,u.oneCell'=true) (h63:k+q<=maxLen) (hbytes:(k+q)*bytes<=140737488355328)
  (hxs:xs++news=xs') (h: ∀ A' c' w',k+q<=c'->c'<=maxLen->St B w0 w' (fs.set j (.own e size (.slice A' (k+q) c') (k+q) xs'))->C w'/\wG P N ops Q C n m listed' ((d,.slice A' (k+q) c')::l) w'):wH P N ops Q C n m i listed l w:=by
 subst hxs;obtain ⟨j0,hj0,hz,hs,hb⟩:=info_parts XE;obtain ⟨v',w',hrun,h2,h3,h4⟩:=tY (P:=P) w B t o.type e j0 z size bytes ht hj0 hz hs hb hzs hsz sv k xs (S.own j hi) Br A q c news hr h1 h63 hbytes S.base;obtain ⟨A',c',rfl,hc1,hc2⟩:=lX h2;exact aau hi' hl hw hd hN (Ew (xs:=[x,y]) (vs:=[sv,.slice A q c]) ho ⟨hx,hy,trivial⟩ (λcs=>by simp [builtin,hrun,Sem.run_bind,Result.andThen])) (h A' c' w' hc1 hc2 (S.append j hi h3 h2 h4))
theorem kQ {f:FuncId} {vs:List Value} {R:Ending->World->Prop} (hi:ops[i]? =some o) (hl:listed.setIfInBounds i true=listed') (hw:Wanted N ops l o true) (hd:o.dst=some d) (hN:Nat.blt d N=true) (he:Enter P N l o w f vs) (hc:Calls P f vs.toArray w R)
  (h: ∀ e w',R e w'-> ∃ v,e= .returned v/\C w'/\wG P N ops Q C n m listed' ((d,v)::l) w'):wH P N ops Q C n m i listed l w:=λa F=>by
 subst hl;unfold wpOp;simp only [hi];rw [if_pos (hw a F)];refine .inl ?_;unfold Oper.wp;rw [he a F];refine hc.mono λe w' hr=>?_;obtain ⟨v,rfl,hC,hv⟩:=h e w' hr;refine ⟨λ_=>hC,?_⟩;rw [hd];exact hv _ (F.put hN v)
end
end
end Go.Proofs.YtnhimdkpkmbhlaaGreatDoor
