import Derived.Test.YtcomidffhiilcaaGreatDoorRows
import Derived.WalkKit
import Derived.ProofKit
import Derived.OpenShut
import Derived.SizedLaws
import Derived.WalkSpells
import Derived.WalkLawsBesides
import Derived.Handy
import Derived.Deep.QuietTactic
import Derived.BigQuiet
import Derived.Lib.Hide
import Derived.Maps.AppendAt
import Derived.Deep.AppendLies
import Derived.RegionTactic
import Derived.OwnWalk
import Derived.Laws.Tables
import Derived.Deep.MidRow
import Derived.StillTailTactics
import Derived.OrdersHeld
import Derived.Deep.RegionHeld3
import Derived.Laws.IdiomCopy
import Derived.ChangeKeysEq
import Derived.Maps.OwnSet
set_option maxRecDepth 100000
set_option maxHeartbeats 8000000
set_option linter.unusedSimpArgs false
set_option linter.unusedVariables false
namespace Go.Proofs.YtcomidffhiilcaaGreatDoor
section
open ChangeShapes WideShapes ChangeAt RowKit
def dW {α β:Type} (R:α->β->Prop):List α->List β->Prop
 | [],[]=>True
 | a::l1,b::l2=>R a b/\dW R l1 l2
 | _,_=>False
theorem dW.yD {α β:Type} {R:α->β->Prop} {l:List α} {b:β} {l2:List β} (h:dW R l (b::l2)): ∃ a l1,l=a::l1/\R a b/\dW R l1 l2:=by
 cases l with
 | nil=>exact absurd h id
 | cons a l1=>exact ⟨a,l1,rfl,h.1,h.2⟩
theorem dW.wR {α β:Type} {R:α->β->Prop} {l:List α} (h:dW R l []):l=[]:=by
 cases l with
 | nil=>rfl
 | cons a l1=>exact absurd h id
theorem dW.len {α β:Type} {R:α->β->Prop}: ∀ {l:List α} {k:List β},dW R l k->l.length=k.length
 | [],[],_=>rfl
 | _::_,_::_,h=>by simp [dW.len h.2]
 | [],_::_,h=>absurd h id
 | _::_,[],h=>absurd h id
theorem dW.app {α β:Type} {R:α->β->Prop}: ∀ {l l':List α} {k k':List β},dW R l k->dW R l' k'->dW R (l++l') (k++k')
 | [],_,[],_,_,h'=>h'
 | _::_,_,_::_,_,h,h'=>⟨h.1,dW.app h.2 h'⟩
 | [],_,_::_,_,h,_=>absurd h id
 | _::_,_,[],_,h,_=>absurd h id
inductive Sh0 where
 | int (k:IntKind)
 | bool
 | str
inductive Sh where
 | at_ (s:Sh0)
 | sl (bytes:Nat) (es:List Sh0)
def Sh.plain:Sh->Option Sh0
 | .at_ s=>some s
 | .sl _ _=>none
def nX (P:Program):List Field->List (List Sh)->Nat->Bool
 | [],[],_=>true
 | f::fs,l::ls,o=>f.offset==o&&P.cellsOf f.type==l.length&&nX P fs ls (o+l.length)
 | _,_,_=>false
def flat (P:Program):Nat->TypeId->Option (List Sh)
 | 0,_=>none
 | n+1,t=>
  match P.underlying t with
  | some (.int k)=>some [.at_ (.int k)]
  | some .bool=>some [.at_ .bool]
  | some .string=>some [.at_ .str]
  | some (.slice e)=>(flat P n e).bind λl=>(l.mapM Sh.plain).bind λes=>if P.cellsOf e==es.length then some [.sl (P.bytesOf e) es] else none
  | some (.struct fs)=>(fs.toList.mapM λf=>flat P n f.type).bind λls=>if nX P fs.toList ls 0&&P.cellsOf t==ls.flatten.length then some ls.flatten else none
  | some (.array m e)=>(flat P n e).bind λl=>if P.cellsOf e==l.length&&P.cellsOf t==m*l.length then some (List.replicate m l).flatten else none
  | _=>none
def Uu (v:Value):Sh0->Prop
 | .int k=> ∃ n,v= .int k n/\(Lit.int k n).wf=true
 | .bool=> ∃ b,v= .bool b
 | .str=> ∃ s:ByteArray,v= .string s/\s.size<=maxLen
def Fits (W:World) (v:Value):Sh->Prop
 | .at_ s=>Uu v s
 | .sl bytes es=>(v= .slice none 0 0)\/ ∃ ad n c,v= .slice (some ad) n c/\n<=c/\c<=maxLen/\c*bytes<=reachBytes/\
   ∀ i,i<n-> ∃ cs:List Value,dW Uu cs es/\(0<es.length->ad.block<W.heap.size)/\ ∀ j u,cs[j]? =some u->W.cell? (ad.add (i*es.length+j))=some u
section
variable {H:Type} {enc:TypeId×Value->H} {P:Program} {w:World}
theorem AX {R:Value->Sh->Prop} {cs:List Value}: ∀ (fs:List Field) (ls:List (List Sh)) (o:Nat),nX P fs ls o=true->
  (∀ (i:Nat) (f:Field) (l:List Sh),fs[i]? =some f->ls[i]? =some l->dW R ((cs.drop f.offset).take (P.cellsOf f.type)) l)->
  dW R ((cs.drop o).take ls.flatten.length) ls.flatten
 | [],[],o,_,_=>by simp [dW]
 | f::fs,l::ls,o,h,hp=>by
  simp only [nX,Bool.and_eq_true,beq_iff_eq] at h;obtain ⟨⟨h1,h2⟩,h3⟩:=h;have h0:=hp 0 f l rfl rfl;have hr:=AX fs ls (o+l.length) h3 (λi f' l' hf hl=>hp (i+1) f' l' (by simpa using hf) (by simpa using hl));rw [h1,h2] at h0;have e:(cs.drop o).take (l++ls.flatten).length=(cs.drop o).take l.length++(cs.drop (o+l.length)).take ls.flatten.length:=by
   rw [List.length_append,List.take_add,List.drop_drop]
  simp only [List.flatten_cons];rw [e];exact dW.app h0 hr
 | [],_::_,_,h,_=>by simp [nX] at h
 | _::_,[],_,h,_=>by simp [nX] at h
theorem EC {R:Value->Sh->Prop} {cs:List Value} {l:List Sh}: ∀ (m o:Nat),(∀ i,i<m->dW R ((cs.drop (o+i*l.length)).take l.length) l)->
  dW R ((cs.drop o).take (m*l.length)) (List.replicate m l).flatten
 | 0,o,_=>by simp [dW]
 | m+1,o,h=>by
  have h0:=h 0 (by omega);have hr:=EC m (o+l.length) (λi hi=>by have:=h (i+1) (by omega);rw [show o+(i+1)*l.length=o+l.length+i*l.length from by rw [Nat.succ_mul];omega] at this;exact this);have e:(cs.drop o).take ((m+1)*l.length)=(cs.drop o).take l.length++(cs.drop (o+l.length)).take (m*l.length):=by
   rw [Nat.succ_mul,Nat.add_comm,List.take_add,List.drop_drop]
  rw [List.replicate_succ,List.flatten_cons,e];simp only [Nat.zero_mul,Nat.add_zero] at h0;exact dW.app h0 hr
theorem AP {e:TypeId}: ∀ {ds:List (DataW H)} {d:DataW H},d∈ds-> ∀ n∈d.weights P e,n∈DataW.weightsAll P e ds
 | d0::ds,d,hd,n,hn=>by
  simp only [DataW.weightsAll,List.mem_append]
  rcases List.mem_cons.1 hd with rfl | hd
  ·exact .inl hn
  exact .inr (AP hd n hn)
 | [],_,hd,_,_=>by simp at hd
theorem J8: ∀ {cs:List Value} {l:List Sh} {es:List Sh0},l.mapM Sh.plain=some es->dW (Fits w) cs l->dW Uu cs es
 | cs,[],es,h,h2=>by simp at h;subst h;rw [dW.wR h2];trivial
 | cs,s::l,es,h,h2=>by
  obtain ⟨a,l1,rfl,ha,h3⟩:=dW.yD h2;rw [List.mapM_cons] at h
  cases s with
  | sl b e=>simp [Sh.plain] at h
  | at_ s=>
   cases hl:l.mapM Sh.plain with
   | none=>simp [Sh.plain,hl] at h
   | some es'=>
    simp [Sh.plain,hl] at h;subst h;exact ⟨ha,J8 hl h3⟩
theorem OH: ∀ (n fuel:Nat) (t:TypeId) (cs:List Value) (x:DataW H×List MemPlace) (l:List Sh),
  DataW.trod enc P w 0 (λ_=>true) true fuel t cs=some x->flat P n t=some l->(∀ b∈x.1.weights P t,b<=reachBytes)->(∀ p∈x.2,p.block<w.heap.size)->dW (Fits w) cs l:=by
 intro n
 induction n with
 | zero=>intro fuel t cs x l _ h;simp [flat] at h
 | succ n ih=>
  intro fuel t cs x l ht hf hz hb;unfold flat at hf
  split at hf
  ·rename_i k hu
   obtain ⟨m,rfl,rfl,hw⟩:=DataW.trod_int hu ht;simp at hf;subst hf;exact ⟨⟨m,rfl,hw⟩,trivial⟩
  ·rename_i hu
   obtain ⟨b,rfl,rfl⟩:=DataW.trod_bool hu ht;simp at hf;subst hf;exact ⟨⟨b,rfl⟩,trivial⟩
  ·rename_i hu
   obtain ⟨s,rfl,rfl,hs⟩:=DataW.trod_string hu ht;simp at hf;subst hf;exact ⟨⟨s,rfl,hs⟩,trivial⟩
  ·rename_i e hu
   simp only [Option.bind_eq_some_iff] at hf;obtain ⟨le,hle,es,hes,hif⟩:=hf
   split at hif
   ·rename_i hce
    simp only [beq_iff_eq] at hce;simp at hif;subst hif
    rcases DataW.trod_slice hu ht with ⟨rfl,_⟩ | ⟨a,len,cap,elems,rest,m,_,rfl,rfl,_,hl,hm,hlen,hel,hsp,_⟩
    ·simp [Fits,dW]
    have hrest:=(hsp rfl).1;refine ⟨.inr ⟨a,len,cap,rfl,hl,hm,?_,λi hi=>?_⟩,trivial⟩
    ·refine hz _ ?_;simp only [DataW.weights,hu];refine List.mem_cons.2 (.inl ?_);simp only [List.length_map,hlen,hrest]
     congr 1
     omega
    have hi1:=hel i hi;have hi2:elems[i]? =some (elems[i]'(by omega)):=List.getElem?_eq_getElem (by omega);rw [hi2,Option.bind_eq_some_iff] at hi1;obtain ⟨ds,hds,htr⟩:=hi1;obtain ⟨_,hdl,hdc⟩:=World.cells?_some hds;have hmem:elems[i]'(by omega)∈elems:=List.getElem_mem _;have hA:=ih _ _ _ _ _ htr hle (λb hb'=>hz b (by
     simp only [DataW.weights,hu];exact List.mem_cons.2 (.inr (List.mem_append.2 (.inl (AP (List.mem_map.2 ⟨_,hmem,rfl⟩) b hb'))))))
     (λp hp=>hb p (by
      simp only [List.mem_append];exact .inr (List.mem_flatMap.2 ⟨_,List.mem_append.2 (.inl hmem),hp⟩)))
    refine ⟨ds,J8 hes hA,λh0=>?_,λj u hj=>?_⟩
    ·refine hb (.cell a.block (a.off+0)) (List.mem_append.2 (.inl ?_));unfold MemPlace.row;refine List.mem_map.2 ⟨0,?_,rfl⟩;rw [List.mem_range,hce];exact Nat.mul_pos (by omega) h0
    have hj':j<P.cellsOf e:=by
     have:=(List.getElem?_eq_some_iff.1 hj).1;omega
    have h1:=hdc j hj';rw [hj] at h1;have e1:(a.add (i*P.cellsOf e)).add j=a.add (i*es.length+j):=by
     rw [hce];unfold Addr.add;by_cases hi:i*es.length=0<;>by_cases hj:j=0<;>simp [hi,hj,Nat.add_assoc]
    rw [e1] at h1;exact h1
   simp at hif
  ·rename_i fs hu
   simp only [Option.bind_eq_some_iff] at hf;obtain ⟨ls,hls,hif⟩:=hf
   split at hif
   ·rename_i hok
    simp only [Bool.and_eq_true,beq_iff_eq] at hok;simp at hif;subst hif;obtain ⟨xs,m,_,rfl,hcl,hxl,hg⟩:=DataW.trod_struct hu ht;have h:=AX (R:=Fits w) (cs:=cs) (P:=P) fs.toList ls 0 hok.1 (λi f l' hfi hli=>by
     have ale:fs[i]? =some f:=by simpa using hfi
     have h1:=hg i f ale;have hil:i<fs.size:=(Array.getElem?_eq_some_iff.1 ale).1;have h2:xs[i]? =some (xs[i]'(by omega)):=List.getElem?_eq_getElem (by omega);rw [h2] at h1;have h3:=mapM_some_get hls i f hfi;rw [hli] at h3;have hmem:xs[i]'(by omega)∈xs:=List.getElem_mem _;refine ih _ _ _ _ _ h1 h3 (λb hb'=>hz b ?_) (λp hp=>hb p (List.mem_flatMap.2 ⟨_,hmem,hp⟩));simp only [DataW.weights,hu];exact DataW.weights_mem_each (j:=i) (t:=f.type) (d:=(xs[i]'(by omega)).1) (by simp [ale]) (by simp [h2]) b hb')
    rw [List.drop_zero,<-hok.2,<-hcl,List.take_length] at h;exact h
   simp at hif
  ·rename_i m e hu
   simp only [Option.bind_eq_some_iff] at hf;obtain ⟨le,hle,hif⟩:=hf
   split at hif
   ·rename_i hok
    simp only [Bool.and_eq_true,beq_iff_eq] at hok;simp at hif;subst hif;obtain ⟨xs,k,_,rfl,hcl,hxl,hg⟩:=DataW.trod_array hu ht;have h:=EC (R:=Fits w) (cs:=cs) (l:=le) m 0 (λi hi=>by
     have h1:=hg i hi;have h2:xs[i]? =some (xs[i]'(by omega)):=List.getElem?_eq_getElem (by omega);rw [h2] at h1;have hmem:xs[i]'(by omega)∈xs:=List.getElem_mem _;have h4:=ih _ _ _ _ _ h1 hle (λb hb'=>hz b (by
      simp only [DataW.weights,hu];exact AP (List.mem_map.2 ⟨_,hmem,rfl⟩) b hb')) (λp hp=>hb p (List.mem_flatMap.2 ⟨_,hmem,hp⟩))
     rw [hok.1] at h4;rw [Nat.zero_add];exact h4)
    rw [List.drop_zero,<-hok.2,<-hcl,List.take_length] at h;exact h
   simp at hif
  simp at hf
end
def Uv (P:Program) (W:World) (v:Value) (t:TypeId):Prop:=
 (∃ base,Value.okWide P W .any base t v)/\ ∃ l,flat P 30 t=some l/\dW (Fits W) v.cells.toList l
section
variable {H:Type} {enc:TypeId×Value->H} {P:Program}
theorem Xe {W:World} {base:Nat}: ∀ {ts:List TypeId} {vs:List Value} {ds:List (DataW H)} {ps:List MemPlace},DataW.TrodAll enc P W 0 (λ_=>true) true ts vs ds ps->
  (∀ (j:Nat) t v,ts[j]? =some t->vs[j]? =some v->Value.okWide P W .any base t v)->(∀ t∈ts,(flat P 30 t).isSome=true)->
  (∀ b∈DataW.weightsEach P ts ds,b<=reachBytes)->(∀ p∈ps,p.block<W.heap.size)->dW (Uv P W) vs ts
 | [],vs,ds,ps,h,_,_,_,_=>by obtain ⟨rfl,_⟩:=trodAll_nil h;trivial
 | t::ts,vs,ds,ps,h,hv,hf,hz,hb=>by
  obtain ⟨v,vs',d,ds',p,q,rfl,rfl,rfl,h0,hr⟩:=trodAll_cons h;refine ⟨⟨⟨base,hv 0 t v rfl rfl⟩,?_⟩,Xe hr (λj t' v' h1 h2=>hv (j+1) t' v' (by simpa using h1) (by simpa using h2)) (λt' h'=>hf t' (List.mem_cons_of_mem _ h'))
   (λb h'=>hz b (by simp only [DataW.weightsEach,List.mem_append];exact .inr h')) (λx hx=>hb x (List.mem_append.2 (.inr hx)))⟩
  have hs:=hf t (List.mem_cons_self ..);obtain ⟨l,hl⟩:=Option.isSome_iff_exists.1 hs;obtain ⟨fuel,ht⟩:=h0;exact ⟨l,hl,OH 30 fuel t _ _ l ht hl (λb h'=>hz b (by simp only [DataW.weightsEach,List.mem_append];exact .inl h')) (λx hx=>hb x (List.mem_append.2 (.inl hx)))⟩
theorem CG (hl:laidOutB P=true) {W W':World} (hb:Below W.heap.size W W'): ∀ {ts:List TypeId} {vs:List Value} {ds:List (DataW H)} {ps:List MemPlace},
  DataW.TrodAll enc P W 0 (λ_=>true) true ts vs ds ps->(∀ t∈ts,P.readableRec t=true/\t<P.types.size)->(∀ p∈ps,p.block<W.heap.size)->
  DataW.TrodAll enc P W' 0 (λb=>decide (b<W.heap.size)) true ts vs ds ps
 | [],vs,ds,ps,h,_,_=>by
  obtain ⟨rfl,rfl,rfl⟩:=trodAll_nil h;exact trodAll_mk0
 | t::ts,vs,ds,ps,h,hr,hlt=>by
  obtain ⟨v,vs',d,ds',p,q,rfl,rfl,rfl,h0,h1⟩:=trodAll_cons h;have hrt:=hr t (List.mem_cons_self ..);exact ⟨p,q,Below.trod hl hrt.1 hrt.2 h0 hb (λx hx=>hlt x (List.mem_append.2 (.inl hx))),
   CG hl hb h1 (λt' h'=>hr t' (List.mem_cons_of_mem _ h')) (λx hx=>hlt x (List.mem_append.2 (.inr hx))),rfl⟩
def Xf (P:Program) (ts:List TypeId):Bool:=laidOutB P&&ts.all λt=>(flat P 30 t).isSome&&P.readableRec t&&decide (t<P.types.size)
end
end
section
open ChangeShapes WideShapes RowKit
theorem kQ {α:Sort _} {a b:α} (h:a=b:=by kernel_rfl):a=b:=h
theorem oQ {p:Prop} (h:p:=by omega):p:=h
theorem dQ {p:Prop} (h:p:=by decide):p:=h
theorem iQ {p:Prop} (h:p:=by simp):p:=h
theorem uQ {p:Prop} (h:p:=by (dsimp only;omega)):p:=h
theorem jQ {p:Prop} (h:p:=by (simp;omega)):p:=h
theorem lQ {p:Prop} (h:p:=by (simp only [maxLen];omega)):p:=h
theorem gQ {p:Prop} (h:p:=by go_grown):p:=h
theorem hQ {p:Prop} (h:p:=by (unfold reachBytes;omega)):p:=h
theorem fQ {s f k:Nat} (h: ∀ (b o:Nat) (w:World),(Instr.fieldAt s (.pointer (some ⟨b,o,none⟩)) f).run Tryz.prog w= .ok (.pointer (some ⟨b,o+k,none⟩)) w:=by (intro _ _ _;kernel_rfl)): ∀ (b o:Nat) (w:World),(Instr.fieldAt s (.pointer (some ⟨b,o,none⟩)) f).run Tryz.prog w= .ok (.pointer (some ⟨b,o+k,none⟩)) w:=h
theorem eQ {f:FuncId} (h:(Tryz.prog.funcs[f]?).map (λq=>(q.name== "runtime.NumGoroutine",q.body.isSome))=some (false,true):=by kernel_rfl) (args:Array Value) (w:World):(callFunc f args).run Tryz.prog w= .ok (.enter f args) w:=by
 cases hf:Tryz.prog.funcs[f]? with
 | none=>rw [hf] at h;cases h
 | some q=>
  rw [hf] at h;simp only [Option.map_some,Option.some.injEq,Prod.mk.injEq] at h;obtain ⟨h1,h2⟩:=h;obtain ⟨c,hc⟩:=Option.isSome_iff_exists.mp h2;have h1:q.name≠ "runtime.NumGoroutine" :=by simpa using h1
  simp [callFunc,hf,h1,hc,mark]
end
section
open ChangeShapes WideShapes ChangeAt RowKit
def Rd (w:World) (B size:Nat) (A:Option Addr) (n:Nat) (xs:List Value):Prop:=
 xs.length=n*size/\(0<n-> ∃ b off,A=some ⟨b,off,none⟩/\b<B/\ ∀ j u,xs[j]? =some u->w.cell? ⟨b,off+j,none⟩=some u)
section
variable {w w':World} {B B' size n:Nat} {A:Option Addr} {xs:List Value}
theorem Rd.none_:Rd w B size A 0 []:=⟨by simp,λh=>absurd h oQ⟩
theorem Rd.keep (h:Rd w B size A n xs) (hk: ∀ p:Addr,p.block<B->w'.cell? p=w.cell? p):Rd w' B size A n xs:=
 ⟨h.1,λhn=>by
  obtain ⟨b,off,e,hb,hc⟩:=h.2 hn;exact ⟨b,off,e,hb,λj u hu=>(hk _ hb).trans (hc j u hu)⟩⟩
theorem Rd.more (h:Rd w B size A n xs) (hB:B<=B'):Rd w B' size A n xs:=
 ⟨h.1,λhn=>by
  obtain ⟨b,off,e,hb,hc⟩:=h.2 hn;exact ⟨b,off,e,by omega,hc⟩⟩
theorem Rd.below {C:Nat} (h:Rd w B size A n xs) (hb:Below C w w') (hC:B<=C):Rd w' B size A n xs:=h.keep λ_ hp=>hb.cell oQ
theorem Rd.on (h:Rd w w.heap.size size A n xs) (hb:Below w.heap.size w w'):Rd w' w'.heap.size size A n xs:=(h.below hb (Nat.le_refl _)).more hb.size
theorem Rd.drewN (h:Rd w B size A n xs) (k:Nat):Rd (w.drewN k) B size A n xs:=h
theorem Rd.alloc (h:Rd w B size A n xs) (hB:B<=w.heap.size) (o:Obj):Rd (w.alloc o) B size A n xs:=h.keep λp hp=>World.cell?_alloc_lt w o p oQ
theorem Rd.setCell (h:Rd w B size A n xs) {p:Addr} (hB:B<=p.block) (u:Value):Rd (w.setCell p u) B size A n xs:=
 h.keep λq hq=>World.cell?_setCell_other w p q u (λe=>by subst e;omega)
theorem Rd.grown (h:Rd w B size A n xs) {row:Option Nat} (hg:w.grownBy w' row) (hB:B<=w.heap.size) (hr: ∀ g,row=some g->B<=g):Rd w' B size A n xs:=
 h.keep λp hp=>World.cell?_of_block (hg.block p.block oQ (λe=>by have:=hr _ e.symm;omega))
theorem Rd.tF {base:Nat} {e:TypeId} {c:Nat} (h:w.ownsRow base e size (.slice A n c) n xs):Rd w w.heap.size size A n xs:=by
 obtain ⟨h1,h2⟩:=h;refine ⟨h1,λhn=>?_⟩
 rcases h2 with ⟨_,h0⟩ | ⟨g,cap,cur,hv,_,hh,hnc,_,hsz,htk⟩
 ·omega
 have hA:A=some ⟨g,0,none⟩:=by injection hv
 subst hA;have hg:g<w.heap.size:=by
  rcases Nat.lt_or_ge g w.heap.size with h | h
  ·exact h
  rw [Array.getElem?_eq_none h] at hh;cases hh
 refine ⟨g,0,rfl,hg,λj u hu=>?_⟩;rw [Nat.zero_add,cell_of_row w g j _ e (0,0) hh];have hj:j<xs.length:=(List.getElem?_eq_some_iff.1 hu).1;rw [<-htk] at hu;rw [List.getElem?_take_of_lt oQ] at hu;simpa using hu
theorem Rd.J9 {base:Nat} {e:TypeId} {c:Nat} (h:w.ownsRow base e size (.slice A n c) n xs):Rd w w.heap.size size A n xs:=Rd.tF h
theorem Rd.afS (w:World) (t:TypeId) (xs:List Value) (n size:Nat) (h:xs.length=n*size):Rd (w.alloc (.cells xs.toArray t)) (w.heap.size+1) size (some ⟨w.heap.size,0,none⟩) n xs:=by
 refine ⟨h,λ_=>⟨_,0,rfl,by omega,λj u hu=>?_⟩⟩;rw [World.cell?_alloc_mark];simpa using hu
theorem Rd.at_ {k:Nat} (h:Rd w B 1 A n xs) (hk:k<n): ∃ b off u,A=some ⟨b,off,none⟩/\b<B/\xs[k]? =some u/\w.cell? ⟨b,off+k,none⟩=some u:=by
 obtain ⟨b,off,e,hb,hc⟩:=h.2 oQ;have hl:k<xs.length:=by have:=h.1;omega
 exact ⟨b,off,xs[k],e,hb,List.getElem?_eq_getElem hl,hc k _ (List.getElem?_eq_getElem hl)⟩
theorem Rd.cut (h:Rd w B size A n xs) {k cap:Nat} (hk:k<=n) (hc:n<=cap):
  Rd w B size (if cap=k then A else A.map (·.add (k*size))) (n-k) (xs.drop (k*size)):=by
 refine ⟨by rw [List.length_drop,h.1,Nat.sub_mul],λhn=>?_⟩;obtain ⟨b,off,rfl,hb,hcell⟩:=h.2 oQ;rw [if_neg oQ];refine ⟨b,off+k*size,?_,hb,λj u hu=>?_⟩
 ·simp only [Option.map_some,Option.some.injEq];unfold Addr.add
  split
  ·simp
  rfl
 rw [Nat.add_assoc];exact hcell _ u (by rw [<-hu,List.getElem?_drop])
end
theorem Cj {W w1:World} (hb:Below W.heap.size W w1):(∀ b o,b<W.heap.size->w1.cell? ⟨b,o,none⟩=W.cell? ⟨b,o,none⟩)/\(∀ b o,b<W.heap.size->w1.frozen? ⟨b,o,none⟩=W.frozen? ⟨b,o,none⟩):=
 ⟨λb o h=>hb.cell (p:=⟨b,o,none⟩) h,λb o h=>hb.frozen (p:=⟨b,o,none⟩) h⟩
theorem ahg {k:IntKind} {a b:Int} {x:Value} (h:a=b):Ending.returned (.tuple #[.int k a,x])= .returned (.tuple #[.int k b,x]):=by rw [h]
theorem gX {k:IntKind} {a b:Int} (h:a=b):Ending.returned (.int k a)= .returned (.int k b):=by rw [h]
def byteCells (l:List UInt8):List Value:=l.map λb=> .int .u8 b.toNat
theorem byteCells_length (l:List UInt8):(byteCells l).length=l.length:=by simp [byteCells]
theorem byteCells_append (l k:List UInt8):byteCells (l++k)=byteCells l++byteCells k:=by simp [byteCells]
theorem Rd.nE {w:World} {B n:Nat} {A:Option Addr} {l:List UInt8} (h:Rd w B 1 A n (byteCells l)):l.length=n:=by
 have:=h.1;rw [byteCells_length] at this;omega
structure fK (w:World) (b:Nat) (row:Array Value) (t:TypeId):Prop where
 blk:w.heap[b]? =some (.cells row t (0,0))
theorem IZ {B:Nat} {a w:World} (h:Below B a w) (q:Nat):Below B a (w.drewN q):=h.trans ⟨rfl,rfl,rfl,Nat.le_refl _,λ_ _=>rfl⟩
section
variable {w w' W:World} {b:Nat} {row:Array Value} {t:TypeId}
theorem fK.lt (h:fK w b row t):b<w.heap.size:=by
 rcases Nat.lt_or_ge b w.heap.size with h1 | h1
 ·exact h1
 have:=h.blk;rw [Array.getElem?_eq_none h1] at this
 cases this
theorem fK.new (w:World) (row:Array Value) (t:TypeId):fK (w.alloc (.cells row t)) w.heap.size row t:=by
 refine ⟨?_⟩
 show (w.heap.push _)[_]? =_
 rw [Array.getElem?_push,if_pos rfl]
theorem fK.new1 (w:World) (o1:Obj) (row:Array Value) (t:TypeId):fK ((w.alloc o1).alloc (.cells row t)) (w.heap.size+1) row t:=by
 have:=fK.new (w.alloc o1) row t;simpa using this
theorem fK.new2 (w:World) (o1 o2:Obj) (row:Array Value) (t:TypeId):fK (((w.alloc o1).alloc o2).alloc (.cells row t)) (w.heap.size+1+1) row t:=by
 have:=fK.new ((w.alloc o1).alloc o2) row t;simpa using this
theorem fK.alloc (h:fK w b row t) (o:Obj):fK (w.alloc o) b row t:=⟨by rw [Below.heap_alloc _ _ _ h.lt];exact h.blk⟩
theorem fK.drewN (h:fK w b row t) (q:Nat):fK (w.drewN q) b row t:=⟨h.blk⟩
theorem fK.drew (h:fK w b row t):fK w.drew b row t:=⟨h.blk⟩
theorem fK.below {B:Nat} (h:fK w b row t) (hb:Below B w w') (hB:b<B):fK w' b row t:=⟨(hb.block b hB).trans h.blk⟩
theorem fK.on (h:fK w b row t) (hb:Below w.heap.size w w'):fK w' b row t:=h.below hb h.lt
theorem fK.grown (h:fK w b row t) {r:Option Nat} (hg:w.grownBy w' r) (hr:r≠some b):fK w' b row t:=⟨(hg.block b h.lt (λe=>hr e.symm)).trans h.blk⟩
theorem fK.other (h:fK w b row t) (p:Addr) (hp:b≠p.block) (u:Value):fK (w.setCell p u) b row t:=⟨by rw [Below.heap_setCell _ _ _ _ hp];exact h.blk⟩
theorem fK.vK (h:fK w b row t) (k:Nat) (u:Value):fK (w.setCell ⟨b,k,none⟩ u) b (row.setIfInBounds k u) t:=by
 refine ⟨?_⟩;have hr:=h.blk;simp only [World.setCell,Array.getElem?_modify,hr];simp
theorem fK.cell (h:fK w b row t) {k:Nat} {u:Value} (hk:row[k]? =some u):w.cell? ⟨b,k,none⟩=some u:=by
 rw [cell_of_row w b k _ _ (0,0) h.blk];exact hk
theorem fK.free (h:fK w b row t) (j:Nat):w.frozen? ⟨b,j,none⟩=false:=by
 have:=h.blk;simp [World.frozen?,this]
theorem fK.cast {row':Array Value} (h:fK w b row t) (e:row=row'):fK w b row' t:=e▸h
theorem fK.at_ {b':Nat} (h:fK w b row t) (e:b=b'):fK w b' row t:=e▸h
end
section
variable {w:World} {b:Nat} {t:TypeId} {a0 a1 a2 a3 a4 a5 a6 a7 a8 a9 a10 a11 a12 a13 a14 a15:Value}
theorem fK.uW (h:fK w b #[a0,a1] t):w.cell? ⟨b,0,none⟩=some a0/\w.cell? ⟨b,1,none⟩=some a1/\ ∀ j,w.frozen? ⟨b,j,none⟩=false:=⟨h.cell rfl,h.cell rfl,h.free⟩
theorem fK.BM (h:fK w b #[a0,a1,a2,a3,a4,a5,a6,a7] t):w.cell? ⟨b,0,none⟩=some a0/\w.cell? ⟨b,1,none⟩=some a1/\w.cell? ⟨b,2,none⟩=some a2/\w.cell? ⟨b,3,none⟩=some a3/\w.cell? ⟨b,4,none⟩=some a4/\w.cell? ⟨b,5,none⟩=some a5/\w.cell? ⟨b,6,none⟩=some a6/\w.cell? ⟨b,7,none⟩=some a7/\ ∀ j,w.frozen? ⟨b,j,none⟩=false:=⟨h.cell rfl,h.cell rfl,h.cell rfl,h.cell rfl,h.cell rfl,h.cell rfl,h.cell rfl,h.cell rfl,h.free⟩
theorem fK.rC (h:fK w b #[a0,a1,a2,a3,a4,a5,a6,a7,a8] t):w.cell? ⟨b,0,none⟩=some a0/\w.cell? ⟨b,1,none⟩=some a1/\w.cell? ⟨b,2,none⟩=some a2/\w.cell? ⟨b,3,none⟩=some a3/\w.cell? ⟨b,4,none⟩=some a4/\w.cell? ⟨b,5,none⟩=some a5/\w.cell? ⟨b,6,none⟩=some a6/\w.cell? ⟨b,7,none⟩=some a7/\w.cell? ⟨b,8,none⟩=some a8/\ ∀ j,w.frozen? ⟨b,j,none⟩=false:=⟨h.cell rfl,h.cell rfl,h.cell rfl,h.cell rfl,h.cell rfl,h.cell rfl,h.cell rfl,h.cell rfl,h.cell rfl,h.free⟩
theorem fK.kF (h:fK w b #[a0,a1,a2,a3,a4,a5,a6,a7,a8,a9] t):w.cell? ⟨b,0,none⟩=some a0/\w.cell? ⟨b,1,none⟩=some a1/\w.cell? ⟨b,2,none⟩=some a2/\w.cell? ⟨b,3,none⟩=some a3/\w.cell? ⟨b,4,none⟩=some a4/\w.cell? ⟨b,5,none⟩=some a5/\w.cell? ⟨b,6,none⟩=some a6/\w.cell? ⟨b,7,none⟩=some a7/\w.cell? ⟨b,8,none⟩=some a8/\w.cell? ⟨b,9,none⟩=some a9/\ ∀ j,w.frozen? ⟨b,j,none⟩=false:=⟨h.cell rfl,h.cell rfl,h.cell rfl,h.cell rfl,h.cell rfl,h.cell rfl,h.cell rfl,h.cell rfl,h.cell rfl,h.cell rfl,h.free⟩
end
end
section
open Go.RowKit
section
variable {P:Program} (w:World)
theorem Fx (base:Nat) (t ty e:TypeId) (i:TypeInfo) (size:Nat) (ht:P.underlying t=some (.slice e)) (hi:P.info? e=some i)
  (v:Value) (n:Nat) (xs:List Value) (hown:w.ownsRow base e size v n xs) (c:Nat):(Builtin.append_ #[t,t] ty #[v,.slice none 0 c]).run P w= .ok v w:=by
 rcases hown.2 with ⟨rfl,rfl⟩ | ⟨g,cap,cur,rfl,_,_,hnc,_⟩
 ·simp [Builtin.append_,run_underlying ht,sizeOf,typeInfo,hi,Builtin.lenOf,Builtin.firstCells]
 simp [Builtin.append_,run_underlying ht,sizeOf,typeInfo,hi,Builtin.lenOf,Builtin.firstCells,hnc,storeCells]
theorem qA (base:Nat) (t ty e:TypeId) (i:TypeInfo) (z:Value) (size bytes:Nat) (ht:P.underlying t=some (.slice e)) (hi:P.info? e=some i) (hz:i.zero=some z)
  (hsize:i.size=size) (hby:i.bytes=bytes) (hzs:z.cells.size=size) (hsz:0<size)
  (v:Value) (n:Nat) (xs:List Value) (hown:w.ownsRow base e size v n xs)
  (B:Nat) (A:Option Addr) (m c:Nat) (news:List Value) (hr:Rd w B size A m news) (h1: ∀ u∈news,u.oneCell'=true)
  (h63:n+m<=maxLen) (hbytes:(n+m)*bytes<=140737488355328) (hbase:base<=w.heap.size):
  ∃ v' w',(Builtin.append_ #[t,t] ty #[v,.slice A m c]).run P w= .ok v' w'/\w'.ownsRow base e size v' (n+m) (xs++news)/\w.grownBy w' v.ownBlock/\
   (v'.ownBlock=v.ownBlock\/v'.ownBlock=some w.heap.size):=by
 rcases A with _ | ad
 ·have hm:m=0:=by
   rcases Nat.eq_zero_or_pos m with h0 | h0
   ·exact h0
   obtain ⟨b,off,h,_⟩:=hr.2 h0
   cases h
  subst hm;have hn:news=[]:=List.eq_nil_of_length_eq_zero (by simpa using hr.1);subst hn;exact ⟨v,w,Fx w base t ty e i size ht hi v n xs hown c,by simpa using hown,World.grownBy.refl w _,.inl rfl⟩
 have hcells: ∀ j u,news[j]? =some u->w.cell? (ad.add j)=some u:=by
  intro j u hu
  rcases Nat.eq_zero_or_pos m with h0 | h0
  ·subst h0;have hn:news=[]:=List.eq_nil_of_length_eq_zero (by simpa using hr.1);subst hn;simp at hu
  obtain ⟨b,off,h,_,hc⟩:=hr.2 h0
  injection h with h
  subst h;rw [Go.WideShapes.add_plain];exact hc j u hu
 obtain ⟨v',w',hrun,h2,h3,_,h5⟩:=run_append_own_at (P:=P) w base t ty e i z size bytes ht hi hz hsize hby hzs hsz v n xs hown ad m c news hr.1 hcells h1 h63 hbytes hbase;exact ⟨v',w',hrun,h2,h3,h5⟩
theorem LM {o:Oper} {a:Act} {K:Act->World->Prop} {Q:Exit->Act->World->Prop} (s x:Operand) (t:TypeId)
  (ho:o.op= .call { callee:= .builtin .append,args:= #[s,x],argTypes:= #[t,t] })
  (base:Nat) (e:TypeId) (i:TypeInfo) (z:Value) (size bytes:Nat) (ht:P.underlying t=some (.slice e)) (hi:P.info? e=some i) (hz:i.zero=some z)
  (hsize:i.size=size) (hby:i.bytes=bytes) (hzs:z.cells.size=size) (hsz:0<size)
  (v:Value) (n:Nat) (xs:List Value) (hs:a.eval s=v) (hown:w.ownsRow base e size v n xs)
  (B:Nat) (A:Option Addr) (m c:Nat) (news:List Value) (hx:a.eval x= .slice A m c) (hr:Rd w B size A m news) (h1: ∀ u∈news,u.oneCell'=true)
  (h63:n+m<=maxLen) (hbytes:(n+m)*bytes<=140737488355328) (hbase:base<=w.heap.size)
  (h: ∀ v' w',w'.ownsRow base e size v' (n+m) (xs++news)->w.grownBy w' v.ownBlock->(v'.ownBlock=v.ownBlock\/v'.ownBlock=some w.heap.size)->K (a.put o.dst v') w'):o.wp P a w K Q:=by
 obtain ⟨v',w',hrun,h2,h3,h4⟩:=qA (P:=P) w base t o.type e i z size bytes ht hi hz hsize hby hzs hsz v n xs hown B A m c news hr h1 h63 hbytes hbase;unfold Oper.wp execOp;simp only [ho,resolve,invoke,builtin,Sem.run_bind,Sem.run_pure,Result.andThen_ok,List.map_toArray,List.map_cons,List.map_nil,hs,hx,hrun];exact h v' w' h2 h3 h4
theorem jC {ops:Array Oper} {rest:List Oper} {o:Oper} {a:Act} {Q:Exit->Act->World->Prop} (hgd:o.guard=none) (s x:Operand) (t:TypeId)
  (ho:o.op= .call { callee:= .builtin .append,args:= #[s,x],argTypes:= #[t,t] })
  (base:Nat) (e:TypeId) (i:TypeInfo) (z:Value) (size bytes:Nat) (ht:P.underlying t=some (.slice e)) (hi:P.info? e=some i) (hz:i.zero=some z)
  (hsize:i.size=size) (hby:i.bytes=bytes) (hzs:z.cells.size=size) (hsz:0<size)
  (v:Value) (n:Nat) (xs:List Value) (hs:a.eval s=v) (hown:w.ownsRow base e size v n xs)
  (B:Nat) (A:Option Addr) (m c:Nat) (news:List Value) (hx:a.eval x= .slice A m c) (hr:Rd w B size A m news) (h1: ∀ u∈news,u.oneCell'=true)
  (h63:n+m<=maxLen) (hbytes:(n+m)*bytes<=140737488355328) (hbase:base<=w.heap.size)
  (h: ∀ v' w',w'.ownsRow base e size v' (n+m) (xs++news)->w.grownBy w' v.ownBlock->(v'.ownBlock=v.ownBlock\/v'.ownBlock=some w.heap.size)->wpList P ops Q rest (a.put o.dst v') w'):wpList P ops Q (o::rest) a w:=
 wpList_plain hgd λ_ hK=>LM w s x t ho base e i z size bytes ht hi hz hsize hby hzs hsz v n xs hs hown B A m c news hx hr h1 h63 hbytes hbase λv' w' h2 h3 h4=>hK _ _ (h v' w' h2 h3 h4)
end
theorem jf (w:World) (base:Nat) (e:TypeId) (size:Nat):w.ownsRow base e size (.slice none 0 0) 0 []:=⟨by simp,.inl ⟨rfl,rfl⟩⟩
theorem lX {w:World} {base:Nat} {e:TypeId} {size:Nat} {v:Value} {n:Nat} {xs:List Value} (h:w.ownsRow base e size v n xs): ∃ A c,v= .slice A n c/\n<=c/\c<=maxLen:=by
 rcases h.2 with ⟨rfl,rfl⟩ | ⟨g,cap,cur,rfl,_,_,hnc,hm,_⟩
 ·exact ⟨none,0,rfl,Nat.le_refl _,Nat.zero_le _⟩
 exact ⟨_,cap,rfl,hnc,hm⟩
theorem byteCells_one (l:List UInt8): ∀ u∈byteCells l,u.oneCell'=true:=by
 intro u hu;simp only [byteCells,List.mem_map] at hu;obtain ⟨b,_,rfl⟩:=hu;rfl
theorem _root_.Go.World.ownsRow.yR {w:World} {base:Nat} {e:TypeId} {size:Nat} {v:Value} {n:Nat} {xs:List Value} (h:w.ownsRow base e size v n xs) (k:Nat) (hk:v.ownBlock=some k):base<=k:=by
 rcases h.2 with ⟨rfl,_⟩ | ⟨g,cap,cur,rfl,hg,_⟩
 ·simp [Value.ownBlock] at hk
 simp [Value.ownBlock] at hk;omega
theorem _root_.Go.World.ownsRow.lower {w:World} {base base':Nat} {e:TypeId} {size:Nat} {v:Value} {n:Nat} {xs:List Value} (h:w.ownsRow base e size v n xs) (hb:base'<=base):w.ownsRow base' e size v n xs:=by
 obtain ⟨h1,h2⟩:=h;refine ⟨h1,?_⟩
 rcases h2 with h2 | ⟨g,cap,cur,hv,hg,r⟩
 ·exact .inl h2
 exact .inr ⟨g,cap,cur,hv,Nat.le_trans hb hg,r⟩
theorem amR {v v':Value} {m:Nat} (h:v'.ownBlock=v.ownBlock\/v'.ownBlock=some m) (P:Nat->Prop) (h1: ∀ k,v.ownBlock=some k->P k) (h2:P m): ∀ k,v'.ownBlock=some k->P k:=by
 intro k hk
 rcases h with h | h
 ·exact h1 k (h.symm.trans hk)
 rw [h] at hk
 cases hk;exact h2
theorem Xg (w:World) (row:Array Value) (e:TypeId) (n size:Nat) (h:row.size=n*size) (hn:n<=maxLen):(w.alloc (.cells row e)).ownsRow w.heap.size e size (.slice (some ⟨w.heap.size,0,none⟩) n n) n row.toList:=by
 refine ⟨by simpa using h,.inr ⟨w.heap.size,n,row,rfl,Nat.le_refl _,?_,Nat.le_refl _,hn,h,?_⟩⟩
 ·show (w.heap.push _)[_]? =_
  rw [Array.getElem?_push,if_pos rfl]
 exact List.take_of_length_le (by simpa using Nat.le_of_eq h)
theorem Mq {w w':World} {base:Nat} {e:TypeId} {size:Nat} {v:Value} {n:Nat} {xs:List Value} (h:w.ownsRow base e size v n xs) (hb:Below w.heap.size w w'):w'.ownsRow base e size v n xs:=by
 obtain ⟨h1,h2⟩:=h;refine ⟨h1,?_⟩
 rcases h2 with h2 | ⟨g,cap,cur,hv,hg,hh,r⟩
 ·exact .inl h2
 have hlt:g<w.heap.size:=by
  rcases Nat.lt_or_ge g w.heap.size with h | h
  ·exact h
  rw [Array.getElem?_eq_none h] at hh;cases hh
 exact .inr ⟨g,cap,cur,hv,hg,(hb.block g hlt).trans hh,r⟩
def jw (w:World) (e:TypeId) (size:Nat) (n:Nat) (xs:List Value) (en:Ending) (w':World):Prop:=
 ∃ A c,en= .returned (.slice A n c)/\Below w.heap.size w w'/\w'.ownsRow w.heap.size e size (.slice A n c) n xs
theorem jw.of {w w':World} {e:TypeId} {size n:Nat} {v:Value} {xs:List Value} (hb:Below w.heap.size w w') (h:w'.ownsRow w.heap.size e size v n xs):jw w e size n xs (.returned v) w':=by
 obtain ⟨A,c,rfl,_⟩:=lX h;exact ⟨A,c,rfl,hb,h⟩
end
section
open ChangeShapes WideShapes ChangeAt RowKit
structure tT (w:World) (g:Nat) (w':World):Prop where
 os:w'.os=w.os
 tape:w'.tape=w.tape
 output:w'.output=w.output
 size:w'.heap.size=w.heap.size
 block: ∀ k,k≠g->w'.heap[k]? =w.heap[k]?
section
variable {w w' a:World} {g B:Nat}
theorem tT.below (h:tT w g w') (hB:B<=g):Below B w w':=⟨h.os,h.tape,h.output,Nat.le_of_eq h.size.symm,λk hk=>h.block k oQ⟩
theorem tT.next (h:tT w g w') (hb:Below B a w) (hB:B<=g):Below B a w':=hb.trans (h.below hB)
theorem tT.blk {b:Nat} {row:Array Value} {t:TypeId} (h:tT w g w') (hb:fK w b row t) (hne:b≠g):fK w' b row t:=⟨(h.block b hne).trans hb.blk⟩
theorem tT.own {base:Nat} {e:TypeId} {size:Nat} {v:Value} {n:Nat} {xs:List Value} (h:tT w g w') (ho:w.ownsRow base e size v n xs) (hne: ∀ k,v.ownBlock=some k->k≠g):w'.ownsRow base e size v n xs:=by
 obtain ⟨h1,h2⟩:=ho;refine ⟨h1,?_⟩
 rcases h2 with h2 | ⟨k,cap,cur,hv,hk,hh,r⟩
 ·exact .inl h2
 exact .inr ⟨k,cap,cur,hv,hk,(h.block k (hne k (by rw [hv];rfl))).trans hh,r⟩
theorem tT.rd {size n:Nat} {A:Option Addr} {xs:List Value} (h:tT w g w') (hr:Rd w B size A n xs) (hB:B<=g):Rd w' B size A n xs:=hr.below (h.below hB) (Nat.le_refl _)
theorem DZ {base:Nat} {e:TypeId} {size:Nat} {v:Value} {n:Nat} {xs:List Value} (h:w.ownsRow base e size v n xs) (k:Nat) (hk:v.ownBlock=some k):k<w.heap.size:=by
 rcases h.2 with ⟨rfl,_⟩ | ⟨g',cap,cur,rfl,_,hh,_⟩
 ·simp [Value.ownBlock] at hk
 simp [Value.ownBlock] at hk;subst hk
 rcases Nat.lt_or_ge g' w.heap.size with h | h
 ·exact h
 rw [Array.getElem?_eq_none h] at hh;cases hh
theorem RX (w:World) (a:Addr) (u:Value):tT w a.block (w.setCell a u):=by
 refine ⟨rfl,rfl,rfl,by simp [World.setCell],λk hk=>?_⟩;exact Below.heap_setCell _ _ _ _ hk
theorem D5 (w:World) (g k:Nat) (u:Value):tT w g (w.setCell ⟨g,k,none⟩ u):=RX w ⟨g,k,none⟩ u
theorem FC (w:World) (g:Nat):tT w g w.drew:=⟨rfl,rfl,rfl,rfl,λ_ _=>rfl⟩
theorem tT.trans {w w' w'':World} {g:Nat} (h:tT w g w') (h':tT w' g w''):tT w g w'':=⟨h'.os.trans h.os,h'.tape.trans h.tape,h'.output.trans h.output,h'.size.trans h.size,λk hk=>(h'.block k hk).trans (h.block k hk)⟩
theorem Vq (w:World) (g:Nat) (cs:Array Value):tT w g (w.setRow g cs):=by
 refine ⟨rfl,rfl,rfl,by simp,λk hk=>?_⟩;simp only [World.setRow,Array.getElem?_modify];rw [if_neg oQ]
end
section
variable {P:Program}
theorem wp_store_row {o:Oper} {a:Act} {w:World} {K:Act->World->Prop} {Q:Exit->Act->World->Prop} (ty:TypeId) (x y:Operand) (ho:o.op= .store ty x y)
  (g:Nat) (hx:a.eval x= .pointer (some ⟨g,0,none⟩)) (cs:Array Value) (hy:a.eval y= .agg cs) (t:TypeId) (cur:Array Value) (hg:fK w g cur t)
  (hi:(P.info? ty).map (·.size)=some cs.size) (hs:cur.size=cs.size) (h1:cs.toList.all (·.oneCell')=true)
  (h: ∀ w',fK w' g cs t->tT w g w'->K (a.put o.dst undef) w'):o.wp P a w K Q:=by
 have h1:cs.all (·.oneCell')=true:=by simpa using h1
 have hk:=h (w.setRow g cs) ⟨setRow_heap w g cur cs t (0,0) hg.blk⟩ (Vq w g cs);unfold Oper.wp execOp;simp only [ho,hx,hy,Instr.storeAt,Instr.sureAddr,Sem.run_bind,Sem.run_pure,Result.andThen_ok,run_storeVar_row w g t ty cur cs hg.blk hi hs h1];exact hk
theorem uS {ops:Array Oper} {o:Oper} {a:Act} {w:World} {K:Act->World->Prop} {Q:Exit->Act->World->Prop} {E:Prop} (hgd:o.guard=none) (ty:TypeId) (x y:Operand) (ho:o.op= .store ty x y)
  (g:Nat) (hx:a.eval x= .pointer (some ⟨g,0,none⟩)) (cs:Array Value) (hy:a.eval y= .agg cs) (t:TypeId) (cur:Array Value) (hg:fK w g cur t)
  (hi:(P.info? ty).map (·.size)=some cs.size) (hs:cur.size=cs.size) (h1:cs.toList.all (·.oneCell')=true)
  (h: ∀ w',fK w' g cs t->tT w g w'->K (a.put o.dst undef) w'):if Region.wanted o (yielded ops a.tmps)=true then Oper.wp P o a w K Q else E:=by
 rw [if_pos (by simp [Region.wanted,hgd])];exact wp_store_row ty x y ho g hx cs hy t cur hg hi hs h1 h
theorem wpList_store_row {ops:Array Oper} {rest:List Oper} {o:Oper} {a:Act} {w:World} {Q:Exit->Act->World->Prop} (hgd:o.guard=none) (ty:TypeId) (x y:Operand) (ho:o.op= .store ty x y)
  (g:Nat) (hx:a.eval x= .pointer (some ⟨g,0,none⟩)) (cs:Array Value) (hy:a.eval y= .agg cs) (t:TypeId) (cur:Array Value) (hg:fK w g cur t)
  (hi:(P.info? ty).map (·.size)=some cs.size) (hs:cur.size=cs.size) (h1:cs.toList.all (·.oneCell')=true)
  (h: ∀ w',fK w' g cs t->tT w g w'->wpList P ops Q rest (a.put o.dst undef) w'):wpList P ops Q (o::rest) a w:=
 wpList_plain hgd λ_ hK=>wp_store_row ty x y ho g hx cs hy t cur hg hi hs h1 (λw' hb hu=>hK _ _ (h w' hb hu))
end
def nS (w:World) (B:Nat) (e:TypeId) (size:Nat) (A:Option Addr) (n c:Nat) (xs:List Value):Prop:=
 xs.length=n*size/\n<=c/\c<=maxLen/\((A=none/\c=0)\/ ∃ g o cur,A=some ⟨g,o,none⟩/\B<=g/\w.heap[g]? =some (.cells cur e)/\o+c*size<=cur.size/\(cur.toList.drop o).take (n*size)=xs)
inductive Fact
 | blk (b:Nat) (row:Array Value) (t:TypeId)
 | own (e:TypeId) (size:Nat) (v:Value) (n:Nat) (xs:List Value)
 | rd (size:Nat) (A:Option Addr) (n:Nat) (xs:List Value)
 | loc (b:Nat) (R:Obj->Prop)
 | bI (size:Nat) (A:Option Addr) (n:Nat) (xs:List Value)
 | off (e:TypeId) (size:Nat) (A:Option Addr) (n c:Nat) (xs:List Value)
def Fact.foot:Fact->Option Nat
 | .blk b _ _=>some b
 | .own _ _ v _ _=>v.ownBlock
 | .rd .. =>none
 | .loc b _=>some b
 | .bI _ A _ _=>A.map (·.block)
 | .off _ _ A _ _ _=>A.map (·.block)
def Fact.holds (B:Nat) (w:World):Fact->Prop
 | .blk b row t=>B<=b/\fK w b row t
 | .own e s v n xs=>w.ownsRow B e s v n xs
 | .rd s A n xs=>Rd w B s A n xs
 | .loc b R=>B<=b/\ ∃ o,w.heap[b]? =some o/\R o
 | .bI s A n xs=>Rd w w.heap.size s A n xs/\ ∀ a,A=some a->B<=a.block/\a.block<w.heap.size
 | .off e s A n c xs=>nS w B e s A n c xs
structure St (B:Nat) (w0 w:World) (fs:List Fact):Prop where
 low:Below B w0 w
 base:B<=w.heap.size
 all: ∀ (i:Nat) (f:Fact),fs[i]? =some f->f.holds B w
 sep: ∀ (i j:Nat) (f g:Fact),i≠j->fs[i]? =some f->fs[j]? =some g-> ∀ k,f.foot=some k->g.foot≠some k
theorem adH {w w':World} {base:Nat} {e:TypeId} {size:Nat} {v:Value} {n:Nat} {xs:List Value} (h:w.ownsRow base e size v n xs) (hk: ∀ k,v.ownBlock=some k->w'.heap[k]? =w.heap[k]?):w'.ownsRow base e size v n xs:=by
 obtain ⟨h1,h2⟩:=h;refine ⟨h1,?_⟩
 rcases h2 with h2 | ⟨k,cap,cur,hv,hk1,hh,r⟩
 ·exact .inl h2
 exact .inr ⟨k,cap,cur,hv,hk1,(hk k (by rw [hv];rfl)).trans hh,r⟩
section
variable {B:Nat} {w0 w w':World} {fs:List Fact}
theorem Fact.mK {f:Fact} {k:Nat} (h:f.holds B w) (hk:f.foot=some k):B<=k/\k<w.heap.size:=by
 cases f with
 | blk b row t=>cases hk;exact ⟨h.1,h.2.lt⟩
 | own e s v n xs=>exact ⟨World.ownsRow.yR h k hk,DZ h k hk⟩
 | rd s A n xs=>cases hk
 | loc b R=>
  cases hk;obtain ⟨h1,o,h2,_⟩:=h;exact ⟨h1,(Array.getElem?_eq_some_iff.1 h2).1⟩
 | bI s A n xs=>
  cases A with
  | none=>cases hk
  | some a=>cases hk;exact h.2 a rfl
 | off e s A n c xs=>
  obtain ⟨_,_,_,⟨rfl,_⟩ | ⟨g,o,cur,rfl,h1,h2,_⟩⟩:=h
  ·cases hk
  cases hk;exact ⟨h1,(Array.getElem?_eq_some_iff.1 h2).1⟩
theorem Fact.keep {f:Fact} (h:f.holds B w) (hb: ∀ k,k<B->w'.heap[k]? =w.heap[k]?) (hk: ∀ k,f.foot=some k->w'.heap[k]? =w.heap[k]?):f.holds B w':=by
 cases f with
 | blk b row t=>exact ⟨h.1,⟨(hk b rfl).trans h.2.blk⟩⟩
 | own e s v n xs=>exact adH h hk
 | rd s A n xs=>exact Rd.keep h λp hp=>World.cell?_of_block (hb _ hp)
 | loc b R=>
  obtain ⟨h1,o,h2,h3⟩:=h;exact ⟨h1,o,(hk b rfl).trans h2,h3⟩
 | bI s A n xs=>
  obtain ⟨h1,h2⟩:=h;have hz: ∀ a,A=some a->a.block<w'.heap.size:=λa ha=>by
   have h3:=hk a.block (by rw [ha];rfl);rw [Array.getElem?_eq_getElem (h2 a ha).2] at h3;exact (Array.getElem?_eq_some_iff.1 h3).1
  refine ⟨⟨h1.1,λhn=>?_⟩,λa ha=>⟨(h2 a ha).1,hz a ha⟩⟩;obtain ⟨b,off,e,_,hc⟩:=h1.2 hn;exact ⟨b,off,e,hz _ e,λj u hu=>(World.cell?_of_block (hk b (by rw [e];rfl))).trans (hc j u hu)⟩
 | off e s A n c xs=>
  obtain ⟨h1,h2,h3,h | ⟨g,o,cur,e1,h4,h5,h6⟩⟩:=h
  ·exact ⟨h1,h2,h3,.inl h⟩
  exact ⟨h1,h2,h3,.inr ⟨g,o,cur,e1,h4,(hk g (by rw [e1];rfl)).trans h5,h6⟩⟩
theorem St.start (w:World):St w.heap.size w w []:=⟨Below.refl _ _,Nat.le_refl _,λi f h=>by simp at h,λi j f g _ h=>by simp at h⟩
theorem St.le (S:St B w0 w fs):w0.heap.size<=w.heap.size:=S.low.size
theorem St.cons {f:Fact} (S:St B w0 w fs) (h:f.holds B w) (hs: ∀ k,f.foot=some k-> ∀ (i:Nat) (g:Fact),fs[i]? =some g->g.foot≠some k):St B w0 w (f::fs):=by
 refine ⟨S.low,S.base,λi g hg=>?_,λi j g g' hij hi hj k hk hk'=>?_⟩
 ·cases i with
  | zero=>simp at hg;subst hg;exact h
  | succ i=>exact S.all i g (by simpa using hg)
 cases i with
 | zero=>
  simp at hi;subst hi
  cases j with
  | zero=>exact hij rfl
  | succ j=>exact hs k hk j g' (by simpa using hj) hk'
 | succ i=>
  cases j with
  | zero=>simp at hj;subst hj;exact hs k hk' i g (by simpa using hi) hk
  | succ j=>exact S.sep i j g g' oQ (by simpa using hi) (by simpa using hj) k hk hk'
theorem St.bX {s:Nat} {A:Option Addr} {n:Nat} {xs:List Value} (S:St B w0 w fs) (h:Rd w B s A n xs):St B w0 w (.rd s A n xs::fs):=S.cons h λk hk=>by cases hk
theorem St.on (S:St B w0 w fs) (hb:Below w.heap.size w w'):St B w0 w' fs:=by
 refine ⟨S.low.trans (hb.mono S.base),Nat.le_trans S.base hb.size,λi f hf=>?_,S.sep⟩;have h:=S.all i f hf;exact Fact.keep h (λk hk=>hb.block k (by have:=S.base;omega)) (λk hk=>hb.block k (Fact.mK h hk).2)
theorem St.drew (S:St B w0 w fs):St B w0 w.drew fs:=S.on ⟨rfl,rfl,rfl,Nat.le_refl _,λ_ _=>rfl⟩
theorem St.drewN (S:St B w0 w fs) (q:Nat):St B w0 (w.drewN q) fs:=S.on ⟨rfl,rfl,rfl,Nat.le_refl _,λ_ _=>rfl⟩
theorem St.alloc {row:Array Value} {t:TypeId} (S:St B w0 w fs):St B w0 (w.alloc (.cells row t)) (.blk w.heap.size row t::fs):=by
 have S1:St B w0 (w.alloc (.cells row t)) fs:=S.on ((Below.refl _ _).alloc (Nat.le_refl _) _);refine S1.cons ⟨S.base,fK.new _ _ _⟩ λk hk i g hg e=>?_
 cases hk;have:=(Fact.mK (S.all i g hg) e).2;omega
theorem St.amS {o:Obj} (S:St B w0 w fs):St B w0 (w.alloc o) fs:=S.on ((Below.refl _ _).alloc (Nat.le_refl _) _)
theorem St.tV {e:TypeId} {s:Nat} {v:Value} {n:Nat} {xs:List Value} (S:St B w0 w fs) (hb:Below w.heap.size w w') (ho:w'.ownsRow w.heap.size e s v n xs):St B w0 w' (.own e s v n xs::fs):=by
 refine (S.on hb).cons (ho.lower S.base) λk hk i g hg e=>?_;have h1:=ho.yR k hk;have:=(Fact.mK (S.all i g hg) e).2;omega
theorem St.D6 {o:Obj} {R:Obj->Prop} (S:St B w0 w fs) (hR:R o):St B w0 (w.alloc o) (.loc w.heap.size R::fs):=by
 have S1:St B w0 (w.alloc o) fs:=S.amS;refine S1.cons ⟨S.base,o,by show (w.heap.push _)[_]? =_;rw [Array.getElem?_push,if_pos rfl],hR⟩ λk hk i g hg e=>?_
 cases hk;have:=(Fact.mK (S.all i g hg) e).2;omega
theorem St.cut {f:Fact} (S:St B w0 w (f::fs)):St B w0 w fs:=
 ⟨S.low,S.base,λi g hg=>S.all (i+1) g (by simpa using hg),λi j f g hij hi hj=>S.sep (i+1) (j+1) f g oQ (by simpa using hi) (by simpa using hj)⟩
theorem St.turn {f f':Fact} (i:Nat) (S:St B w0 w fs) (hi:fs[i]? =some f) (hlow:Below B w0 w') (hz:w.heap.size<=w'.heap.size) (hb: ∀ k,k<w.heap.size->f.foot≠some k->w'.heap[k]? =w.heap[k]?) (hf:f'.holds B w')
  (hff: ∀ k,f'.foot=some k->f.foot=some k\/w.heap.size<=k):St B w0 w' (fs.set i f'):=by
 have hil:i<fs.length:=(List.getElem?_eq_some_iff.1 hi).1;have ajN: ∀ (j:Nat) (g:Fact),j≠i->fs[j]? =some g-> ∀ k,f'.foot=some k->g.foot≠some k:=by
  intro j g hji hj k hk e
  rcases hff k hk with h | h
  ·exact S.sep j i g f hji hj hi k e h
  have:=(Fact.mK (S.all j g hj) e).2;omega
 refine ⟨hlow,Nat.le_trans S.base hz,λj g hg=>?_,λj j' g g' hjj hj hj' k hk hk'=>?_⟩
 ·by_cases e:j=i
  ·subst e;rw [List.getElem?_set_self hil] at hg
   cases hg;exact hf
  rw [List.getElem?_set_ne (λh=>e h.symm)] at hg;have h:=S.all j g hg;have hb':=S.base;exact Fact.keep h (λk hk=>hb k oQ (λe2=>by have:=(Fact.mK (S.all i f hi) e2).1;omega))
   (λk hk=>hb k (Fact.mK h hk).2 (S.sep j i g f e hg hi k hk))
 by_cases e:j=i
 ·subst e;rw [List.getElem?_set_self hil] at hj
  cases hj;rw [List.getElem?_set_ne (λh=>hjj h)] at hj';exact ajN j' g' (λh=>hjj h.symm) hj' k hk hk'
 rw [List.getElem?_set_ne (λh=>e h.symm)] at hj;by_cases e':j'=i
 ·subst e';rw [List.getElem?_set_self hil] at hj'
  cases hj';exact ajN j g e hj k hk' hk
 rw [List.getElem?_set_ne (λh=>e' h.symm)] at hj';exact S.sep j j' g g' hjj hj hj' k hk hk'
theorem St.set {b:Nat} {row row':Array Value} {t t':TypeId} (i:Nat) (S:St B w0 w fs) (hi:fs[i]? =some (.blk b row t)) (hu:tT w b w') (hb:fK w' b row' t'):St B w0 w' (fs.set i (.blk b row' t')):=by
 have h:=(S.all i _ hi).1;exact S.turn i hi (hu.next S.low h) (Nat.le_of_eq hu.size.symm) (λk _ hk=>hu.block k (λe=>hk (by rw [e];rfl))) ⟨h,hb⟩ (λk hk=> .inl hk)
theorem St.setCell {b:Nat} {row:Array Value} {t:TypeId} (i k:Nat) (u:Value) (S:St B w0 w fs) (hi:fs[i]? =some (.blk b row t)):St B w0 (w.setCell ⟨b,k,none⟩ u) (fs.set i (.blk b (row.setIfInBounds k u) t)):=
 S.set i hi (D5 w b k u) ((S.all i _ hi).2.vK k u)
theorem St.TJ {b:Nat} {R R':Obj->Prop} {o:Obj} (i:Nat) (S:St B w0 w fs) (hi:fs[i]? =some (.loc b R)) (hu:tT w b w') (ho:w'.heap[b]? =some o) (hR:R' o):St B w0 w' (fs.set i (.loc b R')):=by
 have h:=(S.all i _ hi).1;exact S.turn i hi (hu.next S.low h) (Nat.le_of_eq hu.size.symm) (λk _ hk=>hu.block k (λe=>hk (by rw [e];rfl))) ⟨h,o,ho,hR⟩ (λk hk=> .inl hk)
theorem St.loc {b:Nat} {R:Obj->Prop} (i:Nat) (S:St B w0 w fs) (hi:fs[i]? =some (.loc b R)): ∃ o,w.heap[b]? =some o/\R o:=(S.all i _ hi).2
theorem St.append {e e':TypeId} {s s':Nat} {v v':Value} {n n':Nat} {xs xs':List Value} (i:Nat) (S:St B w0 w fs) (hi:fs[i]? =some (.own e s v n xs)) (hg:w.grownBy w' v.ownBlock) (ho:w'.ownsRow B e' s' v' n' xs')
  (hat:v'.ownBlock=v.ownBlock\/v'.ownBlock=some w.heap.size):St B w0 w' (fs.set i (.own e' s' v' n' xs')):=by
 have h:=S.all i _ hi;refine S.turn i hi (S.low.grown hg S.base (λk hk=>(Fact.mK h hk).1)) hg.size (λk hk hne=>hg.block k hk (λe=>hne e.symm)) ho (λk hk=>?_);have hk':v'.ownBlock=some k:=hk
 rcases hat with h1 | h1
 ·exact .inl (by rw [<-hk',h1];rfl)
 rw [hk'] at h1
 cases h1;exact .inr (Nat.le_refl _)
theorem St.re (is:List Nat) (S:St B w0 w fs) (hn:is.Nodup):St B w0 w (is.filterMap λi=>fs[i]?):=by
 have key: ∀ (is:List Nat),is.Nodup-> ∀ (a:Nat) (f:Fact),(is.filterMap λi=>fs[i]?)[a]? =some f-> ∃ i,i∈is/\fs[i]? =some f:=by
  intro is _ a f h;have hm:=List.mem_of_getElem? h;rw [List.mem_filterMap] at hm;obtain ⟨i,h1,h2⟩:=hm;exact ⟨i,h1,h2⟩
 have key2: ∀ (is:List Nat),is.Nodup-> ∀ (a c:Nat) (f g:Fact),a≠c->(is.filterMap λi=>fs[i]?)[a]? =some f->(is.filterMap λi=>fs[i]?)[c]? =some g-> ∃ (i j:Nat),i≠j/\fs[i]? =some f/\fs[j]? =some g:=by
  intro is
  induction is with
  | nil=>intro _ a c f g _ h;simp at h
  | cons i is ih=>
   intro hn a c f g hac ha hc;obtain ⟨h1,h2⟩:=List.nodup_cons.1 hn;rw [List.filterMap_cons] at ha hc
   cases hi:fs[i]? with
   | none=>rw [hi] at ha hc;exact ih h2 a c f g hac ha hc
   | some x=>
    rw [hi] at ha hc
    cases a with
    | zero=>
     simp at ha
     cases c with
     | zero=>exact absurd rfl hac
     | succ c=>
      obtain ⟨j,hj,hjg⟩:=key is h2 c g (by simpa using hc);exact ⟨i,j,λe=>h1 (e▸hj),by rw [hi,ha],hjg⟩
    | succ a=>
     cases c with
     | zero=>
      simp at hc;obtain ⟨j,hj,hjf⟩:=key is h2 a f (by simpa using ha);exact ⟨j,i,λe=>h1 (e▸hj),hjf,by rw [hi,hc]⟩
     | succ c=>exact ih h2 a c f g oQ (by simpa using ha) (by simpa using hc)
 refine ⟨S.low,S.base,λa f hf=>?_,λa c f g hac ha hc=>?_⟩
 ·obtain ⟨i,_,hi⟩:=key is hn a f hf;exact S.all i f hi
 obtain ⟨i,j,hij,hi,hj⟩:=key2 is hn a c f g hac ha hc;exact S.sep i j f g hij hi hj
theorem St.del (i:Nat) (S:St B w0 w fs):St B w0 w (fs.eraseIdx i):=by
 have key: ∀ (a:Nat) (f:Fact),(fs.eraseIdx i)[a]? =some f->fs[if a<i then a else a+1]? =some f:=by
  intro a f h;rw [List.getElem?_eraseIdx] at h
  split at h
  ·rename_i e;rw [if_pos e];exact h
  rename_i e;rw [if_neg e];exact h
 refine ⟨S.low,S.base,λa f h=>S.all _ f (key a f h),λa c f g hac ha hc=>S.sep _ _ f g ?_ (key a f ha) (key c g hc)⟩
 split<;>split<;>omega
theorem St.blk {b:Nat} {row:Array Value} {t:TypeId} (i:Nat) (S:St B w0 w fs) (hi:fs[i]? =some (.blk b row t)):fK w b row t:=(S.all i _ hi).2
theorem St.own {e:TypeId} {s:Nat} {v:Value} {n:Nat} {xs:List Value} (i:Nat) (S:St B w0 w fs) (hi:fs[i]? =some (.own e s v n xs)):w.ownsRow B e s v n xs:=S.all i _ hi
theorem St.rd {s:Nat} {A:Option Addr} {n:Nat} {xs:List Value} (i:Nat) (S:St B w0 w fs) (hi:fs[i]? =some (.rd s A n xs)):Rd w w.heap.size s A n xs:=(show Rd w B s A n xs from S.all i _ hi).more S.base
theorem St.ord {e:TypeId} {s:Nat} {A:Option Addr} {c n:Nat} {xs:List Value} (i:Nat) (S:St B w0 w fs) (hi:fs[i]? =some (.own e s (.slice A n c) n xs)):Rd w w.heap.size s A n xs:=Rd.tF (S.own i hi)
theorem St.lt {b:Nat} {row:Array Value} {t:TypeId} (i:Nat) (S:St B w0 w fs) (hi:fs[i]? =some (.blk b row t)):b<w.heap.size:=(S.blk i hi).lt
theorem St.ge {b:Nat} {row:Array Value} {t:TypeId} (i:Nat) (S:St B w0 w fs) (hi:fs[i]? =some (.blk b row t)):B<=b:=(S.all i _ hi).1
def Fact.Hl:Fact->Bool
 | .rd .. =>false
 | _=>true
theorem Fact.lower {f:Fact} {C:Nat} (h:f.holds C w) (hf:f.Hl=true) (hC:B<=C):f.holds B w:=by
 cases f with
 | blk b row t=>exact ⟨Nat.le_trans hC h.1,h.2⟩
 | own e s v n xs=>exact World.ownsRow.lower h hC
 | rd s A n xs=>cases hf
 | loc b R=>exact ⟨Nat.le_trans hC h.1,h.2⟩
 | bI s A n xs=>exact ⟨h.1,λa ha=>⟨Nat.le_trans hC (h.2 a ha).1,(h.2 a ha).2⟩⟩
 | off e s A n c xs=>
  obtain ⟨h1,h2,h3,h | ⟨g,o,cur,e1,h4,h5⟩⟩:=h
  ·exact ⟨h1,h2,h3,.inl h⟩
  exact ⟨h1,h2,h3,.inr ⟨g,o,cur,e1,Nat.le_trans hC h4,h5⟩⟩
theorem St.ext {gs:List Fact} (S:St B w0 w fs) (T:St w.heap.size w w' gs) (hg:gs.all Fact.Hl=true):St B w0 w' (gs++fs):=by
 have S1:=S.on T.low
 induction gs with
 | nil=>exact S1
 | cons g gs ih=>
  simp only [List.all_cons,Bool.and_eq_true] at hg;refine (ih T.cut hg.2).cons (Fact.lower (T.all 0 g rfl) hg.1 S.base) λk hk i g' hg' e=>?_;have h1:=(Fact.mK (T.all 0 g rfl) hk).1
  rcases Nat.lt_or_ge i gs.length with hi | hi
  ·rw [List.getElem?_append_left hi] at hg';exact T.sep 0 (i+1) g g' oQ rfl (by simpa using hg') k hk e
  rw [List.getElem?_append_right hi] at hg';have:=(Fact.mK (S.all _ g' hg') e).2;omega
theorem St.bI {s:Nat} {A:Option Addr} {n:Nat} {xs:List Value} (i:Nat) (S:St B w0 w fs) (hi:fs[i]? =some (.bI s A n xs)):Rd w w.heap.size s A n xs:=(S.all i _ hi).1
theorem St.seal {e:TypeId} {s:Nat} {A:Option Addr} {c n:Nat} {xs:List Value} {A':Option Addr} {n':Nat} {xs':List Value} (i:Nat) (S:St B w0 w fs) (hi:fs[i]? =some (.own e s (.slice A n c) n xs)) (hR:Rd w w.heap.size s A' n' xs')
  (hA: ∀ a',A'=some a'-> ∃ a,A=some a/\a.block=a'.block):St B w0 w (fs.set i (.bI s A' n' xs')):=by
 have hf: ∀ a',A'=some a'->(Fact.own e s (.slice A n c) n xs).foot=some a'.block:=λa' ha=>by
  obtain ⟨a,h1,h2⟩:=hA a' ha;rw [h1,<-h2];rfl
 refine S.turn i hi S.low (Nat.le_refl _) (λ_ _ _=>rfl) ⟨hR,λa' ha=>Fact.mK (S.all i _ hi) (hf a' ha)⟩ λk hk=> .inl ?_
 cases A' with
 | none=>cases hk
 | some a'=>cases hk;exact hf a' rfl
theorem St.bC {e:TypeId} {s:Nat} {A:Option Addr} {c n:Nat} {xs:List Value} (i:Nat) (S:St B w0 w fs) (hi:fs[i]? =some (.own e s (.slice A n c) n xs)):St B w0 w (fs.set i (.bI s A n xs)):=
 S.seal i hi (S.ord i hi) λa h=>⟨a,h,rfl⟩
theorem St.bring {f:Fact} (i:Nat) (S:St B w0 w fs) (hi:fs[i]? =some f):St B w0 w (f::fs.eraseIdx i):=by
 refine (S.del i).cons (S.all i f hi) λk hk j g hg=>?_;have h:fs[if j<i then j else j+1]? =some g:=by
  rw [List.getElem?_eraseIdx] at hg
  split at hg
  ·rename_i e;rw [if_pos e];exact hg
  rename_i e;rw [if_neg e];exact hg
 exact S.sep i _ f g (by split<;>omega) hi h k hk
end
abbrev Slots:=List (Nat×Value)
def lk:Slots->Nat->Option Value
 | [],_=>none
 | (t,v)::l,k=>bif Nat.beq t k then some v else lk l k
def ev (l:Slots):Operand->Option Value
 | .tmp t=>lk l t
 | .const v=>some v
 | .global g=>some (.pointer (some ⟨g,0,none⟩))
 | .func f=>some (.func (.func f) #[] #[])
def Mr (l:Slots):List Operand->List Value->Prop
 | [],[]=>True
 | x::xs,v::vs=>ev l x=some v/\Mr l xs vs
 | _,_=>False
def ents:Nat->List Value->Slots
 | _,[]=>[]
 | k,v::vs=>(k,v)::ents (k+1) vs
def Ck (l:Slots):Slots->Prop
 | []=>True
 | (k,v)::r=>lk l k=some v/\Ck l r
structure Fr (N:Nat) (l:Slots) (a:Act):Prop where
 defers:a.defers=[]
 size:a.tmps.size=N
 get: ∀ k v,lk l k=some v->a.tmps[k]? =some v
section
variable {P:Program} {N:Nat} {l l':Slots} {a:Act} {w w' w0:World} {B:Nat} {fs:List Fact} {ops:Array Oper} {o:Oper} {rest:List Oper} {Q:Exit->Act->World->Prop} {v u p:Value} {d:Nat}
theorem Fr.ev {x:Operand} (F:Fr N l a) (h:ev l x=some v):a.eval x=v:=by
 cases x with
 | tmp t=>
  have:=F.get t v h;simp [Act.eval,this]
 | const c=>simpa [Go.Proofs.YtcomidffhiilcaaGreatDoor.ev,Act.eval] using h
 | global g=>simpa [Go.Proofs.YtcomidffhiilcaaGreatDoor.ev,Act.eval] using h
 | func f=>simpa [Go.Proofs.YtcomidffhiilcaaGreatDoor.ev,Act.eval] using h
theorem Fr.evs (F:Fr N l a): ∀ {xs:List Operand} {vs:List Value},Mr l xs vs->xs.map a.eval=vs
 | [],[],_=>rfl
 | x::xs,v::vs,h=>by
  rw [List.map_cons,F.ev h.1,F.evs h.2]
 | [],_::_,h=>h.elim
 | _::_,[],h=>h.elim
theorem TK {k:Nat}:lk ((k,v)::l) k=some v:=by simp [lk]
theorem Oe {t k:Nat} (h:t≠k):lk ((t,v)::l) k=lk l k:=by
 have:Nat.beq t k=false:=by
  cases e:Nat.beq t k
  ·rfl
  exact absurd (Nat.eq_of_beq_eq_true e) h
 simp [lk,this]
theorem Fr.put (F:Fr N l a) (hd:Nat.blt d N=true) (v:Value):Fr N ((d,v)::l) (a.put (some d) v):=by
 have hdN:d<N:=by simpa [Nat.blt_eq] using hd
 refine ⟨F.defers,by simp [Act.put,F.size],λk u hk=>?_⟩;simp only [Act.put];by_cases e:d=k
 ·subst e;rw [TK] at hk;rw [Array.getElem?_setIfInBounds_self_of_lt (by rw [F.size];exact hdN)];exact hk
 rw [Oe e] at hk;rw [Array.getElem?_setIfInBounds_ne e];exact F.get k u hk
theorem TL: ∀ {l':Slots},Ck l l'-> ∀ k v,lk l' k=some v->lk l k=some v
 | [],_,k,v,h=>by cases h
 | (t,u)::r,hs,k,v,h=>by
  by_cases e:t=k
  ·subst e;rw [TK] at h
   cases h;exact hs.1
  rw [Oe e] at h;exact TL hs.2 k v h
theorem Fr.sub (F:Fr N l a) (h:Ck l l'):Fr N l' a:=⟨F.defers,F.size,λk v hk=>F.get k v (TL h k v hk)⟩
theorem Xh: ∀ (vs:List Value) (m k:Nat) (v:Value),lk (ents m vs) k=some v->m<=k/\vs[k-m]? =some v
 | [],_,_,_,h=>by cases h
 | u::vs,m,k,v,h=>by
  by_cases e:m=k
  ·subst e;rw [ents,TK] at h;exact ⟨Nat.le_refl _,by simpa using h⟩
  rw [ents,Oe e] at h;obtain ⟨h1,h2⟩:=Xh vs (m+1) k v h;refine ⟨by omega,?_⟩;rw [show k-m=(k-(m+1))+1 by omega];simpa using h2
theorem Fr.enter (vs:List Value) (hN:Nat.ble vs.length N=true):Fr N (ents 0 vs) { tmps:=vs.toArray++Array.replicate (N-vs.toArray.size) undef,defers:=[] }:=by
 have h:vs.length<=N:=by simpa using hN
 refine ⟨rfl,by simp;omega,λk v hk=>?_⟩;have:=(Xh vs 0 k v hk).2;simp only [Nat.sub_zero] at this;have hl:k<vs.length:=(List.getElem?_eq_some_iff.1 this).1;rw [Array.getElem?_append_left (by simpa using hl)];simpa using this
def wC (P:Program) (N:Nat) (c:Code) (Q:Exit->Act->World->Prop) (l:Slots) (w:World):Prop:= ∀ a,Fr N l a->c.wp P Q a w
def wL (P:Program) (N:Nat) (ops:Array Oper) (Q:Exit->Act->World->Prop) (rest:List Oper) (l:Slots) (w:World):Prop:= ∀ a,Fr N l a->wpList P ops Q rest a w
def wQ (N:Nat) (Q:Exit->Act->World->Prop) (e:Exit) (l:Slots) (w:World):Prop:= ∀ a,Fr N l a->Q e a w
theorem pI {f:FuncId} {fn:Func} {c:Code} {vs:List Value} {R:Ending->World->Prop} (hf:P.funcs[f]? =some fn) (hb:fn.body=some c) (hn:fn.ntmps=N) (hN:Nat.ble vs.length N=true)
  (h:wC P N c (bodyPost P fn R) (ents 0 vs) w):Calls P f vs.toArray w R:=calls_of_wp hf hb (by rw [hn];exact h _ (Fr.enter vs hN))
theorem aA {x y:Code} (h:wC P N x (Exit.then (y.wp P Q) Q) l w):wC P N (.seq x y) Q l w:=λa F=>wp_seq (h a F)
theorem av {id:Nat} {os:List Oper} (h:wL P N os.toArray Q os l w):wC P N (.region id os.toArray false) Q l w:=λa F=>wp_region_lit (h a F)
theorem dO {c:Operand} {x y:Code} (hc:ev l c=some (.bool true)) (h:wC P N x Q l w):wC P N (.cond c x y) Q l w:=λa F=>wp_cond_true (F.ev hc) (h a F)
theorem bZ {c:Operand} {x y:Code} (hc:ev l c=some (.bool false)) (h:wC P N y Q l w):wC P N (.cond c x y) Q l w:=λa F=>wp_cond_false (F.ev hc) (h a F)
theorem gH {id:Nat} {c:Code} (h:wC P N c (Exit.inBlock id Q) l w):wC P N (.block id c) Q l w:=λa F=>wp_block (h a F)
theorem qH {id:Nat} (h:wQ N Q (.exit id) l w):wC P N (.exit id) Q l w:=λa F=>wp_exit (h a F)
theorem fC (h:wQ N Q .normal l w):wC P N .skip Q l w:=λa F=>wp_skip (h a F)
theorem fP (h:wQ N Q .ret l w):wC P N .ret Q l w:=λa F=>wp_ret (h a F)
theorem bg {c:Code} (hs:Ck l l') (h:wC P N c Q l' w):wC P N c Q l w:=λa F=>h a (F.sub hs)
theorem aK {e:Exit} (hs:Ck l l') (h:wQ N Q e l' w):wQ N Q e l w:=λa F=>h a (F.sub hs)
theorem ay {y:Code} (h:wC P N y Q l w):wQ N (Exit.then (y.wp P Q) Q) .normal l w:=h
theorem dR {K:Act->World->Prop} {id:Nat} (h:wQ N Q (.exit id) l w):wQ N (Exit.then K Q) (.exit id) l w:=h
theorem aO {K:Act->World->Prop} (h:wQ N Q .ret l w):wQ N (Exit.then K Q) .ret l w:=h
theorem dz {id:Nat} (h:wQ N Q .normal l w):wQ N (Exit.inBlock id Q) .normal l w:=h
theorem dx {id:Nat} (h:wQ N Q .ret l w):wQ N (Exit.inBlock id Q) .ret l w:=h
theorem jN {id:Nat} (h:wQ N Q .normal l w):wQ N (Exit.inBlock id Q) (.exit id) l w:=λa F=>by
 show if id=id then _ else _
 rw [if_pos rfl];exact h a F
theorem eP {X:Type} {c:Code} (L:X->Slots) (I:X->World->Prop) (m:X->Nat) (x0:X) (hI:I x0 w) (hs:Ck l (L x0))
  (round: ∀ x w,I x w->wC P N c (Exit.then (λa' w'=> ∃ x',Fr N (L x') a'/\I x' w'/\m x'<m x) Q) (L x) w):wC P N (.loop c) Q l w:=by
 intro a F b k cs;have key: ∀ n x a w,m x=n->Fr N (L x) a->I x w-> ∃ e a' w',Q e a' w'/\Arrives P (lone (b.at a (.code c:: .inLoop c::k)) cs w) b k cs e a' w':=by
  intro n
  induction n using Nat.strongRecOn with
  | _ n ih=>
   intro x a w hn hF hI;obtain ⟨e,a₁,w₁,hq,harr⟩:=round x w hI a hF b (.inLoop c::k) cs
   cases e with
   | normal=>
    obtain ⟨x',hF',hI',hlt⟩:=hq;obtain ⟨e₂,a₂,w₂,hq₂,harr₂⟩:=ih (m x') (hn▸hlt) x' a₁ w₁ rfl hF' hI';exact ⟨e₂,a₂,w₂,hq₂,.of_steps (Steps.trans harr (.one step_inLoop)) harr₂⟩
   | exit id=>exact ⟨_,a₁,w₁,hq,.pass (x:= .inLoop c) rfl (λ_ _=> .inl iQ) harr⟩
   | goto l=>exact ⟨_,a₁,w₁,hq,.pass (x:= .inLoop c) rfl (λ_ _=> .inl iQ) harr⟩
   | ret=>exact ⟨_,a₁,w₁,hq,.pass (x:= .inLoop c) rfl (λ_ _=> .inl iQ) harr⟩
   | panic ch=>exact ⟨_,a₁,w₁,hq,.pass (x:= .inLoop c) rfl (λ_ _=> .inl iQ) harr⟩
   | outgrown=>exact ⟨_,a₁,w₁,hq,.pass (x:= .inLoop c) rfl (λ_ _=> .inl iQ) harr⟩
 obtain ⟨e,a',w',hq,harr⟩:=key _ x0 a w rfl (F.sub hs) hI;exact ⟨e,a',w',hq,.of_steps (.one step_loop) harr⟩
theorem bT {X:Type} {L:X->Slots} {I:X->World->Prop} {m:X->Nat} {x:X} (x':X) (hI:I x' w) (hs:Ck l (L x')) (hm:m x'<m x):
  wQ N (Exit.then (λa' w'=> ∃ x',Fr N (L x') a'/\I x' w'/\m x'<m x) Q) .normal l w:=λ_ F=>⟨x',F.sub hs,hI,hm⟩
theorem mU {x y:Code} {X:Type} (L:X->Slots) (I:X->World->Prop) (hx:wC P N x (Exit.then (λa' w'=> ∃ x',Fr N (L x') a'/\I x' w') Q) l w)
  (hy: ∀ x w,I x w->wC P N y Q (L x) w):wC P N (.seq x y) Q l w:=aA λa F=>wp_mono (hx a F) λe a w h=>by
 cases e with
 | normal=>obtain ⟨x',hF,hI⟩:=h;exact hy x' w hI a hF
 | _=>exact h
theorem dD {X:Type} {L:X->Slots} {I:X->World->Prop} (x':X) (hI:I x' w) (hs:Ck l (L x')):wQ N (Exit.then (λa' w'=> ∃ x',Fr N (L x') a'/\I x' w') Q) .normal l w:=λ_ F=>⟨x',F.sub hs,hI⟩
def ED (P:Program) (l:Slots) (w:World):List ResultVar->List Value->Prop
 | [],[]=>True
 | .tmp t::rs,v::vs=>lk l t=some v/\ED P l w rs vs
 | .cell t ty::rs,v::vs=>(∃ ad,lk l t=some (.pointer (some ad))/\(loadVar ty ad).run P w= .ok v w)/\ED P l w rs vs
 | _,_=>False
def oq:List Value->Value
 | [v]=>v
 | vs=> .tuple vs.toArray
def Ms (tmps:Array Value):ResultVar->Sem Value
 | .tmp t=>pure (tmps.getD t undef)
 | .cell ad t=>do loadVar t (<-asAddr (tmps.getD ad undef))
theorem adI (F:Fr N l a) {t:Tmp} (h:lk l t=some v):(Ms a.tmps (.tmp t)).run P w= .ok v w:=by
 have h2:=F.get t v h;simp [Ms,h2]
theorem Yo (F:Fr N l a) {t:Tmp} {ty:TypeId} {ad:Addr} (h:lk l t=some (.pointer (some ad))) (h3:(loadVar ty ad).run P w= .ok v w):(Ms a.tmps (.cell t ty)).run P w= .ok v w:=by
 have h2:=F.get t _ h;simp [Ms,h2,asAddr,h3]
theorem Jz (F:Fr N l a): ∀ {rs:List ResultVar} {vs:List Value},ED P l w rs vs->(rs.mapM (Ms a.tmps)).run P w= .ok vs w
 | [],[],_=>rfl
 | .tmp t::rs,v::vs,h=>by
  have h1:=Jz F h.2;have h2:=adI (P:=P) (w:=w) F h.1;rw [List.mapM_cons];simp only [Sem.run_bind,h1,h2,Sem.run_pure,Result.andThen]
 | .cell t ty::rs,v::vs,h=>by
  obtain ⟨⟨ad,h2,h3⟩,h4⟩:=h;have h1:=Jz F h4;have h2:=Yo F h2 h3;rw [List.mapM_cons];simp only [Sem.run_bind,h1,h2,Sem.run_pure,Result.andThen]
 | [],_::_,h=>h.elim
 | .tmp _::_,[],h=>h.elim
 | .cell _ _::_,[],h=>h.elim
theorem vL {fn:Func} {rs:List ResultVar} {vs:List Value} (F:Fr N l a) (hr:fn.results=rs.toArray) (h:ED P l w rs vs):(results fn a.tmps).run P w= .ok (oq vs) w:=by
 have h1:=Jz F h;have e:results fn a.tmps=(fn.results.mapM (Ms a.tmps)) >>= λvs=>pure (if h:vs.size=1 then vs[0] else .tuple vs):=rfl;have e2:(List.toArray <$> rs.mapM (Ms a.tmps))=(rs.mapM (Ms a.tmps)) >>= λx=>(pure x.toArray:Sem (Array Value)):=rfl;rw [e,hr,List.mapM_toArray,e2];simp only [Sem.run_bind,h1,Sem.run_pure,Result.andThen]
 match vs with
 | []=>simp [oq]
 | [v]=>simp [oq]
 | v::u::vs=>simp [oq]
theorem bQ {fn:Func} {R:Ending->World->Prop} {rs:List ResultVar} {vs:List Value} (hr:fn.results=rs.toArray) (h:ED P l w rs vs) (hR:R (.returned (oq vs)) w):wQ N (bodyPost P fn R) .ret l w:=
 λ_ F=>bodyPost_ret (vL F hr h) F.defers hR
theorem FE {fn:Func} {R:Ending->World->Prop} {rs:List ResultVar} {vs:List Value} (hr:fn.results=rs.toArray) (h:ED P l w rs vs) (hR:R (.returned (oq vs)) w):wQ N (bodyPost P fn R) .normal l w:=
 λ_ F=>bodyPost_end (vL F hr h) F.defers hR
theorem dG {b:Nat} {row:Array Value} {t ty:TypeId} {ds:TypeDesc} (i:Nat) (S:St B w0 w fs) (hi:fs[i]? =some (.blk b row t)) (hu:P.underlying ty=some ds) (hd:ds.isRow=true) (hz:(P.info? ty).map (·.size)=some row.size):
  (loadVar ty ⟨b,0,none⟩).run P w= .ok (.agg row) w:=run_loadVar_row w b t ty row (0,0) ds (S.blk i hi).blk hu (by cases ds<;>simp_all) hz
end
end
section
open ChangeShapes WideShapes RowKit
def cB:Array Value->Nat->List Value->Array Value
 | cur,_,[]=>cur
 | cur,o,v::vs=>cB (cur.setIfInBounds o v) (o+1) vs
theorem ni: ∀ (vs:List Value) (cur:Array Value) (o:Nat),(cB cur o vs).size=cur.size
 | [],_,_=>rfl
 | v::vs,cur,o=>by rw [cB,ni vs];simp
theorem Ka: ∀ (vs:List Value) (cur:Array Value) (o k:Nat),o+vs.length<=cur.size->(cB cur o vs)[k]? =if k<o then cur[k]? else if k<o+vs.length then vs[k-o]? else cur[k]?
 | [],cur,o,k,_=>by
  simp only [cB,List.length_nil,Nat.add_zero]
  split
  ·rfl
  rfl
 | v::vs,cur,o,k,h=>by
  simp only [List.length_cons] at h;rw [cB,Ka vs _ _ _ jQ];by_cases h1:k<o
  ·rw [if_pos oQ,if_pos h1,Array.getElem?_setIfInBounds_ne oQ]
  by_cases h2:k=o
  ·subst h2;rw [if_pos oQ,if_neg h1,if_pos iQ];rw [Array.getElem?_setIfInBounds_self_of_lt oQ];simp
  rw [if_neg oQ,if_neg h1];by_cases h3:k<o+1+vs.length
  ·rw [if_pos h3,if_pos jQ,show k-o=(k-(o+1))+1 by omega];simp
  rw [if_neg h3,if_neg jQ,Array.getElem?_setIfInBounds_ne oQ]
theorem iq (vs:List Value) (cur:Array Value) (o:Nat) (h:o+vs.length<=cur.size):(cB cur o vs).toList=cur.toList.take o++vs++cur.toList.drop (o+vs.length):=by
 apply List.ext_getElem?;intro k;rw [Array.getElem?_toList,Ka vs cur o k h];have hl:(cur.toList.take o).length=o:=by simp;omega
 by_cases h1:k<o
 ·rw [if_pos h1,List.append_assoc,List.getElem?_append_left oQ,List.getElem?_take_of_lt h1];simp
 rw [if_neg h1];by_cases h2:k<o+vs.length
 ·rw [if_pos h2,List.append_assoc,List.getElem?_append_right oQ,List.getElem?_append_left oQ,hl]
 rw [if_neg h2,List.getElem?_append_right jQ,List.getElem?_drop];simp only [List.length_append,hl];rw [show o+vs.length+(k-(o+vs.length))=k by omega];simp
theorem jg {t:TypeId}: ∀ (vs:List Value) (o:Nat) {w:World} {g:Nat} {cur:Array Value},fK w g cur t->fK (w.setCells g o vs) g (cB cur o vs) t
 | [],_,_,_,_,h=>h
 | v::vs,o,_,_,_,h=>jg vs (o+1) (h.vK o v)
theorem tT.refl (w:World) (g:Nat):tT w g w:=⟨rfl,rfl,rfl,rfl,λ_ _=>rfl⟩
theorem jh (g:Nat): ∀ (vs:List Value) (o:Nat) (w:World),tT w g (w.setCells g o vs)
 | [],_,w=>tT.refl w g
 | v::vs,o,w=>(D5 w g o v).trans (jh g vs (o+1) _)
end
section
abbrev iV (x:Int):Value:= .int .i64 x
abbrev pV (b o:Nat):Value:= .pointer (some ⟨b,o,none⟩)
abbrev aD (b o:Nat):Option Addr:=some ⟨b,o,none⟩
noncomputable abbrev tP:Program:=Tryz.prog
end
section
open ChangeShapes WideShapes ChangeAt RowKit
def iP (P:Program) (N:Nat) (l:Slots) (o:Oper) (w:World) (v:Value):Prop:= ∀ a,Fr N l a->(execOp a.eval o).run P w= .ok (.value v) w
def Does (P:Program) (N:Nat) (l:Slots) (o:Oper) (w:World) (v:Value) (w':World):Prop:= ∀ a,Fr N l a->(execOp a.eval o).run P w= .ok (.value v) w'
def Eff (P:Program) (N:Nat) (l:Slots) (o:Oper) (w w':World):Prop:= ∀ a,Fr N l a->(execOp a.eval o).run P w= .ok .skip w'
def Enter (P:Program) (N:Nat) (l:Slots) (o:Oper) (w:World) (f:FuncId) (vs:List Value):Prop:= ∀ a,Fr N l a->(execOp a.eval o).run P w= .ok (.enter f vs.toArray) w
def Wanted (N:Nat) (ops:Array Oper) (l:Slots) (o:Oper) (b:Bool):Prop:= ∀ a,Fr N l a->Region.wanted o (yielded ops a.tmps)=b
def yl:Value->Option Bool
 | .bool b=>some b
 | _=>none
section
variable {P:Program} {N:Nat} {l l':Slots} {a:Act} {w w' w0:World} {B:Nat} {fs fs':List Fact} {ops:Array Oper} {o:Oper} {rest:List Oper} {Q:Exit->Act->World->Prop} {v u p:Value} {d:Nat}
theorem wn (hg:o.guard=none):Wanted N ops l o true:=λa F=>by simp [Region.wanted,hg]
theorem wg {j:Nat} {b r:Bool} {t:Nat} (hg:o.guard=some (j,b)) (hj:(ops[j]?).bind (·.dst)=some t) (hv:lk l t=some v) (hr:(yl v==some b)=r):Wanted N ops l o r:=λa F=>by
 have h1:=F.get t v hv;have h2:yielded ops a.tmps j=yl v:=by
  unfold yielded;rw [hj];simp only [Option.bind_some,h1]
  cases v<;>rfl
 simp only [Region.wanted,hg,h2];exact hr
theorem aT (h:wQ N Q .normal l w):wL P N ops Q [] l w:=h
theorem bq (hw:Wanted N ops l o true) (hd:o.dst=some d) (hN:Nat.blt d N=true) (hy:iP P N l o w v) (h:wL P N ops Q rest ((d,v)::l) w):wL P N ops Q (o::rest) l w:=λa F=>wpList_step λK hK=>by
 rw [if_pos (hw a F)];unfold Oper.wp;rw [hy a F]
 show K (a.put o.dst v) w
 rw [hd];exact hK _ _ (h _ (F.put hN v))
theorem EF (hw:Wanted N ops l o true) (hd:o.dst=some d) (hN:Nat.blt d N=true) (hy:Does P N l o w v w') (h:wL P N ops Q rest ((d,v)::l) w'):wL P N ops Q (o::rest) l w:=λa F=>wpList_step λK hK=>by
 rw [if_pos (hw a F)];unfold Oper.wp;rw [hy a F]
 show K (a.put o.dst v) w'
 rw [hd];exact hK _ _ (h _ (F.put hN v))
theorem EG (hw:Wanted N ops l o true) (hd:o.dst=none) (hy:Eff P N l o w w') (h:wL P N ops Q rest l w'):wL P N ops Q (o::rest) l w:=λa F=>wpList_step λK hK=>by
 rw [if_pos (hw a F)];unfold Oper.wp;rw [hy a F]
 show K (a.put o.dst undef) w'
 rw [hd];exact hK _ _ (h _ F)
theorem xB (hw:Wanted N ops l o false) (hd:o.dst=some d) (hN:Nat.blt d N=true) (h:wL P N ops Q rest ((d,undef)::l) w):wL P N ops Q (o::rest) l w:=λa F=>wpList_step λK hK=>by
 rw [if_neg (by rw [hw a F];simp),hd];exact hK _ _ (h _ (F.put hN undef))
theorem jy {f:FuncId} {vs:List Value} {R:Ending->World->Prop} (hw:Wanted N ops l o true) (hd:o.dst=some d) (hN:Nat.blt d N=true) (he:Enter P N l o w f vs) (hc:Calls P f vs.toArray w R)
  (h: ∀ e w',R e w'-> ∃ v,e= .returned v/\wL P N ops Q rest ((d,v)::l) w'):wL P N ops Q (o::rest) l w:=λa F=>wpList_step λK hK=>by
 rw [if_pos (hw a F)];unfold Oper.wp;rw [he a F];refine hc.mono λe w' hr=>?_;obtain ⟨v,rfl,hv⟩:=h e w' hr
 show K (a.put o.dst v) w'
 rw [hd];exact hK _ _ (hv _ (F.put hN v))
theorem eF {f:FuncId} {xs:List Operand} {ts:Array TypeId} {vs:List Value} (ho:o.op= .call { callee:= .value (.func f),args:=xs.toArray,argTypes:=ts }) (I5: ∀ args w,(callFunc f args).run P w= .ok (.enter f args) w) (hx:Mr l xs vs):Enter P N l o w f vs:=λa F=>by
 have h1:=F.evs hx;unfold execOp;simp only [ho,resolve,Deferred.ofValue,invoke,Sem.run_bind,Sem.run_pure,Result.andThen_ok,List.map_toArray,h1,Act.eval];simp [I5]
theorem nT {x:Operand} (ho:o.op= .move x) (hx:ev l x=some v):iP P N l o w v:=λa F=>by
 unfold execOp;simp only [ho,F.ev hx,Sem.run_pure]
theorem p9 {x:Operand} (ho:o.op= .assign x) (hx:ev l x=some v):iP P N l o w v:=λa F=>by
 unfold execOp;simp only [ho,F.ev hx,Sem.run_pure]
theorem Qy {c x y:Operand} (ho:o.op= .pick c x y) (hc:ev l c=some (.bool true)) (hx:ev l x=some v):iP P N l o w v:=λa F=>by
 unfold execOp;simp only [ho,F.ev hx,F.ev hc,asBool,Sem.run_bind,Sem.run_pure,Result.andThen_ok,if_true]
theorem JA {c x y:Operand} (ho:o.op= .pick c x y) (hc:ev l c=some (.bool false)) (hx:ev l y=some v):iP P N l o w v:=λa F=>by
 unfold execOp;simp only [ho,F.ev hx,F.ev hc,asBool,Sem.run_bind,Sem.run_pure,Result.andThen_ok];simp
theorem ah {t:TypeId} {x:Operand} (ho:o.op= .load t x) (hx:ev l x=some p) (hr:(Instr.loadAt t p).run P w= .ok v w):iP P N l o w v:=λa F=>by
 unfold execOp;simp only [ho,F.ev hx,Sem.run_bind,hr,Result.andThen_ok,Sem.run_pure]
theorem Gn {s:TypeId} {x:Operand} {f:Nat} (ho:o.op= .fieldAddr s x f) (hx:ev l x=some p) (hr:(Instr.fieldAt s p f).run P w= .ok v w):iP P N l o w v:=λa F=>by
 unfold execOp;simp only [ho,F.ev hx,Sem.run_bind,hr,Result.andThen_ok,Sem.run_pure]
theorem aZ {s:TypeId} {x y:Operand} {q:Value} (ho:o.op= .indexAddr s x y) (hx:ev l x=some p) (hy:ev l y=some q) (hr:(Instr.indexAt s p q).run P w= .ok v w):iP P N l o w v:=λa F=>by
 unfold execOp;simp only [ho,F.ev hx,F.ev hy,Sem.run_bind,hr,Result.andThen_ok,Sem.run_pure]
theorem ahh {s:TypeId} {x y:Operand} {q:Value} (ho:o.op= .index s x y) (hx:ev l x=some p) (hy:ev l y=some q) (hr:(Instr.index s p q).run P w= .ok v w):iP P N l o w v:=λa F=>by
 unfold execOp;simp only [ho,F.ev hx,F.ev hy,Sem.run_bind,hr,Result.andThen_ok,Sem.run_pure]
def EvO (l:Slots):Option Operand->Option Value->Prop
 | none,none=>True
 | some x,some v=>ev l x=some v
 | _,_=>False
theorem Fr.evo (F:Fr N l a) {x:Option Operand} {x':Option Value} (h:EvO l x x'):x.map a.eval=x':=by
 cases x<;>cases x'
 ·rfl
 ·exact h.elim
 ·exact h.elim
 simpa using F.ev h
theorem jA {s:TypeId} {x:Operand} {lo hi mx:Option Operand} {lo' hi' mx':Option Value} (ho:o.op= .slice s x lo hi mx) (hx:ev l x=some p) (h1:EvO l lo lo') (h2:EvO l hi hi') (h3:EvO l mx mx')
  (hr:(Instr.sliceAt s p lo' hi' mx').run P w= .ok v w):iP P N l o w v:=λa F=>by
 unfold execOp;simp only [ho,F.ev hx,F.evo h1,F.evo h2,F.evo h3,Sem.run_bind,hr,Result.andThen_ok,Sem.run_pure]
theorem aC {op:BinOp} {t t':TypeId} {x y:Operand} {q:Value} (ho:o.op= .binOp op t x y t') (hx:ev l x=some p) (hy:ev l y=some q) (hr:(do eqGuard op t x y p q;binOp op t p q:Sem Value).run P w= .ok v w):iP P N l o w v:=λa F=>by
 unfold execOp;simp only [ho,F.ev hx,F.ev hy,Sem.run_bind] at hr⊢;rw [hr];simp only [Result.andThen_ok,Sem.run_pure]
theorem EH {op:UnOp} {t:TypeId} {x:Operand} (ho:o.op= .unOp op t x) (hx:ev l x=some p) (hr:(Op.unary op p).run P w= .ok v w):iP P N l o w v:=λa F=>by
 unfold execOp;simp only [ho,F.ev hx,Sem.run_bind,hr,Result.andThen_ok,Sem.run_pure]
theorem FH {s t:TypeId} {x:Operand} (ho:o.op= .convert s t x) (hx:ev l x=some p) (hr:(convert s t p).run P w= .ok v w):iP P N l o w v:=λa F=>by
 unfold execOp;simp only [ho,F.ev hx,Sem.run_bind,hr,Result.andThen_ok,Sem.run_pure]
theorem Yp {x:Operand} {k:Nat} {vs:Array Value} (ho:o.op= .extract x k) (hx:ev l x=some (.tuple vs)) (hk:vs[k]? =some v):iP P N l o w v:=λa F=>by
 unfold execOp;simp only [ho,F.ev hx,Instr.extract,Sem.run_bind,hk];simp [Result.andThen]
theorem abS {x:Operand} (ho:o.op= .nilCheck x) (hx:ev l x=some p) (hp:match p with | .pointer (some _)=>True | .func (.func _) _ _=>True | .func (.via ..) _ _=>True | _=>False):iP P N l o w p:=λa F=>by
 unfold execOp;simp only [ho,F.ev hx]
 cases p with
 | pointer ad=>cases ad with
  | none=>exact hp.elim
  | some ad=>rfl
 | func fn f c=>cases fn<;>first | rfl | exact hp.elim
 | _=>exact hp.elim
theorem cu {b:Builtin} {xs:List Operand} {ts:Array TypeId} {vs:List Value} (ho:o.op= .call { callee:= .builtin b,args:=xs.toArray,argTypes:=ts }) (hx:Mr l xs vs)
  (hr: ∀ cs,(builtin b ts o.type cs vs.toArray).run P w= .ok (.value v) w):iP P N l o w v:=λa F=>by
 have h1:=F.evs hx;unfold execOp;simp only [ho,resolve,invoke,Sem.run_bind,Sem.run_pure,Result.andThen_ok,List.map_toArray,h1,hr]
theorem AY {b:Builtin} {xs:List Operand} {ts:Array TypeId} {vs:List Value} (ho:o.op= .call { callee:= .builtin b,args:=xs.toArray,argTypes:=ts }) (hx:Mr l xs vs)
  (hr: ∀ cs,(builtin b ts o.type cs vs.toArray).run P w= .ok (.value v) w'):Does P N l o w v w':=λa F=>by
 have h1:=F.evs hx;unfold execOp;simp only [ho,resolve,invoke,Sem.run_bind,Sem.run_pure,Result.andThen_ok,List.map_toArray,h1,hr]
def EvP (l:Slots):List (Nat×Operand)->List (Nat×Value)->Prop
 | [],[]=>True
 | (i,x)::xs,(j,v)::vs=>i=j/\ev l x=some v/\EvP l xs vs
 | _,_=>False
theorem Fr.evp (F:Fr N l a): ∀ {xs:List (Nat×Operand)} {vs:List (Nat×Value)},EvP l xs vs->(xs.map λx=>(x.1,a.eval x.2))=vs
 | [],[],_=>rfl
 | (i,x)::xs,(j,v)::vs,h=>by
  obtain ⟨rfl,h1,h2⟩:=h;rw [List.map_cons,F.ev h1,F.evp h2]
 | [],_::_,h=>h.elim
 | _::_,[],h=>h.elim
theorem xC {t:TypeId} {xs:List (Nat×Operand)} {vs:List (Nat×Value)} (ho:o.op= .build t xs.toArray) (hx:EvP l xs vs) (hr:(Instr.build t vs.toArray).run P w= .ok v w):iP P N l o w v:=λa F=>by
 have h1:=F.evp hx;unfold execOp;simp only [ho,List.map_toArray,h1,Sem.run_bind,hr,Result.andThen_ok,Sem.run_pure]
theorem aS {t:TypeId} {n:Nat} {xs:List (Nat×Operand)} {vs:List (Nat×Value)} (ho:o.op= .buildSlice t n xs.toArray) (hx:EvP l xs vs) (hr:(Instr.buildSlice t n vs.toArray).run P w= .ok v w'):Does P N l o w v w':=λa F=>by
 have h1:=F.evp hx;unfold execOp;simp only [ho,List.map_toArray,h1,Sem.run_bind,hr,Result.andThen_ok,Sem.run_pure]
theorem fD {t:TypeId} {z:Value} {row:Array Value} (ho:o.op= .alloc t) (hz:(zeroValue t).run P w= .ok z w) (hc:z.cells=row):Does P N l o w (.pointer (some ⟨w.heap.size,0,none⟩)) (w.alloc (.cells row t)):=λa F=>by
 subst hc;unfold execOp;simp [ho,Instr.alloc,hz,newVar,newRow,Result.andThen,Sem.run_bind]
theorem Uw {t:TypeId} {x:Operand} {row:Array Value} (ho:o.op= .box t x) (hx:ev l x=some p) (hc:p.cells=row):Does P N l o w (.pointer (some ⟨w.heap.size,0,none⟩)) (w.alloc (.cells row t)):=λa F=>by
 subst hc;unfold execOp;simp [ho,Instr.box,F.ev hx,newVar,newRow,Result.andThen,Sem.run_bind]
theorem Gp {t:TypeId} {x y:Operand} {q:Value} (ho:o.op= .makeSlice t x y) (hx:ev l x=some p) (hy:ev l y=some q) (hr:(Instr.makeSlice t p q).run P w= .ok v w'):Does P N l o w v w':=λa F=>by
 unfold execOp;simp only [ho,F.ev hx,F.ev hy,Sem.run_bind,hr,Result.andThen_ok,Sem.run_pure]
theorem Mt {t:TypeId} (ho:o.op= .makeMap t none) (hr:(Instr.makeMap t none).run P w= .ok v w'):Does P N l o w v w':=λa F=>by
 unfold execOp;simp only [ho,Option.map_none,Sem.run_bind,hr,Result.andThen_ok,Sem.run_pure]
theorem Hz {t:TypeId} {x y:Operand} {q:Value} (ho:o.op= .store t x y) (hx:ev l x=some p) (hy:ev l y=some q) (hr:(Instr.storeAt t p q).run P w= .ok () w'):Eff P N l o w w':=λa F=>by
 unfold execOp;simp only [ho,F.ev hx,F.ev hy,Sem.run_bind,hr,Result.andThen_ok,Sem.run_pure]
theorem RY {t:TypeId} {m x y:Operand} {q r:Value} (ho:o.op= .mapUpdate t m x y) (hm:ev l m=some p) (hx:ev l x=some q) (hy:ev l y=some r) (hr:(Instr.mapUpdate t p q r).run P w= .ok () w'):Eff P N l o w w':=λa F=>by
 unfold execOp;simp only [ho,F.ev hm,F.ev hx,F.ev hy,Sem.run_bind,hr,Result.andThen_ok,Sem.run_pure]
section runs
variable {t s:TypeId} {xo yo:Operand} {k:IntKind} {x y:Int}
theorem Og (h:x<y):(do eqGuard .lss t xo yo (.int k x) (.int k y);binOp .lss t (.int k x) (.int k y):Sem Value).run P w= .ok (.bool true) w:=by simp [binOp,Op.intCmp,h,eqGuard_lss]
theorem Oh (h: ¬ x<y):(do eqGuard .lss t xo yo (.int k x) (.int k y);binOp .lss t (.int k x) (.int k y):Sem Value).run P w= .ok (.bool false) w:=by simp [binOp,Op.intCmp,eqGuard_lss];omega
theorem Xi (h:x<=y):(do eqGuard .leq t xo yo (.int k x) (.int k y);binOp .leq t (.int k x) (.int k y):Sem Value).run P w= .ok (.bool true) w:=by simp [binOp,Op.intCmp,h,eqGuard_leq]
theorem Xj (h: ¬ x<=y):(do eqGuard .leq t xo yo (.int k x) (.int k y);binOp .leq t (.int k x) (.int k y):Sem Value).run P w= .ok (.bool false) w:=by simp [binOp,Op.intCmp,eqGuard_leq];omega
theorem H6 (h:y<x):(do eqGuard .gtr t xo yo (.int k x) (.int k y);binOp .gtr t (.int k x) (.int k y):Sem Value).run P w= .ok (.bool true) w:=by simp [binOp,Op.intCmp,h,eqGuard_gtr]
theorem H7 (h: ¬ y<x):(do eqGuard .gtr t xo yo (.int k x) (.int k y);binOp .gtr t (.int k x) (.int k y):Sem Value).run P w= .ok (.bool false) w:=by simp [binOp,Op.intCmp,eqGuard_gtr];omega
theorem Xk (h:y<=x):(do eqGuard .geq t xo yo (.int k x) (.int k y);binOp .geq t (.int k x) (.int k y):Sem Value).run P w= .ok (.bool true) w:=by simp [binOp,Op.intCmp,h,eqGuard_geq]
theorem Xl (h: ¬ y<=x):(do eqGuard .geq t xo yo (.int k x) (.int k y);binOp .geq t (.int k x) (.int k y):Sem Value).run P w= .ok (.bool false) w:=by simp [binOp,Op.intCmp,eqGuard_geq];omega
theorem Oi (h:x=y):(do eqGuard .eql t xo yo (.int k x) (.int k y);binOp .eql t (.int k x) (.int k y):Sem Value).run P w= .ok (.bool true) w:=by simp [binOp,Op.intCmp,h,eqGuard_at_int]
theorem Oj (h: ¬ x=y):(do eqGuard .eql t xo yo (.int k x) (.int k y);binOp .eql t (.int k x) (.int k y):Sem Value).run P w= .ok (.bool false) w:=by simp [binOp,Op.intCmp,h,eqGuard_at_int]
theorem H8 (h: ¬ x=y):(do eqGuard .neq t xo yo (.int k x) (.int k y);binOp .neq t (.int k x) (.int k y):Sem Value).run P w= .ok (.bool true) w:=by simp [binOp,Op.intCmp,h,eqGuard_at_int]
theorem Dr (h:x=y):(do eqGuard .neq t xo yo (.int k x) (.int k y);binOp .neq t (.int k x) (.int k y):Sem Value).run P w= .ok (.bool false) w:=by simp [binOp,Op.intCmp,h,eqGuard_at_int]
theorem as5:(do eqGuard .gtr t xo yo (.int k x) (.int k y);binOp .gtr t (.int k x) (.int k y):Sem Value).run P w= .ok (.bool (decide (y<x))) w:=by simp [binOp,Op.intCmp,eqGuard_gtr]
theorem wrap64_in {z:Int} (h0: -9223372036854775808<=z) (h1:z<=9223372036854775807):IntKind.i64.wrap z=z:=IntWalk.i64_in _ ⟨h0,h1⟩
theorem qY {z:Int} (hz:x+y=z) (h: -9223372036854775808<=z/\z<=9223372036854775807):(do eqGuard .add t xo yo (iV x) (iV y);binOp .add t (iV x) (iV y):Sem Value).run P w= .ok (iV z) w:=by
 subst hz;simp [binOp,Op.intArith,eqGuard_add,wrap64_in h.1 h.2]
theorem as6 {z:Int} (hz:x-y=z) (h: -9223372036854775808<=z/\z<=9223372036854775807):(do eqGuard .sub t xo yo (iV x) (iV y);binOp .sub t (iV x) (iV y):Sem Value).run P w= .ok (iV z) w:=by
 subst hz;simp [binOp,Op.intArith,eqGuard_sub,wrap64_in h.1 h.2]
theorem OI {b:Bool}:(Op.unary .not (.bool b)).run P w= .ok (.bool (!b)) w:=by simp [Op.unary]
theorem kT {A:Option Addr} {n c:Nat} {e:TypeId} {ts:Array TypeId} {ty:TypeId} {cs:Array Bool} (ht:ts= #[t]) (hu:P.underlying t=some (.slice e)):(builtin .len ts ty cs #[.slice A n c]).run P w= .ok (.value (iV n)) w:=by
 subst ht;simp [builtin,Builtin.len_,run_underlying hu,goInt,Result.andThen]
theorem gU {ad:Addr} {ds:TypeDesc} (hu:P.underlying t=some ds) (hd:ds.isRow=false) (hc:w.cell? ad=some v):(Instr.loadAt t (.pointer (some ad))).run P w= .ok v w:=by
 have hagg:(isAgg t).run P w= .ok false w:=by
  unfold isAgg;rw [Sem.run_bind,run_underlying hu w]
  cases ds<;>simp_all
 simp [Instr.loadAt,Instr.sureAddr,loadVar,Sem.run_bind,hagg,Result.andThen,hc]
theorem lT {b off m:Nat} {cs:List Value} {ds:TypeDesc} (hu:P.underlying t=some ds) (hd:ds.isRow=true) (hi:(P.info? t).map (·.size)=some m) (hm:cs.length=m) (hc:w.rangeAt b off cs):(Instr.loadAt t (.pointer (some ⟨b,off,none⟩))).run P w= .ok (.agg cs.toArray) w:=
 run_loadAt_mid w b off t cs ds hc hu hd (by rw [hm];exact hi)
theorem dK {b off:Nat} {cs:List Value} (hc:w.rangeAt b off cs) (hu:(P.underlying t).map (·.isRow)=some true:=by kernel_rfl) (hi:(P.info? t).map (·.size)=some cs.length:=by kernel_rfl):(Instr.loadAt t (.pointer (some ⟨b,off,none⟩))).run P w= .ok (.agg cs.toArray) w:=by
 obtain ⟨q,hf,hq⟩:=Option.map_eq_some_iff.1 hu;exact lT hf hq hi rfl hc
theorem aG {ad:Addr} (hc:w.cell? ad=some v) (hu:(P.underlying t).map (·.isRow)=some false:=by kernel_rfl):(Instr.loadAt t (.pointer (some ad))).run P w= .ok v w:=by
 obtain ⟨q,hf,hq⟩:=Option.map_eq_some_iff.1 hu;exact gU hf hq hc
theorem jc {b:Nat} {row:Array Value} {tt:TypeId} {ds:TypeDesc} {m:Nat} (i:Nat) (S:St B w0 w fs) (hi:fs[i]? =some (.blk b row tt)) (hu:P.underlying t=some ds) (hd:ds.isRow=true) (hz:(P.info? t).map (·.size)=some m) (hm:row.size=m):(Instr.loadAt t (.pointer (some ⟨b,0,none⟩))).run P w= .ok (.agg row) w:=by
 simp only [Instr.loadAt,Instr.sureAddr,Sem.run_bind,Sem.run_pure,Result.andThen_ok,dG i S hi hu hd (by rw [hm];exact hz)]
theorem H9 {b off m:Nat} {cs:Array Value} (hv:v.cells=cs) (hz:(P.info? t).map (·.size)=some m) (hm:cs.size=m) (h1: ∀ u∈cs.toList,u.oneCell'=true) (ht:w.there b off m):(Instr.storeAt t (.pointer (some ⟨b,off,none⟩)) v).run P w= .ok () (w.setCells b off cs.toList):=by
 subst hm;have:=run_storeCells_cells (P:=P) b off cs.toList 0 w (λj hj=>by simpa using (ht j (by simpa using hj)).1) (λj hj=>by simpa using (ht j (by simpa using hj)).2) h1
 cases hq:P.info? t with
 | none=>simp [hq] at hz
 | some i=>
  have hs:cs.size=i.size:=by simp [hq] at hz;omega
  simp only [Nat.add_zero] at this;simp [Instr.storeAt,Instr.sureAddr,storeVar,Sem.run_bind,sizeOf,typeInfo,hq,hv,hs,this,Result.andThen]
end runs
end
end
section
open ChangeShapes WideShapes RowKit
def tH:Value->Value->Bool
 | .int _ a,.int _ b=>a==b
 | .bool a,.bool b=>a==b
 | .string a,.string b=>a.toList==b.toList
 | _,_=>false
def dU:List Value->List Value->Bool
 | [],[]=>true
 | a::l,b::k=>tH a b&&dU l k
 | _,_=>false
theorem uT: ∀ {l l' k k':List Value},l.length=l'.length->dU (l++k) (l'++k')=(dU l l'&&dU k k')
 | [],[],_,_,_=>by simp [dU]
 | a::l,b::l',k,k',h=>by
  simp only [List.cons_append,dU];rw [uT (by simpa using h),Bool.and_assoc]
 | [],_::_,_,_,h=>by simp at h
 | _::_,[],_,_,h=>by simp at h
def FI (P:Program):Nat->TypeId->Bool
 | 0,_=>false
 | n+1,t=>
  match P.underlying t with
  | some (.int _) | some .bool | some .string=>true
  | some (.struct fs)=> !P.stoodInHeld t&&fs.toList.all λf=>f.name != "_" &&FI P n f.type
  | some (.array _ e)=>FI P n e
  | _=>false
def Kd (v:Value):Sh->Prop
 | .at_ (.int k)=> ∃ n,v= .int k n
 | .at_ .bool=> ∃ b,v= .bool b
 | .at_ .str=> ∃ s,v= .string s
 | .sl _ _=>False
def EI (u:TypeDesc) (n:Nat):Prop:=match u with | .struct _=>True | .array _ _=>True | _=>n=1
def mkV (P:Program) (t:TypeId) (xs:List Value):Value:=
 match P.underlying t with
 | some (.struct _) | some (.array _ _)=> .agg xs.toArray
 | _=>xs.headD undef
section
variable {P:Program} (w:World)
theorem rZ {t:TypeId} {u:TypeDesc} (hu:P.underlying t=some u) {xs:List Value} {off:Nat} (h:off+P.cellsOf t<=xs.length) (h1:EI u (P.cellsOf t)):
    (part t xs.toArray off).run P w= .ok (mkV P t ((xs.drop off).take (P.cellsOf t))) w:=by
  have hi: ∃ i,P.info? t=some i:=by
    unfold Program.underlying at hu
    cases hh:P.info? t with
    | none=>simp [hh] at hu
    | some i=>exact ⟨i,rfl⟩
  obtain ⟨i,hi⟩:=hi;have hc:P.cellsOf t=i.size:=by simp [Program.cellsOf,hi]
  have hx:(xs.toArray.extract off (off+i.size))=((xs.drop off).take i.size).toArray:=by
    simp [List.extract_toArray]
  have plain:P.cellsOf t=1->(xs.toArray[off]?)=some (((xs.drop off).take (P.cellsOf t)).headD undef):=by
    intro h1;rw [h1];have:off<xs.length:=oQ;have e:(xs.drop off).take 1=[xs[off]]:=by rw [List.drop_eq_getElem_cons this];rfl
    rw [e];simp [this]
  unfold part isAgg mkV
  cases u<;>simp only [EI] at h1<;>first
    | (have h2:=plain h1
       simp only [Sem.run_bind,run_underlying hu,Result.andThen_ok,Sem.run_pure,Bool.false_eq_true,if_false,h2,hu])
    | (simp only [Sem.run_bind,run_underlying hu,Result.andThen_ok,Sem.run_pure,if_true,hu,sizeOf,typeInfo,hc]
       simp [hi])
theorem Kc {n:Nat} {t:TypeId} {l:List Sh} (h:flat P (n+1) t=some l): ∃ u,P.underlying t=some u/\EI u l.length:=by
  unfold flat at h
  cases hu:P.underlying t with
  | none=>simp [hu] at h
  | some u=>
    refine ⟨u,rfl,?_⟩;unfold EI
    cases u<;>simp only [hu] at h<;>first
      | trivial
      | (simp at h;done)
      | (simp at h;subst h;rfl)
      | (simp only [Option.bind_eq_some_iff] at h
         obtain ⟨a,_,b,_,h⟩:=h
         split at h
         · simp at h;subst h;rfl
         · simp at h)
theorem D7 {xs:List Value}: ∀ {l k:List Sh},dW Kd xs (l++k)->dW Kd (xs.take l.length) l/\dW Kd (xs.drop l.length) k:=by
 intro l
 induction l generalizing xs with
 | nil=>intro k h;exact ⟨by simp [dW],by simpa using h⟩
 | cons s l ih=>
  intro k h;obtain ⟨a,l1,rfl,ha,h2⟩:=dW.yD h;obtain ⟨h3,h4⟩:=ih h2;exact ⟨⟨ha,h3⟩,h4⟩
def EqT (P:Program) (d:Nat) (t:TypeId) (l:List Sh):Prop:=
 ∀ (w:World) (xs ys:List Value),dW Kd xs l->dW Kd ys l->(Op.equalIn d t (mkV P t xs) (mkV P t ys)).run P w= .ok (dU xs ys) w
theorem Ke {d:Nat} {xs ys:List Value}: ∀ (fs:List Field) (ls:List (List Sh)) (o:Nat),nX P fs ls o=true->
  (∀ (i:Nat) (f:Field) (l:List Sh),fs[i]? =some f->ls[i]? =some l->f.name≠ "_" /\EqT P d f.type l/\ ∃ u,P.underlying f.type=some u/\EI u l.length)->
  o<=xs.length->o<=ys.length->dW Kd (xs.drop o) ls.flatten->dW Kd (ys.drop o) ls.flatten->
  (Op.eqFields d xs.toArray ys.toArray fs).run P w= .ok (dU (xs.drop o) (ys.drop o)) w
 | [],[],o,_,_,_,_,hx,hy=>by
  rw [dW.wR hx,dW.wR hy];simp [Op.eqFields,dU]
 | f::fs,l::ls,o,h,hp,ox,oy,hx,hy=>by
  simp only [nX,Bool.and_eq_true,beq_iff_eq] at h;obtain ⟨⟨h1,h2⟩,h3⟩:=h;obtain ⟨hn,he,u,hu,hu1⟩:=hp 0 f l rfl rfl;simp only [List.flatten_cons] at hx hy;obtain ⟨hx1,hx2⟩:=D7 hx;obtain ⟨hy1,hy2⟩:=D7 hy;rw [List.drop_drop] at hx2 hy2;have hlx:o+l.length<=xs.length:=by
   have e1:=hx1.len;simp only [List.length_take,List.length_drop] at e1;omega
  have hly:o+l.length<=ys.length:=by
   have e1:=hy1.len;simp only [List.length_take,List.length_drop] at e1;omega
  have hr:=Ke fs ls (o+l.length) h3 (λi f' l' hf hl=>hp (i+1) f' l' (by simpa using hf) (by simpa using hl)) hlx hly hx2 hy2;have hu2:EI u (P.cellsOf f.type):=by
   rw [h2];exact hu1
  have p1:=rZ (P:=P) w hu (xs:=xs) (off:=f.offset) oQ hu2;have p2:=rZ (P:=P) w hu (xs:=ys) (off:=f.offset) oQ hu2;rw [h1,h2] at p1 p2;have p3:=he w _ _ hx1 hy1;have e1:dU (xs.drop o) (ys.drop o)=(dU ((xs.drop o).take l.length) ((ys.drop o).take l.length)&&dU (xs.drop (o+l.length)) (ys.drop (o+l.length))):=by
   rw [<-List.drop_drop,<-List.drop_drop,<-uT jQ,List.take_append_drop,List.take_append_drop]
  simp only [Op.eqFields,hn,ne_eq,not_false_eq_true,if_true,Sem.run_bind,h1,p1,p2,p3,Result.andThen_ok];rw [e1]
  cases hb:dU ((xs.drop o).take l.length) ((ys.drop o).take l.length)
  ·simp
  simpa using hr
 | [],_::_,_,h,_,_,_,_,_=>by simp [nX] at h
 | _::_,[],_,h,_,_,_,_,_=>by simp [nX] at h
theorem Mv {d:Nat} {e:TypeId} {l:List Sh} {xs ys:List Value} (he:EqT P d e l) (hc:P.cellsOf e=l.length) {u:TypeDesc} (hu:P.underlying e=some u)
  (hu1:EI u l.length): ∀ (m i:Nat),
  dW Kd (xs.drop (i*l.length)) (List.replicate m l).flatten->dW Kd (ys.drop (i*l.length)) (List.replicate m l).flatten->
  (Op.eqItems d e (P.cellsOf e) xs.toArray ys.toArray (List.range' i m)).run P w= .ok (dU (xs.drop (i*l.length)) (ys.drop (i*l.length))) w
 | 0,i,hx,hy=>by
  rw [dW.wR hx,dW.wR hy];simp [Op.eqItems,dU]
 | m+1,i,hx,hy=>by
  rw [List.replicate_succ,List.flatten_cons] at hx hy;obtain ⟨hx1,hx2⟩:=D7 hx;obtain ⟨hy1,hy2⟩:=D7 hy;rw [List.drop_drop,<-Nat.succ_mul] at hx2 hy2;have hr:=Mv he hc hu hu1 m (i+1) hx2 hy2;have hu2:EI u (P.cellsOf e):=by
   rw [hc];exact hu1
  have hlx:i*l.length+l.length<=xs.length\/l.length=0:=by
   have e1:=hx1.len;simp only [List.length_take,List.length_drop] at e1;omega
  have hly:i*l.length+l.length<=ys.length\/l.length=0:=by
   have e1:=hy1.len;simp only [List.length_take,List.length_drop] at e1;omega
  by_cases h0:l.length=0
  ·have hl:l=[]:=List.eq_nil_of_length_eq_zero h0;subst hl;have hz:(List.replicate m ([]:List Sh)).flatten=[]:=by simp
   rw [hz] at hx2 hy2;simp only [List.length_nil,Nat.mul_zero,List.drop_zero] at*;have ex:=dW.wR hx2;have ey:=dW.wR hy2;subst ex;subst ey;have p1:=rZ (P:=P) w hu (xs:=[]) (off:=0) (by rw [hc];simp) hu2;simp only [List.drop_nil,List.take_nil] at p1;have p3:=he w [] [] trivial trivial;simp only [List.range'_succ,Op.eqItems,Sem.run_bind,hc,Nat.mul_zero,p1,p3,Result.andThen_ok];rw [hc] at hr;simpa [dU] using hr
  have p1:=rZ (P:=P) w hu (xs:=xs) (off:=i*l.length) oQ hu2;have p2:=rZ (P:=P) w hu (xs:=ys) (off:=i*l.length) oQ hu2;rw [hc] at p1 p2;have p3:=he w _ _ hx1 hy1;have e1:dU (xs.drop (i*l.length)) (ys.drop (i*l.length))=(dU ((xs.drop (i*l.length)).take l.length) ((ys.drop (i*l.length)).take l.length)&&dU (xs.drop ((i+1)*l.length)) (ys.drop ((i+1)*l.length))):=by
   rw [Nat.succ_mul,<-List.drop_drop,<-List.drop_drop,<-uT jQ,List.take_append_drop,List.take_append_drop]
  simp only [List.range'_succ,Op.eqItems,Sem.run_bind,hc,p1,p2,p3,Result.andThen_ok];rw [e1];rw [hc] at hr
  cases hb:dU ((xs.drop (i*l.length)).take l.length) ((ys.drop (i*l.length)).take l.length)
  ·simp
  simpa using hr
theorem Mw: ∀ (n:Nat) (t:TypeId) (l:List Sh) (d:Nat),flat P n t=some l->FI P n t=true->n<=d->EqT P d t l
 | 0,_,_,_,h,_,_=>by simp [flat] at h
 | n+1,t,l,0,_,_,h=>by omega
 | n+1,t,l,d+1,hf,ho,hd=>by
  intro w xs ys hx hy;unfold flat at hf;unfold FI at ho
  cases hu:P.underlying t with
  | none=>simp [hu] at hf
  | some u=>
   cases u<;>simp only [hu] at hf ho<;>try (simp at hf;done)
   case bool=>
    simp at hf;subst hf;obtain ⟨a,l1,rfl,⟨p,rfl⟩,h2⟩:=dW.yD hx;obtain ⟨b,l2,rfl,⟨q,rfl⟩,h3⟩:=dW.yD hy;rw [dW.wR h2,dW.wR h3];simp [mkV,hu,Op.equalIn,run_underlying hu,dU,tH]
   case int k=>
    simp at hf;subst hf;obtain ⟨a,l1,rfl,⟨p,rfl⟩,h2⟩:=dW.yD hx;obtain ⟨b,l2,rfl,⟨q,rfl⟩,h3⟩:=dW.yD hy;rw [dW.wR h2,dW.wR h3];simp [mkV,hu,Op.equalIn,run_underlying hu,dU,tH]
   case string=>
    simp at hf;subst hf;obtain ⟨a,l1,rfl,⟨p,rfl⟩,h2⟩:=dW.yD hx;obtain ⟨b,l2,rfl,⟨q,rfl⟩,h3⟩:=dW.yD hy;rw [dW.wR h2,dW.wR h3];simp [mkV,hu,Op.equalIn,run_underlying hu,dU,tH,beq_toListBytes]
   case slice e=>simp at ho
   case array m e=>
    simp only [Option.bind_eq_some_iff] at hf;obtain ⟨le,hle,hif⟩:=hf
    split at hif
    ·rename_i hok
     simp only [Bool.and_eq_true,beq_iff_eq] at hok;simp at hif;subst hif;have ih:=Mw n e le d hle ho oQ;have hn: ∃ k,n=k+1:=by
      cases n with
      | zero=>simp [flat] at hle
      | succ k=>exact ⟨k,rfl⟩
     obtain ⟨k,rfl⟩:=hn;obtain ⟨u,hue,hu1⟩:=Kc hle;have hi: ∃ i,P.info? e=some i:=by
      unfold Program.underlying at hue
      cases hh:P.info? e with
      | none=>simp [hh] at hue
      | some i=>exact ⟨i,rfl⟩
     obtain ⟨i,hi⟩:=hi;have h:=Mv (P:=P) w ih hok.1 hue hu1 (xs:=xs) (ys:=ys) m 0 (by simpa using hx) (by simpa using hy);simp only [mkV,hu];rw [run_equalIn_array w d _ _ hu hi,List.range_eq_range',h];simp
    simp at hif
   case struct fs=>
    simp only [Option.bind_eq_some_iff] at hf;obtain ⟨ls,hls,hif⟩:=hf
    split at hif
    ·rename_i hok
     simp only [Bool.and_eq_true,beq_iff_eq] at hok;simp at hif;subst hif;simp only [Bool.and_eq_true,Bool.not_eq_true',List.all_eq_true,bne_iff_ne,ne_eq] at ho;have hfs:P.fieldsOf t=fs:=by simp [Program.fieldsOf,hu]
     have h:=Ke (P:=P) w (d:=d) (xs:=xs) (ys:=ys) fs.toList ls 0 hok.1 (λi f l' hfi hli=>by
      have hmem:f∈fs.toList:=List.mem_of_getElem? hfi;have h3:=mapM_some_get hls i f hfi;rw [hli] at h3;have hn: ∃ k,n=k+1:=by
       cases n with
       | zero=>simp [flat] at h3
       | succ k=>exact ⟨k,rfl⟩
      obtain ⟨k,rfl⟩:=hn;exact ⟨(ho.2 f hmem).1,Mw (k+1) f.type l' d h3 (ho.2 f hmem).2 oQ,Kc h3⟩) (Nat.zero_le _) (Nat.zero_le _) (by simpa using hx) (by simpa using hy)
     simp only [mkV,hu];rw [run_equalIn_struct w d t _ _ (by rw [hfs];exact hu) ho.1,hfs,h];simp
    simp at hif
theorem CJ {t:TypeId} {l:List Sh} (hf:flat P 30 t=some l) (ho:FI P 30 t=true) (ha: ∀ xs,mkV P t xs= .agg xs.toArray) {xs ys:List Value} (hx:dW Kd xs l) (hy:dW Kd ys l):
  (binOp .eql t (.agg xs.toArray) (.agg ys.toArray)).run P w= .ok (.bool (dU xs ys)) w:=by
 rw [run_eql_struct];have h:=Mw 30 t l 10000 hf ho oQ w xs ys hx hy;rw [ha,ha] at h;rw [h];rfl
theorem rT {t:TypeId} {l:List Sh} (hf:flat P 30 t=some l) (ho:FI P 30 t=true) (ha: ∀ xs,mkV P t xs= .agg xs.toArray) {xs ys:List Value} (hx:dW Kd xs l) (hy:dW Kd ys l):
  (binOp .neq t (.agg xs.toArray) (.agg ys.toArray)).run P w= .ok (.bool (!dU xs ys)) w:=by
 rw [run_neq_struct];have h:=Mw 30 t l 10000 hf ho oQ w xs ys hx hy;rw [ha,ha] at h;rw [h];rfl
end
structure Ev where
 kind:Int
 producer:Int
 id:Int
 body:Int
 aL:Int
 hno:Int
 deriving DecidableEq
def Ev.cells (e:Ev):List Value:=[iV e.kind,iV e.producer,iV e.id,iV e.body,iV e.aL,iV e.hno]
theorem Ev.adJ (a b:Ev):dU a.cells b.cells=decide (a=b):=by
 obtain ⟨a1,a2,a3,a4,a5,a6⟩:=a;obtain ⟨b1,b2,b3,b4,b5,b6⟩:=b;simp only [Ev.cells,dU,tH,Ev.mk.injEq,Bool.and_true];rw [Bool.eq_iff_iff];simp
def apQ:List Sh:=[.at_ (.int .i64),.at_ (.int .i64),.at_ (.int .i64),.at_ (.int .i64),.at_ (.int .i64),.at_ (.int .i64)]
theorem ahi:flat Tryz.prog 30 46=some apQ:=kQ
theorem ahj:FI Tryz.prog 30 46=true:=kQ
theorem amV (xs:List Value):mkV Tryz.prog 46 xs= .agg xs.toArray:=by
 unfold mkV;rw [Tryz.underlying46]
theorem Ev.kd (a:Ev):dW Kd a.cells apQ:=⟨⟨_,rfl⟩,⟨_,rfl⟩,⟨_,rfl⟩,⟨_,rfl⟩,⟨_,rfl⟩,⟨_,rfl⟩,trivial⟩
theorem qZ (a b:Ev) (w:World):(binOp .neq 46 (.agg #[iV a.kind,iV a.producer,iV a.id,iV a.body,iV a.aL,iV a.hno])
  (.agg #[iV b.kind,iV b.producer,iV b.id,iV b.body,iV b.aL,iV b.hno])).run Tryz.prog w= .ok (.bool (!decide (a=b))) w:=by
 rw [<-Ev.adJ];exact rT (P:=Tryz.prog) w ahi ahj amV a.kd b.kd
def Ev.val (e:Ev):Value:= .agg #[iV e.kind,iV e.producer,iV e.id,iV e.body,iV e.aL,iV e.hno]
end
section
open ChangeShapes WideShapes ChangeAt RowKit
section
variable {P:Program} {N:Nat} {l l':Slots} {a:Act} {w w' w0:World} {B:Nat} {fs fs':List Fact} {ops:Array Oper} {o:Oper} {rest:List Oper} {Q:Exit->Act->World->Prop} {v u p:Value} {d:Nat}
theorem iD {V:Nat->Value} {row:Array Value} {t:TypeId} (S:St B w0 w fs) (hw:Wanted N ops l o true) (hd:o.dst=some d) (hN:Nat.blt d N=true) (hy:Does P N l o w (V w.heap.size) (w.alloc (.cells row t)))
  (h: ∀ b w',St B w0 w' (.blk b row t::fs)->wL P N ops Q rest ((d,V b)::l) w'):wL P N ops Q (o::rest) l w:=EF hw hd hN hy (h _ _ S.alloc)
theorem St.adK {row:Array Value} {t:TypeId} {n s:Nat} (S:St B w0 w fs) (hs:row.size=n*s) (hn:n<=maxLen):St B w0 (w.alloc (.cells row t)) (.own t s (.slice (some ⟨w.heap.size,0,none⟩) n n) n row.toList::fs):=
 S.tV ((Below.refl _ _).alloc (Nat.le_refl _) _) (Xg w row t n s hs hn)
theorem qJ {V:Nat->Value} {row:Array Value} {t:TypeId} {n s:Nat} {xs:List Value} (S:St B w0 w fs) (hw:Wanted N ops l o true) (hd:o.dst=some d) (hN:Nat.blt d N=true) (hy:Does P N l o w (V w.heap.size) (w.alloc (.cells row t)))
  (hs:row.size=n*s) (hn:n<=maxLen) (hx:row.toList=xs) (h: ∀ b w',St B w0 w' (.own t s (.slice (some ⟨b,0,none⟩) n n) n xs::fs)->wL P N ops Q rest ((d,V b)::l) w'):wL P N ops Q (o::rest) l w:=by
 subst hx;exact EF hw hd hN hy (h _ _ (S.adK hs hn))
theorem St.nil (S:St B w0 w fs) (e:TypeId) (s:Nat):St B w0 w (.own e s (.slice none 0 0) 0 []::fs):=S.cons (jf _ _ _ _) λk hk=>by cases hk
theorem St.there {b:Nat} {row:Array Value} {t:TypeId} (i:Nat) (S:St B w0 w fs) (hi:fs[i]? =some (.blk b row t)) (off m:Nat) (h:off+m<=row.size):w.there b off m:=λj hj=>by
 have hb:=S.blk i hi;exact ⟨by rw [hb.cell (k:=off+j) (Array.getElem?_eq_getElem oQ)];rfl,hb.free _⟩
theorem fq {ty t:TypeId} {x y:Operand} {b off m:Nat} {cs row row':Array Value} (i:Nat) (S:St B w0 w fs) (hw:Wanted N ops l o true) (hd:o.dst=none) (ho:o.op= .store ty x y) (hx:ev l x=some (.pointer (some ⟨b,off,none⟩))) (hy:ev l y=some v)
  (hi:fs[i]? =some (.blk b row t)) (hv:v.cells=cs) (hz:(P.info? ty).map (·.size)=some m) (hm:cs.size=m) (h1: ∀ u∈cs.toList,u.oneCell'=true) (hr:off+m<=row.size) (hrow:cB row off cs.toList=row') (hfs:fs.set i (.blk b row' t)=fs')
  (h: ∀ w',St B w0 w' fs'->wL P N ops Q rest l w'):wL P N ops Q (o::rest) l w:=by
 subst hrow;subst hfs;exact EG hw hd (Hz ho hx hy (H9 hv hz hm h1 (S.there i hi off m hr))) (h _ (S.set i hi (jh b cs.toList off w) (jg cs.toList off (S.blk i hi))))
theorem dY {x y:Operand} {t e:TypeId} {z:Value} {size bytes n m c Br:Nat} {A:Option Addr} {xs news xs':List Value} {sv:Value} (i:Nat) (S:St B w0 w fs) (hw:Wanted N ops l o true) (hd:o.dst=some d) (hN:Nat.blt d N=true)
  (ho:o.op= .call { callee:= .builtin .append,args:= #[x,y],argTypes:= #[t,t] }) (hx:ev l x=some sv) (hy:ev l y=some (.slice A m c)) (hi:fs[i]? =some (.own e size sv n xs)) (hr:Rd w Br size A m news)
  (ht:P.underlying t=some (.slice e)) (Qf:(P.info? e).map (λi=>(i.zero,i.size,i.bytes))=some (some z,size,bytes)) (hzs:z.cells.size=size) (hsz:0<size) (h1: ∀ u∈news,u.oneCell'=true) (h63:n+m<=maxLen) (hbytes:(n+m)*bytes<=140737488355328)
  (hxs:xs++news=xs') (h: ∀ A' c' w',n+m<=c'->c'<=maxLen->St B w0 w' (fs.set i (.own e size (.slice A' (n+m) c') (n+m) xs'))->wL P N ops Q rest ((d,.slice A' (n+m) c')::l) w'):wL P N ops Q (o::rest) l w:=by
 subst hxs;obtain ⟨j0,hj0,hz,hs,hb⟩:=info_parts Qf;obtain ⟨v',w',hrun,h2,h3,h4⟩:=qA (P:=P) w B t o.type e j0 z size bytes ht hj0 hz hs hb hzs hsz sv n xs (S.own i hi) Br A m c news hr h1 h63 hbytes S.base;obtain ⟨A',c',rfl,hc1,hc2⟩:=lX h2;exact EF hw hd hN (AY (xs:=[x,y]) (vs:=[sv,.slice A m c]) ho ⟨hx,hy,trivial⟩ (λcs=>by simp [builtin,hrun,Sem.run_bind,Result.andThen])) (h A' c' w' hc1 hc2 (S.append i hi h3 h2 h4))
theorem St.lI {b n s:Nat} {row:Array Value} {t:TypeId} {xs:List Value} (i:Nat) (S:St B w0 w fs) (hi:fs[i]? =some (.blk b row t)) (hx:row.toList=xs) (hl:xs.length=n*s):Rd w w.heap.size s (some ⟨b,0,none⟩) n xs:=
 ⟨hl,λ_=>⟨b,0,rfl,S.lt i hi,λj u hu=>by
  rw [Nat.zero_add];exact (S.blk i hi).cell (by rw [<-hx] at hu;simpa using hu)⟩⟩
theorem Rd.addr {B s n:Nat} {A:Option Addr} {xs:List Value} (h:Rd w B s A n xs) (hn:0<n): ∃ b off,A=some ⟨b,off,none⟩:=by
 obtain ⟨b,off,e,_⟩:=h.2 hn;exact ⟨b,off,e⟩
theorem Rd.cl {B s n b off j:Nat} {xs:List Value} (h:Rd w B s (some ⟨b,off,none⟩) n xs) (hx:xs[j]? =some v):w.cell? ⟨b,off+j,none⟩=some v:=by
 have hl:j<xs.length:=(List.getElem?_eq_some_iff.1 hx).1;have hn:0<n:=by
  rcases Nat.eq_zero_or_pos n with e | e
  ·rw [h.1,e] at hl;omega
  exact e
 obtain ⟨b',off',e,_,hc⟩:=h.2 hn;simp only [Option.some.injEq,Addr.mk.injEq,and_true] at e;obtain ⟨rfl,rfl⟩:=e;exact hc j v hx
theorem Rd.rg {B s n b off j m:Nat} {xs cs:List Value} (h:Rd w B s (some ⟨b,off,none⟩) n xs) (hx: ∀ i u,cs[i]? =some u->xs[j+i]? =some u):w.rangeAt b (off+j) cs:=λi u hu=>by
 rw [Nat.add_assoc];exact h.cl (hx i u hu)
theorem St.rg {b off:Nat} {row:Array Value} {t:TypeId} {cs:List Value} (i:Nat) (S:St B w0 w fs) (hi:fs[i]? =some (.blk b row t)) (hx: ∀ j u,cs[j]? =some u->row[off+j]? =some u):w.rangeAt b off cs:=λj u hu=>(S.blk i hi).cell (hx j u hu)
theorem St.cl {b k:Nat} {row:Array Value} {t:TypeId} (i:Nat) (S:St B w0 w fs) (hi:fs[i]? =some (.blk b row t)) (hk:row[k]? =some v):w.cell? ⟨b,k,none⟩=some v:=(S.blk i hi).cell hk
theorem lU {row cs:Array Value} (h:row.size=cs.size):cB row 0 cs.toList=cs:=by
 apply Array.toList_inj.1;rw [iq _ _ _ jQ];simp only [List.take_zero,List.nil_append,Nat.zero_add,Array.length_toList];rw [List.drop_of_length_le jQ,List.append_nil]
theorem ahk {L cs:List Value} {x m:Nat} (h:(L.drop x).take m=cs): ∀ (j:Nat) (u:Value),cs[j]? =some u->L[x+j]? =some u:=by
 intro j u hu;subst h;have hj:j<m:=by
  have:=(List.getElem?_eq_some_iff.1 hu).1;rw [List.length_take] at this;omega
 rw [List.getElem?_take_of_lt hj,List.getElem?_drop] at hu;exact hu
theorem l8 {row:Array Value} {cs:List Value} {x m:Nat} (h:(row.toList.drop x).take m=cs): ∀ (j:Nat) (u:Value),cs[j]? =some u->row[x+j]? =some u:=by
 intro j u hu;have:=ahk h j u hu;simpa using this
theorem Rd.Xm {B s n b off j i:Nat} {xs:List Value} (h:Rd w B s (some ⟨b,off,none⟩) n xs) (hx:xs[j+i]? =some v):w.cell? ⟨b,off+j+i,none⟩=some v:=by
 rw [Nat.add_assoc];exact h.cl hx
theorem Rd.vG {B s n b off j:Nat} {xs cs:List Value} (h:Rd w B s (some ⟨b,off,none⟩) n xs) (hx: ∀ i u,cs[i]? =some u->xs[j+i]? =some u):w.rangeAt b (off+j) cs:=h.rg (m:=0) hx
theorem aM {cs:List Value} (h:cs.all (·.oneCell')=true): ∀ u∈cs,u.oneCell'=true:=by simpa using h
theorem bU {α:Type} {enc:α->List Value} {sz:Nat} (hsz: ∀ x,(enc x).length=sz): ∀ {l:List α} {k:Nat} {x:α} {j:Nat} {u:Value},l[k]? =some x->(enc x)[j]? =some u->(l.flatMap enc)[k*sz+j]? =some u
 | [],k,x,j,u,h,_=>by simp at h
 | y::l,0,x,j,u,h,hj=>by
  simp at h;subst h;rw [List.flatMap_cons,Nat.zero_mul,Nat.zero_add,List.getElem?_append_left (List.getElem?_eq_some_iff.1 hj).1];exact hj
 | y::l,k+1,x,j,u,h,hj=>by
  have hj':j<sz:=by have:=(List.getElem?_eq_some_iff.1 hj).1;rw [hsz] at this;exact this
  rw [List.flatMap_cons,List.getElem?_append_right (by rw [hsz,Nat.succ_mul];omega),hsz,show (k+1)*sz+j-sz=k*sz+j by rw [Nat.succ_mul];omega];exact bU hsz (by simpa using h) hj
theorem iE {α:Type} {enc:α->List Value} {sz:Nat} (hsz: ∀ x,(enc x).length=sz) (l:List α):(l.flatMap enc).length=l.length*sz:=by
 induction l with
 | nil=>simp
 | cons y l ih=>rw [List.flatMap_cons,List.length_append,ih,hsz,List.length_cons,Nat.succ_mul];omega
theorem lJ {t e:TypeId} {b off n c s:Nat} {i:Int} {kd:IntKind} (k:Nat) (hu:P.underlying t=some (.slice e)) (hz:(P.info? e).map (·.size)=some s) (hik:i=k) (hk:k<n):
  (Instr.indexAt t (.slice (some ⟨b,off,none⟩) n c) (.int kd i)).run P w= .ok (.pointer (some ⟨b,off+k*s,none⟩)) w:=by
 subst hik;obtain ⟨q,hq,hs⟩: ∃ q,P.info? e=some q/\q.size=s:=by
  cases h:P.info? e with
  | none=>simp [h] at hz
  | some q=>exact ⟨q,rfl,by simpa [h] using hz⟩
 have hkk:(0:Int)<=k/\(k:Int)<n:=oQ;simp [Instr.indexAt,asIntOf,Sem.run_bind,run_underlying hu,Result.andThen,hkk,hk,sizeOf,typeInfo,hq,hs,Go.WideShapes.add_plain]
theorem fE {t e:TypeId} {b off n s:Nat} {i:Int} {kd:IntKind} (k:Nat) (hu:P.underlying t=some (.array n e)) (hz:(P.info? e).map (·.size)=some s) (hik:i=k) (hk:k<n):
  (Instr.indexAt t (.pointer (some ⟨b,off,none⟩)) (.int kd i)).run P w= .ok (.pointer (some ⟨b,off+k*s,none⟩)) w:=by
 subst hik;obtain ⟨q,hq,hs⟩: ∃ q,P.info? e=some q/\q.size=s:=by
  cases h:P.info? e with
  | none=>simp [h] at hz
  | some q=>exact ⟨q,rfl,by simpa [h] using hz⟩
 have hkk:(0:Int)<=k/\(k:Int)<n:=oQ;simp [Instr.indexAt,asIntOf,Sem.run_bind,run_underlying hu,Result.andThen,hkk,hk,sizeOf,typeInfo,hq,hs,Go.WideShapes.add_plain,Instr.sureAddr]
def wU (P:Program) (N:Nat) (ops:Array Oper) (C:World->Prop) (Qa:Act->Prop) (rest:List Oper) (l:Slots):Prop:= ∀ a,Fr N l a->wpQuiet P ops C Qa rest a
theorem gZ {id:Nat} {os:List Oper} (S:St B w0 w fs) (hm:P.follows .mixedOrders=true) (hB:Region.lexB .any os.toArray=true)
  (h:wU P N os.toArray (λw'=>St B w0 w' fs) (λa'=> ∀ w',St B w0 w' fs->Q .normal a' w') os l):wC P N (.region id os.toArray true) Q l w:=λa F=>
 wp_region_quiet (C:=λw'=>St B w0 w' fs) hm hB S.drew (by simpa using h a F)
theorem Mx {C:World->Prop} {Qa:Act->Prop} (hw:Wanted N ops l o true) (hd:o.dst=some d) (hN:Nat.blt d N=true) (hy: ∀ w,C w->iP P N l o w v) (h:wU P N ops C Qa rest ((d,v)::l)):wU P N ops C Qa (o::rest) l:=λa F=>by
 unfold wpQuiet;rw [if_pos (hw a F)];refine ⟨v,λw hC=>?_,by rw [hd];exact h _ (F.put hN v)⟩;unfold Oper.quietAt;rw [hy w hC a F];exact ⟨rfl,rfl⟩
theorem ahl {C:World->Prop} {Qa:Act->Prop} (hw:Wanted N ops l o false) (hd:o.dst=some d) (hN:Nat.blt d N=true) (h:wU P N ops C Qa rest ((d,undef)::l)):wU P N ops C Qa (o::rest) l:=λa F=>by
 unfold wpQuiet;rw [if_neg (by rw [hw a F];simp),hd];exact h _ (F.put hN undef)
theorem Xn {C:World->Prop} {Qa:Act->Prop} {f:FuncId} {vs:List Value} (hw:Wanted N ops l o true) (hd:o.dst=some d) (hN:Nat.blt d N=true) (he: ∀ w,Enter P N l o w f vs) (hc: ∀ w,C w->Calls P f vs.toArray w λe w'=>e= .returned v/\C w')
  (h:wU P N ops C Qa rest ((d,v)::l)):wU P N ops C Qa (o::rest) l:=λa F=>by
 unfold wpQuiet;rw [if_pos (hw a F)];refine ⟨v,λw hC=>?_,by rw [hd];exact h _ (F.put hN v)⟩;unfold Oper.quietAt;rw [he w a F];exact ⟨rfl,hc w hC⟩
theorem iG (h: ∀ w',St B w0 w' fs->wQ N Q .normal l w'):wU P N ops (λw'=>St B w0 w' fs) (λa'=> ∀ w',St B w0 w' fs->Q .normal a' w') [] l:=λa F w' S=>h w' S a F
def wA (P:Program) (N:Nat) (ops:Array Oper) (Q:Exit->Act->World->Prop) (C:World->Prop) (n:Nat) (listed:Array Bool) (l:Slots) (w:World):Prop:= ∀ a,Fr N l a->wpAnyH P .any ops (NoPanic Q) C n listed a w
theorem I6 {id:Nat} {os:List Oper} {C:World->Prop} (hm:P.follows .mixedOrders=true) (h:wA P N os.toArray Q C os.toArray.size (Array.replicate os.toArray.size false) l w.drew):wC P N (.region id os.toArray true) Q l w:=λa F=>
 wp_region_noPanic (wp_region_held hm (h a F))
theorem Dt {C:World->Prop} {n i:Nat} {listed listed':Array Bool} (hi:ops[i]? =some o) (hs:Region.noSelect ops=true) (hf:Region.free .any ops listed i=true) (hr:(Region.ready .any ops listed).contains i=true) (hS:C w)
  (hl:listed.setIfInBounds i true=listed') (hw:Wanted N ops l o true) (hd:o.dst=some d) (hN:Nat.blt d N=true) (hy: ∀ w,C w->iP P N l o w v) (h:wA P N ops Q C n listed' ((d,v)::l) w):wA P N ops Q C (n+1) listed l w:=λa F=>by
 subst hl;refine wpAnyH_take hi hs hf hr (λc a w h=>h) (.inl ⟨hw a F,λw hC=>hy w hC a F⟩) hS ?_;rw [hd];exact h _ (F.put hN v)
theorem zZ {C:World->Prop} {n i:Nat} {listed listed':Array Bool} (hi:ops[i]? =some o) (hs:Region.noSelect ops=true) (hf:Region.free .any ops listed i=true) (hr:(Region.ready .any ops listed).contains i=true) (hS:C w)
  (hl:listed.setIfInBounds i true=listed') (hw:Wanted N ops l o false) (hd:o.dst=some d) (hN:Nat.blt d N=true) (h:wA P N ops Q C n listed' ((d,undef)::l) w):wA P N ops Q C (n+1) listed l w:=λa F=>by
 subst hl;refine wpAnyH_take (v:=undef) hi hs hf hr (λc a w h=>h) (.inr ⟨hw a F,rfl⟩) hS ?_;rw [hd];exact h _ (F.put hN undef)
def wN (P:Program) (N:Nat) (ops:Array Oper) (Q:Exit->Act->World->Prop) (i:Nat) (l:Slots) (w:World) (K:Act->World->Prop):Prop:= ∀ a,Fr N l a->wpOp P ops (NoPanic Q) i K a w
theorem nY {C:World->Prop} {n:Nat} {listed:Array Bool} (hr:Region.ready .any ops listed=[]) (h:wQ N Q .normal l w):wA P N ops Q C n listed l w:=λa F=>wpAnyH_done hr (NoPanic.normal (h a F)) n
theorem ajP {C:World->Prop} {n i:Nat} {listed listed':Array Bool} (hi:ops[i]? =some o) (hl:listed.setIfInBounds i true=listed') (hw:Wanted N ops l o true) (hd:o.dst=some d) (hN:Nat.blt d N=true) (hy:Does P N l o w v w') (hC:C w') (h:wA P N ops Q C n listed' ((d,v)::l) w'):
  wN P N ops Q i l w (λa' w'=>C w'/\wpAnyH P .any ops (NoPanic Q) C n (listed.setIfInBounds i true) a' w'):=λa F=>by
 subst hl;unfold wpOp;simp only [hi];rw [if_pos (hw a F)];refine .inl ?_;unfold Oper.wp;rw [hy a F];refine ⟨hC,?_⟩;rw [hd];exact h _ (F.put hN v)
theorem amW {C:World->Prop} {n i:Nat} {listed listed':Array Bool} (hi:ops[i]? =some o) (hl:listed.setIfInBounds i true=listed') (hw:Wanted N ops l o true) (hd:o.dst=none) (hy:Eff P N l o w w') (hC:C w') (h:wA P N ops Q C n listed' l w'):
  wN P N ops Q i l w (λa' w'=>C w'/\wpAnyH P .any ops (NoPanic Q) C n (listed.setIfInBounds i true) a' w'):=λa F=>by
 subst hl;unfold wpOp;simp only [hi];rw [if_pos (hw a F)];refine .inl ?_;unfold Oper.wp;rw [hy a F];refine ⟨hC,?_⟩;rw [hd];exact h _ F
theorem ahm {C:World->Prop} {n i:Nat} {listed listed':Array Bool} {f:FuncId} {vs:List Value} {R:Ending->World->Prop} (hi:ops[i]? =some o) (hl:listed.setIfInBounds i true=listed') (hw:Wanted N ops l o true) (hd:o.dst=some d) (hN:Nat.blt d N=true) (he:Enter P N l o w f vs) (hc:Calls P f vs.toArray w R)
  (h: ∀ e w',R e w'-> ∃ v,e= .returned v/\C w'/\wA P N ops Q C n listed' ((d,v)::l) w'):
  wN P N ops Q i l w (λa' w'=>C w'/\wpAnyH P .any ops (NoPanic Q) C n (listed.setIfInBounds i true) a' w'):=λa F=>by
 subst hl;unfold wpOp;simp only [hi];rw [if_pos (hw a F)];refine .inl ?_;unfold Oper.wp;rw [he a F];refine hc.mono λe w' hr=>?_;obtain ⟨v,rfl,hC,hv⟩:=h e w' hr;refine ⟨hC,?_⟩;rw [hd];exact hv _ (F.put hN v)
theorem Du {id n:Nat} {os:List Oper} {C:World->Prop} {listed:Array Bool} (hm:P.follows .mixedOrders=true) (hn:os.length=n) (hl:Array.replicate n false=listed) (h:wA P N os.toArray Q C n listed l w.drew):wC P N (.region id os.toArray true) Q l w:=by
 subst hn;subst hl;exact I6 hm (by simpa using h)
def wK (P:Program) (N:Nat) (ops:Array Oper) (Q:Exit->Act->World->Prop) (C:World->Prop) (n i:Nat) (listed:Array Bool) (l:Slots) (w:World):Prop:=wN P N ops Q i l w (λa' w'=>C w'/\wpAnyH P .any ops (NoPanic Q) C n (listed.setIfInBounds i true) a' w')
theorem Ol {C:World->Prop} {n:Nat} {listed:Array Bool} {r:Nat} {rs:List Nat} (hr:Region.ready .any ops listed=r::rs) (h: ∀ i∈r::rs,wK P N ops Q C n i listed l w):wA P N ops Q C (n+1) listed l w:=λa F=>
 wpAnyH_all hr iQ λi hi=>h i hi a F
theorem gJ {C:World->Prop} {n:Nat} {listed:Array Bool} {r:Nat} (hr:Region.ready .any ops listed=[r]) (h:wK P N ops Q C n r listed l w):wA P N ops Q C (n+1) listed l w:=Ol hr λi hi=>by
 rcases List.mem_singleton.1 hi with rfl
 exact h
theorem fu {C:World->Prop} {n:Nat} {listed:Array Bool} {r s:Nat} (hr:Region.ready .any ops listed=[r,s]) (h:wK P N ops Q C n r listed l w) (h':wK P N ops Q C n s listed l w):wA P N ops Q C (n+1) listed l w:=Ol hr λi hi=>by
 rcases List.mem_cons.1 hi with rfl | hi
 ·exact h
 rcases List.mem_singleton.1 hi with rfl
 exact h'
theorem Qz {C:World->Prop} {n:Nat} {listed:Array Bool} {r s t:Nat} (hr:Region.ready .any ops listed=[r,s,t]) (h:wK P N ops Q C n r listed l w) (h':wK P N ops Q C n s listed l w) (h'':wK P N ops Q C n t listed l w):wA P N ops Q C (n+1) listed l w:=Ol hr λi hi=>by
 rcases List.mem_cons.1 hi with rfl | hi
 ·exact h
 rcases List.mem_cons.1 hi with rfl | hi
 ·exact h'
 rcases List.mem_singleton.1 hi with rfl
 exact h''
section
variable {C:World->Prop} {n i:Nat} {listed listed':Array Bool}
theorem je (hi:ops[i]? =some o) (hl:listed.setIfInBounds i true=listed') (hw:Wanted N ops l o true) (hd:o.dst=some d) (hN:Nat.blt d N=true) (hy:iP P N l o w v) (h:C w/\wA P N ops Q C n listed' ((d,v)::l) w):wK P N ops Q C n i listed l w:=
 ajP hi hl hw hd hN hy h.1 h.2
theorem jV {V:Nat->Value} {row:Array Value} {t:TypeId} (hi:ops[i]? =some o) (hl:listed.setIfInBounds i true=listed') (S:St B w0 w fs) (hw:Wanted N ops l o true) (hd:o.dst=some d) (hN:Nat.blt d N=true) (hy:Does P N l o w (V w.heap.size) (w.alloc (.cells row t)))
  (h: ∀ b w',St B w0 w' (.blk b row t::fs)->C w'/\wA P N ops Q C n listed' ((d,V b)::l) w'):wK P N ops Q C n i listed l w:=
 ajP hi hl hw hd hN hy (h _ _ S.alloc).1 (h _ _ S.alloc).2
theorem sD {ty t:TypeId} {x y:Operand} {b off m:Nat} {cs row row':Array Value} (hi':ops[i]? =some o) (hl:listed.setIfInBounds i true=listed') (j:Nat) (S:St B w0 w fs) (hw:Wanted N ops l o true) (hd:o.dst=none) (ho:o.op= .store ty x y) (hx:ev l x=some (.pointer (some ⟨b,off,none⟩))) (hy:ev l y=some v)
  (hi:fs[j]? =some (.blk b row t)) (hv:v.cells=cs) (hz:(P.info? ty).map (·.size)=some m) (hm:cs.size=m) (h1: ∀ u∈cs.toList,u.oneCell'=true) (hr:off+m<=row.size) (hrow:cB row off cs.toList=row') (hfs:fs.set j (.blk b row' t)=fs')
  (h: ∀ w',St B w0 w' fs'->C w'/\wA P N ops Q C n listed' l w'):wK P N ops Q C n i listed l w:=by
 subst hrow;subst hfs;have hk:=h _ (S.set j hi (jh b cs.toList off w) (jg cs.toList off (S.blk j hi)));exact amW hi' hl hw hd (Hz ho hx hy (H9 hv hz hm h1 (S.there j hi off m hr))) hk.1 hk.2
theorem uG {f:FuncId} {vs:List Value} {R:Ending->World->Prop} (hi:ops[i]? =some o) (hl:listed.setIfInBounds i true=listed') (hw:Wanted N ops l o true) (hd:o.dst=some d) (hN:Nat.blt d N=true) (he:Enter P N l o w f vs) (hc:Calls P f vs.toArray w R)
  (h: ∀ e w',R e w'-> ∃ v,e= .returned v/\C w'/\wA P N ops Q C n listed' ((d,v)::l) w'):wK P N ops Q C n i listed l w:=ahm hi hl hw hd hN he hc h
end
end
section
variable {P:Program} {ops:Array Oper} {Q:Exit->Act->World->Prop} {C:World->Prop} {n:Nat}
def BN (P:Program) (ops:Array Oper) (Q:Exit->Act->World->Prop) (C:World->Prop) (n:Nat):Nat->Array Bool->Act->World->Prop
 | 0,listed,a,w=>Region.ready .any ops listed=[]/\Q .normal a w
 | fuel+1,listed,a,w=>
  (Region.ready .any ops listed=[]->Q .normal a w)/\
  ∀ i∈Region.ready .any ops listed,wpOp P ops Q i (λa' w'=>((listed.setIfInBounds i true).getD n true=false->C w')/\BN P ops Q C n fuel (listed.setIfInBounds i true) a' w') a w
theorem Kg: ∀ (fuel:Nat) (listed:Array Bool) (a:Act) (w:World),BN P ops Q C n fuel listed a w->wpAny P .any ops Q fuel listed a w
 | 0,_,_,_,h=>h
 | fuel+1,_,_,_,h=>⟨h.1,λi hi=>wpOp_mono (λa' w' h'=>Kg fuel _ a' w' h'.2) (h.2 i hi)⟩
def wS (ops:Array Oper) (n i:Nat):Bool:=match ops[n]? with | none=>false | some o=>o.after.any λe=>Region.binds .any e&&e.on==i
theorem Dv {i:Nat} {listed:Array Bool} (hw:wS ops n i=true) (hi:listed.getD i true=false):n ∉ Region.ready .any ops listed:=by
 intro hr;obtain ⟨_,o,ho,hall⟩:=mem_ready.1 hr;unfold wS at hw;rw [ho] at hw;obtain ⟨e,he,hb⟩:=Array.any_eq_true'.1 hw;simp only [Bool.and_eq_true,beq_iff_eq] at hb;have h1:=hall e he hb.1;rw [hb.2] at h1
 rcases Nat.lt_or_ge i listed.size with h' | h'
 ·simp [h'] at hi h1;rw [hi] at h1;cases h1
 simp [Array.getElem?_eq_none h'] at hi
theorem EJ {i:Nat} {oi:Oper} {v:Value} (hi:ops[i]? =some oi) (hsel: ∀ (j:Nat) (o:Oper) cs b,ops[j]? =some o->o.op≠ .select cs b)
  (hQ: ∀ c a w,Q (.panic c) (a.put oi.dst v) w->Q (.panic c) a w) (hni:wS ops n i=true) (hne:n≠i):
  ∀ (fuel:Nat) (listed:Array Bool) (a:Act) (w:World),
   (∀ j oj,ops[j]? =some oj->j≠i->listed.getD j true=false->(∀ e∈oj.after,Region.binds .any e=true->e.on≠i)->oi.apart ops oj=true)->
   i∈Region.ready .any ops listed->listed.getD n true=false->YieldsIf P ops C oi v a->C w->
   BN P ops Q C n fuel (listed.setIfInBounds i true) (a.put oi.dst v) w->BN P ops Q C n (fuel+1) listed a w:=by
 intro fuel
 induction fuel with
 | zero=>
  intro listed a w _ hr hnl hy hS H;refine ⟨λh=>(by rw [h] at hr;cases hr),λj hj=>?_⟩;by_cases hji:j=i
  ·subst hji;exact hy.wpOp hi hS ⟨λ_=>hS,H⟩
  have:=ready_mono hj hji;rw [H.1] at this
  cases this
 | succ fuel ih=>
  intro listed a w hfree hr hnl hy hS H;refine ⟨λh=>(by rw [h] at hr;cases hr),λj hj=>?_⟩;by_cases hji:j=i
  ·subst hji;exact hy.wpOp hi hS ⟨λ_=>hS,H⟩
  have h1:=H.2 j (ready_mono hj hji);obtain ⟨hjun,oj,hoj,hall⟩:=mem_ready.1 hj;have alf:=(mem_ready.1 hr).1;have as7:listed.getD i true=false:=by
   rcases Nat.lt_or_ge i listed.size with h' | h'
   ·simp [h'] at alf⊢;exact alf
   simp [Array.getElem?_eq_none h'] at alf
  have hjn:j≠n:=λe=>Dv hni as7 (e▸hj);have hnot: ∀ e∈oj.after,Region.binds .any e=true->e.on≠i:=λe he hb heq=>by
   have h1:=hall e he hb;have h0:=(mem_ready.1 hr).1;rw [heq] at h1
   rcases Nat.lt_or_ge i listed.size with h' | h'
   ·simp [h'] at h0 h1;rw [h0] at h1;cases h1
   simp [Array.getElem?_eq_none h'] at h0
  have h2:=wpOp_putIf hoj (hfree j oj hoj hji hjun hnot) (λcs b=>hsel i oi cs b hi) (λcs b=>hsel j oj cs b hoj) hQ hy h1;have hfree': ∀ k ok,ops[k]? =some ok->k≠i->(listed.setIfInBounds j true).getD k true=false->
    (∀ e∈ok.after,Region.binds .any e=true->e.on≠i)->oi.apart ops ok=true:=λk ok hk hki hun hno=>by
   refine hfree k ok hk hki ?_ hno;by_cases hjk:j=k
   ·subst hjk;exact hjun
   rw [getD_set_ne true hjk] at hun;exact hun
  have apR:(listed.setIfInBounds j true).getD n true=false:=by rw [getD_set_ne true hjn];exact hnl
  refine wpOp_mono (λa' w' h3=>?_) h2;have hC:C w':=h3.2.1 (by rw [Array.setIfInBounds_comm _ _ (Ne.symm hji),getD_set_ne true (Ne.symm hne)];exact apR);refine ⟨λ_=>hC,ih (listed.setIfInBounds j true) a' w' hfree' (ready_mono hr (Ne.symm hji)) apR h3.1 hC ?_⟩;rw [Array.setIfInBounds_comm _ _ hji];exact h3.2.2
theorem CO: ∀ (l:List Oper) (k:Nat) (listed:Array Bool) (a:Act) (w:World),(∀ j,l[j]? =ops[k+j]?)->(listed.setIfInBounds k true).getD n true=true\/l=[]->(listed.getD n true=true\/k=n)->n<listed.size->
  Region.seqB .any ops l.length k listed=true->wpList P ops Q l a w->BN P ops Q C n l.length listed a w
 | [],_,_,_,_,_,_,_,_,hB,h=>⟨by simpa [Region.seqB] using hB,h⟩
 | o::l,k,listed,a,w,hl,_,hk,hnz,hB,h=>by
  have h0:ops[k]? =some o:=by simpa using (hl 0).symm
  simp only [List.length_cons,Region.seqB,Bool.and_eq_true,decide_eq_true_eq] at hB;refine ⟨λh1=>(by rw [hB.1] at h1;cases h1),λi hi=>?_⟩;rw [hB.1] at hi;have hik:i=k:=by simpa using hi
  subst hik;have hw:wpOp P ops Q i (wpList P ops Q l) a w:=by unfold wpOp;simp only [h0];exact h
  have hn2:(listed.setIfInBounds i true).getD n true=true:=by
   rcases hk with hk | hk
   ·by_cases e:i=n
    ·subst e;simp [Array.getD_eq_getD_getElem?,hnz]
    rw [getD_set_ne true e];exact hk
   subst hk;simp [Array.getD_eq_getD_getElem?,hnz]
  refine wpOp_mono (λa' w' h'=>⟨λh=>(by rw [hn2] at h;cases h),CO l (i+1) _ a' w' (λj=>by have:=hl (j+1);simpa [Nat.add_assoc,Nat.add_comm 1 j] using this) ?_ (.inl hn2) (by simpa using hnz) hB.2 h'⟩) hw;by_cases e:i+1=n
  ·left;subst e;simp [Array.getD_eq_getD_getElem?]
  left;rw [getD_set_ne true e];exact hn2
end
section
variable {P:Program} {N:Nat} {l l':Slots} {a:Act} {w w' w0:World} {B:Nat} {fs fs':List Fact} {ops:Array Oper} {o:Oper} {Q:Exit->Act->World->Prop} {v:Value} {d:Nat} {C:World->Prop} {n m i:Nat} {listed listed':Array Bool}
def wG (P:Program) (N:Nat) (ops:Array Oper) (Q:Exit->Act->World->Prop) (C:World->Prop) (n m:Nat) (listed:Array Bool) (l:Slots) (w:World):Prop:= ∀ a,Fr N l a->BN P ops (NoPanic Q) C n m listed a w
def wH (P:Program) (N:Nat) (ops:Array Oper) (Q:Exit->Act->World->Prop) (C:World->Prop) (n m i:Nat) (listed:Array Bool) (l:Slots) (w:World):Prop:=
 wN P N ops Q i l w (λa' w'=>((listed.setIfInBounds i true).getD n true=false->C w')/\BN P ops (NoPanic Q) C n m (listed.setIfInBounds i true) a' w')
theorem xD {id:Nat} {os:List Oper} (n:Nat) (hm:P.follows .mixedOrders=true) (hn:os.length=m) (hl:Array.replicate m false=listed) (h:wG P N os.toArray Q C n m listed l w.drew):wC P N (.region id os.toArray true) Q l w:=λa F=>by
 subst hn;subst hl;exact wp_region_noPanic (wp_region_any hm (Kg _ _ _ _ (by simpa using h a F)))
theorem l9 (hi:ops[i]? =some o) (hs:Region.noSelect ops=true) (hf:Region.free .any ops listed i=true) (hr:(Region.ready .any ops listed).contains i=true) (hnl:listed.getD n true=false) (hni:wS ops n i=true) (hne:Nat.beq n i=false) (hS:C w)
  (hl:listed.setIfInBounds i true=listed') (hw:Wanted N ops l o true) (hd:o.dst=some d) (hN:Nat.blt d N=true) (hy: ∀ w,C w->iP P N l o w v) (h:wG P N ops Q C n m listed' ((d,v)::l) w):wG P N ops Q C n (m+1) listed l w:=λa F=>by
 subst hl;refine EJ hi (Region.noSelect_spec hs) (λc a w h=>h) hni (λe=>by subst e;simp at hne) m listed a w (Region.free_spec hi hf) (by simpa using hr) hnl (.inl ⟨hw a F,λw hC=>hy w hC a F⟩) hS ?_;rw [hd];exact h _ (F.put hN v)
theorem ahn (hi:ops[i]? =some o) (hs:Region.noSelect ops=true) (hf:Region.free .any ops listed i=true) (hr:(Region.ready .any ops listed).contains i=true) (hnl:listed.getD n true=false) (hni:wS ops n i=true) (hne:Nat.beq n i=false) (hS:C w)
  (hl:listed.setIfInBounds i true=listed') (hw:Wanted N ops l o false) (hd:o.dst=some d) (hN:Nat.blt d N=true) (h:wG P N ops Q C n m listed' ((d,undef)::l) w):wG P N ops Q C n (m+1) listed l w:=λa F=>by
 subst hl;refine EJ (v:=undef) hi (Region.noSelect_spec hs) (λc a w h=>h) hni (λe=>by subst e;simp at hne) m listed a w (Region.free_spec hi hf) (by simpa using hr) hnl (.inr ⟨hw a F,rfl⟩) hS ?_;rw [hd];exact h _ (F.put hN undef)
theorem acg {rs:List Nat} (hr:Region.ready .any ops listed=rs) (hne:rs.isEmpty=false) (h: ∀ i∈rs,wH P N ops Q C n m i listed l w):wG P N ops Q C n (m+1) listed l w:=λa F=>
 ⟨λh0=>(by rw [hr] at h0;subst h0;cases hne),λi hi=>h i (hr▸hi) a F⟩
theorem eG {r:Nat} (hr:Region.ready .any ops listed=[r]) (h:wH P N ops Q C n m r listed l w):wG P N ops Q C n (m+1) listed l w:=acg hr rfl λi hi=>by
 rcases List.mem_singleton.1 hi with rfl
 exact h
theorem ach {r s:Nat} (hr:Region.ready .any ops listed=[r,s]) (h:wH P N ops Q C n m r listed l w) (h':wH P N ops Q C n m s listed l w):wG P N ops Q C n (m+1) listed l w:=acg hr rfl λi hi=>by
 rcases List.mem_cons.1 hi with rfl | hi
 ·exact h
 rcases List.mem_singleton.1 hi with rfl
 exact h'
theorem iX (h:wQ N Q .normal l w):wQ N (NoPanic Q) .normal l w:=λa F=>NoPanic.normal (h a F)
theorem eB {rest:List Oper} {k:Nat} (hB:Region.seqB .any ops m n listed=true) (hz:Nat.blt n listed.size=true) (hrest:ops.toList.drop n=rest) (hm:rest.length=m) (h:wL P N ops (NoPanic Q) rest l w) (hk:k=m:=by rfl):wG P N ops Q C n m listed l w:=λa F=>by
 subst hrest;subst hm;have hz':n<listed.size:=by simpa [Nat.blt_eq] using hz
 refine CO _ n listed a w (λj=>by simp [List.getElem?_drop]) (.inl ?_) (.inr rfl) hz' hB (h a F);simp [Array.getD_eq_getD_getElem?,hz']
section
theorem abT (hi:ops[i]? =some o) (hl:listed.setIfInBounds i true=listed') (hw:Wanted N ops l o true) (hd:o.dst=some d) (hN:Nat.blt d N=true) (hy:Does P N l o w v w') (h:C w'/\wG P N ops Q C n m listed' ((d,v)::l) w'):wH P N ops Q C n m i listed l w:=λa F=>by
 subst hl;unfold wpOp;simp only [hi];rw [if_pos (hw a F)];refine .inl ?_;unfold Oper.wp;rw [hy a F];refine ⟨λ_=>h.1,?_⟩;rw [hd];exact h.2 _ (F.put hN v)
theorem mq {V:Nat->Value} {row:Array Value} {t:TypeId} (hi:ops[i]? =some o) (hl:listed.setIfInBounds i true=listed') (S:St B w0 w fs) (hw:Wanted N ops l o true) (hd:o.dst=some d) (hN:Nat.blt d N=true) (hy:Does P N l o w (V w.heap.size) (w.alloc (.cells row t)))
  (h: ∀ b w',St B w0 w' (.blk b row t::fs)->C w'/\wG P N ops Q C n m listed' ((d,V b)::l) w'):wH P N ops Q C n m i listed l w:=abT hi hl hw hd hN hy (h _ _ S.alloc)
theorem kX {x y:Operand} {t e:TypeId} {z:Value} {size bytes k q c Br:Nat} {A:Option Addr} {xs news xs':List Value} {sv:Value} (hi':ops[i]? =some o) (hl:listed.setIfInBounds i true=listed') (j:Nat) (S:St B w0 w fs) (hw:Wanted N ops l o true) (hd:o.dst=some d) (hN:Nat.blt d N=true)
  (ho:o.op= .call { callee:= .builtin .append,args:= #[x,y],argTypes:= #[t,t] }) (hx:ev l x=some sv) (hy:ev l y=some (.slice A q c)) (hi:fs[j]? =some (.own e size sv k xs)) (hr:Rd w Br size A q news)
  (ht:P.underlying t=some (.slice e)) (Qf:(P.info? e).map (λi=>(i.zero,i.size,i.bytes))=some (some z,size,bytes)) (hzs:z.cells.size=size) (hsz:0<size) (h1: ∀ u∈news,u.oneCell'=true) (h63:k+q<=maxLen) (hbytes:(k+q)*bytes<=140737488355328)
  (hxs:xs++news=xs') (h: ∀ A' c' w',k+q<=c'->c'<=maxLen->St B w0 w' (fs.set j (.own e size (.slice A' (k+q) c') (k+q) xs'))->C w'/\wG P N ops Q C n m listed' ((d,.slice A' (k+q) c')::l) w'):wH P N ops Q C n m i listed l w:=by
 subst hxs;obtain ⟨j0,hj0,hz,hs,hb⟩:=info_parts Qf;obtain ⟨v',w',hrun,h2,h3,h4⟩:=qA (P:=P) w B t o.type e j0 z size bytes ht hj0 hz hs hb hzs hsz sv k xs (S.own j hi) Br A q c news hr h1 h63 hbytes S.base;obtain ⟨A',c',rfl,hc1,hc2⟩:=lX h2;exact abT hi' hl hw hd hN (AY (xs:=[x,y]) (vs:=[sv,.slice A q c]) ho ⟨hx,hy,trivial⟩ (λcs=>by simp [builtin,hrun,Sem.run_bind,Result.andThen])) (h A' c' w' hc1 hc2 (S.append j hi h3 h2 h4))
theorem lF {f:FuncId} {vs:List Value} {R:Ending->World->Prop} (hi:ops[i]? =some o) (hl:listed.setIfInBounds i true=listed') (hw:Wanted N ops l o true) (hd:o.dst=some d) (hN:Nat.blt d N=true) (he:Enter P N l o w f vs) (hc:Calls P f vs.toArray w R)
  (h: ∀ e w',R e w'-> ∃ v,e= .returned v/\C w'/\wG P N ops Q C n m listed' ((d,v)::l) w'):wH P N ops Q C n m i listed l w:=λa F=>by
 subst hl;unfold wpOp;simp only [hi];rw [if_pos (hw a F)];refine .inl ?_;unfold Oper.wp;rw [he a F];refine hc.mono λe w' hr=>?_;obtain ⟨v,rfl,hC,hv⟩:=h e w' hr;refine ⟨λ_=>hC,?_⟩;rw [hd];exact hv _ (F.put hN v)
end
end
end
section
open Go.RowKit
def kC (n lo hi:Int):Bool:=decide (lo<=n)&&decide (n<=hi)
theorem D8 {n lo hi:Int}:kC n lo hi=true↔lo<=n/\n<=hi:=by simp [kC]
theorem Yq {n lo hi:Int}:kC n lo hi=false↔n<lo\/hi<n:=by
 rw [<-Bool.not_eq_true,D8];omega
end
section
open ChangeShapes WideShapes RowKit
structure lK where
 top:Int
 b0:Bool
 b1:Bool
 b2:Bool
 b3:Bool
 b4:Bool
 b5:Bool
 b6:Bool
 b7:Bool
 deriving DecidableEq
def lK.seen (x:lK):List Bool:=[x.b0,x.b1,x.b2,x.b3,x.b4,x.b5,x.b6,x.b7]
def lK.cells (x:lK):List Value:=[iV x.top,.bool x.b0,.bool x.b1,.bool x.b2,.bool x.b3,.bool x.b4,.bool x.b5,.bool x.b6,.bool x.b7]
def lK.val (x:lK):Value:= .agg #[iV x.top,.bool x.b0,.bool x.b1,.bool x.b2,.bool x.b3,.bool x.b4,.bool x.b5,.bool x.b6,.bool x.b7]
def lK.at (x:lK) (k:Nat):Bool:=x.seen.getD k false
def MB (t:Int) (f:Nat->Bool):Bool:=(List.range 8).all λk=> !f k || decide (8<=t+k)
theorem Db {t:Int} {f:Nat->Bool}:MB t f=true↔ ∀ k,k<8->f k=true->8<=t+k:=by
 simp only [MB,List.all_eq_true,List.mem_range,Bool.or_eq_true,Bool.not_eq_true',decide_eq_true_eq]
 constructor
 ·intro h k hk hf
  rcases h k hk with h | h
  ·rw [hf] at h;cases h
  exact h
 intro h k hk
 cases hf:f k
 ·exact .inl rfl
 exact .inr (h k hk hf)
def fF (x:lK):Int:=
 if (decide (0<=x.top)&&decide (x.top<=1073741825)&&MB x.top x.at&&(!decide (0<x.top) || x.b7))=true then 0 else 6
theorem Vr (b0 b1 b2 b3 b4 b5 b6 b7:Bool) (w:World):(Instr.index 219 (.agg #[.bool b0,.bool b1,.bool b2,.bool b3,.bool b4,.bool b5,.bool b6,.bool b7]) (iV 0)).run Tryz.prog w= .ok (.bool b0) w:=kQ
theorem Vs (b0 b1 b2 b3 b4 b5 b6 b7:Bool) (w:World):(Instr.index 219 (.agg #[.bool b0,.bool b1,.bool b2,.bool b3,.bool b4,.bool b5,.bool b6,.bool b7]) (iV 1)).run Tryz.prog w= .ok (.bool b1) w:=kQ
theorem Vt (b0 b1 b2 b3 b4 b5 b6 b7:Bool) (w:World):(Instr.index 219 (.agg #[.bool b0,.bool b1,.bool b2,.bool b3,.bool b4,.bool b5,.bool b6,.bool b7]) (iV 2)).run Tryz.prog w= .ok (.bool b2) w:=kQ
theorem Vu (b0 b1 b2 b3 b4 b5 b6 b7:Bool) (w:World):(Instr.index 219 (.agg #[.bool b0,.bool b1,.bool b2,.bool b3,.bool b4,.bool b5,.bool b6,.bool b7]) (iV 3)).run Tryz.prog w= .ok (.bool b3) w:=kQ
theorem Vv (b0 b1 b2 b3 b4 b5 b6 b7:Bool) (w:World):(Instr.index 219 (.agg #[.bool b0,.bool b1,.bool b2,.bool b3,.bool b4,.bool b5,.bool b6,.bool b7]) (iV 4)).run Tryz.prog w= .ok (.bool b4) w:=kQ
theorem Vw (b0 b1 b2 b3 b4 b5 b6 b7:Bool) (w:World):(Instr.index 219 (.agg #[.bool b0,.bool b1,.bool b2,.bool b3,.bool b4,.bool b5,.bool b6,.bool b7]) (iV 5)).run Tryz.prog w= .ok (.bool b5) w:=kQ
theorem Vx (b0 b1 b2 b3 b4 b5 b6 b7:Bool) (w:World):(Instr.index 219 (.agg #[.bool b0,.bool b1,.bool b2,.bool b3,.bool b4,.bool b5,.bool b6,.bool b7]) (iV 6)).run Tryz.prog w= .ok (.bool b6) w:=kQ
theorem Vy (b0 b1 b2 b3 b4 b5 b6 b7:Bool) (w:World):(Instr.index 219 (.agg #[.bool b0,.bool b1,.bool b2,.bool b3,.bool b4,.bool b5,.bool b6,.bool b7]) (iV 7)).run Tryz.prog w= .ok (.bool b7) w:=kQ
theorem MC (x:lK) (k:Nat) (hk:k<8) (w:World):
  (Instr.index 219 (.agg #[.bool x.b0,.bool x.b1,.bool x.b2,.bool x.b3,.bool x.b4,.bool x.b5,.bool x.b6,.bool x.b7]) (iV k)).run Tryz.prog w= .ok (.bool (x.at k)) w:=by
 have h:k=0\/k=1\/k=2\/k=3\/k=4\/k=5\/k=6\/k=7:=oQ
 rcases h with rfl | rfl | rfl | rfl | rfl | rfl | rfl | rfl
 ·exact Vr _ _ _ _ _ _ _ _ w
 ·exact Vs _ _ _ _ _ _ _ _ w
 ·exact Vt _ _ _ _ _ _ _ _ w
 ·exact Vu _ _ _ _ _ _ _ _ w
 ·exact Vv _ _ _ _ _ _ _ _ w
 ·exact Vw _ _ _ _ _ _ _ _ w
 ·exact Vx _ _ _ _ _ _ _ _ w
 exact Vy _ _ _ _ _ _ _ _ w
theorem yE (x:lK) (w:World) (h0:0<=x.top) (h1:x.top<=1073741825):
  Calls Tryz.prog 179 #[x.val] w λe w'=>e= .returned (iV (x.top-8))/\Below w.heap.size w w':=by
 obtain ⟨t,b0,b1,b2,b3,b4,b5,b6,b7⟩:=x;unfold lK.val;simp only at h0 h1⊢
 go_enter Tryz.func179,Tryz.ntmps179
 go_wp2
 go_ret
 exact ⟨rfl,by go_grown⟩
def JB (w:World) (k:Int) (e:Ending) (w':World):Prop:=e= .returned (iV k)/\Below w.heap.size w w'
theorem OJ (x:lK) (w:World) (h:x.top<0\/1073741825<x.top):Calls Tryz.prog 171 #[x.val] w (JB w 6):=by
 obtain ⟨t,b0,b1,b2,b3,b4,b5,b6,b7⟩:=x;unfold lK.val;simp only at h⊢;by_cases h0:t<0
 ·clear h
  go_enter Tryz.func171,Tryz.ntmps171
  go_wp2_with fail
  go_ret
  exact ⟨rfl,by go_grown⟩
 have h1:1073741825<t:=oQ;clear h
 go_enter Tryz.func171,Tryz.ntmps171
 go_wp2_with fail
 go_ret
 exact ⟨rfl,by go_grown⟩
theorem OL {x:lK} {k:Nat} (hk:k<8) (h:x.at k=true) (h2:x.top+k<8):fF x=6:=by
 refine if_neg (λhh=>?_);simp only [Bool.and_eq_true] at hh;have:=Db.1 hh.1.2 k hk h;omega
theorem Yr (x:lK) (w:World) (h0:0<=x.top) (h1:x.top<=1073741825):Calls Tryz.prog 171 #[x.val] w (JB w (fF x)):=by
 have HF:Hid (∀ k,k<8->x.at k=true->x.top+k<8->fF x=6):=Lib.hid (λk=>OL);have HI:=Lib.hid (MC x);have HL:=Lib.hid (yE x);have HE:Hid (fF x=if (MB x.top x.at&&(!decide (0<x.top) || x.b7))=true then 0 else 6):=by
  unfold Hid fF;simp [h0,h1]
 generalize fF x=z at HF HE;have hat:=Lib.hid (rfl:x.at=x.at);generalize x.at=f at HF HI HE hat;clear hat;obtain ⟨t,b0,b1,b2,b3,b4,b5,b6,b7⟩:=x;unfold lK.val at*;simp only at h0 h1
 go_enter Tryz.func171,Tryz.ntmps171
 go_wp2_with fail
 go_loopw [15] (λi wr=> ∃ k:Nat,k<=8/\i=iV k/\(∀ j,j<k->f j=true->8<=t+j)/\Below (w.heap.size+1) (w.alloc (.cells #[iV t,.bool b0,.bool b1,.bool b2,.bool b3,.bool b4,.bool b5,.bool b6,.bool b7] 221)) wr) (λi _=>8-(intOf i).toNat)
 case atStart=>exact ⟨0,by omega,rfl,by simp,by go_grown⟩
 case round=>
  obtain ⟨k,hk,rfl,hall,hb⟩:=hrel;have HA:=Lib.hid hall;have HB:=Lib.hid hb;have c0:=hb.cell (p:=⟨w.heap.size,0,none⟩) iQ;have c1:=hb.cell (p:=⟨w.heap.size,1,none⟩) iQ;have c2:=hb.cell (p:=⟨w.heap.size,2,none⟩) iQ;have c3:=hb.cell (p:=⟨w.heap.size,3,none⟩) iQ;have c4:=hb.cell (p:=⟨w.heap.size,4,none⟩) iQ;have c5:=hb.cell (p:=⟨w.heap.size,5,none⟩) iQ;have c6:=hb.cell (p:=⟨w.heap.size,6,none⟩) iQ;have c7:=hb.cell (p:=⟨w.heap.size,7,none⟩) iQ;have c8:=hb.cell (p:=⟨w.heap.size,8,none⟩) iQ;simp only [World.cell?_alloc_mark] at c0 c1 c2 c3 c4 c5 c6 c7 c8;have hsz:w.heap.size+1<=wr.heap.size:=by have:=hb.size;simpa using this
  clear hall hb;by_cases hlt:k<8
  ·have hi:=HI.out k hlt
   cases I7:f k
   ·rw [I7] at hi
    go_wp2_with fail
    go_roundw
    case rel=>exact ⟨k+1,by omega,by go_num,(λj hj hfj=>by
     rcases Nat.lt_or_ge j k with h | h
     ·exact HA.out j h hfj
     rw [show j=k by omega,I7] at hfj;cases hfj),HB.out⟩
    case measure=>simp [intOf];omega
   rw [I7] at hi;by_cases hneg:t-8+k<0
   ·have hz:=HF.out k hlt I7 oQ;subst hz;clear I7
    go_wp2_with fail
    refine (HL.out _ h0 h1).mono ?_;rintro e w1 ⟨rfl,hb1⟩;have HB1:=Lib.hid hb1;clear hb1
    go_wp2_with fail
    go_ret
    exact ⟨rfl,((Below.refl _ w).alloc (Nat.le_refl _) _).trans ((HB.out.mono oQ).trans (HB1.out.mono oQ))⟩
   have hf2:=Lib.hid I7;clear I7
   go_wp2_with fail
   refine (HL.out _ h0 h1).mono ?_;rintro e w1 ⟨rfl,hb1⟩;have HB1:=Lib.hid hb1;clear hb1
   go_wp2_with fail
   go_roundw
   case rel=>exact ⟨k+1,by omega,by go_num,(λj hj hfj=>by
    rcases Nat.lt_or_ge j k with h | h
    ·exact HA.out j h hfj
    rw [show j=k by omega];omega),HB.out.trans (HB1.out.mono oQ)⟩
   case measure=>simp [intOf];omega
  obtain rfl:k=8:=oQ;by_cases ht:0<t
  ·cases b7
   ·have hz:z=6:=by rw [HE.out];simp [ht]
    subst hz
    go_wp2_with fail
    go_ret
    exact ⟨rfl,((Below.refl _ w).alloc (Nat.le_refl _) _).trans (HB.out.mono oQ)⟩
   have hz:z=0:=by rw [HE.out,Db.2 HA.out];simp
   subst hz
   go_wp2_with fail
   go_ret
   exact ⟨rfl,((Below.refl _ w).alloc (Nat.le_refl _) _).trans (HB.out.mono oQ)⟩
  have hz:z=0:=by rw [HE.out,Db.2 HA.out];simp [ht]
  subst hz
  go_wp2_with fail
  go_ret
  exact ⟨rfl,((Below.refl _ w).alloc (Nat.le_refl _) _).trans (HB.out.mono oQ)⟩
theorem EK (x:lK) (w:World):Calls Tryz.prog 171 #[x.val] w (JB w (fF x)):=by
 by_cases h:0<=x.top/\x.top<=1073741825
 ·exact Yr x w h.1 h.2
 rw [show fF x=6 from if_neg (λhh=>by simp only [Bool.and_eq_true,decide_eq_true_eq] at hh;exact h ⟨hh.1.1.1,hh.1.1.2⟩)];exact OJ x w oQ
def intCells (l:List Int):List Value:=l.map (Value.int .i64)
theorem Rd.aho {w:World} {B n:Nat} {A:Option Addr} {l:List Int} (h:Rd w B 1 A n (intCells l)):l.length=n:=by
 have:=h.1;simp [intCells] at this;omega
theorem Rd.amX {w:World} {B n k:Nat} {A:Option Addr} {l:List Int} (h:Rd w B 1 A n (intCells l)) (hk:k<n): ∃ b off x,A=some ⟨b,off,none⟩/\b<B/\l[k]? =some x/\w.cell? ⟨b,off+k,none⟩=some (.int .i64 x):=by
 obtain ⟨b,off,u,e,hb,hx,hc⟩:=h.at_ hk;simp only [intCells,List.getElem?_map,Option.map_eq_some_iff] at hx;obtain ⟨x,hx,rfl⟩:=hx;exact ⟨b,off,x,e,hb,hx,hc⟩
def pJ (t:Int) (f:Nat->Bool):Nat->List Int
 | 0=>[]
 | k+1=>if f k=true then pJ t f k++[t-8+k] else pJ t f k
def ajQ (t:Int) (bs:List Bool):lK:=⟨t,bs.getD 0 false,bs.getD 1 false,bs.getD 2 false,bs.getD 3 false,bs.getD 4 false,bs.getD 5 false,bs.getD 6 false,bs.getD 7 false⟩
def tJ (bs:List Bool) (k:Int):List Bool:=if 0<=k then bs.set k.toNat true else bs
def mV (t:Int) (l:List Int):List Bool:=l.foldl (λbs x=>tJ bs (x-t+8)) [false,false,false,false,false,false,false,false]
theorem Gq (t:Int) (l:List Int) (x:Int):mV t (l++[x])=tJ (mV t l) (x-t+8):=by simp [mV]
theorem Vz (bs:List Bool) (k:Int):(tJ bs k).length=bs.length:=by unfold tJ;split<;>simp
theorem Kh (t:Int) (l:List Int):(mV t l).length=8:=by
 unfold mV;generalize hb:[false,false,false,false,false,false,false,false]=b;have h8:b.length=8:=by rw [<-hb];rfl
 clear hb
 induction l generalizing b with
 | nil=>simpa using h8
 | cons x l ih=>exact ih _ (by rw [Vz];exact h8)
def uX (t:Int) (bs:List Bool):Array Value:=(.int .i64 t::bs.map Value.bool).toArray
theorem eight {bs:List Bool} (h:bs.length=8): ∃ a0 a1 a2 a3 a4 a5 a6 a7,bs=[a0,a1,a2,a3,a4,a5,a6,a7]:=by
 match bs,h with
 | [a0,a1,a2,a3,a4,a5,a6,a7],_=>exact ⟨a0,a1,a2,a3,a4,a5,a6,a7,rfl⟩
structure WB (w:World) (t:Int) (bs:List Bool) (wr:World):Prop where
 below:Below w.heap.size w wr
 res:wr.heap[w.heap.size]? =some (.cells #[.int .i64 0,.bool false,.bool false,.bool false,.bool false,.bool false,.bool false,.bool false,.bool false] 221 (0,0))
 row:wr.heap[w.heap.size+1]? =some (.cells (uX t bs) 221 (0,0))
theorem WB.drewN {w wr:World} {t:Int} {bs:List Bool} (h:WB w t bs wr) (q:Nat):WB w t bs (wr.drewN q):=
 ⟨⟨h.below.os,h.below.tape,h.below.output,h.below.size,h.below.block⟩,h.res,h.row⟩
theorem WB.vK {w wr:World} {t:Int} {bs:List Bool} (h:WB w t bs wr) (j:Nat):WB w t (bs.set j true) (wr.setCell ⟨w.heap.size+1,1+j,none⟩ (.bool true)):=by
 refine ⟨h.below.setCell iQ _,?_,?_⟩
 ·rw [Below.heap_setCell _ _ _ _ iQ];exact h.res
 have hr:=h.row;simp only [World.setCell,Array.getElem?_modify,hr];simp [uX,Nat.add_comm 1 j,List.map_set]
theorem WB.cell0 {w wr:World} {t:Int} {bs:List Bool} (h:WB w t bs wr):wr.cell? ⟨w.heap.size+1,0,none⟩=some (.int .i64 t):=by
 rw [cell_of_row wr _ 0 _ _ (0,0) h.row];simp [uX]
theorem WB.cell {w wr:World} {t:Int} {bs:List Bool} (h:WB w t bs wr) {j:Nat} (hj:j<bs.length):wr.cell? ⟨w.heap.size+1,1+j,none⟩=some (.bool (bs.getD j false)):=by
 rw [cell_of_row wr _ (1+j) _ _ (0,0) h.row,Nat.add_comm];simp [uX,hj]
theorem WB.free {w wr:World} {t:Int} {bs:List Bool} (h:WB w t bs wr) (j:Nat):wr.frozen? ⟨w.heap.size+1,j,none⟩=false:=by
 have:=h.row;simp [World.frozen?,this]
def tX (x:lK) (id:Int):Bool×Int:=
 if fF x≠0 then (false,fF x)
 else if id<0\/1073741824<id then (false,2)
 else if x.top<=id then (false,0)
 else if id<x.top-8 then (false,9)
 else (x.at (id-(x.top-8)).toNat,0)
def adL (w:World) (r:Bool×Int) (e:Ending) (w':World):Prop:=e= .returned (.tuple #[.bool r.1,.int .i64 r.2])/\Below w.heap.size w w'
theorem CP {x:lK} (h:fF x=0):0<=x.top/\x.top<=1073741825:=by
 unfold fF at h
 split at h
 ·rename_i hh
  simp only [Bool.and_eq_true,decide_eq_true_eq] at hh;exact ⟨hh.1.1.1,hh.1.1.2⟩
 cases h
theorem Yt (x:lK): ∀ k,k<8->(x.cells)[k+1]? =some (.bool (x.at k)):=by
 intro k hk;have h:k=0\/k=1\/k=2\/k=3\/k=4\/k=5\/k=6\/k=7:=oQ
 rcases h with rfl | rfl | rfl | rfl | rfl | rfl | rfl | rfl<;>rfl
theorem RZ (x:lK) (id:Int) (w:World):Calls Tryz.prog 180 #[x.val,.int .i64 id] w (adL w (tX x id)):=by
 have HC:=Lib.hid (EK x);have HL:=Lib.hid (yE x);have HX:=Lib.hid (Yt x);have HT:=Lib.hid (CP (x:=x));have HZ0:Hid (∀ r,r=tX x id->r=if fF x≠0 then (false,fF x)
  else if id<0\/1073741824<id then (false,2)
  else if x.top<=id then (false,0)
  else if id<x.top-8 then (false,9)
  else (x.at (id-(x.top-8)).toNat,0)):=Lib.hid (λr h=>h)
 generalize hr:tX x id=r;have HZ:=Lib.hid (HZ0.out r hr.symm);clear hr HZ0;generalize fF x=z at HC HT HZ;have hat:=Lib.hid (rfl:x.at=x.at);generalize x.at=f at HX HZ hat;clear hat;obtain ⟨t,b0,b1,b2,b3,b4,b5,b6,b7⟩:=x;unfold lK.val at*;unfold lK.cells at HX;simp only at HT HX HZ HL
 go_enter Tryz.func180,Tryz.ntmps180
 go_wp2_with fail
 refine (HC.out _).mono ?_;rintro e w1 ⟨rfl,hb1⟩;have c0:=hb1.cell (p:=⟨w.heap.size,0,none⟩) iQ;have c1:=hb1.cell (p:=⟨w.heap.size,1,none⟩) iQ;have c2:=hb1.cell (p:=⟨w.heap.size,2,none⟩) iQ;have c3:=hb1.cell (p:=⟨w.heap.size,3,none⟩) iQ;have c4:=hb1.cell (p:=⟨w.heap.size,4,none⟩) iQ;have c5:=hb1.cell (p:=⟨w.heap.size,5,none⟩) iQ;have c6:=hb1.cell (p:=⟨w.heap.size,6,none⟩) iQ;have c7:=hb1.cell (p:=⟨w.heap.size,7,none⟩) iQ;have c8:=hb1.cell (p:=⟨w.heap.size,8,none⟩) iQ;simp only [World.cell?_alloc_mark] at c0 c1 c2 c3 c4 c5 c6 c7 c8;have hsz:w.heap.size+1<=w1.heap.size:=by have:=hb1.size;simpa using this
 have HK:Hid (∀ k,k<8->w1.cell? ⟨w.heap.size,1+k,none⟩=some (.bool (f k))):=by
  intro k hk;have ck:=hb1.cell (p:=⟨w.heap.size,1+k,none⟩) iQ;rw [World.cell?_alloc_mark] at ck;rw [ck,Nat.add_comm 1 k];simpa using HX.out k hk
 have HB:Hid (Below w.heap.size w w1):=Lib.hid (((Below.refl _ w).alloc (Nat.le_refl _) _).trans (hb1.mono iQ));clear hb1 HX HC;by_cases hz:z=0
 ·obtain ⟨h0,h1⟩:=HT.out hz;subst hz;have HZ:=Lib.hid (HZ.out.trans (if_neg iQ));clear HT;by_cases i0:id<0
  ·have e:=HZ.out;rw [if_pos oQ] at e;subst e
   go_wp2_with fail
   go_ret2
   exact ⟨rfl,HB.out⟩
  by_cases i1:1073741824<id
  ·have e:=HZ.out;rw [if_pos oQ] at e;subst e
   go_wp2_with fail
   go_ret2
   exact ⟨rfl,HB.out⟩
  have HZ:=Lib.hid (HZ.out.trans (if_neg oQ));by_cases i2:t<=id
  ·have e:=HZ.out;rw [if_pos oQ] at e;subst e
   go_wp2_with fail
   go_ret2
   exact ⟨rfl,HB.out⟩
  have HZ:=Lib.hid (HZ.out.trans (if_neg oQ));by_cases i3:id<t-8
  ·have e:=HZ.out;rw [if_pos oQ] at e;subst e
   go_wp2_with fail
   refine (HL.out _ h0 h1).mono ?_;rintro e w2 ⟨rfl,hb2⟩;have HB2:=Lib.hid hb2;clear hb2
   go_wp2_with fail
   go_ret2
   exact ⟨rfl,HB.out.trans (HB2.out.mono oQ)⟩
  have e:=HZ.out;rw [if_neg oQ] at e;subst e;obtain ⟨k,hk⟩:=Int.eq_ofNat_of_zero_le (show 0<=id-(t-8) by omega);have hk8:k<8:=oQ;rw [hk,Int.toNat_natCast];have HKK:=Lib.hid hk;have ck:=HK.out k hk8
  go_wp2_with fail
  refine (HL.out _ h0 h1).mono ?_;rintro e w2 ⟨rfl,hb2⟩;have d0:=hb2.cell (p:=⟨w.heap.size,0,none⟩) jQ;have d1:=hb2.cell (p:=⟨w.heap.size,1,none⟩) jQ;have d2:=hb2.cell (p:=⟨w.heap.size,2,none⟩) jQ;have d3:=hb2.cell (p:=⟨w.heap.size,3,none⟩) jQ;have d4:=hb2.cell (p:=⟨w.heap.size,4,none⟩) jQ;have d5:=hb2.cell (p:=⟨w.heap.size,5,none⟩) jQ;have d6:=hb2.cell (p:=⟨w.heap.size,6,none⟩) jQ;have d7:=hb2.cell (p:=⟨w.heap.size,7,none⟩) jQ;have d8:=hb2.cell (p:=⟨w.heap.size,8,none⟩) jQ;have dk:=hb2.cell (p:=⟨w.heap.size,1+k,none⟩) jQ;rw [c0] at d0;rw [c1] at d1;rw [c2] at d2;rw [c3] at d3;rw [c4] at d4;rw [c5] at d5;rw [c6] at d6;rw [c7] at d7;rw [c8] at d8;rw [ck] at dk;have HB2:=Lib.hid hb2;clear hb2
  go_wp2_with fail
  refine (HL.out _ h0 h1).mono ?_;rintro e w3 ⟨rfl,hb3⟩;have HB3:=Lib.hid hb3;have g0:=hb3.cell (p:=⟨w.heap.size,1+k,none⟩) (by simp;have:=HB2.out.size;omega);rw [dk] at g0;clear hb3
  go_wp2_with fail
  go_ret2
  exact ⟨by show Ending.returned (.tuple #[.bool (f k),.int .i64 0])=_;rw [HKK.out,Int.toNat_natCast],(HB.out.trans (HB2.out.mono oQ)).trans (HB3.out.mono (by have:=HB2.out.size;omega))⟩
 have e:=HZ.out;rw [if_pos hz] at e;subst e
 go_wp2_with fail
 go_ret2
 exact ⟨rfl,HB.out⟩
end
section
def Yu (x:lK) (id:Int):lK:=ajQ (max x.top (id+1)) (mV (max x.top (id+1)) (pJ x.top x.at 8++[id]))
end
section
open ChangeShapes WideShapes RowKit
def Ak:lK:=⟨0,false,false,false,false,false,false,false,false⟩
def jT (x:lK) (id:Int):lK×Bool×Int:=
 if (tX x id).2≠0 then (Ak,false,(tX x id).2) else if (tX x id).1=true then (x,false,0) else (Yu x id,true,0)
def Yv (w:World) (r:lK×Bool×Int) (e:Ending) (w':World):Prop:=e= .returned (.tuple #[r.1.val,.bool r.2.1,.int .i64 r.2.2])/\Below w.heap.size w w'
theorem ME {x:lK} {id:Int} (h:(tX x id).2=0):fF x=0/\0<=id/\id<=1073741824:=by
 unfold tX at h;by_cases h1:fF x=0
 ·by_cases h2:id<0\/1073741824<id
  ·simp [h1,h2] at h
  exact ⟨h1,by omega,by omega⟩
 simp [h1] at h
theorem eD (n lo hi:Int) (w:World):
  Calls Tryz.prog 108 #[.int .i64 n,.int .i64 lo,.int .i64 hi] w λe w'=>e= .returned (.bool (kC n lo hi))/\w=w':=by
 by_cases h1:lo<=n<;>by_cases h2:n<=hi
 all_goals
  go_enter Tryz.func108,Tryz.ntmps108
  go_wp2
  go_ret
  exact ⟨by simp [kC];omega,rfl⟩
def bL (e:Ev):Int:=
 if ¬ (1<=e.kind/\e.kind<=4) then 3
 else if e.kind=1/\ ¬ (kC e.producer 0 3&&kC e.id 0 1073741824&&kC e.body 0 1000000)=true then 2
 else if e.kind=3/\ ¬ (kC e.aL 0 1048576&&kC e.hno 0 1073741824)=true then 2
 else if e.kind≠1/\ ¬ (e.producer=0/\e.id=0/\e.body=0) then 3
 else if e.kind≠3/\ ¬ (e.aL=0/\e.hno=0) then 3
 else 0
def mM (w:World) (k:Int) (e:Ending) (w':World):Prop:=e= .returned (.int .i64 k)/\Below w.heap.size w w'
theorem Fy (p i b he hn:Int) (w:World) (hb:(kC p 0 3&&kC i 0 1073741824&&kC b 0 1000000)=false):
  Calls Tryz.prog 110 #[Ev.val ⟨1,p,i,b,he,hn⟩] w (mM w 2):=by
 unfold Ev.val
 cases r1:kC p 0 3<;>cases r2:kC i 0 1073741824<;>cases r3:kC b 0 1000000<;>simp [r1,r2,r3] at hb
 all_goals
  go_enter Tryz.func110,Tryz.ntmps110
  go_wp2_with (go_at_call 108;refine (eD _ _ _ _).mono ?_;rintro e w' ⟨rfl,rfl⟩)
  go_region
  go_wp2_with (go_at_call 108;refine (eD _ _ _ _).mono ?_;rintro e w' ⟨rfl,rfl⟩)
  go_ret
  exact ⟨rfl,by go_grown⟩
theorem LP (p i b he hn:Int) (w:World) (hb:(kC p 0 3&&kC i 0 1073741824&&kC b 0 1000000)=true):
  Calls Tryz.prog 110 #[Ev.val ⟨1,p,i,b,he,hn⟩] w (mM w (if he=0/\hn=0 then 0 else 3)):=by
 unfold Ev.val;simp only [Bool.and_eq_true] at hb;obtain ⟨⟨r1,r2⟩,r3⟩:=hb;have hq:=qZ ⟨1,p,i,b,0,0⟩ ⟨1,p,i,b,he,hn⟩;simp only [Ev.mk.injEq,true_and] at hq;by_cases z:0=he/\0=hn
 ·rw [if_pos ⟨z.1.symm,z.2.symm⟩];rw [show decide (0=he/\0=hn)=true by simpa using z] at hq;obtain ⟨rfl,rfl⟩:=z
  go_enter Tryz.func110,Tryz.ntmps110
  go_wp2_with (go_at_call 108;refine (eD _ _ _ _).mono ?_;rintro e w' ⟨rfl,rfl⟩)
  go_region
  go_wp2_with (go_at_call 108;refine (eD _ _ _ _).mono ?_;rintro e w' ⟨rfl,rfl⟩)
  go_ret
  exact ⟨rfl,by go_grown⟩
 rw [if_neg (λh=>z ⟨h.1.symm,h.2.symm⟩)];rw [show decide (0=he/\0=hn)=false by simpa using z] at hq;have HZ:=Lib.hid z;clear z
 go_enter Tryz.func110,Tryz.ntmps110
 go_wp2_with (go_at_call 108;refine (eD _ _ _ _).mono ?_;rintro e w' ⟨rfl,rfl⟩)
 go_region
 go_wp2_with (go_at_call 108;refine (eD _ _ _ _).mono ?_;rintro e w' ⟨rfl,rfl⟩)
 go_ret
 exact ⟨rfl,by go_grown⟩
theorem LQ (p i b he hn:Int) (w:World) (hb:(kC he 0 1048576&&kC hn 0 1073741824)=false):
  Calls Tryz.prog 110 #[Ev.val ⟨3,p,i,b,he,hn⟩] w (mM w 2):=by
 unfold Ev.val
 cases r1:kC he 0 1048576<;>cases r2:kC hn 0 1073741824<;>simp [r1,r2] at hb
 all_goals
  go_enter Tryz.func110,Tryz.ntmps110
  go_wp2_with (go_at_call 108;refine (eD _ _ _ _).mono ?_;rintro e w' ⟨rfl,rfl⟩)
  go_ret
  exact ⟨rfl,by go_grown⟩
theorem Yw (p i b he hn:Int) (w:World) (hb:(kC he 0 1048576&&kC hn 0 1073741824)=true):
  Calls Tryz.prog 110 #[Ev.val ⟨3,p,i,b,he,hn⟩] w (mM w (if p=0/\i=0/\b=0 then 0 else 3)):=by
 unfold Ev.val;simp only [Bool.and_eq_true] at hb;obtain ⟨r1,r2⟩:=hb;have hq:=qZ ⟨3,0,0,0,he,hn⟩ ⟨3,p,i,b,he,hn⟩;simp only [Ev.mk.injEq,true_and,and_true] at hq;by_cases z:0=p/\0=i/\0=b
 ·rw [if_pos ⟨z.1.symm,z.2.1.symm,z.2.2.symm⟩];rw [show decide (0=p/\0=i/\0=b)=true by simpa using z] at hq;obtain ⟨rfl,rfl,rfl⟩:=z
  go_enter Tryz.func110,Tryz.ntmps110
  go_wp2_with (go_at_call 108;refine (eD _ _ _ _).mono ?_;rintro e w' ⟨rfl,rfl⟩)
  go_ret
  exact ⟨rfl,by go_grown⟩
 rw [if_neg (λh=>z ⟨h.1.symm,h.2.1.symm,h.2.2.symm⟩)];rw [show decide (0=p/\0=i/\0=b)=false by simpa using z] at hq;have HZ:=Lib.hid z;clear z
 go_enter Tryz.func110,Tryz.ntmps110
 go_wp2_with (go_at_call 108;refine (eD _ _ _ _).mono ?_;rintro e w' ⟨rfl,rfl⟩)
 go_ret
 exact ⟨rfl,by go_grown⟩
theorem VA (k p i b he hn:Int) (w:World) (hk:k=2\/k=4):
  Calls Tryz.prog 110 #[Ev.val ⟨k,p,i,b,he,hn⟩] w (mM w (if p=0/\i=0/\b=0/\he=0/\hn=0 then 0 else 3)):=by
 unfold Ev.val;have hq:=qZ ⟨k,0,0,0,0,0⟩ ⟨k,p,i,b,he,hn⟩;simp only [Ev.mk.injEq,true_and] at hq;by_cases z:0=p/\0=i/\0=b/\0=he/\0=hn
 ·rw [if_pos ⟨z.1.symm,z.2.1.symm,z.2.2.1.symm,z.2.2.2.1.symm,z.2.2.2.2.symm⟩];rw [show decide (0=p/\0=i/\0=b/\0=he/\0=hn)=true by simpa using z] at hq;obtain ⟨rfl,rfl,rfl,rfl,rfl⟩:=z
  rcases hk with rfl | rfl
  all_goals
   go_enter Tryz.func110,Tryz.ntmps110
   go_wp2_with (go_at_call 108;refine (eD _ _ _ _).mono ?_;rintro e w' ⟨rfl,rfl⟩)
   go_ret
   exact ⟨rfl,by go_grown⟩
 rw [if_neg (λh=>z ⟨h.1.symm,h.2.1.symm,h.2.2.1.symm,h.2.2.2.1.symm,h.2.2.2.2.symm⟩)];rw [show decide (0=p/\0=i/\0=b/\0=he/\0=hn)=false by simpa using z] at hq;have HZ:=Lib.hid z;clear z
 rcases hk with rfl | rfl
 all_goals
  go_enter Tryz.func110,Tryz.ntmps110
  go_wp2_with (go_at_call 108;refine (eD _ _ _ _).mono ?_;rintro e w' ⟨rfl,rfl⟩)
  go_ret
  exact ⟨rfl,by go_grown⟩
theorem VB (k p i b he hn:Int) (w:World) (h1:(k==1)=false) (h2:(k==2)=false) (h3:(k==3)=false) (h4:(k==4)=false):
  Calls Tryz.prog 110 #[Ev.val ⟨k,p,i,b,he,hn⟩] w (mM w 3):=by
 unfold Ev.val
 go_enter Tryz.func110,Tryz.ntmps110
 go_wp2_with (go_at_call 108;refine (eD _ _ _ _).mono ?_;rintro e w' ⟨rfl,rfl⟩)
 go_ret
 exact ⟨rfl,by go_grown⟩
theorem Gs (e:Ev) (w:World):Calls Tryz.prog 110 #[e.val] w (mM w (bL e)):=by
 obtain ⟨k,p,i,b,he,hn⟩:=e;by_cases k1:k=1
 ·subst k1
  cases hb:(kC p 0 3&&kC i 0 1073741824&&kC b 0 1000000)
  ·have hf:bL ⟨1,p,i,b,he,hn⟩=2:=by simp only [bL,hb];simp
   rw [hf];exact Fy p i b he hn w hb
  have hf:bL ⟨1,p,i,b,he,hn⟩=if he=0/\hn=0 then 0 else 3:=by
   simp only [bL,hb];by_cases z:he=0/\hn=0<;>simp [z]
  rw [hf];exact LP p i b he hn w hb
 by_cases k3:k=3
 ·subst k3
  cases hb:(kC he 0 1048576&&kC hn 0 1073741824)
  ·have hf:bL ⟨3,p,i,b,he,hn⟩=2:=by simp only [bL,hb];simp
   rw [hf];exact LQ p i b he hn w hb
  have hf:bL ⟨3,p,i,b,he,hn⟩=if p=0/\i=0/\b=0 then 0 else 3:=by
   simp only [bL,hb];by_cases z:p=0/\i=0/\b=0<;>simp [z]
  rw [hf];exact Yw p i b he hn w hb
 by_cases k24:k=2\/k=4
 ·have hf:bL ⟨k,p,i,b,he,hn⟩=if p=0/\i=0/\b=0/\he=0/\hn=0 then 0 else 3:=by
   have hk:1<=k/\k<=4:=oQ;simp only [bL,hk,and_self,not_true_eq_false,if_false,k1,k3,false_and,ne_eq,not_false_eq_true,true_and];by_cases z:p=0/\i=0/\b=0<;>by_cases y:he=0/\hn=0<;>simp [z,y]<;>omega
  rw [hf];exact VA k p i b he hn w k24
 have hf:bL ⟨k,p,i,b,he,hn⟩=3:=by
  have hk: ¬ (1<=k/\k<=4):=oQ;simp only [bL,hk,not_false_eq_true,if_true]
 rw [hf];exact VB k p i b he hn w (beq_eq_false_iff_ne.2 oQ) (beq_eq_false_iff_ne.2 oQ) (beq_eq_false_iff_ne.2 oQ) (beq_eq_false_iff_ne.2 oQ)
end
section
open ChangeShapes WideShapes ChangeAt RowKit ChangeMaps MapKept
open Go.Maps (Keyed IsMap Tidy)
def KR (P:Program) (k:TypeId) (ks:List Int) (o:Obj):Prop:= ∃ es clock,o= .map es clock/\
 ∀ (w:World) (b:Nat),w.heap[b]? =some o-> ∃ D:DataW Unit,w.ownsMap P k unitElem b ks.length D/\(∀ z,Maps.has D (.int .i64 z)=decide (z∈ks))/\Maps.size D<=ks.length/\(Maps.size D<ks.length↔ ¬ ks.Nodup)
section
variable {P:Program} {N:Nat} {l:Slots} {w w' w0:World} {B:Nat} {fs:List Fact} {ops:Array Oper} {o:Oper} {rest:List Oper} {Q:Exit->Act->World->Prop} {d:Nat}
theorem Xo {k:TypeId} {ks:List Int} {b:Nat} {D:DataW Unit} (ho:w.ownsMap P k unitElem b ks.length D) (hh: ∀ z,Maps.has D (.int .i64 z)=decide (z∈ks)) (hs:Maps.size D<=ks.length) (hn:Maps.size D<ks.length↔ ¬ ks.Nodup): ∃ o,w.heap[b]? =some o/\KR P k ks o:=by
 obtain ⟨es,clock,hb,F,hsz,hD⟩:=ho;refine ⟨_,hb,es,clock,rfl,λw2 b2 h2=>⟨D,⟨es,clock,h2,F,hsz,hD⟩,hh,hs,hn⟩⟩
theorem adM {k:TypeId}:KR P k [] (.map #[] 0):=by
 have h:=World.ownsMap_made default P k (unitElem (H:=Unit));obtain ⟨o,h1,h2⟩:=Xo (ks:=[]) h (λz=>by simp [Maps.has_eq]) (by simp [Maps.size_eq]) (by simp [Maps.size_eq]);have:(World.alloc default (Obj.map #[] 0)).heap[(default:World).heap.size]? =some (.map #[] 0):=by
  show ((default:World).heap.push _)[_]? =_
  rw [Array.getElem?_push,if_pos rfl]
 rw [this] at h1
 cases h1;exact h2
theorem VD {t k:TypeId} (S:St B w0 w fs) (hw:Wanted N ops l o true) (hd:o.dst=some d) (hN:Nat.blt d N=true) (ho:o.op= .makeMap t none)
  (h: ∀ b w',St B w0 w' (.loc b (KR P k [])::fs)->wL P N ops Q rest ((d,.map (some b))::l) w'):wL P N ops Q (o::rest) l w:=
 EF hw hd hN (Mt ho (run_makeMap t w)) (h _ _ (S.D6 adM))
theorem VE {ks:List Int} {z:Int}:(ks++[z]).Nodup↔ks.Nodup/\z ∉ ks:=by
 rw [List.nodup_append]
 constructor
 ·rintro ⟨h1,_,h2⟩;exact ⟨h1,λh=>h2 z h z iQ rfl⟩
 rintro ⟨h1,h2⟩;exact ⟨h1,by simp,λa ha b hb e=>by simp at hb;subst hb;subst e;exact h2 ha⟩
theorem MF {t k e:TypeId} {m x y:Operand} {b:Nat} {ks:List Int} {z:Int} (i:Nat) (S:St B w0 w fs) (hw:Wanted N ops l o true) (hd:o.dst=none) (ho:o.op= .mapUpdate t m x y) (hm:ev l m=some (.map (some b))) (hx:ev l x=some (.int .i64 z)) (hy:ev l y=some (.agg #[]))
  (hi:fs[i]? =some (.loc b (KR P k ks))) (hk:P.underlying k=some (.int .i64)) (ht:P.underlying t=some (.map k e)) (hz: -9223372036854775808<=z/\z<=9223372036854775807) (hn:ks.length<maxLen)
  (h: ∀ w',St B w0 w' (fs.set i (.loc b (KR P k (ks++[z]))))->wL P N ops Q rest l w'):wL P N ops Q (o::rest) l w:=by
 obtain ⟨ob,hb,es,clock,rfl,hall⟩:=S.loc i hi;obtain ⟨D,hown,hh,hs,hnd⟩:=hall w b hb;have K:Keyed P k:=Maps.int_keyed hk;have hkey:keyOf P k (.int .i64 z)=some (.int .i64 z):=Maps.keyOf_int_mk hk (by simp [Lit.wf,IntKind.min,IntKind.max,IntKind.signed,IntKind.bits];omega);obtain ⟨w',hrun,hown',htu⟩:=hown.store K ht hn hkey (unitElem_mk (H:=Unit));have hlk:WideAt.IsKeyLit (.int .i64 z):=trivial;have ajR:=hown.tidy K;have hmap:=hown.isMap;obtain ⟨o',ho',hR⟩:=Xo (ks:=ks++[z]) (by simpa using hown') (λy=>by
  by_cases e:y=z
  ·subst e;rw [Maps.has_put_same hmap hlk];simp
  ·rw [Maps.has_put_other (by simpa using e),hh];simp [e]) (by
  rw [Maps.size_put ajR];simp
  split<;>omega) (by
  rw [Maps.size_put ajR,VE,hh z];by_cases e:z∈ks
  ·simp [e];omega
  simp [e];omega)
 have hu:tT w b w':=by
  obtain ⟨es1,c1,es2,c2,h1,rfl⟩:=htu;exact ⟨rfl,rfl,rfl,by simp [setBlock],λj hj=>heap_setBlock_other h1 _ hj⟩
 exact EG hw hd (RY ho hm hx hy hrun) (h _ (S.TJ i hi hu ho' hR))
theorem adN {t k e:TypeId} {b:Nat} {ks:List Int} (i:Nat) (S:St B w0 w fs) (hi:fs[i]? =some (.loc b (KR P k ks))) (ht:P.underlying t=some (.map k e)) (ty:TypeId): ∃ n:Nat,(∀ cs,(builtin .len #[t] ty cs #[.map (some b)]).run P w= .ok (.value (.int .i64 n)) w)/\n<=ks.length/\(n<ks.length↔ ¬ ks.Nodup):=by
 obtain ⟨ob,hb,es,clock,rfl,hall⟩:=S.loc i hi;obtain ⟨D,hown,hh,hs,hnd⟩:=hall w b hb;refine ⟨Maps.size D,λcs=>?_,hs,hnd⟩;simp [builtin,hown.len ht ty,Sem.run_bind,Result.andThen]
end
end
end Go.Proofs.YtcomidffhiilcaaGreatDoor
