import Derived.Test.YtnhimdkpkmbhlaaGreatDoorRows
import Derived.WalkKit
import Derived.ProofKit
import Derived.OpenShut
import Derived.SizedLaws
import Derived.WalkSpells
import Derived.WalkLawsBesides
import Derived.Handy
import Derived.Deep.QuietTactic
import Derived.BigQuiet
import Derived.Lib.Hide
set_option maxRecDepth 100000
set_option maxHeartbeats 8000000
set_option linter.unusedSimpArgs false
set_option linter.unusedVariables false
namespace Go.Proofs.YtnhimdkpkmbhlaaGreatDoor
section
open ChangeShapes WideShapes ChangeAt RowKit
def eu {α β:Type} (R:α->β->Prop):List α->List β->Prop
 | [],[]=>True
 | a::l1,b::l2=>R a b/\eu R l1 l2
 | _,_=>False
theorem eu.xP {α β:Type} {R:α->β->Prop} {l:List α} {b:β} {l2:List β} (h:eu R l (b::l2)): ∃ a l1,l=a::l1/\R a b/\eu R l1 l2:=by
 cases l with
 | nil=>exact absurd h id
 | cons a l1=>exact ⟨a,l1,rfl,h.1,h.2⟩
theorem eu.vS {α β:Type} {R:α->β->Prop} {l:List α} (h:eu R l []):l=[]:=by
 cases l with
 | nil=>rfl
 | cons a l1=>exact absurd h id
theorem eu.len {α β:Type} {R:α->β->Prop}: ∀ {l:List α} {k:List β},eu R l k->l.length=k.length
 | [],[],_=>rfl
 | _::_,_::_,h=>by simp [eu.len h.2]
 | [],_::_,h=>absurd h id
 | _::_,[],h=>absurd h id
theorem eu.app {α β:Type} {R:α->β->Prop}: ∀ {l l':List α} {k k':List β},eu R l k->eu R l' k'->eu R (l++l') (k++k')
 | [],_,[],_,_,h'=>h'
 | _::_,_,_::_,_,h,h'=>⟨h.1,eu.app h.2 h'⟩
 | [],_,_::_,_,h,_=>absurd h id
 | _::_,_,[],_,h,_=>absurd h id
inductive Sh0 where
 | int (k:IntKind)
 | bool
 | str
inductive Sh where
 | at_ (s:Sh0)
 | sl (bytes:Nat) (es:List Sh0)
def Sh.plain:Sh->Option Sh0
 | .at_ s=>some s
 | .sl _ _=>none
def nK (P:Program):List Field->List (List Sh)->Nat->Bool
 | [],[],_=>true
 | f::fs,l::ls,o=>f.offset==o&&P.cellsOf f.type==l.length&&nK P fs ls (o+l.length)
 | _,_,_=>false
def flat (P:Program):Nat->TypeId->Option (List Sh)
 | 0,_=>none
 | n+1,t=>
  match P.underlying t with
  | some (.int k)=>some [.at_ (.int k)]
  | some .bool=>some [.at_ .bool]
  | some .string=>some [.at_ .str]
  | some (.slice e)=>(flat P n e).bind λl=>(l.mapM Sh.plain).bind λes=>if P.cellsOf e==es.length then some [.sl (P.bytesOf e) es] else none
  | some (.struct fs)=>(fs.toList.mapM λf=>flat P n f.type).bind λls=>if nK P fs.toList ls 0&&P.cellsOf t==ls.flatten.length then some ls.flatten else none
  | some (.array m e)=>(flat P n e).bind λl=>if P.cellsOf e==l.length&&P.cellsOf t==m*l.length then some (List.replicate m l).flatten else none
  | _=>none
def Sw (v:Value):Sh0->Prop
 | .int k=> ∃ n,v= .int k n/\(Lit.int k n).wf=true
 | .bool=> ∃ b,v= .bool b
 | .str=> ∃ s:ByteArray,v= .string s/\s.size<=maxLen
def Fits (W:World) (v:Value):Sh->Prop
 | .at_ s=>Sw v s
 | .sl bytes es=>(v= .slice none 0 0)\/ ∃ ad n c,v= .slice (some ad) n c/\n<=c/\c<=maxLen/\c*bytes<=reachBytes/\
   ∀ i,i<n-> ∃ cs:List Value,eu Sw cs es/\(0<es.length->ad.block<W.heap.size)/\ ∀ j u,cs[j]? =some u->W.cell? (ad.add (i*es.length+j))=some u
section
variable {H:Type} {enc:TypeId×Value->H} {P:Program} {w:World}
theorem zL {R:Value->Sh->Prop} {cs:List Value}: ∀ (fs:List Field) (ls:List (List Sh)) (o:Nat),nK P fs ls o=true->
  (∀ (i:Nat) (f:Field) (l:List Sh),fs[i]? =some f->ls[i]? =some l->eu R ((cs.drop f.offset).take (P.cellsOf f.type)) l)->
  eu R ((cs.drop o).take ls.flatten.length) ls.flatten
 | [],[],o,_,_=>by simp [eu]
 | f::fs,l::ls,o,h,hp=>by
  simp only [nK,Bool.and_eq_true,beq_iff_eq] at h;obtain ⟨⟨h1,h2⟩,h3⟩:=h;have h0:=hp 0 f l rfl rfl;have hr:=zL fs ls (o+l.length) h3 (λi f' l' hf hl=>hp (i+1) f' l' (by simpa using hf) (by simpa using hl));rw [h1,h2] at h0;have e:(cs.drop o).take (l++ls.flatten).length=(cs.drop o).take l.length++(cs.drop (o+l.length)).take ls.flatten.length:=by
   rw [List.length_append,List.take_add,List.drop_drop]
  simp only [List.flatten_cons];rw [e];exact eu.app h0 hr
 | [],_::_,_,h,_=>by simp [nK] at h
 | _::_,[],_,h,_=>by simp [nK] at h
theorem Dq {R:Value->Sh->Prop} {cs:List Value} {l:List Sh}: ∀ (m o:Nat),(∀ i,i<m->eu R ((cs.drop (o+i*l.length)).take l.length) l)->
  eu R ((cs.drop o).take (m*l.length)) (List.replicate m l).flatten
 | 0,o,_=>by simp [eu]
 | m+1,o,h=>by
  have h0:=h 0 (by omega);have hr:=Dq m (o+l.length) (λi hi=>by have:=h (i+1) (by omega);rw [show o+(i+1)*l.length=o+l.length+i*l.length from by rw [Nat.succ_mul];omega] at this;exact this);have e:(cs.drop o).take ((m+1)*l.length)=(cs.drop o).take l.length++(cs.drop (o+l.length)).take (m*l.length):=by
   rw [Nat.succ_mul,Nat.add_comm,List.take_add,List.drop_drop]
  rw [List.replicate_succ,List.flatten_cons,e];simp only [Nat.zero_mul,Nat.add_zero] at h0;exact eu.app h0 hr
theorem zH {e:TypeId}: ∀ {ds:List (DataW H)} {d:DataW H},d∈ds-> ∀ n∈d.weights P e,n∈DataW.weightsAll P e ds
 | d0::ds,d,hd,n,hn=>by
  simp only [DataW.weightsAll,List.mem_append]
  rcases List.mem_cons.1 hd with rfl | hd
  ·exact .inl hn
  exact .inr (zH hd n hn)
 | [],_,hd,_,_=>by simp at hd
theorem I5: ∀ {cs:List Value} {l:List Sh} {es:List Sh0},l.mapM Sh.plain=some es->eu (Fits w) cs l->eu Sw cs es
 | cs,[],es,h,h2=>by simp at h;subst h;rw [eu.vS h2];trivial
 | cs,s::l,es,h,h2=>by
  obtain ⟨a,l1,rfl,ha,h3⟩:=eu.xP h2;rw [List.mapM_cons] at h
  cases s with
  | sl b e=>simp [Sh.plain] at h
  | at_ s=>
   cases hl:l.mapM Sh.plain with
   | none=>simp [Sh.plain,hl] at h
   | some es'=>
    simp [Sh.plain,hl] at h;subst h;exact ⟨ha,I5 hl h3⟩
theorem Nl: ∀ (n fuel:Nat) (t:TypeId) (cs:List Value) (x:DataW H×List MemPlace) (l:List Sh),
  DataW.trod enc P w 0 (λ_=>true) true fuel t cs=some x->flat P n t=some l->(∀ b∈x.1.weights P t,b<=reachBytes)->(∀ p∈x.2,p.block<w.heap.size)->eu (Fits w) cs l:=by
 intro n
 induction n with
 | zero=>intro fuel t cs x l _ h;simp [flat] at h
 | succ n ih=>
  intro fuel t cs x l ht hf hz hb;unfold flat at hf
  split at hf
  ·rename_i k hu
   obtain ⟨m,rfl,rfl,hw⟩:=DataW.trod_int hu ht;simp at hf;subst hf;exact ⟨⟨m,rfl,hw⟩,trivial⟩
  ·rename_i hu
   obtain ⟨b,rfl,rfl⟩:=DataW.trod_bool hu ht;simp at hf;subst hf;exact ⟨⟨b,rfl⟩,trivial⟩
  ·rename_i hu
   obtain ⟨s,rfl,rfl,hs⟩:=DataW.trod_string hu ht;simp at hf;subst hf;exact ⟨⟨s,rfl,hs⟩,trivial⟩
  ·rename_i e hu
   simp only [Option.bind_eq_some_iff] at hf;obtain ⟨le,hle,es,hes,hif⟩:=hf
   split at hif
   ·rename_i hce
    simp only [beq_iff_eq] at hce;simp at hif;subst hif
    rcases DataW.trod_slice hu ht with ⟨rfl,_⟩ | ⟨a,len,cap,elems,rest,m,_,rfl,rfl,_,hl,hm,hlen,hel,hsp,_⟩
    ·simp [Fits,eu]
    have hrest:=(hsp rfl).1;refine ⟨.inr ⟨a,len,cap,rfl,hl,hm,?_,λi hi=>?_⟩,trivial⟩
    ·refine hz _ ?_;simp only [DataW.weights,hu];refine List.mem_cons.2 (.inl ?_);simp only [List.length_map,hlen,hrest]
     congr 1
     omega
    have hi1:=hel i hi;have hi2:elems[i]? =some (elems[i]'(by omega)):=List.getElem?_eq_getElem (by omega);rw [hi2,Option.bind_eq_some_iff] at hi1;obtain ⟨ds,hds,htr⟩:=hi1;obtain ⟨_,hdl,hdc⟩:=World.cells?_some hds;have hmem:elems[i]'(by omega)∈elems:=List.getElem_mem _;have hA:=ih _ _ _ _ _ htr hle (λb hb'=>hz b (by
     simp only [DataW.weights,hu];exact List.mem_cons.2 (.inr (List.mem_append.2 (.inl (zH (List.mem_map.2 ⟨_,hmem,rfl⟩) b hb'))))))
     (λp hp=>hb p (by
      simp only [List.mem_append];exact .inr (List.mem_flatMap.2 ⟨_,List.mem_append.2 (.inl hmem),hp⟩)))
    refine ⟨ds,I5 hes hA,λh0=>?_,λj u hj=>?_⟩
    ·refine hb (.cell a.block (a.off+0)) (List.mem_append.2 (.inl ?_));unfold MemPlace.row;refine List.mem_map.2 ⟨0,?_,rfl⟩;rw [List.mem_range,hce];exact Nat.mul_pos (by omega) h0
    have hj':j<P.cellsOf e:=by
     have:=(List.getElem?_eq_some_iff.1 hj).1;omega
    have h1:=hdc j hj';rw [hj] at h1;have e1:(a.add (i*P.cellsOf e)).add j=a.add (i*es.length+j):=by
     rw [hce];unfold Addr.add;by_cases hi:i*es.length=0<;>by_cases hj:j=0<;>simp [hi,hj,Nat.add_assoc]
    rw [e1] at h1;exact h1
   simp at hif
  ·rename_i fs hu
   simp only [Option.bind_eq_some_iff] at hf;obtain ⟨ls,hls,hif⟩:=hf
   split at hif
   ·rename_i hok
    simp only [Bool.and_eq_true,beq_iff_eq] at hok;simp at hif;subst hif;obtain ⟨xs,m,_,rfl,hcl,hxl,hg⟩:=DataW.trod_struct hu ht;have h:=zL (R:=Fits w) (cs:=cs) (P:=P) fs.toList ls 0 hok.1 (λi f l' hfi hli=>by
     have ajk:fs[i]? =some f:=by simpa using hfi
     have h1:=hg i f ajk;have hil:i<fs.size:=(Array.getElem?_eq_some_iff.1 ajk).1;have h2:xs[i]? =some (xs[i]'(by omega)):=List.getElem?_eq_getElem (by omega);rw [h2] at h1;have h3:=mapM_some_get hls i f hfi;rw [hli] at h3;have hmem:xs[i]'(by omega)∈xs:=List.getElem_mem _;refine ih _ _ _ _ _ h1 h3 (λb hb'=>hz b ?_) (λp hp=>hb p (List.mem_flatMap.2 ⟨_,hmem,hp⟩));simp only [DataW.weights,hu];exact DataW.weights_mem_each (j:=i) (t:=f.type) (d:=(xs[i]'(by omega)).1) (by simp [ajk]) (by simp [h2]) b hb')
    rw [List.drop_zero,<-hok.2,<-hcl,List.take_length] at h;exact h
   simp at hif
  ·rename_i m e hu
   simp only [Option.bind_eq_some_iff] at hf;obtain ⟨le,hle,hif⟩:=hf
   split at hif
   ·rename_i hok
    simp only [Bool.and_eq_true,beq_iff_eq] at hok;simp at hif;subst hif;obtain ⟨xs,k,_,rfl,hcl,hxl,hg⟩:=DataW.trod_array hu ht;have h:=Dq (R:=Fits w) (cs:=cs) (l:=le) m 0 (λi hi=>by
     have h1:=hg i hi;have h2:xs[i]? =some (xs[i]'(by omega)):=List.getElem?_eq_getElem (by omega);rw [h2] at h1;have hmem:xs[i]'(by omega)∈xs:=List.getElem_mem _;have h4:=ih _ _ _ _ _ h1 hle (λb hb'=>hz b (by
      simp only [DataW.weights,hu];exact zH (List.mem_map.2 ⟨_,hmem,rfl⟩) b hb')) (λp hp=>hb p (List.mem_flatMap.2 ⟨_,hmem,hp⟩))
     rw [hok.1] at h4;rw [Nat.zero_add];exact h4)
    rw [List.drop_zero,<-hok.2,<-hcl,List.take_length] at h;exact h
   simp at hif
  simp at hf
end
def Sy (P:Program) (W:World) (v:Value) (t:TypeId):Prop:=
 (∃ base,Value.okWide P W .any base t v)/\ ∃ l,flat P 30 t=some l/\eu (Fits W) v.cells.toList l
section
variable {H:Type} {enc:TypeId×Value->H} {P:Program}
theorem VE {W:World} {base:Nat}: ∀ {ts:List TypeId} {vs:List Value} {ds:List (DataW H)} {ps:List MemPlace},DataW.TrodAll enc P W 0 (λ_=>true) true ts vs ds ps->
  (∀ (j:Nat) t v,ts[j]? =some t->vs[j]? =some v->Value.okWide P W .any base t v)->(∀ t∈ts,(flat P 30 t).isSome=true)->
  (∀ b∈DataW.weightsEach P ts ds,b<=reachBytes)->(∀ p∈ps,p.block<W.heap.size)->eu (Sy P W) vs ts
 | [],vs,ds,ps,h,_,_,_,_=>by obtain ⟨rfl,_⟩:=trodAll_nil h;trivial
 | t::ts,vs,ds,ps,h,hv,hf,hz,hb=>by
  obtain ⟨v,vs',d,ds',p,q,rfl,rfl,rfl,h0,hr⟩:=trodAll_cons h;refine ⟨⟨⟨base,hv 0 t v rfl rfl⟩,?_⟩,VE hr (λj t' v' h1 h2=>hv (j+1) t' v' (by simpa using h1) (by simpa using h2)) (λt' h'=>hf t' (List.mem_cons_of_mem _ h'))
   (λb h'=>hz b (by simp only [DataW.weightsEach,List.mem_append];exact .inr h')) (λx hx=>hb x (List.mem_append.2 (.inr hx)))⟩
  have hs:=hf t (List.mem_cons_self ..);obtain ⟨l,hl⟩:=Option.isSome_iff_exists.1 hs;obtain ⟨fuel,ht⟩:=h0;exact ⟨l,hl,Nl 30 fuel t _ _ l ht hl (λb h'=>hz b (by simp only [DataW.weightsEach,List.mem_append];exact .inl h')) (λx hx=>hb x (List.mem_append.2 (.inl hx)))⟩
theorem Bo (hl:laidOutB P=true) {W W':World} (hb:Below W.heap.size W W'): ∀ {ts:List TypeId} {vs:List Value} {ds:List (DataW H)} {ps:List MemPlace},
  DataW.TrodAll enc P W 0 (λ_=>true) true ts vs ds ps->(∀ t∈ts,P.readableRec t=true/\t<P.types.size)->(∀ p∈ps,p.block<W.heap.size)->
  DataW.TrodAll enc P W' 0 (λb=>decide (b<W.heap.size)) true ts vs ds ps
 | [],vs,ds,ps,h,_,_=>by
  obtain ⟨rfl,rfl,rfl⟩:=trodAll_nil h;exact trodAll_mk0
 | t::ts,vs,ds,ps,h,hr,hlt=>by
  obtain ⟨v,vs',d,ds',p,q,rfl,rfl,rfl,h0,h1⟩:=trodAll_cons h;have hrt:=hr t (List.mem_cons_self ..);exact ⟨p,q,Below.trod hl hrt.1 hrt.2 h0 hb (λx hx=>hlt x (List.mem_append.2 (.inl hx))),
   Bo hl hb h1 (λt' h'=>hr t' (List.mem_cons_of_mem _ h')) (λx hx=>hlt x (List.mem_append.2 (.inr hx))),rfl⟩
def VF (P:Program) (ts:List TypeId):Bool:=laidOutB P&&ts.all λt=>(flat P 30 t).isSome&&P.readableRec t&&decide (t<P.types.size)
end
def Rd (w:World) (B size:Nat) (A:Option Addr) (n:Nat) (xs:List Value):Prop:=
 xs.length=n*size/\(0<n-> ∃ b off,A=some ⟨b,off,none⟩/\b<B/\ ∀ j u,xs[j]? =some u->w.cell? ⟨b,off+j,none⟩=some u)
section
variable {w w':World} {B B' size n:Nat} {A:Option Addr} {xs:List Value}
theorem Rd.none_:Rd w B size A 0 []:=⟨by simp,λh=>absurd h (by omega)⟩
theorem Rd.keep (h:Rd w B size A n xs) (hk: ∀ p:Addr,p.block<B->w'.cell? p=w.cell? p):Rd w' B size A n xs:=
 ⟨h.1,λhn=>by
  obtain ⟨b,off,e,hb,hc⟩:=h.2 hn;exact ⟨b,off,e,hb,λj u hu=>(hk _ hb).trans (hc j u hu)⟩⟩
theorem Rd.more (h:Rd w B size A n xs) (hB:B<=B'):Rd w B' size A n xs:=
 ⟨h.1,λhn=>by
  obtain ⟨b,off,e,hb,hc⟩:=h.2 hn;exact ⟨b,off,e,by omega,hc⟩⟩
theorem Rd.below {C:Nat} (h:Rd w B size A n xs) (hb:Below C w w') (hC:B<=C):Rd w' B size A n xs:=h.keep λ_ hp=>hb.cell (by omega)
theorem Rd.on (h:Rd w w.heap.size size A n xs) (hb:Below w.heap.size w w'):Rd w' w'.heap.size size A n xs:=(h.below hb (Nat.le_refl _)).more hb.size
theorem Rd.drewN (h:Rd w B size A n xs) (k:Nat):Rd (w.drewN k) B size A n xs:=h
theorem Rd.alloc (h:Rd w B size A n xs) (hB:B<=w.heap.size) (o:Obj):Rd (w.alloc o) B size A n xs:=h.keep λp hp=>World.cell?_alloc_lt w o p (by omega)
theorem Rd.setCell (h:Rd w B size A n xs) {p:Addr} (hB:B<=p.block) (u:Value):Rd (w.setCell p u) B size A n xs:=
 h.keep λq hq=>World.cell?_setCell_other w p q u (λe=>by subst e;omega)
theorem Rd.grown (h:Rd w B size A n xs) {row:Option Nat} (hg:w.grownBy w' row) (hB:B<=w.heap.size) (hr: ∀ g,row=some g->B<=g):Rd w' B size A n xs:=
 h.keep λp hp=>World.cell?_of_block (hg.block p.block (by omega) (λe=>by have:=hr _ e.symm;omega))
theorem Rd.rO {base:Nat} {e:TypeId} {c:Nat} (h:w.ownsRow base e size (.slice A n c) n xs):Rd w w.heap.size size A n xs:=by
 obtain ⟨h1,h2⟩:=h;refine ⟨h1,λhn=>?_⟩
 rcases h2 with ⟨_,h0⟩ | ⟨g,cap,cur,hv,_,hh,hnc,_,hsz,htk⟩
 ·omega
 have hA:A=some ⟨g,0,none⟩:=by injection hv
 subst hA;have hg:g<w.heap.size:=by
  rcases Nat.lt_or_ge g w.heap.size with h | h
  ·exact h
  rw [Array.getElem?_eq_none h] at hh;cases hh
 refine ⟨g,0,rfl,hg,λj u hu=>?_⟩;rw [Nat.zero_add,cell_of_row w g j _ e (0,0) hh];have hj:j<xs.length:=(List.getElem?_eq_some_iff.1 hu).1;rw [<-htk] at hu;rw [List.getElem?_take_of_lt (by omega)] at hu;simpa using hu
theorem Rd.I6 {base:Nat} {e:TypeId} {c:Nat} (h:w.ownsRow base e size (.slice A n c) n xs):Rd w w.heap.size size A n xs:=Rd.rO h
theorem Rd.ad5 (w:World) (t:TypeId) (xs:List Value) (n size:Nat) (h:xs.length=n*size):Rd (w.alloc (.cells xs.toArray t)) (w.heap.size+1) size (some ⟨w.heap.size,0,none⟩) n xs:=by
 refine ⟨h,λ_=>⟨_,0,rfl,by omega,λj u hu=>?_⟩⟩;rw [World.cell?_alloc_mark];simpa using hu
theorem Rd.at_ {k:Nat} (h:Rd w B 1 A n xs) (hk:k<n): ∃ b off u,A=some ⟨b,off,none⟩/\b<B/\xs[k]? =some u/\w.cell? ⟨b,off+k,none⟩=some u:=by
 obtain ⟨b,off,e,hb,hc⟩:=h.2 (by omega);have hl:k<xs.length:=by have:=h.1;omega
 exact ⟨b,off,xs[k],e,hb,List.getElem?_eq_getElem hl,hc k _ (List.getElem?_eq_getElem hl)⟩
theorem Rd.cut (h:Rd w B size A n xs) {k cap:Nat} (hk:k<=n) (hc:n<=cap):
  Rd w B size (if cap=k then A else A.map (·.add (k*size))) (n-k) (xs.drop (k*size)):=by
 refine ⟨by rw [List.length_drop,h.1,Nat.sub_mul],λhn=>?_⟩;obtain ⟨b,off,rfl,hb,hcell⟩:=h.2 (by omega);rw [if_neg (by omega)];refine ⟨b,off+k*size,?_,hb,λj u hu=>?_⟩
 ·simp only [Option.map_some,Option.some.injEq];unfold Addr.add
  split
  ·simp
  rfl
 rw [Nat.add_assoc];exact hcell _ u (by rw [<-hu,List.getElem?_drop])
end
theorem AY {W w1:World} (hb:Below W.heap.size W w1):(∀ b o,b<W.heap.size->w1.cell? ⟨b,o,none⟩=W.cell? ⟨b,o,none⟩)/\(∀ b o,b<W.heap.size->w1.frozen? ⟨b,o,none⟩=W.frozen? ⟨b,o,none⟩):=
 ⟨λb o h=>hb.cell (p:=⟨b,o,none⟩) h,λb o h=>hb.frozen (p:=⟨b,o,none⟩) h⟩
theorem afv {k:IntKind} {a b:Int} {x:Value} (h:a=b):Ending.returned (.tuple #[.int k a,x])= .returned (.tuple #[.int k b,x]):=by rw [h]
theorem gP {k:IntKind} {a b:Int} (h:a=b):Ending.returned (.int k a)= .returned (.int k b):=by rw [h]
def byteCells (l:List UInt8):List Value:=l.map λb=> .int .u8 b.toNat
theorem byteCells_length (l:List UInt8):(byteCells l).length=l.length:=by simp [byteCells]
theorem byteCells_append (l k:List UInt8):byteCells (l++k)=byteCells l++byteCells k:=by simp [byteCells]
theorem Rd.mP {w:World} {B n:Nat} {A:Option Addr} {l:List UInt8} (h:Rd w B 1 A n (byteCells l)):l.length=n:=by
 have:=h.1;rw [byteCells_length] at this;omega
structure fK (w:World) (b:Nat) (row:Array Value) (t:TypeId):Prop where
 blk:w.heap[b]? =some (.cells row t (0,0))
theorem He {B:Nat} {a w:World} (h:Below B a w) (q:Nat):Below B a (w.drewN q):=h.trans ⟨rfl,rfl,rfl,Nat.le_refl _,λ_ _=>rfl⟩
section
variable {w w' W:World} {b:Nat} {row:Array Value} {t:TypeId}
theorem fK.lt (h:fK w b row t):b<w.heap.size:=by
 rcases Nat.lt_or_ge b w.heap.size with h1 | h1
 ·exact h1
 have:=h.blk;rw [Array.getElem?_eq_none h1] at this
 cases this
theorem fK.new (w:World) (row:Array Value) (t:TypeId):fK (w.alloc (.cells row t)) w.heap.size row t:=by
 refine ⟨?_⟩
 show (w.heap.push _)[_]? =_
 rw [Array.getElem?_push,if_pos rfl]
theorem fK.new1 (w:World) (o1:Obj) (row:Array Value) (t:TypeId):fK ((w.alloc o1).alloc (.cells row t)) (w.heap.size+1) row t:=by
 have:=fK.new (w.alloc o1) row t;simpa using this
theorem fK.new2 (w:World) (o1 o2:Obj) (row:Array Value) (t:TypeId):fK (((w.alloc o1).alloc o2).alloc (.cells row t)) (w.heap.size+1+1) row t:=by
 have:=fK.new ((w.alloc o1).alloc o2) row t;simpa using this
theorem fK.alloc (h:fK w b row t) (o:Obj):fK (w.alloc o) b row t:=⟨by rw [Below.heap_alloc _ _ _ h.lt];exact h.blk⟩
theorem fK.drewN (h:fK w b row t) (q:Nat):fK (w.drewN q) b row t:=⟨h.blk⟩
theorem fK.drew (h:fK w b row t):fK w.drew b row t:=⟨h.blk⟩
theorem fK.below {B:Nat} (h:fK w b row t) (hb:Below B w w') (hB:b<B):fK w' b row t:=⟨(hb.block b hB).trans h.blk⟩
theorem fK.on (h:fK w b row t) (hb:Below w.heap.size w w'):fK w' b row t:=h.below hb h.lt
theorem fK.grown (h:fK w b row t) {r:Option Nat} (hg:w.grownBy w' r) (hr:r≠some b):fK w' b row t:=⟨(hg.block b h.lt (λe=>hr e.symm)).trans h.blk⟩
theorem fK.other (h:fK w b row t) (p:Addr) (hp:b≠p.block) (u:Value):fK (w.setCell p u) b row t:=⟨by rw [Below.heap_setCell _ _ _ _ hp];exact h.blk⟩
theorem fK.uM (h:fK w b row t) (k:Nat) (u:Value):fK (w.setCell ⟨b,k,none⟩ u) b (row.setIfInBounds k u) t:=by
 refine ⟨?_⟩;have hr:=h.blk;simp only [World.setCell,Array.getElem?_modify,hr];simp
theorem fK.cell (h:fK w b row t) {k:Nat} {u:Value} (hk:row[k]? =some u):w.cell? ⟨b,k,none⟩=some u:=by
 rw [cell_of_row w b k _ _ (0,0) h.blk];exact hk
theorem fK.free (h:fK w b row t) (j:Nat):w.frozen? ⟨b,j,none⟩=false:=by
 have:=h.blk;simp [World.frozen?,this]
theorem fK.cast {row':Array Value} (h:fK w b row t) (e:row=row'):fK w b row' t:=e▸h
theorem fK.at_ {b':Nat} (h:fK w b row t) (e:b=b'):fK w b' row t:=e▸h
end
section
variable {w:World} {b:Nat} {t:TypeId} {a0 a1 a2 a3 a4 a5 a6 a7 a8 a9 a10 a11 a12 a13 a14 a15:Value}
theorem fK.uj (h:fK w b #[a0,a1] t):w.cell? ⟨b,0,none⟩=some a0/\w.cell? ⟨b,1,none⟩=some a1/\ ∀ j,w.frozen? ⟨b,j,none⟩=false:=⟨h.cell rfl,h.cell rfl,h.free⟩
theorem fK.Ar (h:fK w b #[a0,a1,a2,a3,a4,a5,a6,a7] t):w.cell? ⟨b,0,none⟩=some a0/\w.cell? ⟨b,1,none⟩=some a1/\w.cell? ⟨b,2,none⟩=some a2/\w.cell? ⟨b,3,none⟩=some a3/\w.cell? ⟨b,4,none⟩=some a4/\w.cell? ⟨b,5,none⟩=some a5/\w.cell? ⟨b,6,none⟩=some a6/\w.cell? ⟨b,7,none⟩=some a7/\ ∀ j,w.frozen? ⟨b,j,none⟩=false:=⟨h.cell rfl,h.cell rfl,h.cell rfl,h.cell rfl,h.cell rfl,h.cell rfl,h.cell rfl,h.cell rfl,h.free⟩
theorem fK.qD (h:fK w b #[a0,a1,a2,a3,a4,a5,a6,a7,a8] t):w.cell? ⟨b,0,none⟩=some a0/\w.cell? ⟨b,1,none⟩=some a1/\w.cell? ⟨b,2,none⟩=some a2/\w.cell? ⟨b,3,none⟩=some a3/\w.cell? ⟨b,4,none⟩=some a4/\w.cell? ⟨b,5,none⟩=some a5/\w.cell? ⟨b,6,none⟩=some a6/\w.cell? ⟨b,7,none⟩=some a7/\w.cell? ⟨b,8,none⟩=some a8/\ ∀ j,w.frozen? ⟨b,j,none⟩=false:=⟨h.cell rfl,h.cell rfl,h.cell rfl,h.cell rfl,h.cell rfl,h.cell rfl,h.cell rfl,h.cell rfl,h.cell rfl,h.free⟩
theorem fK.kg (h:fK w b #[a0,a1,a2,a3,a4,a5,a6,a7,a8,a9] t):w.cell? ⟨b,0,none⟩=some a0/\w.cell? ⟨b,1,none⟩=some a1/\w.cell? ⟨b,2,none⟩=some a2/\w.cell? ⟨b,3,none⟩=some a3/\w.cell? ⟨b,4,none⟩=some a4/\w.cell? ⟨b,5,none⟩=some a5/\w.cell? ⟨b,6,none⟩=some a6/\w.cell? ⟨b,7,none⟩=some a7/\w.cell? ⟨b,8,none⟩=some a8/\w.cell? ⟨b,9,none⟩=some a9/\ ∀ j,w.frozen? ⟨b,j,none⟩=false:=⟨h.cell rfl,h.cell rfl,h.cell rfl,h.cell rfl,h.cell rfl,h.cell rfl,h.cell rfl,h.cell rfl,h.cell rfl,h.cell rfl,h.free⟩
end
end
section
abbrev iV (x:Int):Value:= .int .i64 x
abbrev pV (b o:Nat):Value:= .pointer (some ⟨b,o,none⟩)
abbrev aD (b o:Nat):Option Addr:=some ⟨b,o,none⟩
noncomputable abbrev tP:Program:=Tryz.prog
end
section
open Go.RowKit
def jU (n lo hi:Int):Bool:=decide (lo<=n)&&decide (n<=hi)
theorem CB {n lo hi:Int}:jU n lo hi=true↔lo<=n/\n<=hi:=by simp [jU]
theorem Xg {n lo hi:Int}:jU n lo hi=false↔n<lo\/hi<n:=by
 rw [<-Bool.not_eq_true,CB];omega
def yg (n:Int):List UInt8:=[UInt8.ofNat (n / 16777216).toNat,UInt8.ofNat (n / 65536 % 256).toNat,UInt8.ofNat (n / 256 % 256).toNat,UInt8.ofNat (n % 256).toNat]
theorem Xh {n:Int} (h0:0<=n) (h1:n<=2147483647):
  byteCells (yg n)=[.int .u8 (n / 16777216),.int .u8 (n / 65536 % 256),.int .u8 (n / 256 % 256),.int .u8 (n % 256)]:=by
 have key: ∀ m:Int,0<=m->m<=255->((UInt8.ofNat m.toNat).toNat:Int)=m:=by
  intro m a b;simp;omega
 simp only [byteCells,yg,List.map_cons,List.map_nil];rw [key _ (by omega) (by omega),key _ (by omega) (by omega),key _ (by omega) (by omega),key _ (by omega) (by omega)]
def p8 (n:Int):List UInt8×Int:=if 0<=n/\n<=2147483647 then (yg n,0) else ([],2)
def mQ (w:World) (r:List UInt8×Int) (e:Ending) (w':World):Prop:=
 ∃ A c,e= .returned (.tuple #[.slice A r.1.length c,.int .i64 r.2])/\Below w.heap.size w w'/\Rd w' w'.heap.size 1 A r.1.length (byteCells r.1)
theorem mQ.none_ (w:World) (k:Int):mQ w ([],k) (.returned (.tuple #[.slice none 0 0,.int .i64 k])) w:=
 ⟨none,0,rfl,Below.refl _ _,Rd.none_⟩
theorem mQ.four (w:World) (n:Int) (h0:0<=n) (h1:n<=2147483647) (t:TypeId):
  mQ w (yg n,0) (.returned (.tuple #[.slice (some ⟨w.heap.size,0,none⟩) 4 4,.int .i64 0])) (w.alloc (.cells #[.int .u8 (n / 16777216),.int .u8 (n / 65536 % 256),.int .u8 (n / 256 % 256),.int .u8 (n % 256)] t)):=by
 refine ⟨_,4,rfl,by go_grown,?_⟩;have:=Rd.ad5 w t (byteCells (yg n)) 4 1 (by simp [byteCells,yg]);rw [Xh h0 h1] at this⊢;have e4:(yg n).length=4:=rfl;simpa [e4] using this
theorem Nn (n:Int) (w:World):Calls Tryz.prog 157 #[.int .i64 n] w (mQ w (p8 n)):=by
 by_cases h:0<=n/\n<=2147483647
 ·have hm:p8 n=(yg n,0):=if_pos h;rw [hm];clear hm;obtain ⟨h0,h1⟩:=h
  go_enter Tryz.func157,Tryz.ntmps157
  go_wp2
  go_ret2
  exact mQ.four w n h0 h1 _
 have hm:p8 n=([],2):=if_neg h;rw [hm];clear hm;by_cases h0:n<0
 ·clear h
  go_enter Tryz.func157,Tryz.ntmps157
  go_wp2
  go_ret2
  exact mQ.none_ w 2
 have h1:2147483647<n:=by omega
 clear h
 go_enter Tryz.func157,Tryz.ntmps157
 go_wp2
 go_ret2
 exact mQ.none_ w 2
end
end Go.Proofs.YtnhimdkpkmbhlaaGreatDoor
