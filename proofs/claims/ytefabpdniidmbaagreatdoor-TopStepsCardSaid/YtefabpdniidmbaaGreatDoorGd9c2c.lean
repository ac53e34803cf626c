import Derived.Test.YtefabpdniidmbaaGreatDoorRows
import Derived.WalkKit
import Derived.ProofKit
import Derived.OpenShut
import Derived.SizedLaws
import Derived.WalkSpells
import Derived.WalkLawsBesides
import Derived.Handy
import Derived.Deep.QuietTactic
import Derived.BigQuiet
import Derived.Lib.Hide
import Derived.Maps.AppendAt
import Derived.Deep.AppendLies
import Derived.RegionTactic
import Derived.OwnWalk
import Derived.Laws.Tables
import Derived.Deep.MidRow
import Derived.StillTailTactics
import Derived.OrdersHeld
import Derived.Deep.RegionHeld3
import Derived.Laws.IdiomCopy
import Derived.ChangeKeysEq
import Derived.Test.YtefabpdniidmbaaGreatDoorG88a2e
set_option linter.all false
set_option maxRecDepth 100000
set_option maxHeartbeats 8000000
namespace Go.Proofs.YtefabpdniidmbaaGreatDoor
open List Nat Go.Proofs.Tryz ChangeShapes WideShapes RowKit
section
open ChangeAt
def dZ{α β:Type}(R:α->β->Prop):List α->List β->Prop
 |[],[]=>True
 |a::l1,b::l2=>R a b/\dZ R l1 l2
 |_,_=>False
def dZ.xA{α β:Type}{R:α->β->Prop}{l:List α}{b:β}{J:List β}(h:dZ R l (b::J)):∃a I,l=a::I/\R a b/\dZ R I J:=by
 cases l with
 |nil=>exact absurd h id
 |cons a I=>exact⟨a,I,E,h.1,h.2⟩
def dZ.xO{α β:Type}{R:α->β->Prop}{l:List α}(h:dZ R l []):l=[]:=by
 cases l with
 |nil=>rfl
 |cons a I=>exact absurd h id
def dZ.len{α β:Type}{R:α->β->Prop}:∀ {l:List α} {k:List β},dZ R l k->l.length=k.length
 |[],[],_=>rfl
 |_::_,_::_,h=>by simp[dZ.len h.2]
 |[],_::_,h=>absurd h id
 |_::_,[],h=>absurd h id
def dZ.app{α β:Type}{R:α->β->Prop}:∀ {l l':List α} {k J:List β},dZ R l k->dZ R l' J->dZ R (l++l') (k++J)
 |[],_,[],_,_,I=>I
 |_::_,_,_::_,_,h,I=>⟨h.1,dZ.app h.2 I⟩
 |[],_,_::_,_,h,_=>absurd h id
 |_::_,_,[],_,h,_=>absurd h id
inductive Sh0 where
 |int (k:IntKind)
 |bool
 |str
inductive Sh where
 |at_ (s:Sh0)
 |sl (bytes:Nat) (es:List Sh0)
def Sh.plain:Sh->Option Sh0
 | .at_ s=>some s
 | .sl _ _=>none
def oM(P:Program):List Field->List (List Sh)->Nat->Bool
 |[],[],_=>true
 |f::fs,l::ls,o=>f.offset==o&&P.cellsOf f.type==l.length&&oM P fs ls (o+l.length)
 |_,_,_=>false
def flat(P:Program):Nat->TypeId->Option (List Sh)
 | 0,_=>none
 |n+1,t=>
  match P.underlying t with
  |some (.int k)=>some [.at_ (.int k)]
  |some .bool=>some [.at_ .bool]
  |some .string=>some [.at_ .str]
  |some (.slice e)=>(flat P n e).bind λl=>(l.mapM Sh.plain).bind λes=>if P.cellsOf e==es.length then some [.sl (P.bytesOf e) es]else none
  |some (.struct fs)=>(fs.toList.mapM λf=>flat P n f.type).bind λls=>if oM P fs.toList ls 0&&P.cellsOf t==ls.flatten.length then some ls.flatten else none
  |some (.array m e)=>(flat P n e).bind λl=>if P.cellsOf e==l.length&&P.cellsOf t==m*l.length then some (replicate m l).flatten else none
  |_=>none
def WT(v:Value):Sh0->Prop
 | .int k=> ∃n,v=.int k n/\(Lit.int k n).wf=true
 | .bool=> ∃b,v=.bool b
 | .str=> ∃s:ByteArray,v=.string s/\s.size<=maxLen
def Fits(W:World)(v:Value):Sh->Prop
 | .at_ s=>WT v s
 | .sl bytes es=>(v=.slice none 0 0)\/ ∃ad n c,v=.slice (some ad) n c/\n<=c/\c<=maxLen/\c*bytes<=reachBytes/\
   ∀i,i<n-> ∃cs:List Value,dZ WT cs es/\(0<es.length->ad.block<W.heap.size)/\ ∀j u,cs[j]? =some u->W.cell? (ad.add (i*es.length+j))=some u
section
variable {H:Type}{enc:TypeId×Value->H}{P:Program}{w:World}
def BO{R:Value->Sh->Prop}{cs:List Value}:∀(fs:List Field) (ls:List (List Sh)) (o:Nat),oM P fs ls o=true->
  (∀(i:Nat) (f:Field) (l:List Sh),fs[i]? =some f->ls[i]? =some l->dZ R ((cs.drop f.offset).take (P.cellsOf f.type)) l)->
  dZ R ((cs.drop o).take ls.flatten.length) ls.flatten
 |[],[],o,_,_=>by simp[dZ]
 |f::fs,l::ls,o,h,I=>by
  simp only[oM,Bool.and_eq_true,beq_iff_eq]at h;obtain⟨⟨h1,M⟩,O⟩:=h;have J:=I 0 f l E E;have Z:=BO fs ls (o+l.length) O (λi f' l' hf hl=>I (i+1) f' l' (by simpa using hf) (by simpa using hl));rw[h1,M]at J;have e:(cs.drop o).take (l++ls.flatten).length=(cs.drop o).take l.length++(cs.drop (o+l.length)).take ls.flatten.length:=by
   rw[length_append,take_add,drop_drop]
  simp only[flatten_cons];rw[e];exact dZ.app J Z
 |[],_::_,_,h,_=>by simp[oM]at h
 |_::_,[],_,h,_=>by simp[oM]at h
def Fw{R:Value->Sh->Prop}{cs:List Value}{l:List Sh}:∀(m o:Nat),(∀i,i<m->dZ R ((cs.drop (o+i*l.length)).take l.length) l)->
  dZ R ((cs.drop o).take (m*l.length)) (replicate m l).flatten
 | 0,o,_=>by simp[dZ]
 |m+1,o,h=>by
  have I:=h 0 (by omega);have J:=Fw m (o+l.length) (λi hi=>by have:=h (i+1) (by omega);rw[show o+(i+1)*l.length=o+l.length+i*l.length from by rw[succ_mul];omega]at this;exact this);have e:(cs.drop o).take ((m+1)*l.length)=(cs.drop o).take l.length++(cs.drop (o+l.length)).take (m*l.length):=by
   rw[succ_mul,Nat.add_comm,take_add,drop_drop]
  rw[replicate_succ,flatten_cons,e];simp only[Nat.zero_mul,Nat.add_zero]at I;exact dZ.app I J
def BJ{e:TypeId}:∀ {ds:List (DataW H)} {d:DataW H},d∈ds-> ∀n∈d.weights P e,n∈DataW.weightsAll P e ds
 |d0::ds,d,h,n,hn=>by
  simp only[DataW.weightsAll,mem_append]
  rcases mem_cons.1 h with rfl|h
  ·exact .inl hn
  exact .inr (BJ h n hn)
 |[],_,h,_,_=>by simp at h
def KW:∀ {cs:List Value} {l:List Sh} {es:List Sh0},l.mapM Sh.plain=some es->dZ (Fits w) cs l->dZ WT cs es
 |cs,[],es,h,I=>by simp at h;subst h;rw[dZ.xO I];trivial
 |cs,s::l,es,h,I=>by
  obtain⟨a,l1,rfl,M,O⟩:=dZ.xA I;rw[mapM_cons]at h
  cases s with
  |sl b e=>simp[Sh.plain]at h
  |at_ s=>
   cases J:l.mapM Sh.plain with
   |none=>simp[Sh.plain,J]at h
   |some Z=>
    simp[Sh.plain,J]at h;subst h;exact⟨M,KW J O⟩
def adk:∀(n fuel:Nat) (t:TypeId) (cs:List Value) (x:DataW H×List MemPlace) (l:List Sh),
  DataW.trod enc P w 0 (λ_=>true) true fuel t cs=some x->flat P n t=some l->(∀b∈x.1.weights P t,b<=reachBytes)->(∀p∈x.2,p.block<w.heap.size)->dZ (Fits w) cs l:=by
 intro n
 induction n with
 |zero=>intro fuel t cs x l _ h;simp[flat]at h
 |succ n ih=>
  intro fuel t cs x l ht O hz hb;unfold flat at O
  split at O
  ·rename_i k Z
   obtain⟨m,rfl,rfl,hw⟩:=DataW.trod_int Z ht;simp at O;subst O;exact⟨⟨m,E,hw⟩,trivial⟩
  ·rename_i Z
   obtain⟨b,rfl,rfl⟩:=DataW.trod_bool Z ht;simp at O;subst O;exact⟨⟨b,E⟩,trivial⟩
  ·rename_i Z
   obtain⟨s,rfl,rfl,hs⟩:=DataW.trod_string Z ht;simp at O;subst O;exact⟨⟨s,E,hs⟩,trivial⟩
  ·rename_i e Z
   simp only[Option.bind_eq_some_iff]at O;obtain⟨le,hle,es,hes,I⟩:=O
   split at I
   ·rename_i hce
    simp only[beq_iff_eq]at hce;simp at I;subst I
    rcases DataW.trod_slice Z ht with⟨rfl,_⟩|⟨a,len,cap,M,rest,m,_,rfl,rfl,_,hl,hm,hlen,hel,hsp,_⟩
    ·simp[Fits,dZ]
    have hrest:=(hsp E).1;refine⟨.inr ⟨a,len,cap,E,hl,hm,?_,λi hi=>?_⟩,trivial⟩
    ·refine hz _ ?_;simp only[DataW.weights,Z];refine mem_cons.2 (.inl ?_);simp only[length_map,hlen,hrest]
     congr 1
     omega
    have hi1:=hel i hi;have hi2:M[i]? =some (M[i]'(by omega)):=getElem?_eq_getElem (by omega);rw[hi2,Option.bind_eq_some_iff]at hi1;obtain⟨ds,hds,htr⟩:=hi1;obtain⟨_,hdl,hdc⟩:=World.cells?_some hds;have J:M[i]'(by omega)∈M:=getElem_mem _;have hA:=ih _ _ _ _ _ htr hle (λb hb'=>hz b (by
     simp only[DataW.weights,Z];exact mem_cons.2 (.inr (mem_append.2 (.inl (BJ (mem_map.2 ⟨_,J,E⟩) b hb'))))))
     (λp hp=>hb p (by
      simp only[mem_append];exact .inr (mem_flatMap.2 ⟨_,mem_append.2 (.inl J),hp⟩)))
    refine⟨ds,KW hes hA,λh0=>?_,λj u hj=>?_⟩
    ·refine hb (.cell a.block (a.off+0)) (mem_append.2 (.inl ?_));unfold MemPlace.row;refine mem_map.2 ⟨0,?_,E⟩;rw[mem_range,hce];exact Nat.mul_pos (by omega) h0
    have hj':j<P.cellsOf e:=by
     have:=(List.getElem?_eq_some_iff.1 hj).1;omega
    have h1:=hdc j hj';rw[hj]at h1;have e1:(a.add (i*P.cellsOf e)).add j=a.add (i*es.length+j):=by
     rw[hce];unfold Addr.add;by_cases hi:i*es.length=0<;>by_cases hj:j=0<;>simp[hi,hj,Nat.add_assoc]
    rw[e1]at h1;exact h1
   simp at I
  ·rename_i fs Z
   simp only[Option.bind_eq_some_iff]at O;obtain⟨ls,hls,I⟩:=O
   split at I
   ·rename_i hok
    simp only[Bool.and_eq_true,beq_iff_eq]at hok;simp at I;subst I;obtain⟨xs,m,_,rfl,hcl,hxl,hg⟩:=DataW.trod_struct Z ht;have h:=BO (R:=Fits w) (cs:=cs) (P:=P) fs.toList ls 0 hok.1 (λi f l' hfi hli=>by
     have anJ:fs[i]? =some f:=by simpa using hfi
     have h1:=hg i f anJ;have hil:i<fs.size:=(Array.getElem?_eq_some_iff.1 anJ).1;have h2:xs[i]? =some (xs[i]'(by omega)):=getElem?_eq_getElem (by omega);rw[h2]at h1;have h3:=mapM_some_get hls i f hfi;rw[hli]at h3;have J:xs[i]'(by omega)∈xs:=getElem_mem _;refine ih _ _ _ _ _ h1 h3 (λb hb'=>hz b ?_) (λp hp=>hb p (mem_flatMap.2 ⟨_,J,hp⟩));simp only[DataW.weights,Z];exact DataW.weights_mem_each (j:=i) (t:=f.type) (d:=(xs[i]'(by omega)).1) (by simp[anJ]) (by simp[h2]) b hb')
    rw[drop_zero,<-hok.2,<-hcl,take_length]at h;exact h
   simp at I
  ·rename_i m e Z
   simp only[Option.bind_eq_some_iff]at O;obtain⟨le,hle,I⟩:=O
   split at I
   ·rename_i hok
    simp only[Bool.and_eq_true,beq_iff_eq]at hok;simp at I;subst I;obtain⟨xs,k,_,rfl,hcl,hxl,hg⟩:=DataW.trod_array Z ht;have h:=Fw (R:=Fits w) (cs:=cs) (l:=le) m 0 (λi hi=>by
     have h1:=hg i hi;have h2:xs[i]? =some (xs[i]'(by omega)):=getElem?_eq_getElem (by omega);rw[h2]at h1;have J:xs[i]'(by omega)∈xs:=getElem_mem _;have h4:=ih _ _ _ _ _ h1 hle (λb hb'=>hz b (by
      simp only[DataW.weights,Z];exact BJ (mem_map.2 ⟨_,J,E⟩) b hb')) (λp hp=>hb p (mem_flatMap.2 ⟨_,J,hp⟩))
     rw[hok.1]at h4;rw[Nat.zero_add];exact h4)
    rw[drop_zero,<-hok.2,<-hcl,take_length]at h;exact h
   simp at I
  simp at O
end
def QA(P:Program)(W:World)(v:Value)(t:TypeId):Prop:=
 (∃base,Value.okWide P W .any base t v)/\ ∃l,flat P 30 t=some l/\dZ (Fits W) v.cells.toList l
section
variable {H:Type}{enc:TypeId×Value->H}{P:Program}
def Za{W:World}{base:Nat}:∀ {ts:List TypeId} {vs:List Value} {ds:List (DataW H)} {ps:List MemPlace},DataW.TrodAll enc P W 0 (λ_=>true) true ts vs ds ps->
  (∀(j:Nat) t v,ts[j]? =some t->vs[j]? =some v->Value.okWide P W .any base t v)->(∀t∈ts,(flat P 30 t).isSome=true)->
  (∀b∈DataW.weightsEach P ts ds,b<=reachBytes)->(∀p∈ps,p.block<W.heap.size)->dZ (QA P W) vs ts
 |[],vs,ds,ps,h,_,_,_,_=>by obtain⟨rfl,_⟩:=trodAll_nil h;trivial
 |t::ts,vs,ds,ps,h,hv,Z,hz,hb=>by
  obtain⟨v,vs',d,ds',p,q,rfl,rfl,rfl,h0,hr⟩:=trodAll_cons h;refine⟨⟨⟨base,hv 0 t v E E⟩,?_⟩,Za hr (λj M v' h1 h2=>hv (j+1) M v' (by simpa using h1) (by simpa using h2)) (λM I=>Z M (mem_cons_of_mem _ I))
   (λb I=>hz b (by simp only[DataW.weightsEach,mem_append];exact .inr I)) (λx O=>hb x (mem_append.2 (.inr O)))⟩
  have hs:=Z t (mem_cons_self ..);obtain⟨l,hl⟩:=Option.isSome_iff_exists.1 hs;obtain⟨J,ht⟩:=h0;exact⟨l,hl,adk 30 J t _ _ l ht hl (λb I=>hz b (by simp only[DataW.weightsEach,mem_append];exact .inl I)) (λx O=>hb x (mem_append.2 (.inl O)))⟩
def Dv(O:laidOutB P=true){W W':World}(Z:Below W.heap.size W W'):∀ {ts:List TypeId} {vs:List Value} {ds:List (DataW H)} {ps:List MemPlace},
  DataW.TrodAll enc P W 0 (λ_=>true) true ts vs ds ps->(∀t∈ts,P.readableRec t=true/\t<P.types.size)->(∀p∈ps,p.block<W.heap.size)->
  DataW.TrodAll enc P W' 0 (λb=>decide (b<W.heap.size)) true ts vs ds ps
 |[],vs,ds,ps,h,_,_=>by
  obtain⟨rfl,rfl,rfl⟩:=trodAll_nil h;exact trodAll_mk0
 |t::ts,vs,ds,ps,h,hr,I=>by
  obtain⟨v,vs',d,ds',p,q,rfl,rfl,rfl,h0,h1⟩:=trodAll_cons h;have J:=hr t (mem_cons_self ..);exact⟨p,q,Below.trod O J.1 J.2 h0 Z (λx M=>I x (mem_append.2 (.inl M))),
   Dv O Z h1 (λt' h'=>hr t' (mem_cons_of_mem _ h')) (λx M=>I x (mem_append.2 (.inr M))),E⟩
def Zb(P:Program)(ts:List TypeId):Bool:=laidOutB P&&ts.all λt=>(flat P 30 t).isSome&&P.readableRec t&&decide (t<P.types.size)
end
end
def kQ{α:Sort _}{a b:α}(h:a=b:=by kernel_rfl):a=b:=h
def Y{p:Prop}(h:p:=by omega):p:=h
def dQ{p:Prop}(h:p:=by decide):p:=h
def iQ{p:Prop}(h:p:=by simp):p:=h
def uQ{p:Prop}(h:p:=by(dsimp only;omega)):p:=h
def jQ{p:Prop}(h:p:=by(simp;omega)):p:=h
def lQ{p:Prop}(h:p:=by(simp only[maxLen];omega)):p:=h
def gQ{p:Prop}(h:p:=by go_grown):p:=h
def hQ{p:Prop}(h:p:=by(unfold reachBytes;omega)):p:=h
def fQ{s f k:Nat}(h:∀(b o:Nat) (w:World),(Instr.fieldAt s (.pointer (some ⟨b,o,none⟩)) f).run prog w=.ok (.pointer (some ⟨b,o+k,none⟩)) w:=by(intro _ _ _;kernel_rfl)):∀(b o:Nat) (w:World),(Instr.fieldAt s (.pointer (some ⟨b,o,none⟩)) f).run prog w=.ok (.pointer (some ⟨b,o+k,none⟩)) w:=h
def eQ{f:FuncId}(h:(prog.funcs[f]?).map (λq=>(q.name== "runtime.NumGoroutine",q.body.isSome))=some (false,true):=by kernel_rfl)(args:Array Value)(w:World):(callFunc f args).run prog w=.ok (.enter f args) w:=by
 cases I:prog.funcs[f]? with
 |none=>rw[I]at h;cases h
 |some q=>
  rw[I]at h;simp only[Option.map_some,Option.some.injEq,Prod.mk.injEq]at h;obtain⟨h1,J⟩:=h;obtain⟨c,M⟩:=Option.isSome_iff_exists.mp J;have h1:q.name≠ "runtime.NumGoroutine" :=by simpa using h1
  simp[callFunc,I,h1,M,mark]
section
open ChangeAt
def Rd(w:World)(B size:Nat)(A:Option Addr)(n:Nat)(xs:List Value):Prop:=
 xs.length=n*size/\(0<n-> ∃b off,A=some ⟨b,off,none⟩/\b<B/\ ∀j u,xs[j]? =some u->w.cell? ⟨b,off+j,none⟩=some u)
section
variable {w w':World}{B B' size n:Nat}{A:Option Addr}{xs:List Value}
def Rd.Q8:Rd w B size A 0 []:=⟨by simp,λh=>absurd h Y⟩
def Rd.keep(h:Rd w B size A n xs)(J:∀p:Addr,p.block<B->w'.cell? p=w.cell? p):Rd w' B size A n xs:=
 ⟨h.1,λhn=>by
  obtain⟨b,off,e,I,M⟩:=h.2 hn;exact⟨b,off,e,I,λj u O=>(J _ I).trans (M j u O)⟩⟩
def Rd.more(h:Rd w B size A n xs)(J:B<=B'):Rd w B' size A n xs:=
 ⟨h.1,λhn=>by
  obtain⟨b,off,e,M,I⟩:=h.2 hn;exact⟨b,off,e,by omega,I⟩⟩
def Rd.below{C:Nat}(h:Rd w B size A n xs)(I:Below C w w')(J:B<=C):Rd w' B size A n xs:=h.keep λ_ M=>I.cell Y
def Rd.on(h:Rd w w.heap.size size A n xs)(I:Below w.heap.size w w'):Rd w' w'.heap.size size A n xs:=(h.below I (Nat.le_refl _)).more I.size
def Rd.drewN(h:Rd w B size A n xs)(k:Nat):Rd (w.drewN k) B size A n xs:=h
def Rd.alloc(h:Rd w B size A n xs)(I:B<=w.heap.size)(o:Obj):Rd (w.alloc o) B size A n xs:=h.keep λp J=>World.cell?_alloc_lt w o p Y
def Rd.setCell(h:Rd w B size A n xs){p:Addr}(I:B<=p.block)(u:Value):Rd (w.setCell p u) B size A n xs:=
 h.keep λq J=>World.cell?_setCell_other w p q u (λe=>by subst e;omega)
def Rd.grown(h:Rd w B size A n xs){row:Option Nat}(I:w.grownBy w' row)(M:B<=w.heap.size)(J:∀g,row=some g->B<=g):Rd w' B size A n xs:=
 h.keep λp O=>World.cell?_of_block (I.block p.block Y (λe=>by have:=J _ e.symm;omega))
def Rd.uf{base:Nat}{e:TypeId}{c:Nat}(h:w.ownsRow base e size (.slice A n c) n xs):Rd w w.heap.size size A n xs:=by
 obtain⟨h1,O⟩:=h;refine⟨h1,λhn=>?_⟩
 rcases O with⟨_,h0⟩|⟨g,cap,Z,hv,_,J,hnc,_,hsz,M⟩
 ·omega
 have hA:A=some ⟨g,0,none⟩:=by injection hv
 subst hA;have hg:g<w.heap.size:=by
  rcases Nat.lt_or_ge g w.heap.size with h|h
  ·exact h
  rw[Array.getElem?_eq_none h]at J;cases J
 refine⟨g,0,E,hg,λj u I=>?_⟩;rw[Nat.zero_add,cell_of_row w g j _ e (0,0) J];have hj:j<xs.length:=(List.getElem?_eq_some_iff.1 I).1;rw[<-M]at I;rw[getElem?_take_of_lt Y]at I;simpa using I
def Rd.KX{base:Nat}{e:TypeId}{c:Nat}(h:w.ownsRow base e size (.slice A n c) n xs):Rd w w.heap.size size A n xs:=Rd.uf h
def Rd.ah4(w:World)(t:TypeId)(xs:List Value)(n size:Nat)(h:xs.length=n*size):Rd (w.alloc (.cells xs.toArray t)) (w.heap.size+1) size (some ⟨w.heap.size,0,none⟩) n xs:=by
 refine⟨h,λ_=>⟨_,0,E,by omega,λj u I=>?_⟩⟩;rw[World.cell?_alloc_mark];simpa using I
def Rd.at_{k:Nat}(h:Rd w B 1 A n xs)(O:k<n):∃b off u,A=some ⟨b,off,none⟩/\b<B/\xs[k]? =some u/\w.cell? ⟨b,off+k,none⟩=some u:=by
 obtain⟨b,off,e,J,M⟩:=h.2 Y;have I:k<xs.length:=by have:=h.1;omega
 exact⟨b,off,xs[k],e,J,getElem?_eq_getElem I,M k _ (getElem?_eq_getElem I)⟩
def Rd.cut(h:Rd w B size A n xs){k cap:Nat}(O:k<=n)(Z:n<=cap):
 Rd w B size (if cap=k then A else A.map (·.add (k*size))) (n-k) (xs.drop (k*size)):=by
 refine⟨by rw[length_drop,h.1,Nat.sub_mul],λhn=>?_⟩;obtain⟨b,off,rfl,J,I⟩:=h.2 Y;rw[if_neg Y];refine⟨b,off+k*size,?_,J,λj u M=>?_⟩
 ·simp only[Option.map_some,Option.some.injEq];unfold Addr.add
  split
  ·simp
  rfl
 rw[Nat.add_assoc];exact I _ u (by rw[<-M,getElem?_drop])
end
def CZ{W I:World}(J:Below W.heap.size W I):(∀b o,b<W.heap.size->I.cell? ⟨b,o,none⟩=W.cell? ⟨b,o,none⟩)/\(∀b o,b<W.heap.size->I.frozen? ⟨b,o,none⟩=W.frozen? ⟨b,o,none⟩):=
 ⟨λb o h=>J.cell (p:=⟨b,o,none⟩) h,λb o h=>J.frozen (p:=⟨b,o,none⟩) h⟩
def ajm{k:IntKind}{a b:Int}{x:Value}(h:a=b):Ending.returned (.tuple #[.int k a,x])=.returned (.tuple #[.int k b,x]):=by rw[h]
def iq{k:IntKind}{a b:Int}(h:a=b):Ending.returned (.int k a)=.returned (.int k b):=by rw[h]
def Gt(l:List UInt8):List Value:=l.map λb=>.int .u8 b.toNat
def byteCells_length(l:List UInt8):(Gt l).length=l.length:=by simp[Gt]
def Q7(l k:List UInt8):Gt (l++k)=Gt l++Gt k:=by simp[Gt]
def Rd.nT{w:World}{B n:Nat}{A:Option Addr}{l:List UInt8}(h:Rd w B 1 A n (Gt l)):l.length=n:=by
 have:=h.1;rw[byteCells_length]at this;omega
structure gB (w:World)(b:Nat)(row:Array Value)(t:TypeId):Prop where
 Mg:w.heap[b]? =some (.cells row t (0,0))
def JD{B:Nat}{a w:World}(h:Below B a w)(q:Nat):Below B a (w.drewN q):=h.trans ⟨E,E,E,Nat.le_refl _,λ_ _=>E⟩
section
variable {w w' W:World}{b:Nat}{row:Array Value}{t:TypeId}
def gB.lt(h:gB w b row t):b<w.heap.size:=by
 rcases Nat.lt_or_ge b w.heap.size with h1|h1
 ·exact h1
 have:=h.Mg;rw[Array.getElem?_eq_none h1]at this
 cases this
def gB.new(w:World)(row:Array Value)(t:TypeId):gB (w.alloc (.cells row t)) w.heap.size row t:=by
 refine⟨?_⟩
 show(w.heap.push _)[_]? =_
 rw[Array.getElem?_push,if_pos E]
def gB.new1(w:World)(h:Obj)(row:Array Value)(t:TypeId):gB ((w.alloc h).alloc (.cells row t)) (w.heap.size+1) row t:=by
 have:=gB.new (w.alloc h) row t;simpa using this
def gB.new2(w:World)(h I:Obj)(row:Array Value)(t:TypeId):gB (((w.alloc h).alloc I).alloc (.cells row t)) (w.heap.size+1+1) row t:=by
 have:=gB.new ((w.alloc h).alloc I) row t;simpa using this
def gB.alloc(h:gB w b row t)(o:Obj):gB (w.alloc o) b row t:=⟨by rw[Below.heap_alloc _ _ _ h.lt];exact h.Mg⟩
def gB.drewN(h:gB w b row t)(q:Nat):gB (w.drewN q) b row t:=⟨h.Mg⟩
def gB.drew(h:gB w b row t):gB w.drew b row t:=⟨h.Mg⟩
def gB.below{B:Nat}(h:gB w b row t)(I:Below B w w')(J:b<B):gB w' b row t:=⟨(I.block b J).trans h.Mg⟩
def gB.on(h:gB w b row t)(I:Below w.heap.size w w'):gB w' b row t:=h.below I h.lt
def gB.grown(h:gB w b row t){r:Option Nat}(I:w.grownBy w' r)(J:r≠some b):gB w' b row t:=⟨(I.block b h.lt (λe=>J e.symm)).trans h.Mg⟩
def gB.other(h:gB w b row t)(p:Addr)(I:b≠p.block)(u:Value):gB (w.setCell p u) b row t:=⟨by rw[Below.heap_setCell _ _ _ _ I];exact h.Mg⟩
def gB.wz(h:gB w b row t)(k:Nat)(u:Value):gB (w.setCell ⟨b,k,none⟩ u) b (row.setIfInBounds k u) t:=by
 refine⟨?_⟩;have I:=h.Mg;simp only[World.setCell,Array.getElem?_modify,I];simp
def gB.cell(h:gB w b row t){k:Nat}{u:Value}(I:row[k]? =some u):w.cell? ⟨b,k,none⟩=some u:=by
 rw[cell_of_row w b k _ _ (0,0) h.Mg];exact I
def gB.free(h:gB w b row t)(j:Nat):w.frozen? ⟨b,j,none⟩=false:=by
 have:=h.Mg;simp[World.frozen?,this]
def gB.cast{row':Array Value}(h:gB w b row t)(e:row=row'):gB w b row' t:=e▸h
def gB.at_{b':Nat}(h:gB w b row t)(e:b=b'):gB w b' row t:=e▸h
end
section
variable {w:World}{b:Nat}{t:TypeId}{a0 a1 a2 a3 a4 a5 a6 a7 a8 a9 a10 a11 a12 a13 a14 a15:Value}
def gB.vO(h:gB w b #[a0,a1] t):w.cell? ⟨b,0,none⟩=some a0/\w.cell? ⟨b,1,none⟩=some a1/\ ∀j,w.frozen? ⟨b,j,none⟩=false:=⟨h.cell E,h.cell E,h.free⟩
def gB.CF(h:gB w b #[a0,a1,a2,a3,a4,a5,a6,a7] t):w.cell? ⟨b,0,none⟩=some a0/\w.cell? ⟨b,1,none⟩=some a1/\w.cell? ⟨b,2,none⟩=some a2/\w.cell? ⟨b,3,none⟩=some a3/\w.cell? ⟨b,4,none⟩=some a4/\w.cell? ⟨b,5,none⟩=some a5/\w.cell? ⟨b,6,none⟩=some a6/\w.cell? ⟨b,7,none⟩=some a7/\ ∀j,w.frozen? ⟨b,j,none⟩=false:=⟨h.cell E,h.cell E,h.cell E,h.cell E,h.cell E,h.cell E,h.cell E,h.cell E,h.free⟩
def gB.rQ(h:gB w b #[a0,a1,a2,a3,a4,a5,a6,a7,a8] t):w.cell? ⟨b,0,none⟩=some a0/\w.cell? ⟨b,1,none⟩=some a1/\w.cell? ⟨b,2,none⟩=some a2/\w.cell? ⟨b,3,none⟩=some a3/\w.cell? ⟨b,4,none⟩=some a4/\w.cell? ⟨b,5,none⟩=some a5/\w.cell? ⟨b,6,none⟩=some a6/\w.cell? ⟨b,7,none⟩=some a7/\w.cell? ⟨b,8,none⟩=some a8/\ ∀j,w.frozen? ⟨b,j,none⟩=false:=⟨h.cell E,h.cell E,h.cell E,h.cell E,h.cell E,h.cell E,h.cell E,h.cell E,h.cell E,h.free⟩
def gB.kU(h:gB w b #[a0,a1,a2,a3,a4,a5,a6,a7,a8,a9] t):w.cell? ⟨b,0,none⟩=some a0/\w.cell? ⟨b,1,none⟩=some a1/\w.cell? ⟨b,2,none⟩=some a2/\w.cell? ⟨b,3,none⟩=some a3/\w.cell? ⟨b,4,none⟩=some a4/\w.cell? ⟨b,5,none⟩=some a5/\w.cell? ⟨b,6,none⟩=some a6/\w.cell? ⟨b,7,none⟩=some a7/\w.cell? ⟨b,8,none⟩=some a8/\w.cell? ⟨b,9,none⟩=some a9/\ ∀j,w.frozen? ⟨b,j,none⟩=false:=⟨h.cell E,h.cell E,h.cell E,h.cell E,h.cell E,h.cell E,h.cell E,h.cell E,h.cell E,h.cell E,h.free⟩
end
end
section
open Go.RowKit
section
variable {P:Program}(w:World)
def aar(base:Nat)(t ty e:TypeId)(i:TypeInfo)(size:Nat)(J:P.underlying t=some (.slice e))(hi:P.info? e=some i)
  (v:Value) (n:Nat) (xs:List Value) (h:w.ownsRow base e size v n xs) (c:Nat):(Builtin.append_ #[t,t] ty #[v,.slice none 0 c]).run P w=.ok v w:=by
 rcases h.2 with⟨rfl,rfl⟩|⟨g,cap,M,rfl,_,_,I,_⟩
 ·simp[Builtin.append_,run_underlying J,sizeOf,typeInfo,hi,Builtin.lenOf,Builtin.firstCells]
 simp[Builtin.append_,run_underlying J,sizeOf,typeInfo,hi,Builtin.lenOf,Builtin.firstCells,I,storeCells]
def vI(base:Nat)(t ty e:TypeId)(i:TypeInfo)(z:Value)(size bytes:Nat)(ht:P.underlying t=some (.slice e))(hi:P.info? e=some i)(hz:i.zero=some z)
  (O:i.size=size) (hby:i.bytes=bytes) (hzs:z.cells.size=size) (hsz:0<size)
  (v:Value) (n:Nat) (xs:List Value) (I:w.ownsRow base e size v n xs)
  (B:Nat) (A:Option Addr) (m c:Nat) (news:List Value) (hr:Rd w B size A m news) (h1:∀u∈news,u.oneCell'=true)
  (h63:n+m<=maxLen) (J:(n+m)*bytes<=140737488355328) (Z:base<=w.heap.size):
  ∃v' w',(Builtin.append_ #[t,t] ty #[v,.slice A m c]).run P w=.ok v' w'/\w'.ownsRow base e size v' (n+m) (xs++news)/\w.grownBy w' v.ownBlock/\
   (v'.ownBlock=v.ownBlock\/v'.ownBlock=some w.heap.size):=by
 rcases A with _|ad
 ·have hm:m=0:=by
   rcases eq_zero_or_pos m with h0|h0
   ·exact h0
   obtain⟨b,off,h,_⟩:=hr.2 h0
   cases h
  subst hm;have hn:news=[]:=eq_nil_of_length_eq_zero (by simpa using hr.1);subst hn;exact⟨v,w,aar w base t ty e i size ht hi v n xs I c,by simpa using I,World.grownBy.refl w _,.inl E⟩
 have M:∀j u,news[j]? =some u->w.cell? (ad.add j)=some u:=by
  intro j u hu
  rcases eq_zero_or_pos m with h0|h0
  ·subst h0;have hn:news=[]:=eq_nil_of_length_eq_zero (by simpa using hr.1);subst hn;simp at hu
  obtain⟨b,off,h,_,hc⟩:=hr.2 h0
  injection h with h
  subst h;rw[Go.WideShapes.add_plain];exact hc j u hu
 obtain⟨v',w',hrun,h2,h3,_,h5⟩:=run_append_own_at (P:=P) w base t ty e i z size bytes ht hi hz O hby hzs hsz v n xs I ad m c news hr.1 M h1 h63 J Z;exact⟨v',w',hrun,h2,h3,h5⟩
def abj{o:Oper}{a:Act}{K:Act->World->Prop}{Q:Exit->Act->World->Prop}(s x:Operand)(t:TypeId)
  (ho:o.op=.call {callee:=.builtin .append,args:= #[s,x],argTypes:= #[t,t]})
  (base:Nat) (e:TypeId) (i:TypeInfo) (z:Value) (size bytes:Nat) (ht:P.underlying t=some (.slice e)) (hi:P.info? e=some i) (hz:i.zero=some z)
  (J:i.size=size) (hby:i.bytes=bytes) (hzs:z.cells.size=size) (hsz:0<size)
  (v:Value) (n:Nat) (xs:List Value) (hs:a.eval s=v) (O:w.ownsRow base e size v n xs)
  (B:Nat) (A:Option Addr) (m c:Nat) (news:List Value) (hx:a.eval x=.slice A m c) (hr:Rd w B size A m news) (h1:∀u∈news,u.oneCell'=true)
  (h63:n+m<=maxLen) (I:(n+m)*bytes<=140737488355328) (M:base<=w.heap.size)
  (h:∀v' w',w'.ownsRow base e size v' (n+m) (xs++news)->w.grownBy w' v.ownBlock->(v'.ownBlock=v.ownBlock\/v'.ownBlock=some w.heap.size)->K (a.put o.dst v') w'):o.wp P a w K Q:=by
 obtain⟨v',w',Z,h2,h3,h4⟩:=vI (P:=P) w base t o.type e i z size bytes ht hi hz J hby hzs hsz v n xs O B A m c news hr h1 h63 I M;unfold Oper.wp execOp;simp only[ho,resolve,invoke,builtin,Sem.run_bind,Sem.run_pure,Result.andThen_ok,map_toArray,map_cons,map_nil,hs,hx,Z];exact h v' w' h2 h3 h4
def jF{ops:Array Oper}{rest:List Oper}{o:Oper}{a:Act}{Q:Exit->Act->World->Prop}(Z:o.guard=none)(s x:Operand)(t:TypeId)
  (ho:o.op=.call {callee:=.builtin .append,args:= #[s,x],argTypes:= #[t,t]})
  (base:Nat) (e:TypeId) (i:TypeInfo) (z:Value) (size bytes:Nat) (ht:P.underlying t=some (.slice e)) (hi:P.info? e=some i) (hz:i.zero=some z)
  (J:i.size=size) (hby:i.bytes=bytes) (hzs:z.cells.size=size) (hsz:0<size)
  (v:Value) (n:Nat) (xs:List Value) (hs:a.eval s=v) (O:w.ownsRow base e size v n xs)
  (B:Nat) (A:Option Addr) (m c:Nat) (news:List Value) (hx:a.eval x=.slice A m c) (hr:Rd w B size A m news) (h1:∀u∈news,u.oneCell'=true)
  (h63:n+m<=maxLen) (I:(n+m)*bytes<=140737488355328) (M:base<=w.heap.size)
  (h:∀v' w',w'.ownsRow base e size v' (n+m) (xs++news)->w.grownBy w' v.ownBlock->(v'.ownBlock=v.ownBlock\/v'.ownBlock=some w.heap.size)->wpList P ops Q rest (a.put o.dst v') w'):wpList P ops Q (o::rest) a w:=
 wpList_plain Z λ_ hK=>abj w s x t ho base e i z size bytes ht hi hz J hby hzs hsz v n xs hs O B A m c news hx hr h1 h63 I M λv' w' h2 h3 h4=>hK _ _ (h v' w' h2 h3 h4)
end
def jk(w:World)(base:Nat)(e:TypeId)(size:Nat):w.ownsRow base e size (.slice none 0 0) 0 []:=⟨by simp,.inl ⟨E,E⟩⟩
def mY{w:World}{base:Nat}{e:TypeId}{size:Nat}{v:Value}{n:Nat}{xs:List Value}(h:w.ownsRow base e size v n xs):∃A c,v=.slice A n c/\n<=c/\c<=maxLen:=by
 rcases h.2 with⟨rfl,rfl⟩|⟨g,cap,J,rfl,_,_,I,M,_⟩
 ·exact⟨none,0,E,Nat.le_refl _,zero_le _⟩
 exact⟨_,cap,E,I,M⟩
def Q5(l:List UInt8):∀u∈Gt l,u.oneCell'=true:=by
 intro u h;simp only[Gt,mem_map]at h;obtain⟨b,_,rfl⟩:=h;rfl
def _root_.Go.World.ownsRow.zI{w:World}{base:Nat}{e:TypeId}{size:Nat}{v:Value}{n:Nat}{xs:List Value}(h:w.ownsRow base e size v n xs)(k:Nat)(I:v.ownBlock=some k):base<=k:=by
 rcases h.2 with⟨rfl,_⟩|⟨g,cap,J,rfl,M,_⟩
 ·simp[Value.ownBlock]at I
 simp[Value.ownBlock]at I;omega
def _root_.Go.World.ownsRow.lower{w:World}{base base':Nat}{e:TypeId}{size:Nat}{v:Value}{n:Nat}{xs:List Value}(h:w.ownsRow base e size v n xs)(M:base'<=base):w.ownsRow base' e size v n xs:=by
 obtain⟨h1,I⟩:=h;refine⟨h1,?_⟩
 rcases I with I|⟨g,cap,J,hv,O,r⟩
 ·exact .inl I
 exact .inr ⟨g,cap,J,hv,Nat.le_trans M O,r⟩
def apf{v v':Value}{m:Nat}(h:v'.ownBlock=v.ownBlock\/v'.ownBlock=some m)(P:Nat->Prop)(h1:∀k,v.ownBlock=some k->P k)(J:P m):∀k,v'.ownBlock=some k->P k:=by
 intro k I
 rcases h with h|h
 ·exact h1 k (h.symm.trans I)
 rw[h]at I
 cases I;exact J
def Zc(w:World)(row:Array Value)(e:TypeId)(n size:Nat)(h:row.size=n*size)(hn:n<=maxLen):(w.alloc (.cells row e)).ownsRow w.heap.size e size (.slice (some ⟨w.heap.size,0,none⟩) n n) n row.toList:=by
 refine⟨by simpa using h,.inr ⟨w.heap.size,n,row,E,Nat.le_refl _,?_,Nat.le_refl _,hn,h,?_⟩⟩
 ·show(w.heap.push _)[_]? =_
  rw[Array.getElem?_push,if_pos E]
 exact take_of_length_le (by simpa using Nat.le_of_eq h)
def Nz{w w':World}{base:Nat}{e:TypeId}{size:Nat}{v:Value}{n:Nat}{xs:List Value}(h:w.ownsRow base e size v n xs)(Z:Below w.heap.size w w'):w'.ownsRow base e size v n xs:=by
 obtain⟨h1,I⟩:=h;refine⟨h1,?_⟩
 rcases I with I|⟨g,cap,J,hv,hg,M,r⟩
 ·exact .inl I
 have O:g<w.heap.size:=by
  rcases Nat.lt_or_ge g w.heap.size with h|h
  ·exact h
  rw[Array.getElem?_eq_none h]at M;cases M
 exact .inr ⟨g,cap,J,hv,hg,(Z.block g O).trans M,r⟩
def jA(w:World)(e:TypeId)(size:Nat)(n:Nat)(xs:List Value)(en:Ending)(w':World):Prop:=
 ∃A c,en=.returned (.slice A n c)/\Below w.heap.size w w'/\w'.ownsRow w.heap.size e size (.slice A n c) n xs
def jA.of{w w':World}{e:TypeId}{size n:Nat}{v:Value}{xs:List Value}(I:Below w.heap.size w w')(h:w'.ownsRow w.heap.size e size v n xs):jA w e size n xs (.returned v) w':=by
 obtain⟨A,c,rfl,_⟩:=mY h;exact⟨A,c,E,I,h⟩
end
section
open ChangeAt
structure uF (w:World)(g:Nat)(w':World):Prop where
 os:w'.os=w.os
 tape:w'.tape=w.tape
 output:w'.output=w.output
 size:w'.heap.size=w.heap.size
 block:∀k,k≠g->w'.heap[k]? =w.heap[k]?
section
variable {w w' a:World}{g B:Nat}
def uF.below(h:uF w g w')(I:B<=g):Below B w w':=⟨h.os,h.tape,h.output,Nat.le_of_eq h.size.symm,λk J=>h.block k Y⟩
def uF.next(h:uF w g w')(I:Below B a w)(J:B<=g):Below B a w':=I.trans (h.below J)
def uF.Mg{b:Nat}{row:Array Value}{t:TypeId}(h:uF w g w')(J:gB w b row t)(I:b≠g):gB w' b row t:=⟨(h.block b I).trans J.Mg⟩
def uF.own{base:Nat}{e:TypeId}{size:Nat}{v:Value}{n:Nat}{xs:List Value}(h:uF w g w')(O:w.ownsRow base e size v n xs)(I:∀k,v.ownBlock=some k->k≠g):w'.ownsRow base e size v n xs:=by
 obtain⟨h1,J⟩:=O;refine⟨h1,?_⟩
 rcases J with J|⟨k,cap,M,hv,Z,hh,r⟩
 ·exact .inl J
 exact .inr ⟨k,cap,M,hv,Z,(h.block k (I k (by rw[hv];rfl))).trans hh,r⟩
def uF.rd{size n:Nat}{A:Option Addr}{xs:List Value}(h:uF w g w')(I:Rd w B size A n xs)(J:B<=g):Rd w' B size A n xs:=I.below (h.below J) (Nat.le_refl _)
def EC{base:Nat}{e:TypeId}{size:Nat}{v:Value}{n:Nat}{xs:List Value}(h:w.ownsRow base e size v n xs)(k:Nat)(I:v.ownBlock=some k):k<w.heap.size:=by
 rcases h.2 with⟨rfl,_⟩|⟨g',cap,M,rfl,_,J,_⟩
 ·simp[Value.ownBlock]at I
 simp[Value.ownBlock]at I;subst I
 rcases Nat.lt_or_ge g' w.heap.size with h|h
 ·exact h
 rw[Array.getElem?_eq_none h]at J;cases J
def Uz(w:World)(a:Addr)(u:Value):uF w a.block (w.setCell a u):=by
 refine⟨E,E,E,by simp[World.setCell],λk h=>?_⟩;exact Below.heap_setCell _ _ _ _ h
def ED(w:World)(g k:Nat)(u:Value):uF w g (w.setCell ⟨g,k,none⟩ u):=Uz w ⟨g,k,none⟩ u
def Gu(w:World)(g:Nat):uF w g w.drew:=⟨E,E,E,E,λ_ _=>E⟩
def uF.trans{w w' I:World}{g:Nat}(h:uF w g w')(J:uF w' g I):uF w g I:=⟨J.os.trans h.os,J.tape.trans h.tape,J.output.trans h.output,J.size.trans h.size,λk M=>(J.block k M).trans (h.block k M)⟩
def XM(w:World)(g:Nat)(cs:Array Value):uF w g (w.setRow g cs):=by
 refine⟨E,E,E,by simp,λk h=>?_⟩;simp only[World.setRow,Array.getElem?_modify];rw[if_neg Y]
end
section
variable {P:Program}
def wp_store_row{o:Oper}{a:Act}{w:World}{K:Act->World->Prop}{Q:Exit->Act->World->Prop}(ty:TypeId)(x y:Operand)(M:o.op=.store ty x y)
  (g:Nat) (O:a.eval x=.pointer (some ⟨g,0,none⟩)) (cs:Array Value) (Z:a.eval y=.agg cs) (t:TypeId) (I:Array Value) (J:gB w g I t)
  (hi:(P.info? ty).map (·.size)=some cs.size) (hs:I.size=cs.size) (h1:cs.toList.all (·.oneCell')=true)
  (h:∀w',gB w' g cs t->uF w g w'->K (a.put o.dst undef) w'):o.wp P a w K Q:=by
 have h1:cs.all (·.oneCell')=true:=by simpa using h1
 have hk:=h (w.setRow g cs) ⟨setRow_heap w g I cs t (0,0) J.Mg⟩ (XM w g cs);unfold Oper.wp execOp;simp only[M,O,Z,Instr.storeAt,Instr.sureAddr,Sem.run_bind,Sem.run_pure,Result.andThen_ok,run_storeVar_row w g t ty I cs J.Mg hi hs h1];exact hk
def vJ{ops:Array Oper}{o:Oper}{a:Act}{w:World}{K:Act->World->Prop}{Q:Exit->Act->World->Prop}{lK:Prop}(J:o.guard=none)(ty:TypeId)(x y:Operand)(M:o.op=.store ty x y)
  (g:Nat) (O:a.eval x=.pointer (some ⟨g,0,none⟩)) (cs:Array Value) (Z:a.eval y=.agg cs) (t:TypeId) (I:Array Value) (hg:gB w g I t)
  (hi:(P.info? ty).map (·.size)=some cs.size) (hs:I.size=cs.size) (h1:cs.toList.all (·.oneCell')=true)
  (h:∀w',gB w' g cs t->uF w g w'->K (a.put o.dst undef) w'):if Region.wanted o (yielded ops a.tmps)=true then Oper.wp P o a w K Q else lK:=by
 rw[if_pos (by simp[Region.wanted,J])];exact wp_store_row ty x y M g O cs Z t I hg hi hs h1 h
def QH{ops:Array Oper}{rest:List Oper}{o:Oper}{a:Act}{w:World}{Q:Exit->Act->World->Prop}(J:o.guard=none)(ty:TypeId)(x y:Operand)(M:o.op=.store ty x y)
  (g:Nat) (O:a.eval x=.pointer (some ⟨g,0,none⟩)) (cs:Array Value) (Z:a.eval y=.agg cs) (t:TypeId) (I:Array Value) (hg:gB w g I t)
  (hi:(P.info? ty).map (·.size)=some cs.size) (hs:I.size=cs.size) (h1:cs.toList.all (·.oneCell')=true)
  (h:∀w',gB w' g cs t->uF w g w'->wpList P ops Q rest (a.put o.dst undef) w'):wpList P ops Q (o::rest) a w:=
 wpList_plain J λ_ hK=>wp_store_row ty x y M g O cs Z t I hg hi hs h1 (λw' hb hu=>hK _ _ (h w' hb hu))
end
def oG(w:World)(B:Nat)(e:TypeId)(size:Nat)(A:Option Addr)(n c:Nat)(xs:List Value):Prop:=
 xs.length=n*size/\n<=c/\c<=maxLen/\((A=none/\c=0)\/ ∃g o cur,A=some ⟨g,o,none⟩/\B<=g/\w.heap[g]? =some (.cells cur e)/\o+c*size<=cur.size/\(cur.toList.drop o).take (n*size)=xs)
inductive J8
 |Mg (b:Nat) (row:Array Value) (t:TypeId)
 |own (e:TypeId) (size:Nat) (v:Value) (n:Nat) (xs:List Value)
 |rd (size:Nat) (A:Option Addr) (n:Nat) (xs:List Value)
 |loc (b:Nat) (R:Obj->Prop)
 |cZ (size:Nat) (A:Option Addr) (n:Nat) (xs:List Value)
 |off (e:TypeId) (size:Nat) (A:Option Addr) (n c:Nat) (xs:List Value)
def J8.foot:J8->Option Nat
 | .Mg b _ _=>some b
 | .own _ _ v _ _=>v.ownBlock
 | .rd .. =>none
 | .loc b _=>some b
 | .cZ _ A _ _=>A.map (·.block)
 | .off _ _ A _ _ _=>A.map (·.block)
def J8.holds(B:Nat)(w:World):J8->Prop
 | .Mg b row t=>B<=b/\gB w b row t
 | .own e s v n xs=>w.ownsRow B e s v n xs
 | .rd s A n xs=>Rd w B s A n xs
 | .loc b R=>B<=b/\ ∃o,w.heap[b]? =some o/\R o
 | .cZ s A n xs=>Rd w w.heap.size s A n xs/\ ∀a,A=some a->B<=a.block/\a.block<w.heap.size
 | .off e s A n c xs=>oG w B e s A n c xs
structure St (B:Nat)(w0 w:World)(fs:List J8):Prop where
 Nr:Below B w0 w
 base:B<=w.heap.size
 all:∀(i:Nat) (f:J8),fs[i]? =some f->f.holds B w
 sep:∀(i j:Nat) (f g:J8),i≠j->fs[i]? =some f->fs[j]? =some g-> ∀k,f.foot=some k->g.foot≠some k
def afL{w w':World}{base:Nat}{e:TypeId}{size:Nat}{v:Value}{n:Nat}{xs:List Value}(h:w.ownsRow base e size v n xs)(O:∀k,v.ownBlock=some k->w'.heap[k]? =w.heap[k]?):w'.ownsRow base e size v n xs:=by
 obtain⟨h1,I⟩:=h;refine⟨h1,?_⟩
 rcases I with I|⟨k,cap,J,hv,M,Z,r⟩
 ·exact .inl I
 exact .inr ⟨k,cap,J,hv,M,(O k (by rw[hv];rfl)).trans Z,r⟩
section
variable {B:Nat}{w0 w w':World}{fs:List J8}
def J8.nu{f:J8}{k:Nat}(h:f.holds B w)(I:f.foot=some k):B<=k/\k<w.heap.size:=by
 cases f with
 |Mg b row t=>cases I;exact⟨h.1,h.2.lt⟩
 |own e s v n xs=>exact⟨World.ownsRow.zI h k I,EC h k I⟩
 |rd s A n xs=>cases I
 |loc b R=>
  cases I;obtain⟨h1,o,J,_⟩:=h;exact⟨h1,(Array.getElem?_eq_some_iff.1 J).1⟩
 |cZ s A n xs=>
  cases A with
  |none=>cases I
  |some a=>cases I;exact h.2 a E
 |off e s A n c xs=>
  obtain⟨_,_,_,⟨rfl,_⟩|⟨g,o,M,rfl,h1,J,_⟩⟩:=h
  ·cases I
  cases I;exact⟨h1,(Array.getElem?_eq_some_iff.1 J).1⟩
def J8.keep{f:J8}(h:f.holds B w)(hb:∀k,k<B->w'.heap[k]? =w.heap[k]?)(M:∀k,f.foot=some k->w'.heap[k]? =w.heap[k]?):f.holds B w':=by
 cases f with
 |Mg b row t=>exact⟨h.1,⟨(M b E).trans h.2.Mg⟩⟩
 |own e s v n xs=>exact afL h M
 |rd s A n xs=>exact Rd.keep h λp hp=>World.cell?_of_block (hb _ hp)
 |loc b R=>
  obtain⟨h1,o,I,J⟩:=h;exact⟨h1,o,(M b E).trans I,J⟩
 |cZ s A n xs=>
  obtain⟨h1,I⟩:=h;have hz:∀a,A=some a->a.block<w'.heap.size:=λa O=>by
   have J:=M a.block (by rw[O];rfl);rw[Array.getElem?_eq_getElem (I a O).2]at J;exact(Array.getElem?_eq_some_iff.1 J).1
  refine⟨⟨h1.1,λhn=>?_⟩,λa O=>⟨(I a O).1,hz a O⟩⟩;obtain⟨b,off,e,_,hc⟩:=h1.2 hn;exact⟨b,off,e,hz _ e,λj u hu=>(World.cell?_of_block (M b (by rw[e];rfl))).trans (hc j u hu)⟩
 |off e s A n c xs=>
  obtain⟨h1,I,J,h|⟨g,o,Z,e1,h4,h5,h6⟩⟩:=h
  ·exact⟨h1,I,J,.inl h⟩
  exact⟨h1,I,J,.inr ⟨g,o,Z,e1,h4,(M g (by rw[e1];rfl)).trans h5,h6⟩⟩
def St.start(w:World):St w.heap.size w w []:=⟨Below.refl _ _,Nat.le_refl _,λi f h=>by simp at h,λi j f g _ h=>by simp at h⟩
def St.le(S:St B w0 w fs):w0.heap.size<=w.heap.size:=S.Nr.size
def St.cons{f:J8}(S:St B w0 w fs)(h:f.holds B w)(hs:∀k,f.foot=some k-> ∀(i:Nat) (g:J8),fs[i]? =some g->g.foot≠some k):St B w0 w (f::fs):=by
 refine⟨S.Nr,S.base,λi g M=>?_,λi j g g' O hi J k Z I=>?_⟩
 ·cases i with
  |zero=>simp at M;subst M;exact h
  |succ i=>exact S.all i g (by simpa using M)
 cases i with
 |zero=>
  simp at hi;subst hi
  cases j with
  |zero=>exact O E
  |succ j=>exact hs k Z j g' (by simpa using J) I
 |succ i=>
  cases j with
  |zero=>simp at J;subst J;exact hs k I i g (by simpa using hi) Z
  |succ j=>exact S.sep i j g g' Y (by simpa using hi) (by simpa using J) k Z I
def St.bV{s:Nat}{A:Option Addr}{n:Nat}{xs:List Value}(S:St B w0 w fs)(h:Rd w B s A n xs):St B w0 w (.rd s A n xs::fs):=S.cons h λk I=>by cases I
def St.on(S:St B w0 w fs)(I:Below w.heap.size w w'):St B w0 w' fs:=by
 refine⟨S.Nr.trans (I.mono S.base),Nat.le_trans S.base I.size,λi f M=>?_,S.sep⟩;have h:=S.all i f M;exact J8.keep h (λk J=>I.block k (by have:=S.base;omega)) (λk J=>I.block k (J8.nu h J).2)
def St.drew(S:St B w0 w fs):St B w0 w.drew fs:=S.on ⟨E,E,E,Nat.le_refl _,λ_ _=>E⟩
def St.drewN(S:St B w0 w fs)(q:Nat):St B w0 (w.drewN q) fs:=S.on ⟨E,E,E,Nat.le_refl _,λ_ _=>E⟩
def St.alloc{row:Array Value}{t:TypeId}(S:St B w0 w fs):St B w0 (w.alloc (.cells row t)) (.Mg w.heap.size row t::fs):=by
 have h:St B w0 (w.alloc (.cells row t)) fs:=S.on ((Below.refl _ _).alloc (Nat.le_refl _) _);refine h.cons ⟨S.base,gB.new _ _ _⟩ λk I i g J e=>?_
 cases I;have:=(J8.nu (S.all i g J) e).2;omega
def St.apg{o:Obj}(S:St B w0 w fs):St B w0 (w.alloc o) fs:=S.on ((Below.refl _ _).alloc (Nat.le_refl _) _)
def St.uG{e:TypeId}{s:Nat}{v:Value}{n:Nat}{xs:List Value}(S:St B w0 w fs)(I:Below w.heap.size w w')(h:w'.ownsRow w.heap.size e s v n xs):St B w0 w' (.own e s v n xs::fs):=by
 refine(S.on I).cons (h.lower S.base) λk J i g M e=>?_;have h1:=h.zI k J;have:=(J8.nu (S.all i g M) e).2;omega
def St.SA{o:Obj}{R:Obj->Prop}(S:St B w0 w fs)(h:R o):St B w0 (w.alloc o) (.loc w.heap.size R::fs):=by
 have I:St B w0 (w.alloc o) fs:=S.apg;refine I.cons ⟨S.base,o,by show(w.heap.push _)[_]? =_;rw[Array.getElem?_push,if_pos E],h⟩ λk J i g M e=>?_
 cases J;have:=(J8.nu (S.all i g M) e).2;omega
def St.cut{f:J8}(S:St B w0 w (f::fs)):St B w0 w fs:=
 ⟨S.Nr,S.base,λi g h=>S.all (i+1) g (by simpa using h),λi j f g I hi J=>S.sep (i+1) (j+1) f g Y (by simpa using hi) (by simpa using J)⟩
def St.turn{f f':J8}(i:Nat)(S:St B w0 w fs)(hi:fs[i]? =some f)(hlow:Below B w0 w')(hz:w.heap.size<=w'.heap.size)(hb:∀k,k<w.heap.size->f.foot≠some k->w'.heap[k]? =w.heap[k]?)(hf:f'.holds B w')
  (hff:∀k,f'.foot=some k->f.foot=some k\/w.heap.size<=k):St B w0 w' (fs.set i f'):=by
 have Z:i<fs.length:=(List.getElem?_eq_some_iff.1 hi).1;have J:∀(j:Nat) (g:J8),j≠i->fs[j]? =some g-> ∀k,f'.foot=some k->g.foot≠some k:=by
  intro j g hji O k M e
  rcases hff k M with h|h
  ·exact S.sep j i g f hji O hi k e h
  have:=(J8.nu (S.all j g O) e).2;omega
 refine⟨hlow,Nat.le_trans S.base hz,λj g hg=>?_,λj j' g g' hjj O I k M hk'=>?_⟩
 ·by_cases e:j=i
  ·subst e;rw[getElem?_set_self Z]at hg
   cases hg;exact hf
  rw[getElem?_set_ne (λh=>e h.symm)]at hg;have h:=S.all j g hg;have hb':=S.base;exact J8.keep h (λk M=>hb k Y (λe2=>by have:=(J8.nu (S.all i f hi) e2).1;omega))
   (λk M=>hb k (J8.nu h M).2 (S.sep j i g f e hg hi k M))
 by_cases e:j=i
 ·subst e;rw[getElem?_set_self Z]at O
  cases O;rw[getElem?_set_ne (λh=>hjj h)]at I;exact J j' g' (λh=>hjj h.symm) I k M hk'
 rw[getElem?_set_ne (λh=>e h.symm)]at O;by_cases e':j'=i
 ·subst e';rw[getElem?_set_self Z]at I
  cases I;exact J j g e O k hk' M
 rw[getElem?_set_ne (λh=>e' h.symm)]at I;exact S.sep j j' g g' hjj O I k M hk'
def St.set{b:Nat}{row row':Array Value}{t M:TypeId}(i:Nat)(S:St B w0 w fs)(hi:fs[i]? =some (.Mg b row t))(I:uF w b w')(O:gB w' b row' M):St B w0 w' (fs.set i (.Mg b row' M)):=by
 have h:=(S.all i _ hi).1;exact S.turn i hi (I.next S.Nr h) (Nat.le_of_eq I.size.symm) (λk _ J=>I.block k (λe=>J (by rw[e];rfl))) ⟨h,O⟩ (λk J=>.inl J)
def St.setCell{b:Nat}{row:Array Value}{t:TypeId}(i k:Nat)(u:Value)(S:St B w0 w fs)(hi:fs[i]? =some (.Mg b row t)):St B w0 (w.setCell ⟨b,k,none⟩ u) (fs.set i (.Mg b (row.setIfInBounds k u) t)):=
 S.set i hi (ED w b k u) ((S.all i _ hi).2.wz k u)
def St.VN{b:Nat}{R R':Obj->Prop}{o:Obj}(i:Nat)(S:St B w0 w fs)(hi:fs[i]? =some (.loc b R))(I:uF w b w')(M:w'.heap[b]? =some o)(O:R' o):St B w0 w' (fs.set i (.loc b R')):=by
 have h:=(S.all i _ hi).1;exact S.turn i hi (I.next S.Nr h) (Nat.le_of_eq I.size.symm) (λk _ J=>I.block k (λe=>J (by rw[e];rfl))) ⟨h,o,M,O⟩ (λk J=>.inl J)
def St.loc{b:Nat}{R:Obj->Prop}(i:Nat)(S:St B w0 w fs)(hi:fs[i]? =some (.loc b R)):∃o,w.heap[b]? =some o/\R o:=(S.all i _ hi).2
def St.append{e e':TypeId}{s s':Nat}{v v':Value}{n n':Nat}{xs xs':List Value}(i:Nat)(S:St B w0 w fs)(hi:fs[i]? =some (.own e s v n xs))(M:w.grownBy w' v.ownBlock)(ho:w'.ownsRow B e' s' v' n' xs')
  (O:v'.ownBlock=v.ownBlock\/v'.ownBlock=some w.heap.size):St B w0 w' (fs.set i (.own e' s' v' n' xs')):=by
 have h:=S.all i _ hi;refine S.turn i hi (S.Nr.grown M S.base (λk I=>(J8.nu h I).1)) M.size (λk I Z=>M.block k I (λe=>Z e.symm)) ho (λk I=>?_);have J:v'.ownBlock=some k:=I
 rcases O with h1|h1
 ·exact .inl (by rw[<-J,h1];rfl)
 rw[J]at h1
 cases h1;exact .inr (Nat.le_refl _)
def St.re(is:List Nat)(S:St B w0 w fs)(hn:is.Nodup):St B w0 w (is.filterMap λi=>fs[i]?):=by
 have O:∀(is:List Nat),is.Nodup-> ∀(a:Nat) (f:J8),(is.filterMap λi=>fs[i]?)[a]? =some f-> ∃i,i∈is/\fs[i]? =some f:=by
  intro is _ a f h;have hm:=mem_of_getElem? h;rw[mem_filterMap]at hm;obtain⟨i,h1,Z⟩:=hm;exact⟨i,h1,Z⟩
 have key2:∀(is:List Nat),is.Nodup-> ∀(a c:Nat) (f g:J8),a≠c->(is.filterMap λi=>fs[i]?)[a]? =some f->(is.filterMap λi=>fs[i]?)[c]? =some g-> ∃(i j:Nat),i≠j/\fs[i]? =some f/\fs[j]? =some g:=by
  intro is
  induction is with
  |nil=>intro _ a c f g _ h;simp at h
  |cons i is ih=>
   intro hn a c f g M I J;obtain⟨h1,Z⟩:=nodup_cons.1 hn;rw[filterMap_cons]at I J
   cases hi:fs[i]? with
   |none=>rw[hi]at I J;exact ih Z a c f g M I J
   |some x=>
    rw[hi]at I J
    cases a with
    |zero=>
     simp at I
     cases c with
     |zero=>exact absurd E M
     |succ c=>
      obtain⟨j,hj,hjg⟩:=O is Z c g (by simpa using J);exact⟨i,j,λe=>h1 (e▸hj),by rw[hi,I],hjg⟩
    |succ a=>
     cases c with
     |zero=>
      simp at J;obtain⟨j,hj,hjf⟩:=O is Z a f (by simpa using I);exact⟨j,i,λe=>h1 (e▸hj),hjf,by rw[hi,J]⟩
     |succ c=>exact ih Z a c f g Y (by simpa using I) (by simpa using J)
 refine⟨S.Nr,S.base,λa f hf=>?_,λa c f g M I J=>?_⟩
 ·obtain⟨i,_,hi⟩:=O is hn a f hf;exact S.all i f hi
 obtain⟨i,j,hij,hi,hj⟩:=key2 is hn a c f g M I J;exact S.sep i j f g hij hi hj
def St.del(i:Nat)(S:St B w0 w fs):St B w0 w (fs.eraseIdx i):=by
 have I:∀(a:Nat) (f:J8),(fs.eraseIdx i)[a]? =some f->fs[if a<i then a else a+1]? =some f:=by
  intro a f h;rw[getElem?_eraseIdx]at h
  split at h
  ·rename_i e;rw[if_pos e];exact h
  rename_i e;rw[if_neg e];exact h
 refine⟨S.Nr,S.base,λa f h=>S.all _ f (I a f h),λa c f g J M O=>S.sep _ _ f g ?_ (I a f M) (I c g O)⟩
 split<;>split<;>omega
def St.Mg{b:Nat}{row:Array Value}{t:TypeId}(i:Nat)(S:St B w0 w fs)(hi:fs[i]? =some (.Mg b row t)):gB w b row t:=(S.all i _ hi).2
def St.own{e:TypeId}{s:Nat}{v:Value}{n:Nat}{xs:List Value}(i:Nat)(S:St B w0 w fs)(hi:fs[i]? =some (.own e s v n xs)):w.ownsRow B e s v n xs:=S.all i _ hi
def St.rd{s:Nat}{A:Option Addr}{n:Nat}{xs:List Value}(i:Nat)(S:St B w0 w fs)(hi:fs[i]? =some (.rd s A n xs)):Rd w w.heap.size s A n xs:=(show Rd w B s A n xs from S.all i _ hi).more S.base
def St.Rn{e:TypeId}{s:Nat}{A:Option Addr}{c n:Nat}{xs:List Value}(i:Nat)(S:St B w0 w fs)(hi:fs[i]? =some (.own e s (.slice A n c) n xs)):Rd w w.heap.size s A n xs:=Rd.uf (S.own i hi)
def St.lt{b:Nat}{row:Array Value}{t:TypeId}(i:Nat)(S:St B w0 w fs)(hi:fs[i]? =some (.Mg b row t)):b<w.heap.size:=(S.Mg i hi).lt
def St.ge{b:Nat}{row:Array Value}{t:TypeId}(i:Nat)(S:St B w0 w fs)(hi:fs[i]? =some (.Mg b row t)):B<=b:=(S.all i _ hi).1
def J8.IE:J8->Bool
 | .rd .. =>false
 |_=>true
def J8.lower{f:J8}{C:Nat}(h:f.holds C w)(hf:f.IE=true)(I:B<=C):f.holds B w:=by
 cases f with
 |Mg b row t=>exact⟨Nat.le_trans I h.1,h.2⟩
 |own e s v n xs=>exact World.ownsRow.lower h I
 |rd s A n xs=>cases hf
 |loc b R=>exact⟨Nat.le_trans I h.1,h.2⟩
 |cZ s A n xs=>exact⟨h.1,λa M=>⟨Nat.le_trans I (h.2 a M).1,(h.2 a M).2⟩⟩
 |off e s A n c xs=>
  obtain⟨h1,O,Z,h|⟨g,o,J,e1,h4,h5⟩⟩:=h
  ·exact⟨h1,O,Z,.inl h⟩
  exact⟨h1,O,Z,.inr ⟨g,o,J,e1,Nat.le_trans I h4,h5⟩⟩
def St.ext{gs:List J8}(S:St B w0 w fs)(T:St w.heap.size w w' gs)(I:gs.all J8.IE=true):St B w0 w' (gs++fs):=by
 have M:=S.on T.Nr
 induction gs with
 |nil=>exact M
 |cons g gs O=>
  simp only[all_cons,Bool.and_eq_true]at I;refine(O T.cut I.2).cons (J8.lower (T.all 0 g E) I.1 S.base) λk J i g' h e=>?_;have h1:=(J8.nu (T.all 0 g E) J).1
  rcases Nat.lt_or_ge i gs.length with hi|hi
  ·rw[getElem?_append_left hi]at h;exact T.sep 0 (i+1) g g' Y E (by simpa using h) k J e
  rw[getElem?_append_right hi]at h;have:=(J8.nu (S.all _ g' h) e).2;omega
def St.cZ{s:Nat}{A:Option Addr}{n:Nat}{xs:List Value}(i:Nat)(S:St B w0 w fs)(hi:fs[i]? =some (.cZ s A n xs)):Rd w w.heap.size s A n xs:=(S.all i _ hi).1
def St.seal{e:TypeId}{s:Nat}{A:Option Addr}{c n:Nat}{xs:List Value}{A':Option Addr}{J:Nat}{xs':List Value}(i:Nat)(S:St B w0 w fs)(hi:fs[i]? =some (.own e s (.slice A n c) n xs))(Z:Rd w w.heap.size s A' J xs')
  (hA:∀h,A'=some h-> ∃a,A=some a/\a.block=h.block):St B w0 w (fs.set i (.cZ s A' J xs')):=by
 have M:∀h,A'=some h->(J8.own e s (.slice A n c) n xs).foot=some h.block:=λh I=>by
  obtain⟨a,h1,h2⟩:=hA h I;rw[h1,<-h2];rfl
 refine S.turn i hi S.Nr (Nat.le_refl _) (λ_ _ _=>E) ⟨Z,λh I=>J8.nu (S.all i _ hi) (M h I)⟩ λk O=>.inl ?_
 cases A' with
 |none=>cases O
 |some h=>cases O;exact M h E
def St.bJ{e:TypeId}{s:Nat}{A:Option Addr}{c n:Nat}{xs:List Value}(i:Nat)(S:St B w0 w fs)(hi:fs[i]? =some (.own e s (.slice A n c) n xs)):St B w0 w (fs.set i (.cZ s A n xs)):=
 S.seal i hi (S.Rn i hi) λa h=>⟨a,h,E⟩
def St.bring{f:J8}(i:Nat)(S:St B w0 w fs)(hi:fs[i]? =some f):St B w0 w (f::fs.eraseIdx i):=by
 refine(S.del i).cons (S.all i f hi) λk J j g I=>?_;have h:fs[if j<i then j else j+1]? =some g:=by
  rw[getElem?_eraseIdx]at I
  split at I
  ·rename_i e;rw[if_pos e];exact I
  rename_i e;rw[if_neg e];exact I
 exact S.sep i _ f g (by split<;>omega) hi h k J
end
abbrev Nj:=List (Nat×Value)
def lk:Nj->Nat->Option Value
 |[],_=>none
 |(t,v)::l,k=>bif beq t k then some v else lk l k
def ev(l:Nj):Operand->Option Value
 | .tmp t=>lk l t
 | .const v=>some v
 | .global g=>some (.pointer (some ⟨g,0,none⟩))
 | .func f=>some (.func (.func f) #[] #[])
def QB(l:Nj):List Operand->List Value->Prop
 |[],[]=>True
 |x::xs,v::vs=>ev l x=some v/\QB l xs vs
 |_,_=>False
def ents:Nat->List Value->Nj
 |_,[]=>[]
 |k,v::vs=>(k,v)::ents (k+1) vs
def Ma(l:Nj):Nj->Prop
 |[]=>True
 |(k,v)::r=>lk l k=some v/\Ma l r
structure Fr (N:Nat)(l:Nj)(a:Act):Prop where
 defers:a.defers=[]
 size:a.tmps.size=N
 get:∀k v,lk l k=some v->a.tmps[k]? =some v
section
variable {P:Program}{N:Nat}{l l':Nj}{a:Act}{w w' w0:World}{B:Nat}{fs:List J8}{ops:Array Oper}{o:Oper}{rest:List Oper}{Q:Exit->Act->World->Prop}{v u p:Value}{d:Nat}
def Fr.ev{x:Operand}(F:Fr N l a)(h:ev l x=some v):a.eval x=v:=by
 cases x with
 |tmp t=>
  have:=F.get t v h;simp[Act.eval,this]
 |const c=>simpa[Go.Proofs.YtefabpdniidmbaaGreatDoor.ev,Act.eval]using h
 |global g=>simpa[Go.Proofs.YtefabpdniidmbaaGreatDoor.ev,Act.eval]using h
 |func f=>simpa[Go.Proofs.YtefabpdniidmbaaGreatDoor.ev,Act.eval]using h
def Fr.Gs(F:Fr N l a):∀ {xs:List Operand} {vs:List Value},QB l xs vs->xs.map a.eval=vs
 |[],[],_=>rfl
 |x::xs,v::vs,h=>by
  rw[map_cons,F.ev h.1,F.Gs h.2]
 |[],_::_,h=>h.elim
 |_::_,[],h=>h.elim
def VO{k:Nat}:lk ((k,v)::l) k=some v:=by simp[lk]
def PL{t k:Nat}(h:t≠k):lk ((t,v)::l) k=lk l k:=by
 have:beq t k=false:=by
  cases e:beq t k
  ·rfl
  exact absurd (eq_of_beq_eq_true e) h
 simp[lk,this]
def Fr.put(F:Fr N l a)(J:blt d N=true)(v:Value):Fr N ((d,v)::l) (a.put (some d) v):=by
 have I:d<N:=by simpa[blt_eq]using J
 refine⟨F.defers,by simp[Act.put,F.size],λk u h=>?_⟩;simp only[Act.put];by_cases e:d=k
 ·subst e;rw[VO]at h;rw[Array.getElem?_setIfInBounds_self_of_lt (by rw[F.size];exact I)];exact h
 rw[PL e]at h;rw[Array.getElem?_setIfInBounds_ne e];exact F.get k u h
def ael:∀ {l':Nj},Ma l l'-> ∀k v,lk l' k=some v->lk l k=some v
 |[],_,k,v,h=>by cases h
 |(t,u)::r,hs,k,v,h=>by
  by_cases e:t=k
  ·subst e;rw[VO]at h
   cases h;exact hs.1
  rw[PL e]at h;exact ael hs.2 k v h
def Fr.sub(F:Fr N l a)(h:Ma l l'):Fr N l' a:=⟨F.defers,F.size,λk v I=>F.get k v (ael h k v I)⟩
def Zd:∀(vs:List Value) (m k:Nat) (v:Value),lk (ents m vs) k=some v->m<=k/\vs[k-m]? =some v
 |[],_,_,_,h=>by cases h
 |u::vs,m,k,v,h=>by
  by_cases e:m=k
  ·subst e;rw[ents,VO]at h;exact⟨Nat.le_refl _,by simpa using h⟩
  rw[ents,PL e]at h;obtain⟨h1,I⟩:=Zd vs (m+1) k v h;refine⟨by omega,?_⟩;rw[show k-m=(k-(m+1))+1 by omega];simpa using I
def Fr.enter(vs:List Value)(I:ble vs.length N=true):Fr N (ents 0 vs) {tmps:=vs.toArray++Array.replicate (N-vs.toArray.size) undef,defers:=[]}:=by
 have h:vs.length<=N:=by simpa using I
 refine⟨E,by simp;omega,λk v J=>?_⟩;have:=(Zd vs 0 k v J).2;simp only[Nat.sub_zero]at this;have M:k<vs.length:=(List.getElem?_eq_some_iff.1 this).1;rw[Array.getElem?_append_left (by simpa using M)];simpa using this
def wC(P:Program)(N:Nat)(c:Code)(Q:Exit->Act->World->Prop)(l:Nj)(w:World):Prop:= ∀a,Fr N l a->c.wp P Q a w
def wL(P:Program)(N:Nat)(ops:Array Oper)(Q:Exit->Act->World->Prop)(rest:List Oper)(l:Nj)(w:World):Prop:= ∀a,Fr N l a->wpList P ops Q rest a w
def wQ(N:Nat)(Q:Exit->Act->World->Prop)(e:Exit)(l:Nj)(w:World):Prop:= ∀a,Fr N l a->Q e a w
def Ht{f:FuncId}{fn:Func}{c:Code}{vs:List Value}{R:Ending->World->Prop}(I:P.funcs[f]? =some fn)(J:fn.body=some c)(hn:fn.ntmps=N)(M:ble vs.length N=true)
  (h:wC P N c (bodyPost P fn R) (ents 0 vs) w):Calls P f vs.toArray w R:=calls_of_wp I J (by rw[hn];exact h _ (Fr.enter vs M))
def aQ{x y:Code}(h:wC P N x (Exit.then (y.wp P Q) Q) l w):wC P N (.seq x y) Q l w:=λa F=>wp_seq (h a F)
def aC{id:Nat}{os:List Oper}(h:wL P N os.toArray Q os l w):wC P N (.region id os.toArray false) Q l w:=λa F=>wp_region_lit (h a F)
def mo{c:Operand}{x y:Code}(I:ev l c=some (.bool true))(h:wC P N x Q l w):wC P N (.cond c x y) Q l w:=λa F=>wp_cond_true (F.ev I) (h a F)
def mq{c:Operand}{x y:Code}(I:ev l c=some (.bool false))(h:wC P N y Q l w):wC P N (.cond c x y) Q l w:=λa F=>wp_cond_false (F.ev I) (h a F)
def EF{id:Nat}{c:Code}(h:wC P N c (Exit.inBlock id Q) l w):wC P N (.block id c) Q l w:=λa F=>wp_block (h a F)
def ajn{id:Nat}(h:wQ N Q (.exit id) l w):wC P N (.exit id) Q l w:=λa F=>wp_exit (h a F)
def qQ(h:wQ N Q .normal l w):wC P N .skip Q l w:=λa F=>wp_skip (h a F)
def oH(h:wQ N Q .ret l w):wC P N .ret Q l w:=λa F=>wp_ret (h a F)
def bI{c:Code}(hs:Ma l l')(h:wC P N c Q l' w):wC P N c Q l w:=λa F=>h a (F.sub hs)
def bX{e:Exit}(hs:Ma l l')(h:wQ N Q e l' w):wQ N Q e l w:=λa F=>h a (F.sub hs)
def iw{y:Code}(h:wC P N y Q l w):wQ N (Exit.then (y.wp P Q) Q) .normal l w:=h
def adO{K:Act->World->Prop}{id:Nat}(h:wQ N Q (.exit id) l w):wQ N (Exit.then K Q) (.exit id) l w:=h
def iB{K:Act->World->Prop}(h:wQ N Q .ret l w):wQ N (Exit.then K Q) .ret l w:=h
def iJ{id:Nat}(h:wQ N Q .normal l w):wQ N (Exit.inBlock id Q) .normal l w:=h
def XO{id:Nat}(h:wQ N Q .ret l w):wQ N (Exit.inBlock id Q) .ret l w:=h
def UA{id:Nat}(h:wQ N Q .normal l w):wQ N (Exit.inBlock id Q) (.exit id) l w:=λa F=>by
 show if id=id then _ else _
 rw[if_pos E];exact h a F
def fJ{X:Type}{c:Code}(L:X->Nj)(I:X->World->Prop)(m:X->Nat)(x0:X)(hI:I x0 w)(hs:Ma l (L x0))
  (M:∀x w,I x w->wC P N c (Exit.then (λZ w'=> ∃x',Fr N (L x') Z/\I x' w'/\m x'<m x) Q) (L x) w):wC P N (.loop c) Q l w:=by
 intro a F b k cs;have key:∀n x a w,m x=n->Fr N (L x) a->I x w-> ∃e Z w',Q e Z w'/\Arrives P (lone (b.at a (.code c:: .inLoop c::k)) cs w) b k cs e Z w':=by
  intro n
  induction n using Nat.strongRecOn with
  |_ n ih=>
   intro x a w hn hF hI;obtain⟨e,a₁,w₁,J,h⟩:=M x w hI a hF b (.inLoop c::k) cs
   cases e with
   |normal=>
    obtain⟨x',hF',hI',hlt⟩:=J;obtain⟨e₂,a₂,w₂,hq₂,O⟩:=ih (m x') (hn▸hlt) x' a₁ w₁ E hF' hI';exact⟨e₂,a₂,w₂,hq₂,.of_steps (Steps.trans h (.one step_inLoop)) O⟩
   |exit id=>exact⟨_,a₁,w₁,J,.pass (x:=.inLoop c) E (λ_ _=>.inl iQ) h⟩
   |goto l=>exact⟨_,a₁,w₁,J,.pass (x:=.inLoop c) E (λ_ _=>.inl iQ) h⟩
   |ret=>exact⟨_,a₁,w₁,J,.pass (x:=.inLoop c) E (λ_ _=>.inl iQ) h⟩
   |panic ch=>exact⟨_,a₁,w₁,J,.pass (x:=.inLoop c) E (λ_ _=>.inl iQ) h⟩
   |outgrown=>exact⟨_,a₁,w₁,J,.pass (x:=.inLoop c) E (λ_ _=>.inl iQ) h⟩
 obtain⟨e,Z,w',J,h⟩:=key _ x0 a w E (F.sub hs) hI;exact⟨e,Z,w',J,.of_steps (.one step_loop) h⟩
def bC{X:Type}{L:X->Nj}{I:X->World->Prop}{m:X->Nat}{x:X}(h:X)(J:I h w)(hs:Ma l (L h))(M:m h<m x):
 wQ N (Exit.then (λO w'=> ∃h,Fr N (L h) O/\I h w'/\m h<m x) Q) .normal l w:=λ_ F=>⟨h,F.sub hs,J,M⟩
def nD{x y:Code}{X:Type}(L:X->Nj)(I:X->World->Prop)(M:wC P N x (Exit.then (λO w'=> ∃J,Fr N (L J) O/\I J w') Q) l w)
  (Z:∀x w,I x w->wC P N y Q (L x) w):wC P N (.seq x y) Q l w:=aQ λa F=>wp_mono (M a F) λe a w h=>by
 cases e with
 |normal=>obtain⟨J,hF,hI⟩:=h;exact Z J w hI a hF
 |_=>exact h
def dM{X:Type}{L:X->Nj}{I:X->World->Prop}(h:X)(J:I h w)(hs:Ma l (L h)):wQ N (Exit.then (λM w'=> ∃h,Fr N (L h) M/\I h w') Q) .normal l w:=λ_ F=>⟨h,F.sub hs,J⟩
def MH(P:Program)(l:Nj)(w:World):List ResultVar->List Value->Prop
 |[],[]=>True
 | .tmp t::rs,v::vs=>lk l t=some v/\MH P l w rs vs
 | .cell t ty::rs,v::vs=>(∃ad,lk l t=some (.pointer (some ad))/\(loadVar ty ad).run P w=.ok v w)/\MH P l w rs vs
 |_,_=>False
def qH:List Value->Value
 |[v]=>v
 |vs=>.tuple vs.toArray
def NA(tmps:Array Value):ResultVar->Sem Value
 | .tmp t=>pure (tmps.getD t undef)
 | .cell ad t=>do loadVar t (<-asAddr (tmps.getD ad undef))
def afM(F:Fr N l a){t:Tmp}(h:lk l t=some v):(NA a.tmps (.tmp t)).run P w=.ok v w:=by
 have I:=F.get t v h;simp[NA,I]
def aaN(F:Fr N l a){t:Tmp}{ty:TypeId}{I:Addr}(h:lk l t=some (.pointer (some I)))(J:(loadVar ty I).run P w=.ok v w):(NA a.tmps (.cell t ty)).run P w=.ok v w:=by
 have M:=F.get t _ h;simp[NA,M,asAddr,J]
def Kh(F:Fr N l a):∀ {rs:List ResultVar} {vs:List Value},MH P l w rs vs->(rs.mapM (NA a.tmps)).run P w=.ok vs w
 |[],[],_=>rfl
 | .tmp t::rs,v::vs,h=>by
  have h1:=Kh F h.2;have I:=afM (P:=P) (w:=w) F h.1;rw[mapM_cons];simp only[Sem.run_bind,h1,I,Sem.run_pure,Result.andThen]
 | .cell t ty::rs,v::vs,h=>by
  obtain⟨⟨O,I,J⟩,M⟩:=h;have h1:=Kh F M;have I:=aaN F I J;rw[mapM_cons];simp only[Sem.run_bind,h1,I,Sem.run_pure,Result.andThen]
 |[],_::_,h=>h.elim
 | .tmp _::_,[],h=>h.elim
 | .cell _ _::_,[],h=>h.elim
def Hu{fn:Func}{rs:List ResultVar}{vs:List Value}(F:Fr N l a)(I:fn.results=rs.toArray)(h:MH P l w rs vs):(results fn a.tmps).run P w=.ok (qH vs) w:=by
 have h1:=Kh F h;have e:results fn a.tmps=(fn.results.mapM (NA a.tmps)) >>= λvs=>pure (if h:vs.size=1 then vs[0]else .tuple vs):=rfl;have J:(toArray <$> rs.mapM (NA a.tmps))=(rs.mapM (NA a.tmps)) >>= λx=>(pure x.toArray:Sem (Array Value)):=rfl;rw[e,I,mapM_toArray,J];simp only[Sem.run_bind,h1,Sem.run_pure,Result.andThen]
 match vs with
 |[]=>simp[qH]
 |[v]=>simp[qH]
 |v::u::vs=>simp[qH]
def dW{fn:Func}{R:Ending->World->Prop}{rs:List ResultVar}{vs:List Value}(I:fn.results=rs.toArray)(h:MH P l w rs vs)(J:R (.returned (qH vs)) w):wQ N (bodyPost P fn R) .ret l w:=
 λ_ F=>bodyPost_ret (Hu F I h) F.defers J
def NC{fn:Func}{R:Ending->World->Prop}{rs:List ResultVar}{vs:List Value}(I:fn.results=rs.toArray)(h:MH P l w rs vs)(J:R (.returned (qH vs)) w):wQ N (bodyPost P fn R) .normal l w:=
 λ_ F=>bodyPost_end (Hu F I h) F.defers J
def fB{b:Nat}{row:Array Value}{t ty:TypeId}{ds:TypeDesc}(i:Nat)(S:St B w0 w fs)(hi:fs[i]? =some (.Mg b row t))(h:P.underlying ty=some ds)(J:ds.isRow=true)(I:(P.info? ty).map (·.size)=some row.size):
 (loadVar ty ⟨b,0,none⟩).run P w=.ok (.agg row) w:=run_loadVar_row w b t ty row (0,0) ds (S.Mg i hi).Mg h (by cases ds<;>simp_all) I
end
end
def dn:Array Value->Nat->List Value->Array Value
 |cur,_,[]=>cur
 |cur,o,v::vs=>dn (cur.setIfInBounds o v) (o+1) vs
def nO:∀(vs:List Value) (h:Array Value) (o:Nat),(dn h o vs).size=h.size
 |[],_,_=>rfl
 |v::vs,h,o=>by rw[dn,nO vs];simp
def KY:∀(vs:List Value) (cur:Array Value) (o k:Nat),o+vs.length<=cur.size->(dn cur o vs)[k]? =if k<o then cur[k]? else if k<o+vs.length then vs[k-o]? else cur[k]?
 |[],cur,o,k,_=>by
  simp only[dn,length_nil,Nat.add_zero]
  split
  ·rfl
  rfl
 |v::vs,cur,o,k,h=>by
  simp only[length_cons]at h;rw[dn,KY vs _ _ _ jQ];by_cases h1:k<o
  ·rw[if_pos Y,if_pos h1,Array.getElem?_setIfInBounds_ne Y]
  by_cases J:k=o
  ·subst J;rw[if_pos Y,if_neg h1,if_pos iQ];rw[Array.getElem?_setIfInBounds_self_of_lt Y];simp
  rw[if_neg Y,if_neg h1];by_cases I:k<o+1+vs.length
  ·rw[if_pos I,if_pos jQ,show k-o=(k-(o+1))+1 by omega];simp
  rw[if_neg I,if_neg jQ,Array.getElem?_setIfInBounds_ne Y]
def iC(vs:List Value)(I:Array Value)(o:Nat)(h:o+vs.length<=I.size):(dn I o vs).toList=I.toList.take o++vs++I.toList.drop (o+vs.length):=by
 apply ext_getElem?;intro k;rw[Array.getElem?_toList,KY vs I o k h];have J:(I.toList.take o).length=o:=by simp;omega
 by_cases h1:k<o
 ·rw[if_pos h1,append_assoc,getElem?_append_left Y,getElem?_take_of_lt h1];simp
 rw[if_neg h1];by_cases M:k<o+vs.length
 ·rw[if_pos M,append_assoc,getElem?_append_right Y,getElem?_append_left Y,J]
 rw[if_neg M,getElem?_append_right jQ,getElem?_drop];simp only[length_append,J];rw[show o+vs.length+(k-(o+vs.length))=k by omega];simp
def jK{t:TypeId}:∀(vs:List Value) (o:Nat) {w:World} {g:Nat} {I:Array Value},gB w g I t->gB (w.setCells g o vs) g (dn I o vs) t
 |[],_,_,_,_,h=>h
 |v::vs,o,_,_,_,h=>jK vs (o+1) (h.wz o v)
def uF.refl(w:World)(g:Nat):uF w g w:=⟨E,E,E,E,λ_ _=>E⟩
def jL(g:Nat):∀(vs:List Value) (o:Nat) (w:World),uF w g (w.setCells g o vs)
 |[],_,w=>uF.refl w g
 |v::vs,o,w=>(ED w g o v).trans (jL g vs (o+1) _)
abbrev D (x:Int):Value:=.int .i64 x
abbrev pV (b o:Nat):Value:=.pointer (some ⟨b,o,none⟩)
abbrev aD (b o:Nat):Option Addr:=some ⟨b,o,none⟩
noncomputable abbrev tP:Program:=prog
section
open ChangeAt
def jr(P:Program)(N:Nat)(l:Nj)(o:Oper)(w:World)(v:Value):Prop:= ∀a,Fr N l a->(execOp a.eval o).run P w=.ok (.value v) w
def Does(P:Program)(N:Nat)(l:Nj)(o:Oper)(w:World)(v:Value)(w':World):Prop:= ∀a,Fr N l a->(execOp a.eval o).run P w=.ok (.value v) w'
def Eff(P:Program)(N:Nat)(l:Nj)(o:Oper)(w w':World):Prop:= ∀a,Fr N l a->(execOp a.eval o).run P w=.ok .skip w'
def Enter(P:Program)(N:Nat)(l:Nj)(o:Oper)(w:World)(f:FuncId)(vs:List Value):Prop:= ∀a,Fr N l a->(execOp a.eval o).run P w=.ok (.enter f vs.toArray) w
def Nq(N:Nat)(ops:Array Oper)(l:Nj)(o:Oper)(b:Bool):Prop:= ∀a,Fr N l a->Region.wanted o (yielded ops a.tmps)=b
def yl:Value->Option Bool
 | .bool b=>some b
 |_=>none
section
variable {P:Program}{N:Nat}{l l':Nj}{a:Act}{w w' w0:World}{B:Nat}{fs fs':List J8}{ops:Array Oper}{o:Oper}{rest:List Oper}{Q:Exit->Act->World->Prop}{v u p:Value}{d:Nat}
def wn(h:o.guard=none):Nq N ops l o true:=λa F=>by simp[Region.wanted,h]
def wg{j:Nat}{b r:Bool}{t:Nat}(h:o.guard=some (j,b))(I:(ops[j]?).bind (·.dst)=some t)(hv:lk l t=some v)(J:(yl v==some b)=r):Nq N ops l o r:=λa F=>by
 have h1:=F.get t v hv;have M:yielded ops a.tmps j=yl v:=by
  unfold yielded;rw[I];simp only[Option.bind_some,h1]
  cases v<;>rfl
 simp only[Region.wanted,h,M];exact J
def aem(h:wQ N Q .normal l w):wL P N ops Q [] l w:=h
def Fx(hw:Nq N ops l o true)(I:o.dst=some d)(J:blt d N=true)(M:jr P N l o w v)(h:wL P N ops Q rest ((d,v)::l) w):wL P N ops Q (o::rest) l w:=λa F=>wpList_step λK O=>by
 rw[if_pos (hw a F)];unfold Oper.wp;rw[M a F]
 show K (a.put o.dst v) w
 rw[I];exact O _ _ (h _ (F.put J v))
def QE(hw:Nq N ops l o true)(I:o.dst=some d)(J:blt d N=true)(M:Does P N l o w v w')(h:wL P N ops Q rest ((d,v)::l) w'):wL P N ops Q (o::rest) l w:=λa F=>wpList_step λK O=>by
 rw[if_pos (hw a F)];unfold Oper.wp;rw[M a F]
 show K (a.put o.dst v) w'
 rw[I];exact O _ _ (h _ (F.put J v))
def ND(hw:Nq N ops l o true)(I:o.dst=none)(J:Eff P N l o w w')(h:wL P N ops Q rest l w'):wL P N ops Q (o::rest) l w:=λa F=>wpList_step λK M=>by
 rw[if_pos (hw a F)];unfold Oper.wp;rw[J a F]
 show K (a.put o.dst undef) w'
 rw[I];exact M _ _ (h _ F)
def Ze(hw:Nq N ops l o false)(I:o.dst=some d)(J:blt d N=true)(h:wL P N ops Q rest ((d,undef)::l) w):wL P N ops Q (o::rest) l w:=λa F=>wpList_step λK M=>by
 rw[if_neg (by rw[hw a F];simp),I];exact M _ _ (h _ (F.put J undef))
def IL{f:FuncId}{vs:List Value}{R:Ending->World->Prop}(hw:Nq N ops l o true)(I:o.dst=some d)(J:blt d N=true)(he:Enter P N l o w f vs)(M:Calls P f vs.toArray w R)
  (h:∀e w',R e w'-> ∃v,e=.returned v/\wL P N ops Q rest ((d,v)::l) w'):wL P N ops Q (o::rest) l w:=λa F=>wpList_step λK O=>by
 rw[if_pos (hw a F)];unfold Oper.wp;rw[he a F];refine M.mono λe w' Z=>?_;obtain⟨v,rfl,hv⟩:=h e w' Z
 show K (a.put o.dst v) w'
 rw[I];exact O _ _ (hv _ (F.put J v))
def iY{f:FuncId}{xs:List Operand}{ts:Array TypeId}{vs:List Value}(I:o.op=.call {callee:=.value (.func f),args:=xs.toArray,argTypes:=ts})(h:∀args w,(callFunc f args).run P w=.ok (.enter f args) w)(J:QB l xs vs):Enter P N l o w f vs:=λa F=>by
 have h1:=F.Gs J;unfold execOp;simp only[I,resolve,Deferred.ofValue,invoke,Sem.run_bind,Sem.run_pure,Result.andThen_ok,map_toArray,h1,Act.eval];simp[h]
def aen{x:Operand}(h:o.op=.move x)(I:ev l x=some v):jr P N l o w v:=λa F=>by
 unfold execOp;simp only[h,F.ev I,Sem.run_pure]
def SB{x:Operand}(h:o.op=.assign x)(I:ev l x=some v):jr P N l o w v:=λa F=>by
 unfold execOp;simp only[h,F.ev I,Sem.run_pure]
def afN{c x y:Operand}(h:o.op=.pick c x y)(I:ev l c=some (.bool true))(J:ev l x=some v):jr P N l o w v:=λa F=>by
 unfold execOp;simp only[h,F.ev J,F.ev I,asBool,Sem.run_bind,Sem.run_pure,Result.andThen_ok,if_true]
def afO{c x y:Operand}(h:o.op=.pick c x y)(I:ev l c=some (.bool false))(J:ev l y=some v):jr P N l o w v:=λa F=>by
 unfold execOp;simp only[h,F.ev J,F.ev I,asBool,Sem.run_bind,Sem.run_pure,Result.andThen_ok];simp
def aj{t:TypeId}{x:Operand}(h:o.op=.load t x)(I:ev l x=some p)(J:(Instr.loadAt t p).run P w=.ok v w):jr P N l o w v:=λa F=>by
 unfold execOp;simp only[h,F.ev I,Sem.run_bind,J,Result.andThen_ok,Sem.run_pure]
def Hw{s:TypeId}{x:Operand}{f:Nat}(h:o.op=.fieldAddr s x f)(I:ev l x=some p)(J:(Instr.fieldAt s p f).run P w=.ok v w):jr P N l o w v:=λa F=>by
 unfold execOp;simp only[h,F.ev I,Sem.run_bind,J,Result.andThen_ok,Sem.run_pure]
def aM{s:TypeId}{x y:Operand}{q:Value}(h:o.op=.indexAddr s x y)(I:ev l x=some p)(J:ev l y=some q)(M:(Instr.indexAt s p q).run P w=.ok v w):jr P N l o w v:=λa F=>by
 unfold execOp;simp only[h,F.ev I,F.ev J,Sem.run_bind,M,Result.andThen_ok,Sem.run_pure]
def ajo{s:TypeId}{x y:Operand}{q:Value}(h:o.op=.index s x y)(I:ev l x=some p)(J:ev l y=some q)(M:(Instr.index s p q).run P w=.ok v w):jr P N l o w v:=λa F=>by
 unfold execOp;simp only[h,F.ev I,F.ev J,Sem.run_bind,M,Result.andThen_ok,Sem.run_pure]
def EvO(l:Nj):Option Operand->Option Value->Prop
 |none,none=>True
 |some x,some v=>ev l x=some v
 |_,_=>False
def Fr.evo(F:Fr N l a){x:Option Operand}{I:Option Value}(h:EvO l x I):x.map a.eval=I:=by
 cases x<;>cases I
 ·rfl
 ·exact h.elim
 ·exact h.elim
 simpa using F.ev h
def jZ{s:TypeId}{x:Operand}{lo hi mx:Option Operand}{h I J:Option Value}(M:o.op=.slice s x lo hi mx)(O:ev l x=some p)(h1:EvO l lo h)(Z:EvO l hi I)(h3:EvO l mx J)
  (hr:(Instr.sliceAt s p h I J).run P w=.ok v w):jr P N l o w v:=λa F=>by
 unfold execOp;simp only[M,F.ev O,F.evo h1,F.evo Z,F.evo h3,Sem.run_bind,hr,Result.andThen_ok,Sem.run_pure]
def bM{op:BinOp}{t I:TypeId}{x y:Operand}{q:Value}(J:o.op=.binOp op t x y I)(M:ev l x=some p)(O:ev l y=some q)(h:(do eqGuard op t x y p q;binOp op t p q:Sem Value).run P w=.ok v w):jr P N l o w v:=λa F=>by
 unfold execOp;simp only[J,F.ev M,F.ev O,Sem.run_bind]at h⊢;rw[h];simp only[Result.andThen_ok,Sem.run_pure]
def aeo{op:UnOp}{t:TypeId}{x:Operand}(h:o.op=.unOp op t x)(I:ev l x=some p)(J:(Op.unary op p).run P w=.ok v w):jr P N l o w v:=λa F=>by
 unfold execOp;simp only[h,F.ev I,Sem.run_bind,J,Result.andThen_ok,Sem.run_pure]
def Gv{s t:TypeId}{x:Operand}(h:o.op=.convert s t x)(I:ev l x=some p)(J:(convert s t p).run P w=.ok v w):jr P N l o w v:=λa F=>by
 unfold execOp;simp only[h,F.ev I,Sem.run_bind,J,Result.andThen_ok,Sem.run_pure]
def aaO{x:Operand}{k:Nat}{vs:Array Value}(h:o.op=.extract x k)(I:ev l x=some (.tuple vs))(J:vs[k]? =some v):jr P N l o w v:=λa F=>by
 unfold execOp;simp only[h,F.ev I,Instr.extract,Sem.run_bind,J];simp[Result.andThen]
def avE{x:Operand}(J:o.op=.nilCheck x)(M:ev l x=some p)(h:match p with | .pointer (some _)=>True | .func (.func _) _ _=>True | .func (.via ..) _ _=>True|_=>False):jr P N l o w p:=λa F=>by
 unfold execOp;simp only[J,F.ev M]
 cases p with
 |pointer I=>cases I with
  |none=>exact h.elim
  |some I=>rfl
 |func fn f c=>cases fn<;>first|rfl|exact h.elim
 |_=>exact h.elim
def nU{b:Builtin}{xs:List Operand}{ts:Array TypeId}{vs:List Value}(h:o.op=.call {callee:=.builtin b,args:=xs.toArray,argTypes:=ts})(I:QB l xs vs)
  (J:∀cs,(builtin b ts o.type cs vs.toArray).run P w=.ok (.value v) w):jr P N l o w v:=λa F=>by
 have h1:=F.Gs I;unfold execOp;simp only[h,resolve,invoke,Sem.run_bind,Sem.run_pure,Result.andThen_ok,map_toArray,h1,J]
def Gw{b:Builtin}{xs:List Operand}{ts:Array TypeId}{vs:List Value}(h:o.op=.call {callee:=.builtin b,args:=xs.toArray,argTypes:=ts})(I:QB l xs vs)
  (J:∀cs,(builtin b ts o.type cs vs.toArray).run P w=.ok (.value v) w'):Does P N l o w v w':=λa F=>by
 have h1:=F.Gs I;unfold execOp;simp only[h,resolve,invoke,Sem.run_bind,Sem.run_pure,Result.andThen_ok,map_toArray,h1,J]
def EvP(l:Nj):List (Nat×Operand)->List (Nat×Value)->Prop
 |[],[]=>True
 |(i,x)::xs,(j,v)::vs=>i=j/\ev l x=some v/\EvP l xs vs
 |_,_=>False
def Fr.evp(F:Fr N l a):∀ {xs:List (Nat×Operand)} {vs:List (Nat×Value)},EvP l xs vs->(xs.map λx=>(x.1,a.eval x.2))=vs
 |[],[],_=>rfl
 |(i,x)::xs,(j,v)::vs,h=>by
  obtain⟨rfl,h1,I⟩:=h;rw[map_cons,F.ev h1,F.evp I]
 |[],_::_,h=>h.elim
 |_::_,[],h=>h.elim
def Ed{t:TypeId}{xs:List (Nat×Operand)}{vs:List (Nat×Value)}(h:o.op=.build t xs.toArray)(I:EvP l xs vs)(J:(Instr.build t vs.toArray).run P w=.ok v w):jr P N l o w v:=λa F=>by
 have h1:=F.evp I;unfold execOp;simp only[h,map_toArray,h1,Sem.run_bind,J,Result.andThen_ok,Sem.run_pure]
def aV{t:TypeId}{n:Nat}{xs:List (Nat×Operand)}{vs:List (Nat×Value)}(h:o.op=.buildSlice t n xs.toArray)(I:EvP l xs vs)(J:(Instr.buildSlice t n vs.toArray).run P w=.ok v w'):Does P N l o w v w':=λa F=>by
 have h1:=F.evp I;unfold execOp;simp only[h,map_toArray,h1,Sem.run_bind,J,Result.andThen_ok,Sem.run_pure]
def jd{t:TypeId}{z:Value}{row:Array Value}(h:o.op=.alloc t)(I:(zeroValue t).run P w=.ok z w)(J:z.cells=row):Does P N l o w (.pointer (some ⟨w.heap.size,0,none⟩)) (w.alloc (.cells row t)):=λa F=>by
 subst J;unfold execOp;simp[h,Instr.alloc,I,newVar,newRow,Result.andThen,Sem.run_bind]
def ad1{t:TypeId}{x:Operand}{row:Array Value}(h:o.op=.box t x)(I:ev l x=some p)(J:p.cells=row):Does P N l o w (.pointer (some ⟨w.heap.size,0,none⟩)) (w.alloc (.cells row t)):=λa F=>by
 subst J;unfold execOp;simp[h,Instr.box,F.ev I,newVar,newRow,Result.andThen,Sem.run_bind]
def Hy{t:TypeId}{x y:Operand}{q:Value}(h:o.op=.makeSlice t x y)(I:ev l x=some p)(J:ev l y=some q)(M:(Instr.makeSlice t p q).run P w=.ok v w'):Does P N l o w v w':=λa F=>by
 unfold execOp;simp only[h,F.ev I,F.ev J,Sem.run_bind,M,Result.andThen_ok,Sem.run_pure]
def NH{t:TypeId}(h:o.op=.makeMap t none)(I:(Instr.makeMap t none).run P w=.ok v w'):Does P N l o w v w':=λa F=>by
 unfold execOp;simp only[h,Option.map_none,Sem.run_bind,I,Result.andThen_ok,Sem.run_pure]
def PN{t:TypeId}{x y:Operand}{q:Value}(h:o.op=.store t x y)(I:ev l x=some p)(J:ev l y=some q)(M:(Instr.storeAt t p q).run P w=.ok () w'):Eff P N l o w w':=λa F=>by
 unfold execOp;simp only[h,F.ev I,F.ev J,Sem.run_bind,M,Result.andThen_ok,Sem.run_pure]
def UC{t:TypeId}{m x y:Operand}{q r:Value}(h:o.op=.mapUpdate t m x y)(I:ev l m=some p)(J:ev l x=some q)(M:ev l y=some r)(O:(Instr.mapUpdate t p q r).run P w=.ok () w'):Eff P N l o w w':=λa F=>by
 unfold execOp;simp only[h,F.ev I,F.ev J,F.ev M,Sem.run_bind,O,Result.andThen_ok,Sem.run_pure]
section runs
variable {t s:TypeId}{xo yo:Operand}{k:IntKind}{x y:Int}
def Zf(h:x<y):(do eqGuard .lss t xo yo (.int k x) (.int k y);binOp .lss t (.int k x) (.int k y):Sem Value).run P w=.ok (.bool true) w:=by simp[binOp,Op.intCmp,h,eqGuard_lss]
def Zg(h:¬x<y):(do eqGuard .lss t xo yo (.int k x) (.int k y);binOp .lss t (.int k x) (.int k y):Sem Value).run P w=.ok (.bool false) w:=by simp[binOp,Op.intCmp,eqGuard_lss];omega
def ajp(h:x<=y):(do eqGuard .leq t xo yo (.int k x) (.int k y);binOp .leq t (.int k x) (.int k y):Sem Value).run P w=.ok (.bool true) w:=by simp[binOp,Op.intCmp,h,eqGuard_leq]
def ajq(h:¬x<=y):(do eqGuard .leq t xo yo (.int k x) (.int k y);binOp .leq t (.int k x) (.int k y):Sem Value).run P w=.ok (.bool false) w:=by simp[binOp,Op.intCmp,eqGuard_leq];omega
def ajr(h:y<x):(do eqGuard .gtr t xo yo (.int k x) (.int k y);binOp .gtr t (.int k x) (.int k y):Sem Value).run P w=.ok (.bool true) w:=by simp[binOp,Op.intCmp,h,eqGuard_gtr]
def ajs(h:¬y<x):(do eqGuard .gtr t xo yo (.int k x) (.int k y);binOp .gtr t (.int k x) (.int k y):Sem Value).run P w=.ok (.bool false) w:=by simp[binOp,Op.intCmp,eqGuard_gtr];omega
def ajt(h:y<=x):(do eqGuard .geq t xo yo (.int k x) (.int k y);binOp .geq t (.int k x) (.int k y):Sem Value).run P w=.ok (.bool true) w:=by simp[binOp,Op.intCmp,h,eqGuard_geq]
def aju(h:¬y<=x):(do eqGuard .geq t xo yo (.int k x) (.int k y);binOp .geq t (.int k x) (.int k y):Sem Value).run P w=.ok (.bool false) w:=by simp[binOp,Op.intCmp,eqGuard_geq];omega
def Zh(h:x=y):(do eqGuard .eql t xo yo (.int k x) (.int k y);binOp .eql t (.int k x) (.int k y):Sem Value).run P w=.ok (.bool true) w:=by simp[binOp,Op.intCmp,h,eqGuard_at_int]
def Zi(h:¬x=y):(do eqGuard .eql t xo yo (.int k x) (.int k y);binOp .eql t (.int k x) (.int k y):Sem Value).run P w=.ok (.bool false) w:=by simp[binOp,Op.intCmp,h,eqGuard_at_int]
def Zj(h:¬x=y):(do eqGuard .neq t xo yo (.int k x) (.int k y);binOp .neq t (.int k x) (.int k y):Sem Value).run P w=.ok (.bool true) w:=by simp[binOp,Op.intCmp,h,eqGuard_at_int]
def PO(h:x=y):(do eqGuard .neq t xo yo (.int k x) (.int k y);binOp .neq t (.int k x) (.int k y):Sem Value).run P w=.ok (.bool false) w:=by simp[binOp,Op.intCmp,h,eqGuard_at_int]
def avF:(do eqGuard .gtr t xo yo (.int k x) (.int k y);binOp .gtr t (.int k x) (.int k y):Sem Value).run P w=.ok (.bool (decide (y<x))) w:=by simp[binOp,Op.intCmp,eqGuard_gtr]
def Rs{z:Int}(h: -9223372036854775808<=z)(h1:z<=9223372036854775807):IntKind.i64.wrap z=z:=IntWalk.i64_in _ ⟨h,h1⟩
def ad2{z:Int}(I:x+y=z)(h: -9223372036854775808<=z/\z<=9223372036854775807):(do eqGuard .add t xo yo (D x) (D y);binOp .add t (D x) (D y):Sem Value).run P w=.ok (D z) w:=by
 subst I;simp[binOp,Op.intArith,eqGuard_add,Rs h.1 h.2]
def avG{z:Int}(I:x-y=z)(h: -9223372036854775808<=z/\z<=9223372036854775807):(do eqGuard .sub t xo yo (D x) (D y);binOp .sub t (D x) (D y):Sem Value).run P w=.ok (D z) w:=by
 subst I;simp[binOp,Op.intArith,eqGuard_sub,Rs h.1 h.2]
def avH{b:Bool}:(Op.unary .not (.bool b)).run P w=.ok (.bool (!b)) w:=by simp[Op.unary]
def aml{A:Option Addr}{n c:Nat}{e:TypeId}{ts:Array TypeId}{ty:TypeId}{cs:Array Bool}(h:ts= #[t])(I:P.underlying t=some (.slice e)):(builtin .len ts ty cs #[.slice A n c]).run P w=.ok (.value (D n)) w:=by
 subst h;simp[builtin,Builtin.len_,run_underlying I,goInt,Result.andThen]
def rT{I:Addr}{ds:TypeDesc}(J:P.underlying t=some ds)(O:ds.isRow=false)(M:w.cell? I=some v):(Instr.loadAt t (.pointer (some I))).run P w=.ok v w:=by
 have h:(isAgg t).run P w=.ok false w:=by
  unfold isAgg;rw[Sem.run_bind,run_underlying J w]
  cases ds<;>simp_all
 simp[Instr.loadAt,Instr.sureAddr,loadVar,Sem.run_bind,h,Result.andThen,M]
def rD{b off m:Nat}{cs:List Value}{ds:TypeDesc}(h:P.underlying t=some ds)(I:ds.isRow=true)(hi:(P.info? t).map (·.size)=some m)(J:cs.length=m)(M:w.rangeAt b off cs):(Instr.loadAt t (.pointer (some ⟨b,off,none⟩))).run P w=.ok (.agg cs.toArray) w:=
 run_loadAt_mid w b off t cs ds M h I (by rw[J];exact hi)
def dP{b off:Nat}{cs:List Value}(h:w.rangeAt b off cs)(I:(P.underlying t).map (·.isRow)=some true:=by kernel_rfl)(hi:(P.info? t).map (·.size)=some cs.length:=by kernel_rfl):(Instr.loadAt t (.pointer (some ⟨b,off,none⟩))).run P w=.ok (.agg cs.toArray) w:=by
 obtain⟨q,J,M⟩:=Option.map_eq_some_iff.1 I;exact rD J M hi E h
def aG{h:Addr}(I:w.cell? h=some v)(J:(P.underlying t).map (·.isRow)=some false:=by kernel_rfl):(Instr.loadAt t (.pointer (some h))).run P w=.ok v w:=by
 obtain⟨q,M,O⟩:=Option.map_eq_some_iff.1 J;exact rT M O I
def l6{b:Nat}{row:Array Value}{tt:TypeId}{ds:TypeDesc}{m:Nat}(i:Nat)(S:St B w0 w fs)(hi:fs[i]? =some (.Mg b row tt))(h:P.underlying t=some ds)(I:ds.isRow=true)(J:(P.info? t).map (·.size)=some m)(M:row.size=m):(Instr.loadAt t (.pointer (some ⟨b,0,none⟩))).run P w=.ok (.agg row) w:=by
 simp only[Instr.loadAt,Instr.sureAddr,Sem.run_bind,Sem.run_pure,Result.andThen_ok,fB i S hi h I (by rw[M];exact J)]
def PS{b off m:Nat}{cs:Array Value}(hv:v.cells=cs)(J:(P.info? t).map (·.size)=some m)(O:cs.size=m)(h1:∀u∈cs.toList,u.oneCell'=true)(M:w.there b off m):(Instr.storeAt t (.pointer (some ⟨b,off,none⟩)) v).run P w=.ok () (w.setCells b off cs.toList):=by
 subst O;have:=run_storeCells_cells (P:=P) b off cs.toList 0 w (λj h=>by simpa using(M j (by simpa using h)).1) (λj h=>by simpa using(M j (by simpa using h)).2) h1
 cases I:P.info? t with
 |none=>simp[I]at J
 |some i=>
  have hs:cs.size=i.size:=by simp[I]at J;omega
  simp only[Nat.add_zero]at this;simp[Instr.storeAt,Instr.sureAddr,storeVar,Sem.run_bind,sizeOf,typeInfo,I,hv,hs,this,Result.andThen]
end runs
end
end
def uh:Value->Value->Bool
 | .int _ a,.int _ b=>a==b
 | .bool a,.bool b=>a==b
 | .string a,.string b=>a.toList==b.toList
 |_,_=>false
def eD:List Value->List Value->Bool
 |[],[]=>true
 |a::l,b::k=>uh a b&&eD l k
 |_,_=>false
def vK:∀ {l l' k I:List Value},l.length=l'.length->eD (l++k) (l'++I)=(eD l l'&&eD k I)
 |[],[],_,_,_=>by simp[eD]
 |a::l,b::l',k,I,h=>by
  simp only[cons_append,eD];rw[vK (by simpa using h),Bool.and_assoc]
 |[],_::_,_,_,h=>by simp at h
 |_::_,[],_,_,h=>by simp at h
def EG(P:Program):Nat->TypeId->Bool
 | 0,_=>false
 |n+1,t=>
  match P.underlying t with
  |some (.int _)|some .bool|some .string=>true
  |some (.struct fs)=> !P.stoodInHeld t&&fs.toList.all λf=>f.name != "_" &&EG P n f.type
  |some (.array _ e)=>EG P n e
  |_=>false
def Kd(v:Value):Sh->Prop
 | .at_ (.int k)=> ∃n,v=.int k n
 | .at_ .bool=> ∃b,v=.bool b
 | .at_ .str=> ∃s,v=.string s
 | .sl _ _=>False
def Fy(u:TypeDesc)(n:Nat):Prop:=match u with | .struct _=>True | .array _ _=>True|_=>n=1
def mkV(P:Program)(t:TypeId)(xs:List Value):Value:=
 match P.underlying t with
 |some (.struct _)|some (.array _ _)=>.agg xs.toArray
 |_=>xs.headD undef
section
variable {P:Program}(w:World)
def sP{t:TypeId}{u:TypeDesc}(I:P.underlying t=some u){xs:List Value}{off:Nat}(h:off+P.cellsOf t<=xs.length)(h1:Fy u (P.cellsOf t)):
 (part t xs.toArray off).run P w=.ok (mkV P t ((xs.drop off).take (P.cellsOf t))) w:=by
  have hi:∃i,P.info? t=some i:=by
    unfold Program.underlying at I
    cases J:P.info? t with
    |none=>simp[J]at I
    |some i=>exact⟨i,E⟩
  obtain⟨i,hi⟩:=hi;have M:P.cellsOf t=i.size:=by simp[Program.cellsOf,hi]
  have Z:(xs.toArray.extract off (off+i.size))=((xs.drop off).take i.size).toArray:=by
    simp[extract_toArray]
  have plain:P.cellsOf t=1->(xs.toArray[off]?)=some (((xs.drop off).take (P.cellsOf t)).headD undef):=by
    intro h1;rw[h1];have:off<xs.length:=Y;have e:(xs.drop off).take 1=[xs[off]]:=by rw[drop_eq_getElem_cons this];rfl
    rw[e];simp[this]
  unfold part isAgg mkV
  cases u<;>simp only[Fy]at h1<;>first
    | (have O:=plain h1
       simp only[Sem.run_bind,run_underlying I,Result.andThen_ok,Sem.run_pure,Bool.false_eq_true,if_false,O,I])
    | (simp only [Sem.run_bind,run_underlying I,Result.andThen_ok,Sem.run_pure,if_true,I,sizeOf,typeInfo,M]
       simp[hi])
def KZ{n:Nat}{t:TypeId}{l:List Sh}(h:flat P (n+1) t=some l):∃u,P.underlying t=some u/\Fy u l.length:=by
  unfold flat at h
  cases I:P.underlying t with
  |none=>simp[I]at h
  |some u=>
    refine⟨u,E,?_⟩;unfold Fy
    cases u<;>simp only[I]at h<;>first
      |trivial
      |(simp at h;done)
      |(simp at h;subst h;rfl)
      | (simp only [Option.bind_eq_some_iff] at h
         obtain⟨a,_,b,_,h⟩:=h
         split at h
         · simp at h;subst h;rfl
         · simp at h)
def EH{xs:List Value}:∀ {l k:List Sh},dZ Kd xs (l++k)->dZ Kd (xs.take l.length) l/\dZ Kd (xs.drop l.length) k:=by
 intro l
 induction l generalizing xs with
 |nil=>intro k h;exact⟨by simp[dZ],by simpa using h⟩
 |cons s l I=>
  intro k h;obtain⟨a,l1,rfl,J,M⟩:=dZ.xA h;obtain⟨O,Z⟩:=I M;exact⟨⟨J,O⟩,Z⟩
def EqT(P:Program)(d:Nat)(t:TypeId)(l:List Sh):Prop:=
 ∀(w:World) (xs ys:List Value),dZ Kd xs l->dZ Kd ys l->(Op.equalIn d t (mkV P t xs) (mkV P t ys)).run P w=.ok (eD xs ys) w
def K3{d:Nat}{xs ys:List Value}:∀(fs:List Field) (ls:List (List Sh)) (o:Nat),oM P fs ls o=true->
  (∀(i:Nat) (f:Field) (l:List Sh),fs[i]? =some f->ls[i]? =some l->f.name≠ "_" /\EqT P d f.type l/\ ∃u,P.underlying f.type=some u/\Fy u l.length)->
  o<=xs.length->o<=ys.length->dZ Kd (xs.drop o) ls.flatten->dZ Kd (ys.drop o) ls.flatten->
  (Op.eqFields d xs.toArray ys.toArray fs).run P w=.ok (eD (xs.drop o) (ys.drop o)) w
 |[],[],o,_,_,_,_,hx,hy=>by
  rw[dZ.xO hx,dZ.xO hy];simp[Op.eqFields,eD]
 |f::fs,l::ls,o,h,hp,ox,oy,hx,hy=>by
  simp only[oM,Bool.and_eq_true,beq_iff_eq]at h;obtain⟨⟨h1,h2⟩,h3⟩:=h;obtain⟨hn,he,u,hu,hu1⟩:=hp 0 f l E E;simp only[flatten_cons]at hx hy;obtain⟨I,J⟩:=EH hx;obtain⟨M,O⟩:=EH hy;rw[drop_drop]at J O;have hlx:o+l.length<=xs.length:=by
   have Z:=I.len;simp only[length_take,length_drop]at Z;omega
  have hly:o+l.length<=ys.length:=by
   have Z:=M.len;simp only[length_take,length_drop]at Z;omega
  have hr:=K3 fs ls (o+l.length) h3 (λi f' l' hf hl=>hp (i+1) f' l' (by simpa using hf) (by simpa using hl)) hlx hly J O;have hu2:Fy u (P.cellsOf f.type):=by
   rw[h2];exact hu1
  have p1:=sP (P:=P) w hu (xs:=xs) (off:=f.offset) Y hu2;have p2:=sP (P:=P) w hu (xs:=ys) (off:=f.offset) Y hu2;rw[h1,h2]at p1 p2;have p3:=he w _ _ I M;have Z:eD (xs.drop o) (ys.drop o)=(eD ((xs.drop o).take l.length) ((ys.drop o).take l.length)&&eD (xs.drop (o+l.length)) (ys.drop (o+l.length))):=by
   rw[<-drop_drop,<-drop_drop,<-vK jQ,take_append_drop,take_append_drop]
  simp only[Op.eqFields,hn,ne_eq,not_false_eq_true,if_true,Sem.run_bind,h1,p1,p2,p3,Result.andThen_ok];rw[Z]
  cases hb:eD ((xs.drop o).take l.length) ((ys.drop o).take l.length)
  ·simp
  simpa using hr
 |[],_::_,_,h,_,_,_,_,_=>by simp[oM]at h
 |_::_,[],_,h,_,_,_,_,_=>by simp[oM]at h
def NI{d:Nat}{e:TypeId}{l:List Sh}{xs ys:List Value}(he:EqT P d e l)(J:P.cellsOf e=l.length){u:TypeDesc}(hu:P.underlying e=some u)
  (O:Fy u l.length):∀(m i:Nat),
  dZ Kd (xs.drop (i*l.length)) (replicate m l).flatten->dZ Kd (ys.drop (i*l.length)) (replicate m l).flatten->
  (Op.eqItems d e (P.cellsOf e) xs.toArray ys.toArray (range' i m)).run P w=.ok (eD (xs.drop (i*l.length)) (ys.drop (i*l.length))) w
 | 0,i,hx,hy=>by
  rw[dZ.xO hx,dZ.xO hy];simp[Op.eqItems,eD]
 |m+1,i,hx,hy=>by
  rw[replicate_succ,flatten_cons]at hx hy;obtain⟨Z,h⟩:=EH hx;obtain⟨hy1,I⟩:=EH hy;rw[drop_drop,<-succ_mul]at h I;have hr:=NI he J hu O m (i+1) h I;have M:Fy u (P.cellsOf e):=by
   rw[J];exact O
  have hlx:i*l.length+l.length<=xs.length\/l.length=0:=by
   have e1:=Z.len;simp only[length_take,length_drop]at e1;omega
  have hly:i*l.length+l.length<=ys.length\/l.length=0:=by
   have e1:=hy1.len;simp only[length_take,length_drop]at e1;omega
  by_cases h0:l.length=0
  ·have hl:l=[]:=eq_nil_of_length_eq_zero h0;subst hl;have hz:(replicate m ([]:List Sh)).flatten=[]:=by simp
   rw[hz]at h I;simp only[length_nil,Nat.mul_zero,drop_zero]at*;have ex:=dZ.xO h;have ey:=dZ.xO I;subst ex;subst ey;have p1:=sP (P:=P) w hu (xs:=[]) (off:=0) (by rw[J];simp) M;simp only[drop_nil,take_nil]at p1;have p3:=he w [] [] trivial trivial;simp only[range'_succ,Op.eqItems,Sem.run_bind,J,Nat.mul_zero,p1,p3,Result.andThen_ok];rw[J]at hr;simpa[eD]using hr
  have p1:=sP (P:=P) w hu (xs:=xs) (off:=i*l.length) Y M;have p2:=sP (P:=P) w hu (xs:=ys) (off:=i*l.length) Y M;rw[J]at p1 p2;have p3:=he w _ _ Z hy1;have e1:eD (xs.drop (i*l.length)) (ys.drop (i*l.length))=(eD ((xs.drop (i*l.length)).take l.length) ((ys.drop (i*l.length)).take l.length)&&eD (xs.drop ((i+1)*l.length)) (ys.drop ((i+1)*l.length))):=by
   rw[succ_mul,<-drop_drop,<-drop_drop,<-vK jQ,take_append_drop,take_append_drop]
  simp only[range'_succ,Op.eqItems,Sem.run_bind,J,p1,p2,p3,Result.andThen_ok];rw[e1];rw[J]at hr
  cases hb:eD ((xs.drop (i*l.length)).take l.length) ((ys.drop (i*l.length)).take l.length)
  ·simp
  simpa using hr
def NJ:∀(n:Nat) (t:TypeId) (l:List Sh) (d:Nat),flat P n t=some l->EG P n t=true->n<=d->EqT P d t l
 | 0,_,_,_,h,_,_=>by simp[flat]at h
 |n+1,t,l,0,_,_,h=>by omega
 |n+1,t,l,d+1,hf,ho,hd=>by
  intro w xs ys hx hy;unfold flat at hf;unfold EG at ho
  cases J:P.underlying t with
  |none=>simp[J]at hf
  |some u=>
   cases u<;>simp only[J]at hf ho<;>try (simp at hf;done)
   case bool=>
    simp at hf;subst hf;obtain⟨a,l1,rfl,⟨p,rfl⟩,h2⟩:=dZ.xA hx;obtain⟨b,l2,rfl,⟨q,rfl⟩,O⟩:=dZ.xA hy;rw[dZ.xO h2,dZ.xO O];simp[mkV,J,Op.equalIn,run_underlying J,eD,uh]
   case int k=>
    simp at hf;subst hf;obtain⟨a,l1,rfl,⟨p,rfl⟩,h2⟩:=dZ.xA hx;obtain⟨b,l2,rfl,⟨q,rfl⟩,O⟩:=dZ.xA hy;rw[dZ.xO h2,dZ.xO O];simp[mkV,J,Op.equalIn,run_underlying J,eD,uh]
   case string=>
    simp at hf;subst hf;obtain⟨a,l1,rfl,⟨p,rfl⟩,h2⟩:=dZ.xA hx;obtain⟨b,l2,rfl,⟨q,rfl⟩,O⟩:=dZ.xA hy;rw[dZ.xO h2,dZ.xO O];simp[mkV,J,Op.equalIn,run_underlying J,eD,uh,beq_toListBytes]
   case slice e=>simp at ho
   case array m e=>
    simp only[Option.bind_eq_some_iff]at hf;obtain⟨le,hle,I⟩:=hf
    split at I
    ·rename_i M
     simp only[Bool.and_eq_true,beq_iff_eq]at M;simp at I;subst I;have ih:=NJ n e le d hle ho Y;have hn:∃k,n=k+1:=by
      cases n with
      |zero=>simp[flat]at hle
      |succ k=>exact⟨k,E⟩
     obtain⟨k,rfl⟩:=hn;obtain⟨u,hue,hu1⟩:=KZ hle;have hi:∃i,P.info? e=some i:=by
      unfold Program.underlying at hue
      cases hh:P.info? e with
      |none=>simp[hh]at hue
      |some i=>exact⟨i,E⟩
     obtain⟨i,hi⟩:=hi;have h:=NI (P:=P) w ih M.1 hue hu1 (xs:=xs) (ys:=ys) m 0 (by simpa using hx) (by simpa using hy);simp only[mkV,J];rw[run_equalIn_array w d _ _ J hi,range_eq_range',h];simp
    simp at I
   case struct fs=>
    simp only[Option.bind_eq_some_iff]at hf;obtain⟨ls,hls,I⟩:=hf
    split at I
    ·rename_i M
     simp only[Bool.and_eq_true,beq_iff_eq]at M;simp at I;subst I;simp only[Bool.and_eq_true,Bool.not_eq_true',all_eq_true,bne_iff_ne,ne_eq]at ho;have hfs:P.fieldsOf t=fs:=by simp[Program.fieldsOf,J]
     have h:=K3 (P:=P) w (d:=d) (xs:=xs) (ys:=ys) fs.toList ls 0 M.1 (λi f l' hfi hli=>by
      have Z:f∈fs.toList:=mem_of_getElem? hfi;have O:=mapM_some_get hls i f hfi;rw[hli]at O;have hn:∃k,n=k+1:=by
       cases n with
       |zero=>simp[flat]at O
       |succ k=>exact⟨k,E⟩
      obtain⟨k,rfl⟩:=hn;exact⟨(ho.2 f Z).1,NJ (k+1) f.type l' d O (ho.2 f Z).2 Y,KZ O⟩) (zero_le _) (zero_le _) (by simpa using hx) (by simpa using hy)
     simp only[mkV,J];rw[run_equalIn_struct w d t _ _ (by rw[hfs];exact J) ho.1,hfs,h];simp
    simp at I
def xu{t:TypeId}{l:List Sh}(J:flat P 30 t=some l)(M:EG P 30 t=true)(I:∀xs,mkV P t xs=.agg xs.toArray){xs ys:List Value}(O:dZ Kd xs l)(Z:dZ Kd ys l):
 (binOp .eql t (.agg xs.toArray) (.agg ys.toArray)).run P w=.ok (.bool (eD xs ys)) w:=by
 rw[run_eql_struct];have h:=NJ 30 t l 10000 J M Y w xs ys O Z;rw[I,I]at h;rw[h];rfl
def sI{t:TypeId}{l:List Sh}(J:flat P 30 t=some l)(M:EG P 30 t=true)(I:∀xs,mkV P t xs=.agg xs.toArray){xs ys:List Value}(O:dZ Kd xs l)(Z:dZ Kd ys l):
 (binOp .neq t (.agg xs.toArray) (.agg ys.toArray)).run P w=.ok (.bool (!eD xs ys)) w:=by
 rw[run_neq_struct];have h:=NJ 30 t l 10000 J M Y w xs ys O Z;rw[I,I]at h;rw[h];rfl
end
structure Ev where
 kind:Int
 Mr:Int
 id:Int
 body:Int
 MF:Int
 Nc:Int
 deriving DecidableEq
def Ev.cells(e:Ev):List Value:=[D e.kind,D e.Mr,D e.id,D e.body,D e.MF,D e.Nc]
def Ev.afP(a b:Ev):eD a.cells b.cells=decide (a=b):=by
 obtain⟨a1,a2,a3,a4,a5,a6⟩:=a;obtain⟨b1,b2,b3,b4,b5,b6⟩:=b;simp only[Ev.cells,eD,uh,Ev.mk.injEq,Bool.and_true];rw[Bool.eq_iff_iff];simp
def asy:List Sh:=[.at_ (.int .i64),.at_ (.int .i64),.at_ (.int .i64),.at_ (.int .i64),.at_ (.int .i64),.at_ (.int .i64)]
def ajv:flat prog 30 49=some asy:=kQ
def ajw:EG prog 30 49=true:=kQ
def apk(xs:List Value):mkV prog 49 xs=.agg xs.toArray:=by
 unfold mkV;rw[underlying49]
def Ev.kd(a:Ev):dZ Kd a.cells asy:=⟨⟨_,E⟩,⟨_,E⟩,⟨_,E⟩,⟨_,E⟩,⟨_,E⟩,⟨_,E⟩,trivial⟩
def rE(a b:Ev)(w:World):(binOp .neq 49 (.agg #[D a.kind,D a.Mr,D a.id,D a.body,D a.MF,D a.Nc])
  (.agg #[D b.kind,D b.Mr,D b.id,D b.body,D b.MF,D b.Nc])).run prog w=.ok (.bool (!decide (a=b))) w:=by
 rw[<-Ev.afP];exact sI (P:=prog) w ajv ajw apk a.kd b.kd
def Ev.val(e:Ev):Value:=.agg #[D e.kind,D e.Mr,D e.id,D e.body,D e.MF,D e.Nc]
section
open ChangeAt
section
variable {P:Program}{N:Nat}{l l':Nj}{a:Act}{w w' w0:World}{B:Nat}{fs fs':List J8}{ops:Array Oper}{o:Oper}{rest:List Oper}{Q:Exit->Act->World->Prop}{v u p:Value}{d:Nat}
def mV{V:Nat->Value}{row:Array Value}{t:TypeId}(S:St B w0 w fs)(hw:Nq N ops l o true)(I:o.dst=some d)(J:blt d N=true)(M:Does P N l o w (V w.heap.size) (w.alloc (.cells row t)))
  (h:∀b w',St B w0 w' (.Mg b row t::fs)->wL P N ops Q rest ((d,V b)::l) w'):wL P N ops Q (o::rest) l w:=QE hw I J M (h _ _ S.alloc)
def St.afQ{row:Array Value}{t:TypeId}{n s:Nat}(S:St B w0 w fs)(hs:row.size=n*s)(hn:n<=maxLen):St B w0 (w.alloc (.cells row t)) (.own t s (.slice (some ⟨w.heap.size,0,none⟩) n n) n row.toList::fs):=
 S.uG ((Below.refl _ _).alloc (Nat.le_refl _) _) (Zc w row t n s hs hn)
def qX{V:Nat->Value}{row:Array Value}{t:TypeId}{n s:Nat}{xs:List Value}(S:St B w0 w fs)(hw:Nq N ops l o true)(I:o.dst=some d)(J:blt d N=true)(M:Does P N l o w (V w.heap.size) (w.alloc (.cells row t)))
  (hs:row.size=n*s) (hn:n<=maxLen) (O:row.toList=xs) (h:∀b w',St B w0 w' (.own t s (.slice (some ⟨b,0,none⟩) n n) n xs::fs)->wL P N ops Q rest ((d,V b)::l) w'):wL P N ops Q (o::rest) l w:=by
 subst O;exact QE hw I J M (h _ _ (S.afQ hs hn))
def St.nil(S:St B w0 w fs)(e:TypeId)(s:Nat):St B w0 w (.own e s (.slice none 0 0) 0 []::fs):=S.cons (jk _ _ _ _) λk h=>by cases h
def St.there{b:Nat}{row:Array Value}{t:TypeId}(i:Nat)(S:St B w0 w fs)(hi:fs[i]? =some (.Mg b row t))(off m:Nat)(h:off+m<=row.size):w.there b off m:=λj J=>by
 have I:=S.Mg i hi;exact⟨by rw[I.cell (k:=off+j) (Array.getElem?_eq_getElem Y)];rfl,I.free _⟩
def Fz{ty t:TypeId}{x y:Operand}{b off m:Nat}{cs row row':Array Value}(i:Nat)(S:St B w0 w fs)(hw:Nq N ops l o true)(M:o.dst=none)(O:o.op=.store ty x y)(Z:ev l x=some (.pointer (some ⟨b,off,none⟩)))(hy:ev l y=some v)
  (hi:fs[i]? =some (.Mg b row t)) (hv:v.cells=cs) (hz:(P.info? ty).map (·.size)=some m) (hm:cs.size=m) (h1:∀u∈cs.toList,u.oneCell'=true) (hr:off+m<=row.size) (I:dn row off cs.toList=row') (J:fs.set i (.Mg b row' t)=fs')
  (h:∀w',St B w0 w' fs'->wL P N ops Q rest l w'):wL P N ops Q (o::rest) l w:=by
 subst I;subst J;exact ND hw M (PN O Z hy (PS hv hz hm h1 (S.there i hi off m hr))) (h _ (S.set i hi (jL b cs.toList off w) (jK cs.toList off (S.Mg i hi))))
def dU{x y:Operand}{t e:TypeId}{z:Value}{size bytes n m c Br:Nat}{A:Option Addr}{xs news xs':List Value}{sv:Value}(i:Nat)(S:St B w0 w fs)(hw:Nq N ops l o true)(hd:o.dst=some d)(hN:blt d N=true)
  (ho:o.op=.call {callee:=.builtin .append,args:= #[x,y],argTypes:= #[t,t]}) (hx:ev l x=some sv) (hy:ev l y=some (.slice A m c)) (hi:fs[i]? =some (.own e size sv n xs)) (hr:Rd w Br size A m news)
  (ht:P.underlying t=some (.slice e)) (J:(P.info? e).map (λi=>(i.zero,i.size,i.bytes))=some (some z,size,bytes)) (O:z.cells.size=size) (Z:0<size) (h1:∀u∈news,u.oneCell'=true) (h63:n+m<=maxLen) (I:(n+m)*bytes<=140737488355328)
  (hxs:xs++news=xs') (h:∀A' c' w',n+m<=c'->c'<=maxLen->St B w0 w' (fs.set i (.own e size (.slice A' (n+m) c') (n+m) xs'))->wL P N ops Q rest ((d,.slice A' (n+m) c')::l) w'):wL P N ops Q (o::rest) l w:=by
 subst hxs;obtain⟨j0,hj0,hz,hs,hb⟩:=info_parts J;obtain⟨v',w',M,h2,h3,h4⟩:=vI (P:=P) w B t o.type e j0 z size bytes ht hj0 hz hs hb O Z sv n xs (S.own i hi) Br A m c news hr h1 h63 I S.base;obtain⟨A',c',rfl,hc1,hc2⟩:=mY h2;exact QE hw hd hN (Gw (xs:=[x,y]) (vs:=[sv,.slice A m c]) ho ⟨hx,hy,trivial⟩ (λcs=>by simp[builtin,M,Sem.run_bind,Result.andThen])) (h A' c' w' hc1 hc2 (S.append i hi h3 h2 h4))
def St.mD{b n s:Nat}{row:Array Value}{t:TypeId}{xs:List Value}(i:Nat)(S:St B w0 w fs)(hi:fs[i]? =some (.Mg b row t))(I:row.toList=xs)(J:xs.length=n*s):Rd w w.heap.size s (some ⟨b,0,none⟩) n xs:=
 ⟨J,λ_=>⟨b,0,E,S.lt i hi,λj u h=>by
  rw[Nat.zero_add];exact(S.Mg i hi).cell (by rw[<-I]at h;simpa using h)⟩⟩
def Rd.addr{B s n:Nat}{A:Option Addr}{xs:List Value}(h:Rd w B s A n xs)(hn:0<n):∃b off,A=some ⟨b,off,none⟩:=by
 obtain⟨b,off,e,_⟩:=h.2 hn;exact⟨b,off,e⟩
def Rd.cl{B s n b off j:Nat}{xs:List Value}(h:Rd w B s (some ⟨b,off,none⟩) n xs)(I:xs[j]? =some v):w.cell? ⟨b,off+j,none⟩=some v:=by
 have M:j<xs.length:=(List.getElem?_eq_some_iff.1 I).1;have hn:0<n:=by
  rcases eq_zero_or_pos n with e|e
  ·rw[h.1,e]at M;omega
  exact e
 obtain⟨b',J,e,_,O⟩:=h.2 hn;simp only[Option.some.injEq,Addr.mk.injEq,and_true]at e;obtain⟨rfl,rfl⟩:=e;exact O j v I
def Rd.rg{B s n b off j m:Nat}{xs cs:List Value}(h:Rd w B s (some ⟨b,off,none⟩) n xs)(I:∀i u,cs[i]? =some u->xs[j+i]? =some u):w.rangeAt b (off+j) cs:=λi u J=>by
 rw[Nat.add_assoc];exact h.cl (I i u J)
def St.rg{b off:Nat}{row:Array Value}{t:TypeId}{cs:List Value}(i:Nat)(S:St B w0 w fs)(hi:fs[i]? =some (.Mg b row t))(h:∀j u,cs[j]? =some u->row[off+j]? =some u):w.rangeAt b off cs:=λj u I=>(S.Mg i hi).cell (h j u I)
def St.cl{b k:Nat}{row:Array Value}{t:TypeId}(i:Nat)(S:St B w0 w fs)(hi:fs[i]? =some (.Mg b row t))(h:row[k]? =some v):w.cell? ⟨b,k,none⟩=some v:=(S.Mg i hi).cell h
def rF{row cs:Array Value}(h:row.size=cs.size):dn row 0 cs.toList=cs:=by
 apply Array.toList_inj.1;rw[iC _ _ _ jQ];simp only[take_zero,nil_append,Nat.zero_add,Array.length_toList];rw[drop_of_length_le jQ,append_nil]
def ajx{L cs:List Value}{x m:Nat}(h:(L.drop x).take m=cs):∀(j:Nat) (u:Value),cs[j]? =some u->L[x+j]? =some u:=by
 intro j u I;subst h;have J:j<m:=by
  have:=(List.getElem?_eq_some_iff.1 I).1;rw[length_take]at this;omega
 rw[getElem?_take_of_lt J,getElem?_drop]at I;exact I
def mE{row:Array Value}{cs:List Value}{x m:Nat}(h:(row.toList.drop x).take m=cs):∀(j:Nat) (u:Value),cs[j]? =some u->row[x+j]? =some u:=by
 intro j u I;have:=ajx h j u I;simpa using this
def Rd.cl2{B s n b off j i:Nat}{xs:List Value}(h:Rd w B s (some ⟨b,off,none⟩) n xs)(I:xs[j+i]? =some v):w.cell? ⟨b,off+j+i,none⟩=some v:=by
 rw[Nat.add_assoc];exact h.cl I
def Rd.wZ{B s n b off j:Nat}{xs cs:List Value}(h:Rd w B s (some ⟨b,off,none⟩) n xs)(I:∀i u,cs[i]? =some u->xs[j+i]? =some u):w.rangeAt b (off+j) cs:=h.rg (m:=0) I
def bY{cs:List Value}(h:cs.all (·.oneCell')=true):∀u∈cs,u.oneCell'=true:=by simpa using h
def bE{α:Type}{enc:α->List Value}{sz:Nat}(I:∀x,(enc x).length=sz):∀ {l:List α} {k:Nat} {x:α} {j:Nat} {u:Value},l[k]? =some x->(enc x)[j]? =some u->(l.flatMap enc)[k*sz+j]? =some u
 |[],k,x,j,u,h,_=>by simp at h
 |y::l,0,x,j,u,h,J=>by
  simp at h;subst h;rw[flatMap_cons,Nat.zero_mul,Nat.zero_add,getElem?_append_left (List.getElem?_eq_some_iff.1 J).1];exact J
 |y::l,k+1,x,j,u,h,J=>by
  have M:j<sz:=by have:=(List.getElem?_eq_some_iff.1 J).1;rw[I]at this;exact this
  rw[flatMap_cons,getElem?_append_right (by rw[I,succ_mul];omega),I,show(k+1)*sz+j-sz=k*sz+j by rw[succ_mul];omega];exact bE I (by simpa using h) J
def iL{α:Type}{enc:α->List Value}{sz:Nat}(h:∀x,(enc x).length=sz)(l:List α):(l.flatMap enc).length=l.length*sz:=by
 induction l with
 |nil=>simp
 |cons y l I=>rw[flatMap_cons,length_append,I,h,length_cons,succ_mul];omega
def jP{t e:TypeId}{b off n c s:Nat}{i:Int}{kd:IntKind}(k:Nat)(O:P.underlying t=some (.slice e))(M:(P.info? e).map (·.size)=some s)(I:i=k)(Z:k<n):
 (Instr.indexAt t (.slice (some ⟨b,off,none⟩) n c) (.int kd i)).run P w=.ok (.pointer (some ⟨b,off+k*s,none⟩)) w:=by
 subst I;obtain⟨q,hq,hs⟩:∃q,P.info? e=some q/\q.size=s:=by
  cases h:P.info? e with
  |none=>simp[h]at M
  |some q=>exact⟨q,E,by simpa[h]using M⟩
 have J:(0:Int)<=k/\(k:Int)<n:=Y;simp[Instr.indexAt,asIntOf,Sem.run_bind,run_underlying O,Result.andThen,J,Z,sizeOf,typeInfo,hq,hs,Go.WideShapes.add_plain]
def fU{t e:TypeId}{b off n s:Nat}{i:Int}{kd:IntKind}(k:Nat)(O:P.underlying t=some (.array n e))(M:(P.info? e).map (·.size)=some s)(I:i=k)(Z:k<n):
 (Instr.indexAt t (.pointer (some ⟨b,off,none⟩)) (.int kd i)).run P w=.ok (.pointer (some ⟨b,off+k*s,none⟩)) w:=by
 subst I;obtain⟨q,hq,hs⟩:∃q,P.info? e=some q/\q.size=s:=by
  cases h:P.info? e with
  |none=>simp[h]at M
  |some q=>exact⟨q,E,by simpa[h]using M⟩
 have J:(0:Int)<=k/\(k:Int)<n:=Y;simp[Instr.indexAt,asIntOf,Sem.run_bind,run_underlying O,Result.andThen,J,Z,sizeOf,typeInfo,hq,hs,Go.WideShapes.add_plain,Instr.sureAddr]
def wU(P:Program)(N:Nat)(ops:Array Oper)(C:World->Prop)(Qa:Act->Prop)(rest:List Oper)(l:Nj):Prop:= ∀a,Fr N l a->wpQuiet P ops C Qa rest a
def fu{id:Nat}{os:List Oper}(S:St B w0 w fs)(I:P.follows .mixedOrders=true)(J:Region.lexB .any os.toArray=true)
  (h:wU P N os.toArray (λw'=>St B w0 w' fs) (λM=> ∀w',St B w0 w' fs->Q .normal M w') os l):wC P N (.region id os.toArray true) Q l w:=λa F=>
 wp_region_quiet (C:=λw'=>St B w0 w' fs) I J S.drew (by simpa using h a F)
def NK{C:World->Prop}{Qa:Act->Prop}(hw:Nq N ops l o true)(I:o.dst=some d)(J:blt d N=true)(M:∀w,C w->jr P N l o w v)(h:wU P N ops C Qa rest ((d,v)::l)):wU P N ops C Qa (o::rest) l:=λa F=>by
 unfold wpQuiet;rw[if_pos (hw a F)];refine⟨v,λw O=>?_,by rw[I];exact h _ (F.put J v)⟩;unfold Oper.quietAt;rw[M w O a F];exact⟨E,E⟩
def ajy{C:World->Prop}{Qa:Act->Prop}(hw:Nq N ops l o false)(I:o.dst=some d)(J:blt d N=true)(h:wU P N ops C Qa rest ((d,undef)::l)):wU P N ops C Qa (o::rest) l:=λa F=>by
 unfold wpQuiet;rw[if_neg (by rw[hw a F];simp),I];exact h _ (F.put J undef)
def Zk{C:World->Prop}{Qa:Act->Prop}{f:FuncId}{vs:List Value}(hw:Nq N ops l o true)(I:o.dst=some d)(J:blt d N=true)(he:∀w,Enter P N l o w f vs)(M:∀w,C w->Calls P f vs.toArray w λe w'=>e=.returned v/\C w')
  (h:wU P N ops C Qa rest ((d,v)::l)):wU P N ops C Qa (o::rest) l:=λa F=>by
 unfold wpQuiet;rw[if_pos (hw a F)];refine⟨v,λw O=>?_,by rw[I];exact h _ (F.put J v)⟩;unfold Oper.quietAt;rw[he w a F];exact⟨E,M w O⟩
def eP(h:∀w',St B w0 w' fs->wQ N Q .normal l w'):wU P N ops (λw'=>St B w0 w' fs) (λI=> ∀w',St B w0 w' fs->Q .normal I w') [] l:=λa F w' S=>h w' S a F
def wA(P:Program)(N:Nat)(ops:Array Oper)(Q:Exit->Act->World->Prop)(C:World->Prop)(n:Nat)(listed:Array Bool)(l:Nj)(w:World):Prop:= ∀a,Fr N l a->wpAnyH P .any ops (NoPanic Q) C n listed a w
def apl{id:Nat}{os:List Oper}{C:World->Prop}(I:P.follows .mixedOrders=true)(h:wA P N os.toArray Q C os.toArray.size (Array.replicate os.toArray.size false) l w.drew):wC P N (.region id os.toArray true) Q l w:=λa F=>
 wp_region_noPanic (wp_region_held I (h a F))
def Bg{C:World->Prop}{n i:Nat}{listed listed':Array Bool}(hi:ops[i]? =some o)(hs:Region.noSelect ops=true)(I:Region.free .any ops listed i=true)(J:(Region.ready .any ops listed).contains i=true)(M:C w)
  (O:listed.setIfInBounds i true=listed') (hw:Nq N ops l o true) (Z:o.dst=some d) (hN:blt d N=true) (hy:∀w,C w->jr P N l o w v) (h:wA P N ops Q C n listed' ((d,v)::l) w):wA P N ops Q C (n+1) listed l w:=λa F=>by
 subst O;refine wpAnyH_take hi hs I J (λc a w h=>h) (.inl ⟨hw a F,λw hC=>hy w hC a F⟩) M ?_;rw[Z];exact h _ (F.put hN v)
def Bh{C:World->Prop}{n i:Nat}{listed listed':Array Bool}(hi:ops[i]? =some o)(hs:Region.noSelect ops=true)(I:Region.free .any ops listed i=true)(J:(Region.ready .any ops listed).contains i=true)(M:C w)
  (O:listed.setIfInBounds i true=listed') (hw:Nq N ops l o false) (Z:o.dst=some d) (hN:blt d N=true) (h:wA P N ops Q C n listed' ((d,undef)::l) w):wA P N ops Q C (n+1) listed l w:=λa F=>by
 subst O;refine wpAnyH_take (v:=undef) hi hs I J (λc a w h=>h) (.inr ⟨hw a F,E⟩) M ?_;rw[Z];exact h _ (F.put hN undef)
def wN(P:Program)(N:Nat)(ops:Array Oper)(Q:Exit->Act->World->Prop)(i:Nat)(l:Nj)(w:World)(K:Act->World->Prop):Prop:= ∀a,Fr N l a->wpOp P ops (NoPanic Q) i K a w
def ajz{C:World->Prop}{n:Nat}{listed:Array Bool}(I:Region.ready .any ops listed=[])(h:wQ N Q .normal l w):wA P N ops Q C n listed l w:=λa F=>wpAnyH_done I (NoPanic.normal (h a F)) n
def amm{C:World->Prop}{n i:Nat}{listed listed':Array Bool}(hi:ops[i]? =some o)(I:listed.setIfInBounds i true=listed')(hw:Nq N ops l o true)(J:o.dst=some d)(M:blt d N=true)(O:Does P N l o w v w')(Z:C w')(h:wA P N ops Q C n listed' ((d,v)::l) w'):
 wN P N ops Q i l w (λa' w'=>C w'/\wpAnyH P .any ops (NoPanic Q) C n (listed.setIfInBounds i true) a' w'):=λa F=>by
 subst I;unfold wpOp;simp only[hi];rw[if_pos (hw a F)];refine .inl ?_;unfold Oper.wp;rw[O a F];refine⟨Z,?_⟩;rw[J];exact h _ (F.put M v)
def apm{C:World->Prop}{n i:Nat}{listed listed':Array Bool}(hi:ops[i]? =some o)(I:listed.setIfInBounds i true=listed')(hw:Nq N ops l o true)(J:o.dst=none)(M:Eff P N l o w w')(O:C w')(h:wA P N ops Q C n listed' l w'):
 wN P N ops Q i l w (λZ w'=>C w'/\wpAnyH P .any ops (NoPanic Q) C n (listed.setIfInBounds i true) Z w'):=λa F=>by
 subst I;unfold wpOp;simp only[hi];rw[if_pos (hw a F)];refine .inl ?_;unfold Oper.wp;rw[M a F];refine⟨O,?_⟩;rw[J];exact h _ F
def ajA{C:World->Prop}{n i:Nat}{listed listed':Array Bool}{f:FuncId}{vs:List Value}{R:Ending->World->Prop}(hi:ops[i]? =some o)(I:listed.setIfInBounds i true=listed')(hw:Nq N ops l o true)(J:o.dst=some d)(M:blt d N=true)(he:Enter P N l o w f vs)(O:Calls P f vs.toArray w R)
  (h:∀e w',R e w'-> ∃v,e=.returned v/\C w'/\wA P N ops Q C n listed' ((d,v)::l) w'):
  wN P N ops Q i l w (λZ w'=>C w'/\wpAnyH P .any ops (NoPanic Q) C n (listed.setIfInBounds i true) Z w'):=λa F=>by
 subst I;unfold wpOp;simp only[hi];rw[if_pos (hw a F)];refine .inl ?_;unfold Oper.wp;rw[he a F];refine O.mono λe w' hr=>?_;obtain⟨v,rfl,hC,hv⟩:=h e w' hr;refine⟨hC,?_⟩;rw[J];exact hv _ (F.put M v)
def IQ{id n:Nat}{os:List Oper}{C:World->Prop}{listed:Array Bool}(I:P.follows .mixedOrders=true)(hn:os.length=n)(J:Array.replicate n false=listed)(h:wA P N os.toArray Q C n listed l w.drew):wC P N (.region id os.toArray true) Q l w:=by
 subst hn;subst J;exact apl I (by simpa using h)
def wK(P:Program)(N:Nat)(ops:Array Oper)(Q:Exit->Act->World->Prop)(C:World->Prop)(n i:Nat)(listed:Array Bool)(l:Nj)(w:World):Prop:=wN P N ops Q i l w (λa' w'=>C w'/\wpAnyH P .any ops (NoPanic Q) C n (listed.setIfInBounds i true) a' w')
def PU{C:World->Prop}{n:Nat}{listed:Array Bool}{r:Nat}{rs:List Nat}(I:Region.ready .any ops listed=r::rs)(h:∀i∈r::rs,wK P N ops Q C n i listed l w):wA P N ops Q C (n+1) listed l w:=λa F=>
 wpAnyH_all I iQ λi hi=>h i hi a F
def apn{C:World->Prop}{n:Nat}{listed:Array Bool}{r:Nat}(I:Region.ready .any ops listed=[r])(h:wK P N ops Q C n r listed l w):wA P N ops Q C (n+1) listed l w:=PU I λi hi=>by
 rcases mem_singleton.1 hi with rfl
 exact h
def iG{C:World->Prop}{n:Nat}{listed:Array Bool}{r s:Nat}(I:Region.ready .any ops listed=[r,s])(h:wK P N ops Q C n r listed l w)(J:wK P N ops Q C n s listed l w):wA P N ops Q C (n+1) listed l w:=PU I λi hi=>by
 rcases mem_cons.1 hi with rfl|hi
 ·exact h
 rcases mem_singleton.1 hi with rfl
 exact J
def SC{C:World->Prop}{n:Nat}{listed:Array Bool}{r s t:Nat}(J:Region.ready .any ops listed=[r,s,t])(h:wK P N ops Q C n r listed l w)(M:wK P N ops Q C n s listed l w)(I:wK P N ops Q C n t listed l w):wA P N ops Q C (n+1) listed l w:=PU J λi hi=>by
 rcases mem_cons.1 hi with rfl|hi
 ·exact h
 rcases mem_cons.1 hi with rfl|hi
 ·exact M
 rcases mem_singleton.1 hi with rfl
 exact I
section
variable {C:World->Prop}{n i:Nat}{listed listed':Array Bool}
def ji(hi:ops[i]? =some o)(I:listed.setIfInBounds i true=listed')(hw:Nq N ops l o true)(J:o.dst=some d)(M:blt d N=true)(O:jr P N l o w v)(h:C w/\wA P N ops Q C n listed' ((d,v)::l) w):wK P N ops Q C n i listed l w:=
 amm hi I hw J M O h.1 h.2
def kg{V:Nat->Value}{row:Array Value}{t:TypeId}(hi:ops[i]? =some o)(I:listed.setIfInBounds i true=listed')(S:St B w0 w fs)(hw:Nq N ops l o true)(J:o.dst=some d)(M:blt d N=true)(O:Does P N l o w (V w.heap.size) (w.alloc (.cells row t)))
  (h:∀b w',St B w0 w' (.Mg b row t::fs)->C w'/\wA P N ops Q C n listed' ((d,V b)::l) w'):wK P N ops Q C n i listed l w:=
 amm hi I hw J M O (h _ _ S.alloc).1 (h _ _ S.alloc).2
def uH{ty t:TypeId}{x y:Operand}{b off m:Nat}{cs row row':Array Value}(J:ops[i]? =some o)(Z:listed.setIfInBounds i true=listed')(j:Nat)(S:St B w0 w fs)(hw:Nq N ops l o true)(hd:o.dst=none)(ho:o.op=.store ty x y)(hx:ev l x=some (.pointer (some ⟨b,off,none⟩)))(hy:ev l y=some v)
  (hi:fs[j]? =some (.Mg b row t)) (hv:v.cells=cs) (hz:(P.info? ty).map (·.size)=some m) (hm:cs.size=m) (h1:∀u∈cs.toList,u.oneCell'=true) (hr:off+m<=row.size) (I:dn row off cs.toList=row') (M:fs.set j (.Mg b row' t)=fs')
  (h:∀w',St B w0 w' fs'->C w'/\wA P N ops Q C n listed' l w'):wK P N ops Q C n i listed l w:=by
 subst I;subst M;have O:=h _ (S.set j hi (jL b cs.toList off w) (jK cs.toList off (S.Mg j hi)));exact apm J Z hw hd (PN ho hx hy (PS hv hz hm h1 (S.there j hi off m hr))) O.1 O.2
def uX{f:FuncId}{vs:List Value}{R:Ending->World->Prop}(hi:ops[i]? =some o)(I:listed.setIfInBounds i true=listed')(hw:Nq N ops l o true)(J:o.dst=some d)(M:blt d N=true)(he:Enter P N l o w f vs)(O:Calls P f vs.toArray w R)
  (h:∀e w',R e w'-> ∃v,e=.returned v/\C w'/\wA P N ops Q C n listed' ((d,v)::l) w'):wK P N ops Q C n i listed l w:=ajA hi I hw J M he O h
end
end
section
variable {P:Program}{ops:Array Oper}{Q:Exit->Act->World->Prop}{C:World->Prop}{n:Nat}
def CG(P:Program)(ops:Array Oper)(Q:Exit->Act->World->Prop)(C:World->Prop)(n:Nat):Nat->Array Bool->Act->World->Prop
 | 0,listed,a,w=>Region.ready .any ops listed=[]/\Q .normal a w
 |fuel+1,listed,a,w=>
  (Region.ready .any ops listed=[]->Q .normal a w)/\
  ∀i∈Region.ready .any ops listed,wpOp P ops Q i (λa' w'=>((listed.setIfInBounds i true).getD n true=false->C w')/\CG P ops Q C n fuel (listed.setIfInBounds i true) a' w') a w
def K4:∀(I:Nat) (listed:Array Bool) (a:Act) (w:World),CG P ops Q C n I listed a w->wpAny P .any ops Q I listed a w
 | 0,_,_,_,h=>h
 |I+1,_,_,_,h=>⟨h.1,λi hi=>wpOp_mono (λJ w' M=>K4 I _ J w' M.2) (h.2 i hi)⟩
def xP(ops:Array Oper)(n i:Nat):Bool:=match ops[n]? with|none=>false|some o=>o.after.any λe=>Region.binds .any e&&e.on==i
def aaq{i:Nat}{listed:Array Bool}(hw:xP ops n i=true)(hi:listed.getD i true=false):n ∉ Region.ready .any ops listed:=by
 intro M;obtain⟨_,o,O,h⟩:=mem_ready.1 M;unfold xP at hw;rw[O]at hw;obtain⟨e,he,I⟩:=Array.any_eq_true'.1 hw;simp only[Bool.and_eq_true,beq_iff_eq]at I;have h1:=h e he I.1;rw[I.2]at h1
 rcases Nat.lt_or_ge i listed.size with J|J
 ·simp[J]at hi h1;rw[hi]at h1;cases h1
 simp[Array.getElem?_eq_none J]at hi
def FB{i:Nat}{oi:Oper}{v:Value}(hi:ops[i]? =some oi)(hsel:∀(j:Nat) (o:Oper) cs b,ops[j]? =some o->o.op≠ .select cs b)
  (hQ:∀c a w,Q (.panic c) (a.put oi.dst v) w->Q (.panic c) a w) (hni:xP ops n i=true) (hne:n≠i):
  ∀(J:Nat) (listed:Array Bool) (a:Act) (w:World),
   (∀j oj,ops[j]? =some oj->j≠i->listed.getD j true=false->(∀e∈oj.after,Region.binds .any e=true->e.on≠i)->oi.apart ops oj=true)->
   i∈Region.ready .any ops listed->listed.getD n true=false->YieldsIf P ops C oi v a->C w->
   CG P ops Q C n J (listed.setIfInBounds i true) (a.put oi.dst v) w->CG P ops Q C n (J+1) listed a w:=by
 intro J
 induction J with
 |zero=>
  intro listed a w _ hr hnl hy hS H;refine⟨λh=>(by rw[h]at hr;cases hr),λj hj=>?_⟩;by_cases I:j=i
  ·subst I;exact hy.wpOp hi hS ⟨λ_=>hS,H⟩
  have:=ready_mono hj I;rw[H.1]at this
  cases this
 |succ J ih=>
  intro listed a w M hr hnl hy hS H;refine⟨λh=>(by rw[h]at hr;cases hr),λj hj=>?_⟩;by_cases I:j=i
  ·subst I;exact hy.wpOp hi hS ⟨λ_=>hS,H⟩
  have h1:=H.2 j (ready_mono hj I);obtain⟨hjun,oj,hoj,hall⟩:=mem_ready.1 hj;have O:=(mem_ready.1 hr).1;have avI:listed.getD i true=false:=by
   rcases Nat.lt_or_ge i listed.size with h'|h'
   ·simp[h']at O⊢;exact O
   simp[Array.getElem?_eq_none h']at O
  have hjn:j≠n:=λe=>aaq hni avI (e▸hj);have hnot:∀e∈oj.after,Region.binds .any e=true->e.on≠i:=λe he hb heq=>by
   have h1:=hall e he hb;have h0:=(mem_ready.1 hr).1;rw[heq]at h1
   rcases Nat.lt_or_ge i listed.size with h'|h'
   ·simp[h']at h0 h1;rw[h0]at h1;cases h1
   simp[Array.getElem?_eq_none h']at h0
  have h2:=wpOp_putIf hoj (M j oj hoj I hjun hnot) (λcs b=>hsel i oi cs b hi) (λcs b=>hsel j oj cs b hoj) hQ hy h1;have Z:∀k ok,ops[k]? =some ok->k≠i->(listed.setIfInBounds j true).getD k true=false->
    (∀e∈ok.after,Region.binds .any e=true->e.on≠i)->oi.apart ops ok=true:=λk ok hk hki hun Nc=>by
   refine M k ok hk hki ?_ Nc;by_cases hjk:j=k
   ·subst hjk;exact hjun
   rw[getD_set_ne true hjk]at hun;exact hun
  have asz:(listed.setIfInBounds j true).getD n true=false:=by rw[getD_set_ne true hjn];exact hnl
  refine wpOp_mono (λa' w' h3=>?_) h2;have hC:C w':=h3.2.1 (by rw[Array.setIfInBounds_comm _ _ (Ne.symm I),getD_set_ne true (Ne.symm hne)];exact asz);refine⟨λ_=>hC,ih (listed.setIfInBounds j true) a' w' Z (ready_mono hr (Ne.symm I)) asz h3.1 hC ?_⟩;rw[Array.setIfInBounds_comm _ _ I];exact h3.2.2
def Dw:∀(l:List Oper) (k:Nat) (listed:Array Bool) (a:Act) (w:World),(∀j,l[j]? =ops[k+j]?)->(listed.setIfInBounds k true).getD n true=true\/l=[]->(listed.getD n true=true\/k=n)->n<listed.size->
  Region.seqB .any ops l.length k listed=true->wpList P ops Q l a w->CG P ops Q C n l.length listed a w
 |[],_,_,_,_,_,_,_,_,M,h=>⟨by simpa[Region.seqB]using M,h⟩
 |o::l,k,listed,a,w,hl,_,O,I,M,h=>by
  have h0:ops[k]? =some o:=by simpa using(hl 0).symm
  simp only[length_cons,Region.seqB,Bool.and_eq_true,decide_eq_true_eq]at M;refine⟨λh1=>(by rw[M.1]at h1;cases h1),λi hi=>?_⟩;rw[M.1]at hi;have Z:i=k:=by simpa using hi
  subst Z;have hw:wpOp P ops Q i (wpList P ops Q l) a w:=by unfold wpOp;simp only[h0];exact h
  have J:(listed.setIfInBounds i true).getD n true=true:=by
   rcases O with O|O
   ·by_cases e:i=n
    ·subst e;simp[Array.getD_eq_getD_getElem?,I]
    rw[getD_set_ne true e];exact O
   subst O;simp[Array.getD_eq_getD_getElem?,I]
  refine wpOp_mono (λa' w' h'=>⟨λh=>(by rw[J]at h;cases h),Dw l (i+1) _ a' w' (λj=>by have:=hl (j+1);simpa[Nat.add_assoc,Nat.add_comm 1 j]using this) ?_ (.inl J) (by simpa using I) M.2 h'⟩) hw;by_cases e:i+1=n
  ·left;subst e;simp[Array.getD_eq_getD_getElem?]
  left;rw[getD_set_ne true e];exact J
end
section
variable {P:Program}{N:Nat}{l l':Nj}{a:Act}{w w' w0:World}{B:Nat}{fs fs':List J8}{ops:Array Oper}{o:Oper}{Q:Exit->Act->World->Prop}{v:Value}{d:Nat}{C:World->Prop}{n m i:Nat}{listed listed':Array Bool}
def wG(P:Program)(N:Nat)(ops:Array Oper)(Q:Exit->Act->World->Prop)(C:World->Prop)(n m:Nat)(listed:Array Bool)(l:Nj)(w:World):Prop:= ∀a,Fr N l a->CG P ops (NoPanic Q) C n m listed a w
def wH(P:Program)(N:Nat)(ops:Array Oper)(Q:Exit->Act->World->Prop)(C:World->Prop)(n m i:Nat)(listed:Array Bool)(l:Nj)(w:World):Prop:=
 wN P N ops Q i l w (λa' w'=>((listed.setIfInBounds i true).getD n true=false->C w')/\CG P ops (NoPanic Q) C n m (listed.setIfInBounds i true) a' w')
def Bj{id:Nat}{os:List Oper}(n:Nat)(I:P.follows .mixedOrders=true)(hn:os.length=m)(J:Array.replicate m false=listed)(h:wG P N os.toArray Q C n m listed l w.drew):wC P N (.region id os.toArray true) Q l w:=λa F=>by
 subst hn;subst J;exact wp_region_noPanic (wp_region_any I (K4 _ _ _ _ (by simpa using h a F)))
def Ef(hi:ops[i]? =some o)(hs:Region.noSelect ops=true)(O:Region.free .any ops listed i=true)(Z:(Region.ready .any ops listed).contains i=true)(I:listed.getD n true=false)(J:xP ops n i=true)(M:beq n i=false)(hS:C w)
  (hl:listed.setIfInBounds i true=listed') (hw:Nq N ops l o true) (hd:o.dst=some d) (hN:blt d N=true) (hy:∀w,C w->jr P N l o w v) (h:wG P N ops Q C n m listed' ((d,v)::l) w):wG P N ops Q C n (m+1) listed l w:=λa F=>by
 subst hl;refine FB hi (Region.noSelect_spec hs) (λc a w h=>h) J (λe=>by subst e;simp at M) m listed a w (Region.free_spec hi O) (by simpa using Z) I (.inl ⟨hw a F,λw hC=>hy w hC a F⟩) hS ?_;rw[hd];exact h _ (F.put hN v)
def ajB(hi:ops[i]? =some o)(hs:Region.noSelect ops=true)(O:Region.free .any ops listed i=true)(Z:(Region.ready .any ops listed).contains i=true)(I:listed.getD n true=false)(J:xP ops n i=true)(M:beq n i=false)(hS:C w)
  (hl:listed.setIfInBounds i true=listed') (hw:Nq N ops l o false) (hd:o.dst=some d) (hN:blt d N=true) (h:wG P N ops Q C n m listed' ((d,undef)::l) w):wG P N ops Q C n (m+1) listed l w:=λa F=>by
 subst hl;refine FB (v:=undef) hi (Region.noSelect_spec hs) (λc a w h=>h) J (λe=>by subst e;simp at M) m listed a w (Region.free_spec hi O) (by simpa using Z) I (.inr ⟨hw a F,E⟩) hS ?_;rw[hd];exact h _ (F.put hN undef)
def aer{rs:List Nat}(J:Region.ready .any ops listed=rs)(I:rs.isEmpty=false)(h:∀i∈rs,wH P N ops Q C n m i listed l w):wG P N ops Q C n (m+1) listed l w:=λa F=>
 ⟨λM=>(by rw[J]at M;subst M;cases I),λi hi=>h i (J▸hi) a F⟩
def fE{r:Nat}(I:Region.ready .any ops listed=[r])(h:wH P N ops Q C n m r listed l w):wG P N ops Q C n (m+1) listed l w:=aer I E λi hi=>by
 rcases mem_singleton.1 hi with rfl
 exact h
def aes{r s:Nat}(I:Region.ready .any ops listed=[r,s])(h:wH P N ops Q C n m r listed l w)(J:wH P N ops Q C n m s listed l w):wG P N ops Q C n (m+1) listed l w:=aer I E λi hi=>by
 rcases mem_cons.1 hi with rfl|hi
 ·exact h
 rcases mem_singleton.1 hi with rfl
 exact J
def jg(h:wQ N Q .normal l w):wQ N (NoPanic Q) .normal l w:=λa F=>NoPanic.normal (h a F)
def fC{rest:List Oper}{k:Nat}(M:Region.seqB .any ops m n listed=true)(O:blt n listed.size=true)(I:ops.toList.drop n=rest)(Z:rest.length=m)(h:wL P N ops (NoPanic Q) rest l w)(hk:k=m:=by rfl):wG P N ops Q C n m listed l w:=λa F=>by
 subst I;subst Z;have J:n<listed.size:=by simpa[blt_eq]using O
 refine Dw _ n listed a w (λj=>by simp[getElem?_drop]) (.inl ?_) (.inr E) J M (h a F);simp[Array.getD_eq_getD_getElem?,J]
def ad3(hi:ops[i]? =some o)(I:listed.setIfInBounds i true=listed')(hw:Nq N ops l o true)(J:o.dst=some d)(M:blt d N=true)(O:Does P N l o w v w')(h:C w'/\wG P N ops Q C n m listed' ((d,v)::l) w'):wH P N ops Q C n m i listed l w:=λa F=>by
 subst I;unfold wpOp;simp only[hi];rw[if_pos (hw a F)];refine .inl ?_;unfold Oper.wp;rw[O a F];refine⟨λ_=>h.1,?_⟩;rw[J];exact h.2 _ (F.put M v)
def mW{V:Nat->Value}{row:Array Value}{t:TypeId}(hi:ops[i]? =some o)(I:listed.setIfInBounds i true=listed')(S:St B w0 w fs)(hw:Nq N ops l o true)(J:o.dst=some d)(M:blt d N=true)(O:Does P N l o w (V w.heap.size) (w.alloc (.cells row t)))
  (h:∀b w',St B w0 w' (.Mg b row t::fs)->C w'/\wG P N ops Q C n m listed' ((d,V b)::l) w'):wH P N ops Q C n m i listed l w:=ad3 hi I hw J M O (h _ _ S.alloc)
def lG{x y:Operand}{t e:TypeId}{z:Value}{size bytes k q c Br:Nat}{A:Option Addr}{xs news xs':List Value}{sv:Value}(O:ops[i]? =some o)(hl:listed.setIfInBounds i true=listed')(j:Nat)(S:St B w0 w fs)(hw:Nq N ops l o true)(hd:o.dst=some d)(hN:blt d N=true)
  (ho:o.op=.call {callee:=.builtin .append,args:= #[x,y],argTypes:= #[t,t]}) (hx:ev l x=some sv) (hy:ev l y=some (.slice A q c)) (hi:fs[j]? =some (.own e size sv k xs)) (hr:Rd w Br size A q news)
  (ht:P.underlying t=some (.slice e)) (J:(P.info? e).map (λi=>(i.zero,i.size,i.bytes))=some (some z,size,bytes)) (Z:z.cells.size=size) (hsz:0<size) (h1:∀u∈news,u.oneCell'=true) (h63:k+q<=maxLen) (I:(k+q)*bytes<=140737488355328)
  (hxs:xs++news=xs') (h:∀A' c' w',k+q<=c'->c'<=maxLen->St B w0 w' (fs.set j (.own e size (.slice A' (k+q) c') (k+q) xs'))->C w'/\wG P N ops Q C n m listed' ((d,.slice A' (k+q) c')::l) w'):wH P N ops Q C n m i listed l w:=by
 subst hxs;obtain⟨j0,hj0,hz,hs,hb⟩:=info_parts J;obtain⟨v',w',M,h2,h3,h4⟩:=vI (P:=P) w B t o.type e j0 z size bytes ht hj0 hz hs hb Z hsz sv k xs (S.own j hi) Br A q c news hr h1 h63 I S.base;obtain⟨A',c',rfl,hc1,hc2⟩:=mY h2;exact ad3 O hl hw hd hN (Gw (xs:=[x,y]) (vs:=[sv,.slice A q c]) ho ⟨hx,hy,trivial⟩ (λcs=>by simp[builtin,M,Sem.run_bind,Result.andThen])) (h A' c' w' hc1 hc2 (S.append j hi h3 h2 h4))
def lM{f:FuncId}{vs:List Value}{R:Ending->World->Prop}(hi:ops[i]? =some o)(I:listed.setIfInBounds i true=listed')(hw:Nq N ops l o true)(J:o.dst=some d)(M:blt d N=true)(he:Enter P N l o w f vs)(O:Calls P f vs.toArray w R)
  (h:∀e w',R e w'-> ∃v,e=.returned v/\C w'/\wG P N ops Q C n m listed' ((d,v)::l) w'):wH P N ops Q C n m i listed l w:=λa F=>by
 subst I;unfold wpOp;simp only[hi];rw[if_pos (hw a F)];refine .inl ?_;unfold Oper.wp;rw[he a F];refine O.mono λe w' Z=>?_;obtain⟨v,rfl,hC,hv⟩:=h e w' Z;refine⟨λ_=>hC,?_⟩;rw[J];exact hv _ (F.put M v)
end
end
section
open Go.RowKit
def kL(n lo hi:Int):Bool:=decide (lo<=n)&&decide (n<=hi)
def EI{n lo hi:Int}:kL n lo hi=true↔lo<=n/\n<=hi:=by simp[kL]
def aaQ{n lo hi:Int}:kL n lo hi=false↔n<lo\/hi<n:=by
 rw[<-Bool.not_eq_true,EI];omega
end
structure lq where
 top:Int
 b0:Bool
 b1:Bool
 b2:Bool
 b3:Bool
 b4:Bool
 b5:Bool
 b6:Bool
 b7:Bool
 deriving DecidableEq
def lq.seen(x:lq):List Bool:=[x.b0,x.b1,x.b2,x.b3,x.b4,x.b5,x.b6,x.b7]
def lq.cells(x:lq):List Value:=[D x.top,.bool x.b0,.bool x.b1,.bool x.b2,.bool x.b3,.bool x.b4,.bool x.b5,.bool x.b6,.bool x.b7]
def lq.val(x:lq):Value:=.agg #[D x.top,.bool x.b0,.bool x.b1,.bool x.b2,.bool x.b3,.bool x.b4,.bool x.b5,.bool x.b6,.bool x.b7]
def lq.at(x:lq)(k:Nat):Bool:=x.seen.getD k false
def FC(t:Int)(f:Nat->Bool):Bool:=(range 8).all λk=> !f k || decide (8<=t+k)
def rG{t:Int}{f:Nat->Bool}:FC t f=true↔ ∀k,k<8->f k=true->8<=t+k:=by
 simp only[FC,all_eq_true,mem_range,Bool.or_eq_true,Bool.not_eq_true',decide_eq_true_eq]
 constructor
 ·intro h k I J
  rcases h k I with h|h
  ·rw[J]at h;cases h
  exact h
 intro h k I
 cases J:f k
 ·exact .inl E
 exact .inr (h k I J)
def dO(x:lq):Int:=
 if (decide (0<=x.top)&&decide (x.top<=1073741825)&&FC x.top x.at&&(!decide (0<x.top) || x.b7))=true then 0 else 6
def XP(b0 b1 b2 b3 b4 b5 b6 b7:Bool)(w:World):(Instr.index 178 (.agg #[.bool b0,.bool b1,.bool b2,.bool b3,.bool b4,.bool b5,.bool b6,.bool b7]) (D 0)).run prog w=.ok (.bool b0) w:=kQ
def XQ(b0 b1 b2 b3 b4 b5 b6 b7:Bool)(w:World):(Instr.index 178 (.agg #[.bool b0,.bool b1,.bool b2,.bool b3,.bool b4,.bool b5,.bool b6,.bool b7]) (D 1)).run prog w=.ok (.bool b1) w:=kQ
def XR(b0 b1 b2 b3 b4 b5 b6 b7:Bool)(w:World):(Instr.index 178 (.agg #[.bool b0,.bool b1,.bool b2,.bool b3,.bool b4,.bool b5,.bool b6,.bool b7]) (D 2)).run prog w=.ok (.bool b2) w:=kQ
def XT(b0 b1 b2 b3 b4 b5 b6 b7:Bool)(w:World):(Instr.index 178 (.agg #[.bool b0,.bool b1,.bool b2,.bool b3,.bool b4,.bool b5,.bool b6,.bool b7]) (D 3)).run prog w=.ok (.bool b3) w:=kQ
def XU(b0 b1 b2 b3 b4 b5 b6 b7:Bool)(w:World):(Instr.index 178 (.agg #[.bool b0,.bool b1,.bool b2,.bool b3,.bool b4,.bool b5,.bool b6,.bool b7]) (D 4)).run prog w=.ok (.bool b4) w:=kQ
def XV(b0 b1 b2 b3 b4 b5 b6 b7:Bool)(w:World):(Instr.index 178 (.agg #[.bool b0,.bool b1,.bool b2,.bool b3,.bool b4,.bool b5,.bool b6,.bool b7]) (D 5)).run prog w=.ok (.bool b5) w:=kQ
def XW(b0 b1 b2 b3 b4 b5 b6 b7:Bool)(w:World):(Instr.index 178 (.agg #[.bool b0,.bool b1,.bool b2,.bool b3,.bool b4,.bool b5,.bool b6,.bool b7]) (D 6)).run prog w=.ok (.bool b6) w:=kQ
def XY(b0 b1 b2 b3 b4 b5 b6 b7:Bool)(w:World):(Instr.index 178 (.agg #[.bool b0,.bool b1,.bool b2,.bool b3,.bool b4,.bool b5,.bool b6,.bool b7]) (D 7)).run prog w=.ok (.bool b7) w:=kQ
def NM(x:lq)(k:Nat)(I:k<8)(w:World):
 (Instr.index 178 (.agg #[.bool x.b0,.bool x.b1,.bool x.b2,.bool x.b3,.bool x.b4,.bool x.b5,.bool x.b6,.bool x.b7]) (D k)).run prog w=.ok (.bool (x.at k)) w:=by
 have h:k=0\/k=1\/k=2\/k=3\/k=4\/k=5\/k=6\/k=7:=Y
 rcases h with rfl|rfl|rfl|rfl|rfl|rfl|rfl|rfl
 ·exact XP _ _ _ _ _ _ _ _ w
 ·exact XQ _ _ _ _ _ _ _ _ w
 ·exact XR _ _ _ _ _ _ _ _ w
 ·exact XT _ _ _ _ _ _ _ _ w
 ·exact XU _ _ _ _ _ _ _ _ w
 ·exact XV _ _ _ _ _ _ _ _ w
 ·exact XW _ _ _ _ _ _ _ _ w
 exact XY _ _ _ _ _ _ _ _ w
def zl(x:lq)(w:World)(h0:0<=x.top)(h1:x.top<=1073741825):
 Calls prog 133 #[x.val] w λe w'=>e=.returned (D (x.top-8))/\Below w.heap.size w w':=by
 obtain⟨t,b0,b1,b2,b3,b4,b5,b6,b7⟩:=x;unfold lq.val;simp only at h0 h1⊢
 go_enter func133,ntmps133
 go_wp2
 go_ret
 exact⟨E,by go_grown⟩
def Ki(w:World)(k:Int)(e:Ending)(w':World):Prop:=e=.returned (D k)/\Below w.heap.size w w'
def adQ(x:lq)(w:World)(h:x.top<0\/1073741825<x.top):Calls prog 125 #[x.val] w (Ki w 6):=by
 obtain⟨t,b0,b1,b2,b3,b4,b5,b6,b7⟩:=x;unfold lq.val;simp only at h⊢;by_cases h0:t<0
 ·clear h
  go_enter func125,ntmps125
  go_wp2_with fail
  go_ret
  exact⟨E,by go_grown⟩
 have h1:1073741825<t:=Y;clear h
 go_enter func125,ntmps125
 go_wp2_with fail
 go_ret
 exact⟨E,by go_grown⟩
def aeE{x:lq}{k:Nat}(J:k<8)(h:x.at k=true)(M:x.top+k<8):dO x=6:=by
 refine if_neg (λI=>?_);simp only[Bool.and_eq_true]at I;have:=rG.1 I.1.2 k J h;omega
def aaR(x:lq)(w:World)(h0:0<=x.top)(h1:x.top<=1073741825):Calls prog 125 #[x.val] w (Ki w (dO x)):=by
 have HF:Hid (∀k,k<8->x.at k=true->x.top+k<8->dO x=6):=Lib.hid (λk=>aeE);have HI:=Lib.hid (NM x);have HL:=Lib.hid (zl x);have HE:Hid (dO x=if (FC x.top x.at&&(!decide (0<x.top) || x.b7))=true then 0 else 6):=by
  unfold Hid dO;simp[h0,h1]
 generalize dO x=z at HF HE;have hat:=Lib.hid (E:x.at=x.at);generalize x.at=f at HF HI HE hat;clear hat;obtain⟨t,b0,b1,b2,b3,b4,b5,b6,b7⟩:=x;unfold lq.val at*;simp only at h0 h1
 go_enter func125,ntmps125
 go_wp2_with fail
 go_loopw [15] (λi wr=> ∃k:Nat,k<=8/\i=D k/\(∀j,j<k->f j=true->8<=t+j)/\Below (w.heap.size+1) (w.alloc (.cells #[D t,.bool b0,.bool b1,.bool b2,.bool b3,.bool b4,.bool b5,.bool b6,.bool b7] 180)) wr) (λi _=>8-(intOf i).toNat)
 case atStart=>exact⟨0,by omega,E,by simp,by go_grown⟩
 case round=>
  obtain⟨k,hk,rfl,hall,hb⟩:=hrel;have HA:=Lib.hid hall;have HB:=Lib.hid hb;have c0:=hb.cell (p:=⟨w.heap.size,0,none⟩) iQ;have c1:=hb.cell (p:=⟨w.heap.size,1,none⟩) iQ;have c2:=hb.cell (p:=⟨w.heap.size,2,none⟩) iQ;have c3:=hb.cell (p:=⟨w.heap.size,3,none⟩) iQ;have c4:=hb.cell (p:=⟨w.heap.size,4,none⟩) iQ;have c5:=hb.cell (p:=⟨w.heap.size,5,none⟩) iQ;have c6:=hb.cell (p:=⟨w.heap.size,6,none⟩) iQ;have c7:=hb.cell (p:=⟨w.heap.size,7,none⟩) iQ;have c8:=hb.cell (p:=⟨w.heap.size,8,none⟩) iQ;simp only[World.cell?_alloc_mark]at c0 c1 c2 c3 c4 c5 c6 c7 c8;have hsz:w.heap.size+1<=wr.heap.size:=by have:=hb.size;simpa using this
  clear hall hb;by_cases hlt:k<8
  ·have hi:=HI.out k hlt
   cases JE:f k
   ·rw[JE]at hi
    go_wp2_with fail
    go_roundw
    case rel=>exact⟨k+1,by omega,by go_num,(λj hj hfj=>by
     rcases Nat.lt_or_ge j k with h|h
     ·exact HA.out j h hfj
     rw[show j=k by omega,JE]at hfj;cases hfj),HB.out⟩
    case measure=>simp[intOf];omega
   rw[JE]at hi;by_cases hneg:t-8+k<0
   ·have hz:=HF.out k hlt JE Y;subst hz;clear JE
    go_wp2_with fail
    refine(HL.out _ h0 h1).mono ?_;rintro e w1 ⟨rfl,hb1⟩;have HB1:=Lib.hid hb1;clear hb1
    go_wp2_with fail
    go_ret
    exact⟨E,((Below.refl _ w).alloc (Nat.le_refl _) _).trans ((HB.out.mono Y).trans (HB1.out.mono Y))⟩
   have hf2:=Lib.hid JE;clear JE
   go_wp2_with fail
   refine(HL.out _ h0 h1).mono ?_;rintro e w1 ⟨rfl,hb1⟩;have HB1:=Lib.hid hb1;clear hb1
   go_wp2_with fail
   go_roundw
   case rel=>exact⟨k+1,by omega,by go_num,(λj hj hfj=>by
    rcases Nat.lt_or_ge j k with h|h
    ·exact HA.out j h hfj
    rw[show j=k by omega];omega),HB.out.trans (HB1.out.mono Y)⟩
   case measure=>simp[intOf];omega
  obtain rfl:k=8:=Y;by_cases ht:0<t
  ·cases b7
   ·have hz:z=6:=by rw[HE.out];simp[ht]
    subst hz
    go_wp2_with fail
    go_ret
    exact⟨E,((Below.refl _ w).alloc (Nat.le_refl _) _).trans (HB.out.mono Y)⟩
   have hz:z=0:=by rw[HE.out,rG.2 HA.out];simp
   subst hz
   go_wp2_with fail
   go_ret
   exact⟨E,((Below.refl _ w).alloc (Nat.le_refl _) _).trans (HB.out.mono Y)⟩
  have hz:z=0:=by rw[HE.out,rG.2 HA.out];simp[ht]
  subst hz
  go_wp2_with fail
  go_ret
  exact⟨E,((Below.refl _ w).alloc (Nat.le_refl _) _).trans (HB.out.mono Y)⟩
def FE(x:lq)(w:World):Calls prog 125 #[x.val] w (Ki w (dO x)):=by
 by_cases h:0<=x.top/\x.top<=1073741825
 ·exact aaR x w h.1 h.2
 rw[show dO x=6 from if_neg (λI=>by simp only[Bool.and_eq_true,decide_eq_true_eq]at I;exact h ⟨I.1.1.1,I.1.1.2⟩)];exact adQ x w Y
def Ri(l:List Int):List Value:=l.map (Value.int .i64)
def Rd.ajC{w:World}{B n:Nat}{A:Option Addr}{l:List Int}(h:Rd w B 1 A n (Ri l)):l.length=n:=by
 have:=h.1;simp[Ri]at this;omega
def Rd.apo{w:World}{B n k:Nat}{A:Option Addr}{l:List Int}(h:Rd w B 1 A n (Ri l))(J:k<n):∃b off x,A=some ⟨b,off,none⟩/\b<B/\l[k]? =some x/\w.cell? ⟨b,off+k,none⟩=some (.int .i64 x):=by
 obtain⟨b,off,u,e,M,I,O⟩:=h.at_ J;simp only[Ri,getElem?_map,Option.map_eq_some_iff]at I;obtain⟨x,I,rfl⟩:=I;exact⟨b,off,x,e,M,I,O⟩
def jG(t:Int)(f:Nat->Bool):Nat->List Int
 | 0=>[]
 |k+1=>if f k=true then jG t f k++[t-8+k]else jG t f k
def ad4(t:Int)(bs:List Bool):lq:=⟨t,bs.getD 0 false,bs.getD 1 false,bs.getD 2 false,bs.getD 3 false,bs.getD 4 false,bs.getD 5 false,bs.getD 6 false,bs.getD 7 false⟩
def pO(bs:List Bool)(k:Int):List Bool:=if 0<=k then bs.set k.toNat true else bs
def lV(t:Int)(l:List Int):List Bool:=l.foldl (λbs x=>pO bs (x-t+8)) [false,false,false,false,false,false,false,false]
def Hz(t:Int)(l:List Int)(x:Int):lV t (l++[x])=pO (lV t l) (x-t+8):=by simp[lV]
def K5(bs:List Bool)(k:Int):(pO bs k).length=bs.length:=by unfold pO;split<;>simp
def K6(t:Int)(l:List Int):(lV t l).length=8:=by
 unfold lV;generalize hb:[false,false,false,false,false,false,false,false]=b;have h:b.length=8:=by rw[<-hb];rfl
 clear hb
 induction l generalizing b with
 |nil=>simpa using h
 |cons x l I=>exact I _ (by rw[K5];exact h)
def xQ(t:Int)(bs:List Bool):Array Value:=(.int .i64 t::bs.map Value.bool).toArray
def eight{bs:List Bool}(h:bs.length=8):∃a0 a1 a2 a3 a4 a5 a6 a7,bs=[a0,a1,a2,a3,a4,a5,a6,a7]:=by
 match bs,h with
 |[a0,a1,a2,a3,a4,a5,a6,a7],_=>exact⟨a0,a1,a2,a3,a4,a5,a6,a7,E⟩
structure WB (w:World)(t:Int)(bs:List Bool)(wr:World):Prop where
 below:Below w.heap.size w wr
 res:wr.heap[w.heap.size]? =some (.cells #[.int .i64 0,.bool false,.bool false,.bool false,.bool false,.bool false,.bool false,.bool false,.bool false] 180 (0,0))
 row:wr.heap[w.heap.size+1]? =some (.cells (xQ t bs) 180 (0,0))
def WB.drewN{w wr:World}{t:Int}{bs:List Bool}(h:WB w t bs wr)(q:Nat):WB w t bs (wr.drewN q):=
 ⟨⟨h.below.os,h.below.tape,h.below.output,h.below.size,h.below.block⟩,h.res,h.row⟩
def WB.wz{w wr:World}{t:Int}{bs:List Bool}(h:WB w t bs wr)(j:Nat):WB w t (bs.set j true) (wr.setCell ⟨w.heap.size+1,1+j,none⟩ (.bool true)):=by
 refine⟨h.below.setCell iQ _,?_,?_⟩
 ·rw[Below.heap_setCell _ _ _ _ iQ];exact h.res
 have I:=h.row;simp only[World.setCell,Array.getElem?_modify,I];simp[xQ,Nat.add_comm 1 j,map_set]
def WB.cell{w wr:World}{t:Int}{bs:List Bool}(h:WB w t bs wr){j:Nat}(I:j<bs.length):wr.cell? ⟨w.heap.size+1,1+j,none⟩=some (.bool (bs.getD j false)):=by
 rw[cell_of_row wr _ (1+j) _ _ (0,0) h.row,Nat.add_comm];simp[xQ,I]
def WB.free{w wr:World}{t:Int}{bs:List Bool}(h:WB w t bs wr)(j:Nat):wr.frozen? ⟨w.heap.size+1,j,none⟩=false:=by
 have:=h.row;simp[World.frozen?,this]
def afR(bs:List Bool)(k i:Nat):(bs.set k true).getD i false=if i=k/\k<bs.length then true else bs.getD i false:=by
 simp only[getD_eq_getElem?_getD,getElem?_set];by_cases h:k=i
 ·subst h;by_cases I:k<bs.length<;>simp[I]
 have J:¬i=k:=λe=>h e.symm;simp[h,J]
def qI(x:lq)(id:Int):Bool×Int:=
 if dO x≠0 then(false,dO x)
 else if id<0\/1073741824<id then(false,2)
 else if x.top<=id then(false,0)
 else if id<x.top-8 then(false,9)
 else(x.at (id-(x.top-8)).toNat,0)
def afS(w:World)(r:Bool×Int)(e:Ending)(w':World):Prop:=e=.returned (.tuple #[.bool r.1,.int .i64 r.2])/\Below w.heap.size w w'
def sJ{x:lq}(h:dO x=0):0<=x.top/\x.top<=1073741825:=by
 unfold dO at h
 split at h
 ·rename_i I
  simp only[Bool.and_eq_true,decide_eq_true_eq]at I;exact⟨I.1.1.1,I.1.1.2⟩
 cases h
def aaS(x:lq):∀k,k<8->(x.cells)[k+1]? =some (.bool (x.at k)):=by
 intro k I;have h:k=0\/k=1\/k=2\/k=3\/k=4\/k=5\/k=6\/k=7:=Y
 rcases h with rfl|rfl|rfl|rfl|rfl|rfl|rfl|rfl<;>rfl
def UD(x:lq)(id:Int)(w:World):Calls prog 134 #[x.val,.int .i64 id] w (afS w (qI x id)):=by
 have HC:=Lib.hid (FE x);have HL:=Lib.hid (zl x);have HX:=Lib.hid (aaS x);have HT:=Lib.hid (sJ (x:=x));have HZ0:Hid (∀r,r=qI x id->r=if dO x≠0 then(false,dO x)
  else if id<0\/1073741824<id then(false,2)
  else if x.top<=id then(false,0)
  else if id<x.top-8 then(false,9)
  else(x.at (id-(x.top-8)).toNat,0)):=Lib.hid (λr h=>h)
 generalize hr:qI x id=r;have HZ:=Lib.hid (HZ0.out r hr.symm);clear hr HZ0;generalize dO x=z at HC HT HZ;have hat:=Lib.hid (E:x.at=x.at);generalize x.at=f at HX HZ hat;clear hat;obtain⟨t,b0,b1,b2,b3,b4,b5,b6,b7⟩:=x;unfold lq.val at*;unfold lq.cells at HX;simp only at HT HX HZ HL
 go_enter func134,ntmps134
 go_wp2_with fail
 refine(HC.out _).mono ?_;rintro e w1 ⟨rfl,hb1⟩;have c0:=hb1.cell (p:=⟨w.heap.size,0,none⟩) iQ;have c1:=hb1.cell (p:=⟨w.heap.size,1,none⟩) iQ;have c2:=hb1.cell (p:=⟨w.heap.size,2,none⟩) iQ;have c3:=hb1.cell (p:=⟨w.heap.size,3,none⟩) iQ;have c4:=hb1.cell (p:=⟨w.heap.size,4,none⟩) iQ;have c5:=hb1.cell (p:=⟨w.heap.size,5,none⟩) iQ;have c6:=hb1.cell (p:=⟨w.heap.size,6,none⟩) iQ;have c7:=hb1.cell (p:=⟨w.heap.size,7,none⟩) iQ;have c8:=hb1.cell (p:=⟨w.heap.size,8,none⟩) iQ;simp only[World.cell?_alloc_mark]at c0 c1 c2 c3 c4 c5 c6 c7 c8;have hsz:w.heap.size+1<=w1.heap.size:=by have:=hb1.size;simpa using this
 have HK:Hid (∀k,k<8->w1.cell? ⟨w.heap.size,1+k,none⟩=some (.bool (f k))):=by
  intro k hk;have ck:=hb1.cell (p:=⟨w.heap.size,1+k,none⟩) iQ;rw[World.cell?_alloc_mark]at ck;rw[ck,Nat.add_comm 1 k];simpa using HX.out k hk
 have HB:Hid (Below w.heap.size w w1):=Lib.hid (((Below.refl _ w).alloc (Nat.le_refl _) _).trans (hb1.mono iQ));clear hb1 HX HC;by_cases hz:z=0
 ·obtain⟨h0,h1⟩:=HT.out hz;subst hz;have HZ:=Lib.hid (HZ.out.trans (if_neg iQ));clear HT;by_cases i0:id<0
  ·have e:=HZ.out;rw[if_pos Y]at e;subst e
   go_wp2_with fail
   go_ret2
   exact⟨E,HB.out⟩
  by_cases i1:1073741824<id
  ·have e:=HZ.out;rw[if_pos Y]at e;subst e
   go_wp2_with fail
   go_ret2
   exact⟨E,HB.out⟩
  have HZ:=Lib.hid (HZ.out.trans (if_neg Y));by_cases i2:t<=id
  ·have e:=HZ.out;rw[if_pos Y]at e;subst e
   go_wp2_with fail
   go_ret2
   exact⟨E,HB.out⟩
  have HZ:=Lib.hid (HZ.out.trans (if_neg Y));by_cases i3:id<t-8
  ·have e:=HZ.out;rw[if_pos Y]at e;subst e
   go_wp2_with fail
   refine(HL.out _ h0 h1).mono ?_;rintro e w2 ⟨rfl,hb2⟩;have HB2:=Lib.hid hb2;clear hb2
   go_wp2_with fail
   go_ret2
   exact⟨E,HB.out.trans (HB2.out.mono Y)⟩
  have e:=HZ.out;rw[if_neg Y]at e;subst e;obtain⟨k,hk⟩:=Int.eq_ofNat_of_zero_le (show 0<=id-(t-8) by omega);have hk8:k<8:=Y;rw[hk,Int.toNat_natCast];have HKK:=Lib.hid hk;have ck:=HK.out k hk8
  go_wp2_with fail
  refine(HL.out _ h0 h1).mono ?_;rintro e w2 ⟨rfl,hb2⟩;have d0:=hb2.cell (p:=⟨w.heap.size,0,none⟩) jQ;have d1:=hb2.cell (p:=⟨w.heap.size,1,none⟩) jQ;have d2:=hb2.cell (p:=⟨w.heap.size,2,none⟩) jQ;have d3:=hb2.cell (p:=⟨w.heap.size,3,none⟩) jQ;have d4:=hb2.cell (p:=⟨w.heap.size,4,none⟩) jQ;have d5:=hb2.cell (p:=⟨w.heap.size,5,none⟩) jQ;have d6:=hb2.cell (p:=⟨w.heap.size,6,none⟩) jQ;have d7:=hb2.cell (p:=⟨w.heap.size,7,none⟩) jQ;have d8:=hb2.cell (p:=⟨w.heap.size,8,none⟩) jQ;have dk:=hb2.cell (p:=⟨w.heap.size,1+k,none⟩) jQ;rw[c0]at d0;rw[c1]at d1;rw[c2]at d2;rw[c3]at d3;rw[c4]at d4;rw[c5]at d5;rw[c6]at d6;rw[c7]at d7;rw[c8]at d8;rw[ck]at dk;have HB2:=Lib.hid hb2;clear hb2
  go_wp2_with fail
  refine(HL.out _ h0 h1).mono ?_;rintro e w3 ⟨rfl,hb3⟩;have HB3:=Lib.hid hb3;have g0:=hb3.cell (p:=⟨w.heap.size,1+k,none⟩) (by simp;have:=HB2.out.size;omega);rw[dk]at g0;clear hb3
  go_wp2_with fail
  go_ret2
  exact⟨by show Ending.returned (.tuple #[.bool (f k),.int .i64 0])=_;rw[HKK.out,Int.toNat_natCast],(HB.out.trans (HB2.out.mono Y)).trans (HB3.out.mono (by have:=HB2.out.size;omega))⟩
 have e:=HZ.out;rw[if_pos hz]at e;subst e
 go_wp2_with fail
 go_ret2
 exact⟨E,HB.out⟩
def ajD{t:Int}{f:Nat->Bool}{k:Nat}{y:Int}:y∈jG t f k↔ ∃i,i<k/\f i=true/\y=t-8+i:=by
 induction k with
 |zero=>simp[jG]
 |succ k Z=>
  unfold jG
  split
  ·rename_i M
   rw[mem_append,Z,mem_singleton]
   constructor
   ·rintro(⟨i,h1,I,J⟩|h)
    ·exact⟨i,by omega,I,J⟩
    exact⟨k,by omega,M,h⟩
   rintro⟨i,h1,I,J⟩;by_cases O:i=k
   ·subst O;exact .inr J
   exact .inl ⟨i,by omega,I,J⟩
  rename_i M
  rw[Z]
  constructor
  ·rintro⟨i,h1,I,J⟩;exact⟨i,by omega,I,J⟩
  rintro⟨i,h1,I,J⟩;have:i≠k:=by rintro rfl;exact M I
  exact⟨i,by omega,I,J⟩
def SE(t:Int)(i:Nat)(hi:i<8):∀(l:List Int) (bs:List Bool),bs.length=8->
  (l.foldl (λbs x=>pO bs (x-t+8)) bs).getD i false=(bs.getD i false || decide (t-8+i∈l))
 |[],bs,_=>by simp
 |x::l,bs,h=>by
  rw[foldl_cons,SE t i hi l _ (by rw[K5];exact h)];have I:(pO bs (x-t+8)).getD i false=(bs.getD i false || decide (t-8+(i:Int)=x)):=by
   unfold pO
   split
   ·rename_i J
    rw[afR,h];by_cases e:t-8+(i:Int)=x
    ·rw[if_pos Y];simp[e]
    rw[if_neg Y];simp[e]
   rename_i J
   have e:¬t-8+(i:Int)=x:=Y;simp[e]
  rw[I,Bool.or_assoc]
  congr 1
  rw[Bool.eq_iff_iff];simp
def XZ(t:Int)(l:List Int)(i:Nat)(hi:i<8):(lV t l).getD i false=decide (t-8+i∈l):=by
 unfold lV;rw[SE t i hi l _ E];have:([false,false,false,false,false,false,false,false]:List Bool).getD i false=false:=by
  match i with
  | 0| 1| 2| 3| 4| 5| 6| 7=>rfl
  |n+8=>rfl
 rw[this,Bool.false_or]
def C8(x:lq)(id:Int):lq:=ad4 (max x.top (id+1)) (lV (max x.top (id+1)) (jG x.top x.at 8++[id]))
def aeI{x:lq}(h:dO x=0):(x.top=0/\jG x.top x.at 8=[])\/(0<x.top/\jG x.top x.at 8≠[]/\(jG x.top x.at 8).getLastD 0=x.top-1):=by
 have h0:=sJ h;unfold dO at h
 split at h
 ·rename_i J
  simp only[Bool.and_eq_true,decide_eq_true_eq,Bool.or_eq_true,Bool.not_eq_true',decide_eq_false_iff_not]at J;obtain⟨⟨_,hw⟩,O⟩:=J;by_cases M:0<x.top
  ·right
   have Z:x.at 7=true:=by
    rcases O with h|h
    ·exact absurd M h
    exact h
   have e:jG x.top x.at 8=jG x.top x.at 7++[x.top-1]:=by
    show(if x.at 7=true then _ else _)=_
    rw[Z,if_pos E,show x.top-8+((7:Nat):Int)=x.top-1 by omega]
   exact⟨M,by rw[e];simp,by rw[e];simp⟩
  left
  have I:x.top=0:=Y;refine⟨I,eq_nil_iff_forall_not_mem.2 λy hy=>?_⟩;obtain⟨i,h1,h2,h3⟩:=ajD.1 hy;have:=rG.1 hw i h1 h2;omega
 cases h
def Bl:lq:=⟨0,false,false,false,false,false,false,false,false⟩
def jh(x:lq)(id:Int):lq×Bool×Int:=
 if (qI x id).2≠0 then(Bl,false,(qI x id).2)else if (qI x id).1=true then(x,false,0)else(C8 x id,true,0)
def aaT(w:World)(r:lq×Bool×Int)(e:Ending)(w':World):Prop:=e=.returned (.tuple #[r.1.val,.bool r.2.1,.int .i64 r.2.2])/\Below w.heap.size w w'
def Gx{x:lq}{id:Int}(h:(qI x id).2=0):dO x=0/\0<=id/\id<=1073741824:=by
 unfold qI at h;by_cases h1:dO x=0
 ·by_cases I:id<0\/1073741824<id
  ·simp[h1,I]at h
  exact⟨h1,by omega,by omega⟩
 simp[h1]at h
def eZ(n lo hi:Int)(w:World):
 Calls prog 76 #[.int .i64 n,.int .i64 lo,.int .i64 hi] w λe w'=>e=.returned (.bool (kL n lo hi))/\w=w':=by
 by_cases h1:lo<=n<;>by_cases h2:n<=hi
 all_goals
  go_enter func76,ntmps76
  go_wp2
  go_ret
  exact⟨by simp[kL];omega,E⟩
def aZ(e:Ev):Int:=
 if ¬(1<=e.kind/\e.kind<=4)then 3
 else if e.kind=1/\ ¬(kL e.Mr 0 3&&kL e.id 0 1073741824&&kL e.body 0 1000000)=true then 2
 else if e.kind=3/\ ¬(kL e.MF 0 1048576&&kL e.Nc 0 1073741824)=true then 2
 else if e.kind≠1/\ ¬(e.Mr=0/\e.id=0/\e.body=0)then 3
 else if e.kind≠3/\ ¬(e.MF=0/\e.Nc=0)then 3
 else 0
def ny(w:World)(k:Int)(e:Ending)(w':World):Prop:=e=.returned (.int .i64 k)/\Below w.heap.size w w'
def aau(p i b he hn:Int)(w:World)(hb:(kL p 0 3&&kL i 0 1073741824&&kL b 0 1000000)=false):
 Calls prog 78 #[Ev.val ⟨1,p,i,b,he,hn⟩] w (ny w 2):=by
 unfold Ev.val
 cases r1:kL p 0 3<;>cases r2:kL i 0 1073741824<;>cases r3:kL b 0 1000000<;>simp[r1,r2,r3]at hb
 all_goals
  go_enter func78,ntmps78
  go_wp2_with (go_at_call 76;refine(eZ _ _ _ _).mono ?_;rintro e w' ⟨rfl,rfl⟩)
  go_region
  go_wp2_with (go_at_call 76;refine(eZ _ _ _ _).mono ?_;rintro e w' ⟨rfl,rfl⟩)
  go_ret
  exact⟨E,by go_grown⟩
def abm(p i b he hn:Int)(w:World)(hb:(kL p 0 3&&kL i 0 1073741824&&kL b 0 1000000)=true):
 Calls prog 78 #[Ev.val ⟨1,p,i,b,he,hn⟩] w (ny w (if he=0/\hn=0 then 0 else 3)):=by
 unfold Ev.val;simp only[Bool.and_eq_true]at hb;obtain⟨⟨r1,r2⟩,r3⟩:=hb;have hq:=rE ⟨1,p,i,b,0,0⟩ ⟨1,p,i,b,he,hn⟩;simp only[Ev.mk.injEq,true_and]at hq;by_cases z:0=he/\0=hn
 ·rw[if_pos ⟨z.1.symm,z.2.symm⟩];rw[show decide (0=he/\0=hn)=true by simpa using z]at hq;obtain⟨rfl,rfl⟩:=z
  go_enter func78,ntmps78
  go_wp2_with (go_at_call 76;refine(eZ _ _ _ _).mono ?_;rintro e w' ⟨rfl,rfl⟩)
  go_region
  go_wp2_with (go_at_call 76;refine(eZ _ _ _ _).mono ?_;rintro e w' ⟨rfl,rfl⟩)
  go_ret
  exact⟨E,by go_grown⟩
 rw[if_neg (λh=>z ⟨h.1.symm,h.2.symm⟩)];rw[show decide (0=he/\0=hn)=false by simpa using z]at hq;have HZ:=Lib.hid z;clear z
 go_enter func78,ntmps78
 go_wp2_with (go_at_call 76;refine(eZ _ _ _ _).mono ?_;rintro e w' ⟨rfl,rfl⟩)
 go_region
 go_wp2_with (go_at_call 76;refine(eZ _ _ _ _).mono ?_;rintro e w' ⟨rfl,rfl⟩)
 go_ret
 exact⟨E,by go_grown⟩
def abn(p i b he hn:Int)(w:World)(hb:(kL he 0 1048576&&kL hn 0 1073741824)=false):
 Calls prog 78 #[Ev.val ⟨3,p,i,b,he,hn⟩] w (ny w 2):=by
 unfold Ev.val
 cases r1:kL he 0 1048576<;>cases r2:kL hn 0 1073741824<;>simp[r1,r2]at hb
 all_goals
  go_enter func78,ntmps78
  go_wp2_with (go_at_call 76;refine(eZ _ _ _ _).mono ?_;rintro e w' ⟨rfl,rfl⟩)
  go_ret
  exact⟨E,by go_grown⟩
def aaU(p i b he hn:Int)(w:World)(hb:(kL he 0 1048576&&kL hn 0 1073741824)=true):
 Calls prog 78 #[Ev.val ⟨3,p,i,b,he,hn⟩] w (ny w (if p=0/\i=0/\b=0 then 0 else 3)):=by
 unfold Ev.val;simp only[Bool.and_eq_true]at hb;obtain⟨r1,r2⟩:=hb;have hq:=rE ⟨3,0,0,0,he,hn⟩ ⟨3,p,i,b,he,hn⟩;simp only[Ev.mk.injEq,true_and,and_true]at hq;by_cases z:0=p/\0=i/\0=b
 ·rw[if_pos ⟨z.1.symm,z.2.1.symm,z.2.2.symm⟩];rw[show decide (0=p/\0=i/\0=b)=true by simpa using z]at hq;obtain⟨rfl,rfl,rfl⟩:=z
  go_enter func78,ntmps78
  go_wp2_with (go_at_call 76;refine(eZ _ _ _ _).mono ?_;rintro e w' ⟨rfl,rfl⟩)
  go_ret
  exact⟨E,by go_grown⟩
 rw[if_neg (λh=>z ⟨h.1.symm,h.2.1.symm,h.2.2.symm⟩)];rw[show decide (0=p/\0=i/\0=b)=false by simpa using z]at hq;have HZ:=Lib.hid z;clear z
 go_enter func78,ntmps78
 go_wp2_with (go_at_call 76;refine(eZ _ _ _ _).mono ?_;rintro e w' ⟨rfl,rfl⟩)
 go_ret
 exact⟨E,by go_grown⟩
def X0(k p i b he hn:Int)(w:World)(hk:k=2\/k=4):
 Calls prog 78 #[Ev.val ⟨k,p,i,b,he,hn⟩] w (ny w (if p=0/\i=0/\b=0/\he=0/\hn=0 then 0 else 3)):=by
 unfold Ev.val;have hq:=rE ⟨k,0,0,0,0,0⟩ ⟨k,p,i,b,he,hn⟩;simp only[Ev.mk.injEq,true_and]at hq;by_cases z:0=p/\0=i/\0=b/\0=he/\0=hn
 ·rw[if_pos ⟨z.1.symm,z.2.1.symm,z.2.2.1.symm,z.2.2.2.1.symm,z.2.2.2.2.symm⟩];rw[show decide (0=p/\0=i/\0=b/\0=he/\0=hn)=true by simpa using z]at hq;obtain⟨rfl,rfl,rfl,rfl,rfl⟩:=z
  rcases hk with rfl|rfl
  all_goals
   go_enter func78,ntmps78
   go_wp2_with (go_at_call 76;refine(eZ _ _ _ _).mono ?_;rintro e w' ⟨rfl,rfl⟩)
   go_ret
   exact⟨E,by go_grown⟩
 rw[if_neg (λh=>z ⟨h.1.symm,h.2.1.symm,h.2.2.1.symm,h.2.2.2.1.symm,h.2.2.2.2.symm⟩)];rw[show decide (0=p/\0=i/\0=b/\0=he/\0=hn)=false by simpa using z]at hq;have HZ:=Lib.hid z;clear z
 rcases hk with rfl|rfl
 all_goals
  go_enter func78,ntmps78
  go_wp2_with (go_at_call 76;refine(eZ _ _ _ _).mono ?_;rintro e w' ⟨rfl,rfl⟩)
  go_ret
  exact⟨E,by go_grown⟩
def X4(k p i b he hn:Int)(w:World)(h1:(k==1)=false)(h2:(k==2)=false)(h3:(k==3)=false)(h4:(k==4)=false):
 Calls prog 78 #[Ev.val ⟨k,p,i,b,he,hn⟩] w (ny w 3):=by
 unfold Ev.val
 go_enter func78,ntmps78
 go_wp2_with (go_at_call 76;refine(eZ _ _ _ _).mono ?_;rintro e w' ⟨rfl,rfl⟩)
 go_ret
 exact⟨E,by go_grown⟩
def HY(e:Ev)(w:World):Calls prog 78 #[e.val] w (ny w (aZ e)):=by
 obtain⟨k,p,i,b,he,hn⟩:=e;by_cases O:k=1
 ·subst O
  cases I:(kL p 0 3&&kL i 0 1073741824&&kL b 0 1000000)
  ·have h:aZ ⟨1,p,i,b,he,hn⟩=2:=by simp only[aZ,I];simp
   rw[h];exact aau p i b he hn w I
  have h:aZ ⟨1,p,i,b,he,hn⟩=if he=0/\hn=0 then 0 else 3:=by
   simp only[aZ,I];by_cases z:he=0/\hn=0<;>simp[z]
  rw[h];exact abm p i b he hn w I
 by_cases Z:k=3
 ·subst Z
  cases I:(kL he 0 1048576&&kL hn 0 1073741824)
  ·have h:aZ ⟨3,p,i,b,he,hn⟩=2:=by simp only[aZ,I];simp
   rw[h];exact abn p i b he hn w I
  have h:aZ ⟨3,p,i,b,he,hn⟩=if p=0/\i=0/\b=0 then 0 else 3:=by
   simp only[aZ,I];by_cases z:p=0/\i=0/\b=0<;>simp[z]
  rw[h];exact aaU p i b he hn w I
 by_cases J:k=2\/k=4
 ·have h:aZ ⟨k,p,i,b,he,hn⟩=if p=0/\i=0/\b=0/\he=0/\hn=0 then 0 else 3:=by
   have M:1<=k/\k<=4:=Y;simp only[aZ,M,and_self,not_true_eq_false,if_false,O,Z,false_and,ne_eq,not_false_eq_true,true_and];by_cases z:p=0/\i=0/\b=0<;>by_cases y:he=0/\hn=0<;>simp[z,y]<;>omega
  rw[h];exact X0 k p i b he hn w J
 have h:aZ ⟨k,p,i,b,he,hn⟩=3:=by
  have M:¬(1<=k/\k<=4):=Y;simp only[aZ,M,not_false_eq_true,if_true]
 rw[h];exact X4 k p i b he hn w (beq_eq_false_iff_ne.2 Y) (beq_eq_false_iff_ne.2 Y) (beq_eq_false_iff_ne.2 Y) (beq_eq_false_iff_ne.2 Y)
end Go.Proofs.YtefabpdniidmbaaGreatDoor
