import Derived.Test.YtefabpdniidmbaaGreatDoorRows
import Derived.WalkKit
import Derived.ProofKit
import Derived.OpenShut
import Derived.SizedLaws
import Derived.WalkSpells
import Derived.WalkLawsBesides
import Derived.Handy
import Derived.Deep.QuietTactic
import Derived.BigQuiet
import Derived.Lib.Hide
import Derived.Maps.AppendAt
import Derived.Deep.AppendLies
import Derived.RegionTactic
import Derived.OwnWalk
import Derived.Laws.Tables
import Derived.Deep.MidRow
import Derived.StillTailTactics
import Derived.OrdersHeld
import Derived.Deep.RegionHeld3
import Derived.Laws.IdiomCopy
import Derived.ChangeKeysEq
import Derived.Laws.BitsAllLaws
import Derived.Test.YtefabpdniidmbaaGreatDoorG88a2e
set_option linter.all false
set_option maxRecDepth 100000
set_option maxHeartbeats 8000000
namespace Go.Proofs.YtefabpdniidmbaaGreatDoor
open List Nat Go.Proofs.Tryz ChangeShapes WideShapes RowKit
section
open ChangeAt
def fD{α β:Type}(R:α->β->Prop):List α->List β->Prop
 |[],[]=>True
 |a::l1,b::l2=>R a b/\fD R l1 l2
 |_,_=>False
def fD.yH{α β:Type}{R:α->β->Prop}{l:List α}{b:β}{J:List β}(h:fD R l (b::J)):∃a I,l=a::I/\R a b/\fD R I J:=by
 cases l with
 |nil=>exact av h id
 |cons a I=>exact⟨a,I,E,h.1,h.2⟩
def fD.zH{α β:Type}{R:α->β->Prop}{l:List α}(h:fD R l []):l=[]:=by
 cases l with
 |nil=>rfl
 |cons a I=>exact av h id
def fD.len{α β:Type}{R:α->β->Prop}:∀ {l:List α} {k:List β},fD R l k->l.length=k.length
 |[],[],_=>rfl
 |_::_,_::_,h=>by simp[fD.len h.2]
 |[],_::_,h=>av h id
 |_::_,[],h=>av h id
def fD.app{α β:Type}{R:α->β->Prop}:∀ {l l':List α} {k J:List β},fD R l k->fD R l' J->fD R (l++l') (k++J)
 |[],_,[],_,_,I=>I
 |_::_,_,_::_,_,h,I=>⟨h.1,fD.app h.2 I⟩
 |[],_,_::_,_,h,_=>av h id
 |_::_,_,[],_,h,_=>av h id
inductive Sh0 where
 |int (k:IntKind)
 |bool
 |str
inductive Sh where
 |at_ (s:Sh0)
 |sl (bytes:Nat) (es:List Sh0)
def Sh.plain:Sh->Option Sh0
 | .at_ s=>some s
 | .sl _ _=>none
def qR(P:Program):List Field->List (List Sh)->Nat->Bool
 |[],[],_=>true
 |f::fs,l::ls,o=>f.offset==o&&P.cellsOf f.type==l.length&&qR P fs ls (o+l.length)
 |_,_,_=>false
def flat(P:Program):Nat->TypeId->Option (List Sh)
 | 0,_=>none
 |n+1,t=>
  match P.underlying t with
  |some (.int k)=>some [.at_ (.int k)]
  |some .bool=>some [.at_ .bool]
  |some .string=>some [.at_ .str]
  |some (.slice e)=>(flat P n e).bind λl=>(l.mapM Sh.plain).bind λes=>if P.cellsOf e==es.length then some [.sl (P.bytesOf e) es]else none
  |some (.struct fs)=>(fs.toList.mapM λf=>flat P n f.type).bind λls=>if qR P fs.toList ls 0&&P.cellsOf t==ls.flatten.length then some ls.flatten else none
  |some (.array m e)=>(flat P n e).bind λl=>if P.cellsOf e==l.length&&P.cellsOf t==m*l.length then some (replicate m l).flatten else none
  |_=>none
def Zk(v:Value):Sh0->Prop
 | .int k=> ∃n,v=.int k n/\(Lit.int k n).wf=true
 | .bool=> ∃b,v=.bool b
 | .str=> ∃s:ByteArray,v=.string s/\s.size<=maxLen
def Fits(W:World)(v:Value):Sh->Prop
 | .at_ s=>Zk v s
 | .sl bytes es=>(v=.slice none 0 0)\/ ∃ad n c,v=.slice (some ad) n c/\n<=c/\c<=maxLen/\c*bytes<=reachBytes/\
   ∀i,i<n-> ∃cs:List Value,fD Zk cs es/\(0<es.length->ad.block<W.heap.size)/\ ∀j u,cs[j]? =some u->W.cell? (ad.add (i*es.length+j))=some u
section
variable {H:Type}{enc:TypeId×Value->H}{P:Program}{w:World}
def D5{R:Value->Sh->Prop}{cs:List Value}:∀(fs:List Field) (ls:List (List Sh)) (o:Nat),qR P fs ls o=true->
  (∀(i:Nat) (f:Field) (l:List Sh),fs[i]? =some f->ls[i]? =some l->fD R ((cs.drop f.offset).take (P.cellsOf f.type)) l)->
  fD R ((cs.drop o).take ls.flatten.length) ls.flatten
 |[],[],o,_,_=>by simp[fD]
 |f::fs,l::ls,o,h,I=>by
  simp only[qR,Bool.and_eq_true,beq_iff_eq]at h;obtain⟨⟨h1,M⟩,O⟩:=h;have J:=I 0 f l E E;have Z:=D5 fs ls (o+l.length) O (λi f' l' hf hl=>I (i+1) f' l' (by simpa using hf) (by simpa using hl));rw[h1,M]at J;have e:(cs.drop o).take (l++ls.flatten).length=(cs.drop o).take l.length++(cs.drop (o+l.length)).take ls.flatten.length:=by
   rw[aZ,take_add,lW]
  simp only[flatten_cons];rw[e];exact fD.app J Z
 |[],_::_,_,h,_=>by simp[qR]at h
 |_::_,[],_,h,_=>by simp[qR]at h
def Ie{R:Value->Sh->Prop}{cs:List Value}{l:List Sh}:∀(m o:Nat),(∀i,i<m->fD R ((cs.drop (o+i*l.length)).take l.length) l)->
  fD R ((cs.drop o).take (m*l.length)) (replicate m l).flatten
 | 0,o,_=>by simp[fD]
 |m+1,o,h=>by
  have I:=h 0 (by omega);have J:=Ie m (o+l.length) (λi hi=>by have:=h (i+1) (by omega);rw[show o+(i+1)*l.length=o+l.length+i*l.length from by rw[mR];omega]at this;exact this);have e:(cs.drop o).take ((m+1)*l.length)=(cs.drop o).take l.length++(cs.drop (o+l.length)).take (m*l.length):=by
   rw[mR,qU,take_add,lW]
  rw[replicate_succ,flatten_cons,e];simp only[Nat.zero_mul,Nat.add_zero]at I;exact fD.app I J
def DW{e:TypeId}:∀ {ds:List (DataW H)} {d:DataW H},d∈ds-> ∀n∈d.weights P e,n∈DataW.weightsAll P e ds
 |d0::ds,d,h,n,hn=>by
  simp only[DataW.weightsAll,mem_append]
  rcases iq.1 h with rfl|h
  ·exact .inl hn
  exact .inr (DW h n hn)
 |[],_,h,_,_=>by simp at h
def Np:∀ {cs:List Value} {l:List Sh} {es:List Sh0},l.mapM Sh.plain=some es->fD (Fits w) cs l->fD Zk cs es
 |cs,[],es,h,I=>by simp at h;subst h;rw[fD.zH I];trivial
 |cs,s::l,es,h,I=>by
  obtain⟨a,l1,rfl,M,O⟩:=fD.yH I;rw[mapM_cons]at h
  cases s with
  |sl b e=>simp[Sh.plain]at h
  |at_ s=>
   cases J:l.mapM Sh.plain with
   |none=>simp[Sh.plain,J]at h
   |some Z=>
    simp[Sh.plain,J]at h;subst h;exact⟨M,Np J O⟩
def aeK:∀(n fuel:Nat) (t:TypeId) (cs:List Value) (x:DataW H×List MemPlace) (l:List Sh),
  DataW.trod enc P w 0 (λ_=>true) true fuel t cs=some x->flat P n t=some l->(∀b∈x.1.weights P t,b<=reachBytes)->(∀p∈x.2,p.block<w.heap.size)->fD (Fits w) cs l:=by
 intro n
 induction n with
 |zero=>intro fuel t cs x l _ h;simp[flat]at h
 |succ n ih=>
  intro fuel t cs x l ht O hz hb;unfold flat at O
  split at O
  ·rename_i k Z
   obtain⟨m,rfl,rfl,hw⟩:=DataW.trod_int Z ht;simp at O;subst O;exact⟨⟨m,E,hw⟩,trivial⟩
  ·rename_i Z
   obtain⟨b,rfl,rfl⟩:=DataW.trod_bool Z ht;simp at O;subst O;exact⟨⟨b,E⟩,trivial⟩
  ·rename_i Z
   obtain⟨s,rfl,rfl,hs⟩:=DataW.trod_string Z ht;simp at O;subst O;exact⟨⟨s,E,hs⟩,trivial⟩
  ·rename_i e Z
   simp only[Option.bind_eq_some_iff]at O;obtain⟨le,hle,es,hes,I⟩:=O
   split at I
   ·rename_i hce
    simp only[beq_iff_eq]at hce;simp at I;subst I
    rcases DataW.trod_slice Z ht with⟨rfl,_⟩|⟨a,len,cap,M,rest,m,_,rfl,rfl,_,hl,hm,hlen,hel,hsp,_⟩
    ·simp[Fits,fD]
    have hrest:=(hsp E).1;refine⟨.inr ⟨a,len,cap,E,hl,hm,?_,λi hi=>?_⟩,trivial⟩
    ·refine hz _ ?_;simp only[DataW.weights,Z];refine iq.2 (.inl ?_);simp only[length_map,hlen,hrest]
     congr 1
     omega
    have hi1:=hel i hi;have hi2:M[i]? =some (M[i]'(by omega)):=eT (by omega);rw[hi2,Option.bind_eq_some_iff]at hi1;obtain⟨ds,hds,htr⟩:=hi1;obtain⟨_,hdl,hdc⟩:=World.cells?_some hds;have J:M[i]'(by omega)∈M:=Di _;have hA:=ih _ _ _ _ _ htr hle (λb hb'=>hz b (by
     simp only[DataW.weights,Z];exact iq.2 (.inr (aP.2 (.inl (DW (pJ.2 ⟨_,J,E⟩) b hb'))))))
     (λp hp=>hb p (by
      simp only[mem_append];exact .inr (Dj.2 ⟨_,aP.2 (.inl J),hp⟩)))
    refine⟨ds,Np hes hA,λh0=>?_,λj u hj=>?_⟩
    ·refine hb (.cell a.block (a.off+0)) (aP.2 (.inl ?_));unfold MemPlace.row;refine pJ.2 ⟨0,?_,E⟩;rw[KH,hce];exact Nat.mul_pos (by omega) h0
    have hj':j<P.cellsOf e:=by
     have:=(dw.1 hj).1;omega
    have h1:=hdc j hj';rw[hj]at h1;have e1:(a.add (i*P.cellsOf e)).add j=a.add (i*es.length+j):=by
     rw[hce];unfold Addr.add;by_cases hi:i*es.length=0<;>by_cases hj:j=0<;>simp[hi,hj,Nat.add_assoc]
    rw[e1]at h1;exact h1
   simp at I
  ·rename_i fs Z
   simp only[Option.bind_eq_some_iff]at O;obtain⟨ls,hls,I⟩:=O
   split at I
   ·rename_i hok
    simp only[Bool.and_eq_true,beq_iff_eq]at hok;simp at I;subst I;obtain⟨xs,m,_,rfl,hcl,hxl,hg⟩:=DataW.trod_struct Z ht;have h:=D5 (R:=Fits w) (cs:=cs) (P:=P) fs.toList ls 0 hok.1 (λi f l' hfi hli=>by
     have aqD:fs[i]? =some f:=by simpa using hfi
     have h1:=hg i f aqD;have hil:i<fs.size:=(Dl.1 aqD).1;have h2:xs[i]? =some (xs[i]'(by omega)):=eT (by omega);rw[h2]at h1;have h3:=mapM_some_get hls i f hfi;rw[hli]at h3;have J:xs[i]'(by omega)∈xs:=Di _;refine ih _ _ _ _ _ h1 h3 (λb hb'=>hz b ?_) (λp hp=>hb p (Dj.2 ⟨_,J,hp⟩));simp only[DataW.weights,Z];exact DataW.weights_mem_each (j:=i) (t:=f.type) (d:=(xs[i]'(by omega)).1) (by simp[aqD]) (by simp[h2]) b hb')
    rw[drop_zero,<-hok.2,<-hcl,jM]at h;exact h
   simp at I
  ·rename_i m e Z
   simp only[Option.bind_eq_some_iff]at O;obtain⟨le,hle,I⟩:=O
   split at I
   ·rename_i hok
    simp only[Bool.and_eq_true,beq_iff_eq]at hok;simp at I;subst I;obtain⟨xs,k,_,rfl,hcl,hxl,hg⟩:=DataW.trod_array Z ht;have h:=Ie (R:=Fits w) (cs:=cs) (l:=le) m 0 (λi hi=>by
     have h1:=hg i hi;have h2:xs[i]? =some (xs[i]'(by omega)):=eT (by omega);rw[h2]at h1;have J:xs[i]'(by omega)∈xs:=Di _;have h4:=ih _ _ _ _ _ h1 hle (λb hb'=>hz b (by
      simp only[DataW.weights,Z];exact DW (pJ.2 ⟨_,J,E⟩) b hb')) (λp hp=>hb p (Dj.2 ⟨_,J,hp⟩))
     rw[hok.1]at h4;rw[fU];exact h4)
    rw[drop_zero,<-hok.2,<-hcl,jM]at h;exact h
   simp at I
  simp at O
def TN(P:Program)(W:World)(v:Value)(t:TypeId):Prop:=
 (∃base,Value.okWide P W .any base t v)/\ ∃l,flat P 30 t=some l/\fD (Fits W) v.cells.toList l
def aby{W:World}{base:Nat}:∀ {ts:List TypeId} {vs:List Value} {ds:List (DataW H)} {ps:List MemPlace},DataW.TrodAll enc P W 0 (λ_=>true) true ts vs ds ps->
  (∀(j:Nat) t v,ts[j]? =some t->vs[j]? =some v->Value.okWide P W .any base t v)->(∀t∈ts,(flat P 30 t).isSome=true)->
  (∀b∈DataW.weightsEach P ts ds,b<=reachBytes)->(∀p∈ps,p.block<W.heap.size)->fD (TN P W) vs ts
 |[],vs,ds,ps,h,_,_,_,_=>by obtain⟨rfl,_⟩:=trodAll_nil h;trivial
 |t::ts,vs,ds,ps,h,hv,Z,hz,hb=>by
  obtain⟨v,vs',d,ds',p,q,rfl,rfl,rfl,h0,hr⟩:=trodAll_cons h;refine⟨⟨⟨base,hv 0 t v E E⟩,?_⟩,aby hr (λj M v' h1 h2=>hv (j+1) M v' (by simpa using h1) (by simpa using h2)) (λM I=>Z M (dM _ I))
   (λb I=>hz b (by simp only[DataW.weightsEach,mem_append];exact .inr I)) (λx O=>hb x (aP.2 (.inr O)))⟩
  have hs:=Z t (gJ ..);obtain⟨l,hl⟩:=Option.isSome_iff_exists.1 hs;obtain⟨J,ht⟩:=h0;exact⟨l,hl,aeK 30 J t _ _ l ht hl (λb I=>hz b (by simp only[DataW.weightsEach,mem_append];exact .inl I)) (λx O=>hb x (aP.2 (.inl O)))⟩
def Fg(O:laidOutB P=true){W W':World}(Z:Below W.heap.size W W'):∀ {ts:List TypeId} {vs:List Value} {ds:List (DataW H)} {ps:List MemPlace},
  DataW.TrodAll enc P W 0 (λ_=>true) true ts vs ds ps->(∀t∈ts,P.readableRec t=true/\t<P.types.size)->(∀p∈ps,p.block<W.heap.size)->
  DataW.TrodAll enc P W' 0 (λb=>decide (b<W.heap.size)) true ts vs ds ps
 |[],vs,ds,ps,h,_,_=>by
  obtain⟨rfl,rfl,rfl⟩:=trodAll_nil h;exact trodAll_mk0
 |t::ts,vs,ds,ps,h,hr,I=>by
  obtain⟨v,vs',d,ds',p,q,rfl,rfl,rfl,h0,h1⟩:=trodAll_cons h;have J:=hr t (gJ ..);exact⟨p,q,Below.trod O J.1 J.2 h0 Z (λx M=>I x (aP.2 (.inl M))),
   Fg O Z h1 (λt' h'=>hr t' (dM _ h')) (λx M=>I x (aP.2 (.inr M))),E⟩
def abz(P:Program)(ts:List TypeId):Bool:=laidOutB P&&ts.all λt=>(flat P 30 t).isSome&&P.readableRec t&&decide (t<P.types.size)
end
end
def kQ{α:Sort _}{a b:α}(h:a=b:=by kernel_rfl):a=b:=h
def Y{p:Prop}(h:p:=by omega):p:=h
def dQ{p:Prop}(h:p:=by decide):p:=h
def iQ{p:Prop}(h:p:=by simp):p:=h
def uQ{p:Prop}(h:p:=by(dsimp only;omega)):p:=h
def jQ{p:Prop}(h:p:=by(simp;omega)):p:=h
def lQ{p:Prop}(h:p:=by(simp only[maxLen];omega)):p:=h
def gQ{p:Prop}(h:p:=by go_grown):p:=h
def hQ{p:Prop}(h:p:=by(unfold reachBytes;omega)):p:=h
def fQ{s f k:Nat}(h:∀(b o:Nat) (w:World),(Instr.fieldAt s (.pointer (some ⟨b,o,none⟩)) f).run prog w=.ok (.pointer (some ⟨b,o+k,none⟩)) w:=by(intro _ _ _;kernel_rfl)):∀(b o:Nat) (w:World),(Instr.fieldAt s (.pointer (some ⟨b,o,none⟩)) f).run prog w=.ok (.pointer (some ⟨b,o+k,none⟩)) w:=h
def eQ{f:FuncId}(h:(prog.funcs[f]?).map (λq=>(q.name== "runtime.NumGoroutine",q.body.isSome))=some (false,true):=by kernel_rfl)(args:Array Value)(w:World):(callFunc f args).run prog w=.ok (.enter f args) w:=by
 cases I:prog.funcs[f]? with
 |none=>rw[I]at h;cases h
 |some q=>
  rw[I]at h;simp only[Option.map_some,Option.some.injEq,Prod.mk.injEq]at h;obtain⟨h1,J⟩:=h;obtain⟨c,M⟩:=Option.isSome_iff_exists.mp J;have h1:q.name≠ "runtime.NumGoroutine" :=by simpa using h1
  simp[callFunc,I,h1,M,mark]
section
open ChangeAt
def Rd(w:World)(B size:Nat)(A:Option Addr)(n:Nat)(xs:List Value):Prop:=
 xs.length=n*size/\(0<n-> ∃b off,A=some ⟨b,off,none⟩/\b<B/\ ∀j u,xs[j]? =some u->w.cell? ⟨b,off+j,none⟩=some u)
section
variable {w w':World}{B B' size n:Nat}{A:Option Addr}{xs:List Value}{W:World}{b:Nat}{row:Array Value}{t:TypeId}{a0 a1 a2 a3 a4 a5 a6 a7 a8 a9 a10 a11 a12 a13 a14 a15:Value}
def Rd.Ur:Rd w B size A 0 []:=⟨by simp,λh=>av h Y⟩
def Rd.keep(h:Rd w B size A n xs)(J:∀p:Addr,p.block<B->w'.cell? p=w.cell? p):Rd w' B size A n xs:=
 ⟨h.1,λhn=>by
  obtain⟨b,off,e,I,M⟩:=h.2 hn;exact⟨b,off,e,I,λj u O=>(J _ I).trans (M j u O)⟩⟩
def Rd.more(h:Rd w B size A n xs)(J:B<=B'):Rd w B' size A n xs:=
 ⟨h.1,λhn=>by
  obtain⟨b,off,e,M,I⟩:=h.2 hn;exact⟨b,off,e,by omega,I⟩⟩
def Rd.below{C:Nat}(h:Rd w B size A n xs)(I:Below C w w')(J:B<=C):Rd w' B size A n xs:=h.keep λ_ M=>I.cell Y
def Rd.on(h:Rd w w.heap.size size A n xs)(I:Below w.heap.size w w'):Rd w' w'.heap.size size A n xs:=(h.below I aB).more I.size
def Rd.drewN(h:Rd w B size A n xs)(k:Nat):Rd (w.drewN k) B size A n xs:=h
def Rd.alloc(h:Rd w B size A n xs)(I:B<=w.heap.size)(o:Obj):Rd (w.alloc o) B size A n xs:=h.keep λp J=>World.cell?_alloc_lt w o p Y
def Rd.setCell(h:Rd w B size A n xs){p:Addr}(I:B<=p.block)(u:Value):Rd (w.setCell p u) B size A n xs:=
 h.keep λq J=>World.cell?_setCell_other w p q u (λe=>by subst e;omega)
def Rd.grown(h:Rd w B size A n xs){row:Option Nat}(I:w.grownBy w' row)(M:B<=w.heap.size)(J:∀g,row=some g->B<=g):Rd w' B size A n xs:=
 h.keep λp O=>World.cell?_of_block (I.block p.block Y (λe=>by have:=J _ e.symm;omega))
def Rd.wE{base:Nat}{e:TypeId}{c:Nat}(h:w.ownsRow base e size (.slice A n c) n xs):Rd w w.heap.size size A n xs:=by
 obtain⟨h1,O⟩:=h;refine⟨h1,λhn=>?_⟩
 rcases O with⟨_,h0⟩|⟨g,cap,Z,hv,_,J,hnc,_,hsz,M⟩
 ·omega
 have hA:A=some ⟨g,0,none⟩:=by injection hv
 subst hA;have hg:g<w.heap.size:=by
  rcases sF g w.heap.size with h|h
  ·exact h
  rw[KI h]at J;cases J
 refine⟨g,0,E,hg,λj u I=>?_⟩;rw[fU,cell_of_row w g j _ e (0,0) J];have hj:j<xs.length:=(dw.1 I).1;rw[<-M]at I;rw[xY Y]at I;simpa using I
def Rd.Nq{base:Nat}{e:TypeId}{c:Nat}(h:w.ownsRow base e size (.slice A n c) n xs):Rd w w.heap.size size A n xs:=Rd.wE h
def Rd.akz(w:World)(t:TypeId)(xs:List Value)(n size:Nat)(h:xs.length=n*size):Rd (w.alloc (.cells xs.toArray t)) (w.heap.size+1) size (some ⟨w.heap.size,0,none⟩) n xs:=by
 refine⟨h,λ_=>⟨_,0,E,by omega,λj u I=>?_⟩⟩;rw[World.cell?_alloc_mark];simpa using I
def Rd.at_{k:Nat}(h:Rd w B 1 A n xs)(O:k<n):∃b off u,A=some ⟨b,off,none⟩/\b<B/\xs[k]? =some u/\w.cell? ⟨b,off+k,none⟩=some u:=by
 obtain⟨b,off,e,J,M⟩:=h.2 Y;have I:k<xs.length:=by have:=h.1;omega
 exact⟨b,off,xs[k],e,J,eT I,M k _ (eT I)⟩
def Rd.cut(h:Rd w B size A n xs){k cap:Nat}(O:k<=n)(Z:n<=cap):
 Rd w B size (if cap=k then A else A.map (·.add (k*size))) (n-k) (xs.drop (k*size)):=by
 refine⟨by rw[dO,h.1,FY],λhn=>?_⟩;obtain⟨b,off,rfl,J,I⟩:=h.2 Y;rw[ah Y];refine⟨b,off+k*size,?_,J,λj u M=>?_⟩
 ·simp only[Option.map_some,Option.some.injEq];unfold Addr.add
  split
  ·simp
  rfl
 rw[kR];exact I _ u (by rw[<-M,Dm])
def EU{W I:World}(J:Below W.heap.size W I):(∀b o,b<W.heap.size->I.cell? ⟨b,o,none⟩=W.cell? ⟨b,o,none⟩)/\(∀b o,b<W.heap.size->I.frozen? ⟨b,o,none⟩=W.frozen? ⟨b,o,none⟩):=
 ⟨λb o h=>J.cell (p:=⟨b,o,none⟩) h,λb o h=>J.frozen (p:=⟨b,o,none⟩) h⟩
def al3{k:IntKind}{a b:Int}{x:Value}(h:a=b):Ending.returned (.tuple #[.int k a,x])=.returned (.tuple #[.int k b,x]):=by rw[h]
def jr{k:IntKind}{a b:Int}(h:a=b):Ending.returned (.int k a)=.returned (.int k b):=by rw[h]
def Jq(l:List UInt8):List Value:=l.map λb=>.int .u8 b.toNat
def byteCells_length(l:List UInt8):(Jq l).length=l.length:=by simp[Jq]
def Ul(l k:List UInt8):Jq (l++k)=Jq l++Jq k:=by simp[Jq]
def Rd.qD{w:World}{B n:Nat}{A:Option Addr}{l:List UInt8}(h:Rd w B 1 A n (Jq l)):l.length=n:=by
 have:=h.1;rw[byteCells_length]at this;omega
structure iM (w:World)(b:Nat)(row:Array Value)(t:TypeId):Prop where
 Oy:w.heap[b]? =some (.cells row t (0,0))
def LU{B:Nat}{a w:World}(h:Below B a w)(q:Nat):Below B a (w.drewN q):=h.trans ⟨E,E,E,aB,λ_ _=>E⟩
def iM.lt(h:iM w b row t):b<w.heap.size:=by
 rcases sF b w.heap.size with h1|h1
 ·exact h1
 have:=h.Oy;rw[KI h1]at this
 cases this
def iM.new(w:World)(row:Array Value)(t:TypeId):iM (w.alloc (.cells row t)) w.heap.size row t:=by
 refine⟨?_⟩
 show(w.heap.push _)[_]? =_
 rw[KJ,au E]
def iM.new1(w:World)(h:Obj)(row:Array Value)(t:TypeId):iM ((w.alloc h).alloc (.cells row t)) (w.heap.size+1) row t:=by
 have:=iM.new (w.alloc h) row t;simpa using this
def iM.new2(w:World)(h I:Obj)(row:Array Value)(t:TypeId):iM (((w.alloc h).alloc I).alloc (.cells row t)) (w.heap.size+1+1) row t:=by
 have:=iM.new ((w.alloc h).alloc I) row t;simpa using this
def iM.alloc(h:iM w b row t)(o:Obj):iM (w.alloc o) b row t:=⟨by rw[Below.heap_alloc _ _ _ h.lt];exact h.Oy⟩
def iM.drewN(h:iM w b row t)(q:Nat):iM (w.drewN q) b row t:=⟨h.Oy⟩
def iM.drew(h:iM w b row t):iM w.drew b row t:=⟨h.Oy⟩
def iM.below{B:Nat}(h:iM w b row t)(I:Below B w w')(J:b<B):iM w' b row t:=⟨(I.block b J).trans h.Oy⟩
def iM.on(h:iM w b row t)(I:Below w.heap.size w w'):iM w' b row t:=h.below I h.lt
def iM.grown(h:iM w b row t){r:Option Nat}(I:w.grownBy w' r)(J:r≠some b):iM w' b row t:=⟨(I.block b h.lt (λe=>J e.symm)).trans h.Oy⟩
def iM.other(h:iM w b row t)(p:Addr)(I:b≠p.block)(u:Value):iM (w.setCell p u) b row t:=⟨by rw[Below.heap_setCell _ _ _ _ I];exact h.Oy⟩
def iM.yO(h:iM w b row t)(k:Nat)(u:Value):iM (w.setCell ⟨b,k,none⟩ u) b (row.setIfInBounds k u) t:=by
 refine⟨?_⟩;have I:=h.Oy;simp only[World.setCell,Array.getElem?_modify,I];simp
def iM.cell(h:iM w b row t){k:Nat}{u:Value}(I:row[k]? =some u):w.cell? ⟨b,k,none⟩=some u:=by
 rw[cell_of_row w b k _ _ (0,0) h.Oy];exact I
def iM.free(h:iM w b row t)(j:Nat):w.frozen? ⟨b,j,none⟩=false:=by
 have:=h.Oy;simp[World.frozen?,this]
def iM.cast{row':Array Value}(h:iM w b row t)(e:row=row'):iM w b row' t:=e▸h
def iM.at_{b':Nat}(h:iM w b row t)(e:b=b'):iM w b' row t:=e▸h
def iM.xZ(h:iM w b #[a0,a1] t):w.cell? ⟨b,0,none⟩=some a0/\w.cell? ⟨b,1,none⟩=some a1/\ ∀j,w.frozen? ⟨b,j,none⟩=false:=⟨h.cell E,h.cell E,h.free⟩
def iM.ED(h:iM w b #[a0,a1,a2,a3,a4,a5,a6,a7] t):w.cell? ⟨b,0,none⟩=some a0/\w.cell? ⟨b,1,none⟩=some a1/\w.cell? ⟨b,2,none⟩=some a2/\w.cell? ⟨b,3,none⟩=some a3/\w.cell? ⟨b,4,none⟩=some a4/\w.cell? ⟨b,5,none⟩=some a5/\w.cell? ⟨b,6,none⟩=some a6/\w.cell? ⟨b,7,none⟩=some a7/\ ∀j,w.frozen? ⟨b,j,none⟩=false:=⟨h.cell E,h.cell E,h.cell E,h.cell E,h.cell E,h.cell E,h.cell E,h.cell E,h.free⟩
def iM.uU(h:iM w b #[a0,a1,a2,a3,a4,a5,a6,a7,a8] t):w.cell? ⟨b,0,none⟩=some a0/\w.cell? ⟨b,1,none⟩=some a1/\w.cell? ⟨b,2,none⟩=some a2/\w.cell? ⟨b,3,none⟩=some a3/\w.cell? ⟨b,4,none⟩=some a4/\w.cell? ⟨b,5,none⟩=some a5/\w.cell? ⟨b,6,none⟩=some a6/\w.cell? ⟨b,7,none⟩=some a7/\w.cell? ⟨b,8,none⟩=some a8/\ ∀j,w.frozen? ⟨b,j,none⟩=false:=⟨h.cell E,h.cell E,h.cell E,h.cell E,h.cell E,h.cell E,h.cell E,h.cell E,h.cell E,h.free⟩
def iM.mU(h:iM w b #[a0,a1,a2,a3,a4,a5,a6,a7,a8,a9] t):w.cell? ⟨b,0,none⟩=some a0/\w.cell? ⟨b,1,none⟩=some a1/\w.cell? ⟨b,2,none⟩=some a2/\w.cell? ⟨b,3,none⟩=some a3/\w.cell? ⟨b,4,none⟩=some a4/\w.cell? ⟨b,5,none⟩=some a5/\w.cell? ⟨b,6,none⟩=some a6/\w.cell? ⟨b,7,none⟩=some a7/\w.cell? ⟨b,8,none⟩=some a8/\w.cell? ⟨b,9,none⟩=some a9/\ ∀j,w.frozen? ⟨b,j,none⟩=false:=⟨h.cell E,h.cell E,h.cell E,h.cell E,h.cell E,h.cell E,h.cell E,h.cell E,h.cell E,h.cell E,h.free⟩
end
end
section
open Go.RowKit
section
variable {P:Program}(w:World)
def abU(base:Nat)(t ty e:TypeId)(i:TypeInfo)(size:Nat)(J:P.underlying t=some (.slice e))(hi:P.info? e=some i)
  (v:Value) (n:Nat) (xs:List Value) (h:w.ownsRow base e size v n xs) (c:Nat):(Builtin.append_ #[t,t] ty #[v,.slice none 0 c]).run P w=.ok v w:=by
 rcases h.2 with⟨rfl,rfl⟩|⟨g,cap,M,rfl,_,_,I,_⟩
 ·simp[Builtin.append_,run_underlying J,sizeOf,typeInfo,hi,Builtin.lenOf,Builtin.firstCells]
 simp[Builtin.append_,run_underlying J,sizeOf,typeInfo,hi,Builtin.lenOf,Builtin.firstCells,I,storeCells]
def tY(base:Nat)(t ty e:TypeId)(i:TypeInfo)(z:Value)(size bytes:Nat)(ht:P.underlying t=some (.slice e))(hi:P.info? e=some i)(hz:i.zero=some z)
  (O:i.size=size) (hby:i.bytes=bytes) (hzs:z.cells.size=size) (hsz:0<size)
  (v:Value) (n:Nat) (xs:List Value) (I:w.ownsRow base e size v n xs)
  (B:Nat) (A:Option Addr) (m c:Nat) (news:List Value) (hr:Rd w B size A m news) (h1:∀u∈news,u.oneCell'=true)
  (h63:n+m<=maxLen) (J:(n+m)*bytes<=140737488355328) (Z:base<=w.heap.size):
  ∃v' w',(Builtin.append_ #[t,t] ty #[v,.slice A m c]).run P w=.ok v' w'/\w'.ownsRow base e size v' (n+m) (xs++news)/\w.grownBy w' v.ownBlock/\
   (v'.ownBlock=v.ownBlock\/v'.ownBlock=some w.heap.size):=by
 rcases A with _|ad
 ·have hm:m=0:=by
   rcases Au m with h0|h0
   ·exact h0
   obtain⟨b,off,h,_⟩:=hr.2 h0
   cases h
  subst hm;have hn:news=[]:=FZ (by simpa using hr.1);subst hn;exact⟨v,w,abU w base t ty e i size ht hi v n xs I c,by simpa using I,World.grownBy.refl w _,.inl E⟩
 have M:∀j u,news[j]? =some u->w.cell? (ad.add j)=some u:=by
  intro j u hu
  rcases Au m with h0|h0
  ·subst h0;have hn:news=[]:=FZ (by simpa using hr.1);subst hn;simp at hu
  obtain⟨b,off,h,_,hc⟩:=hr.2 h0
  injection h with h
  subst h;rw[Go.WideShapes.add_plain];exact hc j u hu
 obtain⟨v',w',hrun,h2,h3,_,h5⟩:=run_append_own_at (P:=P) w base t ty e i z size bytes ht hi hz O hby hzs hsz v n xs I ad m c news hr.1 M h1 h63 J Z;exact⟨v',w',hrun,h2,h3,h5⟩
def acs{o:Oper}{a:Act}{K:Act->World->Prop}{Q:Exit->Act->World->Prop}(s x:Operand)(t:TypeId)
  (ho:o.op=.call {callee:=.builtin .append,args:= #[s,x],argTypes:= #[t,t]})
  (base:Nat) (e:TypeId) (i:TypeInfo) (z:Value) (size bytes:Nat) (ht:P.underlying t=some (.slice e)) (hi:P.info? e=some i) (hz:i.zero=some z)
  (J:i.size=size) (hby:i.bytes=bytes) (hzs:z.cells.size=size) (hsz:0<size)
  (v:Value) (n:Nat) (xs:List Value) (hs:a.eval s=v) (O:w.ownsRow base e size v n xs)
  (B:Nat) (A:Option Addr) (m c:Nat) (news:List Value) (hx:a.eval x=.slice A m c) (hr:Rd w B size A m news) (h1:∀u∈news,u.oneCell'=true)
  (h63:n+m<=maxLen) (I:(n+m)*bytes<=140737488355328) (M:base<=w.heap.size)
  (h:∀v' w',w'.ownsRow base e size v' (n+m) (xs++news)->w.grownBy w' v.ownBlock->(v'.ownBlock=v.ownBlock\/v'.ownBlock=some w.heap.size)->K (a.put o.dst v') w'):o.wp P a w K Q:=by
 obtain⟨v',w',Z,h2,h3,h4⟩:=tY (P:=P) w base t o.type e i z size bytes ht hi hz J hby hzs hsz v n xs O B A m c news hr h1 h63 I M;unfold Oper.wp execOp;simp only[ho,resolve,invoke,builtin,Sem.run_bind,Sem.run_pure,Result.andThen_ok,map_toArray,map_cons,map_nil,hs,hx,Z];exact h v' w' h2 h3 h4
def kW{ops:Array Oper}{rest:List Oper}{o:Oper}{a:Act}{Q:Exit->Act->World->Prop}(Z:o.guard=none)(s x:Operand)(t:TypeId)
  (ho:o.op=.call {callee:=.builtin .append,args:= #[s,x],argTypes:= #[t,t]})
  (base:Nat) (e:TypeId) (i:TypeInfo) (z:Value) (size bytes:Nat) (ht:P.underlying t=some (.slice e)) (hi:P.info? e=some i) (hz:i.zero=some z)
  (J:i.size=size) (hby:i.bytes=bytes) (hzs:z.cells.size=size) (hsz:0<size)
  (v:Value) (n:Nat) (xs:List Value) (hs:a.eval s=v) (O:w.ownsRow base e size v n xs)
  (B:Nat) (A:Option Addr) (m c:Nat) (news:List Value) (hx:a.eval x=.slice A m c) (hr:Rd w B size A m news) (h1:∀u∈news,u.oneCell'=true)
  (h63:n+m<=maxLen) (I:(n+m)*bytes<=140737488355328) (M:base<=w.heap.size)
  (h:∀v' w',w'.ownsRow base e size v' (n+m) (xs++news)->w.grownBy w' v.ownBlock->(v'.ownBlock=v.ownBlock\/v'.ownBlock=some w.heap.size)->wpList P ops Q rest (a.put o.dst v') w'):wpList P ops Q (o::rest) a w:=
 wpList_plain Z λ_ hK=>acs w s x t ho base e i z size bytes ht hi hz J hby hzs hsz v n xs hs O B A m c news hx hr h1 h63 I M λv' w' h2 h3 h4=>hK _ _ (h v' w' h2 h3 h4)
end
def kH(w:World)(base:Nat)(e:TypeId)(size:Nat):w.ownsRow base e size (.slice none 0 0) 0 []:=⟨by simp,.inl ⟨E,E⟩⟩
def nX{w:World}{base:Nat}{e:TypeId}{size:Nat}{v:Value}{n:Nat}{xs:List Value}(h:w.ownsRow base e size v n xs):∃A c,v=.slice A n c/\n<=c/\c<=maxLen:=by
 rcases h.2 with⟨rfl,rfl⟩|⟨g,cap,J,rfl,_,_,I,M,_⟩
 ·exact⟨none,0,E,aB,aG _⟩
 exact⟨_,cap,E,I,M⟩
def Uf(l:List UInt8):∀u∈Jq l,u.oneCell'=true:=by
 intro u h;simp only[Jq,mem_map]at h;obtain⟨b,_,rfl⟩:=h;rfl
def _root_.Go.World.ownsRow.Cg{w:World}{base:Nat}{e:TypeId}{size:Nat}{v:Value}{n:Nat}{xs:List Value}(h:w.ownsRow base e size v n xs)(k:Nat)(I:v.ownBlock=some k):base<=k:=by
 rcases h.2 with⟨rfl,_⟩|⟨g,cap,J,rfl,M,_⟩
 ·simp[Value.ownBlock]at I
 simp[Value.ownBlock]at I;omega
def _root_.Go.World.ownsRow.lower{w:World}{base base':Nat}{e:TypeId}{size:Nat}{v:Value}{n:Nat}{xs:List Value}(h:w.ownsRow base e size v n xs)(M:base'<=base):w.ownsRow base' e size v n xs:=by
 obtain⟨h1,I⟩:=h;refine⟨h1,?_⟩
 rcases I with I|⟨g,cap,J,hv,O,r⟩
 ·exact .inl I
 exact .inr ⟨g,cap,J,hv,gB M O,r⟩
def asz{v v':Value}{m:Nat}(h:v'.ownBlock=v.ownBlock\/v'.ownBlock=some m)(P:Nat->Prop)(h1:∀k,v.ownBlock=some k->P k)(J:P m):∀k,v'.ownBlock=some k->P k:=by
 intro k I
 rcases h with h|h
 ·exact h1 k (h.symm.trans I)
 rw[h]at I
 cases I;exact J
def abA(w:World)(row:Array Value)(e:TypeId)(n size:Nat)(h:row.size=n*size)(hn:n<=maxLen):(w.alloc (.cells row e)).ownsRow w.heap.size e size (.slice (some ⟨w.heap.size,0,none⟩) n n) n row.toList:=by
 refine⟨by simpa using h,.inr ⟨w.heap.size,n,row,E,aB,?_,aB,hn,h,?_⟩⟩
 ·show(w.heap.push _)[_]? =_
  rw[KJ,au E]
 exact kg (by simpa using oz h)
def Qj{w w':World}{base:Nat}{e:TypeId}{size:Nat}{v:Value}{n:Nat}{xs:List Value}(h:w.ownsRow base e size v n xs)(Z:Below w.heap.size w w'):w'.ownsRow base e size v n xs:=by
 obtain⟨h1,I⟩:=h;refine⟨h1,?_⟩
 rcases I with I|⟨g,cap,J,hv,hg,M,r⟩
 ·exact .inl I
 have O:g<w.heap.size:=by
  rcases sF g w.heap.size with h|h
  ·exact h
  rw[KI h]at M;cases M
 exact .inr ⟨g,cap,J,hv,hg,(Z.block g O).trans M,r⟩
def kS(w:World)(e:TypeId)(size:Nat)(n:Nat)(xs:List Value)(en:Ending)(w':World):Prop:=
 ∃A c,en=.returned (.slice A n c)/\Below w.heap.size w w'/\w'.ownsRow w.heap.size e size (.slice A n c) n xs
def kS.of{w w':World}{e:TypeId}{size n:Nat}{v:Value}{xs:List Value}(I:Below w.heap.size w w')(h:w'.ownsRow w.heap.size e size v n xs):kS w e size n xs (.returned v) w':=by
 obtain⟨A,c,rfl,_⟩:=nX h;exact⟨A,c,E,I,h⟩
end
section
open ChangeAt
structure wS (w:World)(g:Nat)(w':World):Prop where
 os:w'.os=w.os
 tape:w'.tape=w.tape
 output:w'.output=w.output
 size:w'.heap.size=w.heap.size
 block:∀k,k≠g->w'.heap[k]? =w.heap[k]?
section
variable {w w' a:World}{g B:Nat}{P:Program}
def wS.below(h:wS w g w')(I:B<=g):Below B w w':=⟨h.os,h.tape,h.output,oz h.size.symm,λk J=>h.block k Y⟩
def wS.next(h:wS w g w')(I:Below B a w)(J:B<=g):Below B a w':=I.trans (h.below J)
def wS.Oy{b:Nat}{row:Array Value}{t:TypeId}(h:wS w g w')(J:iM w b row t)(I:b≠g):iM w' b row t:=⟨(h.block b I).trans J.Oy⟩
def wS.own{base:Nat}{e:TypeId}{size:Nat}{v:Value}{n:Nat}{xs:List Value}(h:wS w g w')(O:w.ownsRow base e size v n xs)(I:∀k,v.ownBlock=some k->k≠g):w'.ownsRow base e size v n xs:=by
 obtain⟨h1,J⟩:=O;refine⟨h1,?_⟩
 rcases J with J|⟨k,cap,M,hv,Z,hh,r⟩
 ·exact .inl J
 exact .inr ⟨k,cap,M,hv,Z,(h.block k (I k (by rw[hv];rfl))).trans hh,r⟩
def wS.rd{size n:Nat}{A:Option Addr}{xs:List Value}(h:wS w g w')(I:Rd w B size A n xs)(J:B<=g):Rd w' B size A n xs:=I.below (h.below J) aB
def GD{base:Nat}{e:TypeId}{size:Nat}{v:Value}{n:Nat}{xs:List Value}(h:w.ownsRow base e size v n xs)(k:Nat)(I:v.ownBlock=some k):k<w.heap.size:=by
 rcases h.2 with⟨rfl,_⟩|⟨g',cap,M,rfl,_,J,_⟩
 ·simp[Value.ownBlock]at I
 simp[Value.ownBlock]at I;subst I
 rcases sF g' w.heap.size with h|h
 ·exact h
 rw[KI h]at J;cases J
def Xu(w:World)(a:Addr)(u:Value):wS w a.block (w.setCell a u):=by
 refine⟨E,E,E,by simp[World.setCell],λk h=>?_⟩;exact Below.heap_setCell _ _ _ _ h
def GH(w:World)(g k:Nat)(u:Value):wS w g (w.setCell ⟨g,k,none⟩ u):=Xu w ⟨g,k,none⟩ u
def Jr(w:World)(g:Nat):wS w g w.drew:=⟨E,E,E,E,λ_ _=>E⟩
def wS.trans{w w' I:World}{g:Nat}(h:wS w g w')(J:wS w' g I):wS w g I:=⟨J.os.trans h.os,J.tape.trans h.tape,J.output.trans h.output,J.size.trans h.size,λk M=>(J.block k M).trans (h.block k M)⟩
def aae(w:World)(g:Nat)(cs:Array Value):wS w g (w.setRow g cs):=by
 refine⟨E,E,E,by simp,λk h=>?_⟩;simp only[World.setRow,Array.getElem?_modify];rw[ah Y]
def wp_store_row{o:Oper}{a:Act}{w:World}{K:Act->World->Prop}{Q:Exit->Act->World->Prop}(ty:TypeId)(x y:Operand)(M:o.op=.store ty x y)
  (g:Nat) (O:a.eval x=.pointer (some ⟨g,0,none⟩)) (cs:Array Value) (Z:a.eval y=.agg cs) (t:TypeId) (I:Array Value) (J:iM w g I t)
  (hi:(P.info? ty).map (·.size)=some cs.size) (hs:I.size=cs.size) (h1:cs.toList.all (·.oneCell')=true)
  (h:∀w',iM w' g cs t->wS w g w'->K (a.put o.dst undef) w'):o.wp P a w K Q:=by
 have h1:cs.all (·.oneCell')=true:=by simpa using h1
 have hk:=h (w.setRow g cs) ⟨setRow_heap w g I cs t (0,0) J.Oy⟩ (aae w g cs);unfold Oper.wp execOp;simp only[M,O,Z,Instr.storeAt,Instr.sureAddr,Sem.run_bind,Sem.run_pure,Result.andThen_ok,run_storeVar_row w g t ty I cs J.Oy hi hs h1];exact hk
def xS{ops:Array Oper}{o:Oper}{a:Act}{w:World}{K:Act->World->Prop}{Q:Exit->Act->World->Prop}{mP:Prop}(J:o.guard=none)(ty:TypeId)(x y:Operand)(M:o.op=.store ty x y)
  (g:Nat) (O:a.eval x=.pointer (some ⟨g,0,none⟩)) (cs:Array Value) (Z:a.eval y=.agg cs) (t:TypeId) (I:Array Value) (hg:iM w g I t)
  (hi:(P.info? ty).map (·.size)=some cs.size) (hs:I.size=cs.size) (h1:cs.toList.all (·.oneCell')=true)
  (h:∀w',iM w' g cs t->wS w g w'->K (a.put o.dst undef) w'):if Region.wanted o (yielded ops a.tmps)=true then Oper.wp P o a w K Q else mP:=by
 rw[au (by simp[Region.wanted,J])];exact wp_store_row ty x y M g O cs Z t I hg hi hs h1 h
def TS{ops:Array Oper}{rest:List Oper}{o:Oper}{a:Act}{w:World}{Q:Exit->Act->World->Prop}(J:o.guard=none)(ty:TypeId)(x y:Operand)(M:o.op=.store ty x y)
  (g:Nat) (O:a.eval x=.pointer (some ⟨g,0,none⟩)) (cs:Array Value) (Z:a.eval y=.agg cs) (t:TypeId) (I:Array Value) (hg:iM w g I t)
  (hi:(P.info? ty).map (·.size)=some cs.size) (hs:I.size=cs.size) (h1:cs.toList.all (·.oneCell')=true)
  (h:∀w',iM w' g cs t->wS w g w'->wpList P ops Q rest (a.put o.dst undef) w'):wpList P ops Q (o::rest) a w:=
 wpList_plain J λ_ hK=>wp_store_row ty x y M g O cs Z t I hg hi hs h1 (λw' hb hu=>hK _ _ (h w' hb hu))
end
def qN(w:World)(B:Nat)(e:TypeId)(size:Nat)(A:Option Addr)(n c:Nat)(xs:List Value):Prop:=
 xs.length=n*size/\n<=c/\c<=maxLen/\((A=none/\c=0)\/ ∃g o cur,A=some ⟨g,o,none⟩/\B<=g/\w.heap[g]? =some (.cells cur e)/\o+c*size<=cur.size/\(cur.toList.drop o).take (n*size)=xs)
inductive OJ
 |Oy (b:Nat) (row:Array Value) (t:TypeId)
 |own (e:TypeId) (size:Nat) (v:Value) (n:Nat) (xs:List Value)
 |rd (size:Nat) (A:Option Addr) (n:Nat) (xs:List Value)
 |loc (b:Nat) (R:Obj->Prop)
 |dR (size:Nat) (A:Option Addr) (n:Nat) (xs:List Value)
 |off (e:TypeId) (size:Nat) (A:Option Addr) (n c:Nat) (xs:List Value)
def OJ.foot:OJ->Option Nat
 | .Oy b _ _=>some b
 | .own _ _ v _ _=>v.ownBlock
 | .rd .. =>none
 | .loc b _=>some b
 | .dR _ A _ _=>A.map (·.block)
 | .off _ _ A _ _ _=>A.map (·.block)
def OJ.holds(B:Nat)(w:World):OJ->Prop
 | .Oy b row t=>B<=b/\iM w b row t
 | .own e s v n xs=>w.ownsRow B e s v n xs
 | .rd s A n xs=>Rd w B s A n xs
 | .loc b R=>B<=b/\ ∃o,w.heap[b]? =some o/\R o
 | .dR s A n xs=>Rd w w.heap.size s A n xs/\ ∀a,A=some a->B<=a.block/\a.block<w.heap.size
 | .off e s A n c xs=>qN w B e s A n c xs
structure St (B:Nat)(w0 w:World)(fs:List OJ):Prop where
 Qe:Below B w0 w
 base:B<=w.heap.size
 all:∀(i:Nat) (f:OJ),fs[i]? =some f->f.holds B w
 sep:∀(i j:Nat) (f g:OJ),i≠j->fs[i]? =some f->fs[j]? =some g-> ∀k,f.foot=some k->g.foot≠some k
def air{w w':World}{base:Nat}{e:TypeId}{size:Nat}{v:Value}{n:Nat}{xs:List Value}(h:w.ownsRow base e size v n xs)(O:∀k,v.ownBlock=some k->w'.heap[k]? =w.heap[k]?):w'.ownsRow base e size v n xs:=by
 obtain⟨h1,I⟩:=h;refine⟨h1,?_⟩
 rcases I with I|⟨k,cap,J,hv,M,Z,r⟩
 ·exact .inl I
 exact .inr ⟨k,cap,J,hv,M,(O k (by rw[hv];rfl)).trans Z,r⟩
section
variable {B:Nat}{w0 w w':World}{fs:List OJ}
def OJ.pK{f:OJ}{k:Nat}(h:f.holds B w)(I:f.foot=some k):B<=k/\k<w.heap.size:=by
 cases f with
 |Oy b row t=>cases I;exact⟨h.1,h.2.lt⟩
 |own e s v n xs=>exact⟨World.ownsRow.Cg h k I,GD h k I⟩
 |rd s A n xs=>cases I
 |loc b R=>
  cases I;obtain⟨h1,o,J,_⟩:=h;exact⟨h1,(Dl.1 J).1⟩
 |dR s A n xs=>
  cases A with
  |none=>cases I
  |some a=>cases I;exact h.2 a E
 |off e s A n c xs=>
  obtain⟨_,_,_,⟨rfl,_⟩|⟨g,o,M,rfl,h1,J,_⟩⟩:=h
  ·cases I
  cases I;exact⟨h1,(Dl.1 J).1⟩
def OJ.keep{f:OJ}(h:f.holds B w)(hb:∀k,k<B->w'.heap[k]? =w.heap[k]?)(M:∀k,f.foot=some k->w'.heap[k]? =w.heap[k]?):f.holds B w':=by
 cases f with
 |Oy b row t=>exact⟨h.1,⟨(M b E).trans h.2.Oy⟩⟩
 |own e s v n xs=>exact air h M
 |rd s A n xs=>exact Rd.keep h λp hp=>World.cell?_of_block (hb _ hp)
 |loc b R=>
  obtain⟨h1,o,I,J⟩:=h;exact⟨h1,o,(M b E).trans I,J⟩
 |dR s A n xs=>
  obtain⟨h1,I⟩:=h;have hz:∀a,A=some a->a.block<w'.heap.size:=λa O=>by
   have J:=M a.block (by rw[O];rfl);rw[x9 (I a O).2]at J;exact(Dl.1 J).1
  refine⟨⟨h1.1,λhn=>?_⟩,λa O=>⟨(I a O).1,hz a O⟩⟩;obtain⟨b,off,e,_,hc⟩:=h1.2 hn;exact⟨b,off,e,hz _ e,λj u hu=>(World.cell?_of_block (M b (by rw[e];rfl))).trans (hc j u hu)⟩
 |off e s A n c xs=>
  obtain⟨h1,I,J,h|⟨g,o,Z,e1,h4,h5,h6⟩⟩:=h
  ·exact⟨h1,I,J,.inl h⟩
  exact⟨h1,I,J,.inr ⟨g,o,Z,e1,h4,(M g (by rw[e1];rfl)).trans h5,h6⟩⟩
def St.start(w:World):St w.heap.size w w []:=⟨Below.refl _ _,aB,λi f h=>by simp at h,λi j f g _ h=>by simp at h⟩
def St.le(S:St B w0 w fs):w0.heap.size<=w.heap.size:=S.Qe.size
def St.cons{f:OJ}(S:St B w0 w fs)(h:f.holds B w)(hs:∀k,f.foot=some k-> ∀(i:Nat) (g:OJ),fs[i]? =some g->g.foot≠some k):St B w0 w (f::fs):=by
 refine⟨S.Qe,S.base,λi g M=>?_,λi j g g' O hi J k Z I=>?_⟩
 ·cases i with
  |zero=>simp at M;subst M;exact h
  |succ i=>exact S.all i g (by simpa using M)
 cases i with
 |zero=>
  simp at hi;subst hi
  cases j with
  |zero=>exact O E
  |succ j=>exact hs k Z j g' (by simpa using J) I
 |succ i=>
  cases j with
  |zero=>simp at J;subst J;exact hs k I i g (by simpa using hi) Z
  |succ j=>exact S.sep i j g g' Y (by simpa using hi) (by simpa using J) k Z I
def St.dJ{s:Nat}{A:Option Addr}{n:Nat}{xs:List Value}(S:St B w0 w fs)(h:Rd w B s A n xs):St B w0 w (.rd s A n xs::fs):=S.cons h λk I=>by cases I
def St.on(S:St B w0 w fs)(I:Below w.heap.size w w'):St B w0 w' fs:=by
 refine⟨S.Qe.trans (I.mono S.base),gB S.base I.size,λi f M=>?_,S.sep⟩;have h:=S.all i f M;exact OJ.keep h (λk J=>I.block k (by have:=S.base;omega)) (λk J=>I.block k (OJ.pK h J).2)
def St.drew(S:St B w0 w fs):St B w0 w.drew fs:=S.on ⟨E,E,E,aB,λ_ _=>E⟩
def St.drewN(S:St B w0 w fs)(q:Nat):St B w0 (w.drewN q) fs:=S.on ⟨E,E,E,aB,λ_ _=>E⟩
def St.alloc{row:Array Value}{t:TypeId}(S:St B w0 w fs):St B w0 (w.alloc (.cells row t)) (.Oy w.heap.size row t::fs):=by
 have h:St B w0 (w.alloc (.cells row t)) fs:=S.on ((Below.refl _ _).alloc aB _);refine h.cons ⟨S.base,iM.new _ _ _⟩ λk I i g J e=>?_
 cases I;have:=(OJ.pK (S.all i g J) e).2;omega
def St.asA{o:Obj}(S:St B w0 w fs):St B w0 (w.alloc o) fs:=S.on ((Below.refl _ _).alloc aB _)
def St.wT{e:TypeId}{s:Nat}{v:Value}{n:Nat}{xs:List Value}(S:St B w0 w fs)(I:Below w.heap.size w w')(h:w'.ownsRow w.heap.size e s v n xs):St B w0 w' (.own e s v n xs::fs):=by
 refine(S.on I).cons (h.lower S.base) λk J i g M e=>?_;have h1:=h.Cg k J;have:=(OJ.pK (S.all i g M) e).2;omega
def St.VG{o:Obj}{R:Obj->Prop}(S:St B w0 w fs)(h:R o):St B w0 (w.alloc o) (.loc w.heap.size R::fs):=by
 have I:St B w0 (w.alloc o) fs:=S.asA;refine I.cons ⟨S.base,o,by show(w.heap.push _)[_]? =_;rw[KJ,au E],h⟩ λk J i g M e=>?_
 cases J;have:=(OJ.pK (S.all i g M) e).2;omega
def St.cut{f:OJ}(S:St B w0 w (f::fs)):St B w0 w fs:=
 ⟨S.Qe,S.base,λi g h=>S.all (i+1) g (by simpa using h),λi j f g I hi J=>S.sep (i+1) (j+1) f g Y (by simpa using hi) (by simpa using J)⟩
def St.turn{f f':OJ}(i:Nat)(S:St B w0 w fs)(hi:fs[i]? =some f)(hlow:Below B w0 w')(hz:w.heap.size<=w'.heap.size)(hb:∀k,k<w.heap.size->f.foot≠some k->w'.heap[k]? =w.heap[k]?)(hf:f'.holds B w')
  (hff:∀k,f'.foot=some k->f.foot=some k\/w.heap.size<=k):St B w0 w' (fs.set i f'):=by
 have Z:i<fs.length:=(dw.1 hi).1;have J:∀(j:Nat) (g:OJ),j≠i->fs[j]? =some g-> ∀k,f'.foot=some k->g.foot≠some k:=by
  intro j g hji O k M e
  rcases hff k M with h|h
  ·exact S.sep j i g f hji O hi k e h
  have:=(OJ.pK (S.all j g O) e).2;omega
 refine⟨hlow,gB S.base hz,λj g hg=>?_,λj j' g g' hjj O I k M hk'=>?_⟩
 ·by_cases e:j=i
  ·subst e;rw[qV Z]at hg
   cases hg;exact hf
  rw[KL (λh=>e h.symm)]at hg;have h:=S.all j g hg;have hb':=S.base;exact OJ.keep h (λk M=>hb k Y (λe2=>by have:=(OJ.pK (S.all i f hi) e2).1;omega))
   (λk M=>hb k (OJ.pK h M).2 (S.sep j i g f e hg hi k M))
 by_cases e:j=i
 ·subst e;rw[qV Z]at O
  cases O;rw[KL (λh=>hjj h)]at I;exact J j' g' (λh=>hjj h.symm) I k M hk'
 rw[KL (λh=>e h.symm)]at O;by_cases e':j'=i
 ·subst e';rw[qV Z]at I
  cases I;exact J j g e O k hk' M
 rw[KL (λh=>e' h.symm)]at I;exact S.sep j j' g g' hjj O I k M hk'
def St.set{b:Nat}{row row':Array Value}{t M:TypeId}(i:Nat)(S:St B w0 w fs)(hi:fs[i]? =some (.Oy b row t))(I:wS w b w')(O:iM w' b row' M):St B w0 w' (fs.set i (.Oy b row' M)):=by
 have h:=(S.all i _ hi).1;exact S.turn i hi (I.next S.Qe h) (oz I.size.symm) (λk _ J=>I.block k (λe=>J (by rw[e];rfl))) ⟨h,O⟩ (λk J=>.inl J)
def St.setCell{b:Nat}{row:Array Value}{t:TypeId}(i k:Nat)(u:Value)(S:St B w0 w fs)(hi:fs[i]? =some (.Oy b row t)):St B w0 (w.setCell ⟨b,k,none⟩ u) (fs.set i (.Oy b (row.setIfInBounds k u) t)):=
 S.set i hi (GH w b k u) ((S.all i _ hi).2.yO k u)
def St.YC{b:Nat}{R R':Obj->Prop}{o:Obj}(i:Nat)(S:St B w0 w fs)(hi:fs[i]? =some (.loc b R))(I:wS w b w')(M:w'.heap[b]? =some o)(O:R' o):St B w0 w' (fs.set i (.loc b R')):=by
 have h:=(S.all i _ hi).1;exact S.turn i hi (I.next S.Qe h) (oz I.size.symm) (λk _ J=>I.block k (λe=>J (by rw[e];rfl))) ⟨h,o,M,O⟩ (λk J=>.inl J)
def St.loc{b:Nat}{R:Obj->Prop}(i:Nat)(S:St B w0 w fs)(hi:fs[i]? =some (.loc b R)):∃o,w.heap[b]? =some o/\R o:=(S.all i _ hi).2
def St.append{e e':TypeId}{s s':Nat}{v v':Value}{n n':Nat}{xs xs':List Value}(i:Nat)(S:St B w0 w fs)(hi:fs[i]? =some (.own e s v n xs))(M:w.grownBy w' v.ownBlock)(ho:w'.ownsRow B e' s' v' n' xs')
  (O:v'.ownBlock=v.ownBlock\/v'.ownBlock=some w.heap.size):St B w0 w' (fs.set i (.own e' s' v' n' xs')):=by
 have h:=S.all i _ hi;refine S.turn i hi (S.Qe.grown M S.base (λk I=>(OJ.pK h I).1)) M.size (λk I Z=>M.block k I (λe=>Z e.symm)) ho (λk I=>?_);have J:v'.ownBlock=some k:=I
 rcases O with h1|h1
 ·exact .inl (by rw[<-J,h1];rfl)
 rw[J]at h1
 cases h1;exact .inr aB
def St.re(is:List Nat)(S:St B w0 w fs)(hn:is.Nodup):St B w0 w (is.filterMap λi=>fs[i]?):=by
 have O:∀(is:List Nat),is.Nodup-> ∀(a:Nat) (f:OJ),(is.filterMap λi=>fs[i]?)[a]? =some f-> ∃i,i∈is/\fs[i]? =some f:=by
  intro is _ a f h;have hm:=jN h;rw[mem_filterMap]at hm;obtain⟨i,h1,Z⟩:=hm;exact⟨i,h1,Z⟩
 have key2:∀(is:List Nat),is.Nodup-> ∀(a c:Nat) (f g:OJ),a≠c->(is.filterMap λi=>fs[i]?)[a]? =some f->(is.filterMap λi=>fs[i]?)[c]? =some g-> ∃(i j:Nat),i≠j/\fs[i]? =some f/\fs[j]? =some g:=by
  intro is
  induction is with
  |nil=>intro _ a c f g _ h;simp at h
  |cons i is ih=>
   intro hn a c f g M I J;obtain⟨h1,Z⟩:=Sr.1 hn;rw[filterMap_cons]at I J
   cases hi:fs[i]? with
   |none=>rw[hi]at I J;exact ih Z a c f g M I J
   |some x=>
    rw[hi]at I J
    cases a with
    |zero=>
     simp at I
     cases c with
     |zero=>exact av E M
     |succ c=>
      obtain⟨j,hj,hjg⟩:=O is Z c g (by simpa using J);exact⟨i,j,λe=>h1 (e▸hj),by rw[hi,I],hjg⟩
    |succ a=>
     cases c with
     |zero=>
      simp at J;obtain⟨j,hj,hjf⟩:=O is Z a f (by simpa using I);exact⟨j,i,λe=>h1 (e▸hj),hjf,by rw[hi,J]⟩
     |succ c=>exact ih Z a c f g Y (by simpa using I) (by simpa using J)
 refine⟨S.Qe,S.base,λa f hf=>?_,λa c f g M I J=>?_⟩
 ·obtain⟨i,_,hi⟩:=O is hn a f hf;exact S.all i f hi
 obtain⟨i,j,hij,hi,hj⟩:=key2 is hn a c f g M I J;exact S.sep i j f g hij hi hj
def St.del(i:Nat)(S:St B w0 w fs):St B w0 w (fs.eraseIdx i):=by
 have I:∀(a:Nat) (f:OJ),(fs.eraseIdx i)[a]? =some f->fs[if a<i then a else a+1]? =some f:=by
  intro a f h;rw[getElem?_eraseIdx]at h
  split at h
  ·rename_i e;rw[au e];exact h
  rename_i e;rw[ah e];exact h
 refine⟨S.Qe,S.base,λa f h=>S.all _ f (I a f h),λa c f g J M O=>S.sep _ _ f g ?_ (I a f M) (I c g O)⟩
 split<;>split<;>omega
def St.Oy{b:Nat}{row:Array Value}{t:TypeId}(i:Nat)(S:St B w0 w fs)(hi:fs[i]? =some (.Oy b row t)):iM w b row t:=(S.all i _ hi).2
def St.own{e:TypeId}{s:Nat}{v:Value}{n:Nat}{xs:List Value}(i:Nat)(S:St B w0 w fs)(hi:fs[i]? =some (.own e s v n xs)):w.ownsRow B e s v n xs:=S.all i _ hi
def St.rd{s:Nat}{A:Option Addr}{n:Nat}{xs:List Value}(i:Nat)(S:St B w0 w fs)(hi:fs[i]? =some (.rd s A n xs)):Rd w w.heap.size s A n xs:=(show Rd w B s A n xs from S.all i _ hi).more S.base
def St.Uz{e:TypeId}{s:Nat}{A:Option Addr}{c n:Nat}{xs:List Value}(i:Nat)(S:St B w0 w fs)(hi:fs[i]? =some (.own e s (.slice A n c) n xs)):Rd w w.heap.size s A n xs:=Rd.wE (S.own i hi)
def St.lt{b:Nat}{row:Array Value}{t:TypeId}(i:Nat)(S:St B w0 w fs)(hi:fs[i]? =some (.Oy b row t)):b<w.heap.size:=(S.Oy i hi).lt
def St.ge{b:Nat}{row:Array Value}{t:TypeId}(i:Nat)(S:St B w0 w fs)(hi:fs[i]? =some (.Oy b row t)):B<=b:=(S.all i _ hi).1
def OJ.Kz:OJ->Bool
 | .rd .. =>false
 |_=>true
def OJ.lower{f:OJ}{C:Nat}(h:f.holds C w)(hf:f.Kz=true)(I:B<=C):f.holds B w:=by
 cases f with
 |Oy b row t=>exact⟨gB I h.1,h.2⟩
 |own e s v n xs=>exact World.ownsRow.lower h I
 |rd s A n xs=>cases hf
 |loc b R=>exact⟨gB I h.1,h.2⟩
 |dR s A n xs=>exact⟨h.1,λa M=>⟨gB I (h.2 a M).1,(h.2 a M).2⟩⟩
 |off e s A n c xs=>
  obtain⟨h1,O,Z,h|⟨g,o,J,e1,h4,h5⟩⟩:=h
  ·exact⟨h1,O,Z,.inl h⟩
  exact⟨h1,O,Z,.inr ⟨g,o,J,e1,gB I h4,h5⟩⟩
def St.ext{gs:List OJ}(S:St B w0 w fs)(T:St w.heap.size w w' gs)(I:gs.all OJ.Kz=true):St B w0 w' (gs++fs):=by
 have M:=S.on T.Qe
 induction gs with
 |nil=>exact M
 |cons g gs O=>
  simp only[all_cons,Bool.and_eq_true]at I;refine(O T.cut I.2).cons (OJ.lower (T.all 0 g E) I.1 S.base) λk J i g' h e=>?_;have h1:=(OJ.pK (T.all 0 g E) J).1
  rcases sF i gs.length with hi|hi
  ·rw[oC hi]at h;exact T.sep 0 (i+1) g g' Y E (by simpa using h) k J e
  rw[pO hi]at h;have:=(OJ.pK (S.all _ g' h) e).2;omega
def St.dR{s:Nat}{A:Option Addr}{n:Nat}{xs:List Value}(i:Nat)(S:St B w0 w fs)(hi:fs[i]? =some (.dR s A n xs)):Rd w w.heap.size s A n xs:=(S.all i _ hi).1
def St.seal{e:TypeId}{s:Nat}{A:Option Addr}{c n:Nat}{xs:List Value}{A':Option Addr}{n':Nat}{xs':List Value}(i:Nat)(S:St B w0 w fs)(hi:fs[i]? =some (.own e s (.slice A n c) n xs))(O:Rd w w.heap.size s A' n' xs')
  (Z:∀h,A'=some h-> ∃a,A=some a/\a.block=h.block):St B w0 w (fs.set i (.dR s A' n' xs')):=by
 have J:∀h,A'=some h->(OJ.own e s (.slice A n c) n xs).foot=some h.block:=λh I=>by
  obtain⟨a,h1,h2⟩:=Z h I;rw[h1,<-h2];rfl
 refine S.turn i hi S.Qe aB (λ_ _ _=>E) ⟨O,λh I=>OJ.pK (S.all i _ hi) (J h I)⟩ λk M=>.inl ?_
 cases A' with
 |none=>cases M
 |some h=>cases M;exact J h E
def St.bZ{e:TypeId}{s:Nat}{A:Option Addr}{c n:Nat}{xs:List Value}(i:Nat)(S:St B w0 w fs)(hi:fs[i]? =some (.own e s (.slice A n c) n xs)):St B w0 w (fs.set i (.dR s A n xs)):=
 S.seal i hi (S.Uz i hi) λa h=>⟨a,h,E⟩
def St.bring{f:OJ}(i:Nat)(S:St B w0 w fs)(hi:fs[i]? =some f):St B w0 w (f::fs.eraseIdx i):=by
 refine(S.del i).cons (S.all i f hi) λk J j g I=>?_;have h:fs[if j<i then j else j+1]? =some g:=by
  rw[getElem?_eraseIdx]at I
  split at I
  ·rename_i e;rw[au e];exact I
  rename_i e;rw[ah e];exact I
 exact S.sep i _ f g (by split<;>omega) hi h k J
end
abbrev P7:=List (Nat×Value)
def lk:P7->Nat->Option Value
 |[],_=>none
 |(t,v)::l,k=>bif beq t k then some v else lk l k
def ev(l:P7):Operand->Option Value
 | .tmp t=>lk l t
 | .const v=>some v
 | .global g=>some (.pointer (some ⟨g,0,none⟩))
 | .func f=>some (.func (.func f) #[] #[])
def TP(l:P7):List Operand->List Value->Prop
 |[],[]=>True
 |x::xs,v::vs=>ev l x=some v/\TP l xs vs
 |_,_=>False
def ents:Nat->List Value->P7
 |_,[]=>[]
 |k,v::vs=>(k,v)::ents (k+1) vs
def KM(l:P7):P7->Prop
 |[]=>True
 |(k,v)::r=>lk l k=some v/\KM l r
structure Fr (N:Nat)(l:P7)(a:Act):Prop where
 defers:a.defers=[]
 size:a.tmps.size=N
 get:∀k v,lk l k=some v->a.tmps[k]? =some v
section
variable {P:Program}{N:Nat}{l l':P7}{a:Act}{w w' w0:World}{B:Nat}{fs:List OJ}{ops:Array Oper}{o:Oper}{rest:List Oper}{Q:Exit->Act->World->Prop}{v u p:Value}{d:Nat}
def Fr.ev{x:Operand}(F:Fr N l a)(h:ev l x=some v):a.eval x=v:=by
 cases x with
 |tmp t=>
  have:=F.get t v h;simp[Act.eval,this]
 |const c=>simpa[Go.Proofs.YtefabpdniidmbaaGreatDoor.ev,Act.eval]using h
 |global g=>simpa[Go.Proofs.YtefabpdniidmbaaGreatDoor.ev,Act.eval]using h
 |func f=>simpa[Go.Proofs.YtefabpdniidmbaaGreatDoor.ev,Act.eval]using h
def Fr.Jp(F:Fr N l a):∀ {xs:List Operand} {vs:List Value},TP l xs vs->xs.map a.eval=vs
 |[],[],_=>rfl
 |x::xs,v::vs,h=>by
  rw[KN,F.ev h.1,F.Jp h.2]
 |[],_::_,h=>h.elim
 |_::_,[],h=>h.elim
def YD{k:Nat}:lk ((k,v)::l) k=some v:=by simp[lk]
def Sv{t k:Nat}(h:t≠k):lk ((t,v)::l) k=lk l k:=by
 have:beq t k=false:=by
  cases e:beq t k
  ·rfl
  exact av (eq_of_beq_eq_true e) h
 simp[lk,this]
def Fr.put(F:Fr N l a)(J:blt d N=true)(v:Value):Fr N ((d,v)::l) (a.put (some d) v):=by
 have I:d<N:=by simpa[blt_eq]using J
 refine⟨F.defers,by simp[Act.put,F.size],λk u h=>?_⟩;simp only[Act.put];by_cases e:d=k
 ·subst e;rw[YD]at h;rw[al4 (by rw[F.size];exact I)];exact h
 rw[Sv e]at h;rw[abB e];exact F.get k u h
def ag6:∀ {l':P7},KM l l'-> ∀k v,lk l' k=some v->lk l k=some v
 |[],_,k,v,h=>by cases h
 |(t,u)::r,hs,k,v,h=>by
  by_cases e:t=k
  ·subst e;rw[YD]at h
   cases h;exact hs.1
  rw[Sv e]at h;exact ag6 hs.2 k v h
def Fr.sub(F:Fr N l a)(h:KM l l'):Fr N l' a:=⟨F.defers,F.size,λk v I=>F.get k v (ag6 h k v I)⟩
def abC:∀(vs:List Value) (m k:Nat) (v:Value),lk (ents m vs) k=some v->m<=k/\vs[k-m]? =some v
 |[],_,_,_,h=>by cases h
 |u::vs,m,k,v,h=>by
  by_cases e:m=k
  ·subst e;rw[ents,YD]at h;exact⟨aB,by simpa using h⟩
  rw[ents,Sv e]at h;obtain⟨h1,I⟩:=abC vs (m+1) k v h;refine⟨by omega,?_⟩;rw[show k-m=(k-(m+1))+1 by omega];simpa using I
def Fr.enter(vs:List Value)(I:ble vs.length N=true):Fr N (ents 0 vs) {tmps:=vs.toArray++Array.replicate (N-vs.toArray.size) undef,defers:=[]}:=by
 have h:vs.length<=N:=by simpa using I
 refine⟨E,by simp;omega,λk v J=>?_⟩;have:=(abC vs 0 k v J).2;simp only[Nat.sub_zero]at this;have M:k<vs.length:=(dw.1 this).1;rw[abD (by simpa using M)];simpa using this
def wC(P:Program)(N:Nat)(c:Code)(Q:Exit->Act->World->Prop)(l:P7)(w:World):Prop:= ∀a,Fr N l a->c.wp P Q a w
def wL(P:Program)(N:Nat)(ops:Array Oper)(Q:Exit->Act->World->Prop)(rest:List Oper)(l:P7)(w:World):Prop:= ∀a,Fr N l a->wpList P ops Q rest a w
def wQ(N:Nat)(Q:Exit->Act->World->Prop)(e:Exit)(l:P7)(w:World):Prop:= ∀a,Fr N l a->Q e a w
def Xv{f:FuncId}{fn:Func}{c:Code}{vs:List Value}{R:Ending->World->Prop}(I:P.funcs[f]? =some fn)(J:fn.body=some c)(hn:fn.ntmps=N)(M:ble vs.length N=true)
  (h:wC P N c (bodyPost P fn R) (ents 0 vs) w):Calls P f vs.toArray w R:=calls_of_wp I J (by rw[hn];exact h _ (Fr.enter vs M))
def bH{x y:Code}(h:wC P N x (Exit.then (y.wp P Q) Q) l w):wC P N (.seq x y) Q l w:=λa F=>wp_seq (h a F)
def aL{id:Nat}{os:List Oper}(h:wL P N os.toArray Q os l w):wC P N (.region id os.toArray false) Q l w:=λa F=>wp_region_lit (h a F)
def oD{c:Operand}{x y:Code}(I:ev l c=some (.bool true))(h:wC P N x Q l w):wC P N (.cond c x y) Q l w:=λa F=>wp_cond_true (F.ev I) (h a F)
def oF{c:Operand}{x y:Code}(I:ev l c=some (.bool false))(h:wC P N y Q l w):wC P N (.cond c x y) Q l w:=λa F=>wp_cond_false (F.ev I) (h a F)
def GI{id:Nat}{c:Code}(h:wC P N c (Exit.inBlock id Q) l w):wC P N (.block id c) Q l w:=λa F=>wp_block (h a F)
def al5{id:Nat}(h:wQ N Q (.exit id) l w):wC P N (.exit id) Q l w:=λa F=>wp_exit (h a F)
def uh(h:wQ N Q .normal l w):wC P N .skip Q l w:=λa F=>wp_skip (h a F)
def rM(h:wQ N Q .ret l w):wC P N .ret Q l w:=λa F=>wp_ret (h a F)
def cB{c:Code}(hs:KM l l')(h:wC P N c Q l' w):wC P N c Q l w:=λa F=>h a (F.sub hs)
def dG{e:Exit}(hs:KM l l')(h:wQ N Q e l' w):wQ N Q e l w:=λa F=>h a (F.sub hs)
def jD{y:Code}(h:wC P N y Q l w):wQ N (Exit.then (y.wp P Q) Q) .normal l w:=h
def aeL{K:Act->World->Prop}{id:Nat}(h:wQ N Q (.exit id) l w):wQ N (Exit.then K Q) (.exit id) l w:=h
def jv{K:Act->World->Prop}(h:wQ N Q .ret l w):wQ N (Exit.then K Q) .ret l w:=h
def jE{id:Nat}(h:wQ N Q .normal l w):wQ N (Exit.inBlock id Q) .normal l w:=h
def aaf{id:Nat}(h:wQ N Q .ret l w):wQ N (Exit.inBlock id Q) .ret l w:=h
def Xw{id:Nat}(h:wQ N Q .normal l w):wQ N (Exit.inBlock id Q) (.exit id) l w:=λa F=>by
 show if id=id then _ else _
 rw[au E];exact h a F
def iO{X:Type}{c:Code}(L:X->P7)(I:X->World->Prop)(m:X->Nat)(x0:X)(hI:I x0 w)(hs:KM l (L x0))
  (M:∀x w,I x w->wC P N c (Exit.then (λZ w'=> ∃x',Fr N (L x') Z/\I x' w'/\m x'<m x) Q) (L x) w):wC P N (.loop c) Q l w:=by
 intro a F b k cs;have key:∀n x a w,m x=n->Fr N (L x) a->I x w-> ∃e Z w',Q e Z w'/\Arrives P (lone (b.at a (.code c:: .inLoop c::k)) cs w) b k cs e Z w':=by
  intro n
  induction n using Nat.strongRecOn with
  |_ n ih=>
   intro x a w hn hF hI;obtain⟨e,a₁,w₁,J,h⟩:=M x w hI a hF b (.inLoop c::k) cs
   cases e with
   |normal=>
    obtain⟨x',hF',hI',hlt⟩:=J;obtain⟨e₂,a₂,w₂,hq₂,O⟩:=ih (m x') (hn▸hlt) x' a₁ w₁ E hF' hI';exact⟨e₂,a₂,w₂,hq₂,.of_steps (Steps.trans h (.one step_inLoop)) O⟩
   |exit id=>exact⟨_,a₁,w₁,J,.pass (x:=.inLoop c) E (λ_ _=>.inl iQ) h⟩
   |goto l=>exact⟨_,a₁,w₁,J,.pass (x:=.inLoop c) E (λ_ _=>.inl iQ) h⟩
   |ret=>exact⟨_,a₁,w₁,J,.pass (x:=.inLoop c) E (λ_ _=>.inl iQ) h⟩
   |panic ch=>exact⟨_,a₁,w₁,J,.pass (x:=.inLoop c) E (λ_ _=>.inl iQ) h⟩
   |outgrown=>exact⟨_,a₁,w₁,J,.pass (x:=.inLoop c) E (λ_ _=>.inl iQ) h⟩
 obtain⟨e,Z,w',J,h⟩:=key _ x0 a w E (F.sub hs) hI;exact⟨e,Z,w',J,.of_steps (.one step_loop) h⟩
def dL{X:Type}{L:X->P7}{I:X->World->Prop}{m:X->Nat}{x:X}(h:X)(J:I h w)(hs:KM l (L h))(M:m h<m x):
 wQ N (Exit.then (λO w'=> ∃h,Fr N (L h) O/\I h w'/\m h<m x) Q) .normal l w:=λ_ F=>⟨h,F.sub hs,J,M⟩
def qb{x y:Code}{X:Type}(L:X->P7)(I:X->World->Prop)(M:wC P N x (Exit.then (λO w'=> ∃J,Fr N (L J) O/\I J w') Q) l w)
  (Z:∀x w,I x w->wC P N y Q (L x) w):wC P N (.seq x y) Q l w:=bH λa F=>wp_mono (M a F) λe a w h=>by
 cases e with
 |normal=>obtain⟨J,hF,hI⟩:=h;exact Z J w hI a hF
 |_=>exact h
def eO{X:Type}{L:X->P7}{I:X->World->Prop}(h:X)(J:I h w)(hs:KM l (L h)):wQ N (Exit.then (λM w'=> ∃h,Fr N (L h) M/\I h w') Q) .normal l w:=λ_ F=>⟨h,F.sub hs,J⟩
def O4(P:Program)(l:P7)(w:World):List ResultVar->List Value->Prop
 |[],[]=>True
 | .tmp t::rs,v::vs=>lk l t=some v/\O4 P l w rs vs
 | .cell t ty::rs,v::vs=>(∃ad,lk l t=some (.pointer (some ad))/\(loadVar ty ad).run P w=.ok v w)/\O4 P l w rs vs
 |_,_=>False
def uK:List Value->Value
 |[v]=>v
 |vs=>.tuple vs.toArray
def Qk(tmps:Array Value):ResultVar->Sem Value
 | .tmp t=>pure (tmps.getD t undef)
 | .cell ad t=>do loadVar t (<-asAddr (tmps.getD ad undef))
def ais(F:Fr N l a){t:Tmp}(h:lk l t=some v):(Qk a.tmps (.tmp t)).run P w=.ok v w:=by
 have I:=F.get t v h;simp[Qk,I]
def adz(F:Fr N l a){t:Tmp}{ty:TypeId}{I:Addr}(h:lk l t=some (.pointer (some I)))(J:(loadVar ty I).run P w=.ok v w):(Qk a.tmps (.cell t ty)).run P w=.ok v w:=by
 have M:=F.get t _ h;simp[Qk,M,asAddr,J]
def MF(F:Fr N l a):∀ {rs:List ResultVar} {vs:List Value},O4 P l w rs vs->(rs.mapM (Qk a.tmps)).run P w=.ok vs w
 |[],[],_=>rfl
 | .tmp t::rs,v::vs,h=>by
  have h1:=MF F h.2;have I:=ais (P:=P) (w:=w) F h.1;rw[mapM_cons];simp only[Sem.run_bind,h1,I,Sem.run_pure,Result.andThen]
 | .cell t ty::rs,v::vs,h=>by
  obtain⟨⟨O,I,J⟩,M⟩:=h;have h1:=MF F M;have I:=adz F I J;rw[mapM_cons];simp only[Sem.run_bind,h1,I,Sem.run_pure,Result.andThen]
 |[],_::_,h=>h.elim
 | .tmp _::_,[],h=>h.elim
 | .cell _ _::_,[],h=>h.elim
def JX{fn:Func}{rs:List ResultVar}{vs:List Value}(F:Fr N l a)(I:fn.results=rs.toArray)(h:O4 P l w rs vs):(results fn a.tmps).run P w=.ok (uK vs) w:=by
 have h1:=MF F h;have e:results fn a.tmps=(fn.results.mapM (Qk a.tmps)) >>= λvs=>pure (if h:vs.size=1 then vs[0]else .tuple vs):=rfl;have J:(toArray <$> rs.mapM (Qk a.tmps))=(rs.mapM (Qk a.tmps)) >>= λx=>(pure x.toArray:Sem (Array Value)):=rfl;rw[e,I,mapM_toArray,J];simp only[Sem.run_bind,h1,Sem.run_pure,Result.andThen]
 match vs with
 |[]=>simp[uK]
 |[v]=>simp[uK]
 |v::u::vs=>simp[uK]
def fK{fn:Func}{R:Ending->World->Prop}{rs:List ResultVar}{vs:List Value}(I:fn.results=rs.toArray)(h:O4 P l w rs vs)(J:R (.returned (uK vs)) w):wQ N (bodyPost P fn R) .ret l w:=
 λ_ F=>bodyPost_ret (JX F I h) F.defers J
def Ql{fn:Func}{R:Ending->World->Prop}{rs:List ResultVar}{vs:List Value}(I:fn.results=rs.toArray)(h:O4 P l w rs vs)(J:R (.returned (uK vs)) w):wQ N (bodyPost P fn R) .normal l w:=
 λ_ F=>bodyPost_end (JX F I h) F.defers J
def gD{b:Nat}{row:Array Value}{t ty:TypeId}{ds:TypeDesc}(i:Nat)(S:St B w0 w fs)(hi:fs[i]? =some (.Oy b row t))(h:P.underlying ty=some ds)(J:ds.isRow=true)(I:(P.info? ty).map (·.size)=some row.size):
 (loadVar ty ⟨b,0,none⟩).run P w=.ok (.agg row) w:=run_loadVar_row w b t ty row (0,0) ds (S.Oy i hi).Oy h (by cases ds<;>simp_all) I
end
end
def dU:Array Value->Nat->List Value->Array Value
 |cur,_,[]=>cur
 |cur,o,v::vs=>dU (cur.setIfInBounds o v) (o+1) vs
def qy:∀(vs:List Value) (h:Array Value) (o:Nat),(dU h o vs).size=h.size
 |[],_,_=>rfl
 |v::vs,h,o=>by rw[dU,qy vs];simp
def Nr:∀(vs:List Value) (cur:Array Value) (o k:Nat),o+vs.length<=cur.size->(dU cur o vs)[k]? =if k<o then cur[k]? else if k<o+vs.length then vs[k-o]? else cur[k]?
 |[],cur,o,k,_=>by
  simp only[dU,length_nil,Nat.add_zero]
  split
  ·rfl
  rfl
 |v::vs,cur,o,k,h=>by
  simp only[length_cons]at h;rw[dU,Nr vs _ _ _ jQ];by_cases h1:k<o
  ·rw[au Y,au h1,abB Y]
  by_cases J:k=o
  ·subst J;rw[au Y,ah h1,au iQ];rw[al4 Y];simp
  rw[ah Y,ah h1];by_cases I:k<o+1+vs.length
  ·rw[au I,au jQ,show k-o=(k-(o+1))+1 by omega];simp
  rw[ah I,ah jQ,abB Y]
def jw(vs:List Value)(I:Array Value)(o:Nat)(h:o+vs.length<=I.size):(dU I o vs).toList=I.toList.take o++vs++I.toList.drop (o+vs.length):=by
 apply ext_getElem?;intro k;rw[Array.getElem?_toList,Nr vs I o k h];have J:(I.toList.take o).length=o:=by simp;omega
 by_cases h1:k<o
 ·rw[au h1,gP,oC Y,xY h1];simp
 rw[ah h1];by_cases M:k<o+vs.length
 ·rw[au M,gP,pO Y,oC Y,J]
 rw[ah M,pO jQ,Dm];simp only[length_append,J];rw[show o+vs.length+(k-(o+vs.length))=k by omega];simp
def lC{t:TypeId}:∀(vs:List Value) (o:Nat) {w:World} {g:Nat} {I:Array Value},iM w g I t->iM (w.setCells g o vs) g (dU I o vs) t
 |[],_,_,_,_,h=>h
 |v::vs,o,_,_,_,h=>lC vs (o+1) (h.yO o v)
def wS.refl(w:World)(g:Nat):wS w g w:=⟨E,E,E,E,λ_ _=>E⟩
def lD(g:Nat):∀(vs:List Value) (o:Nat) (w:World),wS w g (w.setCells g o vs)
 |[],_,w=>wS.refl w g
 |v::vs,o,w=>(GH w g o v).trans (lD g vs (o+1) _)
abbrev D (x:Int):Value:=.int .i64 x
abbrev pV (b o:Nat):Value:=.pointer (some ⟨b,o,none⟩)
abbrev aD (b o:Nat):Option Addr:=some ⟨b,o,none⟩
noncomputable abbrev tP:Program:=prog
section
open ChangeAt
def kY(P:Program)(N:Nat)(l:P7)(o:Oper)(w:World)(v:Value):Prop:= ∀a,Fr N l a->(execOp a.eval o).run P w=.ok (.value v) w
def Does(P:Program)(N:Nat)(l:P7)(o:Oper)(w:World)(v:Value)(w':World):Prop:= ∀a,Fr N l a->(execOp a.eval o).run P w=.ok (.value v) w'
def Eff(P:Program)(N:Nat)(l:P7)(o:Oper)(w w':World):Prop:= ∀a,Fr N l a->(execOp a.eval o).run P w=.ok .skip w'
def Enter(P:Program)(N:Nat)(l:P7)(o:Oper)(w:World)(f:FuncId)(vs:List Value):Prop:= ∀a,Fr N l a->(execOp a.eval o).run P w=.ok (.enter f vs.toArray) w
def Qb(N:Nat)(ops:Array Oper)(l:P7)(o:Oper)(b:Bool):Prop:= ∀a,Fr N l a->Region.wanted o (yielded ops a.tmps)=b
def yl:Value->Option Bool
 | .bool b=>some b
 |_=>none
section
variable {P:Program}{N:Nat}{l l':P7}{a:Act}{w w' w0:World}{B:Nat}{fs fs':List OJ}{ops:Array Oper}{o:Oper}{rest:List Oper}{Q:Exit->Act->World->Prop}{v u p:Value}{d:Nat}
def wn(h:o.guard=none):Qb N ops l o true:=λa F=>by simp[Region.wanted,h]
def wg{j:Nat}{b r:Bool}{t:Nat}(h:o.guard=some (j,b))(I:(ops[j]?).bind (·.dst)=some t)(hv:lk l t=some v)(J:(yl v==some b)=r):Qb N ops l o r:=λa F=>by
 have h1:=F.get t v hv;have M:yielded ops a.tmps j=yl v:=by
  unfold yielded;rw[I];simp only[Option.bind_some,h1]
  cases v<;>rfl
 simp only[Region.wanted,h,M];exact J
def ag7(h:wQ N Q .normal l w):wL P N ops Q [] l w:=h
def Ig(hw:Qb N ops l o true)(I:o.dst=some d)(J:blt d N=true)(M:kY P N l o w v)(h:wL P N ops Q rest ((d,v)::l) w):wL P N ops Q (o::rest) l w:=λa F=>wpList_step λK O=>by
 rw[au (hw a F)];unfold Oper.wp;rw[M a F]
 show K (a.put o.dst v) w
 rw[I];exact O _ _ (h _ (F.put J v))
def TR(hw:Qb N ops l o true)(I:o.dst=some d)(J:blt d N=true)(M:Does P N l o w v w')(h:wL P N ops Q rest ((d,v)::l) w'):wL P N ops Q (o::rest) l w:=λa F=>wpList_step λK O=>by
 rw[au (hw a F)];unfold Oper.wp;rw[M a F]
 show K (a.put o.dst v) w'
 rw[I];exact O _ _ (h _ (F.put J v))
def Qm(hw:Qb N ops l o true)(I:o.dst=none)(J:Eff P N l o w w')(h:wL P N ops Q rest l w'):wL P N ops Q (o::rest) l w:=λa F=>wpList_step λK M=>by
 rw[au (hw a F)];unfold Oper.wp;rw[J a F]
 show K (a.put o.dst undef) w'
 rw[I];exact M _ _ (h _ F)
def abE(hw:Qb N ops l o false)(I:o.dst=some d)(J:blt d N=true)(h:wL P N ops Q rest ((d,undef)::l) w):wL P N ops Q (o::rest) l w:=λa F=>wpList_step λK M=>by
 rw[ah (by rw[hw a F];simp),I];exact M _ _ (h _ (F.put J undef))
def KO{f:FuncId}{vs:List Value}{R:Ending->World->Prop}(hw:Qb N ops l o true)(I:o.dst=some d)(J:blt d N=true)(he:Enter P N l o w f vs)(M:Calls P f vs.toArray w R)
  (h:∀e w',R e w'-> ∃v,e=.returned v/\wL P N ops Q rest ((d,v)::l) w'):wL P N ops Q (o::rest) l w:=λa F=>wpList_step λK O=>by
 rw[au (hw a F)];unfold Oper.wp;rw[he a F];refine M.mono λe w' Z=>?_;obtain⟨v,rfl,hv⟩:=h e w' Z
 show K (a.put o.dst v) w'
 rw[I];exact O _ _ (hv _ (F.put J v))
def kF{f:FuncId}{xs:List Operand}{ts:Array TypeId}{vs:List Value}(I:o.op=.call {callee:=.value (.func f),args:=xs.toArray,argTypes:=ts})(h:∀args w,(callFunc f args).run P w=.ok (.enter f args) w)(J:TP l xs vs):Enter P N l o w f vs:=λa F=>by
 have h1:=F.Jp J;unfold execOp;simp only[I,resolve,Deferred.ofValue,invoke,Sem.run_bind,Sem.run_pure,Result.andThen_ok,map_toArray,h1,Act.eval];simp[h]
def ag8{x:Operand}(h:o.op=.move x)(I:ev l x=some v):kY P N l o w v:=λa F=>by
 unfold execOp;simp only[h,F.ev I,Sem.run_pure]
def VH{x:Operand}(h:o.op=.assign x)(I:ev l x=some v):kY P N l o w v:=λa F=>by
 unfold execOp;simp only[h,F.ev I,Sem.run_pure]
def ait{c x y:Operand}(h:o.op=.pick c x y)(I:ev l c=some (.bool true))(J:ev l x=some v):kY P N l o w v:=λa F=>by
 unfold execOp;simp only[h,F.ev J,F.ev I,asBool,Sem.run_bind,Sem.run_pure,Result.andThen_ok,if_true]
def aiu{c x y:Operand}(h:o.op=.pick c x y)(I:ev l c=some (.bool false))(J:ev l y=some v):kY P N l o w v:=λa F=>by
 unfold execOp;simp only[h,F.ev J,F.ev I,asBool,Sem.run_bind,Sem.run_pure,Result.andThen_ok];simp
def aA{t:TypeId}{x:Operand}(h:o.op=.load t x)(I:ev l x=some p)(J:(Instr.loadAt t p).run P w=.ok v w):kY P N l o w v:=λa F=>by
 unfold execOp;simp only[h,F.ev I,Sem.run_bind,J,Result.andThen_ok,Sem.run_pure]
def JY{s:TypeId}{x:Operand}{f:Nat}(h:o.op=.fieldAddr s x f)(I:ev l x=some p)(J:(Instr.fieldAt s p f).run P w=.ok v w):kY P N l o w v:=λa F=>by
 unfold execOp;simp only[h,F.ev I,Sem.run_bind,J,Result.andThen_ok,Sem.run_pure]
def bF{s:TypeId}{x y:Operand}{q:Value}(h:o.op=.indexAddr s x y)(I:ev l x=some p)(J:ev l y=some q)(M:(Instr.indexAt s p q).run P w=.ok v w):kY P N l o w v:=λa F=>by
 unfold execOp;simp only[h,F.ev I,F.ev J,Sem.run_bind,M,Result.andThen_ok,Sem.run_pure]
def al6{s:TypeId}{x y:Operand}{q:Value}(h:o.op=.index s x y)(I:ev l x=some p)(J:ev l y=some q)(M:(Instr.index s p q).run P w=.ok v w):kY P N l o w v:=λa F=>by
 unfold execOp;simp only[h,F.ev I,F.ev J,Sem.run_bind,M,Result.andThen_ok,Sem.run_pure]
def EvO(l:P7):Option Operand->Option Value->Prop
 |none,none=>True
 |some x,some v=>ev l x=some v
 |_,_=>False
def Fr.evo(F:Fr N l a){x:Option Operand}{I:Option Value}(h:EvO l x I):x.map a.eval=I:=by
 cases x<;>cases I
 ·rfl
 ·exact h.elim
 ·exact h.elim
 simpa using F.ev h
def lX{s:TypeId}{x:Operand}{lo hi mx:Option Operand}{h I J:Option Value}(M:o.op=.slice s x lo hi mx)(O:ev l x=some p)(h1:EvO l lo h)(Z:EvO l hi I)(h3:EvO l mx J)
  (hr:(Instr.sliceAt s p h I J).run P w=.ok v w):kY P N l o w v:=λa F=>by
 unfold execOp;simp only[M,F.ev O,F.evo h1,F.evo Z,F.evo h3,Sem.run_bind,hr,Result.andThen_ok,Sem.run_pure]
def cK{op:BinOp}{t I:TypeId}{x y:Operand}{q:Value}(J:o.op=.binOp op t x y I)(M:ev l x=some p)(O:ev l y=some q)(h:(do eqGuard op t x y p q;binOp op t p q:Sem Value).run P w=.ok v w):kY P N l o w v:=λa F=>by
 unfold execOp;simp only[J,F.ev M,F.ev O,Sem.run_bind]at h⊢;rw[h];simp only[Result.andThen_ok,Sem.run_pure]
def ag9{op:UnOp}{t:TypeId}{x:Operand}(h:o.op=.unOp op t x)(I:ev l x=some p)(J:(Op.unary op p).run P w=.ok v w):kY P N l o w v:=λa F=>by
 unfold execOp;simp only[h,F.ev I,Sem.run_bind,J,Result.andThen_ok,Sem.run_pure]
def Js{s t:TypeId}{x:Operand}(h:o.op=.convert s t x)(I:ev l x=some p)(J:(convert s t p).run P w=.ok v w):kY P N l o w v:=λa F=>by
 unfold execOp;simp only[h,F.ev I,Sem.run_bind,J,Result.andThen_ok,Sem.run_pure]
def adA{x:Operand}{k:Nat}{vs:Array Value}(h:o.op=.extract x k)(I:ev l x=some (.tuple vs))(J:vs[k]? =some v):kY P N l o w v:=λa F=>by
 unfold execOp;simp only[h,F.ev I,Instr.extract,Sem.run_bind,J];simp[Result.andThen]
def azb{x:Operand}(J:o.op=.nilCheck x)(M:ev l x=some p)(h:match p with | .pointer (some _)=>True | .func (.func _) _ _=>True | .func (.via ..) _ _=>True|_=>False):kY P N l o w p:=λa F=>by
 unfold execOp;simp only[J,F.ev M]
 cases p with
 |pointer I=>cases I with
  |none=>exact h.elim
  |some I=>rfl
 |func fn f c=>cases fn<;>first|rfl|exact h.elim
 |_=>exact h.elim
def uq{b:Builtin}{xs:List Operand}{ts:Array TypeId}{vs:List Value}(h:o.op=.call {callee:=.builtin b,args:=xs.toArray,argTypes:=ts})(I:TP l xs vs)
  (J:∀cs,(builtin b ts o.type cs vs.toArray).run P w=.ok (.value v) w):kY P N l o w v:=λa F=>by
 have h1:=F.Jp I;unfold execOp;simp only[h,resolve,invoke,Sem.run_bind,Sem.run_pure,Result.andThen_ok,map_toArray,h1,J]
def D6{b:Builtin}{xs:List Operand}{ts:Array TypeId}{vs:List Value}(h:o.op=.call {callee:=.builtin b,args:=xs.toArray,argTypes:=ts})(I:TP l xs vs)
  (J:∀cs,(builtin b ts o.type cs vs.toArray).run P w=.ok (.value v) w'):Does P N l o w v w':=λa F=>by
 have h1:=F.Jp I;unfold execOp;simp only[h,resolve,invoke,Sem.run_bind,Sem.run_pure,Result.andThen_ok,map_toArray,h1,J]
def EvP(l:P7):List (Nat×Operand)->List (Nat×Value)->Prop
 |[],[]=>True
 |(i,x)::xs,(j,v)::vs=>i=j/\ev l x=some v/\EvP l xs vs
 |_,_=>False
def Fr.evp(F:Fr N l a):∀ {xs:List (Nat×Operand)} {vs:List (Nat×Value)},EvP l xs vs->(xs.map λx=>(x.1,a.eval x.2))=vs
 |[],[],_=>rfl
 |(i,x)::xs,(j,v)::vs,h=>by
  obtain⟨rfl,h1,I⟩:=h;rw[KN,F.ev h1,F.evp I]
 |[],_::_,h=>h.elim
 |_::_,[],h=>h.elim
def F4{t:TypeId}{xs:List (Nat×Operand)}{vs:List (Nat×Value)}(h:o.op=.build t xs.toArray)(I:EvP l xs vs)(J:(Instr.build t vs.toArray).run P w=.ok v w):kY P N l o w v:=λa F=>by
 have h1:=F.evp I;unfold execOp;simp only[h,map_toArray,h1,Sem.run_bind,J,Result.andThen_ok,Sem.run_pure]
def bD{t:TypeId}{n:Nat}{xs:List (Nat×Operand)}{vs:List (Nat×Value)}(h:o.op=.buildSlice t n xs.toArray)(I:EvP l xs vs)(J:(Instr.buildSlice t n vs.toArray).run P w=.ok v w'):Does P N l o w v w':=λa F=>by
 have h1:=F.evp I;unfold execOp;simp only[h,map_toArray,h1,Sem.run_bind,J,Result.andThen_ok,Sem.run_pure]
def gK{t:TypeId}{z:Value}{row:Array Value}(h:o.op=.alloc t)(I:(zeroValue t).run P w=.ok z w)(J:z.cells=row):Does P N l o w (.pointer (some ⟨w.heap.size,0,none⟩)) (w.alloc (.cells row t)):=λa F=>by
 subst J;unfold execOp;simp[h,Instr.alloc,I,newVar,newRow,Result.andThen,Sem.run_bind]
def agz{t:TypeId}{x:Operand}{row:Array Value}(h:o.op=.box t x)(I:ev l x=some p)(J:p.cells=row):Does P N l o w (.pointer (some ⟨w.heap.size,0,none⟩)) (w.alloc (.cells row t)):=λa F=>by
 subst J;unfold execOp;simp[h,Instr.box,F.ev I,newVar,newRow,Result.andThen,Sem.run_bind]
def JZ{t:TypeId}{x y:Operand}{q:Value}(h:o.op=.makeSlice t x y)(I:ev l x=some p)(J:ev l y=some q)(M:(Instr.makeSlice t p q).run P w=.ok v w'):Does P N l o w v w':=λa F=>by
 unfold execOp;simp only[h,F.ev I,F.ev J,Sem.run_bind,M,Result.andThen_ok,Sem.run_pure]
def Qn{t:TypeId}(h:o.op=.makeMap t none)(I:(Instr.makeMap t none).run P w=.ok v w'):Does P N l o w v w':=λa F=>by
 unfold execOp;simp only[h,Option.map_none,Sem.run_bind,I,Result.andThen_ok,Sem.run_pure]
def Sw{t:TypeId}{x y:Operand}{q:Value}(h:o.op=.store t x y)(I:ev l x=some p)(J:ev l y=some q)(M:(Instr.storeAt t p q).run P w=.ok () w'):Eff P N l o w w':=λa F=>by
 unfold execOp;simp only[h,F.ev I,F.ev J,Sem.run_bind,M,Result.andThen_ok,Sem.run_pure]
def Xx{t:TypeId}{m x y:Operand}{q r:Value}(h:o.op=.mapUpdate t m x y)(I:ev l m=some p)(J:ev l x=some q)(M:ev l y=some r)(O:(Instr.mapUpdate t p q r).run P w=.ok () w'):Eff P N l o w w':=λa F=>by
 unfold execOp;simp only[h,F.ev I,F.ev J,F.ev M,Sem.run_bind,O,Result.andThen_ok,Sem.run_pure]
section runs
variable {t s:TypeId}{xo yo:Operand}{k:IntKind}{x y:Int}
def abF(h:x<y):(do eqGuard .lss t xo yo (.int k x) (.int k y);binOp .lss t (.int k x) (.int k y):Sem Value).run P w=.ok (.bool true) w:=by simp[binOp,Op.intCmp,h,eqGuard_lss]
def abG(h:¬x<y):(do eqGuard .lss t xo yo (.int k x) (.int k y);binOp .lss t (.int k x) (.int k y):Sem Value).run P w=.ok (.bool false) w:=by simp[binOp,Op.intCmp,eqGuard_lss];omega
def al7(h:x<=y):(do eqGuard .leq t xo yo (.int k x) (.int k y);binOp .leq t (.int k x) (.int k y):Sem Value).run P w=.ok (.bool true) w:=by simp[binOp,Op.intCmp,h,eqGuard_leq]
def al8(h:¬x<=y):(do eqGuard .leq t xo yo (.int k x) (.int k y);binOp .leq t (.int k x) (.int k y):Sem Value).run P w=.ok (.bool false) w:=by simp[binOp,Op.intCmp,eqGuard_leq];omega
def al9(h:y<x):(do eqGuard .gtr t xo yo (.int k x) (.int k y);binOp .gtr t (.int k x) (.int k y):Sem Value).run P w=.ok (.bool true) w:=by simp[binOp,Op.intCmp,h,eqGuard_gtr]
def ama(h:¬y<x):(do eqGuard .gtr t xo yo (.int k x) (.int k y);binOp .gtr t (.int k x) (.int k y):Sem Value).run P w=.ok (.bool false) w:=by simp[binOp,Op.intCmp,eqGuard_gtr];omega
def amb(h:y<=x):(do eqGuard .geq t xo yo (.int k x) (.int k y);binOp .geq t (.int k x) (.int k y):Sem Value).run P w=.ok (.bool true) w:=by simp[binOp,Op.intCmp,h,eqGuard_geq]
def amc(h:¬y<=x):(do eqGuard .geq t xo yo (.int k x) (.int k y);binOp .geq t (.int k x) (.int k y):Sem Value).run P w=.ok (.bool false) w:=by simp[binOp,Op.intCmp,eqGuard_geq];omega
def amd(h:x=y):(do eqGuard .eql t xo yo (.int k x) (.int k y);binOp .eql t (.int k x) (.int k y):Sem Value).run P w=.ok (.bool true) w:=by simp[binOp,Op.intCmp,h,eqGuard_at_int]
def abH(h:¬x=y):(do eqGuard .eql t xo yo (.int k x) (.int k y);binOp .eql t (.int k x) (.int k y):Sem Value).run P w=.ok (.bool false) w:=by simp[binOp,Op.intCmp,h,eqGuard_at_int]
def abI(h:¬x=y):(do eqGuard .neq t xo yo (.int k x) (.int k y);binOp .neq t (.int k x) (.int k y):Sem Value).run P w=.ok (.bool true) w:=by simp[binOp,Op.intCmp,h,eqGuard_at_int]
def Sy(h:x=y):(do eqGuard .neq t xo yo (.int k x) (.int k y);binOp .neq t (.int k x) (.int k y):Sem Value).run P w=.ok (.bool false) w:=by simp[binOp,Op.intCmp,h,eqGuard_at_int]
def azc:(do eqGuard .gtr t xo yo (.int k x) (.int k y);binOp .gtr t (.int k x) (.int k y):Sem Value).run P w=.ok (.bool (decide (y<x))) w:=by simp[binOp,Op.intCmp,eqGuard_gtr]
def UU{z:Int}(h: -9223372036854775808<=z)(h1:z<=9223372036854775807):IntKind.i64.wrap z=z:=IntWalk.i64_in _ ⟨h,h1⟩
def agA{z:Int}(I:x+y=z)(h: -9223372036854775808<=z/\z<=9223372036854775807):(do eqGuard .add t xo yo (D x) (D y);binOp .add t (D x) (D y):Sem Value).run P w=.ok (D z) w:=by
 subst I;simp[binOp,Op.intArith,eqGuard_add,UU h.1 h.2]
def azd{z:Int}(I:x-y=z)(h: -9223372036854775808<=z/\z<=9223372036854775807):(do eqGuard .sub t xo yo (D x) (D y);binOp .sub t (D x) (D y):Sem Value).run P w=.ok (D z) w:=by
 subst I;simp[binOp,Op.intArith,eqGuard_sub,UU h.1 h.2]
def aze{b:Bool}:(Op.unary .not (.bool b)).run P w=.ok (.bool (!b)) w:=by simp[Op.unary]
def apf{A:Option Addr}{n c:Nat}{e:TypeId}{ts:Array TypeId}{ty:TypeId}{cs:Array Bool}(h:ts= #[t])(I:P.underlying t=some (.slice e)):(builtin .len ts ty cs #[.slice A n c]).run P w=.ok (.value (D n)) w:=by
 subst h;simp[builtin,Builtin.len_,run_underlying I,goInt,Result.andThen]
def zI{I:Addr}{ds:TypeDesc}(J:P.underlying t=some ds)(O:ds.isRow=false)(M:w.cell? I=some v):(Instr.loadAt t (.pointer (some I))).run P w=.ok v w:=by
 have h:(isAgg t).run P w=.ok false w:=by
  unfold isAgg;rw[Sem.run_bind,run_underlying J w]
  cases ds<;>simp_all
 simp[Instr.loadAt,Instr.sureAddr,loadVar,Sem.run_bind,h,Result.andThen,M]
def qc{b off m:Nat}{cs:List Value}{ds:TypeDesc}(h:P.underlying t=some ds)(I:ds.isRow=true)(hi:(P.info? t).map (·.size)=some m)(J:cs.length=m)(M:w.rangeAt b off cs):(Instr.loadAt t (.pointer (some ⟨b,off,none⟩))).run P w=.ok (.agg cs.toArray) w:=
 run_loadAt_mid w b off t cs ds M h I (by rw[J];exact hi)
def fu{b off:Nat}{cs:List Value}(h:w.rangeAt b off cs)(I:(P.underlying t).map (·.isRow)=some true:=by kernel_rfl)(hi:(P.info? t).map (·.size)=some cs.length:=by kernel_rfl):(Instr.loadAt t (.pointer (some ⟨b,off,none⟩))).run P w=.ok (.agg cs.toArray) w:=by
 obtain⟨q,J,M⟩:=Dn.1 I;exact qc J M hi E h
def aV{h:Addr}(I:w.cell? h=some v)(J:(P.underlying t).map (·.isRow)=some false:=by kernel_rfl):(Instr.loadAt t (.pointer (some h))).run P w=.ok v w:=by
 obtain⟨q,M,O⟩:=Dn.1 J;exact zI M O I
def rG{b:Nat}{row:Array Value}{tt:TypeId}{ds:TypeDesc}{m:Nat}(i:Nat)(S:St B w0 w fs)(hi:fs[i]? =some (.Oy b row tt))(h:P.underlying t=some ds)(I:ds.isRow=true)(J:(P.info? t).map (·.size)=some m)(M:row.size=m):(Instr.loadAt t (.pointer (some ⟨b,0,none⟩))).run P w=.ok (.agg row) w:=by
 simp only[Instr.loadAt,Instr.sureAddr,Sem.run_bind,Sem.run_pure,Result.andThen_ok,gD i S hi h I (by rw[M];exact J)]
def SA{b off m:Nat}{cs:Array Value}(hv:v.cells=cs)(J:(P.info? t).map (·.size)=some m)(O:cs.size=m)(h1:∀u∈cs.toList,u.oneCell'=true)(M:w.there b off m):(Instr.storeAt t (.pointer (some ⟨b,off,none⟩)) v).run P w=.ok () (w.setCells b off cs.toList):=by
 subst O;have:=run_storeCells_cells (P:=P) b off cs.toList 0 w (λj h=>by simpa using(M j (by simpa using h)).1) (λj h=>by simpa using(M j (by simpa using h)).2) h1
 cases I:P.info? t with
 |none=>simp[I]at J
 |some i=>
  have hs:cs.size=i.size:=by simp[I]at J;omega
  simp only[Nat.add_zero]at this;simp[Instr.storeAt,Instr.sureAddr,storeVar,Sem.run_bind,sizeOf,typeInfo,I,hv,hs,this,Result.andThen]
end runs
end
end
def wJ:Value->Value->Bool
 | .int _ a,.int _ b=>a==b
 | .bool a,.bool b=>a==b
 | .string a,.string b=>a.toList==b.toList
 |_,_=>false
def fM:List Value->List Value->Bool
 |[],[]=>true
 |a::l,b::k=>wJ a b&&fM l k
 |_,_=>false
def xU:∀ {l l' k I:List Value},l.length=l'.length->fM (l++k) (l'++I)=(fM l l'&&fM k I)
 |[],[],_,_,_=>by simp[fM]
 |a::l,b::l',k,I,h=>by
  simp only[cons_append,fM];rw[xU (by simpa using h),Bool.and_assoc]
 |[],_::_,_,_,h=>by simp at h
 |_::_,[],_,_,h=>by simp at h
def GJ(P:Program):Nat->TypeId->Bool
 | 0,_=>false
 |n+1,t=>
  match P.underlying t with
  |some (.int _)|some .bool|some .string=>true
  |some (.struct fs)=> !P.stoodInHeld t&&fs.toList.all λf=>f.name != "_" &&GJ P n f.type
  |some (.array _ e)=>GJ P n e
  |_=>false
def Kd(v:Value):Sh->Prop
 | .at_ (.int k)=> ∃n,v=.int k n
 | .at_ .bool=> ∃b,v=.bool b
 | .at_ .str=> ∃s,v=.string s
 | .sl _ _=>False
def Ih(u:TypeDesc)(n:Nat):Prop:=match u with | .struct _=>True | .array _ _=>True|_=>n=1
def mkV(P:Program)(t:TypeId)(xs:List Value):Value:=
 match P.underlying t with
 |some (.struct _)|some (.array _ _)=>.agg xs.toArray
 |_=>xs.headD undef
section
variable {P:Program}(w:World)
def vI{t:TypeId}{u:TypeDesc}(I:P.underlying t=some u){xs:List Value}{off:Nat}(h:off+P.cellsOf t<=xs.length)(h1:Ih u (P.cellsOf t)):
 (part t xs.toArray off).run P w=.ok (mkV P t ((xs.drop off).take (P.cellsOf t))) w:=by
  have hi:∃i,P.info? t=some i:=by
    unfold Program.underlying at I
    cases J:P.info? t with
    |none=>simp[J]at I
    |some i=>exact⟨i,E⟩
  obtain⟨i,hi⟩:=hi;have M:P.cellsOf t=i.size:=by simp[Program.cellsOf,hi]
  have Z:(xs.toArray.extract off (off+i.size))=((xs.drop off).take i.size).toArray:=by
    simp[extract_toArray]
  have plain:P.cellsOf t=1->(xs.toArray[off]?)=some (((xs.drop off).take (P.cellsOf t)).headD undef):=by
    intro h1;rw[h1];have:off<xs.length:=Y;have e:(xs.drop off).take 1=[xs[off]]:=by rw[yc this];rfl
    rw[e];simp[this]
  unfold part isAgg mkV
  cases u<;>simp only[Ih]at h1<;>first
    | (have O:=plain h1
       simp only[Sem.run_bind,run_underlying I,Result.andThen_ok,Sem.run_pure,Bool.false_eq_true,if_false,O,I])
    | (simp only [Sem.run_bind,run_underlying I,Result.andThen_ok,Sem.run_pure,if_true,I,sizeOf,typeInfo,M]
       simp[hi])
def Ns{n:Nat}{t:TypeId}{l:List Sh}(h:flat P (n+1) t=some l):∃u,P.underlying t=some u/\Ih u l.length:=by
  unfold flat at h
  cases I:P.underlying t with
  |none=>simp[I]at h
  |some u=>
    refine⟨u,E,?_⟩;unfold Ih
    cases u<;>simp only[I]at h<;>first
      |trivial
      |(simp at h;done)
      |(simp at h;subst h;rfl)
      | (simp only [Option.bind_eq_some_iff] at h
         obtain⟨a,_,b,_,h⟩:=h
         split at h
         · simp at h;subst h;rfl
         · simp at h)
def GK{xs:List Value}:∀ {l k:List Sh},fD Kd xs (l++k)->fD Kd (xs.take l.length) l/\fD Kd (xs.drop l.length) k:=by
 intro l
 induction l generalizing xs with
 |nil=>intro k h;exact⟨by simp[fD],by simpa using h⟩
 |cons s l I=>
  intro k h;obtain⟨a,l1,rfl,J,M⟩:=fD.yH h;obtain⟨O,Z⟩:=I M;exact⟨⟨J,O⟩,Z⟩
def EqT(P:Program)(d:Nat)(t:TypeId)(l:List Sh):Prop:=
 ∀(w:World) (xs ys:List Value),fD Kd xs l->fD Kd ys l->(Op.equalIn d t (mkV P t xs) (mkV P t ys)).run P w=.ok (fM xs ys) w
def Nt{d:Nat}{xs ys:List Value}:∀(fs:List Field) (ls:List (List Sh)) (o:Nat),qR P fs ls o=true->
  (∀(i:Nat) (f:Field) (l:List Sh),fs[i]? =some f->ls[i]? =some l->f.name≠ "_" /\EqT P d f.type l/\ ∃u,P.underlying f.type=some u/\Ih u l.length)->
  o<=xs.length->o<=ys.length->fD Kd (xs.drop o) ls.flatten->fD Kd (ys.drop o) ls.flatten->
  (Op.eqFields d xs.toArray ys.toArray fs).run P w=.ok (fM (xs.drop o) (ys.drop o)) w
 |[],[],o,_,_,_,_,hx,hy=>by
  rw[fD.zH hx,fD.zH hy];simp[Op.eqFields,fM]
 |f::fs,l::ls,o,h,hp,ox,oy,hx,hy=>by
  simp only[qR,Bool.and_eq_true,beq_iff_eq]at h;obtain⟨⟨h1,h2⟩,h3⟩:=h;obtain⟨hn,he,u,hu,hu1⟩:=hp 0 f l E E;simp only[flatten_cons]at hx hy;obtain⟨I,J⟩:=GK hx;obtain⟨M,O⟩:=GK hy;rw[lW]at J O;have hlx:o+l.length<=xs.length:=by
   have Z:=I.len;simp only[length_take,length_drop]at Z;omega
  have hly:o+l.length<=ys.length:=by
   have Z:=M.len;simp only[length_take,length_drop]at Z;omega
  have hr:=Nt fs ls (o+l.length) h3 (λi f' l' hf hl=>hp (i+1) f' l' (by simpa using hf) (by simpa using hl)) hlx hly J O;have hu2:Ih u (P.cellsOf f.type):=by
   rw[h2];exact hu1
  have p1:=vI (P:=P) w hu (xs:=xs) (off:=f.offset) Y hu2;have p2:=vI (P:=P) w hu (xs:=ys) (off:=f.offset) Y hu2;rw[h1,h2]at p1 p2;have p3:=he w _ _ I M;have Z:fM (xs.drop o) (ys.drop o)=(fM ((xs.drop o).take l.length) ((ys.drop o).take l.length)&&fM (xs.drop (o+l.length)) (ys.drop (o+l.length))):=by
   rw[<-lW,<-lW,<-xU jQ,yg,yg]
  simp only[Op.eqFields,hn,ne_eq,not_false_eq_true,if_true,Sem.run_bind,h1,p1,p2,p3,Result.andThen_ok];rw[Z]
  cases hb:fM ((xs.drop o).take l.length) ((ys.drop o).take l.length)
  ·simp
  simpa using hr
 |[],_::_,_,h,_,_,_,_,_=>by simp[qR]at h
 |_::_,[],_,h,_,_,_,_,_=>by simp[qR]at h
def Qo{d:Nat}{e:TypeId}{l:List Sh}{xs ys:List Value}(he:EqT P d e l)(J:P.cellsOf e=l.length){u:TypeDesc}(hu:P.underlying e=some u)
  (O:Ih u l.length):∀(m i:Nat),
  fD Kd (xs.drop (i*l.length)) (replicate m l).flatten->fD Kd (ys.drop (i*l.length)) (replicate m l).flatten->
  (Op.eqItems d e (P.cellsOf e) xs.toArray ys.toArray (range' i m)).run P w=.ok (fM (xs.drop (i*l.length)) (ys.drop (i*l.length))) w
 | 0,i,hx,hy=>by
  rw[fD.zH hx,fD.zH hy];simp[Op.eqItems,fM]
 |m+1,i,hx,hy=>by
  rw[replicate_succ,flatten_cons]at hx hy;obtain⟨Z,h⟩:=GK hx;obtain⟨hy1,I⟩:=GK hy;rw[lW,<-mR]at h I;have hr:=Qo he J hu O m (i+1) h I;have M:Ih u (P.cellsOf e):=by
   rw[J];exact O
  have hlx:i*l.length+l.length<=xs.length\/l.length=0:=by
   have e1:=Z.len;simp only[length_take,length_drop]at e1;omega
  have hly:i*l.length+l.length<=ys.length\/l.length=0:=by
   have e1:=hy1.len;simp only[length_take,length_drop]at e1;omega
  by_cases h0:l.length=0
  ·have hl:l=[]:=FZ h0;subst hl;have hz:(replicate m ([]:List Sh)).flatten=[]:=by simp
   rw[hz]at h I;simp only[length_nil,Nat.mul_zero,drop_zero]at*;have ex:=fD.zH h;have ey:=fD.zH I;subst ex;subst ey;have p1:=vI (P:=P) w hu (xs:=[]) (off:=0) (by rw[J];simp) M;simp only[drop_nil,take_nil]at p1;have p3:=he w [] [] trivial trivial;simp only[range'_succ,Op.eqItems,Sem.run_bind,J,Nat.mul_zero,p1,p3,Result.andThen_ok];rw[J]at hr;simpa[fM]using hr
  have p1:=vI (P:=P) w hu (xs:=xs) (off:=i*l.length) Y M;have p2:=vI (P:=P) w hu (xs:=ys) (off:=i*l.length) Y M;rw[J]at p1 p2;have p3:=he w _ _ Z hy1;have e1:fM (xs.drop (i*l.length)) (ys.drop (i*l.length))=(fM ((xs.drop (i*l.length)).take l.length) ((ys.drop (i*l.length)).take l.length)&&fM (xs.drop ((i+1)*l.length)) (ys.drop ((i+1)*l.length))):=by
   rw[mR,<-lW,<-lW,<-xU jQ,yg,yg]
  simp only[range'_succ,Op.eqItems,Sem.run_bind,J,p1,p2,p3,Result.andThen_ok];rw[e1];rw[J]at hr
  cases hb:fM ((xs.drop (i*l.length)).take l.length) ((ys.drop (i*l.length)).take l.length)
  ·simp
  simpa using hr
def Qp:∀(n:Nat) (t:TypeId) (l:List Sh) (d:Nat),flat P n t=some l->GJ P n t=true->n<=d->EqT P d t l
 | 0,_,_,_,h,_,_=>by simp[flat]at h
 |n+1,t,l,0,_,_,h=>by omega
 |n+1,t,l,d+1,hf,ho,hd=>by
  intro w xs ys hx hy;unfold flat at hf;unfold GJ at ho
  cases J:P.underlying t with
  |none=>simp[J]at hf
  |some u=>
   cases u<;>simp only[J]at hf ho<;>try (simp at hf;done)
   case bool=>
    simp at hf;subst hf;obtain⟨a,l1,rfl,⟨p,rfl⟩,h2⟩:=fD.yH hx;obtain⟨b,l2,rfl,⟨q,rfl⟩,O⟩:=fD.yH hy;rw[fD.zH h2,fD.zH O];simp[mkV,J,Op.equalIn,run_underlying J,fM,wJ]
   case int k=>
    simp at hf;subst hf;obtain⟨a,l1,rfl,⟨p,rfl⟩,h2⟩:=fD.yH hx;obtain⟨b,l2,rfl,⟨q,rfl⟩,O⟩:=fD.yH hy;rw[fD.zH h2,fD.zH O];simp[mkV,J,Op.equalIn,run_underlying J,fM,wJ]
   case string=>
    simp at hf;subst hf;obtain⟨a,l1,rfl,⟨p,rfl⟩,h2⟩:=fD.yH hx;obtain⟨b,l2,rfl,⟨q,rfl⟩,O⟩:=fD.yH hy;rw[fD.zH h2,fD.zH O];simp[mkV,J,Op.equalIn,run_underlying J,fM,wJ,beq_toListBytes]
   case slice e=>simp at ho
   case array m e=>
    simp only[Option.bind_eq_some_iff]at hf;obtain⟨le,hle,I⟩:=hf
    split at I
    ·rename_i M
     simp only[Bool.and_eq_true,beq_iff_eq]at M;simp at I;subst I;have ih:=Qp n e le d hle ho Y;have hn:∃k,n=k+1:=by
      cases n with
      |zero=>simp[flat]at hle
      |succ k=>exact⟨k,E⟩
     obtain⟨k,rfl⟩:=hn;obtain⟨u,hue,hu1⟩:=Ns hle;have hi:∃i,P.info? e=some i:=by
      unfold Program.underlying at hue
      cases hh:P.info? e with
      |none=>simp[hh]at hue
      |some i=>exact⟨i,E⟩
     obtain⟨i,hi⟩:=hi;have h:=Qo (P:=P) w ih M.1 hue hu1 (xs:=xs) (ys:=ys) m 0 (by simpa using hx) (by simpa using hy);simp only[mkV,J];rw[run_equalIn_array w d _ _ J hi,range_eq_range',h];simp
    simp at I
   case struct fs=>
    simp only[Option.bind_eq_some_iff]at hf;obtain⟨ls,hls,I⟩:=hf
    split at I
    ·rename_i M
     simp only[Bool.and_eq_true,beq_iff_eq]at M;simp at I;subst I;simp only[Bool.and_eq_true,Bool.not_eq_true',all_eq_true,bne_iff_ne,ne_eq]at ho;have hfs:P.fieldsOf t=fs:=by simp[Program.fieldsOf,J]
     have h:=Nt (P:=P) w (d:=d) (xs:=xs) (ys:=ys) fs.toList ls 0 M.1 (λi f l' hfi hli=>by
      have Z:f∈fs.toList:=jN hfi;have O:=mapM_some_get hls i f hfi;rw[hli]at O;have hn:∃k,n=k+1:=by
       cases n with
       |zero=>simp[flat]at O
       |succ k=>exact⟨k,E⟩
      obtain⟨k,rfl⟩:=hn;exact⟨(ho.2 f Z).1,Qp (k+1) f.type l' d O (ho.2 f Z).2 Y,Ns O⟩) (aG _) (aG _) (by simpa using hx) (by simpa using hy)
     simp only[mkV,J];rw[run_equalIn_struct w d t _ _ (by rw[hfs];exact J) ho.1,hfs,h];simp
    simp at I
def zi{t:TypeId}{l:List Sh}(J:flat P 30 t=some l)(M:GJ P 30 t=true)(I:∀xs,mkV P t xs=.agg xs.toArray){xs ys:List Value}(O:fD Kd xs l)(Z:fD Kd ys l):
 (binOp .eql t (.agg xs.toArray) (.agg ys.toArray)).run P w=.ok (.bool (fM xs ys)) w:=by
 rw[run_eql_struct];have h:=Qp 30 t l 10000 J M Y w xs ys O Z;rw[I,I]at h;rw[h];rfl
def vE{t:TypeId}{l:List Sh}(J:flat P 30 t=some l)(M:GJ P 30 t=true)(I:∀xs,mkV P t xs=.agg xs.toArray){xs ys:List Value}(O:fD Kd xs l)(Z:fD Kd ys l):
 (binOp .neq t (.agg xs.toArray) (.agg ys.toArray)).run P w=.ok (.bool (!fM xs ys)) w:=by
 rw[run_neq_struct];have h:=Qp 30 t l 10000 J M Y w xs ys O Z;rw[I,I]at h;rw[h];rfl
end
structure Ev where
 kind:Int
 OU:Int
 id:Int
 body:Int
 OZ:Int
 PX:Int
 deriving DecidableEq
def Ev.cells(e:Ev):List Value:=[D e.kind,D e.OU,D e.id,D e.body,D e.OZ,D e.PX]
def Ev.aiv(a b:Ev):fM a.cells b.cells=decide (a=b):=by
 obtain⟨a1,a2,a3,a4,a5,a6⟩:=a;obtain⟨b1,b2,b3,b4,b5,b6⟩:=b;simp only[Ev.cells,fM,wJ,Ev.mk.injEq,Bool.and_true];rw[SB];simp
def avQ:List Sh:=[.at_ (.int .i64),.at_ (.int .i64),.at_ (.int .i64),.at_ (.int .i64),.at_ (.int .i64),.at_ (.int .i64)]
def ame:flat prog 30 49=some avQ:=kQ
def amf:GJ prog 30 49=true:=kQ
def asD(xs:List Value):mkV prog 49 xs=.agg xs.toArray:=by
 unfold mkV;rw[underlying49]
def Ev.kd(a:Ev):fD Kd a.cells avQ:=⟨⟨_,E⟩,⟨_,E⟩,⟨_,E⟩,⟨_,E⟩,⟨_,E⟩,⟨_,E⟩,trivial⟩
def uL(a b:Ev)(w:World):(binOp .neq 49 (.agg #[D a.kind,D a.OU,D a.id,D a.body,D a.OZ,D a.PX])
  (.agg #[D b.kind,D b.OU,D b.id,D b.body,D b.OZ,D b.PX])).run prog w=.ok (.bool (!decide (a=b))) w:=by
 rw[<-Ev.aiv];exact vE (P:=prog) w ame amf asD a.kd b.kd
def Ev.val(e:Ev):Value:=.agg #[D e.kind,D e.OU,D e.id,D e.body,D e.OZ,D e.PX]
section
open ChangeAt
section
variable {P:Program}{N:Nat}{l l':P7}{a:Act}{w w' w0:World}{B:Nat}{fs fs':List OJ}{ops:Array Oper}{o:Oper}{rest:List Oper}{Q:Exit->Act->World->Prop}{v u p:Value}{d:Nat}
def nR{V:Nat->Value}{row:Array Value}{t:TypeId}(S:St B w0 w fs)(hw:Qb N ops l o true)(I:o.dst=some d)(J:blt d N=true)(M:Does P N l o w (V w.heap.size) (w.alloc (.cells row t)))
  (h:∀b w',St B w0 w' (.Oy b row t::fs)->wL P N ops Q rest ((d,V b)::l) w'):wL P N ops Q (o::rest) l w:=TR hw I J M (h _ _ S.alloc)
def St.aiw{row:Array Value}{t:TypeId}{n s:Nat}(S:St B w0 w fs)(hs:row.size=n*s)(hn:n<=maxLen):St B w0 (w.alloc (.cells row t)) (.own t s (.slice (some ⟨w.heap.size,0,none⟩) n n) n row.toList::fs):=
 S.wT ((Below.refl _ _).alloc aB _) (abA w row t n s hs hn)
def uw{V:Nat->Value}{row:Array Value}{t:TypeId}{n s:Nat}{xs:List Value}(S:St B w0 w fs)(hw:Qb N ops l o true)(I:o.dst=some d)(J:blt d N=true)(M:Does P N l o w (V w.heap.size) (w.alloc (.cells row t)))
  (hs:row.size=n*s) (hn:n<=maxLen) (O:row.toList=xs) (h:∀b w',St B w0 w' (.own t s (.slice (some ⟨b,0,none⟩) n n) n xs::fs)->wL P N ops Q rest ((d,V b)::l) w'):wL P N ops Q (o::rest) l w:=by
 subst O;exact TR hw I J M (h _ _ (S.aiw hs hn))
def St.nil(S:St B w0 w fs)(e:TypeId)(s:Nat):St B w0 w (.own e s (.slice none 0 0) 0 []::fs):=S.cons (kH _ _ _ _) λk h=>by cases h
def St.there{b:Nat}{row:Array Value}{t:TypeId}(i:Nat)(S:St B w0 w fs)(hi:fs[i]? =some (.Oy b row t))(off m:Nat)(h:off+m<=row.size):w.there b off m:=λj J=>by
 have I:=S.Oy i hi;exact⟨by rw[I.cell (k:=off+j) (x9 Y)];rfl,I.free _⟩
def Ii{ty t:TypeId}{x y:Operand}{b off m:Nat}{cs row row':Array Value}(i:Nat)(S:St B w0 w fs)(hw:Qb N ops l o true)(M:o.dst=none)(O:o.op=.store ty x y)(Z:ev l x=some (.pointer (some ⟨b,off,none⟩)))(hy:ev l y=some v)
  (hi:fs[i]? =some (.Oy b row t)) (hv:v.cells=cs) (hz:(P.info? ty).map (·.size)=some m) (hm:cs.size=m) (h1:∀u∈cs.toList,u.oneCell'=true) (hr:off+m<=row.size) (I:dU row off cs.toList=row') (J:fs.set i (.Oy b row' t)=fs')
  (h:∀w',St B w0 w' fs'->wL P N ops Q rest l w'):wL P N ops Q (o::rest) l w:=by
 subst I;subst J;exact Qm hw M (Sw O Z hy (SA hv hz hm h1 (S.there i hi off m hr))) (h _ (S.set i hi (lD b cs.toList off w) (lC cs.toList off (S.Oy i hi))))
def eG{x y:Operand}{t e:TypeId}{z:Value}{size bytes n m c Br:Nat}{A:Option Addr}{xs news xs':List Value}{sv:Value}(i:Nat)(S:St B w0 w fs)(hw:Qb N ops l o true)(hd:o.dst=some d)(hN:blt d N=true)
  (ho:o.op=.call {callee:=.builtin .append,args:= #[x,y],argTypes:= #[t,t]}) (hx:ev l x=some sv) (hy:ev l y=some (.slice A m c)) (hi:fs[i]? =some (.own e size sv n xs)) (hr:Rd w Br size A m news)
  (ht:P.underlying t=some (.slice e)) (J:(P.info? e).map (λi=>(i.zero,i.size,i.bytes))=some (some z,size,bytes)) (O:z.cells.size=size) (Z:0<size) (h1:∀u∈news,u.oneCell'=true) (h63:n+m<=maxLen) (I:(n+m)*bytes<=140737488355328)
  (hxs:xs++news=xs') (h:∀A' c' w',n+m<=c'->c'<=maxLen->St B w0 w' (fs.set i (.own e size (.slice A' (n+m) c') (n+m) xs'))->wL P N ops Q rest ((d,.slice A' (n+m) c')::l) w'):wL P N ops Q (o::rest) l w:=by
 subst hxs;obtain⟨j0,hj0,hz,hs,hb⟩:=info_parts J;obtain⟨v',w',M,h2,h3,h4⟩:=tY (P:=P) w B t o.type e j0 z size bytes ht hj0 hz hs hb O Z sv n xs (S.own i hi) Br A m c news hr h1 h63 I S.base;obtain⟨A',c',rfl,hc1,hc2⟩:=nX h2;exact TR hw hd hN (D6 (xs:=[x,y]) (vs:=[sv,.slice A m c]) ho ⟨hx,hy,trivial⟩ (λcs=>by simp[builtin,M,Sem.run_bind,Result.andThen])) (h A' c' w' hc1 hc2 (S.append i hi h3 h2 h4))
def St.nP{b n s:Nat}{row:Array Value}{t:TypeId}{xs:List Value}(i:Nat)(S:St B w0 w fs)(hi:fs[i]? =some (.Oy b row t))(I:row.toList=xs)(J:xs.length=n*s):Rd w w.heap.size s (some ⟨b,0,none⟩) n xs:=
 ⟨J,λ_=>⟨b,0,E,S.lt i hi,λj u h=>by
  rw[fU];exact(S.Oy i hi).cell (by rw[<-I]at h;simpa using h)⟩⟩
def Rd.addr{B s n:Nat}{A:Option Addr}{xs:List Value}(h:Rd w B s A n xs)(hn:0<n):∃b off,A=some ⟨b,off,none⟩:=by
 obtain⟨b,off,e,_⟩:=h.2 hn;exact⟨b,off,e⟩
def Rd.cl{B s n b off j:Nat}{xs:List Value}(h:Rd w B s (some ⟨b,off,none⟩) n xs)(I:xs[j]? =some v):w.cell? ⟨b,off+j,none⟩=some v:=by
 have M:j<xs.length:=(dw.1 I).1;have hn:0<n:=by
  rcases Au n with e|e
  ·rw[h.1,e]at M;omega
  exact e
 obtain⟨b',J,e,_,O⟩:=h.2 hn;simp only[Option.some.injEq,Addr.mk.injEq,and_true]at e;obtain⟨rfl,rfl⟩:=e;exact O j v I
def Rd.rg{B s n b off j m:Nat}{xs cs:List Value}(h:Rd w B s (some ⟨b,off,none⟩) n xs)(I:∀i u,cs[i]? =some u->xs[j+i]? =some u):w.rangeAt b (off+j) cs:=λi u J=>by
 rw[kR];exact h.cl (I i u J)
def St.rg{b off:Nat}{row:Array Value}{t:TypeId}{cs:List Value}(i:Nat)(S:St B w0 w fs)(hi:fs[i]? =some (.Oy b row t))(h:∀j u,cs[j]? =some u->row[off+j]? =some u):w.rangeAt b off cs:=λj u I=>(S.Oy i hi).cell (h j u I)
def St.cl{b k:Nat}{row:Array Value}{t:TypeId}(i:Nat)(S:St B w0 w fs)(hi:fs[i]? =some (.Oy b row t))(h:row[k]? =some v):w.cell? ⟨b,k,none⟩=some v:=(S.Oy i hi).cell h
def uM{row cs:Array Value}(h:row.size=cs.size):dU row 0 cs.toList=cs:=by
 apply Av.1;rw[jw _ _ _ jQ];simp only[take_zero,nil_append,Nat.zero_add,Array.length_toList];rw[F5 jQ,bI]
def amg{L cs:List Value}{x m:Nat}(h:(L.drop x).take m=cs):∀(j:Nat) (u:Value),cs[j]? =some u->L[x+j]? =some u:=by
 intro j u I;subst h;have J:j<m:=by
  have:=(dw.1 I).1;rw[eD]at this;omega
 rw[xY J,Dm]at I;exact I
def oG{row:Array Value}{cs:List Value}{x m:Nat}(h:(row.toList.drop x).take m=cs):∀(j:Nat) (u:Value),cs[j]? =some u->row[x+j]? =some u:=by
 intro j u I;have:=amg h j u I;simpa using this
def Rd.cl2{B s n b off j i:Nat}{xs:List Value}(h:Rd w B s (some ⟨b,off,none⟩) n xs)(I:xs[j+i]? =some v):w.cell? ⟨b,off+j+i,none⟩=some v:=by
 rw[kR];exact h.cl I
def Rd.Bb{B s n b off j:Nat}{xs cs:List Value}(h:Rd w B s (some ⟨b,off,none⟩) n xs)(I:∀i u,cs[i]? =some u->xs[j+i]? =some u):w.rangeAt b (off+j) cs:=h.rg (m:=0) I
def dx{cs:List Value}(h:cs.all (·.oneCell')=true):∀u∈cs,u.oneCell'=true:=by simpa using h
def dF{α:Type}{enc:α->List Value}{sz:Nat}(I:∀x,(enc x).length=sz):∀ {l:List α} {k:Nat} {x:α} {j:Nat} {u:Value},l[k]? =some x->(enc x)[j]? =some u->(l.flatMap enc)[k*sz+j]? =some u
 |[],k,x,j,u,h,_=>by simp at h
 |y::l,0,x,j,u,h,J=>by
  simp at h;subst h;rw[nM,F6,fU,oC (dw.1 J).1];exact J
 |y::l,k+1,x,j,u,h,J=>by
  have M:j<sz:=by have:=(dw.1 J).1;rw[I]at this;exact this
  rw[nM,pO (by rw[I,mR];omega),I,show(k+1)*sz+j-sz=k*sz+j by rw[mR];omega];exact dF I (by simpa using h) J
def jI{α:Type}{enc:α->List Value}{sz:Nat}(h:∀x,(enc x).length=sz)(l:List α):(l.flatMap enc).length=l.length*sz:=by
 induction l with
 |nil=>simp
 |cons y l I=>rw[nM,aZ,I,h,mV,mR];omega
def rY{t e:TypeId}{b off n c s:Nat}{i:Int}{kd:IntKind}(k:Nat)(O:P.underlying t=some (.slice e))(M:(P.info? e).map (·.size)=some s)(I:i=k)(Z:k<n):
 (Instr.indexAt t (.slice (some ⟨b,off,none⟩) n c) (.int kd i)).run P w=.ok (.pointer (some ⟨b,off+k*s,none⟩)) w:=by
 subst I;obtain⟨q,hq,hs⟩:∃q,P.info? e=some q/\q.size=s:=by
  cases h:P.info? e with
  |none=>simp[h]at M
  |some q=>exact⟨q,E,by simpa[h]using M⟩
 have J:(0:Int)<=k/\(k:Int)<n:=Y;simp[Instr.indexAt,asIntOf,Sem.run_bind,run_underlying O,Result.andThen,J,Z,sizeOf,typeInfo,hq,hs,Go.WideShapes.add_plain]
def fP{t e:TypeId}{b off n s:Nat}{i:Int}{kd:IntKind}(k:Nat)(O:P.underlying t=some (.array n e))(M:(P.info? e).map (·.size)=some s)(I:i=k)(Z:k<n):
 (Instr.indexAt t (.pointer (some ⟨b,off,none⟩)) (.int kd i)).run P w=.ok (.pointer (some ⟨b,off+k*s,none⟩)) w:=by
 subst I;obtain⟨q,hq,hs⟩:∃q,P.info? e=some q/\q.size=s:=by
  cases h:P.info? e with
  |none=>simp[h]at M
  |some q=>exact⟨q,E,by simpa[h]using M⟩
 have J:(0:Int)<=k/\(k:Int)<n:=Y;simp[Instr.indexAt,asIntOf,Sem.run_bind,run_underlying O,Result.andThen,J,Z,sizeOf,typeInfo,hq,hs,Go.WideShapes.add_plain,Instr.sureAddr]
def wU(P:Program)(N:Nat)(ops:Array Oper)(C:World->Prop)(Qa:Act->Prop)(rest:List Oper)(l:P7):Prop:= ∀a,Fr N l a->wpQuiet P ops C Qa rest a
def je{id:Nat}{os:List Oper}(S:St B w0 w fs)(I:P.follows .mixedOrders=true)(J:Region.lexB .any os.toArray=true)
  (h:wU P N os.toArray (λw'=>St B w0 w' fs) (λM=> ∀w',St B w0 w' fs->Q .normal M w') os l):wC P N (.region id os.toArray true) Q l w:=λa F=>
 wp_region_quiet (C:=λw'=>St B w0 w' fs) I J S.drew (by simpa using h a F)
def Qq{C:World->Prop}{Qa:Act->Prop}(hw:Qb N ops l o true)(I:o.dst=some d)(J:blt d N=true)(M:∀w,C w->kY P N l o w v)(h:wU P N ops C Qa rest ((d,v)::l)):wU P N ops C Qa (o::rest) l:=λa F=>by
 unfold wpQuiet;rw[au (hw a F)];refine⟨v,λw O=>?_,by rw[I];exact h _ (F.put J v)⟩;unfold Oper.quietAt;rw[M w O a F];exact⟨E,E⟩
def amh{C:World->Prop}{Qa:Act->Prop}(hw:Qb N ops l o false)(I:o.dst=some d)(J:blt d N=true)(h:wU P N ops C Qa rest ((d,undef)::l)):wU P N ops C Qa (o::rest) l:=λa F=>by
 unfold wpQuiet;rw[ah (by rw[hw a F];simp),I];exact h _ (F.put J undef)
def abJ{C:World->Prop}{Qa:Act->Prop}{f:FuncId}{vs:List Value}(hw:Qb N ops l o true)(I:o.dst=some d)(J:blt d N=true)(he:∀w,Enter P N l o w f vs)(M:∀w,C w->Calls P f vs.toArray w λe w'=>e=.returned v/\C w')
  (h:wU P N ops C Qa rest ((d,v)::l)):wU P N ops C Qa (o::rest) l:=λa F=>by
 unfold wpQuiet;rw[au (hw a F)];refine⟨v,λw O=>?_,by rw[I];exact h _ (F.put J v)⟩;unfold Oper.quietAt;rw[he w a F];exact⟨E,M w O⟩
def jB(h:∀w',St B w0 w' fs->wQ N Q .normal l w'):wU P N ops (λw'=>St B w0 w' fs) (λI=> ∀w',St B w0 w' fs->Q .normal I w') [] l:=λa F w' S=>h w' S a F
def wA(P:Program)(N:Nat)(ops:Array Oper)(Q:Exit->Act->World->Prop)(C:World->Prop)(n:Nat)(listed:Array Bool)(l:P7)(w:World):Prop:= ∀a,Fr N l a->wpAnyH P .any ops (NoPanic Q) C n listed a w
def asE{id:Nat}{os:List Oper}{C:World->Prop}(I:P.follows .mixedOrders=true)(h:wA P N os.toArray Q C os.toArray.size (Array.replicate os.toArray.size false) l w.drew):wC P N (.region id os.toArray true) Q l w:=λa F=>
 wp_region_noPanic (wp_region_held I (h a F))
def qW{C:World->Prop}{n i:Nat}{listed listed':Array Bool}(hi:ops[i]? =some o)(hs:Region.noSelect ops=true)(I:Region.free .any ops listed i=true)(J:(Region.ready .any ops listed).contains i=true)(M:C w)
  (O:listed.setIfInBounds i true=listed') (hw:Qb N ops l o true) (Z:o.dst=some d) (hN:blt d N=true) (hy:∀w,C w->kY P N l o w v) (h:wA P N ops Q C n listed' ((d,v)::l) w):wA P N ops Q C (n+1) listed l w:=λa F=>by
 subst O;refine wpAnyH_take hi hs I J (λc a w h=>h) (.inl ⟨hw a F,λw hC=>hy w hC a F⟩) M ?_;rw[Z];exact h _ (F.put hN v)
def Dp{C:World->Prop}{n i:Nat}{listed listed':Array Bool}(hi:ops[i]? =some o)(hs:Region.noSelect ops=true)(I:Region.free .any ops listed i=true)(J:(Region.ready .any ops listed).contains i=true)(M:C w)
  (O:listed.setIfInBounds i true=listed') (hw:Qb N ops l o false) (Z:o.dst=some d) (hN:blt d N=true) (h:wA P N ops Q C n listed' ((d,undef)::l) w):wA P N ops Q C (n+1) listed l w:=λa F=>by
 subst O;refine wpAnyH_take (v:=undef) hi hs I J (λc a w h=>h) (.inr ⟨hw a F,E⟩) M ?_;rw[Z];exact h _ (F.put hN undef)
def wN(P:Program)(N:Nat)(ops:Array Oper)(Q:Exit->Act->World->Prop)(i:Nat)(l:P7)(w:World)(K:Act->World->Prop):Prop:= ∀a,Fr N l a->wpOp P ops (NoPanic Q) i K a w
def ami{C:World->Prop}{n:Nat}{listed:Array Bool}(I:Region.ready .any ops listed=[])(h:wQ N Q .normal l w):wA P N ops Q C n listed l w:=λa F=>wpAnyH_done I (NoPanic.normal (h a F)) n
def agB{C:World->Prop}{n i:Nat}{listed listed':Array Bool}(hi:ops[i]? =some o)(I:listed.setIfInBounds i true=listed')(hw:Qb N ops l o true)(J:o.dst=some d)(M:blt d N=true)(O:Does P N l o w v w')(Z:C w')(h:wA P N ops Q C n listed' ((d,v)::l) w'):
 wN P N ops Q i l w (λa' w'=>C w'/\wpAnyH P .any ops (NoPanic Q) C n (listed.setIfInBounds i true) a' w'):=λa F=>by
 subst I;unfold wpOp;simp only[hi];rw[au (hw a F)];refine .inl ?_;unfold Oper.wp;rw[O a F];refine⟨Z,?_⟩;rw[J];exact h _ (F.put M v)
def asF{C:World->Prop}{n i:Nat}{listed listed':Array Bool}(hi:ops[i]? =some o)(I:listed.setIfInBounds i true=listed')(hw:Qb N ops l o true)(J:o.dst=none)(M:Eff P N l o w w')(O:C w')(h:wA P N ops Q C n listed' l w'):
 wN P N ops Q i l w (λZ w'=>C w'/\wpAnyH P .any ops (NoPanic Q) C n (listed.setIfInBounds i true) Z w'):=λa F=>by
 subst I;unfold wpOp;simp only[hi];rw[au (hw a F)];refine .inl ?_;unfold Oper.wp;rw[M a F];refine⟨O,?_⟩;rw[J];exact h _ F
def amj{C:World->Prop}{n i:Nat}{listed listed':Array Bool}{f:FuncId}{vs:List Value}{R:Ending->World->Prop}(hi:ops[i]? =some o)(I:listed.setIfInBounds i true=listed')(hw:Qb N ops l o true)(J:o.dst=some d)(M:blt d N=true)(he:Enter P N l o w f vs)(O:Calls P f vs.toArray w R)
  (h:∀e w',R e w'-> ∃v,e=.returned v/\C w'/\wA P N ops Q C n listed' ((d,v)::l) w'):
  wN P N ops Q i l w (λZ w'=>C w'/\wpAnyH P .any ops (NoPanic Q) C n (listed.setIfInBounds i true) Z w'):=λa F=>by
 subst I;unfold wpOp;simp only[hi];rw[au (hw a F)];refine .inl ?_;unfold Oper.wp;rw[he a F];refine O.mono λe w' hr=>?_;obtain⟨v,rfl,hC,hv⟩:=h e w' hr;refine⟨hC,?_⟩;rw[J];exact hv _ (F.put M v)
def F8{id n:Nat}{os:List Oper}{C:World->Prop}{listed:Array Bool}(I:P.follows .mixedOrders=true)(hn:os.length=n)(J:Array.replicate n false=listed)(h:wA P N os.toArray Q C n listed l w.drew):wC P N (.region id os.toArray true) Q l w:=by
 subst hn;subst J;exact asE I (by simpa using h)
def wK(P:Program)(N:Nat)(ops:Array Oper)(Q:Exit->Act->World->Prop)(C:World->Prop)(n i:Nat)(listed:Array Bool)(l:P7)(w:World):Prop:=wN P N ops Q i l w (λa' w'=>C w'/\wpAnyH P .any ops (NoPanic Q) C n (listed.setIfInBounds i true) a' w')
def SC{C:World->Prop}{n:Nat}{listed:Array Bool}{r:Nat}{rs:List Nat}(I:Region.ready .any ops listed=r::rs)(h:∀i∈r::rs,wK P N ops Q C n i listed l w):wA P N ops Q C (n+1) listed l w:=λa F=>
 wpAnyH_all I iQ λi hi=>h i hi a F
def asG{C:World->Prop}{n:Nat}{listed:Array Bool}{r:Nat}(I:Region.ready .any ops listed=[r])(h:wK P N ops Q C n r listed l w):wA P N ops Q C (n+1) listed l w:=SC I λi hi=>by
 rcases aF.1 hi with rfl
 exact h
def gL{C:World->Prop}{n:Nat}{listed:Array Bool}{r s:Nat}(I:Region.ready .any ops listed=[r,s])(h:wK P N ops Q C n r listed l w)(J:wK P N ops Q C n s listed l w):wA P N ops Q C (n+1) listed l w:=SC I λi hi=>by
 rcases iq.1 hi with rfl|hi
 ·exact h
 rcases aF.1 hi with rfl
 exact J
def GL{C:World->Prop}{n:Nat}{listed:Array Bool}{r s t:Nat}(J:Region.ready .any ops listed=[r,s,t])(h:wK P N ops Q C n r listed l w)(M:wK P N ops Q C n s listed l w)(I:wK P N ops Q C n t listed l w):wA P N ops Q C (n+1) listed l w:=SC J λi hi=>by
 rcases iq.1 hi with rfl|hi
 ·exact h
 rcases iq.1 hi with rfl|hi
 ·exact M
 rcases aF.1 hi with rfl
 exact I
section
variable {C:World->Prop}{n i:Nat}{listed listed':Array Bool}
def kG(hi:ops[i]? =some o)(I:listed.setIfInBounds i true=listed')(hw:Qb N ops l o true)(J:o.dst=some d)(M:blt d N=true)(O:kY P N l o w v)(h:C w/\wA P N ops Q C n listed' ((d,v)::l) w):wK P N ops Q C n i listed l w:=
 agB hi I hw J M O h.1 h.2
def jm{V:Nat->Value}{row:Array Value}{t:TypeId}(hi:ops[i]? =some o)(I:listed.setIfInBounds i true=listed')(S:St B w0 w fs)(hw:Qb N ops l o true)(J:o.dst=some d)(M:blt d N=true)(O:Does P N l o w (V w.heap.size) (w.alloc (.cells row t)))
  (h:∀b w',St B w0 w' (.Oy b row t::fs)->C w'/\wA P N ops Q C n listed' ((d,V b)::l) w'):wK P N ops Q C n i listed l w:=
 agB hi I hw J M O (h _ _ S.alloc).1 (h _ _ S.alloc).2
def wV{ty t:TypeId}{x y:Operand}{b off m:Nat}{cs row row':Array Value}(J:ops[i]? =some o)(Z:listed.setIfInBounds i true=listed')(j:Nat)(S:St B w0 w fs)(hw:Qb N ops l o true)(hd:o.dst=none)(ho:o.op=.store ty x y)(hx:ev l x=some (.pointer (some ⟨b,off,none⟩)))(hy:ev l y=some v)
  (hi:fs[j]? =some (.Oy b row t)) (hv:v.cells=cs) (hz:(P.info? ty).map (·.size)=some m) (hm:cs.size=m) (h1:∀u∈cs.toList,u.oneCell'=true) (hr:off+m<=row.size) (I:dU row off cs.toList=row') (M:fs.set j (.Oy b row' t)=fs')
  (h:∀w',St B w0 w' fs'->C w'/\wA P N ops Q C n listed' l w'):wK P N ops Q C n i listed l w:=by
 subst I;subst M;have O:=h _ (S.set j hi (lD b cs.toList off w) (lC cs.toList off (S.Oy j hi)));exact asF J Z hw hd (Sw ho hx hy (SA hv hz hm h1 (S.there j hi off m hr))) O.1 O.2
def Qr{x y:Operand}{t e:TypeId}{z:Value}{size bytes k m c Br:Nat}{A:Option Addr}{xs news xs':List Value}{sv:Value}(O:ops[i]? =some o)(hl:listed.setIfInBounds i true=listed')(j:Nat)(S:St B w0 w fs)(hw:Qb N ops l o true)(hd:o.dst=some d)(hN:blt d N=true)
  (ho:o.op=.call {callee:=.builtin .append,args:= #[x,y],argTypes:= #[t,t]}) (hx:ev l x=some sv) (hy:ev l y=some (.slice A m c)) (hi:fs[j]? =some (.own e size sv k xs)) (hr:Rd w Br size A m news)
  (ht:P.underlying t=some (.slice e)) (J:(P.info? e).map (λi=>(i.zero,i.size,i.bytes))=some (some z,size,bytes)) (Z:z.cells.size=size) (hsz:0<size) (h1:∀u∈news,u.oneCell'=true) (h63:k+m<=maxLen) (I:(k+m)*bytes<=140737488355328)
  (hxs:xs++news=xs') (h:∀A' c' w',k+m<=c'->c'<=maxLen->St B w0 w' (fs.set j (.own e size (.slice A' (k+m) c') (k+m) xs'))->C w'/\wA P N ops Q C n listed' ((d,.slice A' (k+m) c')::l) w'):wK P N ops Q C n i listed l w:=by
 subst hxs;obtain⟨j0,hj0,hz,hs,hb⟩:=info_parts J;obtain⟨v',w',M,h2,h3,h4⟩:=tY (P:=P) w B t o.type e j0 z size bytes ht hj0 hz hs hb Z hsz sv k xs (S.own j hi) Br A m c news hr h1 h63 I S.base;obtain⟨A',c',rfl,hc1,hc2⟩:=nX h2;have hk:=h A' c' w' hc1 hc2 (S.append j hi h3 h2 h4);exact agB O hl hw hd hN (D6 (xs:=[x,y]) (vs:=[sv,.slice A m c]) ho ⟨hx,hy,trivial⟩ (λcs=>by simp[builtin,M,Sem.run_bind,Result.andThen])) hk.1 hk.2
def zl{f:FuncId}{vs:List Value}{R:Ending->World->Prop}(hi:ops[i]? =some o)(I:listed.setIfInBounds i true=listed')(hw:Qb N ops l o true)(J:o.dst=some d)(M:blt d N=true)(he:Enter P N l o w f vs)(O:Calls P f vs.toArray w R)
  (h:∀e w',R e w'-> ∃v,e=.returned v/\C w'/\wA P N ops Q C n listed' ((d,v)::l) w'):wK P N ops Q C n i listed l w:=amj hi I hw J M he O h
end
end
section
variable {P:Program}{ops:Array Oper}{Q:Exit->Act->World->Prop}{C:World->Prop}{n N:Nat}{l l':P7}{a:Act}{w w' w0:World}{B:Nat}{fs fs':List OJ}{o:Oper}{v:Value}{d m i:Nat}{listed listed':Array Bool}
def EF(P:Program)(ops:Array Oper)(Q:Exit->Act->World->Prop)(C:World->Prop)(n:Nat):Nat->Array Bool->Act->World->Prop
 | 0,listed,a,w=>Region.ready .any ops listed=[]/\Q .normal a w
 |fuel+1,listed,a,w=>
  (Region.ready .any ops listed=[]->Q .normal a w)/\
  ∀i∈Region.ready .any ops listed,wpOp P ops Q i (λa' w'=>((listed.setIfInBounds i true).getD n true=false->C w')/\EF P ops Q C n fuel (listed.setIfInBounds i true) a' w') a w
def Nu:∀(I:Nat) (listed:Array Bool) (a:Act) (w:World),EF P ops Q C n I listed a w->wpAny P .any ops Q I listed a w
 | 0,_,_,_,h=>h
 |I+1,_,_,_,h=>⟨h.1,λi hi=>wpOp_mono (λJ w' M=>Nu I _ J w' M.2) (h.2 i hi)⟩
def zJ(ops:Array Oper)(n i:Nat):Bool:=match ops[n]? with|none=>false|some o=>o.after.any λe=>Region.binds .any e&&e.on==i
def abT{i:Nat}{listed:Array Bool}(hw:zJ ops n i=true)(hi:listed.getD i true=false):n ∉ Region.ready .any ops listed:=by
 intro M;obtain⟨_,o,O,h⟩:=mem_ready.1 M;unfold zJ at hw;rw[O]at hw;obtain⟨e,he,I⟩:=Array.any_eq_true'.1 hw;simp only[Bool.and_eq_true,beq_iff_eq]at I;have h1:=h e he I.1;rw[I.2]at h1
 rcases sF i listed.size with J|J
 ·simp[J]at hi h1;rw[hi]at h1;cases h1
 simp[Array.getElem?_eq_none J]at hi
def Ij{i:Nat}{oi:Oper}{v:Value}(hi:ops[i]? =some oi)(hsel:∀(j:Nat) (o:Oper) cs b,ops[j]? =some o->o.op≠ .select cs b)
  (hQ:∀c a w,Q (.panic c) (a.put oi.dst v) w->Q (.panic c) a w) (hni:zJ ops n i=true) (hne:n≠i):
  ∀(J:Nat) (listed:Array Bool) (a:Act) (w:World),
   (∀j oj,ops[j]? =some oj->j≠i->listed.getD j true=false->(∀e∈oj.after,Region.binds .any e=true->e.on≠i)->oi.apart ops oj=true)->
   i∈Region.ready .any ops listed->listed.getD n true=false->YieldsIf P ops C oi v a->C w->
   EF P ops Q C n J (listed.setIfInBounds i true) (a.put oi.dst v) w->EF P ops Q C n (J+1) listed a w:=by
 intro J
 induction J with
 |zero=>
  intro listed a w _ hr hnl hy hS H;refine⟨λh=>(by rw[h]at hr;cases hr),λj hj=>?_⟩;by_cases I:j=i
  ·subst I;exact hy.wpOp hi hS ⟨λ_=>hS,H⟩
  have:=ready_mono hj I;rw[H.1]at this
  cases this
 |succ J ih=>
  intro listed a w M hr hnl hy hS H;refine⟨λh=>(by rw[h]at hr;cases hr),λj hj=>?_⟩;by_cases I:j=i
  ·subst I;exact hy.wpOp hi hS ⟨λ_=>hS,H⟩
  have h1:=H.2 j (ready_mono hj I);obtain⟨hjun,oj,hoj,hall⟩:=mem_ready.1 hj;have O:=(mem_ready.1 hr).1;have azf:listed.getD i true=false:=by
   rcases sF i listed.size with h'|h'
   ·simp[h']at O⊢;exact O
   simp[Array.getElem?_eq_none h']at O
  have hjn:j≠n:=λe=>abT hni azf (e▸hj);have hnot:∀e∈oj.after,Region.binds .any e=true->e.on≠i:=λe he hb heq=>by
   have h1:=hall e he hb;have h0:=(mem_ready.1 hr).1;rw[heq]at h1
   rcases sF i listed.size with h'|h'
   ·simp[h']at h0 h1;rw[h0]at h1;cases h1
   simp[Array.getElem?_eq_none h']at h0
  have h2:=wpOp_putIf hoj (M j oj hoj I hjun hnot) (λcs b=>hsel i oi cs b hi) (λcs b=>hsel j oj cs b hoj) hQ hy h1;have Z:∀k ok,ops[k]? =some ok->k≠i->(listed.setIfInBounds j true).getD k true=false->
    (∀e∈ok.after,Region.binds .any e=true->e.on≠i)->oi.apart ops ok=true:=λk ok hk hki hun PX=>by
   refine M k ok hk hki ?_ PX;by_cases hjk:j=k
   ·subst hjk;exact hjun
   rw[getD_set_ne true hjk]at hun;exact hun
  have avR:(listed.setIfInBounds j true).getD n true=false:=by rw[getD_set_ne true hjn];exact hnl
  refine wpOp_mono (λa' w' h3=>?_) h2;have hC:C w':=h3.2.1 (by rw[Array.setIfInBounds_comm _ _ (Ne.symm I),getD_set_ne true (Ne.symm hne)];exact avR);refine⟨λ_=>hC,ih (listed.setIfInBounds j true) a' w' Z (ready_mono hr (Ne.symm I)) avR h3.1 hC ?_⟩;rw[Array.setIfInBounds_comm _ _ I];exact h3.2.2
def Fh:∀(l:List Oper) (k:Nat) (listed:Array Bool) (a:Act) (w:World),(∀j,l[j]? =ops[k+j]?)->(listed.setIfInBounds k true).getD n true=true\/l=[]->(listed.getD n true=true\/k=n)->n<listed.size->
  Region.seqB .any ops l.length k listed=true->wpList P ops Q l a w->EF P ops Q C n l.length listed a w
 |[],_,_,_,_,_,_,_,_,M,h=>⟨by simpa[Region.seqB]using M,h⟩
 |o::l,k,listed,a,w,hl,_,O,I,M,h=>by
  have h0:ops[k]? =some o:=by simpa using(hl 0).symm
  simp only[length_cons,Region.seqB,Bool.and_eq_true,decide_eq_true_eq]at M;refine⟨λh1=>(by rw[M.1]at h1;cases h1),λi hi=>?_⟩;rw[M.1]at hi;have Z:i=k:=by simpa using hi
  subst Z;have hw:wpOp P ops Q i (wpList P ops Q l) a w:=by unfold wpOp;simp only[h0];exact h
  have J:(listed.setIfInBounds i true).getD n true=true:=by
   rcases O with O|O
   ·by_cases e:i=n
    ·subst e;simp[Array.getD_eq_getD_getElem?,I]
    rw[getD_set_ne true e];exact O
   subst O;simp[Array.getD_eq_getD_getElem?,I]
  refine wpOp_mono (λa' w' h'=>⟨λh=>(by rw[J]at h;cases h),Fh l (i+1) _ a' w' (λj=>by have:=hl (j+1);simpa[Nat.add_assoc,Nat.add_comm 1 j]using this) ?_ (.inl J) (by simpa using I) M.2 h'⟩) hw;by_cases e:i+1=n
  ·left;subst e;simp[Array.getD_eq_getD_getElem?]
  left;rw[getD_set_ne true e];exact J
def wG(P:Program)(N:Nat)(ops:Array Oper)(Q:Exit->Act->World->Prop)(C:World->Prop)(n m:Nat)(listed:Array Bool)(l:P7)(w:World):Prop:= ∀a,Fr N l a->EF P ops (NoPanic Q) C n m listed a w
def wH(P:Program)(N:Nat)(ops:Array Oper)(Q:Exit->Act->World->Prop)(C:World->Prop)(n m i:Nat)(listed:Array Bool)(l:P7)(w:World):Prop:=
 wN P N ops Q i l w (λa' w'=>((listed.setIfInBounds i true).getD n true=false->C w')/\EF P ops (NoPanic Q) C n m (listed.setIfInBounds i true) a' w')
def Dq{id:Nat}{os:List Oper}(n:Nat)(I:P.follows .mixedOrders=true)(hn:os.length=m)(J:Array.replicate m false=listed)(h:wG P N os.toArray Q C n m listed l w.drew):wC P N (.region id os.toArray true) Q l w:=λa F=>by
 subst hn;subst J;exact wp_region_noPanic (wp_region_any I (Nu _ _ _ _ (by simpa using h a F)))
def Ga(hi:ops[i]? =some o)(hs:Region.noSelect ops=true)(O:Region.free .any ops listed i=true)(Z:(Region.ready .any ops listed).contains i=true)(I:listed.getD n true=false)(J:zJ ops n i=true)(M:beq n i=false)(hS:C w)
  (hl:listed.setIfInBounds i true=listed') (hw:Qb N ops l o true) (hd:o.dst=some d) (hN:blt d N=true) (hy:∀w,C w->kY P N l o w v) (h:wG P N ops Q C n m listed' ((d,v)::l) w):wG P N ops Q C n (m+1) listed l w:=λa F=>by
 subst hl;refine Ij hi (Region.noSelect_spec hs) (λc a w h=>h) J (λe=>by subst e;simp at M) m listed a w (Region.free_spec hi O) (by simpa using Z) I (.inl ⟨hw a F,λw hC=>hy w hC a F⟩) hS ?_;rw[hd];exact h _ (F.put hN v)
def amk(hi:ops[i]? =some o)(hs:Region.noSelect ops=true)(O:Region.free .any ops listed i=true)(Z:(Region.ready .any ops listed).contains i=true)(I:listed.getD n true=false)(J:zJ ops n i=true)(M:beq n i=false)(hS:C w)
  (hl:listed.setIfInBounds i true=listed') (hw:Qb N ops l o false) (hd:o.dst=some d) (hN:blt d N=true) (h:wG P N ops Q C n m listed' ((d,undef)::l) w):wG P N ops Q C n (m+1) listed l w:=λa F=>by
 subst hl;refine Ij (v:=undef) hi (Region.noSelect_spec hs) (λc a w h=>h) J (λe=>by subst e;simp at M) m listed a w (Region.free_spec hi O) (by simpa using Z) I (.inr ⟨hw a F,E⟩) hS ?_;rw[hd];exact h _ (F.put hN undef)
def aha{rs:List Nat}(J:Region.ready .any ops listed=rs)(I:rs.isEmpty=false)(h:∀i∈rs,wH P N ops Q C n m i listed l w):wG P N ops Q C n (m+1) listed l w:=λa F=>
 ⟨λM=>(by rw[J]at M;subst M;cases I),λi hi=>h i (J▸hi) a F⟩
def gI{r:Nat}(I:Region.ready .any ops listed=[r])(h:wH P N ops Q C n m r listed l w):wG P N ops Q C n (m+1) listed l w:=aha I E λi hi=>by
 rcases aF.1 hi with rfl
 exact h
def ahb{r s:Nat}(I:Region.ready .any ops listed=[r,s])(h:wH P N ops Q C n m r listed l w)(J:wH P N ops Q C n m s listed l w):wG P N ops Q C n (m+1) listed l w:=aha I E λi hi=>by
 rcases iq.1 hi with rfl|hi
 ·exact h
 rcases aF.1 hi with rfl
 exact J
def kC(h:wQ N Q .normal l w):wQ N (NoPanic Q) .normal l w:=λa F=>NoPanic.normal (h a F)
def gF{rest:List Oper}{k:Nat}(M:Region.seqB .any ops m n listed=true)(O:blt n listed.size=true)(I:ops.toList.drop n=rest)(Z:rest.length=m)(h:wL P N ops (NoPanic Q) rest l w)(hk:k=m:=by rfl):wG P N ops Q C n m listed l w:=λa F=>by
 subst I;subst Z;have J:n<listed.size:=by simpa[blt_eq]using O
 refine Fh _ n listed a w (λj=>by simp[getElem?_drop]) (.inl ?_) (.inr E) J M (h a F);simp[Array.getD_eq_getD_getElem?,J]
def agC(hi:ops[i]? =some o)(I:listed.setIfInBounds i true=listed')(hw:Qb N ops l o true)(J:o.dst=some d)(M:blt d N=true)(O:Does P N l o w v w')(h:C w'/\wG P N ops Q C n m listed' ((d,v)::l) w'):wH P N ops Q C n m i listed l w:=λa F=>by
 subst I;unfold wpOp;simp only[hi];rw[au (hw a F)];refine .inl ?_;unfold Oper.wp;rw[O a F];refine⟨λ_=>h.1,?_⟩;rw[J];exact h.2 _ (F.put M v)
def o8{V:Nat->Value}{row:Array Value}{t:TypeId}(hi:ops[i]? =some o)(I:listed.setIfInBounds i true=listed')(S:St B w0 w fs)(hw:Qb N ops l o true)(J:o.dst=some d)(M:blt d N=true)(O:Does P N l o w (V w.heap.size) (w.alloc (.cells row t)))
  (h:∀b w',St B w0 w' (.Oy b row t::fs)->C w'/\wG P N ops Q C n m listed' ((d,V b)::l) w'):wH P N ops Q C n m i listed l w:=agC hi I hw J M O (h _ _ S.alloc)
def nG{x y:Operand}{t e:TypeId}{z:Value}{size bytes k q c Br:Nat}{A:Option Addr}{xs news xs':List Value}{sv:Value}(O:ops[i]? =some o)(hl:listed.setIfInBounds i true=listed')(j:Nat)(S:St B w0 w fs)(hw:Qb N ops l o true)(hd:o.dst=some d)(hN:blt d N=true)
  (ho:o.op=.call {callee:=.builtin .append,args:= #[x,y],argTypes:= #[t,t]}) (hx:ev l x=some sv) (hy:ev l y=some (.slice A q c)) (hi:fs[j]? =some (.own e size sv k xs)) (hr:Rd w Br size A q news)
  (ht:P.underlying t=some (.slice e)) (J:(P.info? e).map (λi=>(i.zero,i.size,i.bytes))=some (some z,size,bytes)) (Z:z.cells.size=size) (hsz:0<size) (h1:∀u∈news,u.oneCell'=true) (h63:k+q<=maxLen) (I:(k+q)*bytes<=140737488355328)
  (hxs:xs++news=xs') (h:∀A' c' w',k+q<=c'->c'<=maxLen->St B w0 w' (fs.set j (.own e size (.slice A' (k+q) c') (k+q) xs'))->C w'/\wG P N ops Q C n m listed' ((d,.slice A' (k+q) c')::l) w'):wH P N ops Q C n m i listed l w:=by
 subst hxs;obtain⟨j0,hj0,hz,hs,hb⟩:=info_parts J;obtain⟨v',w',M,h2,h3,h4⟩:=tY (P:=P) w B t o.type e j0 z size bytes ht hj0 hz hs hb Z hsz sv k xs (S.own j hi) Br A q c news hr h1 h63 I S.base;obtain⟨A',c',rfl,hc1,hc2⟩:=nX h2;exact agC O hl hw hd hN (D6 (xs:=[x,y]) (vs:=[sv,.slice A q c]) ho ⟨hx,hy,trivial⟩ (λcs=>by simp[builtin,M,Sem.run_bind,Result.andThen])) (h A' c' w' hc1 hc2 (S.append j hi h3 h2 h4))
def nN{f:FuncId}{vs:List Value}{R:Ending->World->Prop}(hi:ops[i]? =some o)(I:listed.setIfInBounds i true=listed')(hw:Qb N ops l o true)(J:o.dst=some d)(M:blt d N=true)(he:Enter P N l o w f vs)(O:Calls P f vs.toArray w R)
  (h:∀e w',R e w'-> ∃v,e=.returned v/\C w'/\wG P N ops Q C n m listed' ((d,v)::l) w'):wH P N ops Q C n m i listed l w:=λa F=>by
 subst I;unfold wpOp;simp only[hi];rw[au (hw a F)];refine .inl ?_;unfold Oper.wp;rw[he a F];refine O.mono λe w' Z=>?_;obtain⟨v,rfl,hC,hv⟩:=h e w' Z;refine⟨λ_=>hC,?_⟩;rw[J];exact hv _ (F.put M v)
end
end
abbrev fA (s f k:Nat):Prop:= ∀(b o:Nat) (w:World),(Instr.fieldAt s (.pointer (some ⟨b,o,none⟩)) f).run tP w=.ok (.pointer (some ⟨b,o+k,none⟩)) w
abbrev iF (t k:Nat):Prop:=(tP.info? t).map (·.size)=some k
abbrev iZ (t:Nat)(z:Value)(s b:Nat):Prop:=(tP.info? t).map (λi=>(i.zero,i.size,i.bytes))=some (some z,s,b)
abbrev eN (f:FuncId):Prop:= ∀(args:Array Value) (w:World),(callFunc f args).run tP w=.ok (.enter f args) w
def avS:iF 3 1:=kQ
def aqE:iF 4 1:=kQ
def aC1:iF 5 1:=kQ
def azg:iF 22 1:=kQ
def azh:iF 23 1:=kQ
def azi:iF 24 1:=kQ
def azj:iF 26 2:=kQ
def asH:fA 26 0 0:=fQ
def asI:fA 26 1 1:=fQ
def O5:iF 27 2:=kQ
def asJ:fA 27 0 0:=fQ
def asK:fA 27 1 1:=fQ
def azk:iF 30 8:=kQ
def azl:iF 31 1:=kQ
def azm:iF 32 1:=kQ
def azn:iF 33 1:=kQ
def azo:iF 34 18:=kQ
def asL:fA 34 0 0:=fQ
def asM:fA 34 1 1:=fQ
def asN:fA 34 2 6:=fQ
def asO:fA 34 3 14:=fQ
def asP:fA 34 4 15:=fQ
def azp:iF 35 18:=kQ
def asQ:fA 35 0 0:=fQ
def asR:fA 35 1 1:=fQ
def asS:fA 35 2 6:=fQ
def asT:fA 35 3 14:=fQ
def asU:fA 35 4 15:=fQ
def asV:fA 35 5 16:=fQ
def asW:fA 35 6 17:=fQ
def azq:iF 75 1:=kQ
def apg:iF 40 1:=kQ
def zm:iF 42 6:=kQ
def asX:iZ 42 (.agg #[D 0,D 0,D 0,D 0,D 0,.slice none 0 0]) 6 64:=kQ
def ahc:fA 42 0 0:=fQ
def asY:fA 42 1 1:=fQ
def asZ:fA 42 2 2:=fQ
def as0:fA 42 3 3:=fQ
def as1:fA 42 4 4:=fQ
def ahd:fA 42 5 5:=fQ
def azr:iF 43 1:=kQ
def ahe:iZ 43 (.slice none 0 0) 1 24:=kQ
def azs:iF 176 1:=kQ
def azt:iF 177 1:=kQ
def aph:iF 180 9:=kQ
def azu:iF 181 36:=kQ
def azv:iF 183 41:=kQ
def as2:fA 183 0 0:=fQ
def as3:fA 183 1 1:=fQ
def as4:fA 183 2 2:=fQ
def as5:fA 183 3 3:=fQ
def as6:fA 183 4 4:=fQ
def as7:fA 183 5 5:=fQ
def azw:iF 47 2:=kQ
def as8:fA 47 0 0:=fQ
def as9:fA 47 1 1:=fQ
def Dr:iF 49 6:=kQ
def tK:iZ 49 (.agg #[D 0,D 0,D 0,D 0,D 0,D 0]) 6 48:=kQ
def ata:fA 49 0 0:=fQ
def atb:fA 49 1 1:=fQ
def atc:fA 49 2 2:=fQ
def atd:fA 49 3 3:=fQ
def ate:fA 49 4 4:=fQ
def wW:iF 51 11:=kQ
def Ch:iZ 51 (.agg #[D 0,D 0,D 0,D 0,D 0,D 0,D 0,D 0,D 0,D 0,D 0]) 11 88:=kQ
def atf:fA 51 0 0:=fQ
def atg:fA 51 1 1:=fQ
def ath:fA 51 2 2:=fQ
def ati:fA 51 3 3:=fQ
def atj:fA 51 4 4:=fQ
def atl:fA 51 5 5:=fQ
def azx:iF 54 4:=kQ
def atm:iZ 54 (.agg #[D 0,D 0,D 0,D 0]) 4 32:=kQ
def azy:iF 55 7:=kQ
def atn:fA 55 0 0:=fQ
def ato:fA 55 1 1:=fQ
def azz:iF 56 7:=kQ
def atp:iZ 56 (.agg #[D 0,D 0,D 0,D 0,D 0,D 0,D 0]) 7 56:=kQ
def atq:fA 56 2 5:=fQ
def atr:iZ 164 (.agg #[D 0,D 0,D 0,D 0,D 0,D 0,D 0,D 0,D 0,D 0,D 0,D 0,D 0,D 0]) 14 112:=kQ
def apj:iF 222 2:=kQ
def YE:iZ 222 (.agg #[D 0,D 0]) 2 16:=kQ
def att:fA 222 0 0:=fQ
def atu:fA 222 1 1:=fQ
def azA:iF 225 4:=kQ
def ahf:iZ 225 (.agg #[D 0,D 0,D 0,D 0]) 4 32:=kQ
def atv:fA 225 0 0:=fQ
def atw:fA 225 1 2:=fQ
def atx:iF 71 5:=kQ
def aml:fA 71 0 0:=fQ
def amm:fA 71 1 1:=fQ
def amn:fA 71 2 2:=fQ
def amo:fA 71 3 3:=fQ
def amq:fA 71 4 4:=fQ
def aty:iF 72 5:=kQ
def abK:fA 72 0 0:=fQ
def SE:fA 72 1 1:=fQ
def abL:fA 72 2 2:=fQ
def Dt:fA 72 3 3:=fQ
def SF:fA 72 4 4:=fQ
def atz:iF 90 1:=kQ
def atA:iF 91 1:=kQ
def YF:iF 93 2:=kQ
def amr:fA 93 0 0:=fQ
def ams:fA 93 1 1:=fQ
def atB:iF 94 8:=kQ
def amt:fA 97 0 0:=fQ
def amu:fA 97 1 1:=fQ
def amv:fA 97 2 9:=fQ
def amw:fA 97 3 10:=fQ
def amx:fA 97 4 50:=fQ
def atC:iF 98 1:=kQ
def Gb:iZ 98 (.pointer none) 1 8:=kQ
def atD:iF 101 2:=kQ
def abM:fA 101 0 0:=fQ
def amy:fA 101 1 1:=fQ
def atE:iF 102 4:=kQ
def atF:iF 103 1:=kQ
def atG:iF 105 20:=kQ
def amA:fA 105 0 0:=fQ
def amB:fA 105 1 1:=fQ
def amC:fA 105 2 2:=fQ
def amD:fA 105 3 4:=fQ
def amE:fA 105 4 5:=fQ
def amF:fA 105 5 13:=fQ
def amG:fA 105 6 17:=fQ
def amH:fA 105 7 18:=fQ
def amI:fA 105 8 19:=fQ
def atH:iF 160 1:=kQ
def atI:iF 199 42:=kQ
def amJ:fA 199 0 0:=fQ
def amK:fA 199 1 41:=fQ
def atJ:iF 218 41:=kQ
def amL:fA 218 0 0:=fQ
def amM:fA 219 0 0:=fQ
def atK:iF 85 4:=kQ
def abN:fA 85 0 0:=fQ
def Du:fA 85 1 1:=fQ
def Dv:fA 85 2 2:=fQ
def KP:fA 85 3 3:=fQ
def atL:iF 112 1:=kQ
def atM:iF 114 2:=kQ
def amN:fA 114 0 0:=fQ
def amO:fA 114 1 1:=fQ
def atN:iF 119 23:=kQ
def abO:iZ 119 (.agg #[D 0,D 0,D 0,D 0,D 0,D 0,D 0,D 0,D 0,D 0,D 0,D 0,D 0,.slice none 0 0,.bool false,D 0,D 0,D 0,D 0,D 0,D 0,D 0,D 0]) 23 200:=kQ
def amP:fA 119 0 0:=fQ
def amQ:fA 119 1 1:=fQ
def amR:fA 119 2 2:=fQ
def amS:fA 119 3 3:=fQ
def amT:fA 119 4 4:=fQ
def amU:fA 119 5 5:=fQ
def amV:fA 119 6 6:=fQ
def amW:fA 119 7 7:=fQ
def amX:fA 119 8 13:=fQ
def amY:fA 119 9 14:=fQ
def aix:fA 119 10 15:=fQ
def aiy:fA 119 11 16:=fQ
def atO:iF 138 10:=kQ
def SG:iZ 138 (.agg #[D 0,D 0,D 0,D 0,D 0,D 0,D 0,D 0,D 0,D 0]) 10 80:=kQ
def amZ:fA 138 0 0:=fQ
def am0:fA 138 1 1:=fQ
def am1:fA 138 2 2:=fQ
def am2:fA 138 3 3:=fQ
def am3:fA 138 4 4:=fQ
def atP:iF 190 1:=kQ
def Vi:eN 11:=eQ
def D7:eN 17:=eQ
def aC2:eN 22:=eQ
def mixed:tP.follows .mixedOrders=true:=kQ
section
open Go.RowKit
def mK(n lo hi:Int):Bool:=decide (lo<=n)&&decide (n<=hi)
def GN{n lo hi:Int}:mK n lo hi=true↔lo<=n/\n<=hi:=by simp[mK]
def adC{n lo hi:Int}:mK n lo hi=false↔n<lo\/hi<n:=by
 rw[<-Bool.not_eq_true,GN];omega
end
structure ny where
 top:Int
 b0:Bool
 b1:Bool
 b2:Bool
 b3:Bool
 b4:Bool
 b5:Bool
 b6:Bool
 b7:Bool
 deriving DecidableEq
def ny.seen(x:ny):List Bool:=[x.b0,x.b1,x.b2,x.b3,x.b4,x.b5,x.b6,x.b7]
def ny.cells(x:ny):List Value:=[D x.top,.bool x.b0,.bool x.b1,.bool x.b2,.bool x.b3,.bool x.b4,.bool x.b5,.bool x.b6,.bool x.b7]
def ny.val(x:ny):Value:=.agg #[D x.top,.bool x.b0,.bool x.b1,.bool x.b2,.bool x.b3,.bool x.b4,.bool x.b5,.bool x.b6,.bool x.b7]
def ny.at(x:ny)(k:Nat):Bool:=x.seen.getD k false
def Il(t:Int)(f:Nat->Bool):Bool:=(range 8).all λk=> !f k || decide (8<=t+k)
def uN{t:Int}{f:Nat->Bool}:Il t f=true↔ ∀k,k<8->f k=true->8<=t+k:=by
 simp only[Il,all_eq_true,mem_range,Bool.or_eq_true,Bool.not_eq_true',decide_eq_true_eq]
 constructor
 ·intro h k I J
  rcases h k I with h|h
  ·rw[J]at h;cases h
  exact h
 intro h k I
 cases J:f k
 ·exact .inl E
 exact .inr (h k I J)
def eU(x:ny):Int:=
 if (decide (0<=x.top)&&decide (x.top<=1073741825)&&Il x.top x.at&&(!decide (0<x.top) || x.b7))=true then 0 else 6
def aag(b0 b1 b2 b3 b4 b5 b6 b7:Bool)(w:World):(Instr.index 178 (.agg #[.bool b0,.bool b1,.bool b2,.bool b3,.bool b4,.bool b5,.bool b6,.bool b7]) (D 0)).run prog w=.ok (.bool b0) w:=kQ
def aah(b0 b1 b2 b3 b4 b5 b6 b7:Bool)(w:World):(Instr.index 178 (.agg #[.bool b0,.bool b1,.bool b2,.bool b3,.bool b4,.bool b5,.bool b6,.bool b7]) (D 1)).run prog w=.ok (.bool b1) w:=kQ
def aai(b0 b1 b2 b3 b4 b5 b6 b7:Bool)(w:World):(Instr.index 178 (.agg #[.bool b0,.bool b1,.bool b2,.bool b3,.bool b4,.bool b5,.bool b6,.bool b7]) (D 2)).run prog w=.ok (.bool b2) w:=kQ
def aaj(b0 b1 b2 b3 b4 b5 b6 b7:Bool)(w:World):(Instr.index 178 (.agg #[.bool b0,.bool b1,.bool b2,.bool b3,.bool b4,.bool b5,.bool b6,.bool b7]) (D 3)).run prog w=.ok (.bool b3) w:=kQ
def aak(b0 b1 b2 b3 b4 b5 b6 b7:Bool)(w:World):(Instr.index 178 (.agg #[.bool b0,.bool b1,.bool b2,.bool b3,.bool b4,.bool b5,.bool b6,.bool b7]) (D 4)).run prog w=.ok (.bool b4) w:=kQ
def aal(b0 b1 b2 b3 b4 b5 b6 b7:Bool)(w:World):(Instr.index 178 (.agg #[.bool b0,.bool b1,.bool b2,.bool b3,.bool b4,.bool b5,.bool b6,.bool b7]) (D 5)).run prog w=.ok (.bool b5) w:=kQ
def aam(b0 b1 b2 b3 b4 b5 b6 b7:Bool)(w:World):(Instr.index 178 (.agg #[.bool b0,.bool b1,.bool b2,.bool b3,.bool b4,.bool b5,.bool b6,.bool b7]) (D 6)).run prog w=.ok (.bool b6) w:=kQ
def aan(b0 b1 b2 b3 b4 b5 b6 b7:Bool)(w:World):(Instr.index 178 (.agg #[.bool b0,.bool b1,.bool b2,.bool b3,.bool b4,.bool b5,.bool b6,.bool b7]) (D 7)).run prog w=.ok (.bool b7) w:=kQ
def Qs(x:ny)(k:Nat)(I:k<8)(w:World):
 (Instr.index 178 (.agg #[.bool x.b0,.bool x.b1,.bool x.b2,.bool x.b3,.bool x.b4,.bool x.b5,.bool x.b6,.bool x.b7]) (D k)).run prog w=.ok (.bool (x.at k)) w:=by
 have h:k=0\/k=1\/k=2\/k=3\/k=4\/k=5\/k=6\/k=7:=Y
 rcases h with rfl|rfl|rfl|rfl|rfl|rfl|rfl|rfl
 ·exact aag _ _ _ _ _ _ _ _ w
 ·exact aah _ _ _ _ _ _ _ _ w
 ·exact aai _ _ _ _ _ _ _ _ w
 ·exact aaj _ _ _ _ _ _ _ _ w
 ·exact aak _ _ _ _ _ _ _ _ w
 ·exact aal _ _ _ _ _ _ _ _ w
 ·exact aam _ _ _ _ _ _ _ _ w
 exact aan _ _ _ _ _ _ _ _ w
def BJ(x:ny)(w:World)(h0:0<=x.top)(h1:x.top<=1073741825):
 Calls prog 133 #[x.val] w λe w'=>e=.returned (D (x.top-8))/\Below w.heap.size w w':=by
 obtain⟨t,b0,b1,b2,b3,b4,b5,b6,b7⟩:=x;unfold ny.val;simp only at h0 h1⊢
 go_enter func133,ntmps133
 go_wp2
 go_ret
 exact⟨E,by go_grown⟩
def MG(w:World)(k:Int)(e:Ending)(w':World):Prop:=e=.returned (D k)/\Below w.heap.size w w'
def aeM(x:ny)(w:World)(h:x.top<0\/1073741825<x.top):Calls prog 125 #[x.val] w (MG w 6):=by
 obtain⟨t,b0,b1,b2,b3,b4,b5,b6,b7⟩:=x;unfold ny.val;simp only at h⊢;by_cases h0:t<0
 ·clear h
  go_enter func125,ntmps125
  go_wp2_with fail
  go_ret
  exact⟨E,by go_grown⟩
 have h1:1073741825<t:=Y;clear h
 go_enter func125,ntmps125
 go_wp2_with fail
 go_ret
 exact⟨E,by go_grown⟩
def ae9{x:ny}{k:Nat}(J:k<8)(h:x.at k=true)(M:x.top+k<8):eU x=6:=by
 refine ah (λI=>?_);simp only[Bool.and_eq_true]at I;have:=uN.1 I.1.2 k J h;omega
def adD(x:ny)(w:World)(h0:0<=x.top)(h1:x.top<=1073741825):Calls prog 125 #[x.val] w (MG w (eU x)):=by
 have HF:Hid (∀k,k<8->x.at k=true->x.top+k<8->eU x=6):=Lib.hid (λk=>ae9);have HI:=Lib.hid (Qs x);have HL:=Lib.hid (BJ x);have HE:Hid (eU x=if (Il x.top x.at&&(!decide (0<x.top) || x.b7))=true then 0 else 6):=by
  unfold Hid eU;simp[h0,h1]
 generalize eU x=z at HF HE;have hat:=Lib.hid (E:x.at=x.at);generalize x.at=f at HF HI HE hat;clear hat;obtain⟨t,b0,b1,b2,b3,b4,b5,b6,b7⟩:=x;unfold ny.val at*;simp only at h0 h1
 go_enter func125,ntmps125
 go_wp2_with fail
 go_loopw [15] (λi wr=> ∃k:Nat,k<=8/\i=D k/\(∀j,j<k->f j=true->8<=t+j)/\Below (w.heap.size+1) (w.alloc (.cells #[D t,.bool b0,.bool b1,.bool b2,.bool b3,.bool b4,.bool b5,.bool b6,.bool b7] 180)) wr) (λi _=>8-(intOf i).toNat)
 case atStart=>exact⟨0,by omega,E,by simp,by go_grown⟩
 case round=>
  obtain⟨k,hk,rfl,hall,hb⟩:=hrel;have HA:=Lib.hid hall;have HB:=Lib.hid hb;have c0:=hb.cell (p:=⟨w.heap.size,0,none⟩) iQ;have c1:=hb.cell (p:=⟨w.heap.size,1,none⟩) iQ;have c2:=hb.cell (p:=⟨w.heap.size,2,none⟩) iQ;have c3:=hb.cell (p:=⟨w.heap.size,3,none⟩) iQ;have c4:=hb.cell (p:=⟨w.heap.size,4,none⟩) iQ;have c5:=hb.cell (p:=⟨w.heap.size,5,none⟩) iQ;have c6:=hb.cell (p:=⟨w.heap.size,6,none⟩) iQ;have c7:=hb.cell (p:=⟨w.heap.size,7,none⟩) iQ;have c8:=hb.cell (p:=⟨w.heap.size,8,none⟩) iQ;simp only[World.cell?_alloc_mark]at c0 c1 c2 c3 c4 c5 c6 c7 c8;have hsz:w.heap.size+1<=wr.heap.size:=by have:=hb.size;simpa using this
  clear hall hb;by_cases hlt:k<8
  ·have hi:=HI.out k hlt
   cases LV:f k
   ·rw[LV]at hi
    go_wp2_with fail
    go_roundw
    case rel=>exact⟨k+1,by omega,by go_num,(λj hj hfj=>by
     rcases sF j k with h|h
     ·exact HA.out j h hfj
     rw[show j=k by omega,LV]at hfj;cases hfj),HB.out⟩
    case measure=>simp[intOf];omega
   rw[LV]at hi;by_cases hneg:t-8+k<0
   ·have hz:=HF.out k hlt LV Y;subst hz;clear LV
    go_wp2_with fail
    refine(HL.out _ h0 h1).mono ?_;rintro e w1 ⟨rfl,hb1⟩;have HB1:=Lib.hid hb1;clear hb1
    go_wp2_with fail
    go_ret
    exact⟨E,((Below.refl _ w).alloc aB _).trans ((HB.out.mono Y).trans (HB1.out.mono Y))⟩
   have hf2:=Lib.hid LV;clear LV
   go_wp2_with fail
   refine(HL.out _ h0 h1).mono ?_;rintro e w1 ⟨rfl,hb1⟩;have HB1:=Lib.hid hb1;clear hb1
   go_wp2_with fail
   go_roundw
   case rel=>exact⟨k+1,by omega,by go_num,(λj hj hfj=>by
    rcases sF j k with h|h
    ·exact HA.out j h hfj
    rw[show j=k by omega];omega),HB.out.trans (HB1.out.mono Y)⟩
   case measure=>simp[intOf];omega
  obtain rfl:k=8:=Y;by_cases ht:0<t
  ·cases b7
   ·have hz:z=6:=by rw[HE.out];simp[ht]
    subst hz
    go_wp2_with fail
    go_ret
    exact⟨E,((Below.refl _ w).alloc aB _).trans (HB.out.mono Y)⟩
   have hz:z=0:=by rw[HE.out,uN.2 HA.out];simp
   subst hz
   go_wp2_with fail
   go_ret
   exact⟨E,((Below.refl _ w).alloc aB _).trans (HB.out.mono Y)⟩
  have hz:z=0:=by rw[HE.out,uN.2 HA.out];simp[ht]
  subst hz
  go_wp2_with fail
  go_ret
  exact⟨E,((Below.refl _ w).alloc aB _).trans (HB.out.mono Y)⟩
def Im(x:ny)(w:World):Calls prog 125 #[x.val] w (MG w (eU x)):=by
 by_cases h:0<=x.top/\x.top<=1073741825
 ·exact adD x w h.1 h.2
 rw[show eU x=6 from ah (λI=>by simp only[Bool.and_eq_true,decide_eq_true_eq]at I;exact h ⟨I.1.1.1,I.1.1.2⟩)];exact aeM x w Y
def Ux(l:List Int):List Value:=l.map (Value.int .i64)
def Rd.am4{w:World}{B n:Nat}{A:Option Addr}{l:List Int}(h:Rd w B 1 A n (Ux l)):l.length=n:=by
 have:=h.1;simp[Ux]at this;omega
def Rd.atQ{w:World}{B n k:Nat}{A:Option Addr}{l:List Int}(h:Rd w B 1 A n (Ux l))(J:k<n):∃b off x,A=some ⟨b,off,none⟩/\b<B/\l[k]? =some x/\w.cell? ⟨b,off+k,none⟩=some (.int .i64 x):=by
 obtain⟨b,off,u,e,M,I,O⟩:=h.at_ J;simp only[Ux,getElem?_map,Option.map_eq_some_iff]at I;obtain⟨x,I,rfl⟩:=I;exact⟨b,off,x,e,M,I,O⟩
def kX(t:Int)(f:Nat->Bool):Nat->List Int
 | 0=>[]
 |k+1=>if f k=true then kX t f k++[t-8+k]else kX t f k
def agD(t:Int)(bs:List Bool):ny:=⟨t,bs.getD 0 false,bs.getD 1 false,bs.getD 2 false,bs.getD 3 false,bs.getD 4 false,bs.getD 5 false,bs.getD 6 false,bs.getD 7 false⟩
def rO(bs:List Bool)(k:Int):List Bool:=if 0<=k then bs.set k.toNat true else bs
def nS(t:Int)(l:List Int):List Bool:=l.foldl (λbs x=>rO bs (x-t+8)) [false,false,false,false,false,false,false,false]
def J2(t:Int)(l:List Int)(x:Int):nS t (l++[x])=rO (nS t l) (x-t+8):=by simp[nS]
def Nv(bs:List Bool)(k:Int):(rO bs k).length=bs.length:=by unfold rO;split<;>simp
def Ny(t:Int)(l:List Int):(nS t l).length=8:=by
 unfold nS;generalize hb:[false,false,false,false,false,false,false,false]=b;have h:b.length=8:=by rw[<-hb];rfl
 clear hb
 induction l generalizing b with
 |nil=>simpa using h
 |cons x l I=>exact I _ (by rw[Nv];exact h)
def zK(t:Int)(bs:List Bool):Array Value:=(.int .i64 t::bs.map Value.bool).toArray
def eight{bs:List Bool}(h:bs.length=8):∃a0 a1 a2 a3 a4 a5 a6 a7,bs=[a0,a1,a2,a3,a4,a5,a6,a7]:=by
 match bs,h with
 |[a0,a1,a2,a3,a4,a5,a6,a7],_=>exact⟨a0,a1,a2,a3,a4,a5,a6,a7,E⟩
structure WB (w:World)(t:Int)(bs:List Bool)(wr:World):Prop where
 below:Below w.heap.size w wr
 res:wr.heap[w.heap.size]? =some (.cells #[.int .i64 0,.bool false,.bool false,.bool false,.bool false,.bool false,.bool false,.bool false,.bool false] 180 (0,0))
 row:wr.heap[w.heap.size+1]? =some (.cells (zK t bs) 180 (0,0))
def WB.drewN{w wr:World}{t:Int}{bs:List Bool}(h:WB w t bs wr)(q:Nat):WB w t bs (wr.drewN q):=
 ⟨⟨h.below.os,h.below.tape,h.below.output,h.below.size,h.below.block⟩,h.res,h.row⟩
def WB.yO{w wr:World}{t:Int}{bs:List Bool}(h:WB w t bs wr)(j:Nat):WB w t (bs.set j true) (wr.setCell ⟨w.heap.size+1,1+j,none⟩ (.bool true)):=by
 refine⟨h.below.setCell iQ _,?_,?_⟩
 ·rw[Below.heap_setCell _ _ _ _ iQ];exact h.res
 have I:=h.row;simp only[World.setCell,Array.getElem?_modify,I];simp[zK,Nat.add_comm 1 j,map_set]
def WB.cell{w wr:World}{t:Int}{bs:List Bool}(h:WB w t bs wr){j:Nat}(I:j<bs.length):wr.cell? ⟨w.heap.size+1,1+j,none⟩=some (.bool (bs.getD j false)):=by
 rw[cell_of_row wr _ (1+j) _ _ (0,0) h.row,qU];simp[zK,I]
def WB.free{w wr:World}{t:Int}{bs:List Bool}(h:WB w t bs wr)(j:Nat):wr.frozen? ⟨w.heap.size+1,j,none⟩=false:=by
 have:=h.row;simp[World.frozen?,this]
def aiz(bs:List Bool)(k i:Nat):(bs.set k true).getD i false=if i=k/\k<bs.length then true else bs.getD i false:=by
 simp only[getD_eq_getElem?_getD,getElem?_set];by_cases h:k=i
 ·subst h;by_cases I:k<bs.length<;>simp[I]
 have J:¬i=k:=λe=>h e.symm;simp[h,J]
def tL(x:ny)(id:Int):Bool×Int:=
 if eU x≠0 then(false,eU x)
 else if id<0\/1073741824<id then(false,2)
 else if x.top<=id then(false,0)
 else if id<x.top-8 then(false,9)
 else(x.at (id-(x.top-8)).toNat,0)
def aiA(w:World)(r:Bool×Int)(e:Ending)(w':World):Prop:=e=.returned (.tuple #[.bool r.1,.int .i64 r.2])/\Below w.heap.size w w'
def vF{x:ny}(h:eU x=0):0<=x.top/\x.top<=1073741825:=by
 unfold eU at h
 split at h
 ·rename_i I
  simp only[Bool.and_eq_true,decide_eq_true_eq]at I;exact⟨I.1.1.1,I.1.1.2⟩
 cases h
def adE(x:ny):∀k,k<8->(x.cells)[k+1]? =some (.bool (x.at k)):=by
 intro k I;have h:k=0\/k=1\/k=2\/k=3\/k=4\/k=5\/k=6\/k=7:=Y
 rcases h with rfl|rfl|rfl|rfl|rfl|rfl|rfl|rfl<;>rfl
def Xy(x:ny)(id:Int)(w:World):Calls prog 134 #[x.val,.int .i64 id] w (aiA w (tL x id)):=by
 have HC:=Lib.hid (Im x);have HL:=Lib.hid (BJ x);have HX:=Lib.hid (adE x);have HT:=Lib.hid (vF (x:=x));have HZ0:Hid (∀r,r=tL x id->r=if eU x≠0 then(false,eU x)
  else if id<0\/1073741824<id then(false,2)
  else if x.top<=id then(false,0)
  else if id<x.top-8 then(false,9)
  else(x.at (id-(x.top-8)).toNat,0)):=Lib.hid (λr h=>h)
 generalize hr:tL x id=r;have HZ:=Lib.hid (HZ0.out r hr.symm);clear hr HZ0;generalize eU x=z at HC HT HZ;have hat:=Lib.hid (E:x.at=x.at);generalize x.at=f at HX HZ hat;clear hat;obtain⟨t,b0,b1,b2,b3,b4,b5,b6,b7⟩:=x;unfold ny.val at*;unfold ny.cells at HX;simp only at HT HX HZ HL
 go_enter func134,ntmps134
 go_wp2_with fail
 refine(HC.out _).mono ?_;rintro e w1 ⟨rfl,hb1⟩;have c0:=hb1.cell (p:=⟨w.heap.size,0,none⟩) iQ;have c1:=hb1.cell (p:=⟨w.heap.size,1,none⟩) iQ;have c2:=hb1.cell (p:=⟨w.heap.size,2,none⟩) iQ;have c3:=hb1.cell (p:=⟨w.heap.size,3,none⟩) iQ;have c4:=hb1.cell (p:=⟨w.heap.size,4,none⟩) iQ;have c5:=hb1.cell (p:=⟨w.heap.size,5,none⟩) iQ;have c6:=hb1.cell (p:=⟨w.heap.size,6,none⟩) iQ;have c7:=hb1.cell (p:=⟨w.heap.size,7,none⟩) iQ;have c8:=hb1.cell (p:=⟨w.heap.size,8,none⟩) iQ;simp only[World.cell?_alloc_mark]at c0 c1 c2 c3 c4 c5 c6 c7 c8;have hsz:w.heap.size+1<=w1.heap.size:=by have:=hb1.size;simpa using this
 have HK:Hid (∀k,k<8->w1.cell? ⟨w.heap.size,1+k,none⟩=some (.bool (f k))):=by
  intro k hk;have ck:=hb1.cell (p:=⟨w.heap.size,1+k,none⟩) iQ;rw[World.cell?_alloc_mark]at ck;rw[ck,qU 1 k];simpa using HX.out k hk
 have HB:Hid (Below w.heap.size w w1):=Lib.hid (((Below.refl _ w).alloc aB _).trans (hb1.mono iQ));clear hb1 HX HC;by_cases hz:z=0
 ·obtain⟨h0,h1⟩:=HT.out hz;subst hz;have HZ:=Lib.hid (HZ.out.trans (ah iQ));clear HT;by_cases i0:id<0
  ·have e:=HZ.out;rw[au Y]at e;subst e
   go_wp2_with fail
   go_ret2
   exact⟨E,HB.out⟩
  by_cases i1:1073741824<id
  ·have e:=HZ.out;rw[au Y]at e;subst e
   go_wp2_with fail
   go_ret2
   exact⟨E,HB.out⟩
  have HZ:=Lib.hid (HZ.out.trans (ah Y));by_cases i2:t<=id
  ·have e:=HZ.out;rw[au Y]at e;subst e
   go_wp2_with fail
   go_ret2
   exact⟨E,HB.out⟩
  have HZ:=Lib.hid (HZ.out.trans (ah Y));by_cases i3:id<t-8
  ·have e:=HZ.out;rw[au Y]at e;subst e
   go_wp2_with fail
   refine(HL.out _ h0 h1).mono ?_;rintro e w2 ⟨rfl,hb2⟩;have HB2:=Lib.hid hb2;clear hb2
   go_wp2_with fail
   go_ret2
   exact⟨E,HB.out.trans (HB2.out.mono Y)⟩
  have e:=HZ.out;rw[ah Y]at e;subst e;obtain⟨k,hk⟩:=pQ (show 0<=id-(t-8) by omega);have hk8:k<8:=Y;rw[hk,fB];have HKK:=Lib.hid hk;have ck:=HK.out k hk8
  go_wp2_with fail
  refine(HL.out _ h0 h1).mono ?_;rintro e w2 ⟨rfl,hb2⟩;have d0:=hb2.cell (p:=⟨w.heap.size,0,none⟩) jQ;have d1:=hb2.cell (p:=⟨w.heap.size,1,none⟩) jQ;have d2:=hb2.cell (p:=⟨w.heap.size,2,none⟩) jQ;have d3:=hb2.cell (p:=⟨w.heap.size,3,none⟩) jQ;have d4:=hb2.cell (p:=⟨w.heap.size,4,none⟩) jQ;have d5:=hb2.cell (p:=⟨w.heap.size,5,none⟩) jQ;have d6:=hb2.cell (p:=⟨w.heap.size,6,none⟩) jQ;have d7:=hb2.cell (p:=⟨w.heap.size,7,none⟩) jQ;have d8:=hb2.cell (p:=⟨w.heap.size,8,none⟩) jQ;have dk:=hb2.cell (p:=⟨w.heap.size,1+k,none⟩) jQ;rw[c0]at d0;rw[c1]at d1;rw[c2]at d2;rw[c3]at d3;rw[c4]at d4;rw[c5]at d5;rw[c6]at d6;rw[c7]at d7;rw[c8]at d8;rw[ck]at dk;have HB2:=Lib.hid hb2;clear hb2
  go_wp2_with fail
  refine(HL.out _ h0 h1).mono ?_;rintro e w3 ⟨rfl,hb3⟩;have HB3:=Lib.hid hb3;have g0:=hb3.cell (p:=⟨w.heap.size,1+k,none⟩) (by simp;have:=HB2.out.size;omega);rw[dk]at g0;clear hb3
  go_wp2_with fail
  go_ret2
  exact⟨by show Ending.returned (.tuple #[.bool (f k),.int .i64 0])=_;rw[HKK.out,fB],(HB.out.trans (HB2.out.mono Y)).trans (HB3.out.mono (by have:=HB2.out.size;omega))⟩
 have e:=HZ.out;rw[au hz]at e;subst e
 go_wp2_with fail
 go_ret2
 exact⟨E,HB.out⟩
def am5{t:Int}{f:Nat->Bool}{k:Nat}{y:Int}:y∈kX t f k↔ ∃i,i<k/\f i=true/\y=t-8+i:=by
 induction k with
 |zero=>simp[kX]
 |succ k Z=>
  unfold kX
  split
  ·rename_i M
   rw[aP,Z,aF]
   constructor
   ·rintro(⟨i,h1,I,J⟩|h)
    ·exact⟨i,by omega,I,J⟩
    exact⟨k,by omega,M,h⟩
   rintro⟨i,h1,I,J⟩;by_cases O:i=k
   ·subst O;exact .inr J
   exact .inl ⟨i,by omega,I,J⟩
  rename_i M
  rw[Z]
  constructor
  ·rintro⟨i,h1,I,J⟩;exact⟨i,by omega,I,J⟩
  rintro⟨i,h1,I,J⟩;have:i≠k:=by rintro rfl;exact M I
  exact⟨i,by omega,I,J⟩
def VI(t:Int)(i:Nat)(hi:i<8):∀(l:List Int) (bs:List Bool),bs.length=8->
  (l.foldl (λbs x=>rO bs (x-t+8)) bs).getD i false=(bs.getD i false || decide (t-8+i∈l))
 |[],bs,_=>by simp
 |x::l,bs,h=>by
  rw[qX,VI t i hi l _ (by rw[Nv];exact h)];have I:(rO bs (x-t+8)).getD i false=(bs.getD i false || decide (t-8+(i:Int)=x)):=by
   unfold rO
   split
   ·rename_i J
    rw[aiz,h];by_cases e:t-8+(i:Int)=x
    ·rw[au Y];simp[e]
    rw[ah Y];simp[e]
   rename_i J
   have e:¬t-8+(i:Int)=x:=Y;simp[e]
  rw[I,Bool.or_assoc]
  congr 1
  rw[SB];simp
def aao(t:Int)(l:List Int)(i:Nat)(hi:i<8):(nS t l).getD i false=decide (t-8+i∈l):=by
 unfold nS;rw[VI t i hi l _ E];have:([false,false,false,false,false,false,false,false]:List Bool).getD i false=false:=by
  match i with
  | 0| 1| 2| 3| 4| 5| 6| 7=>rfl
  |n+8=>rfl
 rw[this,Bool.false_or]
def EW(x:ny)(id:Int):ny:=agD (max x.top (id+1)) (nS (max x.top (id+1)) (kX x.top x.at 8++[id]))
def afa{x:ny}(h:eU x=0):(x.top=0/\kX x.top x.at 8=[])\/(0<x.top/\kX x.top x.at 8≠[]/\(kX x.top x.at 8).getLastD 0=x.top-1):=by
 have h0:=vF h;unfold eU at h
 split at h
 ·rename_i J
  simp only[Bool.and_eq_true,decide_eq_true_eq,Bool.or_eq_true,Bool.not_eq_true',decide_eq_false_iff_not]at J;obtain⟨⟨_,hw⟩,O⟩:=J;by_cases M:0<x.top
  ·right
   have Z:x.at 7=true:=by
    rcases O with h|h
    ·exact av M h
    exact h
   have e:kX x.top x.at 8=kX x.top x.at 7++[x.top-1]:=by
    show(if x.at 7=true then _ else _)=_
    rw[Z,au E,show x.top-8+((7:Nat):Int)=x.top-1 by omega]
   exact⟨M,by rw[e];simp,by rw[e];simp⟩
  left
  have I:x.top=0:=Y;refine⟨I,eq_nil_iff_forall_not_mem.2 λy hy=>?_⟩;obtain⟨i,h1,h2,h3⟩:=am5.1 hy;have:=uN.1 hw i h1 h2;omega
 cases h
def Dw:ny:=⟨0,false,false,false,false,false,false,false,false⟩
def kD(x:ny)(id:Int):ny×Bool×Int:=
 if (tL x id).2≠0 then(Dw,false,(tL x id).2)else if (tL x id).1=true then(x,false,0)else(EW x id,true,0)
def adF(w:World)(r:ny×Bool×Int)(e:Ending)(w':World):Prop:=e=.returned (.tuple #[r.1.val,.bool r.2.1,.int .i64 r.2.2])/\Below w.heap.size w w'
def Jt{x:ny}{id:Int}(h:(tL x id).2=0):eU x=0/\0<=id/\id<=1073741824:=by
 unfold tL at h;by_cases h1:eU x=0
 ·by_cases I:id<0\/1073741824<id
  ·simp[h1,I]at h
  exact⟨h1,by omega,by omega⟩
 simp[h1]at h
section
open ChangeAt
section
variable {P:Program}{N:Nat}{l:P7}{o:Oper}{w w' w0:World}{B:Nat}{fs:List OJ}
def abP{f:FuncId}{first cap us:List Value}{x:Operand}{xs:List Operand}{ts:Array TypeId}{vs:List Value}(I:o.op=.call {callee:=.value x,args:=xs.toArray,argTypes:=ts})(hv:ev l x=some (.func (.func f) first.toArray cap.toArray))
  (h:∀args w,(callFunc f args).run P w=.ok (.enter f args) w) (J:TP l xs vs) (M:first++vs++cap=us):Enter P N l o w f us:=λa F=>by
 subst M;have h1:=F.Jp J;unfold execOp;simp only[I,resolve,F.ev hv,Deferred.ofValue,invoke,Sem.run_bind,Sem.run_pure,Result.andThen_ok,map_toArray,h1];simp[h]
def Nz{f:Fn}{xs ys:List Operand}{vs us:List Value}(h:o.op=.makeFunc f xs.toArray ys.toArray)(I:TP l xs vs)(J:TP l ys us):kY P N l o w (.func f vs.toArray us.toArray):=λa F=>by
 have h1:=F.Jp I;have M:=F.Jp J;unfold execOp;simp only[h,map_toArray,h1,M];rfl
def ahg{b off s n:Nat}{row:Array Value}{t:TypeId}{xs:List Value}(i:Nat)(S:St B w0 w fs)(hi:fs[i]? =some (.Oy b row t))(h:xs.length=n*s)(I:∀(j:Nat) (u:Value),xs[j]? =some u->row[off+j]? =some u):Rd w w.heap.size s (some ⟨b,off,none⟩) n xs:=
 ⟨h,λ_=>⟨b,off,E,S.lt i hi,λj u J=>S.cl i hi (I j u J)⟩⟩
def GQ{base:Nat}{e:TypeId}{size n c:Nat}{A:Option Addr}{xs:List Value}(h:w.ownsRow base e size (.slice A n c) n xs)(hn:0<n):∃g,A=some ⟨g,0,none⟩:=by
 rcases h.2 with⟨_,J⟩|⟨g,cap,I,hv,_⟩
 ·omega
 exact⟨g,by injection hv⟩
def St.agE{e J:TypeId}{s M:Nat}{g n c n' c':Nat}{xs xs':List Value}(i:Nat)(S:St B w0 w fs)(hi:fs[i]? =some (.own e s (.slice (some ⟨g,0,none⟩) n c) n xs))(h:wS w g w')(O:w'.ownsRow B J M (.slice (some ⟨g,0,none⟩) n' c') n' xs'):
 St B w0 w' (fs.set i (.own J M (.slice (some ⟨g,0,none⟩) n' c') n' xs')):=
 S.turn i hi (h.next S.Qe (OJ.pK (S.all i _ hi) E).1) (oz h.size.symm) (λk _ I=>h.block k (λe=>I (by rw[e];rfl))) O (λk I=>.inl I)
def MH{α:Type}{enc:α->List Value}{sz:Nat}(h:∀x,(enc x).length=sz):∀(k:Nat) (l:List α),(l.flatMap enc).take (k*sz)++(l.flatMap enc).drop ((k+1)*sz)=(l.eraseIdx k).flatMap enc
 | 0,[]=>by simp
 | 0,x::l=>by rw[nM,F6,KQ,nil_append,fU,Nat.one_mul,drop_left' (h x)];rfl
 |k+1,[]=>by simp
 |k+1,x::l=>by
  rw[SH,nM,nM,<-MH h k l,mR k,mR (k+1),qU _ sz,qU _ sz,take_append,drop_append,h x];rw[kg (by rw[h x];omega),F5 (by rw[h x];omega),Gc,Gc,nil_append,gP,mR k,qU sz]
end
def aI{B:Nat}{w0 w:World}{fs:List OJ}{s:Nat}(S:St B w0 w fs):St B w0 w (.dR s none 0 []::fs):=S.cons ⟨Rd.Ur,λa h=>by cases h⟩ λk I=>by cases I
end
inductive Pick (l:P7):List Nat->P7->Prop
 |z:Pick l [] []
 |s {k:Nat} {ks:List Nat} {v:Value} {l':P7}:lk l k=some v->Pick l ks l'->Pick l (k::ks) ((k,v)::l')
def Pick.sub{l:P7}{ks:List Nat}{l':P7}(h:Pick l ks l'):KM l l':=by
 induction h with
 |z=>exact trivial
 |s h _ I=>exact⟨h,I⟩
inductive jR (f:OJ):List OJ->Nat->List OJ->Prop
 |z {g:OJ} {fs:List OJ}:jR f (g::fs) 0 (f::fs)
 |s {g:OJ} {fs fs':List OJ} {i:Nat}:jR f fs i fs'->jR f (g::fs) (i+1) (g::fs')
def jR.eq{f:OJ}{fs fs':List OJ}{i:Nat}(h:jR f fs i fs'):fs.set i f=fs':=by
 induction h with
 |z=>rfl
 |s _ I=>rw[KR,I]
def apk:List Nat->List OJ->List OJ
 |[],fs=>fs
 |i::is,fs=>apk is (fs.eraseIdx i)
def St.lV{B:Nat}{w0 w:World}:∀ {fs:List OJ} (_:St B w0 w fs) (is:List Nat),St B w0 w (apk is fs)
 |_,S,[]=>S
 |_,S,i::is=>(St.del i S).lV is
def NA{α:Type}{enc:α->List Value}{w:World}{B sz n:Nat}{A:Option Addr}{l:List α}(k:Nat)(h:Rd w B sz A n (l.flatMap enc))(J:k<n)(hs:∀x,(enc x).length=sz:=by exact λ_=>E)(I:blt 0 sz=true:=by exact E):∃x,l[k]? =some x:=by
 have h1:=h.1;rw[jI hs]at h1;have M:l.length=n:=eq_of_mul_eq_mul_right (fV I) h1;exact⟨_,eT Y⟩
section
variable {P:Program}{N:Nat}{l l':P7}{w w' w0:World}{ops:Array Oper}{o:Oper}{rest:List Oper}{Q:Exit->Act->World->Prop}{d B:Nat}{v p:Value}{fs fs':List OJ}{ex:Exit}
def qk(ks:List Nat)(h:wQ N Q .normal l' w)(I:Pick l ks l':=by repeat' first|exact Pick.z|apply Pick.s rfl):wL P N ops Q [] l w:=ag7 (dG I.sub h)
def cw{c:Code}(ks:List Nat)(h:wC P N c Q l' w)(I:Pick l ks l':=by repeat' first|exact Pick.z|apply Pick.s rfl):wC P N c Q l w:=cB I.sub h
section
variable {x:Operand}
def ym(h:o.op=.move x:=by exact E)(I:ev l x=some v:=by exact E):kY P N l o w v:=ag8 h I
def ya(h:o.op=.assign x:=by exact E)(I:ev l x=some v:=by exact E):kY P N l o w v:=VH h I
def yx{k:Nat}{vs:Array Value}(h:o.op=.extract x k:=by exact E)(I:ev l x=some (.tuple vs):=by exact E)(J:vs[k]? =some v:=by exact E):kY P N l o w v:=adA h I J
def ypT{c y:Operand}(h:o.op=.pick c x y:=by exact E)(I:ev l c=some (.bool true):=by exact E)(J:ev l x=some v:=by exact E):kY P N l o w v:=ait h I J
def ypF{c y:Operand}(h:o.op=.pick c x y:=by exact E)(I:ev l c=some (.bool false):=by exact E)(J:ev l y=some v:=by exact E):kY P N l o w v:=aiu h I J
def yno{t:TypeId}{b c:Bool}(h:o.op=.unOp .not t x:=by exact E)(I:ev l x=some (.bool b):=by exact E)(J:(!b)=c:=by exact E):kY P N l o w (.bool c):=J▸ag9 h I aze
def vP{s:TypeId}{f b o0:Nat}{g:Nat->Nat}(h:Nat)(I:∀(b o:Nat) (w:World),(Instr.fieldAt s (.pointer (some ⟨b,o,none⟩)) f).run P w=.ok (.pointer (some ⟨b,g o,none⟩)) w)(J:o.op=.fieldAddr s x f:=by exact E)
  (M:ev l x=some (.pointer (some ⟨b,o0,none⟩)):=by exact E) (he:g o0=h:=by exact E):kY P N l o w (.pointer (some ⟨b,h,none⟩)):=he▸JY J M (I b o0 w)
def kL{t:TypeId}(h:o.op=.build t ([]:List (Nat×Operand)).toArray:=by exact E)(I:(Instr.build t ([]:List (Nat×Value)).toArray).run P w=.ok (.agg #[D 0,D 0,D 0,D 0,D 0,.slice none 0 0]) w:=by kernel_rfl):kY P N l o w (.agg #[D 0,D 0,D 0,D 0,D 0,.slice none 0 0]):=F4 (vs:=[]) h trivial I
def yz{t:TypeId}(h:o.op=.build t ([]:List (Nat×Operand)).toArray:=by exact E)(I:(Instr.build t ([]:List (Nat×Value)).toArray).run P w=.ok v w:=by kernel_rfl):kY P N l o w v:=F4 (vs:=[]) h trivial I
end
section
variable {t tt:TypeId}{kd:IntKind}{xo yo:Operand}{x y:Int}
def EX(I:o.op=.binOp .lss t xo yo tt:=by exact E)(J:ev l xo=some (.int kd x):=by exact E)(M:ev l yo=some (.int kd y):=by exact E)(h:x<y:=by decide):kY P N l o w (.bool true):=cK I J M (abF h)
def apl(I:o.op=.binOp .lss t xo yo tt:=by exact E)(J:ev l xo=some (.int kd x):=by exact E)(M:ev l yo=some (.int kd y):=by exact E)(h:¬x<y:=by decide):kY P N l o w (.bool false):=cK I J M (abG h)
def azB(h:¬x=y)(I:o.op=.binOp .eql t xo yo tt:=by exact E)(J:ev l xo=some (.int kd x):=by exact E)(M:ev l yo=some (.int kd y):=by exact E):kY P N l o w (.bool false):=cK I J M (abH h)
def azC(I:o.op=.binOp .neq t xo yo tt:=by exact E)(J:ev l xo=some (.int kd x):=by exact E)(M:ev l yo=some (.int kd y):=by exact E)(h:x=y:=by decide):kY P N l o w (.bool false):=cK I J M (Sy h)
end
section
variable {C:World->Prop}{Qa:Act->Prop}{j:Nat}{t:Nat}{u:Value}{x:Operand}
def vv(I:kY P N l o w v)(h:wL P N ops Q rest ((d,v)::l) w)(hw:o.guard=none:=by exact E)(J:o.dst=some d:=by exact E)(M:blt d N=true:=by exact E):wL P N ops Q (o::rest) l w:=Ig (wn hw) J M I h
def vm(h:wL P N ops Q rest ((d,v)::l) w)(hw:o.guard=none:=by exact E)(I:o.dst=some d:=by exact E)(J:blt d N=true:=by exact E)(M:o.op=.move x:=by exact E)(O:ev l x=some v:=by exact E):wL P N ops Q (o::rest) l w:=Ig (wn hw) I J (ag8 M O) h
def va(h:wL P N ops Q rest ((d,v)::l) w)(hw:o.guard=none:=by exact E)(I:o.dst=some d:=by exact E)(J:blt d N=true:=by exact E)(M:o.op=.assign x:=by exact E)(O:ev l x=some v:=by exact E):wL P N ops Q (o::rest) l w:=Ig (wn hw) I J (VH M O) h
def vg{b:Bool}(I:kY P N l o w v)(h:wL P N ops Q rest ((d,v)::l) w)(J:o.guard=some (j,b):=by exact E)(M:(ops[j]?).bind (·.dst)=some t:=by exact E)(hv:lk l t=some u:=by exact E)(O:(yl u==some b)=true:=by exact E)
  (Z:o.dst=some d:=by exact E) (hN:blt d N=true:=by exact E):wL P N ops Q (o::rest) l w:=Ig (wg J M hv O) Z hN I h
def vs{b:Bool}(h:wL P N ops Q rest ((d,undef)::l) w)(I:o.guard=some (j,b):=by exact E)(J:(ops[j]?).bind (·.dst)=some t:=by exact E)(hv:lk l t=some u:=by exact E)(M:(yl u==some b)=false:=by exact E)(O:o.dst=some d:=by exact E)(Z:blt d N=true:=by exact E):wL P N ops Q (o::rest) l w:=abE (wg I J hv M) O Z h
def uv(I:∀w,C w->kY P N l o w v)(h:wU P N ops C Qa rest ((d,v)::l))(hw:o.guard=none:=by exact E)(J:o.dst=some d:=by exact E)(M:blt d N=true:=by exact E):wU P N ops C Qa (o::rest) l:=Qq (wn hw) J M I h
def ug{b:Bool}(I:∀w,C w->kY P N l o w v)(h:wU P N ops C Qa rest ((d,v)::l))(J:o.guard=some (j,b):=by exact E)(M:(ops[j]?).bind (·.dst)=some t:=by exact E)(hv:lk l t=some u:=by exact E)(O:(yl u==some b)=true:=by exact E)
  (Z:o.dst=some d:=by exact E) (hN:blt d N=true:=by exact E):wU P N ops C Qa (o::rest) l:=Qq (wg J M hv O) Z hN I h
def ak{n:Nat}{listed listed':Array Bool}(i:Nat)(hi:ops[i]? =some o)(I:C w)(J:∀w,C w->kY P N l o w v)(h:wA P N ops Q C n listed' ((d,v)::l) w)(hs:Region.noSelect ops=true:=by kernel_rfl)(M:Region.free .any ops listed i=true:=by kernel_rfl)
  (O:(Region.ready .any ops listed).contains i=true:=by kernel_rfl) (Z:listed.setIfInBounds i true=listed':=by exact E) (hw:o.guard=none:=by exact E) (hd:o.dst=some d:=by exact E) (hN:blt d N=true:=by exact E):wA P N ops Q C (n+1) listed l w:=qW hi hs M O I Z (wn hw) hd hN J h
def gk{n m:Nat}{listed listed':Array Bool}(i:Nat)(hi:ops[i]? =some o)(O:C w)(Z:∀w,C w->kY P N l o w v)(h:wG P N ops Q C n m listed' ((d,v)::l) w)(hs:Region.noSelect ops=true:=by kernel_rfl)(hf:Region.free .any ops listed i=true:=by kernel_rfl)
  (hr:(Region.ready .any ops listed).contains i=true:=by kernel_rfl) (I:listed.getD n true=false:=by exact E) (J:zJ ops n i=true:=by kernel_rfl) (M:beq n i=false:=by exact E) (hl:listed.setIfInBounds i true=listed':=by exact E) (hw:o.guard=none:=by exact E)
  (hd:o.dst=some d:=by exact E) (hN:blt d N=true:=by exact E):wG P N ops Q C n (m+1) listed l w:=Ga hi hs hf hr I J M O hl (wn hw) hd hN Z h
def bJ{n:Nat}{listed:Array Bool}(r:Nat)(h:wK P N ops Q C n r listed l w)(I:Region.ready .any ops listed=[r]:=by kernel_rfl):wA P N ops Q C (n+1) listed l w:=asG I h
end
section
variable {b m f:Nat}{row row' cs:Array Value}{t ty:TypeId}{x y:Operand}{ds:TypeDesc}{z u:Value}
def sa(i:Nat)(S:St B w0 w fs)(I:(P.info? ty).map (·.size)=some m)(h:∀w',St B w0 w' fs'->wL P N ops Q rest l w')(hw:o.guard=none:=by exact E)(J:o.dst=none:=by exact E)(M:o.op=.store ty x y:=by exact E)
  (O:ev l x=some (.pointer (some ⟨b,0,none⟩)):=by exact E) (Z:ev l y=some v:=by exact E) (hi:fs[i]? =some (.Oy b row t):=by exact E) (hv:v.cells=cs:=by exact E) (hm:cs.size=m:=by exact E)
  (h1:cs.toList.all (·.oneCell')=true:=by exact E) (hr:ble m row.size=true:=by exact E) (hs:row.size=cs.size:=by exact E) (hf:jR (.Oy b cs t) fs i fs':=by repeat' first|exact jR.z|apply jR.s):wL P N ops Q (o::rest) l w:=
 Ii i S (wn hw) J M O Z hi hv I hm (dx h1) (by rw[fU];exact fV hr) (uM hs) hf.eq h
def sr{off:Nat}{row':Array Value}(i:Nat)(S:St B w0 w fs)(I:(P.info? ty).map (·.size)=some m)(h:∀w',St B w0 w' fs'->wL P N ops Q rest l w')(hw:o.guard=none:=by exact E)(J:o.dst=none:=by exact E)(M:o.op=.store ty x y:=by exact E)
  (O:ev l x=some (.pointer (some ⟨b,off,none⟩)):=by exact E) (Z:ev l y=some v:=by exact E) (hi:fs[i]? =some (.Oy b row t):=by exact E) (hv:v.cells=cs:=by exact E) (hm:cs.size=m:=by exact E)
  (h1:cs.toList.all (·.oneCell')=true:=by exact E) (hr:ble (off+m) row.size=true:=by exact E) (hs:dU row off cs.toList=row':=by exact E) (hf:jR (.Oy b row' t) fs i fs':=by repeat' first|exact jR.z|apply jR.s):wL P N ops Q (o::rest) l w:=
 Ii i S (wn hw) J M O Z hi hv I hm (dx h1) (fV hr) hs hf.eq h
def sn{C:World->Prop}{n:Nat}{listed listed':Array Bool}(j:Nat)(I:ops[j]? =some o)(i:Nat)(S:St B w0 w fs)(J:(P.info? ty).map (·.size)=some m)(h:∀w',St B w0 w' fs'->C w'/\wA P N ops Q C n listed' l w')(M:listed.setIfInBounds j true=listed':=by exact E)
  (hw:o.guard=none:=by exact E) (O:o.dst=none:=by exact E) (Z:o.op=.store ty x y:=by exact E) (hx:ev l x=some (.pointer (some ⟨b,0,none⟩)):=by exact E) (hy:ev l y=some v:=by exact E) (hi:fs[i]? =some (.Oy b row t):=by exact E) (hv:v.cells=cs:=by exact E)
  (hm:cs.size=m:=by exact E) (h1:cs.toList.all (·.oneCell')=true:=by exact E) (hr:ble m row.size=true:=by exact E) (hs:row.size=cs.size:=by exact E) (hf:jR (.Oy b cs t) fs i fs':=by repeat' first|exact jR.z|apply jR.s):wK P N ops Q C n j listed l w:=
 wV I M i S (wn hw) O Z hx hy hi hv J hm (dx h1) (by rw[fU];exact fV hr) (uM hs) hf.eq h
def Bg{vs:List Value}{R:Ending->World->Prop}{xs:List Operand}{ts:Array TypeId}{j tg:Nat}{bb:Bool}(I:∀args w,(callFunc f args).run P w=.ok (.enter f args) w)(J:Calls P f vs.toArray w R)(h:∀e w',R e w'-> ∃v,e=.returned v/\wL P N ops Q rest ((d,v)::l) w')
  (M:o.guard=some (j,bb):=by exact E) (O:(ops[j]?).bind (·.dst)=some tg:=by exact E) (hv:lk l tg=some u:=by exact E) (Z:(yl u==some bb)=true:=by exact E) (hd:o.dst=some d:=by exact E) (hN:blt d N=true:=by exact E)
  (ho:o.op=.call {callee:=.value (.func f),args:=xs.toArray,argTypes:=ts}:=by exact E) (hx:TP l xs vs:=by repeat' first|exact trivial|refine⟨rfl,?_⟩):wL P N ops Q (o::rest) l w:=KO (wg M O hv Z) hd hN (kF ho I hx) J h
def nb{row:Array Value}(S:St B w0 w fs)(h:∀b w',St B w0 w' (.Oy b row t::fs)->wL P N ops Q rest ((d,.pointer (some ⟨b,0,none⟩))::l) w')(hw:o.guard=none:=by exact E)(I:o.dst=some d:=by exact E)
  (J:blt d N=true:=by exact E) (M:o.op=.box t x:=by exact E) (O:ev l x=some p:=by exact E) (Z:p.cells=row:=by exact E):wL P N ops Q (o::rest) l w:=nR (V:=λb=>.pointer (some ⟨b,0,none⟩)) S (wn hw) I J (agz M O Z) h
def dZ{vs:List Value}{R:Ending->World->Prop}{xs:List Operand}{ts:Array TypeId}(I:∀args w,(callFunc f args).run P w=.ok (.enter f args) w)(J:Calls P f vs.toArray w R)(h:∀e w',R e w'-> ∃v,e=.returned v/\wL P N ops Q rest ((d,v)::l) w')
  (hw:o.guard=none:=by exact E) (M:o.dst=some d:=by exact E) (O:blt d N=true:=by exact E) (Z:o.op=.call {callee:=.value (.func f),args:=xs.toArray,argTypes:=ts}:=by exact E) (hx:TP l xs vs:=by repeat' first|exact trivial|refine⟨rfl,?_⟩):
  wL P N ops Q (o::rest) l w:=KO (wn hw) M O (kF Z I hx) J h
def UR{vs:List Value}{xs:List Operand}{ts:Array TypeId}(I:∀args w,(callFunc f args).run P w=.ok (.enter f args) w)(S:St B w0 w fs)(M:Calls P f vs.toArray w λe w'=>e=.returned v/\Below w.heap.size w w')(h:∀w',St B w0 w' fs->wL P N ops Q rest ((d,v)::l) w')
  (hw:o.guard=none:=by exact E) (O:o.dst=some d:=by exact E) (Z:blt d N=true:=by exact E) (ho:o.op=.call {callee:=.value (.func f),args:=xs.toArray,argTypes:=ts}:=by exact E) (hx:TP l xs vs:=by repeat' first|exact trivial|refine⟨rfl,?_⟩):
  wL P N ops Q (o::rest) l w:=KO (wn hw) O Z (kF ho I hx) M λ_ w' J=>⟨v,J.1,h w' (S.on J.2)⟩
def jc{fn:Func}{c:Code}{vs:List Value}{R:Ending->World->Prop}(N:Nat)(I:P.funcs[f]? =some fn)(h:wC P N c (bodyPost P fn R) (ents 0 vs) w)(J:fn.body=some c:=by exact E)(hn:fn.ntmps=N:=by exact E)(M:ble vs.length N=true:=by exact E):Calls P f vs.toArray w R:=Xv I J hn M h
end
def EG{c6 Z:Code}{J:Exit->Act->World->Prop}{o4:Operand}{M:Nat}{I:List Oper}(h:wL P N I.toArray (Exit.then (Z.wp P J) J) I l w)(O:ev l o4=some (.bool true):=by exact E):wQ N (Exit.then ((Code.cond o4 (Code.seq (Code.region M I.toArray false) Z) c6).wp P J) J) .normal l w:=jD (oD O (bH (aL h)))
def agF{M:Code}{J:Exit->Act->World->Prop}{O:Nat}{I:List Oper}(h:wL P N I.toArray (Exit.then (M.wp P J) J) I l w):wQ N (Exit.then ((Code.seq (Code.region O I.toArray false) M).wp P J) J) .normal l w:=jD (bH (aL h))
def YG{M O:Code}{J:Exit->Act->World->Prop}{Z:Nat}{I:List Oper}(h:wL P N I.toArray (Exit.then (O.wp P (Exit.then (M.wp P J) J)) (Exit.then (M.wp P J) J)) I l w):wQ N (Exit.then ((Code.seq (Code.seq (Code.region Z I.toArray false) O) M).wp P J) J) .normal l w:=jD (bH (bH (aL h)))
def aiB{c5 J:Code}{M:Exit->Act->World->Prop}{o4:Operand}{O:Nat}{I:List Oper}(h:wL P N I.toArray (Exit.then (J.wp P M) M) I l w)(Z:ev l o4=some (.bool false):=by exact E):wQ N (Exit.then ((Code.cond o4 c5 Code.skip).wp P (Exit.then ((Code.seq (Code.region O I.toArray false) J).wp P M) M)) (Exit.then ((Code.seq (Code.region O I.toArray false) J).wp P M) M)) .normal l w:=jD (oF Z (uh (jD (bH (aL h)))))
end
section
open ChangeAt
section
variable {P:Program}{N:Nat}{l:P7}{w w' w0:World}{B:Nat}{fs fs':List OJ}{ops:Array Oper}{o:Oper}{rest:List Oper}{Q:Exit->Act->World->Prop}{v:Value}{d:Nat}
def Rd.ahh{e:TypeId}{s n c:Nat}{A:Option Addr}{xs:List Value}(h:qN w B e s A n c xs):Rd w w.heap.size s A n xs:=by
 obtain⟨h1,h2,h3,⟨rfl,M⟩|⟨g,o,O,rfl,M,J,h6,Z⟩⟩:=h
 ·exact⟨h1,λhn=>av hn Y⟩
 refine⟨h1,λ_=>⟨g,o,E,(Dl.1 J).1,λj u I=>?_⟩⟩;rw[<-Z]at I;have hj:j<n*s:=by
  have:=(dw.1 I).1;rw[eD]at this;omega
 rw[xY hj,Dm]at I;rw[cell_of_row w g (o+j) _ e (0,0) J];simpa using I
def qN.zH(w:World)(B:Nat)(e:TypeId)(s:Nat):qN w B e s none 0 0 []:=⟨by simp,aB,aG _,.inl ⟨E,E⟩⟩
def qN.wE{e:TypeId}{s n c:Nat}{A:Option Addr}{xs:List Value}(h:w.ownsRow B e s (.slice A n c) n xs):qN w B e s A n c xs:=by
 obtain⟨h1,⟨Z,rfl⟩|⟨g,cap,I,hv,hg,hh,J,M,hsz,O⟩⟩:=h
 ·injection Z with a b c'
  subst a;subst c';exact⟨h1,aB,aG _,.inl ⟨E,E⟩⟩
 injection hv with a b c'
 subst a;subst c';exact⟨h1,J,M,.inr ⟨g,0,I,E,hg,hh,by omega,by simpa using O⟩⟩
def qN.cut{e:TypeId}{s n c k:Nat}{A:Option Addr}{xs:List Value}(h:qN w B e s A n c xs)(hk:k<=n):qN w B e s (if c=k then A else A.map (·.add (k*s))) (n-k) (c-k) (xs.drop (k*s)):=by
 obtain⟨h1,h2,h3,I⟩:=h;refine⟨by rw[dO,h1,FY],by omega,by omega,?_⟩
 rcases I with⟨rfl,I⟩|⟨g,o,J,rfl,I,M,h6,O⟩
 ·exact .inl ⟨by split<;>rfl,by omega⟩
 refine .inr ?_;by_cases Z:c=k
 ·rw[au Z];have hn:n=k:=Y;refine⟨g,o,J,E,I,M,by rw[show c-k=0 by omega];omega,?_⟩;rw[show n-k=0 by omega,F6,KQ,<-O,hn,Aw,SI,KQ]
 rw[ah Z];refine⟨g,o+k*s,J,by simp[Addr.add],I,M,?_,?_⟩
 ·have:k*s+(c-k)*s=c*s:=by rw[<-Nat.add_mul];congr 1;omega
  omega
 rw[<-O,Aw,lW,<-FY]
def acd (w:World) (B:Nat) (t ty e:TypeId) (i:TypeInfo) (z:Value) (size bytes:Nat) (ht:P.underlying t=some (.slice e)) (hi:P.info? e=some i) (hz:i.zero=some z)
    (hsize:i.size=size) (hby:i.bytes=bytes) (hzs:z.cells.size=size) (hsz:0<size) (A:Option Addr) (n c:Nat) (xs:List Value) (hown:qN w B e size A n c xs)
    (a:Addr) (m c2:Nat) (news:List Value) (hl:news.length=m*size) (I:∀j u,news[j]? =some u->w.cell? (a.add j)=some u) (h1:∀u∈news,u.oneCell'=true)
    (h63:n+m<=maxLen) (M:(n+m)*bytes<=140737488355328) (hbase:B<=w.heap.size) (hm:0<m):
    ∃A' c' w',(Builtin.append_ #[t,t] ty #[.slice A n c,.slice (some a) m c2]).run P w=.ok (.slice A' (n+m) c') w'/\qN w' B e size A' (n+m) c' (xs++news)/\w.grownBy w' (A.map (·.block))/\
      (A'.map (·.block)=A.map (·.block)\/A'.map (·.block)=some w.heap.size):=by
  subst hsize;subst hby;have hsmall:n+m<=9223372036854775807:=by simp only[maxLen]at h63;omega
  have hrd:=Rd.ahh hown;obtain⟨hx1,hx2,hx3,hx4⟩:=hown;have O:(xs++news).length=(n+m)*i.size:=by rw[aZ,hx1,hl,Nat.add_mul]
  have grown: ∀ (h:Nat),h<n+m-> ∀ (row:Option Nat),
      qN (w.drew.alloc (.cells (xs.toArray++news.toArray++Builtin.zeroCells z.cells (grownCap w (n+m) h e-(n+m))) e)) B e i.size (some ⟨w.heap.size,0,none⟩) (n+m) (grownCap w (n+m) h e) (xs++news)/\
      w.grownBy (w.drew.alloc (.cells (xs.toArray++news.toArray++Builtin.zeroCells z.cells (grownCap w (n+m) h e-(n+m))) e)) row:=by
    intro h ho row;have hge:=grownCap_ge w (n+m) h e;have hcm:grownCap w (n+m) h e<=maxLen:=grownCap_le_maxLen w (n+m) h e h63;refine⟨⟨O,hge,hcm,.inr ⟨w.heap.size,0,_,E,hbase,heap_alloc_new w.drew _,?_,?_⟩⟩,⟨E,E,E,by simp,λk hk _=>heap_alloc_old w.drew _ hk⟩⟩
    · simp only[Array.size_append,size_toArray,size_zeroCells,hzs,hx1,hl,<-Nat.add_mul]
      rw[fU];refine Ay _ ?_;omega
    · simp only[Array.toList_append,append_assoc,drop_zero]
      rw[<-gP,<-O];exact Gf
  rcases hx4 with⟨rfl,rfl⟩|⟨g,of,cur,rfl,hg,hh,hcs,htake⟩
  · have hn0:n=0:=Y
    subst hn0;have hx:xs=[]:=FZ (by simpa using hx1);subst hx;have hr:=run_append_nil (P:=P) w t ty e i z ht hi hz a m c2 news hl I Y Y (by have hb:=M;simp only[Nat.zero_add]at hb;omega);have Z:=grown 0 Y none;simp only[Nat.zero_add,nil_append,Array.empty_append]at Z⊢;exact⟨_,_,_,hr,Z.1,Z.2,Or.inr E⟩
  · by_cases J:n+m<=c
    · have hle:(n+m)*i.size<=c*i.size:=Ay _ J
      have hfit:of+n*i.size+news.length<=cur.size:=by rw[hl,kR,<-Nat.add_mul];omega
      have hb:iM w g cur e:=⟨hh⟩;have hr:=run_append_room_cells (P:=P) (w:=w) t ty e i ht hi g of n c a m c2 news hl I h1 J
        (λj hj=>by rw[hb.cell (k:=of+n*i.size+j) (x9 Y)];rfl) (λj _=>hb.free _)
      have hb':=lC news (of+n*i.size) hb;refine⟨_,_,_,hr,⟨O,J,hx3,.inr ⟨g,of,_,E,hg,hb'.Oy,by rw[qy];exact hcs,?_⟩⟩,?_,Or.inl E⟩
      · rw[jw _ _ _ hfit,<-O]
        have e1:(cur.toList.take (of+n*i.size)).drop of=xs:=by rw[<-htake,Aw];congr 1;omega
        have e2:of<=(cur.toList.take (of+n*i.size)).length:=by rw[eD,abQ];omega
        rw[gP,drop_append_of_le_length e2,e1,<-gP];exact Gf
      · have hu:=lD g news (of+n*i.size) w
        exact⟨hu.os,hu.tape,hu.output,oz hu.size.symm,λk _ hk=>hu.block k (λe=>hk (by simp[e]))⟩
    · have hr:=run_append_grow (P:=P) w t ty e i z ht hi hz ⟨g,of,none⟩ n c xs hx1 (λj u hu=>by
          have hj:j<n*i.size:=by have:=(dw.1 hu).1;omega
          obtain⟨b,off,e1,_,hc⟩:=hrd.2 (Nat.pos_of_ne_zero λh0=>by subst h0;omega)
          injection e1 with e1
          injection e1 with e1 e2
          subst e1;subst e2;rw[Go.WideShapes.add_plain];exact hc j u hu) a m c2 news hl I Y Y (growslice_fits Y M)
      have Z:=grown c Y (some g);exact⟨_,_,_,hr,Z.1,Z.2,Or.inr E⟩
def St.has{f:OJ}(S:St B w0 w fs)(h:f∈fs):f.holds B w:=by
 obtain⟨i,hi⟩:=bS.1 h;exact S.all i f hi
def St.Qi{b:Nat}{row:Array Value}{t:TypeId}(S:St B w0 w fs)(h:OJ.Oy b row t∈fs):iM w b row t:=(S.has h).2
def OJ.apart(f g:OJ):Prop:= ∀k,f.foot=some k->g.foot≠some k
def OJ.apart.symm{f g:OJ}(h:f.apart g):g.apart f:=λk h1 I=>h k I h1
def St.iff:St B w0 w fs↔Below B w0 w/\B<=w.heap.size/\(∀f∈fs,f.holds B w)/\fs.Pairwise OJ.apart:=by
 constructor
 ·intro S;refine⟨S.Qe,S.base,λf O=>S.has O,Gg.2 λi j hi Z I=>?_⟩;exact S.sep i j _ _ Y (eT hi) (eT Z)
 rintro⟨h1,h2,h3,h4⟩;refine⟨h1,h2,λi f O=>h3 f (jN O),λi j f g I hi Z=>?_⟩;obtain⟨J,rfl⟩:=dw.1 hi;obtain⟨M,rfl⟩:=dw.1 Z
 rcases Nat.lt_or_gt_of_ne I with h|h
 ·exact Gg.1 h4 i j J M h
 exact(Gg.1 h4 j i M J h).symm
def St.perm{gs:List OJ}(S:St B w0 w fs)(h:fs.Perm gs):St B w0 w gs:=by
 obtain⟨h1,I,J,M⟩:=St.iff.1 S;exact St.iff.2 ⟨h1,I,λf O=>J f (h.mem_iff.2 O),(h.pairwise_iff λh=>h.symm).1 M⟩
def St.sub{gs:List OJ}(S:St B w0 w fs)(h:gs.Sublist fs):St B w0 w gs:=by
 obtain⟨h1,I,J,M⟩:=St.iff.1 S;exact St.iff.2 ⟨h1,I,λf O=>J f (h.mem O),M.sublist h⟩
def St.agG{e:TypeId}{s n c:Nat}{A:Option Addr}{xs:List Value}(i:Nat)(S:St B w0 w fs)(hi:fs[i]? =some (.off e s A n c xs)):qN w B e s A n c xs:=S.all i _ hi
def St.azD{e:TypeId}{s n c:Nat}{A:Option Addr}{xs:List Value}(i:Nat)(S:St B w0 w fs)(hi:fs[i]? =some (.off e s A n c xs)):Rd w w.heap.size s A n xs:=Rd.ahh (S.agG i hi)
def St.atS{e:TypeId}{s n c:Nat}{A:Option Addr}{xs:List Value}(i k:Nat)(S:St B w0 w fs)(hi:fs[i]? =some (.off e s A n c xs))(I:k<=n):
 St B w0 w (fs.set i (.off e s (if c=k then A else A.map (·.add (k*s))) (n-k) (c-k) (xs.drop (k*s)))):=by
 refine S.turn i hi S.Qe aB (λ_ _ _=>E) ((S.agG i hi).cut I) λJ h=>.inl ?_
 cases A with
 |none=>split at h<;>cases h
 |some a=>
  show some a.block=some J
  split at h
  ·exact h
  have:(a.add (k*s)).block=a.block:=by unfold Addr.add;split<;>rfl
  rw[<-this];exact h
def St.atT{e:TypeId}{s n c n' c':Nat}{A A':Option Addr}{xs xs':List Value}(i:Nat)(S:St B w0 w fs)(hi:fs[i]? =some (.off e s A n c xs))(M:w.grownBy w' (A.map (·.block)))(ho:qN w' B e s A' n' c' xs')
  (O:A'.map (·.block)=A.map (·.block)\/A'.map (·.block)=some w.heap.size):St B w0 w' (fs.set i (.off e s A' n' c' xs')):=by
 have h:=S.all i _ hi;refine S.turn i hi (S.Qe.grown M S.base (λk I=>(OJ.pK h I).1)) M.size (λk I Z=>M.block k I (λe=>Z e.symm)) ho (λk I=>?_);have J:A'.map (·.block)=some k:=I
 rcases O with h1|h1
 ·exact .inl (by rw[<-J,h1];rfl)
 rw[J]at h1
 cases h1;exact .inr aB
def St.EH(S:St B w0 w fs)(e:TypeId)(s:Nat):St B w0 w (.off e s none 0 0 []::fs):=S.cons (qN.zH w B e s) λk h=>by cases h
end
section
variable {P:Program}{N:Nat}{l:P7}{w w' w0:World}{B m n i:Nat}{fs fs':List OJ}{ops:Array Oper}{o:Oper}{rest:List Oper}{Q:Exit->Act->World->Prop}{C:World->Prop}{listed listed':Array Bool}{v:Value}{d:Nat}
def adG{x y:Operand}{t e:TypeId}{z:Value}{size bytes k q c c0 Br:Nat}{O A:Option Addr}{xs news xs':List Value}(Z:ops[i]? =some o)(hl:listed.setIfInBounds i true=listed')(j:Nat)(S:St B w0 w fs)(hw:Qb N ops l o true)(hd:o.dst=some d)(hN:blt d N=true)
  (ho:o.op=.call {callee:=.builtin .append,args:= #[x,y],argTypes:= #[t,t]}) (hx:ev l x=some (.slice O k c0)) (hy:ev l y=some (.slice A q c)) (hi:fs[j]? =some (.off e size O k c0 xs)) (hr:Rd w Br size A q news) (hq:0<q)
  (ht:P.underlying t=some (.slice e)) (J:(P.info? e).map (λi=>(i.zero,i.size,i.bytes))=some (some z,size,bytes)) (hzs:z.cells.size=size) (hsz:0<size) (h1:∀u∈news,u.oneCell'=true) (h63:k+q<=maxLen) (I:(k+q)*bytes<=140737488355328)
  (hxs:xs++news=xs') (h:∀A' c' w',St B w0 w' (fs.set j (.off e size A' (k+q) c' xs'))->C w'/\wG P N ops Q C n m listed' ((d,.slice A' (k+q) c')::l) w'):wH P N ops Q C n m i listed l w:=by
 subst hxs;obtain⟨j0,hj0,hz,hs,hb⟩:=info_parts J;obtain⟨bb,oo,rfl,_,hc⟩:=hr.2 hq;obtain⟨A',c',w',M,h2,h3,h4⟩:=acd (P:=P) w B t o.type e j0 z size bytes ht hj0 hz hs hb hzs hsz O k c0 xs (S.agG j hi) ⟨bb,oo,none⟩ q c news hr.1 (λa u hu=>by rw[Go.WideShapes.add_plain];exact hc a u hu) h1 h63 I S.base hq;exact agC Z hl hw hd hN (D6 (xs:=[x,y]) (vs:=[.slice O k c0,.slice (some ⟨bb,oo,none⟩) q c]) ho ⟨hx,hy,trivial⟩ (λcs=>by simp[builtin,M,Sem.run_bind,Result.andThen])) (h A' c' w' (S.atT j hi h3 h2 h4))
end
end
end Go.Proofs.YtefabpdniidmbaaGreatDoor
