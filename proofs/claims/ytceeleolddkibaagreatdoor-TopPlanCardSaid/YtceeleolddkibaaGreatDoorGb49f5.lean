import Derived.Test.YtceeleolddkibaaGreatDoorCards
import Derived.Test.YtceeleolddkibaaGreatDoorTie
import Derived.Deep.DeepHandedRow
import Derived.Lib.LaidTab
import Derived.Test.YtceeleolddkibaaGreatDoorG37a0f
set_option linter.all false
set_option maxRecDepth 100000
set_option maxHeartbeats 8000000
namespace Go.Proofs.YtceeleolddkibaaGreatDoor
open List Nat Go.Proofs.Tryz ChangeShapes WideShapes RowKit
def tU1{Aa:Type}{a:Aa}:a=a/\True:=⟨E,trivial⟩
def Aq{Aa Ab:Type}{a:Aa}{b:Ab}:a=a/\b=b/\True:=⟨E,E,trivial⟩
def Jh{Aa Ab Ac:Type}{a:Aa}{b:Ab}{c:Ac}:a=a/\b=b/\c=c/\True:=⟨E,E,E,trivial⟩
def lS{Aa Ab Ac Ad:Type}{a:Aa}{b:Ab}{c:Ac}{d:Ad}:a=a/\b=b/\c=c/\d=d/\True:=⟨E,E,E,E,trivial⟩
def Dc{Aa Ab Ac Ad Ae:Type}{a:Aa}{b:Ab}{c:Ac}{d:Ad}{e:Ae}:a=a/\b=b/\c=c/\d=d/\e=e/\True:=⟨E,E,E,E,E,trivial⟩
def vD{Aa Ab Ac Ad Ae Af:Type}{a:Aa}{b:Ab}{c:Ac}{d:Ad}{e:Ae}{f:Af}:a=a/\b=b/\c=c/\d=d/\e=e/\f=f/\True:=⟨E,E,E,E,E,E,trivial⟩
def FX{Aa Ab Ac Ad Ae Af Ag:Type}{a:Aa}{b:Ab}{c:Ac}{d:Ad}{e:Ae}{f:Af}{g:Ag}:a=a/\b=b/\c=c/\d=d/\e=e/\f=f/\g=g/\True:=⟨E,E,E,E,E,E,E,trivial⟩
def Y8{Aa Ab Ac Ad Ae Af Ag Ah:Type}{a:Aa}{b:Ab}{c:Ac}{d:Ad}{e:Ae}{f:Af}{g:Ag}{h:Ah}:a=a/\b=b/\c=c/\d=d/\e=e/\f=f/\g=g/\h=h/\True:=⟨E,E,E,E,E,E,E,E,trivial⟩
def tU9{Aa Ab Ac Ad Ae Af Ag Ah Ai:Type}{a:Aa}{b:Ab}{c:Ac}{d:Ad}{e:Ae}{f:Af}{g:Ag}{h:Ah}{i:Ai}:a=a/\b=b/\c=c/\d=d/\e=e/\f=f/\g=g/\h=h/\i=i/\True:=⟨E,E,E,E,E,E,E,E,E,trivial⟩
def awk{Aa Ab Ac Ad Ae Af Ag Ah Ai Aj:Type}{a:Aa}{b:Ab}{c:Ac}{d:Ad}{e:Ae}{f:Af}{g:Ag}{h:Ah}{i:Ai}{j:Aj}:a=a/\b=b/\c=c/\d=d/\e=e/\f=f/\g=g/\h=h/\i=i/\j=j/\True:=⟨E,E,E,E,E,E,E,E,E,E,trivial⟩
def bT(l:List Ev):List Value:=l.flatMap Ev.cells
def gV(l:List Ev):∀u∈bT l,u.oneCell'=true:=by
 intro u h;simp only[bT,mem_flatMap,Ev.cells]at h;obtain⟨e,_,h⟩:=h;simp only[mem_cons,not_mem_nil,or_false]at h
 rcases h with rfl|rfl|rfl|rfl|rfl|rfl<;>rfl
class Au (α:Type) where
 size:Nat
 UA:α->List Int
 of:List Int->α
 pos:0<size
 len:∀a,(UA a).length=size
 inv:∀xs:List Int,xs.length=size->UA (of xs)=xs
section
variable {α:Type}[Au α]
open Au
def vE(a:α):List Value:=(UA a).map (Value.int .i64)
def iO(l:List α):List Value:=l.flatMap vE
def zK(a:α):(vE a).length=size α:=by simp[vE,len]
def xg(l:List α):(iO l).length=l.length*size α:=by
 induction l with
 |nil=>simp[iO]
 |cons e l h=>simp only[iO,flatMap_cons,length_append,length_cons]at*;rw[h,zK,mK];omega
def Cm(l:List α):∀u∈iO l,u.oneCell'=true:=by
 intro u h;simp only[iO,vE,mem_flatMap,mem_map]at h;obtain⟨e,_,x,_,rfl⟩:=h;rfl
def Ji{l:List α}{k j:Nat}{a:α}{v:Int}(h:l[k]? =some a)(I:(UA a)[j]? =some v):(iO l)[k*size α+j]? =some (.int .i64 v):=by
 induction l generalizing k with
 |nil=>simp at h
 |cons x l J=>
  have M:iO (x::l)=vE x++iO l:=by simp[iO]
  have O:=zK x;have Z:j<size α:=by
   have:=(cK.1 I).1;rw[len]at this;exact this
  rw[M]
  cases k with
  |zero=>
   simp at h;subst h;rw[GN,fq,oz Y];simp[vE,I]
  |succ k=>
   rw[pK (by rw[mK];omega),O,show(k+1)*size α+j-size α=k*size α+j by rw[mK];omega];exact J (by simpa using h)
variable {w:World}{B n:Nat}{A:Option Addr}{l:List α}
def Rd.LA(h:Rd w B (size α) A n (iO l)):l.length=n:=by
 have:=h.1;rw[xg]at this;exact eq_of_mul_eq_mul_right (pos (α:=α)) this
def Rd.ahM{k:Nat}(h:Rd w B (size α) A n (iO l))(O:k<n):∃b off a,A=some ⟨b,off,none⟩/\b<B/\l[k]? =some a/\
  ∀j v,(UA a)[j]? =some v->w.cell? ⟨b,off+(k*size α+j),none⟩=some (.int .i64 v):=by
 have Z:=h.LA;obtain⟨b,off,e,I,J⟩:=h.2 Y;have he:l[k]? =some (l[k]'Y):=dJ Y;exact⟨b,off,_,e,I,he,λj v M=>J _ _ (Ji he M)⟩
def aeo{cs:List Value}{m:Nat}(h:fI ZJ cs (replicate m (.int .i64))):∃xs:List Int,xs.length=m/\cs=xs.map (Value.int .i64):=by
 induction m generalizing cs with
 |zero=>exact⟨[],E,fI.Ak h⟩
 |succ m I=>
  obtain⟨a,O,rfl,⟨x,rfl,_⟩,J⟩:=fI.yZ h;obtain⟨xs,M,rfl⟩:=I J;exact⟨x::xs,by simp[M],E⟩
def aer{W:World}{v:Value}{b:Nat}(h:Fits W v (.sl b (replicate (size α) (.int .i64)))):
 ∃A n c,∃l:List α,v=.slice A n c/\Rd W W.heap.size (size α) A n (iO l)/\n<=c/\c<=maxLen/\c*b<=reachBytes/\(A=none->c=0):=by
 have hp:=pos (α:=α)
 rcases h with rfl|⟨M,n,c,rfl,hn,hc,hr,I⟩
 ·exact⟨none,0,0,[],E,⟨by simp[iO],λh=>av h Y⟩,aB,aC _,by simp,λ_=>E⟩
 have O:∀i,i<n-> ∃x:α,M.block<W.heap.size/\ ∀j u,(vE x)[j]? =some u->W.cell? (M.add (i*size α+j))=some u:=by
  intro i hi;obtain⟨cs,h2,hb,Z⟩:=I i hi;obtain⟨xs,hx,rfl⟩:=aeo h2;rw[acD]at hb Z;refine⟨of xs,hb hp,λj u hj=>Z j u ?_⟩;rw[vE,inv xs hx]at hj;exact hj
 have hd:∃x:α,True:=⟨of [],trivial⟩;obtain⟨f,hf⟩:∃f:Nat->α,∀i,i<n->M.block<W.heap.size/\ ∀j u,(vE (f i))[j]? =some u->W.cell? (M.add (i*size α+j))=some u:=by
  refine⟨λi=>if hi:i<n then Classical.choose (O i hi)else of [],λi hi=>?_⟩;simp only[hi,dif_pos];exact Classical.choose_spec (O i hi)
 refine⟨some M,n,c,(range n).map f,E,⟨by rw[xg];simp,λh0=>?_⟩,hn,hc,hr,λh=>by cases h⟩;obtain⟨b,off,spot⟩:=M;have J:spot=none:=by
  have h1:(vE (f 0))[0]? =some ((vE (f 0))[0]'(by rw[zK];exact hp)):=dJ _;simpa[Addr.add]using World.cell?_spot ((hf 0 h0).2 0 _ h1)
 subst J;refine⟨b,off,E,(hf 0 h0).1,λj u hu=>?_⟩;have hj:j<n*size α:=by
  have:=(cK.1 hu).1;rw[xg]at this;simpa using this
 have hk:j / size α<n:=Nat.div_lt_of_lt_mul (by rw[TD];exact hj);have hm:j % size α<size α:=mod_lt _ hp;have hg:((range n).map f)[j / size α]? =some (f (j / size α)):=by simp[hk]
 have e:j / size α*size α+j % size α=j:=by rw[TD];exact div_add_mod j (size α)
 have h7:=(hf (j / size α) hk).2 (j % size α) u;rw[Go.WideShapes.add_plain,e]at h7;refine h7 ?_;have hi:(UA (f (j / size α)))[j % size α]? =some ((UA (f (j / size α)))[j % size α]'(by rw[len];exact hm)):=dJ _;have h8:=Ji hg hi;rw[e,hu]at h8;rw[vE,qX,hi];exact h8.symm
end
def Cn:∀ {xs ys:List Int},xs.length=ys.length->gu (xs.map (Value.int .i64)) (ys.map (Value.int .i64))=decide (xs=ys)
 |[],[],_=>by simp[gu]
 |x::xs,y::ys,h=>by
  have I:=Cn (xs:=xs) (ys:=ys) (by simpa using h);simp only[map_cons,gu,E8,I,List.cons.injEq];rw[Tx];simp
 |[],_::_,h=>by simp at h
 |_::_,[],h=>by simp at h
def Bj:∀(xs:List Int),fI Kd (xs.map (Value.int .i64)) (replicate xs.length (.at_ (.int .i64)))
 |[]=>trivial
 |_::xs=>⟨⟨_,E⟩,Bj xs⟩
section
open ChangeAt ChangeMaps MapKept
open Go.Maps (Keyed IsMap Tidy)
def LB(v:Value):Option (DataW Value×List MemPlace):=some (.held v,[])
def tq(P:Program)(k:TypeId)(f:Int->Option Value)(n:Nat)(o:Obj):Prop:= ∃es clock,o=.map es clock/\
 ∀(w:World) (b:Nat),w.heap[b]? =some o-> ∃fP:DataW Value,w.ownsMap P k LB b n fP/\ ∀z v,f z=some v-> ∀zd,fP.atKey (.int .i64 z) zd=.held v
section
variable {P:Program}{N:Nat}{l:QF}{w w' w0:World}{B:Nat}{fs:List Nf}{ops:Array Oper}{o:Oper}{rest:List Oper}{Q:Exit->Act->World->Prop}{d:Nat}
def acE{k:TypeId}{f:Int->Option Value}{n b:Nat}{fP:DataW Value}(J:w.ownsMap P k LB b n fP)(M:∀z v,f z=some v-> ∀zd,fP.atKey (.int .i64 z) zd=.held v):∃o,w.heap[b]? =some o/\tq P k f n o:=by
 obtain⟨es,h,O,F,I,Z⟩:=J;exact⟨_,O,es,h,E,λw2 b2 h2=>⟨fP,⟨es,h,h2,F,I,Z⟩,M⟩⟩
def ajb{k:TypeId}:tq P k (λ_=>none) 0 (.map #[] 0):=by
 have h:=World.ownsMap_made default P k LB;obtain⟨o,h1,I⟩:=acE (f:=λ_=>none) h (λz v hv=>by cases hv);have:(World.alloc default (Obj.map #[] 0)).heap[(default:World).heap.size]? =some (.map #[] 0):=by
  show((default:World).heap.push _)[_]? =_
  rw[Lj,aj E]
 rw[this]at h1
 cases h1;exact I
def Nl{t k:TypeId}(S:St B w0 w fs)(hw:QJ N ops l o true)(I:o.dst=some d)(J:blt d N=true)(M:o.op=.makeMap t none)
  (h:∀b w',St B w0 w' (.loc b (tq P k (λ_=>none) 0)::fs)->wL P N ops Q rest ((d,.map (some b))::l) w'):wL P N ops Q (o::rest) l w:=
 Uy hw I J (QY M (run_makeMap t w)) (h _ _ (S.Wi ajb))
def ajc{t:TypeId}{m x y:Operand}{p q r:Value}(h:o.op=.insert t m x y)(I:ev l m=some p)(J:ev l x=some q)(M:ev l y=some r)(O:(Instr.mapUpdate t p q r).run P w=.ok () w'):Eff P N l o w w':=λa F=>by
 unfold execOp;simp[h,F.ev I,F.ev J,F.ev M,O,Result.andThen]
def mP{t k e:TypeId}{m x y:Operand}{b n:Nat}{f:Int->Option Value}{z:Int}{v:Value}(i:Nat)(S:St B w0 w fs)(hw:QJ N ops l o true)(hd:o.dst=none)(ho:o.op=.insert t m x y)(hm:ev l m=some (.map (some b)))(hx:ev l x=some (.int .i64 z))(hy:ev l y=some v)
  (hi:fs[i]? =some (.loc b (tq P k f n))) (hk:P.underlying k=some (.int .i64)) (ht:P.underlying t=some (.map k e)) (hz: -9223372036854775808<=z/\z<=9223372036854775807) (hn:n<maxLen)
  (h:∀w',St B w0 w' (fs.set i (.loc b (tq P k (λy=>if y=z then some v else f y) (n+1))))->wL P N ops Q rest l w'):wL P N ops Q (o::rest) l w:=by
 obtain⟨ob,hb,es,clock,rfl,O⟩:=S.loc i hi;obtain⟨fP,I,hf⟩:=O w b hb;have K:Keyed P k:=Maps.int_keyed hk;have Z:keyOf P k (.int .i64 z)=some (.int .i64 z):=Maps.keyOf_int_mk hk (by simp[Lit.wf,IntKind.min,IntKind.max,IntKind.signed,IntKind.bits];omega);obtain⟨w',hrun,J,htu⟩:=I.store K ht hn Z (d:=.held v) (ps:=[]) E;have hlk:WideAt.IsKeyLit (.int .i64 z):=trivial;have hmap:=I.isMap;obtain⟨o',ho',hR⟩:=acE (f:=λy=>if y=z then some v else f y) J (λy u M zd=>by
  by_cases e:y=z
  ·subst e;rw[aj E]at M
   cases M;exact Maps.atKey_put_same hmap hlk _ _
  rw[ah e]at M;rw[Maps.atKey_put_other (by simpa using e)];exact hf y u M zd)
 have M:xA w b w':=by
  obtain⟨es1,c1,es2,c2,h1,rfl⟩:=htu;exact⟨E,E,E,by simp[setBlock],λj hj=>heap_setBlock_other h1 _ hj⟩
 exact QX hw hd (ajc ho hm hx hy hrun) (h _ (S.Y1 i hi M ho' hR))
def lV{t k e:TypeId}{x y:Operand}{b n:Nat}{f:Int->Option Value}{z:Int}{v u:Value}(i:Nat)(S:St B w0 w fs)(ho:o.op=.lookup t x y false)(hx:ev l x=some (.map (some b)))(hy:ev l y=some (.int .i64 z))
  (hi:fs[i]? =some (.loc b (tq P k f n))) (hk:P.underlying k=some (.int .i64)) (ht:P.underlying t=some (.map k e)) (hu:(zeroValue e).run P w=.ok u w) (hz: -9223372036854775808<=z/\z<=9223372036854775807) (hf:f z=some v):kT P N l o w v:=λa F=>by
 obtain⟨ob,hb,es,O,rfl,h⟩:=S.loc i hi;obtain⟨fP,I,hD⟩:=h w b hb;have K:Keyed P k:=Maps.int_keyed hk;have J:keyOf P k (.int .i64 z)=some (.int .i64 z):=Maps.keyOf_int_mk hk (by simp[Lit.wf,IntKind.min,IntKind.max,IntKind.signed,IntKind.bits];omega);obtain⟨v',ps,M,Z⟩:=I.lookup K ht hu (zd:=.held u) (zp:=[]) E J;rw[hD z v hf]at Z;simp only[LB,Option.some.injEq,Prod.mk.injEq,DataW.held.injEq]at Z;obtain⟨rfl,_⟩:=Z;unfold execOp;simp[ho,F.ev hx,F.ev hy,M,Result.andThen]
end
end
structure Ac where
 kd:Int
 nd:Int
 qu:Int
 at_:Int
 kp:Int
 ek:Int
 ep:Int
 ei:Int
 eb:Int
 eh:Int
 en:Int
def Ac.UA(x:Ac):List Int:=[x.kd,x.nd,x.qu,x.at_,x.kp,x.ek,x.ep,x.ei,x.eb,x.eh,x.en]
def PU(l:List Int):List Value:=l.map (Value.int .i64)
def Ac.cells(x:Ac):List Value:=[D x.kd,D x.nd,D x.qu,D x.at_,D x.kp,D x.ek,D x.ep,D x.ei,D x.eb,D x.eh,D x.en]
def Ac.ajd(x:Ac):x.cells=PU x.UA:=rfl
def Ac.get(x:Ac)(i:Nat):Int:=x.UA.getD i 0
def Ac.cell(x:Ac){i:Nat}(h:i<11):x.cells[i]? =some (D (x.get i)):=by
 rw[Ac.ajd,PU,qX,dJ (by exact h)];have e:x.get i=x.UA[i]'h:=by simp only[Ac.get,getD_eq_getElem?_getD,getElem?_eq_getElem (show i<x.UA.length from h),Option.getD_some];rfl
 rw[e];rfl
def dz(kd ek:Int):Option (List (Nat×Int)):=
 if kd=1 then some [(2,3),(1,4)]else if kd=10 then some [(2,3),(1,4)]else if kd=3 then some [(1,4)]else if kd=9 then some [(1,4)]
 else if kd=8 then some [(1,4),(4,100000)]else if kd=4 then some [(3,1048576)]else if kd=5 then some [(3,1048576)]else if kd=6 then some [(3,1048576)]
 else if kd=7 then some []else if kd=2 then(if ek=1 then some [(1,4),(2,3),(6,3),(7,1073741824),(8,1000000)]else if ek=2 then some [(1,4),(2,3)]
 else if ek=3 then some [(1,4),(2,3),(9,1048576),(10,1073741824)]else none)else none
def kinds(kd ek:Int):kd=1\/kd=10\/kd=3\/kd=9\/kd=8\/kd=4\/kd=5\/kd=6\/kd=7\/(kd=2/\ek=1)\/(kd=2/\ek=2)\/(kd=2/\ek=3)\/dz kd ek=none:=by
 by_cases h1:kd=1
 ·simp[h1]
 by_cases h:kd=10
 ·simp[h]
 by_cases J:kd=3
 ·simp[J]
 by_cases M:kd=9
 ·simp[M]
 by_cases O:kd=8
 ·simp[O]
 by_cases Z:kd=4
 ·simp[Z]
 by_cases h5:kd=5
 ·simp[h5]
 by_cases h6:kd=6
 ·simp[h6]
 by_cases h7:kd=7
 ·simp[h7]
 by_cases I:kd=2
 ·by_cases e1:ek=1
  ·simp[I,e1]
  by_cases e2:ek=2
  ·simp[I,e2]
  by_cases e3:ek=3
  ·simp[I,e3]
  simp[dz,I,e1,e2,e3]
 simp[dz,I,h1,h,J,M,O,Z,h5,h6,h7]
def TL{kd ek:Int}{l:List (Nat×Int)}(h:dz kd ek=some l):∀p∈l,1<=p.1/\p.1<11/\p.1≠5:=by
 rcases kinds kd ek with rfl|rfl|rfl|rfl|rfl|rfl|rfl|rfl|rfl|⟨rfl,rfl⟩|⟨rfl,rfl⟩|⟨rfl,rfl⟩|hn
 all_goals first|(rw[hn]at h;cases h;done)|(simp[dz]at h;subst h;decide)
def aje{kd ek:Int}{l:List (Nat×Int)}(h:dz kd ek=some l):l.length<=5:=by
 rcases kinds kd ek with rfl|rfl|rfl|rfl|rfl|rfl|rfl|rfl|rfl|⟨rfl,rfl⟩|⟨rfl,rfl⟩|⟨rfl,rfl⟩|hn
 all_goals first|(rw[hn]at h;cases h;done)|(simp[dz]at h;subst h;decide)
def Rb(x:Ac)(p:Nat×Int):Bool:=decide (0<=x.get p.1/\x.get p.1<=p.2)
def Co(c:List Int)(l:List (Nat×Int)):List Int:=l.foldl (λc p=>c.set p.1 0) c
def fin(x:Ac)(l:List (Nat×Int)):List Int:=(if x.kd=2 then(Co x.UA l).set 5 0 else Co x.UA l).set 0 0
def Vy:List Int:=[0,0,0,0,0,0,0,0,0,0,0]
def dK(x:Ac):Int:=match dz x.kd x.ek with
 |none=>3
 |some l=>if l.all (Rb x)=true then(if fin x l=Vy then 0 else 3)else 2
def keep(x:Ac):Ac:=
 if x.kd=1 then⟨x.kd,x.nd,x.qu,0,0,0,0,0,0,0,0⟩else if x.kd=10 then⟨x.kd,x.nd,x.qu,0,0,0,0,0,0,0,0⟩else if x.kd=3 then⟨x.kd,x.nd,0,0,0,0,0,0,0,0,0⟩else if x.kd=9 then⟨x.kd,x.nd,0,0,0,0,0,0,0,0,0⟩
 else if x.kd=8 then⟨x.kd,x.nd,0,0,x.kp,0,0,0,0,0,0⟩else if x.kd=4 then⟨x.kd,0,0,x.at_,0,0,0,0,0,0,0⟩else if x.kd=5 then⟨x.kd,0,0,x.at_,0,0,0,0,0,0,0⟩else if x.kd=6 then⟨x.kd,0,0,x.at_,0,0,0,0,0,0,0⟩
 else if x.kd=7 then⟨x.kd,0,0,0,0,0,0,0,0,0,0⟩else if x.ek=1 then⟨x.kd,x.nd,x.qu,0,0,x.ek,x.ep,x.ei,x.eb,0,0⟩else if x.ek=2 then⟨x.kd,x.nd,x.qu,0,0,x.ek,0,0,0,0,0⟩else⟨x.kd,x.nd,x.qu,0,0,x.ek,0,0,0,x.eh,x.en⟩
def ajf{x:Ac}{l:List (Nat×Int)}(h:dz x.kd x.ek=some l):x.UA=(keep x).UA↔fin x l=Vy:=by
 obtain⟨kd,nd,qu,at_,kp,ek,ep,ei,eb,eh,en⟩:=x
 rcases kinds kd ek with rfl|rfl|rfl|rfl|rfl|rfl|rfl|rfl|rfl|⟨rfl,rfl⟩|⟨rfl,rfl⟩|⟨rfl,rfl⟩|hn
 all_goals first|(dsimp only at h;rw[hn]at h;cases h)|(simp[dz]at h;subst h;simp[Ac.UA,keep,fin,Co,Vy];try omega)
def anO{x y:Ac}(h:x.UA=y.UA):x=y:=by
 obtain⟨a1,a2,a3,a4,a5,a6,a7,a8,a9,a10,a11⟩:=x;obtain⟨b1,b2,b3,b4,b5,b6,b7,M,O,I,J⟩:=y;simpa[Ac.UA]using h
section
variable {x:Ac}{l:List (Nat×Int)}
def acF(h:dz x.kd x.ek=none):dK x=3:=by unfold dK;rw[h]
def Nn(h:dz x.kd x.ek=some l)(I:¬l.all (Rb x)=true):dK x=2:=by unfold dK;rw[h];exact ah I
def TM(h:dz x.kd x.ek=some l)(I:l.all (Rb x)=true)(J:¬fin x l=Vy):dK x=3:=by unfold dK;rw[h];simp only[if_pos I,if_neg J]
def apZ(h:dz x.kd x.ek=some l)(I:l.all (Rb x)=true)(J:fin x l=Vy):dK x=0:=by unfold dK;rw[h];simp only[if_pos I,if_pos J]
def ajg{k:Nat}{p:Nat×Int}(h:l[k]? =some p)(I:(l.take k).all (Rb x)=true)(J:0<=x.get p.1/\x.get p.1<=p.2):(l.take (k+1)).all (Rb x)=true:=by
 rw[mQ,h,all_append,I];simp[Rb,J]
def acG{k:Nat}{p:Nat×Int}(h:l[k]? =some p)(I:¬(0<=x.get p.1/\x.get p.1<=p.2)):¬l.all (Rb x)=true:=λJ=>by
 have:=all_eq_true.1 J p (jm h);simp only[Rb,decide_eq_true_eq]at this;exact I this
def ajh{c:List Int}{k:Nat}{p:Nat×Int}(h:l[k]? =some p):(Co c (l.take k)).set p.1 0=Co c (l.take (k+1)):=by
 unfold Co;rw[mQ,h,pR];rfl
def Bl(c:List Int):∀(l:List (Nat×Int)),(Co c l).length=c.length
 |[]=>rfl
 |p::l=>by
  show(Co (c.set p.1 0) l).length=_
  rw[Bl _ l,length_set]
def Ws:∀(l:List (Nat×Int)) (c:List Int),(∀p∈l,1<=p.1)->(Co c l)[0]? =c[0]?
 |[],_,_=>rfl
 |p::l,c,h=>by
  show(Co (c.set p.1 0) l)[0]? =_
  rw[Ws l _ λq I=>h q (dZ _ I),Ll (by have:=h p (iT ..);omega)]
end
def sG(c:List Int):Array Value:=(PU c).toArray
def pX{c:List Int}(h:c.length=11):(sG c).size=11:=by simp[sG,PU,h]
def aes{c:List Int}{i:Nat}{v:Int}(h:c[i]? =some v):(sG c)[i]? =some (D v):=by simp[sG,PU,h]
def Em{c:List Int}{i:Nat}:(sG c).setIfInBounds i (D 0)=sG (c.set i 0):=by
 apply Bc.1;simp[sG,PU,Array.toList_setIfInBounds,map_set]
def anP:flat prog 30 55=some (replicate 11 (.at_ (.int .i64))):=kQ
def anQ:Lp prog 30 55=true:=kQ
def aul(xs:List Value):mkV prog 55 xs=.agg xs.toArray:=by
 unfold mkV;rw[Tryz.underlying55]
def ahN{a b:List Int}(I:a.length=11)(J:b.length=11)(w:World):(binOp .neq 55 (.agg (sG a)) (.agg (sG b))).run prog w=.ok (.bool (!decide (a=b))) w:=by
 have M:=Bj a;have O:=Bj b;rw[I]at M;rw[J]at O;have h:=zJ (P:=prog) w anP anQ aul M O;rw[Cn (by rw[I,J])]at h;exact h
abbrev oZ:Array Value:= #[D 0,.bool false,.bool false,.bool false,.bool false,.bool false,D 0,D 0,D 0,D 0,D 0,D 0,D 0,D 0,.slice none 0 0,.slice none 0 0,.slice none 0 0,D 0]
abbrev aR (a:Ac):Array Value:= #[D a.kd,D a.nd,D a.qu,D a.at_,D a.kp,D a.ek,D a.ep,D a.ei,D a.eb,D a.eh,D a.en]
section
variable {P:Program}{N:Nat}{l:QF}{w:World}{fn:Func}{R:Ending->World->Prop}{p:Prop}[Decidable p]
def ru(h:R (.returned (tX [])) w)(I:fn.results=([]:List ResultVar).toArray:=by exact E):wQ N (bodyPost P fn R) .normal l w:=QW (rs:=[]) (vs:=[]) I trivial h
def reT(h:p):Ending.returned (.bool true)=.returned (.bool (decide p)):=by rw[jU h]
def CF(h:¬p):Ending.returned (.bool false)=.returned (.bool (decide p)):=by rw[jc h]
end
section
open Go.RowKit
def CG(n:Int):List UInt8:=[UInt8.ofNat (n / 16777216).toNat,UInt8.ofNat (n / 65536 % 256).toNat,UInt8.ofNat (n / 256 % 256).toNat,UInt8.ofNat (n % 256).toNat]
def aew{n:Int}(I:0<=n)(h1:n<=2147483647):
 JV (CG n)=[.int .u8 (n / 16777216),.int .u8 (n / 65536 % 256),.int .u8 (n / 256 % 256),.int .u8 (n % 256)]:=by
 have h:∀m:Int,0<=m->m<=255->((UInt8.ofNat m.toNat).toNat:Int)=m:=by
  intro m a b;simp;omega
 simp only[JV,CG,map_cons,map_nil];rw[h _ Y Y,h _ Y Y,h _ Y Y,h _ Y Y]
def uI(n:Int):List UInt8×Int:=if 0<=n/\n<=2147483647 then(CG n,0)else([],2)
def qy(w:World)(r:List UInt8×Int)(e:Ending)(w':World):Prop:=
 ∃A c,e=.returned (.tuple #[.slice A r.1.length c,.int .i64 r.2])/\Below w.heap.size w w'/\Rd w' w'.heap.size 1 A r.1.length (JV r.1)
def qy.UZ(w:World)(k:Int):qy w ([],k) (.returned (.tuple #[.slice none 0 0,.int .i64 k])) w:=
 ⟨none,0,E,Below.refl _ _,Rd.UZ⟩
def qy.four(w:World)(n:Int)(h0:0<=n)(h1:n<=2147483647)(t:TypeId):
 qy w (CG n,0) (.returned (.tuple #[.slice (some ⟨w.heap.size,0,none⟩) 4 4,.int .i64 0])) (w.alloc (.cells #[.int .u8 (n / 16777216),.int .u8 (n / 65536 % 256),.int .u8 (n / 256 % 256),.int .u8 (n % 256)] t)):=by
 refine⟨_,4,E,by go_grown,?_⟩;have:=Rd.ale w t (JV (CG n)) 4 1 (by simp[JV,CG]);rw[aew h0 h1]at this⊢;have e4:(CG n).length=4:=rfl;simpa[e4]using this
def afm(n:Int)(w:World):Calls prog 111 #[.int .i64 n] w (qy w (uI n)):=by
 by_cases h:0<=n/\n<=2147483647
 ·have hm:uI n=(CG n,0):=aj h;rw[hm];clear hm;obtain⟨h0,h1⟩:=h
  go_enter func111,Tryz.ntmps111
  go_wp2
  go_ret2
  exact qy.four w n h0 h1 _
 have hm:uI n=([],2):=ah h;rw[hm];clear hm;by_cases h0:n<0
 ·clear h
  go_enter func111,Tryz.ntmps111
  go_wp2
  go_ret2
  exact qy.UZ w 2
 have h1:2147483647<n:=Y;clear h
 go_enter func111,Tryz.ntmps111
 go_wp2
 go_ret2
 exact qy.UZ w 2
end
structure Pl where
 node:Int
 Pf:Int
 deriving DecidableEq
structure UE where
 p0:Pl
 p1:Pl
 p2:Pl
 p3:Pl
 deriving DecidableEq
def UE.cells(d:UE):List Value:=[.int .i64 d.p0.node,.int .i64 d.p0.Pf,.int .i64 d.p1.node,.int .i64 d.p1.Pf,.int .i64 d.p2.node,.int .i64 d.p2.Pf,.int .i64 d.p3.node,.int .i64 d.p3.Pf]
def UE.val(d:UE):Value:=.agg #[.int .i64 d.p0.node,.int .i64 d.p0.Pf,.int .i64 d.p1.node,.int .i64 d.p1.Pf,.int .i64 d.p2.node,.int .i64 d.p2.Pf,.int .i64 d.p3.node,.int .i64 d.p3.Pf]
def UE.at(d:UE):Nat->Pl
 | 0=>d.p0
 | 1=>d.p1
 | 2=>d.p2
 |_=>d.p3
def UE.set(d:UE)(k:Nat)(p:Pl):UE:=
 match k with
 | 0=>{d with p0:=p}
 | 1=>{d with p1:=p}
 | 2=>{d with p2:=p}
 |_=>{d with p3:=p}
def pY:Pl:=⟨0,0⟩
def nowhere:Pl:=⟨-1,0⟩
def mR:UE:=⟨pY,pY,pY,pY⟩
def Av(p:Pl):Prop:=(p.node= -1/\p.Pf=0)\/(0<=p.node/\p.node<=4/\1<=p.Pf/\p.Pf<=1048576)
open Classical in
noncomputable def iD(d:UE):Int:=if ∀k,k<4->Av (d.at k)then 0 else 6
def afM{d:UE}{k:Nat}(I:k<4)(h:¬Av (d.at k)):iD d=6:=ah (λJ=>h (J k I))
def zo{d:UE}(h:∀k,k<4->Av (d.at k)):iD d=0:=aj h
def ac6{d:UE}(h:iD d=0):∀k,k<4->Av (d.at k):=by
 unfold iD at h
 split at h
 ·assumption
 cases h
def Oq(a b:Pl):gu [.int .i64 a.node,.int .i64 a.Pf] [.int .i64 b.node,.int .i64 b.Pf]=decide (a=b):=by
 have:=Cn (xs:=[a.node,a.Pf]) (ys:=[b.node,b.Pf]) E;simp only[map_cons,map_nil]at this;rw[this,Tx];obtain⟨a1,a2⟩:=a;obtain⟨b1,b2⟩:=b;simp
def acH:flat prog 30 29=some (replicate 2 (.at_ (.int .i64))):=kQ
def acI:Lp prog 30 29=true:=kQ
def ahO(xs:List Value):mkV prog 29 xs=.agg xs.toArray:=by
 unfold mkV;rw[Tryz.underlying29]
def Ot(a b:Pl)(w:World):(binOp .eql 29 (.agg #[.int .i64 a.node,.int .i64 a.Pf]) (.agg #[.int .i64 b.node,.int .i64 b.Pf])).run prog w=.ok (.bool (decide (a=b))) w:=by
 rw[<-Oq];exact FV (P:=prog) w acH acI ahO (Bj [a.node,a.Pf]) (Bj [b.node,b.Pf])
def aaS(a b:Pl)(w:World):(binOp .neq 29 (.agg #[.int .i64 a.node,.int .i64 a.Pf]) (.agg #[.int .i64 b.node,.int .i64 b.Pf])).run prog w=.ok (.bool (!decide (a=b))) w:=by
 rw[<-Oq];exact zJ (P:=prog) w acH acI ahO (Bj [a.node,a.Pf]) (Bj [b.node,b.Pf])
def aex(n0 h n1 I J M O Z:Int)(w:World):(Instr.index 30 (.agg #[.int .i64 n0,.int .i64 h,.int .i64 n1,.int .i64 I,.int .i64 J,.int .i64 M,.int .i64 O,.int .i64 Z]) (.int .i64 0)).run prog w=.ok (.agg #[.int .i64 n0,.int .i64 h]) w:=kQ
def aey(n0 I n1 h J M O Z:Int)(w:World):(Instr.index 30 (.agg #[.int .i64 n0,.int .i64 I,.int .i64 n1,.int .i64 h,.int .i64 J,.int .i64 M,.int .i64 O,.int .i64 Z]) (.int .i64 1)).run prog w=.ok (.agg #[.int .i64 n1,.int .i64 h]) w:=kQ
def aez(n0 J n1 M h I O Z:Int)(w:World):(Instr.index 30 (.agg #[.int .i64 n0,.int .i64 J,.int .i64 n1,.int .i64 M,.int .i64 h,.int .i64 I,.int .i64 O,.int .i64 Z]) (.int .i64 2)).run prog w=.ok (.agg #[.int .i64 h,.int .i64 I]) w:=kQ
def aeA(n0 J n1 M O Z h I:Int)(w:World):(Instr.index 30 (.agg #[.int .i64 n0,.int .i64 J,.int .i64 n1,.int .i64 M,.int .i64 O,.int .i64 Z,.int .i64 h,.int .i64 I]) (.int .i64 3)).run prog w=.ok (.agg #[.int .i64 h,.int .i64 I]) w:=kQ
def aji(d:UE)(k:Nat)(I:k<4)(w:World):(Instr.index 30 (.agg #[.int .i64 d.p0.node,.int .i64 d.p0.Pf,.int .i64 d.p1.node,.int .i64 d.p1.Pf,.int .i64 d.p2.node,.int .i64 d.p2.Pf,.int .i64 d.p3.node,.int .i64 d.p3.Pf]) (.int .i64 k)).run prog w=.ok (.agg #[.int .i64 (d.at k).node,.int .i64 (d.at k).Pf]) w:=by
 have h:k=0\/k=1\/k=2\/k=3:=Y
 rcases h with rfl|rfl|rfl|rfl
 ·exact aex _ _ _ _ _ _ _ _ w
 ·exact aey _ _ _ _ _ _ _ _ w
 ·exact aez _ _ _ _ _ _ _ _ w
 exact aeA _ _ _ _ _ _ _ _ w
structure Nw (w:World):Prop where
 c0:w.cell? ⟨0,0,none⟩=some (.int .i64 (-1))
 c1:w.cell? ⟨0,1,none⟩=some (.int .i64 0)
 lt:0<w.heap.size
def Nw.on{w w':World}(h:Nw w)(I:Below w.heap.size w w'):Nw w':=
 ⟨(I.cell (p:=⟨0,0,none⟩) h.lt).trans h.c0,(I.cell (p:=⟨0,1,none⟩) h.lt).trans h.c1,TG h.lt I.size⟩
def azV(w:World)(k:Int)(e:Ending)(w':World):Prop:=e=.returned (.int .i64 k)/\Below w.heap.size w w'
def ahP(w:World)(r:Pl×Int)(e:Ending)(w':World):Prop:=e=.returned (.tuple #[.agg #[.int .i64 r.1.node,.int .i64 r.1.Pf],.int .i64 r.2])/\Below w.heap.size w w'
def acJ(w:World)(r:UE×Int)(e:Ending)(w':World):Prop:=e=.returned (.tuple #[r.1.val,.int .i64 r.2])/\Below w.heap.size w w'
def afN(d:UE)(w:World)(hn:Nw w):Calls prog 75 #[d.val] w (azV w (iD d)):=by
 have HN:=Lib.hid hn;have HI:=Lib.hid (aji d);have HF:=Lib.hid (λk hk h=>afM (d:=d) (k:=k) hk h);have H0:=Lib.hid (zo (d:=d));clear hn;generalize iD d=z at HF H0⊢;have hat:=Lib.hid (E:d.at=d.at);generalize d.at=f at HI HF H0 hat;clear hat;obtain⟨⟨n0,e0⟩,⟨n1,e1⟩,⟨n2,e2⟩,⟨n3,e3⟩⟩:=d;unfold UE.val;simp only at HI⊢
 go_enter func75,ntmps75
 go_wp2_with fail
 go_loopw [7] (λi wr=> ∃k:Nat,k<=4/\i=.int .i64 k/\(∀j,j<k->Av (f j))/\Below w.heap.size w wr) (λi _=>4-(intOf i).toNat)
 case atStart=>exact⟨0,by omega,E,λj hj=>av hj Y,by go_grown⟩
 case round=>
  obtain⟨k,hk,rfl,hall,hb⟩:=hrel;have hsz:w.heap.size<=wr.heap.size:=hb.size;have HB:=Lib.hid hb;have HA:=Lib.hid hall;by_cases hlt:k<4
  ·have hi:=HI.out k hlt;have UJ:=Lib.hid (HF.out k hlt);have HQ:Hid (Av (f k)-> ∀j,j<k+1->Av (f j)):=Lib.hid (λh j hj=>by
    by_cases e:j=k
    ·rw[e];exact h
    exact HA.out j Y)
   obtain⟨g0,g1,g2⟩:=HN.out.on hb;generalize f k=p at hi UJ HQ;have hq:=Ot p nowhere;unfold nowhere at hq;simp only at hq;clear hall;by_cases hp:p=⟨-1,0⟩
   ·have HG:=Lib.hid (HQ.out (by rw[hp];exact .inl ⟨E,E⟩));have hd:decide (p=⟨-1,0⟩)=true:=by simpa using hp
    rw[hd]at hq;clear hp hd;obtain⟨pn,pe⟩:=p;simp only at hi hq
    go_wp2_with fail
    go_roundw
    case rel=>exact⟨k+1,by omega,by go_num,HG.out,by go_grown⟩
    case measure=>simp[intOf];omega
   have hd:decide (p=⟨-1,0⟩)=false:=by simpa using hp
   rw[hd]at hq;clear hd;obtain⟨pn,pe⟩:=p;simp only[Pl.mk.injEq]at hi hq hp;have HP:=Lib.hid hp;clear hp;by_cases b1:pn<0
   ·have hp:=HP.out;have e:=UJ.out (by unfold Av;simp only;omega);subst e
    go_wp2_with fail
    go_ret
    exact⟨E,by go_grown⟩
   by_cases b2:5<=pn
   ·have e:=UJ.out (by unfold Av;simp only;omega);subst e
    go_wp2_with fail
    go_ret
    exact⟨E,by go_grown⟩
   by_cases b3:pe<1
   ·have e:=UJ.out (by unfold Av;simp only;omega);subst e
    go_wp2_with fail
    go_ret
    exact⟨E,by go_grown⟩
   by_cases b4:1048576<pe
   ·have e:=UJ.out (by unfold Av;simp only;omega);subst e
    go_wp2_with fail
    go_ret
    exact⟨E,by go_grown⟩
   have HG:=Lib.hid (HQ.out (by unfold Av;simp only;omega))
   go_wp2_with fail
   go_roundw
   case rel=>exact⟨k+1,by omega,by go_num,HG.out,by go_grown⟩
   case measure=>simp[intOf];omega
  obtain rfl:k=4:=Y;have e:=H0.out HA.out;subst e;clear hall
  go_wp2_with fail
  go_ret
  exact⟨E,by go_grown⟩
noncomputable def uM(d:UE)(q:Int):Pl×Int:=if iD d≠0 then(pY,iD d)else if q<0\/3<q then(pY,2)else(d.at q.toNat,0)
noncomputable def aN(d:UE)(q:Int):Pl×Int:=if (uM d q).2=0/\(uM d q).1=nowhere then(pY,7)else uM d q
def Ou{d:UE}{q:Int}(h:iD d≠0):uM d q=(pY,iD d):=aj h
def Ov{d:UE}{q:Int}(h:iD d=0)(I:q<0\/3<q):uM d q=(pY,2):=by
 unfold uM;rw[ah Y,aj I]
def TN{d:UE}{q:Int}(h:iD d=0)(I:¬(q<0\/3<q)):uM d q=(d.at q.toNat,0):=by
 unfold uM;rw[ah Y,ah I]
def afQ{d:UE}{q:Int}(h:iD d≠0):aN d q=(pY,iD d):=by
 unfold aN;rw[Ou h,ah (λI=>h I.1)]
def afR{d:UE}{q:Int}(h:iD d=0)(I:q<0\/3<q):aN d q=(pY,2):=by
 unfold aN;rw[Ov h I,ah (λJ=>by cases J.1)]
def X4{d:UE}{q:Int}(h:iD d=0)(I:¬(q<0\/3<q))(hn:d.at q.toNat=nowhere):aN d q=(pY,7):=by
 unfold aN;rw[TN h I,aj ⟨E,hn⟩]
def Ee{d:UE}{q:Int}(h:iD d=0)(I:¬(q<0\/3<q))(hn:d.at q.toNat≠nowhere):aN d q=(d.at q.toNat,0):=by
 unfold aN;rw[TN h I,ah (λJ=>hn J.2)]
def Rc(d:UE)(q:Int)(w:World)(hn:Nw w):Calls prog 55 #[d.val,.int .i64 q] w (ahP w (uM d q)):=by
 have HN:=Lib.hid hn;have HC:=Lib.hid (λw h=>afN d w h);have HR0:Hid (∀r,r=uM d q->r=if iD d≠0 then(pY,iD d)else if q<0\/3<q then(pY,2)else(d.at q.toNat,0)):=Lib.hid (λr h=>h);generalize hr:uM d q=r;have HR:=Lib.hid (HR0.out r hr.symm);clear hn hr HR0;generalize iD d=z at HC HR;obtain⟨⟨n0,e0⟩,⟨n1,e1⟩,⟨n2,e2⟩,⟨n3,e3⟩⟩:=d;unfold UE.val at*;simp only at HC⊢
 go_enter func55,Tryz.ntmps55
 go_wp2_with fail
 refine(HC.out _ (HN.out.on gQ)).mono ?_;rintro e w1 ⟨rfl,hb1⟩;have B0:=((iq.new w _ _).alloc _).below hb1 jQ;have B1:=(iq.new1 w _ _ _).below hb1 iQ;obtain⟨c0,c1,c2,c3,c4,c5,c6,c7,cf⟩:=B0.E5;obtain⟨r0,r1,rf⟩:=B1.yK;have hz0:w.heap.size<w1.heap.size:=B0.lt;have hz1:w.heap.size+1<w1.heap.size:=B1.lt;have HB:Hid (Below w.heap.size w w1):=Lib.hid (Below.trans gQ (hb1.mono jQ));clear hb1;by_cases hz:z=0
 ·subst hz;by_cases q0:q<0
  ·have e:=HR.out;rw[ah Y,aj Y]at e;subst e
   go_wp2_with fail
   refine bodyPost_ret (v:=.tuple #[.agg #[.int .i64 0,.int .i64 0],.int .i64 2]) (by simp[results,Tryz.results55,go_sem,r0,r1]) E ?_;have hB:=HB.out;exact⟨E,by go_grown⟩
  by_cases q4:4<=q
  ·have e:=HR.out;rw[ah Y,aj Y]at e;subst e
   go_wp2_with fail
   refine bodyPost_ret (v:=.tuple #[.agg #[.int .i64 0,.int .i64 0],.int .i64 2]) (by simp[results,Tryz.results55,go_sem,r0,r1]) E ?_;have hB:=HB.out;exact⟨E,by go_grown⟩
  rcases(show q=0\/q=1\/q=2\/q=3 by omega)with rfl|rfl|rfl|rfl
  ·have e:=HR.out;rw[ah Y,ah Y]at e;subst e
   go_wp2_with fail
   refine bodyPost_ret (v:=.tuple #[.agg #[.int .i64 n0,.int .i64 e0],.int .i64 0]) (by simp[results,Tryz.results55,go_sem,r0,r1]) E ?_;have hB:=HB.out;exact⟨E,by go_grown⟩
  ·have e:=HR.out;rw[ah Y,ah Y]at e;subst e
   go_wp2_with fail
   refine bodyPost_ret (v:=.tuple #[.agg #[.int .i64 n1,.int .i64 e1],.int .i64 0]) (by simp[results,Tryz.results55,go_sem,r0,r1]) E ?_;have hB:=HB.out;exact⟨E,by go_grown⟩
  ·have e:=HR.out;rw[ah Y,ah Y]at e;subst e
   go_wp2_with fail
   refine bodyPost_ret (v:=.tuple #[.agg #[.int .i64 n2,.int .i64 e2],.int .i64 0]) (by simp[results,Tryz.results55,go_sem,r0,r1]) E ?_;have hB:=HB.out;exact⟨E,by go_grown⟩
  have e:=HR.out;rw[ah Y,ah Y]at e;subst e
  go_wp2_with fail
  refine bodyPost_ret (v:=.tuple #[.agg #[.int .i64 n3,.int .i64 e3],.int .i64 0]) (by simp[results,Tryz.results55,go_sem,r0,r1]) E ?_;have hB:=HB.out;exact⟨E,by go_grown⟩
 have e:=HR.out;rw[aj hz]at e;subst e
 go_wp2_with fail
 refine bodyPost_ret (v:=.tuple #[.agg #[.int .i64 0,.int .i64 0],.int .i64 z]) (by simp[results,Tryz.results55,go_sem,r0,r1]) E ?_;have hB:=HB.out;exact⟨E,by go_grown⟩
def aeB{d:UE}{q:Int}(h:(uM d q).2=0):0<=q/\q<=3:=by
 by_cases I:iD d=0
 ·by_cases J:q<0\/3<q
  ·rw[Ov I J]at h
   cases h
  exact⟨by omega,by omega⟩
 rw[Ou I]at h;exact av h I
noncomputable def vF(d:UE)(q node:Int):UE×Int:=
 if (uM d q).2≠0 then(mR,(uM d q).2)else if node<0\/4<node then(mR,2)else if (uM d q).1≠nowhere then(mR,8)else(d.set q.toNat ⟨node,1⟩,0)
def KD{d:UE}{q:Int}(h:(aN d q).2=0):0<=q/\q<=3/\(aN d q).1=d.at q.toNat/\(aN d q).1≠nowhere/\Av (aN d q).1:=by
 by_cases I:iD d=0
 ·by_cases J:q<0\/3<q
  ·rw[afR I J]at h
   cases h
  by_cases hn:d.at q.toNat=nowhere
  ·rw[X4 I J hn]at h
   cases h
  rw[Ee I J hn];exact⟨by omega,by omega,E,hn,ac6 I _ Y⟩
 rw[afQ I]at h;exact av h I
noncomputable def za(d:UE)(q Pf node:Int):UE×Int:=
 if (aN d q).2≠0 then(mR,(aN d q).2)else if node<0\/4<node then(mR,2)else if (aN d q).1.Pf≠Pf then(mR,15)
 else if (aN d q).1.node=node then(mR,8)else if Pf=1048576 then(mR,14)else(d.set q.toNat ⟨node,Pf+1⟩,0)
def qm(d:UE)(q:Int)(w:World)(hn:Nw w):Calls prog 45 #[d.val,D q] w (ahP w (aN d q)):=by
 have HN:=Lib.hid hn;have HC:=Lib.hid (λw h=>Rc d q w h);have HR:Hid (aN d q=if (uM d q).2=0/\(uM d q).1=nowhere then(pY,7)else uM d q):=Lib.hid E;clear hn;generalize aN d q=r at*;generalize uM d q=a at*;obtain⟨⟨pn,pe⟩,z⟩:=a;have hq:=Ot ⟨pn,pe⟩ nowhere;unfold nowhere at hq;simp only at hq;obtain⟨⟨n0,e0⟩,⟨n1,e1⟩,⟨n2,e2⟩,⟨n3,e3⟩⟩:=d;unfold UE.val at*;simp only at HC HR⊢
 go_enter func45,Tryz.ntmps45
 go_wp2_with fail
 refine(HC.out _ (HN.out.on gQ)).mono ?_;rintro e w1 ⟨rfl,hb1⟩;have B1:=(iq.new1 w _ _ _).below hb1 iQ;obtain⟨r0,r1,rf⟩:=B1.yK;have hz1:w.heap.size+1<w1.heap.size:=B1.lt;have HB:Hid (Below w.heap.size w w1):=Lib.hid (Below.trans gQ (hb1.mono jQ));obtain⟨g0,g1,g2⟩:=HN.out.on HB.out;clear hb1;by_cases hz:z=0
 ·by_cases hp:(⟨pn,pe⟩:Pl)=nowhere
  ·have e:=HR.out;rw[aj ⟨hz,hp⟩]at e;subst e;subst hz;have hd:decide ((⟨pn,pe⟩:Pl)=⟨-1,0⟩)=true:=by simpa[nowhere]using hp
   rw[hd]at hq;clear hp hd
   go_wp2_with fail
   refine bodyPost_ret (v:=.tuple #[.agg #[D 0,D 0],D 7]) (by simp[results,Tryz.results45,go_sem,World.cell?_alloc_lt,hz1,r0,r1]) E ?_;have hB:=HB.out;exact⟨E,by go_grown⟩
  have e:=HR.out;rw[ah (λh=>hp h.2)]at e;subst e;subst hz;have hd:decide ((⟨pn,pe⟩:Pl)=⟨-1,0⟩)=false:=by simpa[nowhere]using hp
  rw[hd]at hq;clear hp hd
  go_wp2_with fail
  refine bodyPost_ret (v:=.tuple #[.agg #[D pn,D pe],D 0]) (by simp[results,Tryz.results45,go_sem,World.cell?_alloc_lt,hz1,r0,r1]) E ?_;have hB:=HB.out;exact⟨E,by go_grown⟩
 have e:=HR.out;rw[ah (λh=>hz h.1)]at e;subst e;have hz':(z==0)=false:=by simpa using hz
 clear hq
 go_wp2_with fail
 refine bodyPost_ret (v:=.tuple #[.agg #[D pn,D pe],D z]) (by simp[results,Tryz.results45,go_sem,World.cell?_alloc_lt,hz1,r0,r1]) E ?_;have hB:=HB.out;exact⟨E,by go_grown⟩
section
open ChangeAt
def anR:ownKnob prog.godebug=none:=kQ
def ajj:prog.globalNamed "berthshift/directory.nowhere" =some 0:=kQ
def afU:(prog.globals[0]?).map (·.type)=some 29:=kQ
def lt_of_cell{w:World}{p:Addr}{u:Value}(h:w.cell? p=some u):p.block<w.heap.size:=by
 rcases qU p.block w.heap.size with h1|h1
 ·exact h1
 have I:w.heap[p.block]? =none:=Li h1;simp[World.cell?,I]at h
section
variable {H:Type}{enc:TypeId×Value->H}{P:Program}
def acT{f:FuncId}{fn:Func}{s:ChangeSpec}{bt:TypeId}(J:ab4 P fn.params.toList=true)(I:s.vars=[])(hres:fn.resultTypes= #[bt])(hbt:P.underlying bt=some .bool)
  (hs:∀ds:List (DataW H),ds.length=fn.params.toList.length->s.fn H ds={results:=[.lit (.bool true)],args:=ds})
  (W:World) (base:Nat) (args:Array Value) (ds gs:List (DataW H)) (M:List MemPlace)
  (walk:fI (Uw P W) args.toList fn.params.toList->Calls P f args W λe W'=>e=.returned (.bool true)/\Below W.heap.size W W')
  (hval:∀(j:Nat) t v,fn.params[j]? =some t->args[j]? =some v->Value.okWide P W .any base t v)
  (hW:DataW.Whole enc P fn.params.toList s.vars false W args.toList ds gs M)
  (hz:(DataW.weightsEach P (fn.params.toList++s.plain.varTypes P) (ds++gs)).all (· <=reachBytes)=true):
  Calls P f args W λe W'=> ∃v,e=.returned v/\s.post enc P fn false true false false W args v W':=by
 simp only[ab4,Bool.and_eq_true,all_eq_true,decide_eq_true_eq]at J;obtain⟨hl,J⟩:=J;have hW':=hW;have hlt:=hW.lt;obtain⟨p,q,hA,hV,rfl,_,_⟩:=hW;rw[I]at hV;have hg:gs=[]/\q=[]:=by
  cases gs with
  |nil=>exact⟨E,hV⟩
  |cons g gs=>exact hV.elim
 obtain⟨rfl,rfl⟩:=hg;have hvt:s.plain.varTypes P=[]:=by unfold DataSpec.varTypes ChangeSpec.plain;simp[I]
 rw[hvt,bI,bI]at hz;have hzz:∀b∈DataW.weightsEach P fn.params.toList ds,b<=reachBytes:=λb hb=>by simpa using all_eq_true.1 hz b hb
 have O:=ab3 hA (λj t v h1 h2=>hval j t v (by simpa using h1) (by simpa using h2)) (λt ht=>(J t ht).1.1) hzz (λx hx=>hlt x (bD.2 (.inl hx)));have hlen:ds.length=fn.params.toList.length:=by
  have:∀ {ts:List TypeId} {vs:List Value} {ds:List (DataW H)} {ps:List MemPlace},DataW.TrodAll enc P W 0 (λ_=>true) true ts vs ds ps->ds.length=ts.length:=by
   intro ts
   induction ts with
   |nil=>intro vs ds ps h;obtain⟨_,rfl,_⟩:=trodAll_nil h;rfl
   |cons t ts ih=>
    intro vs ds ps h;obtain⟨v,vs',d,ds',p,q,rfl,rfl,rfl,h0,h1⟩:=trodAll_cons h;simp[ih h1]
  exact this hA
 refine(walk O).mono λe W' ⟨he,hb⟩=>?_;have Z:=hs (ds++[]) (by simpa using hlen);refine⟨_,he,ds,[],p++[],[],p,[],hW',?_,?_,?_,hb.frame _,λh=>by cases h⟩
 ·rw[Z,hres];exact trodAll_mk1 (shut_bool hbt true)
 ·rw[Z];simp only[append_nil];exact FU hl hb hA (λt ht=>⟨(J t ht).1.2,(J t ht).2⟩) (λx hx=>hlt x (bD.2 (.inl hx)))
 rw[Z,I];simp[DataW.TrodVars]
end
end
def ajk(w:World)(e:Ending)(w':World):Prop:=e=.returned (.agg #[.int .i64 (-1),.int .i64 0,.int .i64 (-1),.int .i64 0,.int .i64 (-1),.int .i64 0,.int .i64 (-1),.int .i64 0])/\Below w.heap.size w w'
def PV:Nat->Array Value
 | 0=> #[.int .i64 0,.int .i64 0,.int .i64 0,.int .i64 0,.int .i64 0,.int .i64 0,.int .i64 0,.int .i64 0]
 |k+1=>((PV k).setIfInBounds (k*2) (.int .i64 (-1))).setIfInBounds (k*2+1) (.int .i64 0)
def aaT(k:Nat):(PV k).size=8:=by
 induction k with
 |zero=>rfl
 |succ k h=>simp[PV,h]
def Rf(k j:Nat)(h:j<8):∃u,(PV k)[j]? =some u:=⟨_,yL (by rw[aaT];exact h)⟩
def aaU(w:World)(hn:Nw w):Calls prog 23 #[] w (ajk w):=by
 have HN:=Lib.hid hn;clear hn
 go_enter func23,Tryz.ntmps23
 go_wp2_with fail
 go_loopw [3] (λi wr=> ∃k:Nat,k<=4/\i=.int .i64 k/\iq wr w.heap.size #[.int .i64 0,.int .i64 0,.int .i64 0,.int .i64 0,.int .i64 0,.int .i64 0,.int .i64 0,.int .i64 0] 32/\iq wr (w.heap.size+1) (PV k) 32/\Below w.heap.size w wr) (λi _=>4-(intOf i).toNat)
 case atStart=>exact⟨0,by omega,E,(iq.new _ _ _).alloc _,iq.new1 _ _ _ _,by go_grown⟩
 case round=>
  obtain⟨k,hk,rfl,h0,h1,hb⟩:=hrel;have hsz:w.heap.size<=wr.heap.size:=hb.size;have H0:=Lib.hid h0;have H1:=Lib.hid h1;have HB:=Lib.hid hb;by_cases hlt:k<4
  ·obtain⟨g0,g1,g2⟩:=HN.out.on hb;obtain⟨u,hu⟩:=Rf k (k*2) Y;obtain⟨u',hu'⟩:=Rf k (k*2+1) Y;have c0:=h1.cell hu;have c1:=h1.cell hu';have cf:=h1.free;clear h0 h1 hb hu hu'
   go_wp2_with fail
   go_roundw
   case rel=>
    have hB:=HB.out;exact⟨k+1,by omega,by go_num,(H0.out.other _ iQ _).other _ iQ _,(H1.out.yD _ _).yD _ _,by go_grown⟩
   case measure=>simp[intOf];omega
  obtain rfl:k=4:=Y;have e4:PV 4= #[.int .i64 (-1),.int .i64 0,.int .i64 (-1),.int .i64 0,.int .i64 (-1),.int .i64 0,.int .i64 (-1),.int .i64 0]:=rfl;rw[e4]at h1;clear e4;obtain⟨c0,c1,c2,c3,c4,c5,c6,c7,cf⟩:=h1.E5;obtain⟨r0,r1,r2,r3,r4,r5,r6,r7,rf⟩:=h0.E5;clear h0 h1 H1
  go_wp2_with fail
  refine bodyPost_ret (v:=.agg #[.int .i64 (-1),.int .i64 0,.int .i64 (-1),.int .i64 0,.int .i64 (-1),.int .i64 0,.int .i64 (-1),.int .i64 0]) (by simp[results,Tryz.results23,go_sem,r0,r1,r2,r3,r4,r5,r6,r7]) E ?_;have hB:=HB.out;exact⟨E,by go_grown⟩
structure Ld where
 Qu:Int
 node:Int
 work:Int
 deriving DecidableEq
instance:Au Ld where
 size:=3
 UA x:=[x.Qu,x.node,x.work]
 of l:=⟨l.getD 0 0,l.getD 1 0,l.getD 2 0⟩
 pos:=by omega
 len _:=rfl
 inv xs h:=by
  match xs,h with
  |[a,b,c],_=>rfl
def Rd.ap0{w:World}{B n k:Nat}{A:Option Addr}{l:List Ld}(h:Rd w B 3 A n (iO l))(J:k<n):∃b off x,A=some ⟨b,off,none⟩/\b<B/\l[k]? =some x/\
  w.cell? ⟨b,off+k*3,none⟩=some (.int .i64 x.Qu)/\w.cell? ⟨b,off+k*3+1,none⟩=some (.int .i64 x.node)/\w.cell? ⟨b,off+k*3+2,none⟩=some (.int .i64 x.work):=by
 obtain⟨b,off,x,e,M,O,I⟩:=Rd.ahM (α:=Ld) h J;exact⟨b,off,x,e,M,O,I 0 _ E,I 1 _ E,I 2 _ E⟩
def Rd.ahQ{w:World}{B n:Nat}{A:Option Addr}{l:List Ld}(h:Rd w B 3 A n (iO l)):l.length=n:=Rd.LA (α:=Ld) h
def En(nodes prev:Int)(x:Ld):Prop:=prev<x.Qu/\x.Qu<4/\0<=x.node/\x.node<nodes/\0<=x.work/\x.work<=1073741824
def Cq(l:List Ld):Nat->Int
 | 0=> -1
 |k+1=>match l[k]? with
  |some x=>x.Qu
  |none=> -1
def Gn{l:List Ld}{k:Nat}{x:Ld}(h:l[k]? =some x):Cq l (k+1)=x.Qu:=by
 simp[Cq,h]
def Jj(nodes:Int)(l:List Ld):Prop:= ∀k x,l[k]? =some x->En nodes (Cq l k) x
open Classical in
noncomputable def jo(l:List Ld)(nodes:Int):Int:=if ¬(1<=nodes/\nodes<=5)then 2 else if Jj nodes l then 0 else 6
def Eo{l:List Ld}{nodes:Int}(h:¬(1<=nodes/\nodes<=5)):jo l nodes=2:=aj h
def afY{l:List Ld}{nodes:Int}(h:1<=nodes/\nodes<=5){k:Nat}{x:Ld}(I:l[k]? =some x)(J:¬En nodes (Cq l k) x):jo l nodes=6:=by
 unfold jo;rw[ah (by omega),ah (λM=>J (M k x I))]
def KE{l:List Ld}{nodes:Int}(h:1<=nodes/\nodes<=5)(I:Jj nodes l):jo l nodes=0:=by
 unfold jo;rw[ah (by omega),aj I]
def adg{l:List Ld}{nodes:Int}(h:jo l nodes=0):1<=nodes/\nodes<=5/\Jj nodes l:=by
 unfold jo at h
 split at h
 ·cases h
 rename_i h1
 split at h
 ·rename_i I
  exact⟨by omega,by omega,I⟩
 cases h
def KF{nodes:Int}{l:List Ld}(h:Jj nodes l):∀(k:Nat) (x:Ld),l[k]? =some x->(k:Int)<=x.Qu:=by
 intro k
 induction k with
 |zero=>
  intro x I;have:=(h 0 x I).1;simp[Cq]at this;omega
 |succ k M=>
  intro x I;have h1:=(h (k+1) x I).1;have O:k<l.length:=by have:=(cK.1 I).1;omega
  have J:l[k]? =some l[k]:=dJ O;rw[Gn J]at h1;have:=M _ J;omega
def aeC{nodes:Int}{l:List Ld}(h:Jj nodes l):l.length<=4:=by
 rcases qU 4 l.length with h1|h1
 ·have I:l[4]? =some l[4]:=dJ h1;have J:=KF h 4 _ I;have M:=(h 4 _ I).2.1;omega
 exact h1
def aum(w:World)(k:Int)(e:Ending)(w':World):Prop:=e=.returned (.int .i64 k)/\Below w.heap.size w w'
def afZ(A:Option Addr)(n c:Nat)(l:List Ld)(nodes:Int)(w:World)(h:Rd w w.heap.size 3 A n (iO l))(hm:n<=maxLen):
 Calls prog 13 #[.slice A n c,.int .i64 nodes] w (aum w (jo l nodes)):=by
 unfold maxLen at hm;have H:=Lib.hid h;have hl:=h.ahQ;have HL:=Lib.hid hl;clear h hl;by_cases h1:nodes<1
 ·rw[Eo (by omega)]
  go_enter func13,ntmps13
  go_wp2_with fail
  go_ret
  exact⟨E,by go_grown⟩
 by_cases h5:5<nodes
 ·rw[Eo (by omega)]
  go_enter func13,ntmps13
  go_wp2_with fail
  go_ret
  exact⟨E,by go_grown⟩
 have HF:Hid (∀k x,l[k]? =some x-> ¬En nodes (Cq l k) x->jo l nodes=6):=Lib.hid (λk x hx hb=>afY (by omega) hx hb);have H0:Hid (Jj nodes l->jo l nodes=0):=Lib.hid (λho=>KE (by omega) ho);generalize jo l nodes=z at HF H0⊢
 go_enter func13,ntmps13
 go_wp2_with fail
 go_loopw [5,16] (λp i wr=> ∃k:Nat,k<=n/\i=.int .i64 k/\p=.int .i64 (Cq l k)/\(∀j x,j<k->l[j]? =some x->En nodes (Cq l j) x)/\Below w.heap.size w wr) (λ_ i _=>n-(intOf i).toNat)
 case atStart=>exact⟨0,aC _,E,E,λj _ hj=>av hj (by omega),Below.refl _ _⟩
 case round=>
  obtain⟨k,hk,rfl,rfl,hall,hb⟩:=hrel;have HB:=Lib.hid hb;have HA:=Lib.hid hall;by_cases hlt:k<n
  ·obtain⟨b,off,x,rfl,hbb,hx,c0,c1,c2⟩:=(H.out.below hb aB).ap0 hlt;have HX:=Lib.hid hx;have UJ:=Lib.hid (HF.out k x hx);have HP:=Lib.hid (Gn hx);have HQ:Hid (En nodes (Cq l k) x-> ∀j x,j<k+1->l[j]? =some x->En nodes (Cq l j) x):=Lib.hid (λho j y hj hy=>by
    by_cases e:j=k
    ·subst e;have:=HX.out;rw[hy]at this;simp at this;subst this;exact ho
    exact HA.out j y (by omega) hy)
   have hsz:w.heap.size<=wr.heap.size:=hb.size;clear hall hb hx;generalize Cq l k=p at UJ HQ⊢;by_cases b1:x.Qu<=p
   ·have e:=UJ.out (by unfold En;omega);subst e
    go_wp2_with fail
    go_ret
    have hB:=HB.out;exact⟨E,by go_grown⟩
   by_cases b2:4<=x.Qu
   ·have e:=UJ.out (by unfold En;omega);subst e
    go_wp2_with fail
    go_ret
    have hB:=HB.out;exact⟨E,by go_grown⟩
   by_cases b3:x.node<0
   ·have e:=UJ.out (by unfold En;omega);subst e
    go_wp2_with fail
    go_ret
    have hB:=HB.out;exact⟨E,by go_grown⟩
   by_cases b4:nodes<=x.node
   ·have e:=UJ.out (by unfold En;omega);subst e
    go_wp2_with fail
    go_ret
    have hB:=HB.out;exact⟨E,by go_grown⟩
   by_cases b5:x.work<0
   ·have e:=UJ.out (by unfold En;omega);subst e
    go_wp2_with fail
    go_ret
    have hB:=HB.out;exact⟨E,by go_grown⟩
   by_cases b6:1073741824<x.work
   ·have e:=UJ.out (by unfold En;omega);subst e
    go_wp2_with fail
    go_ret
    have hB:=HB.out;exact⟨E,by go_grown⟩
   have HG:=Lib.hid (HQ.out (by unfold En;omega))
   go_wp2_with fail
   go_roundw
   case rel=>
    have hB:=HB.out;exact⟨k+1,by omega,by go_num,by rw[HP.out],HG.out,by go_grown⟩
   case measure=>simp[intOf];omega
  obtain rfl:k=n:=by omega
  have e:=H0.out (λj x hx=>HA.out j x (by have:=(cK.1 hx).1;have:=HL.out;omega) hx);subst e;clear hall hb
  go_wp2_with fail
  go_ret
  exact⟨E,HB.out⟩
def kr(l:List Ld)(n:Int):Int:=(l.map λx=>if x.node=n then x.work else 0).sum
def KG{l:List Ld}{k:Nat}{x:Ld}(h:l[k]? =some x)(n:Int):kr (l.take (k+1)) n=kr (l.take k) n+if x.node=n then x.work else 0:=by
 unfold kr;rw[mQ,h];simp
def zL{l:List Ld}(hw:∀x∈l,0<=x.work/\x.work<=1073741824)(n:Int):∀k,k<=l.length->0<=kr (l.take k) n/\kr (l.take k) n<=k*1073741824:=by
 intro k
 induction k with
 |zero=>intro _;simp[kr]
 |succ k I=>
  intro J;have h:l[k]? =some l[k]:=dJ (by omega);have h1:=hw _ (jm h);have M:=I (by omega);rw[KG h]
  split<;>omega
def kV(f:Nat->Int):Nat->Nat
 | 0=>0
 |k+1=>if f (kV f k)<f k then k else kV f k
def oH(f:Nat->Int):Nat->Nat
 | 0=>0
 |k+1=>if f k<f (oH f k)then k else oH f k
def Aw(f:Nat->Int):∀k,0<k->kV f k<k
 | 1,_=>by simp[kV]
 |k+2,_=>by
  have:=Aw f (k+1) (by omega);rw[kV]
  split<;>omega
def BK(f:Nat->Int):∀k,0<k->oH f k<k
 | 1,_=>by simp[oH]
 |k+2,_=>by
  have:=BK f (k+1) (by omega);rw[oH]
  split<;>omega
def KH(f:Nat->Int):∀k,(∀j,j<k->f j<=f (kV f k))/\(∀j,j<kV f k->f j<f (kV f k))
 | 0=>⟨λj h=>av h (by omega),λj h=>by simp[kV]at h⟩
 |k+1=>by
  have⟨h1,h2⟩:=KH f k;have M:0<k->kV f k<k:=Aw f k;rw[kV]
  split
  ·rename_i I
   refine⟨λj J=>?_,λj J=>?_⟩
   ·by_cases e:j=k
    ·rw[e];exact gI _
    have:=h1 j (by omega);omega
   have:=h1 j J;omega
  rename_i I
  refine⟨λj J=>?_,h2⟩;by_cases e:j=k
  ·subst e;omega
  exact h1 j (by omega)
def adF(f:Nat->Int)(n m:Nat)(I:m<n)(h1:∀j,j<n->f j<=f m)(J:∀j,j<m->f j<f m):m=kV f n:=by
 have⟨k1,k2⟩:=KH f n;have M:=Aw f n (by omega)
 rcases LD m (kV f n)with h|h|h
 ·have:=k2 m h;have:=h1 _ M;omega
 ·exact h
 have:=J _ h;have:=k1 m I;omega
def UQ(f:Nat->Int)(n i m:Nat):Prop:=m<n/\(i=n->m=n-1)/\(∀j,i<=j->j<n->f j<=f m)/\(i<n->i<=m)/\(∀j,i<=j->j<m->f j<f m)
def UQ.step{f:Nat->Int}{n i m:Nat}(h:UQ f n (i+1) m)(hi:i<n):UQ f n i (if f m<=f i then i else m):=by
 obtain⟨h1,O,M,Z,h5⟩:=h
 split
 ·rename_i I
  refine⟨hi,λe=>by omega,λj J hn=>?_,λ_=>aB,λj J hn=>by omega⟩;by_cases e:j=i
  ·rw[e];exact gI _
  have:=M j (by omega) hn;omega
 rename_i I
 have hin:i+1≠n:=λe=>I (by have:=O e;rw[this,show n-1=i by omega];exact gI _);refine⟨h1,λe=>by omega,λj J hn=>?_,λ_=>by have:=Z (by omega);omega,λj J hn=>?_⟩
 ·by_cases e:j=i
  ·subst e;omega
  exact M j (by omega) hn
 by_cases e:j=i
 ·subst e;omega
 exact h5 j (by omega) hn
def UQ.done{f:Nat->Int}{n m:Nat}(h:UQ f n 0 m):m=kV f n:=
 adF f n m h.1 (λj I=>h.2.2.1 j (by omega) I) (λj I=>h.2.2.2.2 j (by omega) I)
def uY(f:Nat->Int)(m:Nat):Array Value:=((range m).map λj=>Value.int .i64 (f j)).toArray
def xG(f:Nat->Int){m j:Nat}(h:j<m):(uY f m)[j]? =some (.int .i64 (f j)):=by
 simp[uY,h]
def aeD(f g:Nat->Int){m j:Nat}(h:∀i,i<m->g i=if i=j then g j else f i):(uY f m).setIfInBounds j (.int .i64 (g j))=uY g m:=by
 apply acL;intro i;rw[Array.getElem?_setIfInBounds];by_cases hi:i<m
 ·have I:=h i hi;by_cases e:j=i
  ·subst e;simp[uY,hi]
  rw[ah e,xG f hi,xG g hi,I,ah (λJ=>e J.symm)]
 by_cases e:j=i
 ·subst e;simp[uY,hi]
 rw[ah e];simp[uY,hi]
def aaV(m:Nat):madeCells (Value.int .i64 0).cells (m*1)=uY (λ_=>0) m:=by
 apply acL;intro i;by_cases hi:i<m
 ·simp[madeCells,uY,hi,Value.cells,mod_one]
 simp[madeCells,uY,hi]
def aaW(b m c:Nat)(f:Nat->Int)(w:World)(h:∀j,j<m->w.cell? ⟨b,j,none⟩=some (.int .i64 (f j)))(hm0:0<m)(Rh:m<=5):
 Calls prog 15 #[.slice (some ⟨b,0,none⟩) m c] w λe w'=>e=.returned (.tuple #[.int .i64 (kV f m:Nat),.int .i64 (oH f m:Nat)])/\w=w':=by
 have H:=Lib.hid h;have HM:Hid (∀k,kV f (k+1)=if f (kV f k)<f k then k else kV f k):=Lib.hid (λ_=>E);have HL:Hid (∀k,oH f (k+1)=if f k<f (oH f k)then k else oH f k):=Lib.hid (λ_=>E);have HM0:Hid (∀k,k<m->kV f k<m):=Lib.hid (λk hk=>by
  rcases wD k with h|h
  ·subst h;simpa[kV]using hm0
  have:=Aw f k h;omega)
 have HL0:Hid (∀k,k<m->oH f k<m):=Lib.hid (λk hk=>by
  rcases wD k with h|h
  ·subst h;simpa[oH]using hm0
  have:=BK f k h;omega)
 clear h
 go_enter func15,Tryz.ntmps15
 go_wp2_with fail
 go_loop [2,3,8] (λp q i=> ∃k:Nat,k<=m/\i=.int .i64 k/\p=.int .i64 (kV f k:Nat)/\q=.int .i64 (oH f k:Nat)) (λ_ _ i=>m-(intOf i).toNat)
 case atStart=>exact⟨0,aC _,E,E,E⟩
 case round=>
  obtain⟨k,hk,rfl,rfl,rfl⟩:=hrel;by_cases hlt:k<m
  ·have HMk:=Lib.hid (HM.out k);have HLk:=Lib.hid (HL.out k);have m1:=HM0.out k hlt;have m2:=HL0.out k hlt;generalize kV f k=p at HMk m1⊢;generalize oH f k=q at HLk m2⊢;have c0:=H.out k hlt;have c1:=H.out p m1;have c2:=H.out q m2;by_cases t1:f p<f k
   ·rw[aj t1]at HMk;by_cases t2:f k<f q
    ·rw[aj t2]at HLk
     go_wp2_with fail
     go_round
     case rel=>exact⟨k+1,by omega,by go_num,by rw[HMk.out],by rw[HLk.out]⟩
     case measure=>simp[intOf];omega
    rw[ah t2]at HLk
    go_wp2_with fail
    go_round
    case rel=>exact⟨k+1,by omega,by go_num,by rw[HMk.out],by rw[HLk.out]⟩
    case measure=>simp[intOf];omega
   rw[ah t1]at HMk;by_cases t2:f k<f q
   ·rw[aj t2]at HLk
    go_wp2_with fail
    go_round
    case rel=>exact⟨k+1,by omega,by go_num,by rw[HMk.out],by rw[HLk.out]⟩
    case measure=>simp[intOf];omega
   rw[ah t2]at HLk
   go_wp2_with fail
   go_round
   case rel=>exact⟨k+1,by omega,by go_num,by rw[HMk.out],by rw[HLk.out]⟩
   case measure=>simp[intOf];omega
  obtain rfl:k=m:=by omega
  go_wp2_with fail
  go_ret2
  exact⟨E,E⟩
def ajl(w:World)(f:Nat->Int)(m:Nat)(e:Ending)(w':World):Prop:=
 ∃b,e=.returned (.slice (some ⟨b,0,none⟩) m m)/\Below w.heap.size w w'/\w.heap.size<=b/\iq w' b (uY f m) 3
def aaX(A:Option Addr)(n c m:Nat)(l:List Ld)(w:World)(h:Rd w w.heap.size 3 A n (iO l))(hn:n<=4)(hm0:0<m)(Rh:m<=5)(hw:∀x∈l,0<=x.work/\x.work<=1073741824/\0<=x.node/\x.node<m):
 Calls prog 14 #[.slice A n c,.int .i64 m] w (ajl w (λj=>kr l j) m):=by
 obtain⟨i0,hi0,hz0,hz1,hz2⟩:=info_parts (P:=prog) (e:=3) (z:=.int .i64 0) (size:=1) (bytes:=8) (by kernel_rfl);have hmk:∀w:World,(Instr.makeSlice 69 (.int .i64 (m:Int)) (.int .i64 (m:Int))).run prog w=.ok (.slice (some ⟨w.heap.size,0,none⟩) m m) (w.alloc (.cells (uY (λ_=>0) m) 3)):=by
  intro w;have:=run_makeSlice (P:=prog) w 69 3 i0 _ Tryz.underlying69 hi0 hz0 .i64 .i64 (m:Int) (m:Int) (by omega) (by omega) (by rw[hz1];omega) (by rw[hz2];omega) (by omega);rw[this,hz1,dW,aaV]
 clear hi0 hz0 hz1 hz2;have H:=Lib.hid h;have hl:=h.ahQ;have HL:=Lib.hid hl;have HW:=Lib.hid (λ(j:Int)=>zL (l:=l) (λx hx=>⟨(hw x hx).1,(hw x hx).2.1⟩) j);have HT:=Lib.hid (λ(k:Nat) (x:Ld) (hx:l[k]? =some x) (j:Int)=>KG hx j);have HM:=Lib.hid (λ(k:Nat) (x:Ld) (hx:l[k]? =some x)=>hw x (jm hx));clear h hl hw
 go_enter Tryz.func14,Tryz.ntmps14
 go_wp2_with fail
 clear hmk
 go_loopw [12] (λi wr=> ∃k:Nat,k<=n/\i=.int .i64 k/\iq wr w.heap.size (uY (λj=>kr (l.take k) j) m) 3/\Below w.heap.size w wr) (λi _=>n-(intOf i).toNat)
 case atStart=>exact⟨0,aC _,E,iq.new _ _ _,by go_grown⟩
 case round=>
  obtain⟨k,hk,rfl,QO,hb⟩:=hrel;have HB:=Lib.hid hb;have HK:=Lib.hid QO;by_cases hlt:k<n
  ·obtain⟨b,off,x,rfl,hbb,hx,c0,c1,c2⟩:=(H.out.below hb aB).ap0 hlt;obtain⟨x1,x2,x3,x4⟩:=HM.out k x hx;obtain⟨j,hj⟩:=oF x3;have HTk:=Lib.hid (HT.out k x hx);have hwb:=HW.out j k (by have:=HL.out;omega);rw[hj]at c1 x4;have hjm:j<m:=by omega
   have d0:=QO.cell (xG (λj=>kr (l.take k) j) hjm);have df:=QO.free j;have hz:w.heap.size<wr.heap.size:=QO.lt;have HS:Hid ((uY (λj=>kr (l.take k) j) m).setIfInBounds j (.int .i64 (kr (l.take k) j+x.work))=uY (λj=>kr (l.take (k+1)) j) m):=by
    have e:=aeD (λj=>kr (l.take k) j) (λj=>kr (l.take (k+1)) j) (m:=m) (j:=j) (λi hi=>by
     simp only[HTk.out];by_cases e:i=j
     ·rw[aj e,e]
     rw[ah e,ah (by omega)];simp)
    rw[show kr (l.take (k+1)) (j:Int)=kr (l.take k) j+x.work by rw[HTk.out,aj hj]]at e;exact e
   have HJ:=Lib.hid hj;clear QO hb hx hj x3;generalize kr (l.take k) (j:Int)=s at hwb d0 HS
   go_wp2_with fail
   go_region
   go_wp2_with fail
   go_roundw
   case rel=>exact⟨k+1,by omega,by go_num,by exact(((HK.out.yD j _).cast HS.out).alloc _).drew,by have hB:=HB.out;go_grown⟩
   case measure=>simp[intOf];omega
  obtain rfl:k=n:=by omega
  rw[jE (by have:=HL.out;omega)]at HK;clear QO hb
  go_wp2_with fail
  go_ret
  exact⟨_,E,HB.out,aB,HK.out⟩
def kW(C:Nat->Bool)(f:Nat->Int):Nat->Option Nat
 | 0=>none
 |k+1=>if C k=true then match kW C f k with
   |none=>some k
   |some b=>if f b<f k then some k else some b
  else kW C f k
def acM:Option Nat->Int
 |none=> -1
 |some b=>b
def vY(C:Nat->Bool)(f:Nat->Int)(i n:Nat):Option Nat->Prop
 |none=> ∀j,i<=j->j<n->C j=false
 |some b=>i<=b/\b<n/\C b=true/\(∀j,i<=j->j<n->C j=true->f j<=f b)/\(∀j,i<=j->j<b->C j=true->f j<f b)
def vT(C:Nat->Bool)(f:Nat->Int):∀k,vY C f 0 k (kW C f k)
 | 0=>λj _ h=>av h (G9 _)
 |k+1=>by
  have M:=vT C f k;rw[kW];by_cases O:C k=true
  ·rw[aj O]
   cases Z:kW C f k with
   |none=>
    rw[Z]at M;refine⟨aC _,lt_succ_self _,O,λj h1 J I=>?_,λj h1 J I=>?_⟩
    ·rcases sO.1 J with h|h
     ·rw[M j h1 h]at I;cases I
     rw[h];exact gI _
    rw[M j h1 J]at I;cases I
   |some b=>
    rw[Z]at M;obtain⟨i1,i2,i3,i4,i5⟩:=M;by_cases hf:f b<f k
    ·simp only[if_pos hf];refine⟨aC _,lt_succ_self _,O,λj h1 J I=>?_,λj h1 J I=>?_⟩
     ·rcases sO.1 J with h|h
      ·exact He (Int.lt_of_le_of_lt (i4 j h1 h I) hf)
      rw[h];exact gI _
     exact Int.lt_of_le_of_lt (i4 j h1 J I) hf
    simp only[if_neg hf];refine⟨i1,Nat.lt_succ_of_lt i2,i3,λj h1 J I=>?_,i5⟩
    rcases sO.1 J with h|h
    ·exact i4 j h1 h I
    rw[h];exact Int.not_lt.1 hf
  rw[ah O]
  cases Z:kW C f k with
  |none=>
   rw[Z]at M;intro j h1 J
   rcases sO.1 J with h|h
   ·exact M j h1 h
   rw[h];simpa using O
  |some b=>
   rw[Z]at M;obtain⟨i1,i2,i3,i4,i5⟩:=M;refine⟨i1,Nat.lt_succ_of_lt i2,i3,λj h1 J I=>?_,i5⟩
   rcases sO.1 J with h|h
   ·exact i4 j h1 h I
   rw[h]at I;exact av I O
def vY.unique{C:Nat->Bool}{f:Nat->Int}{i n:Nat}:∀ {a b:Option Nat},vY C f i n a->vY C f i n b->a=b
 |none,none,_,_=>rfl
 |none,some b,h,I=>by have:=h b I.1 I.2.1;rw[I.2.2.1]at this;cases this
 |some a,none,h,I=>by have:=I a h.1 h.2.1;rw[h.2.2.1]at this;cases this
 |some a,some b,h,I=>by
  obtain⟨a1,a2,a3,a4,a5⟩:=h;obtain⟨b1,b2,b3,b4,b5⟩:=I
  rcases LD a b with h|h|h
  ·have J:=b5 a a1 h a3;have M:=a4 b b1 b2 b3;omega
  ·rw[h]
  have J:=a5 b b1 h b3;have M:=b4 a a1 a2 a3;omega
def vY.first{C:Nat->Bool}{f:Nat->Int}{i n:Nat}(h:vY C f (i+1) n none)(hn:i<n)(M:C i=true):vY C f i n (some i):=by
 refine⟨aB,hn,M,λj h1 I J=>?_,λj h1 I=>av I (by omega)⟩
 rcases TP h1 with e|e
 ·rw[<-e];exact gI _
 rw[h j e I]at J;cases J
def vY.over{C:Nat->Bool}{f:Nat->Int}{i n b:Nat}(h:vY C f (i+1) n (some b))(J:C i=true)(M:f b<=f i):vY C f i n (some i):=by
 obtain⟨a1,a2,a3,a4,a5⟩:=h;refine⟨aB,by omega,J,λj h1 I O=>?_,λj h1 I=>av I (by omega)⟩
 rcases TP h1 with e|e
 ·rw[<-e];exact gI _
 exact Int.le_trans (a4 j e I O) M
def vY.stay{C:Nat->Bool}{f:Nat->Int}{i n b:Nat}(h:vY C f (i+1) n (some b))(M:f i<f b):vY C f i n (some b):=by
 obtain⟨a1,a2,a3,a4,a5⟩:=h;refine⟨by omega,a2,a3,λj h1 I J=>?_,λj h1 I J=>?_⟩
 ·rcases TP h1 with e|e
  ·rw[<-e];exact He M
  exact a4 j e I J
 rcases TP h1 with e|e
 ·rw[<-e];exact M
 exact a5 j e I J
def vY.done{C:Nat->Bool}{f:Nat->Int}{n:Nat}{a:Option Nat}(h:vY C f 0 n a):a=kW C f n:=h.unique (vT C f n)
structure rz where
 Qu:Int
 fr:Int
 to:Int
 deriving DecidableEq
def rz.cells(p:rz):List Value:=[.int .i64 p.Qu,.int .i64 p.fr,.int .i64 p.to]
def wants(now:List Ld)(gone:Nat->Bool)(fr:Nat)(gap:Int)(i:Nat):Bool:=match now[i]? with
 |some x=> !gone i&&decide (x.node=fr/\x.work≠0/\x.work<gap)
 |none=>false
def Fe(now:List Ld)(i:Nat):Int:=match now[i]? with
 |some x=>x.work
 |none=>0
def qz(m:Nat)(now:List Ld):Nat:=kV (λj=>kr now j) m
def oI(m:Nat)(now:List Ld):Nat:=oH (λj=>kr now j) m
def xH(m:Nat)(now:List Ld):Int:=kr now (qz m now)-kr now (oI m now)
def xk(m:Nat)(now:List Ld)(gone:Nat->Bool):Option Nat:=kW (wants now gone (qz m now) (xH m now)) (Fe now) now.length
def oW(now:List Ld)(b:Nat)(to:Nat):List Ld:=now.modify b λx=>{x with node:=to}
def Bo(now:List Ld)(i:Nat):Int:=match now[i]? with
 |some x=>x.Qu
 |none=>0
def sH(m:Nat):Nat->List Ld->(Nat->Bool)->List rz
 | 0,_,_=>[]
 |k+1,now,gone=>match xk m now gone with
  |none=>[]
  |some b=>⟨Bo now b,qz m now,oI m now⟩::sH m k (oW now b (oI m now)) (λj=>decide (j=b) || gone j)
noncomputable def LG(l:List Ld)(nodes moves:Int):List rz×Int:=
 if jo l nodes≠0 then([],jo l nodes)else if ¬(0<=moves/\moves<=4)then([],2)else(sH nodes.toNat moves.toNat l (λ_=>false),0)
end Go.Proofs.YtceeleolddkibaaGreatDoor
