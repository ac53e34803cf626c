import Derived.Test.YtceeleolddkibaaGreatDoorG1aee5
import Derived.Test.YtceeleolddkibaaGreatDoorG74672
import Derived.Test.YtceeleolddkibaaGreatDoorGdd1cc
set_option linter.all false
set_option maxRecDepth 100000
set_option maxHeartbeats 8000000
namespace Go.Proofs.YtceeleolddkibaaGreatDoor
open List Nat Go.Proofs.Tryz ChangeShapes WideShapes RowKit
def MZ(n:Int):Prop:=0<=n/\n<=2147483647
def aoG{n:Int}(h:MZ n):(uI n).1=CG n:=by unfold uI;unfold MZ at h;rw[aj h]
def aj4{n:Int}(h:MZ n)(t:List UInt8):rC (CG n++t)=(n,0):=by
 obtain⟨I,h1⟩:=h;unfold CG rC;simp only[cons_append,nil_append,UInt8.toNat_ofNat'];rw[ah Y];simp only[Prod.mk.injEq,and_true];omega
def Kh{n:Int}{l:List Int}(h:MZ n):lu (n::l)=CG n++lu l:=by
 show(n::l).flatMap _=_
 rw[nK,aoG h];rfl
def adf:∀ {l:List Int},(∀n∈l,MZ n)->(lu l).length=4*l.length
 |[],_=>rfl
 |n::l,h=>by
  rw[Kh (h n iQ),aY,adf (λm I=>h m (by simp[I])),show(CG n).length=4 from E,mO];omega
def WZ:∀ {l:List Int} {j:Nat},(∀n∈l,MZ n)->(lu l).drop (4*j)=lu (l.drop j)
 |l,0,_=>rfl
 |[],j+1,_=>by simp[lu]
 |n::l,j+1,h=>by
  rw[Kh (h n iQ),drop_succ_cons,<-WZ (j:=j) (λm I=>h m (by simp[I])),show 4*(j+1)=(CG n).length+4*j by show _=4+_;omega,<-lT,drop_left]
def Zi{l:List Int}{j:Nat}{n:Int}(h:∀n∈l,MZ n)(J:l[j]? =some n):tk (lu l) j=(n,0):=by
 unfold tk;obtain⟨I,hn⟩:=cK.1 J;rw[WZ h,yM I,hn,Kh (h n (by rw[<-hn];exact Bb I))];exact aj4 (h n (by rw[<-hn];exact Bb I)) _
def au8{e:Ev}(h:bJ e=0):MZ e.kind/\MZ e.Pv/\MZ e.id/\MZ e.body/\MZ e.Qs/\MZ e.Qz:=by
 unfold bJ at h;unfold MZ
 repeat' split at h
 all_goals first
  |exact av h dQ
  |(clear h;simp only[mo,Bool.and_eq_true,decide_eq_true_eq,not_and,Classical.not_not]at*;omega)
def aoH{r:dN}(h:aM r=0):∀n∈iU r,MZ n:=by
 unfold aM at h
 split at h
 ·cases h
 split at h
 ·cases h
 rename_i h1 I
 simp only[mo,Bool.and_eq_true,decide_eq_true_eq,Bool.not_eq_false]at h1 I;intro n hn;unfold iU at hn;by_cases he:mF r.kind=true
 ·rw[aj he]at h hn;obtain⟨J,g2,M,O,Z,g6⟩:=au8 h;simp only[cons_append,nil_append,mem_cons,not_mem_nil,or_false]at hn
  rcases hn with rfl|rfl|rfl|rfl|rfl|rfl|rfl|rfl|rfl|rfl
  any_goals assumption
  all_goals (unfold MZ;omega)
 rw[ah he]at hn;simp only[append_nil,mem_cons,not_mem_nil,or_false]at hn
 rcases hn with rfl|rfl|rfl|rfl
 all_goals (unfold MZ;omega)
def aj5{r:dN}(h:aM r=0)(he:¬mF r.kind=true):r.ev=aU:=by
 unfold aM at h
 split at h
 ·cases h
 split at h
 ·cases h
 try rw[ah he]at h
 split at h
 ·assumption
 cases h
def aoI{r:dN}(h:aM r=0):wS (lu (iU r))=(r,0):=by
 have J:=aoH h;have O:tk (lu (iU r)) 0=(r.kind,0):=Zi J E;have Z:nD (lu (iU r))=(iU r).length:=by
  unfold nD;rw[O];by_cases he:mF r.kind=true
  ·rw[aj (show mF (r.kind,(0:Int)).1=true from he)];unfold iU;rw[aj he];rfl
  rw[ah (show ¬mF (r.kind,(0:Int)).1=true from he)];unfold iU;rw[ah he];rfl
 have hz:Cv (lu (iU r)) (iU r).length=0:=yt λj I=>by rw[Zi J (dJ I)]
 have M:qG (lu (iU r)) (iU r).length=r:=by
  have hv:∀j n,(iU r)[j]? =some n->jG (lu (iU r)) (iU r).length j=n:=λj n I=>by
   unfold jG;rw[aj (cK.1 I).1,Zi J I]
  have hw:∀j,(iU r).length<=j->jG (lu (iU r)) (iU r).length j=0:=λj I=>ah Y;unfold qG;rw[hv 0 r.kind E,hv 1 r.Qu E,hv 2 r.Pf E,hv 3 r.Vk E];by_cases he:mF r.kind=true
  ·have hn:iU r=[r.kind,r.Qu,r.Pf,r.Vk,r.ev.kind,r.ev.Pv,r.ev.id,r.ev.body,r.ev.Qs,r.ev.Qz]:=by unfold iU;rw[aj he];rfl
   rw[hv 4 r.ev.kind (by rw[hn];rfl),hv 5 r.ev.Pv (by rw[hn];rfl),hv 6 r.ev.id (by rw[hn];rfl),hv 7 r.ev.body (by rw[hn];rfl),hv 8 r.ev.Qs (by rw[hn];rfl),hv 9 r.ev.Qz (by rw[hn];rfl)]
  have hn:(iU r).length=4:=by unfold iU;rw[ah he];rfl
  rw[hw 4 Y,hw 5 Y,hw 6 Y,hw 7 Y,hw 8 Y,hw 9 Y];have:=aj5 h he;unfold aU at this;rw[<-this]
 unfold wS;rw[Z,ah (by rw[hz];simp),M,ah (by rw[adf J,h];simp)]
def aii{r:dN}(h:aM r=0):qA r=(lu (iU r),0):=by unfold qA;rw[ah (by simpa using h)]
def oM(r:dN):List UInt8:=lI (qA r).1
def dn(rs:List dN):List UInt8:=rs.flatMap oM
def nV(a b:List dN):dn (a++b)=dn a++dn b:=flatMap_append
def Dp(r:dN):6<=(oM r).length/\(oM r).length<=46:=by
 unfold oM;rw[yw];have:=IE r;omega
def RZ{p t:List UInt8}(h:p.length<=65535){k:Nat}(I:2<=k):dO ((lI p).take k++t)=p.length:=by
 obtain⟨k,rfl⟩:∃j,k=j+2:=⟨k-2,by omega⟩;unfold lI UM;simp only[cons_append,take_succ_cons,dO,UInt8.toNat_ofNat'];omega
def YF{r:dN}(h:aM r=0)(t:List UInt8):Qy (oM r++t)=(r,(oM r).length):=by
 have hl:=IE r;have J:(oM r).length=(qA r).1.length+6:=yw _;have I:dO (oM r++t)=(qA r).1.length:=by
  have:=RZ (p:=(qA r).1) (t:=t) Y (k:=(oM r).length) Y;rwa [show take (oM r).length (lI (qA r).1)=oM r from jy]at this
 have O:(oM r++t).length=(qA r).1.length+6+t.length:=by rw[aY,J]
 have M:((oM r++t).drop 2).take (dO (oM r++t))=(qA r).1:=by
  rw[I];unfold oM lI UM;simp
 have Z:wS (qA r).1=(r,0):=by rw[aii h];exact aoI h
 rw[ail Y (by rw[I];omega) (by rw[M,Z]) (by rw[M,I,<-J,GY];rfl),M,Z,I,J]
def abA{r:dN}{k:Nat}(O:k< (oM r).length):(Qy ((oM r).take k)).2=0:=by
 have Z:=IE r;have J:(oM r).length=(qA r).1.length+6:=yw _;have M:((oM r).take k).length=k:=by rw[dV];omega
 by_cases hs:k<2
 ·rw[Cw Y];rfl
 have h:=RZ (p:=(qA r).1) (t:=[]) Y (k:=k) Y;rw[bI]at h;have I:dO ((oM r).take k)=(qA r).1.length:=h;rw[OO Y (by rw[M,I];omega)];rfl
def BZ:∀ {rs:List dN} {t:List UInt8},(∀r∈rs,aM r=0)->(Qy t).2=0->dx (dn rs++t)=(rs,(dn rs).length)
 |[],t,_,I=>KY (by simpa[dn]using I)
 |r::rs,t,h,I=>by
  have e:dn (r::rs)++t=oM r++(dn rs++t):=by simp[dn,flatMap_cons]
  have J:=YF (h r iQ) (dn rs++t);have M:=Dp r;rw[e,RJ (by rw[J];show ¬(oM r).length=0;omega),J];simp only[drop_left];rw[BZ (λx O=>h x (by simp[O])) I];simp[dn,flatMap_cons]
def AQ:(Qy []).2=0:=by rw[Cw iQ];rfl
def R4:∀(rs:List dN) (k:Nat),k<=(dn rs).length-> ∃j t,(dn rs).take k=dn (rs.take j)++t/\(Qy t).2=0/\j<=rs.length
 |[],k,_=>⟨0,[],by simp[dn],AQ,aB⟩
 |r::rs,k,I=>by
  have e:dn (r::rs)=oM r++dn rs:=by simp[dn,flatMap_cons]
  by_cases h:k< (oM r).length
  ·refine⟨0,(oM r).take k,?_,abA h,aC _⟩;rw[e,Bp Y];simp[dn]
  rw[e,aY]at I;obtain⟨j,t,h1,J,M⟩:=R4 rs (k-(oM r).length) Y;refine⟨j+1,t,?_,J,by simp;omega⟩;rw[e,take_append,jE Y,h1];simp[dn,flatMap_cons]
def aj6{l:List UInt8}{s:Int}{r:dN}(h:aM r=0)(I:0<=s)(h1:s<=l.length)(J:l.length+46<=100000):jS l s r=(l++oM r,s,0):=by
 unfold jS;have:=Dp r;rw[ah (by simp[dS];omega),ah (by rw[aii h];simp),ah (by show ¬_<_+(oM r).length;omega)];rfl
def R6{l:List UInt8}{s:Int}{r:dN}(h:(jS l s r).2.2=0):jS l s r=(l++oM r,s,0)/\aM r=0/\l.length+(oM r).length<=100000:=by
 unfold jS at h⊢
 split at h
 ·cases h
 split at h
 ·rename_i I;exact av h I
 split at h
 ·cases h
 rename_i h1 I J
 rw[ah h1,ah I,ah J];refine⟨E,?_,by show _+(lI (qA r).1).length<=_;omega⟩;unfold qA at I
 split at I
 ·exact fM.1 I
 rename_i M;exact fM.1 M
def aj7(ro ep fr tg rd:Int)(A:Option Addr)(c:Nat)(l:List Ev)(kd qu e pe:Int)(x:Ev)(hk:¬(1<=kd/\kd<=7))(w:World)(h:Rd w w.heap.size 6 A l.length (bT l))(hb:l.length*48<=reachBytes):
 Calls prog 54 #[.agg #[D ro,D ep,D fr,D tg,D rd,.slice A l.length c],.agg #[D kd,D qu,D e,D pe,D x.kind,D x.Pv,D x.id,D x.body,D x.Qs,D x.Qz]] w (oK w (fH ⟨ro,ep,fr,tg,rd,l⟩ ⟨kd,qu,e,pe,x⟩)):=by
 have S:=(St.start w).dG h;have M:=hb;unfold reachBytes at M;refine iW 54 func54 ?_;refine cw [0,1] ?_;refine zN 2 ?_;refine jM S ?_;intro b1 w2 S3;refine jM S3 ?_;intro b4 w5 S6;refine iL S6 iI ?_;intro b7 w8 S9;refine zN 7 ?_;refine Vm eQ S9 (fF ro ep fr tg rd A c l _ (St.rd 3 S9 E) Y) ?_;intro w10 J;refine zN 6 ?_;by_cases I:aA ⟨ro,ep,fr,tg,rd,l⟩=0
 ·have O:=iX (gB I).2;dsimp only at O;refine zN 10 ?_;refine Vm eQ J (lq ⟨kd,qu,e,pe,x⟩ _) ?_;intro OE Z;refine zN 6 ?_;have hne:¬aM ⟨kd,qu,e,pe,x⟩=0:=by rw[ajR (by exact hk)];decide
  refine zN 6 ?_;refine vv kF ?_;refine zQ ?_;refine sa 0 Z kQ ?_;intro Qh uD;refine zN 6 ?_;have xK:=uD.bg [3,2,1,0];rw[Dn I hne];exact⟨none,0,iJ 0,E,aG xK⟩
 refine zN 6 ?_;refine vv kF ?_;refine zQ ?_;refine sa 0 J kQ ?_;intro w20 yj;refine zN 6 ?_;have lY:=yj.bg [3,2,1,0];rw[Dm I];exact⟨none,0,iJ 0,E,aG lY⟩
end Go.Proofs.YtceeleolddkibaaGreatDoor
