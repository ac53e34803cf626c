import Derived.Test.YtceeleolddkibaaGreatDoorG5fe45
import Derived.Test.YtceeleolddkibaaGreatDoorGb49f5
import Derived.Test.YtceeleolddkibaaGreatDoorGd9da9
set_option linter.all false
set_option maxRecDepth 100000
set_option maxHeartbeats 8000000
namespace Go.Proofs.YtceeleolddkibaaGreatDoor
open List Nat Go.Proofs.Tryz ChangeShapes WideShapes RowKit
def vG(w:World)(r:List UInt8×Int×Int)(e:Ending)(w':World):Prop:=
 ∃A c,e=.returned (.tuple #[.agg #[.slice A r.1.length c,.int .i64 r.2.1],.int .i64 r.2.2])/\Below w.heap.size w w'/\Rd w' w'.heap.size 1 A r.1.length (JV r.1)/\ ∀a,A=some a->w.heap.size<=a.block/\a.block<w'.heap.size
def Rz{w:World}{base:Nat}{e:TypeId}{size:Nat}{A:Option Addr}{n c:Nat}{xs:List Value}(h:w.ownsRow base e size (.slice A n c) n xs):∀a,A=some a->base<=a.block/\a.block<w.heap.size:=λa I=>⟨h.CB a.block (by rw[I];rfl),by
 obtain⟨_,⟨J,_⟩|⟨g,cap,M,hv,_,O,_⟩⟩:=h
 ·cases J;cases I
 cases hv;cases I;exact(Dy.1 O).1⟩
def ZU(l:List UInt8)(s:Int):List UInt8×Int×Int:=if dS l s=true then(l,l.length,0)else([],0,6)
def Di(l:List UInt8)(s:Int):(La l s=(l,s,true)/\dS l s=true)\/(La l s=([],0,false)/\dS l s=false):=by
 unfold La
 cases h:dS l s<;>simp
def rO{l:List UInt8}{s:Int}(h:dS l s=true):l.length<=100000/\0<=s/\s<=l.length:=by
 simp[dS]at h;omega
def rP(A:Option Addr)(n c:Nat)(l:List UInt8)(s:Int)(w:World)(h:Rd w w.heap.size 1 A n (JV l)):
 Calls prog 40 #[.agg #[.slice A n c,.int .i64 s]] w (vG w (ZU l s)):=by
 have H:=Lib.hid h;clear h;have HO:=Lib.hid (nX A n c l s)
 rcases Di l s with⟨ho,hm⟩|⟨ho,hm⟩
 ·rw[show ZU l s=(l,(l.length:Int),0)from aj hm];rw[ho]at HO;obtain⟨hm1,_,_⟩:=rO hm;clear ho hm
  go_enter func40,Tryz.ntmps40
  go_wp2_with fail
  refine(HO.out _ (by exact H.out.on gQ)).mono ?_;rintro e w1 ⟨A1,c1,rfl,hb1,hown1⟩;have hz0:w.heap.size<w1.heap.size:=by have:=hb1.size;simp at this;omega
  have hz1:w.heap.size+1<w1.heap.size:=by have:=hb1.size;simp at this;omega
  obtain⟨hc1,hf1⟩:=FE hb1;have HB:Hid (Below w.heap.size w w1):=Lib.hid (Below.trans gQ (hb1.mono jQ));have HR:=Lib.hid (World.ownsRow.lower (base':=w.heap.size+1+1) hown1 iQ);clear hb1 hown1
  go_wp2
  refine bodyPost_ret (v:=.tuple #[.agg #[.slice A1 l.length c1,.int .i64 l.length],.int .i64 0]) (by simp[results,Tryz.results40,go_sem,hc1,hz1]<;>omega) E ?_;have hB:=HB.out;have hz:=hB.size;exact⟨A1,c1,E,by go_grown,Rd.wZ ((ownsRow_setCell_below (ownsRow_setCell_below HR.out iQ _) iQ _).alloc _),λa ha=>by have:=Rz HR.out a ha;refine⟨by omega,?_⟩;simp;omega⟩
 rw[show ZU l s=([],0,6)from ah (by simp[hm])];rw[ho]at HO;clear ho hm
 go_enter func40,Tryz.ntmps40
 go_wp2_with fail
 refine(HO.out _ (by exact H.out.on gQ)).mono ?_;rintro e w1 ⟨A1,c1,rfl,hb1,hown1⟩;have hz0:w.heap.size<w1.heap.size:=by have:=hb1.size;simp at this;omega
 have hz1:w.heap.size+1<w1.heap.size:=by have:=hb1.size;simp at this;omega
 obtain⟨hc1,hf1⟩:=FE hb1;have HB:Hid (Below w.heap.size w w1):=Lib.hid (Below.trans gQ (hb1.mono jQ));clear hb1 hown1
 go_wp2
 refine bodyPost_ret (v:=.tuple #[.agg #[.slice none 0 0,.int .i64 0],.int .i64 6]) (by simp[results,Tryz.results40,go_sem,hc1,hz1]<;>omega) E ?_;have hB:=HB.out;have hz:=hB.size;exact⟨none,0,E,by go_grown,Rd.UZ,λa ha=>by cases ha⟩
def rY(l:List UInt8)(s keep:Int):List UInt8×Int×Int:=
 if dS l s=true then if keep<0 then([],0,2)else if (l.length:Int)-s<keep then(l,l.length,0)else(l.take (s+keep).toNat,s+keep,0)else([],0,6)
def Rd.take{w:World}{B size n:Nat}{A:Option Addr}{xs:List Value}(h:Rd w B size A n xs){m:Nat}(J:m<=n):Rd w B size A m (xs.take (m*size)):=by
 refine⟨?_,λZ=>?_⟩
 ·rw[dV,h.1];exact LH (Bd _ J)
 obtain⟨b,off,e,M,O⟩:=h.2 Y;refine⟨b,off,e,M,λj u I=>O j u ?_⟩;rw[getElem?_take]at I
 split at I
 ·exact I
 cases I
def acY(l:List UInt8)(m:Nat):(JV l).take m=JV (l.take m):=by simp[JV,map_take]
def ae9(A:Option Addr)(n c:Nat)(l:List UInt8)(s keep:Int)(w:World)(h:Rd w w.heap.size 1 A n (JV l))(hm:dS l s=true)(h0:0<=keep)(hk:(l.length:Int)-s<keep):
 Calls prog 30 #[.agg #[.slice A n c,.int .i64 s],.int .i64 keep] w (vG w (l,l.length,0)):=by
 have H:=Lib.hid h;clear h;have HO:=Lib.hid (nX A n c l s);obtain⟨hm1,hs0,hs1⟩:=rO hm;rw[Es hs0 hs1 hm1]at HO;obtain⟨s',rfl⟩:=oF hs0;clear hm
 go_enter func30,Tryz.ntmps30
 go_wp2_with fail
 refine(HO.out _ (by exact H.out.on gQ)).mono ?_;rintro e w1 ⟨A1,c1,rfl,hb1,hown1⟩;have hz0:w.heap.size<w1.heap.size:=by have:=hb1.size;simp at this;omega
 have hz1:w.heap.size+1<w1.heap.size:=by have:=hb1.size;simp at this;omega
 obtain⟨hc1,hf1⟩:=FE hb1;have HB:Hid (Below w.heap.size w w1):=Lib.hid (Below.trans gQ (hb1.mono jQ));have hcap:=LJ hown1;have HR:=Lib.hid (World.ownsRow.lower (base':=w.heap.size+1+1) hown1 iQ);clear hb1 hown1;have e1:(s':Int)+((l.length:Int)-s')=l.length:=Y
 go_wp2
 refine bodyPost_ret (v:=.tuple #[.agg #[.slice A1 l.length l.length,.int .i64 l.length],.int .i64 0]) (by simp[results,Tryz.results30,go_sem,hc1,hz1]<;>omega) E ?_;have hB:=HB.out;have hz:=hB.size;exact⟨A1,l.length,E,by go_grown,Rd.Oe ((ownsRow_setCell_below (ownsRow_setCell_below HR.out iQ _) iQ _).alloc _),λa ha=>by have:=Rz HR.out a ha;refine⟨by omega,?_⟩;simp;omega⟩
def abk(A:Option Addr)(n c:Nat)(l:List UInt8)(s keep:Int)(w:World)(h:Rd w w.heap.size 1 A n (JV l))(hm:dS l s=true)(h0:0<=keep)(hk:¬(l.length:Int)-s<keep):
 Calls prog 30 #[.agg #[.slice A n c,.int .i64 s],.int .i64 keep] w (vG w (l.take (s+keep).toNat,s+keep,0)):=by
 have H:=Lib.hid h;clear h;have HO:=Lib.hid (nX A n c l s);obtain⟨hm1,hs0,hs1⟩:=rO hm;rw[Es hs0 hs1 hm1]at HO;obtain⟨s',rfl⟩:=oF hs0;obtain⟨k',rfl⟩:=oF h0;have hsk:s'+k'<=l.length:=Y;have hk':(s':Int)+k'<=l.length:=Y;clear hm;rw[show((s':Int)+(k':Int)).toNat=s'+k' by omega]
 go_enter func30,Tryz.ntmps30
 go_wp2_with fail
 refine(HO.out _ (by exact H.out.on gQ)).mono ?_;rintro e w1 ⟨A1,c1,rfl,hb1,hown1⟩;have hz0:w.heap.size<w1.heap.size:=by have:=hb1.size;simp at this;omega
 have hz1:w.heap.size+1<w1.heap.size:=by have:=hb1.size;simp at this;omega
 obtain⟨hc1,hf1⟩:=FE hb1;have HB:Hid (Below w.heap.size w w1):=Lib.hid (Below.trans gQ (hb1.mono jQ));have hcap:=LJ hown1;have HR:=Lib.hid (World.ownsRow.lower (base':=w.heap.size+1+1) hown1 iQ);clear hb1 hown1
 go_wp2
 refine bodyPost_ret (v:=.tuple #[.agg #[.slice A1 (s'+k') (s'+k'),.int .i64 (s'+k')],.int .i64 0]) (by simp[results,Tryz.results30,go_sem,hc1,hz1]<;>omega) E ?_;have hB:=HB.out;have hz:=hB.size;have hl:(l.take (s'+k')).length=s'+k':=by rw[dV];omega
 have hr:=(Rd.Oe ((ownsRow_setCell_below (ownsRow_setCell_below HR.out (a:=⟨w.heap.size+1,0,none⟩) iQ (.slice A1 (s'+k') (s'+k'))) (a:=⟨w.heap.size+1,1,none⟩) iQ (.int .i64 (s'+k'))).alloc (.cells #[.slice A1 l.length c1,.int .i64 s'] 91))).take hsk;rw[Bq,acY]at hr
 try simp only[show(s':Int)+min (k':Int) ((l.length:Int)-s')=(s':Int)+k' by omega,show((s':Int)+(k':Int)).toNat=s'+k' by omega]
 exact⟨A1,s'+k',by simp only[hl],by go_grown,by simpa only[hl]using hr,λa ha=>by have:=Rz HR.out a ha;refine⟨by omega,?_⟩;simp;omega⟩
def afa(A:Option Addr)(n c:Nat)(l:List UInt8)(s keep:Int)(w:World)(h:Rd w w.heap.size 1 A n (JV l))(hm:dS l s=true)(h0:keep<0):
 Calls prog 30 #[.agg #[.slice A n c,.int .i64 s],.int .i64 keep] w (vG w ([],0,2)):=by
 have H:=Lib.hid h;clear h;have HO:=Lib.hid (nX A n c l s);obtain⟨hm1,hs0,hs1⟩:=rO hm;rw[Es hs0 hs1 hm1]at HO;clear hm
 go_enter func30,Tryz.ntmps30
 go_wp2_with fail
 refine(HO.out _ (by exact H.out.on gQ)).mono ?_;rintro e w1 ⟨A1,c1,rfl,hb1,hown1⟩;have hz0:w.heap.size<w1.heap.size:=by have:=hb1.size;simp at this;omega
 have hz1:w.heap.size+1<w1.heap.size:=by have:=hb1.size;simp at this;omega
 obtain⟨hc1,hf1⟩:=FE hb1;have HB:Hid (Below w.heap.size w w1):=Lib.hid (Below.trans gQ (hb1.mono jQ));have hcap:=LJ hown1;have HR:=Lib.hid (World.ownsRow.lower (base':=w.heap.size+1+1) hown1 iQ);clear hb1 hown1
 go_wp2
 refine bodyPost_ret (v:=.tuple #[.agg #[.slice none 0 0,.int .i64 0],.int .i64 2]) (by simp[results,Tryz.results30,go_sem,hc1,hz1]<;>omega) E ?_;have hB:=HB.out;have hz:=hB.size;exact⟨none,0,E,by go_grown,Rd.UZ,λa ha=>by cases ha⟩
def ajH(A:Option Addr)(n c:Nat)(l:List UInt8)(s keep:Int)(w:World)(h:Rd w w.heap.size 1 A n (JV l))(hm:dS l s=false):
 Calls prog 30 #[.agg #[.slice A n c,.int .i64 s],.int .i64 keep] w (vG w ([],0,6)):=by
 have H:=Lib.hid h;clear h;have HO:=Lib.hid (nX A n c l s)
 rcases Di l s with⟨_,hm'⟩|⟨ho,_⟩
 ·rw[hm]at hm';cases hm'
 rw[ho]at HO;clear ho hm
 go_enter func30,Tryz.ntmps30
 go_wp2_with fail
 refine(HO.out _ (by exact H.out.on gQ)).mono ?_;rintro e w1 ⟨A1,c1,rfl,hb1,hown1⟩;have hz0:w.heap.size<w1.heap.size:=by have:=hb1.size;simp at this;omega
 have hz1:w.heap.size+1<w1.heap.size:=by have:=hb1.size;simp at this;omega
 obtain⟨hc1,hf1⟩:=FE hb1;have HB:Hid (Below w.heap.size w w1):=Lib.hid (Below.trans gQ (hb1.mono jQ));have hcap:=LJ hown1;have HR:=Lib.hid (World.ownsRow.lower (base':=w.heap.size+1+1) hown1 iQ);clear hb1 hown1
 go_wp2
 refine bodyPost_ret (v:=.tuple #[.agg #[.slice none 0 0,.int .i64 0],.int .i64 6]) (by simp[results,Tryz.results30,go_sem,hc1,hz1]<;>omega) E ?_;have hB:=HB.out;have hz:=hB.size;exact⟨none,0,E,by go_grown,Rd.UZ,λa ha=>by cases ha⟩
def Yt(A:Option Addr)(n c:Nat)(l:List UInt8)(s keep:Int)(w:World)(h:Rd w w.heap.size 1 A n (JV l)):
 Calls prog 30 #[.agg #[.slice A n c,.int .i64 s],.int .i64 keep] w (vG w (rY l s keep)):=by
 unfold rY
 cases I:dS l s
 ·rw[ah iQ];exact ajH A n c l s keep w h I
 rw[aj E];by_cases M:keep<0
 ·rw[aj M];exact afa A n c l s keep w h I M
 rw[ah M];by_cases J:(l.length:Int)-s<keep
 ·rw[aj J];exact ae9 A n c l s keep w h I Y J
 rw[ah J];exact abk A n c l s keep w h I Y J
structure FL (m:Nat)(now:List Ld):Prop where
 len:now.length<=4
 each:∀x∈now,(0<=x.work/\x.work<=1073741824)/\(0<=x.node/\x.node<m)/\0<=x.Qu/\x.Qu<4
 inj:∀(i j:Nat) (x y:Ld),now[i]? =some x->now[j]? =some y->x.Qu=y.Qu->i=j
def Gs{nodes:Int}{l:List Ld}(h:Jj nodes l):∀(k:Nat) (i:Nat) (x y:Ld),i<k->l[i]? =some x->l[k]? =some y->x.Qu<y.Qu
 | 0,_,_,_,hi,_,_=>av hi (G9 _)
 |k+1,i,x,y,hi,hx,hy=>by
  have M:k<l.length:=by have:=(cK.1 hy).1;omega
  have I:l[k]? =some l[k]:=dJ M;have h1:=(h (k+1) y hy).1;rw[Gn I]at h1
  rcases sO.1 hi with J|J
  ·exact Ho (Gs h k i x _ J hx I) h1
  subst J;rw[I]at hx
  cases hx;exact h1
def FL.start{nodes:Int}{l:List Ld}(h:Jj nodes l)(hn:1<=nodes):FL nodes.toNat l where
 len:=aeC h
 each:=λx I=>by
  obtain⟨k,O,rfl⟩:=DX I;have J:l[k]? =some l[k]:=dJ O;have h1:=KF h k _ J;have Z:=h k _ J;unfold En at Z;omega
 inj:=λi j x y I M e=>by
  rcases LD i j with h1|h1|h1
  ·have:=Gs h j i x y h1 I M;omega
  ·exact h1
  have:=Gs h i j y x h1 M I;omega
def yu{now:List Ld}{b to i:Nat}:(oW now b to)[i]? =(now[i]?).map λx=>if b=i then{x with node:=(to:Int)}else x:=by
 unfold oW;rw[List.getElem?_modify]
 cases now[i]? with
 |none=>rfl
 |some x=>by_cases h:b=i<;>simp[h]
def Gt{now:List Ld}{b to:Nat}:(oW now b to).length=now.length:=by simp[oW]
def FL.move{m:Nat}{now:List Ld}{b to:Nat}(h:FL m now)(ht:to<m):FL m (oW now b to) where
 len:=by rw[Gt];exact h.len
 each:=λx I=>by
  obtain⟨k,J,rfl⟩:=DX I;have M:=dJ J;rw[yu]at M;rw[Gt]at J;rw[dJ J]at M;simp only[Option.map_some,Option.some.injEq]at M;have h1:=h.each _ (Bb J);rw[<-M];by_cases hb:b=k
  ·rw[aj hb];refine⟨h1.1,⟨?_,?_⟩,h1.2.2⟩<;>dsimp only<;>omega
  rw[ah hb];exact h1
 inj:=λi j x y I hy e=>by
  rw[yu]at I hy;obtain⟨x0,O,rfl⟩:=wE.1 I;obtain⟨y0,Z,rfl⟩:=wE.1 hy;refine h.inj i j x0 y0 O Z ?_;have:∀(z:Ld) (b i:Nat),(if b=i then({z with node:=(to:Int)}:Ld)else z).Qu=z.Qu:=λz b i=>by split<;>rfl
  rw[this,this]at e;exact e
def ah3{now:List Ld}{b to:Nat}:uN (iO now) (b*3+1) [.int .i64 to]=iO (oW now b to):=by
 show(iO now).set (b*3+1) _=_
 unfold oW
 induction now generalizing b with
 |nil=>simp[iO]
 |cons x xs h=>
  cases b with
  |zero=>rfl
  |succ b=>
   have e:(b+1)*3+1=b*3+1+1+1+1:=by omega
   rw[e]
   show(_::_::_::(iO xs)).set _ _=_
   rw[Bf,Bf,Bf,h];rfl
section
variable {m k:Nat}{now:List Ld}{gone:Nat->Bool}{b:Nat}
def ajI(h:xk m now gone=none):sH m (k+1) now gone=[]:=by rw[sH,h]
def ajJ(h:xk m now gone=some b):sH m (k+1) now gone=⟨Bo now b,qz m now,oI m now⟩::sH m k (oW now b (oI m now)) (λj=>decide (j=b) || gone j):=by rw[sH,h]
def ac1(h:xk m now gone=some b):b<now.length:=by
 have:=vT (wants now gone (qz m now) (xH m now)) (Fe now) now.length;unfold xk at h;rw[h]at this;exact this.2.1
def EC{x:Ld}{i:Nat}(h:now[i]? =some x):Fe now i=x.work:=by unfold Fe;rw[h]
def abl{x:Ld}{i:Nat}(h:now[i]? =some x):Bo now i=x.Qu:=by unfold Bo;rw[h]
def ajK{x:Ld}{i fr:Nat}{gap:Int}(h:now[i]? =some x):wants now gone fr gap i=(!gone i&&decide (x.node=fr/\x.work≠0/\x.work<gap)):=by unfold wants;rw[h]
def ED{C:Nat->Bool}{f:Nat->Int}{i:Nat}(h:C i=false):kW C f (i+1)=kW C f i:=by rw[kW,ah (by simp[h])]
def abm{C:Nat->Bool}{f:Nat->Int}{i:Nat}(h:C i=true)(I:kW C f i=none):kW C f (i+1)=some i:=by rw[kW,aj h,I]
def Yu{C:Nat->Bool}{f:Nat->Int}{i:Nat}(h:C i=true)(I:kW C f i=some b)(J:f b<f i):kW C f (i+1)=some i:=by rw[kW,aj h,I];exact aj J
def Yv{C:Nat->Bool}{f:Nat->Int}{i:Nat}(h:C i=true)(I:kW C f i=some b)(J:¬f b<f i):kW C f (i+1)=some b:=by rw[kW,aj h,I];exact ah J
def afb{C:Nat->Bool}{f:Nat->Int}{i:Nat}(h:kW C f i=some b):b<i:=by have:=vT C f i;rw[h]at this;exact this.2.1
end
def Both(now:List Ld)(gone moved:Nat->Bool):Prop:= ∀(i:Nat) (x:Ld),now[i]? =some x->moved x.Qu.toNat=gone i
def Both.move{m:Nat}{now:List Ld}{gone moved:Nat->Bool}{b to:Nat}{y:Ld}(h:Both now gone moved)(M:FL m now)(O:now[b]? =some y):Both (oW now b to) (λj=>decide (j=b) || gone j) (λj=>decide (j=y.Qu.toNat) || moved j):=λi x Z=>by
 rw[yu]at Z;obtain⟨J,I,rfl⟩:=wE.1 Z;have hq:∀(z:Ld) (b i:Nat),(if b=i then({z with node:=(to:Int)}:Ld)else z).Qu=z.Qu:=λz b i=>by split<;>rfl
 rw[hq];dsimp only;rw[h i J I]
 congr 1
 have h1:=(M.each J (jm I)).2.2;have h2:=(M.each y (jm O)).2.2;by_cases e:i=b
 ·subst e;rw[O]at I
  cases I;simp
 have:J.Qu.toNat≠y.Qu.toNat:=λe2=>e (M.inj i b J y I O (by omega));simp[e,this]
def Ld.cells(x:Ld):List Value:=[.int .i64 x.Qu,.int .i64 x.node,.int .i64 x.work]
def aol(l:List Ld):∀u∈l.flatMap Ld.cells,u.oneCell'=true:=Cm l
section
variable {P:Program}{w w' w0:World}{B:Nat}{fs:List Nf}
def St.az2{b:Nat}{row:Array Value}{t:TypeId}(S:St B w0 w fs)(J:Below w.heap.size w w')(h:w.heap.size<=b)(I:iq w' b row t):St B w0 w' (.Pj b row t::fs):=by
 refine(S.on J).cons ⟨fG S.base h,I⟩ λk I i g M e=>?_
 cases I;have:=(Nf.ou (S.all i g M) e).2;omega
def IB{t e:TypeId}{b n c:Nat}{i:Int}{kd:IntKind}(k:Nat)(I:P.underlying t=some (.slice e))(J:(P.info? e).map (·.size)=some 1)(h:i=k)(M:k<n):
 (Instr.indexAt t (.slice (some ⟨b,0,none⟩) n c) (.int kd i)).run P w=.ok (.pointer (some ⟨b,k,none⟩)) w:=by
 have:=jD (w:=w) (b:=b) (off:=0) (c:=c) (kd:=kd) k I J h M;rwa [Bq,fq]at this
end
def aom(w:World)(r:List rz×Int)(e:Ending)(w':World):Prop:= ∃A c,e=.returned (.tuple #[.slice A r.1.length c,.int .i64 r.2])/\St w.heap.size w w' [.dB 3 A r.1.length (r.1.flatMap rz.cells)]
def abn(n:Nat)(hn:n<=4)(w:World):(Instr.makeSlice 67 (.int .i64 (n:Int)) (.int .i64 (n:Int))).run prog w=.ok (.slice (some ⟨w.heap.size,0,none⟩) n n) (w.alloc (.cells (sI (λ_=>false) n) 4)):=by
 obtain⟨O,I,J,h,M⟩:=info_parts (P:=prog) (e:=4) (z:=.bool false) (size:=1) (bytes:=1) (by kernel_rfl);have:=run_makeSlice (P:=prog) w 67 4 O _ Tryz.underlying67 I J .i64 .i64 (n:Int) (n:Int) (by omega) (by omega) (by rw[h];omega) (by rw[M];omega) (by omega);rw[this,h,dW,aaZ]
end Go.Proofs.YtceeleolddkibaaGreatDoor
