import Derived.Test.YtefabpdniidmbaaGreatDoorTie
import Derived.Deep.DeepHandedRow
import Derived.Lib.LaidTab
import Derived.Test.YtefabpdniidmbaaGreatDoorG50f7f
import Derived.Test.YtefabpdniidmbaaGreatDoorGd4de3
set_option linter.all false
set_option maxRecDepth 100000
set_option maxHeartbeats 8000000
namespace Go.Proofs.YtefabpdniidmbaaGreatDoor
open List Nat Go.Proofs.Tryz ChangeShapes WideShapes RowKit
def lG(l:List Int):List UInt8:=l.flatMap λn=>(um n).1
def Kj(n:Int):(um n).1.length<=4:=by
 unfold um
 split<;>simp[Ck]
def G9(l:List Int):(lG l).length<=4*l.length:=by
 induction l with
 |nil=>simp[lG]
 |cons n l h=>
  have:=Kj n;simp only[lG,flatMap_cons,length_append,length_cons]at*;omega
def Kk(l k:List Int):lG (l++k)=lG l++lG k:=by simp[lG]
def aeC{l:List Int}{k:Nat}{x:Int}(h:l[k]? =some x):lG (l.take (k+1))=lG (l.take k)++(um x).1:=by
 have e:l.take (k+1)=l.take k++[x]:=by rw[qY,h];rfl
 rw[e,Kk];simp[lG]
def QO(A:Option Addr)(n c:Nat)(l:List Int)(w:World)(h:Rd w w.heap.size 1 A n (Ux l))(hn:n<=1000):
 Calls prog 110 #[.slice A n c] w (kS w 5 1 (lG l).length (Jq (lG l))):=by
 obtain⟨j0,hj0,VK,VL,VN⟩:=info_parts Gj;have H:=Lib.hid h;have HL:=Lib.hid h.am4;clear h
 go_enter func110,ntmps110
 go_wp2_with fail
 go_loopw [3,10] (λv i wr=> ∃k:Nat,k<=n/\i=.int .i64 k/\Below w.heap.size w wr/\ ∃A2 c2,v=.slice A2 (lG (l.take k)).length c2/\wr.ownsRow w.heap.size 5 1 (.slice A2 (lG (l.take k)).length c2) (lG (l.take k)).length (Jq (lG (l.take k)))) (λ_ i _=>n-(intOf i).toNat)
 case atStart=>exact⟨0,aG _,E,Below.refl _ _,none,0,E,kH _ _ _ _⟩
 case round=>
  obtain⟨k,hk,rfl,hB,A2,c2,rfl,hown⟩:=hrel;have HB:=Lib.hid hB;have HO:=Lib.hid hown;have hle:=G9 (l.take k);have hlk:(l.take k).length<=k:=length_take_le _ _;by_cases hlt:k<n
  ·obtain⟨b,off,x,rfl,hb,he,c0⟩:=(H.out.below hB aB).atQ hlt;have HP:=Lib.hid (aeC he);have hl4:=Kj x;have HN:=Lib.hid (ags x);clear hB hown he;generalize lG (l.take k)=lk at HO HP hle;generalize um x=r at HP HN hl4
   go_wp2_with fail
   refine(HN.out _).mono ?_;rintro e w2 ⟨A3,c3,rfl,hb2,hr2⟩;have HB2:=Lib.hid (HB.out.trans (hb2.mono HB.out.size));have HO2:Hid (w2.ownsRow w.heap.size 5 1 (.slice A2 lk.length c2) lk.length (Jq lk)):=Lib.hid (Qj HO.out hb2);have HR2:=Lib.hid hr2;clear hb2 hr2
   go_wp2_with (at_builtin;refine kW _ E (.tmp 19) (.tmp 20) _ E w.heap.size 5 j0 _ 1 1 underlying99 hj0 VK VL VN E Y _ lk.length (Jq lk) E HO2.out w2.heap.size A3 r.1.length c3 (Jq r.1) E HR2.out (Uf _) lQ Y HB2.out.size ?_;intro v1 w3 hown1 hg1 OB)
   have HB3:=Lib.hid (HB2.out.grown hg1 HB2.out.size (HO2.out.Cg ·));obtain⟨A4,c4,rfl,_⟩:=nX hown1;rw[<-Ul]at hown1;have HO3:=Lib.hid hown1;clear hown1 hg1 OB
   go_wp2_with fail
   go_roundw
   case rel=>exact⟨k+1,by omega,by go_num,HB3.out,A4,c4,by rw[HP.out,aZ],by rw[HP.out,aZ];exact HO3.out⟩
   case measure=>simp[intOf];omega
  obtain rfl:k=n:=Y;rw[kg (by have:=HL.out;omega)]at HO hown hle⊢;clear hB hown
  go_wp2_with fail
  go_ret
  exact⟨A2,c2,E,HB.out,HO.out⟩
def iY(r:dN):List Int:=[r.kind,r.Qg,r.ME,r.UE]++if mQ r.kind=true then[r.ev.kind,r.ev.OU,r.ev.id,r.ev.body,r.ev.OZ,r.ev.PX]else[]
def qF(r:dN):List UInt8×Int:=if aO r≠0 then([],aO r)else(lG (iY r),0)
def aeD(w:World)(a b c d:Int)(t:TypeId):Rd (w.alloc (.cells #[.int .i64 a,.int .i64 b,.int .i64 c,.int .i64 d] t)) (w.heap.size+1) 1 (some ⟨w.heap.size,0,none⟩) 4 (Ux [a,b,c,d]):=
 Rd.akz w t (Ux [a,b,c,d]) 4 1 E
def ai6(w:World)(a b c d e f:Int)(t:TypeId):Rd (w.alloc (.cells #[.int .i64 a,.int .i64 b,.int .i64 c,.int .i64 d,.int .i64 e,.int .i64 f] t)) (w.heap.size+1) 1 (some ⟨w.heap.size,0,none⟩) 6 (Ux [a,b,c,d,e,f]):=
 Rd.akz w t (Ux [a,b,c,d,e,f]) 6 1 E
def ahA(r:dN)(w:World):Calls prog 84 #[r.val] w (qE w (qF r)):=by
 obtain⟨j0,hj0,VK,VL,VN⟩:=info_parts Gj;have HC:=Lib.hid (λw=>lF r w);have HR:Hid (qF r=if aO r≠0 then([],aO r)else(lG ([r.kind,r.Qg,r.ME,r.UE]++if mQ r.kind=true then[r.ev.kind,r.ev.OU,r.ev.id,r.ev.body,r.ev.OZ,r.ev.PX]else[]),0)):=Lib.hid E;generalize qF r=z at HR⊢;generalize aO r=f at HC HR;obtain⟨k,q,ep,pe,x0,x1,x2,x3,x4,x5⟩:=r;unfold dN.val at HC⊢;simp only at HC HR⊢
 go_enter func84,ntmps84
 go_wp2_with fail
 refine(HC.out _).mono ?_;rintro e w1 ⟨rfl,hb1⟩;have B0:=(iM.new w _ _).below hb1 iQ;obtain⟨c0,c1,c2,c3,c4,c5,c6,c7,c8,c9,cf⟩:=B0.mU;have hz1:w.heap.size<w1.heap.size:=B0.lt;have HB:Hid (Below w.heap.size w w1):=Lib.hid (Below.trans gQ (hb1.mono iQ));clear hb1;by_cases hf:f=0
 ·have HR2:=Lib.hid (HR.out.trans (ah (by simpa using hf)));subst hf;clear HR HC
  go_wp2_with fail
  refine(QO _ 4 4 [k,q,ep,pe] _ (by have:=aeD w1 k q ep pe 3;simpa using this) Y).mono ?_;rintro e w2 ⟨A1,d1,rfl,hb2,hown⟩;have C0:=(B0.alloc _).on hb2;have HB2:=Lib.hid ((HB.out.alloc Y _).trans (hb2.mono jQ));have HO:Hid (w2.ownsRow (w1.heap.size+1) 5 1 (.slice A1 (lG [k,q,ep,pe]).length d1) (lG [k,q,ep,pe]).length (Jq (lG [k,q,ep,pe]))):=Lib.hid (by simpa using hown);have hz2:w1.heap.size+1<=w2.heap.size:=by have:=hb2.size;simpa using this
  have aN6:w.heap.size<w2.heap.size:=Y;have hl1:=G9 [k,q,ep,pe];clear hb2 hown c0 c1 c2 c3 c4 c5 c6 c7 c8 c9 cf B0 HB;obtain⟨c0,c1,c2,c3,c4,c5,c6,c7,c8,c9,cf⟩:=C0.mU
  cases he:mQ k
  ·have e:=HR2.out;rw[ah (by rw[he];simp),bI]at e;subst e;clear HR2
   go_wp2_with (go_at_call 77;refine(iH _ _).mono ?_;rintro e w' ⟨rfl,rfl⟩;rw[he])
   go_ret2
   exact⟨A1,d1,E,HB2.out,Rd.wE HO.out⟩
  have e:=HR2.out;rw[au he,Kk]at e;subst e;clear HR2;have hl2:=G9 [x0,x1,x2,x3,x4,x5];have HP:=Lib.hid (λA c w h=>QO A 6 c [x0,x1,x2,x3,x4,x5] w h Y);simp only[length_cons,length_nil]at hl1 hl2
  go_wp2_with (go_at_call 77;refine(iH _ _).mono ?_;rintro e w' ⟨rfl,rfl⟩;rw[he])
  refine(HP.out _ _ _ (by have:=ai6 (w2.alloc (.cells #[.int .i64 x0,.int .i64 x1,.int .i64 x2,.int .i64 x3,.int .i64 x4,.int .i64 x5] 49)) x0 x1 x2 x3 x4 x5 3;simpa using this)).mono ?_;rintro e w3 ⟨A2,d2,rfl,hb3,hown2⟩;have HB3:=Lib.hid (((HB2.out.alloc Y _).alloc jQ _).trans (hb3.mono jQ));have HO2:=Lib.hid (Qj ((HO.out.alloc _).alloc _) hb3);have HR3:=Lib.hid (Rd.wE hown2);have hz3:w2.heap.size<=w3.heap.size:=by have:=hb3.size;simp at this;omega
  clear hb3 hown2 HO HB2
  go_wp2_with (at_builtin;refine kW _ E (.tmp 27) (.tmp 43) _ E (w1.heap.size+1) 5 j0 _ 1 1 underlying99 hj0 VK VL VN E Y _ (lG [k,q,ep,pe]).length (Jq (lG [k,q,ep,pe])) E HO2.out w3.heap.size A2 (lG [x0,x1,x2,x3,x4,x5]).length d2 (Jq (lG [x0,x1,x2,x3,x4,x5])) E HR3.out (Uf _) lQ Y Y ?_;intro v1 w4 hown1 hg1 OB;obtain⟨A4,d4,rfl,_⟩:=nX hown1;rw[<-Ul]at hown1)
  have HB4:=Lib.hid (HB3.out.grown hg1 HB3.out.size (λk hk=>by have:=HO2.out.Cg k hk;omega))
  go_ret2
  exact⟨A4,d4,by simp,HB4.out,by have:=Rd.wE hown1;simpa using this⟩
 have e:=HR.out.trans (au hf);subst e;have t0:(f==0)=false:=by simpa using hf
 have t0':(f != 0)=true:=by simpa using hf
 clear hf
 go_wp2_with fail
 go_ret2
 exact⟨none,0,E,HB.out,Rd.Ur⟩
def EO(l:List UInt8):Int×Int:=l.foldl (λs c=>(s.1+c.toNat,s.2+(s.1+c.toNat))) (1,0)
def ai7(l:List UInt8)(x:UInt8):EO (l++[x])=((EO l).1+x.toNat,(EO l).2+((EO l).1+x.toNat)):=by simp[EO]
def VZ{l:List UInt8}{k:Nat}{x:UInt8}(h:l[k]? =some x):EO (l.take (k+1))=((EO (l.take k)).1+x.toNat,(EO (l.take k)).2+((EO (l.take k)).1+x.toNat)):=by
 rw[<-ai7,qY,h];rfl
def aaN(l:List UInt8)(M:l.length<=1048576)(k:Nat)(O:k<=l.length):1<=(EO (l.take k)).1/\(EO (l.take k)).1<=1+255*k/\0<=(EO (l.take k)).2/\(EO (l.take k)).2<=267386881*k:=by
 induction k with
 |zero=>simp[EO]
 |succ k I=>
  have I:=I Y;have J:l[k]? =some l[k]:=eT Y;have h:(l[k]).toNat<=255:=by have:=(l[k]).toNat_lt;omega
  rw[VZ J];generalize EO (l.take k)=s at I;generalize (l[k]).toNat=v at h;obtain⟨h1,Z,h3,h4⟩:=I;refine⟨?_,?_,?_,?_⟩<;>simp only<;>omega
def Cz(l:List UInt8):Int:=(EO l).2 % 65521*65536+(EO l).1 % 65521
def Rd.aun{w:World}{B n k:Nat}{A:Option Addr}{l:List UInt8}(h:Rd w B 1 A n (Jq l))(J:k<n):∃b off x,A=some ⟨b,off,none⟩/\b<B/\l[k]? =some x/\w.cell? ⟨b,off+k,none⟩=some (.int .u8 x.toNat):=by
 obtain⟨b,off,u,e,M,I,O⟩:=h.at_ J;simp only[Jq,getElem?_map,Option.map_eq_some_iff]at I;obtain⟨x,I,rfl⟩:=I;exact⟨b,off,x,e,M,I,O⟩
def QT(A:Option Addr)(n c:Nat)(l:List UInt8)(w:World){B:Nat}(h:Rd w B 1 A n (Jq l))(hn:n<=1048576):
 Calls prog 74 #[.slice A n c] w λe w'=>e=.returned (.int .i64 (Cz l))/\ ∃q,w'=w.drewN q:=by
 have hl:=h.qD;have H:=Lib.hid h;have HL:=Lib.hid hl;have HBD:=Lib.hid (aaN l Y);have HZ0:Hid (∀z,z=Cz l->z=(EO l).2 % 65521*65536+(EO l).1 % 65521):=Lib.hid (λz h=>h);generalize hz:Cz l=z;have HZ:=Lib.hid (HZ0.out z hz.symm);clear h hl hz HZ0
 go_enter func74,ntmps74
 go_wp2_with fail
 go_loopw [3,4,9] (λa b i wr=> ∃k:Nat,k<=n/\i=.int .i64 k/\a=.int .i64 ((EO (l.take k)).1 % 65521)/\b=.int .i64 ((EO (l.take k)).2 % 65521)/\ ∃q,wr=w.drewN q) (λ_ _ i _=>n-(intOf i).toNat)
 case atStart=>exact⟨0,by omega,E,E,E,0,E⟩
 case round=>
  obtain⟨k,hk,rfl,rfl,rfl,q,rfl⟩:=hrel;obtain⟨b1,b2,b3,b4⟩:=HBD.out k (by have:=HL.out;omega);by_cases hlt:k<n
  ·obtain⟨b,off,x,rfl,hb,hx,hc⟩:=H.out.aun hlt;have hx255:x.toNat<=255:=by have:=x.toNat_lt;omega
   have HE:=Lib.hid (VZ hx);clear hx;generalize EO (l.take k)=s at HE b1 b2 b3 b4⊢;obtain⟨s1,s2⟩:=s;simp only at b1 b2 b3 b4 HE⊢;have k1:0<=s1 % 65521/\s1 % 65521<65521:=Y;have k2:0<=s2 % 65521/\s2 % 65521<65521:=Y;have HS1:Hid ((s1+(x.toNat:Int)) % 65521=(s1 % 65521+x.toNat) % 65521):=Lib.hid Y;have HS2:Hid ((s2+(s1+(x.toNat:Int))) % 65521=(s2 % 65521+(s1 % 65521+x.toNat) % 65521) % 65521):=Lib.hid Y;obtain⟨k1a,k1b⟩:=k1;obtain⟨k2a,k2b⟩:=k2;generalize s1 % 65521=u1 at HS1 HS2 k1a k1b⊢;generalize s2 % 65521=u2 at HS2 k2a k2b⊢;have m1:(u1+(x.toNat:Int)).tmod 65521=(u1+x.toNat) % 65521:=aco Y;have k3:0<=(u1+(x.toNat:Int)) % 65521/\(u1+(x.toNat:Int)) % 65521<65521:=Y;obtain⟨k3a,k3b⟩:=k3;generalize (u1+(x.toNat:Int)) % 65521=u3 at m1 HS1 HS2 k3a k3b;have m2:(u2+u3).tmod 65521=(u2+u3) % 65521:=aco Y
   go_wp2_with fail
   go_roundw
   case rel=>exact⟨k+1,by omega,by go_num,by rw[HE.out,HS1.out],by rw[HE.out,HS2.out],q,E⟩
   case measure=>simp[intOf];omega
  obtain rfl:k=n:=Y;have e1:l.take k=l:=kg (by have:=HL.out;omega);rw[e1]at b1 b2 b3 b4⊢;clear e1 HBD;generalize EO l=s at HZ b1 b2 b3 b4⊢;obtain⟨s1,s2⟩:=s;simp only at b1 b2 b3 b4 HZ⊢;have k1:0<=s1 % 65521/\s1 % 65521<65521:=Y;have k2:0<=s2 % 65521/\s2 % 65521<65521:=Y;obtain⟨k1a,k1b⟩:=k1;obtain⟨k2a,k2b⟩:=k2;have ho:=aC3 (s2 % 65521) (s1 % 65521) k2a Y k1a Y;have HO:=Lib.hid ho;clear b1 b2 b3 b4
  go_wp2_with fail
  go_ret
  exact⟨by rw[HZ.out];rfl,q,E⟩
def uY(w:World)(r:List UInt8×Int×Int)(e:Ending)(w':World):Prop:=
 ∃A c,e=.returned (.tuple #[.agg #[.slice A r.1.length c,.int .i64 r.2.1],.int .i64 r.2.2])/\Below w.heap.size w w'/\Rd w' w'.heap.size 1 A r.1.length (Jq r.1)/\ ∀a,A=some a->w.heap.size<=a.block/\a.block<w'.heap.size
def QU{w:World}{base:Nat}{e:TypeId}{size:Nat}{A:Option Addr}{n c:Nat}{xs:List Value}(h:w.ownsRow base e size (.slice A n c) n xs):∀a,A=some a->base<=a.block/\a.block<w.heap.size:=λa I=>⟨h.Cg a.block (by rw[I];rfl),by
 obtain⟨_,⟨J,_⟩|⟨g,cap,M,hv,_,O,_⟩⟩:=h
 ·cases J;cases I
 cases hv;cases I;exact(Dl.1 O).1⟩
def Zt(l:List UInt8)(s:Int):List UInt8×Int×Int:=if dX l s=true then(l,l.length,0)else([],0,6)
def CW(l:List UInt8)(s:Int):(KA l s=(l,s,true)/\dX l s=true)\/(KA l s=([],0,false)/\dX l s=false):=by
 unfold KA
 cases h:dX l s<;>simp
def rH{l:List UInt8}{s:Int}(h:dX l s=true):l.length<=100000/\0<=s/\s<=l.length:=by
 simp[dX]at h;omega
def rJ(A:Option Addr)(n c:Nat)(l:List UInt8)(s:Int)(w:World)(h:Rd w w.heap.size 1 A n (Jq l)):
 Calls prog 46 #[.agg #[.slice A n c,.int .i64 s]] w (uY w (Zt l s)):=by
 have H:=Lib.hid h;clear h;have HO:=Lib.hid (nW A n c l s)
 rcases CW l s with⟨ho,hm⟩|⟨ho,hm⟩
 ·rw[show Zt l s=(l,(l.length:Int),0)from au hm];rw[ho]at HO;obtain⟨hm1,_,_⟩:=rH hm;clear ho hm
  go_enter func46,ntmps46
  go_wp2_with fail
  refine(HO.out _ (by exact H.out.on gQ)).mono ?_;rintro e w1 ⟨A1,c1,rfl,hb1,hown1⟩;have hz0:w.heap.size<w1.heap.size:=by have:=hb1.size;simp at this;omega
  have hz1:w.heap.size+1<w1.heap.size:=by have:=hb1.size;simp at this;omega
  obtain⟨hc1,hf1⟩:=EU hb1;have HB:Hid (Below w.heap.size w w1):=Lib.hid (Below.trans gQ (hb1.mono jQ));have HR:=Lib.hid (World.ownsRow.lower (base':=w.heap.size+1+1) hown1 iQ);clear hb1 hown1
  go_wp2
  refine bodyPost_ret (v:=.tuple #[.agg #[.slice A1 l.length c1,.int .i64 l.length],.int .i64 0]) (by simp[results,results46,go_sem,hc1,hz1]<;>omega) E ?_;have hB:=HB.out;have hz:=hB.size;exact⟨A1,c1,E,by go_grown,Rd.wE ((ownsRow_setCell_below (ownsRow_setCell_below HR.out iQ _) iQ _).alloc _),λa ha=>by have:=QU HR.out a ha;refine⟨by omega,?_⟩;simp;omega⟩
 rw[show Zt l s=([],0,6)from ah (by simp[hm])];rw[ho]at HO;clear ho hm
 go_enter func46,ntmps46
 go_wp2_with fail
 refine(HO.out _ (by exact H.out.on gQ)).mono ?_;rintro e w1 ⟨A1,c1,rfl,hb1,hown1⟩;have hz0:w.heap.size<w1.heap.size:=by have:=hb1.size;simp at this;omega
 have hz1:w.heap.size+1<w1.heap.size:=by have:=hb1.size;simp at this;omega
 obtain⟨hc1,hf1⟩:=EU hb1;have HB:Hid (Below w.heap.size w w1):=Lib.hid (Below.trans gQ (hb1.mono jQ));clear hb1 hown1
 go_wp2
 refine bodyPost_ret (v:=.tuple #[.agg #[.slice none 0 0,.int .i64 0],.int .i64 6]) (by simp[results,results46,go_sem,hc1,hz1]<;>omega) E ?_;have hB:=HB.out;have hz:=hB.size;exact⟨none,0,E,by go_grown,Rd.Ur,λa ha=>by cases ha⟩
def rT(l:List UInt8)(s keep:Int):List UInt8×Int×Int:=
 if dX l s=true then if keep<0 then([],0,2)else if (l.length:Int)-s<keep then(l,l.length,0)else(l.take (s+keep).toNat,s+keep,0)else([],0,6)
def Rd.take{w:World}{B size n:Nat}{A:Option Addr}{xs:List Value}(h:Rd w B size A n xs){m:Nat}(J:m<=n):Rd w B size A m (xs.take (m*size)):=by
 refine⟨?_,λZ=>?_⟩
 ·rw[eD,h.1];exact KT (Ay _ J)
 obtain⟨b,off,e,M,O⟩:=h.2 Y;refine⟨b,off,e,M,λj u I=>O j u ?_⟩;rw[getElem?_take]at I
 split at I
 ·exact I
 cases I
def ach(l:List UInt8)(m:Nat):(Jq l).take m=Jq (l.take m):=by simp[Jq,map_take]
def aeE(A:Option Addr)(n c:Nat)(l:List UInt8)(s keep:Int)(w:World)(h:Rd w w.heap.size 1 A n (Jq l))(hm:dX l s=true)(h0:0<=keep)(hk:(l.length:Int)-s<keep):
 Calls prog 36 #[.agg #[.slice A n c,.int .i64 s],.int .i64 keep] w (uY w (l,l.length,0)):=by
 have H:=Lib.hid h;clear h;have HO:=Lib.hid (nW A n c l s);obtain⟨hm1,hs0,hs1⟩:=rH hm;rw[Eb hs0 hs1 hm1]at HO;obtain⟨s',rfl⟩:=pQ hs0;clear hm
 go_enter func36,ntmps36
 go_wp2_with fail
 refine(HO.out _ (by exact H.out.on gQ)).mono ?_;rintro e w1 ⟨A1,c1,rfl,hb1,hown1⟩;have hz0:w.heap.size<w1.heap.size:=by have:=hb1.size;simp at this;omega
 have hz1:w.heap.size+1<w1.heap.size:=by have:=hb1.size;simp at this;omega
 obtain⟨hc1,hf1⟩:=EU hb1;have HB:Hid (Below w.heap.size w w1):=Lib.hid (Below.trans gQ (hb1.mono jQ));have hcap:=KW hown1;have HR:=Lib.hid (World.ownsRow.lower (base':=w.heap.size+1+1) hown1 iQ);clear hb1 hown1;have e1:(s':Int)+((l.length:Int)-s')=l.length:=Y
 go_wp2
 refine bodyPost_ret (v:=.tuple #[.agg #[.slice A1 l.length l.length,.int .i64 l.length],.int .i64 0]) (by simp[results,results36,go_sem,hc1,hz1]<;>omega) E ?_;have hB:=HB.out;have hz:=hB.size;exact⟨A1,l.length,E,by go_grown,Rd.Nq ((ownsRow_setCell_below (ownsRow_setCell_below HR.out iQ _) iQ _).alloc _),λa ha=>by have:=QU HR.out a ha;refine⟨by omega,?_⟩;simp;omega⟩
def aaO(A:Option Addr)(n c:Nat)(l:List UInt8)(s keep:Int)(w:World)(h:Rd w w.heap.size 1 A n (Jq l))(hm:dX l s=true)(h0:0<=keep)(hk:¬(l.length:Int)-s<keep):
 Calls prog 36 #[.agg #[.slice A n c,.int .i64 s],.int .i64 keep] w (uY w (l.take (s+keep).toNat,s+keep,0)):=by
 have H:=Lib.hid h;clear h;have HO:=Lib.hid (nW A n c l s);obtain⟨hm1,hs0,hs1⟩:=rH hm;rw[Eb hs0 hs1 hm1]at HO;obtain⟨s',rfl⟩:=pQ hs0;obtain⟨k',rfl⟩:=pQ h0;have hsk:s'+k'<=l.length:=Y;have hk':(s':Int)+k'<=l.length:=Y;clear hm;rw[show((s':Int)+(k':Int)).toNat=s'+k' by omega]
 go_enter func36,ntmps36
 go_wp2_with fail
 refine(HO.out _ (by exact H.out.on gQ)).mono ?_;rintro e w1 ⟨A1,c1,rfl,hb1,hown1⟩;have hz0:w.heap.size<w1.heap.size:=by have:=hb1.size;simp at this;omega
 have hz1:w.heap.size+1<w1.heap.size:=by have:=hb1.size;simp at this;omega
 obtain⟨hc1,hf1⟩:=EU hb1;have HB:Hid (Below w.heap.size w w1):=Lib.hid (Below.trans gQ (hb1.mono jQ));have hcap:=KW hown1;have HR:=Lib.hid (World.ownsRow.lower (base':=w.heap.size+1+1) hown1 iQ);clear hb1 hown1
 go_wp2
 refine bodyPost_ret (v:=.tuple #[.agg #[.slice A1 (s'+k') (s'+k'),.int .i64 (s'+k')],.int .i64 0]) (by simp[results,results36,go_sem,hc1,hz1]<;>omega) E ?_;have hB:=HB.out;have hz:=hB.size;have hl:(l.take (s'+k')).length=s'+k':=by rw[eD];omega
 have hr:=(Rd.Nq ((ownsRow_setCell_below (ownsRow_setCell_below HR.out (a:=⟨w.heap.size+1,0,none⟩) iQ (.slice A1 (s'+k') (s'+k'))) (a:=⟨w.heap.size+1,1,none⟩) iQ (.int .i64 (s'+k'))).alloc (.cells #[.slice A1 l.length c1,.int .i64 s'] 101))).take hsk;rw[Dy,ach]at hr
 try simp only[show(s':Int)+min (k':Int) ((l.length:Int)-s')=(s':Int)+k' by omega,show((s':Int)+(k':Int)).toNat=s'+k' by omega]
 exact⟨A1,s'+k',by simp only[hl],by go_grown,by simpa only[hl]using hr,λa ha=>by have:=QU HR.out a ha;refine⟨by omega,?_⟩;simp;omega⟩
def aeF(A:Option Addr)(n c:Nat)(l:List UInt8)(s keep:Int)(w:World)(h:Rd w w.heap.size 1 A n (Jq l))(hm:dX l s=true)(h0:keep<0):
 Calls prog 36 #[.agg #[.slice A n c,.int .i64 s],.int .i64 keep] w (uY w ([],0,2)):=by
 have H:=Lib.hid h;clear h;have HO:=Lib.hid (nW A n c l s);obtain⟨hm1,hs0,hs1⟩:=rH hm;rw[Eb hs0 hs1 hm1]at HO;clear hm
 go_enter func36,ntmps36
 go_wp2_with fail
 refine(HO.out _ (by exact H.out.on gQ)).mono ?_;rintro e w1 ⟨A1,c1,rfl,hb1,hown1⟩;have hz0:w.heap.size<w1.heap.size:=by have:=hb1.size;simp at this;omega
 have hz1:w.heap.size+1<w1.heap.size:=by have:=hb1.size;simp at this;omega
 obtain⟨hc1,hf1⟩:=EU hb1;have HB:Hid (Below w.heap.size w w1):=Lib.hid (Below.trans gQ (hb1.mono jQ));have hcap:=KW hown1;have HR:=Lib.hid (World.ownsRow.lower (base':=w.heap.size+1+1) hown1 iQ);clear hb1 hown1
 go_wp2
 refine bodyPost_ret (v:=.tuple #[.agg #[.slice none 0 0,.int .i64 0],.int .i64 2]) (by simp[results,results36,go_sem,hc1,hz1]<;>omega) E ?_;have hB:=HB.out;have hz:=hB.size;exact⟨none,0,E,by go_grown,Rd.Ur,λa ha=>by cases ha⟩
def ai8(A:Option Addr)(n c:Nat)(l:List UInt8)(s keep:Int)(w:World)(h:Rd w w.heap.size 1 A n (Jq l))(hm:dX l s=false):
 Calls prog 36 #[.agg #[.slice A n c,.int .i64 s],.int .i64 keep] w (uY w ([],0,6)):=by
 have H:=Lib.hid h;clear h;have HO:=Lib.hid (nW A n c l s)
 rcases CW l s with⟨_,hm'⟩|⟨ho,_⟩
 ·rw[hm]at hm';cases hm'
 rw[ho]at HO;clear ho hm
 go_enter func36,ntmps36
 go_wp2_with fail
 refine(HO.out _ (by exact H.out.on gQ)).mono ?_;rintro e w1 ⟨A1,c1,rfl,hb1,hown1⟩;have hz0:w.heap.size<w1.heap.size:=by have:=hb1.size;simp at this;omega
 have hz1:w.heap.size+1<w1.heap.size:=by have:=hb1.size;simp at this;omega
 obtain⟨hc1,hf1⟩:=EU hb1;have HB:Hid (Below w.heap.size w w1):=Lib.hid (Below.trans gQ (hb1.mono jQ));have hcap:=KW hown1;have HR:=Lib.hid (World.ownsRow.lower (base':=w.heap.size+1+1) hown1 iQ);clear hb1 hown1
 go_wp2
 refine bodyPost_ret (v:=.tuple #[.agg #[.slice none 0 0,.int .i64 0],.int .i64 6]) (by simp[results,results36,go_sem,hc1,hz1]<;>omega) E ?_;have hB:=HB.out;have hz:=hB.size;exact⟨none,0,E,by go_grown,Rd.Ur,λa ha=>by cases ha⟩
def X8(A:Option Addr)(n c:Nat)(l:List UInt8)(s keep:Int)(w:World)(h:Rd w w.heap.size 1 A n (Jq l)):
 Calls prog 36 #[.agg #[.slice A n c,.int .i64 s],.int .i64 keep] w (uY w (rT l s keep)):=by
 unfold rT
 cases I:dX l s
 ·rw[ah iQ];exact ai8 A n c l s keep w h I
 rw[au E];by_cases M:keep<0
 ·rw[au M];exact aeF A n c l s keep w h I M
 rw[ah M];by_cases J:(l.length:Int)-s<keep
 ·rw[au J];exact aeE A n c l s keep w h I Y J
 rw[ah J];exact aaO A n c l s keep w h I Y J
def Ue(p:List UInt8):List UInt8:=UInt8.ofNat (p.length / 256)::UInt8.ofNat (p.length % 256)::p
def lN(p:List UInt8):List UInt8:=Ue p++Ck (Cz (Ue p))
def xP(p:List UInt8):(lN p).length=p.length+6:=by simp[lN,Ue,Ck]
def aaP(p:List UInt8):(Ue p).length=p.length+2:=by simp[Ue]
def aaQ{n:Int}(I:0<=n)(h1:n<=4294967295):
 Jq (Ck n)=[.int .u8 (n / 16777216),.int .u8 (n / 65536 % 256),.int .u8 (n / 256 % 256),.int .u8 (n % 256)]:=by
 have h:∀m:Int,0<=m->m<=255->((UInt8.ofNat m.toNat).toNat:Int)=m:=by
  intro m a b;simp;omega
 simp only[Jq,Ck,map_cons,map_nil];rw[h _ Y Y,h _ Y Y,h _ Y Y,h _ Y Y]
def NU(l:List UInt8):0<=Cz l/\Cz l<=4293984240:=by
 unfold Cz;omega
def ahJ(p:List UInt8)(h:p.length<=65535):Jq (Ue p)=[.int .u8 ((p.length:Int) / 256),.int .u8 ((p.length:Int) % 256)]++Jq p:=by
 simp only[Ue,Jq,map_cons,cons_append,nil_append,List.cons.injEq,Value.int.injEq,true_and,and_true]
 constructor
 ·simp;omega
 simp
def two_bytes(w:World)(a b:Int):(w.alloc (.cells #[.int .u8 a,.int .u8 b] 5)).ownsRow w.heap.size 5 1 (.slice (some ⟨w.heap.size,0,none⟩) 2 2) 2 [.int .u8 a,.int .u8 b]:=
 abA w _ 5 2 1 E (by simp[maxLen])
def aaR(w:World)(s:Int)(h:0<=s)(h1:s<=4294967295):Rd (w.alloc (.cells #[.int .u8 (s / 16777216),.int .u8 (s / 65536 % 256),.int .u8 (s / 256 % 256),.int .u8 (s % 256)] 5)) (w.heap.size+1) 1 (some ⟨w.heap.size,0,none⟩) 4 (Jq (Ck s)):=by
 rw[aaQ h h1];exact Rd.akz w 5 _ 4 1 E
def X9(A:Option Addr)(n c:Nat)(p:List UInt8)(w:World)(h:Rd w w.heap.size 1 A n (Jq p))(hn:n<=1000):
 Calls prog 85 #[.slice A n c] w (kS w 5 1 (lN p).length (Jq (lN p))):=by
 obtain⟨j0,hj0,VK,VL,VN⟩:=info_parts Gj;have hl:=h.qD;subst hl;have H:=Lib.hid h;have HC:=Lib.hid (ahJ p Y);have HS:=Lib.hid (λA n c w (h:Rd w w.heap.size 1 A n (Jq (Ue p)))=>QT A n c (Ue p) w h (by have:=h.qD;have:=aaP p;omega));have HF:Hid ((lN p).length=p.length+6/\Jq (lN p)=Jq (Ue p)++Jq (Ck (Cz (Ue p)))):=Lib.hid ⟨xP p,by rw[lN,Ul]⟩;obtain⟨s0,s1⟩:=NU (Ue p);clear h;generalize lN p=z at HF⊢;generalize Cz (Ue p)=s at HS HF s0 s1;have H4:=Lib.hid (λw=>aaR w s s0 Y);have H2:=Lib.hid (two_bytes w ((p.length:Int) / 256) ((p.length:Int) % 256))
 go_enter func85,ntmps85
 go_wp2_with (at_builtin;refine kW _ E (.tmp 12) (.tmp 13) _ E w.heap.size 5 j0 _ 1 1 underlying99 hj0 VK VL VN E Y (.slice (some ⟨w.heap.size,0,none⟩) 2 2) 2 _ E H2.out w.heap.size A p.length c (Jq p) E (by exact H.out.alloc aB _) (Uf _) lQ Y iQ ?_;intro v1 w3 hown1 hg1 OB;obtain⟨A4,c4,rfl,_⟩:=nX hown1;rw[<-HC.out]at hown1)
 have HB3:Hid (Below w.heap.size w w3):=Lib.hid (Below.grown gQ hg1 iQ (λk hk=>by simp[Value.ownBlock]at hk;omega));have HO3:=Lib.hid hown1;have HR3:=Lib.hid (Rd.wE hown1);have hz3:w.heap.size<w3.heap.size:=by have:=hg1.size;simp at this;omega
 clear hown1 hg1 OB
 go_wp2_with fail
 refine(HS.out _ _ _ _ (by exact HR3.out)).mono ?_;rintro e w4 ⟨rfl,q,rfl⟩;have HO4:Hid ((w3.drewN q).ownsRow w.heap.size 5 1 (.slice A4 (2+p.length) c4) (2+p.length) (Jq (Ue p))):=HO3;have HB4:=Lib.hid (LU HB3.out q);have hz4:w.heap.size< (w3.drewN q).heap.size:=hz3;clear HO3 HR3;generalize w3.drewN q=w4 at HO4 HB4 hz4⊢
 go_wp2_with (at_builtin;refine kW _ E (.tmp 17) (.tmp 29) _ E w.heap.size 5 j0 _ 1 1 underlying99 hj0 VK VL VN E Y _ (2+p.length) (Jq (Ue p)) E (HO4.out.alloc _) (w4.heap.size+1) (some ⟨w4.heap.size,0,none⟩) 4 4 (Jq (Ck s)) E (H4.out w4) (Uf _) lQ Y jQ ?_;intro v1 w5 hown1 hg1 OB;obtain⟨A5,c5,rfl,_⟩:=nX hown1;rw[<-HF.out.2,show 2+p.length+4=z.length by rw[HF.out.1];omega]at hown1)
 have HB5:=Lib.hid (((HB4.out.alloc Y _).grown hg1 jQ (λk hk=>HO4.out.Cg k hk)))
 go_ret
 rw[show 2+p.length+4=z.length by rw[HF.out.1];omega];exact⟨A5,c5,E,HB5.out,hown1⟩
def jZ(l:List UInt8)(s:Int)(r:dN):List UInt8×Int×Int:=
 if dX l s=false then([],0,6)else if (qF r).2≠0 then([],0,(qF r).2)else if 100000<l.length+(lN (qF r).1).length then([],0,14)else(l++lN (qF r).1,s,0)
def He(r:dN):(qF r).1.length<=40:=by
 unfold qF
 split
 ·simp
 have:=G9 (iY r);have h:(iY r).length<=10:=by unfold iY;split<;>simp
 simp only;omega
def Hf:(prog.info? 101).map (·.size)=some 2:=kQ
def Kl(A:Option Addr)(n c:Nat)(l:List UInt8)(s:Int)(r:dN)(w:World)(h:Rd w w.heap.size 1 A n (Jq l)):
 Calls prog 63 #[.agg #[.slice A n c,.int .i64 s],r.val] w (uY w (jZ l s r)):=by
 obtain⟨j0,hj0,VK,VL,VN⟩:=info_parts Gj;have HO0:=Lib.hid (λw h=>nW A n c l s w h);have HE0:=Lib.hid (λw=>ahA r w);have hel:=He r;have HR:Hid (jZ l s r=if dX l s=false then([],0,6)else if (qF r).2≠0 then([],0,(qF r).2)else if 100000<l.length+(lN (qF r).1).length then([],0,14)else(l++lN (qF r).1,s,0)):=Lib.hid E;have HOM:=Lib.hid (CW l s);have HM:=Lib.hid (rH (l:=l) (s:=s));have H:=Lib.hid h;have hl:=h.qD;subst hl;clear h;generalize jZ l s r=z at HR⊢;generalize qF r=em at HE0 hel HR;obtain⟨pl,pe⟩:=em;obtain⟨k,q,ep,pr,x0,x1,x2,x3,x4,x5⟩:=r;unfold dN.val at HE0⊢;simp only at HE0 HR hel⊢;have HFr:=Lib.hid (λA n c w h hn=>X9 A n c pl w h hn);have hfl:=xP pl;generalize lN pl=fr at HFr hfl HR;have aN7:fr.length<=46:=Y;clear hfl
 go_enter func63,ntmps63
 go_wp2_with fail
 refine(HO0.out _ (by exact H.out.on gQ)).mono ?_;rintro e w1 ⟨A1,c1,rfl,hb1,hown⟩;have B1:=((iM.new1 w _ _ _).alloc _).below hb1 (by simp<;>omega);have B2:=(iM.new2 w _ _ _ _).below hb1 iQ;have hz1:w.heap.size+2<w1.heap.size:=B2.lt;have aN8:w.heap.size<w1.heap.size:=Y;have aN9:w.heap.size+1<w1.heap.size:=Y;have HB:Hid (Below w.heap.size w w1):=Lib.hid (Below.trans gQ (hb1.mono jQ));clear hb1
 rcases HOM.out with⟨e1,e2⟩|⟨e1,e2⟩
 ·rw[e1]at hown⊢;simp only at hown⊢;have HR2:=Lib.hid (HR.out.trans (ah (by rw[e2];simp)));obtain⟨m1,m2,m3⟩:=HM.out e2;have M1:=Lib.hid m1;have mi:(l.length:Int)<=100000:=Y;clear m1;have HO:Hid (w1.ownsRow (w.heap.size+1+1+1) 5 1 (.slice A1 l.length c1) l.length (Jq l)):=Lib.hid (by simpa using hown);have HA1:Hid (∀k,(Value.slice A1 l.length c1).ownBlock=some k->w.heap.size+1+1<k/\k<w1.heap.size):=Lib.hid (λk hk=>⟨by have:=HO.out.Cg k hk;omega,GD HO.out k hk⟩);clear e1 e2 hown HOM HM HR;have B1:=B1.alloc (.cells #[.slice A1 l.length c1,.int .i64 s] 101);have B2:=B2.alloc (.cells #[.slice A1 l.length c1,.int .i64 s] 101);have B3:=iM.new w1 #[.slice A1 l.length c1,.int .i64 s] 101;have HB:=Lib.hid (HB.out.alloc Y (.cells #[.slice A1 l.length c1,.int .i64 s] 101));have HO:=Lib.hid (HO.out.alloc (.cells #[.slice A1 l.length c1,.int .i64 s] 101));obtain⟨c0,d1,d2,d3,d4,d5,d6,d7,d8,d9,cf⟩:=B1.mU
  go_wp2_with fail
  have hz2:w.heap.size+2< (w1.alloc (.cells #[.slice A1 l.length c1,.int .i64 s] 101)).heap.size:=by simp;omega
  have hz3:w1.heap.size< (w1.alloc (.cells #[.slice A1 l.length c1,.int .i64 s] 101)).heap.size:=by simp
  clear c0 d1 d2 d3 d4 d5 d6 d7 d8 d9 cf;generalize w1.alloc (.cells #[.slice A1 l.length c1,.int .i64 s] 101)=w2 at B1 B2 B3 HB HO hz2 hz3⊢;refine(HE0.out _).mono ?_;rintro e w3 ⟨A2,c2,rfl,hb3,hr3⟩;simp only at hr3;have B2:=B2.on hb3;have B3:=B3.on hb3;have HO:=Lib.hid (Qj HO.out hb3);have HB:=Lib.hid (HB.out.trans (hb3.mono HB.out.size));have hz4:w2.heap.size<=w3.heap.size:=hb3.size;have HR3:=Lib.hid hr3;clear hb3 hr3 HE0 B1;simp only;by_cases he:pe=0
  ·have akK:=Lib.hid (HR2.out.trans (ah (by simpa using he)));subst he;clear HR2
   go_wp2_with fail
   refine(HFr.out A2 pl.length c2 _ HR3.out Y).mono ?_;rintro e w4 ⟨A3,c3,rfl,hb4,apG⟩;have B2:=B2.on hb4;have B3:=B3.on hb4;have HO:=Lib.hid (Qj HO.out hb4);have HB:=Lib.hid (HB.out.trans (hb4.mono HB.out.size));have hz5:w3.heap.size<=w4.heap.size:=hb4.size;have HR4:=Lib.hid (Rd.wE apG);obtain⟨b0,b1,bf⟩:=B3.xZ;clear hb4 apG HR3 HFr;by_cases hbig:100000<l.length+fr.length
   ·have e:=akK.out.trans (au hbig);subst e;have hd1:(100000:Int)< (l.length:Int)+(fr.length:Int):=Y;clear akK hbig
    go_wp2_with (refine TS E _ (.tmp 4) (.tmp 37) E (w.heap.size+1+1) E _ E _ _ B2 Hf E E ?_;intro w9 Mc EM)
    have HU:Hid (Below w.heap.size w w9):=Lib.hid (EM.next HB.out Y);obtain⟨r0,r1,rf⟩:=Mc.xZ
    go_wp2_with fail
    refine bodyPost_ret (v:=.tuple #[.agg #[.slice none 0 0,.int .i64 0],.int .i64 14]) (by simp[results,results63,go_sem,r0,r1]) E ?_;exact⟨none,0,E,HU.out,Rd.Ur,λa ha=>by cases ha⟩
   have e:=akK.out.trans (ah hbig);subst e;have hd1:(l.length:Int)+(fr.length:Int)<=100000:=Y;clear akK hbig
   go_wp2_with (first
    |(at_builtin;refine kW _ E (.tmp 39) (.tmp 40) _ E (w.heap.size+1+1+1) 5 j0 _ 1 1 underlying99 hj0 VK VL VN E Y _ l.length (Jq l) E HO.out w4.heap.size A3 fr.length c3 (Jq fr) E HR4.out (Uf _) lQ Y Y ?_;intro v1 w5 hown1 hg1 OB;obtain⟨A5,c5,rfl,_⟩:=nX hown1;rw[<-Ul]at hown1;have hne:=GD HO.out;have hlw:=HO.out.Cg;have HNE:=Lib.hid (asz OB (λk=>k≠w1.heap.size/\w.heap.size+1+1<k) (λk hk=>by have:=HA1.out k hk;omega) Y);have E3:=B3.grown hg1 (λe=>by have:=HA1.out _ e;omega);have E2:=B2.grown hg1 (λe=>by have:=hlw _ e;omega);have HB5:=Lib.hid (HB.out.grown hg1 Y (λk hk=>by have:=hlw k hk;omega));have HO5:=Lib.hid hown1;clear hown1 hg1 OB hne hlw b0 b1 bf;obtain⟨b0,b1,bf⟩:=E3.xZ)
    |(refine TS rfl _ (.tmp 4) (.tmp 43) rfl (w.heap.size+1+1) rfl _ rfl _ _ ((GH w5 w1.heap.size 0 (.slice A5 (l.length+fr.length) c5)).Oy E2 Y) Hf rfl rfl ?_;intro w9 Mc EM))
   have U6:=GH w5 w1.heap.size 0 (.slice A5 (l.length+fr.length) c5);have HU:Hid (Below w.heap.size w w9):=Lib.hid (EM.next (U6.next HB5.out Y) Y);have HO9:=EM.own (U6.own HO5.out (λk hk=>(HNE.out k hk).1)) (λk hk=>by have:=HNE.out k hk;omega);obtain⟨r0,r1,rf⟩:=Mc.xZ;refine bodyPost_ret (v:=.tuple #[.agg #[.slice A5 (l.length+fr.length) c5,.int .i64 s],.int .i64 0]) (by simp[results,results63,go_sem,r0,r1]) E ?_;exact⟨A5,c5,by simp,HU.out,by have:=Rd.wE HO9;simpa using this,λa ha=>by have:=QU HO9 a ha;omega⟩
  have e:=HR2.out.trans (au he);subst e;have t0:(pe==0)=false:=by simpa using he
  have t0':(pe != 0)=true:=by simpa using he
  clear he HR2
  go_wp2_with (refine TS E _ (.tmp 4) (.tmp 26) E (w.heap.size+1+1) E _ E _ _ B2 Hf E E ?_;intro w9 Mc EM)
  have HU:Hid (Below w.heap.size w w9):=Lib.hid (EM.next HB.out Y);obtain⟨r0,r1,rf⟩:=Mc.xZ
  go_wp2_with fail
  refine bodyPost_ret (v:=.tuple #[.agg #[.slice none 0 0,.int .i64 0],.int .i64 pe]) (by simp[results,results63,go_sem,r0,r1]) E ?_;exact⟨none,0,E,HU.out,Rd.Ur,λa ha=>by cases ha⟩
 rw[e1]at hown⊢;simp only at hown⊢;have e:=HR.out.trans (au e2);subst e;clear e1 e2 HR HOM HM hown;have B2:=B2.alloc (.cells #[.slice A1 ([]:List UInt8).length c1,.int .i64 0] 101);have HB:=Lib.hid (HB.out.alloc Y (.cells #[.slice A1 ([]:List UInt8).length c1,.int .i64 0] 101))
 go_wp2_with (refine TS E _ (.tmp 4) (.tmp 18) E (w.heap.size+1+1) E _ E _ _ B2 Hf E E ?_;intro w9 Mc EM)
 have HU:Hid (Below w.heap.size w w9):=Lib.hid (EM.next HB.out Y);obtain⟨r0,r1,rf⟩:=Mc.xZ
 go_wp2_with fail
 refine bodyPost_ret (v:=.tuple #[.agg #[.slice none 0 0,.int .i64 0],.int .i64 6]) (by simp[results,results63,go_sem,r0,r1]) E ?_;exact⟨none,0,E,HU.out,Rd.Ur,λa ha=>by cases ha⟩
section
open ChangeAt
def anJ:ownKnob prog.godebug=none:=kQ
def ai9:prog.globalNamed "berthshift/directory.nowhere" =some 0:=kQ
def ahK:(prog.globals[0]?).map (·.type)=some 27:=kQ
def lt_of_cell{w:World}{p:Addr}{u:Value}(h:w.cell? p=some u):p.block<w.heap.size:=by
 rcases sF p.block w.heap.size with h1|h1
 ·exact h1
 have I:w.heap[p.block]? =none:=KI h1;simp[World.cell?,I]at h
section
variable {H:Type}{enc:TypeId×Value->H}{P:Program}
def aci{f:FuncId}{fn:Func}{s:ChangeSpec}{bt:TypeId}(J:abz P fn.params.toList=true)(I:s.vars=[])(hres:fn.resultTypes= #[bt])(hbt:P.underlying bt=some .bool)
  (hs:∀ds:List (DataW H),ds.length=fn.params.toList.length->s.fn H ds={results:=[.lit (.bool true)],args:=ds})
  (W:World) (base:Nat) (args:Array Value) (ds gs:List (DataW H)) (M:List MemPlace)
  (walk:fD (TN P W) args.toList fn.params.toList->Calls P f args W λe W'=>e=.returned (.bool true)/\Below W.heap.size W W')
  (hval:∀(j:Nat) t v,fn.params[j]? =some t->args[j]? =some v->Value.okWide P W .any base t v)
  (hW:DataW.Whole enc P fn.params.toList s.vars false W args.toList ds gs M)
  (hz:(DataW.weightsEach P (fn.params.toList++s.plain.varTypes P) (ds++gs)).all (· <=reachBytes)=true):
  Calls P f args W λe W'=> ∃v,e=.returned v/\s.post enc P fn false true false false W args v W':=by
 simp only[abz,Bool.and_eq_true,all_eq_true,decide_eq_true_eq]at J;obtain⟨hl,J⟩:=J;have hW':=hW;have hlt:=hW.lt;obtain⟨p,q,hA,hV,rfl,_,_⟩:=hW;rw[I]at hV;have hg:gs=[]/\q=[]:=by
  cases gs with
  |nil=>exact⟨E,hV⟩
  |cons g gs=>exact hV.elim
 obtain⟨rfl,rfl⟩:=hg;have hvt:s.plain.varTypes P=[]:=by unfold DataSpec.varTypes ChangeSpec.plain;simp[I]
 rw[hvt,bI,bI]at hz;have hzz:∀b∈DataW.weightsEach P fn.params.toList ds,b<=reachBytes:=λb hb=>by simpa using all_eq_true.1 hz b hb
 have O:=aby hA (λj t v h1 h2=>hval j t v (by simpa using h1) (by simpa using h2)) (λt ht=>(J t ht).1.1) hzz (λx hx=>hlt x (aP.2 (.inl hx)));have hlen:ds.length=fn.params.toList.length:=by
  have:∀ {ts:List TypeId} {vs:List Value} {ds:List (DataW H)} {ps:List MemPlace},DataW.TrodAll enc P W 0 (λ_=>true) true ts vs ds ps->ds.length=ts.length:=by
   intro ts
   induction ts with
   |nil=>intro vs ds ps h;obtain⟨_,rfl,_⟩:=trodAll_nil h;rfl
   |cons t ts ih=>
    intro vs ds ps h;obtain⟨v,vs',d,ds',p,q,rfl,rfl,rfl,h0,h1⟩:=trodAll_cons h;simp[ih h1]
  exact this hA
 refine(walk O).mono λe W' ⟨he,hb⟩=>?_;have Z:=hs (ds++[]) (by simpa using hlen);refine⟨_,he,ds,[],p++[],[],p,[],hW',?_,?_,?_,hb.frame _,λh=>by cases h⟩
 ·rw[Z,hres];exact trodAll_mk1 (shut_bool hbt true)
 ·rw[Z];simp only[append_nil];exact Fg hl hb hA (λt ht=>⟨(J t ht).1.2,(J t ht).2⟩) (λx hx=>hlt x (aP.2 (.inl hx)))
 rw[Z,I];simp[DataW.TrodVars]
end
end
def aja(w:World)(e:Ending)(w':World):Prop:=e=.returned (.agg #[.int .i64 (-1),.int .i64 0,.int .i64 (-1),.int .i64 0,.int .i64 (-1),.int .i64 0,.int .i64 (-1),.int .i64 0])/\Below w.heap.size w w'
def O9:Nat->Array Value
 | 0=> #[.int .i64 0,.int .i64 0,.int .i64 0,.int .i64 0,.int .i64 0,.int .i64 0,.int .i64 0,.int .i64 0]
 |k+1=>((O9 k).setIfInBounds (k*2) (.int .i64 (-1))).setIfInBounds (k*2+1) (.int .i64 0)
def aaS(k:Nat):(O9 k).size=8:=by
 induction k with
 |zero=>rfl
 |succ k h=>simp[O9,h]
def QV(k j:Nat)(h:j<8):∃u,(O9 k)[j]? =some u:=⟨_,x9 (by rw[aaS];exact h)⟩
def aaT(w:World)(hn:Nw w):Calls prog 29 #[] w (aja w):=by
 have HN:=Lib.hid hn;clear hn
 go_enter func29,ntmps29
 go_wp2_with fail
 go_loopw [3] (λi wr=> ∃k:Nat,k<=4/\i=.int .i64 k/\iM wr w.heap.size #[.int .i64 0,.int .i64 0,.int .i64 0,.int .i64 0,.int .i64 0,.int .i64 0,.int .i64 0,.int .i64 0] 30/\iM wr (w.heap.size+1) (O9 k) 30/\Below w.heap.size w wr) (λi _=>4-(intOf i).toNat)
 case atStart=>exact⟨0,by omega,E,(iM.new _ _ _).alloc _,iM.new1 _ _ _ _,by go_grown⟩
 case round=>
  obtain⟨k,hk,rfl,h0,h1,hb⟩:=hrel;have hsz:w.heap.size<=wr.heap.size:=hb.size;have H0:=Lib.hid h0;have H1:=Lib.hid h1;have HB:=Lib.hid hb;by_cases hlt:k<4
  ·obtain⟨g0,g1,g2⟩:=HN.out.on hb;obtain⟨u,hu⟩:=QV k (k*2) Y;obtain⟨u',hu'⟩:=QV k (k*2+1) Y;have c0:=h1.cell hu;have c1:=h1.cell hu';have cf:=h1.free;clear h0 h1 hb hu hu'
   go_wp2_with fail
   go_roundw
   case rel=>
    have hB:=HB.out;exact⟨k+1,by omega,by go_num,(H0.out.other _ iQ _).other _ iQ _,(H1.out.yO _ _).yO _ _,by go_grown⟩
   case measure=>simp[intOf];omega
  obtain rfl:k=4:=Y;have e4:O9 4= #[.int .i64 (-1),.int .i64 0,.int .i64 (-1),.int .i64 0,.int .i64 (-1),.int .i64 0,.int .i64 (-1),.int .i64 0]:=rfl;rw[e4]at h1;clear e4;obtain⟨c0,c1,c2,c3,c4,c5,c6,c7,cf⟩:=h1.ED;obtain⟨r0,r1,r2,r3,r4,r5,r6,r7,rf⟩:=h0.ED;clear h0 h1 H1
  go_wp2_with fail
  refine bodyPost_ret (v:=.agg #[.int .i64 (-1),.int .i64 0,.int .i64 (-1),.int .i64 0,.int .i64 (-1),.int .i64 0,.int .i64 (-1),.int .i64 0]) (by simp[results,results29,go_sem,r0,r1,r2,r3,r4,r5,r6,r7]) E ?_;have hB:=HB.out;exact⟨E,by go_grown⟩
end Go.Proofs.YtefabpdniidmbaaGreatDoor
