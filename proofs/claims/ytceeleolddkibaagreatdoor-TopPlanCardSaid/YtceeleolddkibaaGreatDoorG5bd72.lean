import Derived.Test.YtceeleolddkibaaGreatDoorG45bda
import Derived.Test.YtceeleolddkibaaGreatDoorG5fe45
import Derived.Test.YtceeleolddkibaaGreatDoorGb49f5
set_option linter.all false
set_option maxRecDepth 100000
set_option maxHeartbeats 8000000
namespace Go.Proofs.YtceeleolddkibaaGreatDoor
open List Nat Go.Proofs.Tryz ChangeShapes WideShapes RowKit
def lu(l:List Int):List UInt8:=l.flatMap λn=>(uI n).1
def KS(n:Int):(uI n).1.length<=4:=by
 unfold uI
 split<;>simp[CG]
def Iz(l:List Int):(lu l).length<=4*l.length:=by
 induction l with
 |nil=>simp[lu]
 |cons n l h=>
  have:=KS n;simp only[lu,flatMap_cons,length_append,length_cons]at*;omega
def KT(l k:List Int):lu (l++k)=lu l++lu k:=by simp[lu]
def ae7{l:List Int}{k:Nat}{x:Int}(h:l[k]? =some x):lu (l.take (k+1))=lu (l.take k)++(uI x).1:=by
 have e:l.take (k+1)=l.take k++[x]:=by rw[mQ,h];rfl
 rw[e,KT];simp[lu]
def Ry(A:Option Addr)(n c:Nat)(l:List Int)(w:World)(h:Rd w w.heap.size 1 A n (Ve l))(hn:n<=1000):
 Calls prog 104 #[.slice A n c] w (kK w 5 1 (lu l).length (JV (lu l))):=by
 obtain⟨j0,hj0,Wt,Wu,Wv⟩:=info_parts Hg;have H:=Lib.hid h;have HL:=Lib.hid h.am1;clear h
 go_enter func104,Tryz.ntmps104
 go_wp2_with fail
 go_loopw [3,10] (λv i wr=> ∃k:Nat,k<=n/\i=.int .i64 k/\Below w.heap.size w wr/\ ∃A2 c2,v=.slice A2 (lu (l.take k)).length c2/\wr.ownsRow w.heap.size 5 1 (.slice A2 (lu (l.take k)).length c2) (lu (l.take k)).length (JV (lu (l.take k)))) (λ_ i _=>n-(intOf i).toNat)
 case atStart=>exact⟨0,aC _,E,Below.refl _ _,none,0,E,kC _ _ _ _⟩
 case round=>
  obtain⟨k,hk,rfl,hB,A2,c2,rfl,hown⟩:=hrel;have HB:=Lib.hid hB;have HO:=Lib.hid hown;have hle:=Iz (l.take k);have hlk:(l.take k).length<=k:=length_take_le _ _;by_cases hlt:k<n
  ·obtain⟨b,off,x,rfl,hb,he,c0⟩:=(H.out.below hB aB).as2 hlt;have HP:=Lib.hid (ae7 he);have hl4:=KS x;have HN:=Lib.hid (afm x);clear hB hown he;generalize lu (l.take k)=lk at HO HP hle;generalize uI x=r at HP HN hl4
   go_wp2_with fail
   refine(HN.out _).mono ?_;rintro e w2 ⟨A3,c3,rfl,hb2,hr2⟩;have HB2:=Lib.hid (HB.out.trans (hb2.mono HB.out.size));have HO2:Hid (w2.ownsRow w.heap.size 5 1 (.slice A2 lk.length c2) lk.length (JV lk)):=Lib.hid (QU HO.out hb2);have HR2:=Lib.hid hr2;clear hb2 hr2
   go_wp2_with (at_builtin;refine kP _ E (.tmp 19) (.tmp 20) _ E w.heap.size 5 j0 _ 1 1 Tryz.underlying89 hj0 Wt Wu Wv E Y _ lk.length (JV lk) E HO2.out w2.heap.size A3 r.1.length c3 (JV r.1) E HR2.out (UO _) lQ Y HB2.out.size ?_;intro v1 w3 hown1 hg1 Pk)
   have HB3:=Lib.hid (HB2.out.grown hg1 HB2.out.size (HO2.out.CB ·));obtain⟨A4,c4,rfl,_⟩:=nZ hown1;rw[<-UW]at hown1;have HO3:=Lib.hid hown1;clear hown1 hg1 Pk
   go_wp2_with fail
   go_roundw
   case rel=>exact⟨k+1,by omega,by go_num,HB3.out,A4,c4,by rw[HP.out,aY],by rw[HP.out,aY];exact HO3.out⟩
   case measure=>simp[intOf];omega
  obtain rfl:k=n:=Y;rw[jE (by have:=HL.out;omega)]at HO hown hle⊢;clear hB hown
  go_wp2_with fail
  go_ret
  exact⟨A2,c2,E,HB.out,HO.out⟩
def iU(r:dN):List Int:=[r.kind,r.Qu,r.Pf,r.Vk]++if mF r.kind=true then[r.ev.kind,r.ev.Pv,r.ev.id,r.ev.body,r.ev.Qs,r.ev.Qz]else[]
def qA(r:dN):List UInt8×Int:=if aM r≠0 then([],aM r)else(lu (iU r),0)
def ae8(w:World)(a b c d:Int)(t:TypeId):Rd (w.alloc (.cells #[.int .i64 a,.int .i64 b,.int .i64 c,.int .i64 d] t)) (w.heap.size+1) 1 (some ⟨w.heap.size,0,none⟩) 4 (Ve [a,b,c,d]):=
 Rd.ale w t (Ve [a,b,c,d]) 4 1 E
def ajG(w:World)(a b c d e f:Int)(t:TypeId):Rd (w.alloc (.cells #[.int .i64 a,.int .i64 b,.int .i64 c,.int .i64 d,.int .i64 e,.int .i64 f] t)) (w.heap.size+1) 1 (some ⟨w.heap.size,0,none⟩) 6 (Ve [a,b,c,d,e,f]):=
 Rd.ale w t (Ve [a,b,c,d,e,f]) 6 1 E
def ah2(r:dN)(w:World):Calls prog 78 #[r.val] w (qy w (qA r)):=by
 obtain⟨j0,hj0,Wt,Wu,Wv⟩:=info_parts Hg;have HC:=Lib.hid (λw=>lq r w);have HR:Hid (qA r=if aM r≠0 then([],aM r)else(lu ([r.kind,r.Qu,r.Pf,r.Vk]++if mF r.kind=true then[r.ev.kind,r.ev.Pv,r.ev.id,r.ev.body,r.ev.Qs,r.ev.Qz]else[]),0)):=Lib.hid E;generalize qA r=z at HR⊢;generalize aM r=f at HC HR;obtain⟨k,q,ep,pe,x0,x1,x2,x3,x4,x5⟩:=r;unfold dN.val at HC⊢;simp only at HC HR⊢
 go_enter func78,ntmps78
 go_wp2_with fail
 refine(HC.out _).mono ?_;rintro e w1 ⟨rfl,hb1⟩;have B0:=(iq.new w _ _).below hb1 iQ;obtain⟨c0,c1,c2,c3,c4,c5,c6,c7,c8,c9,cf⟩:=B0.mM;have hz1:w.heap.size<w1.heap.size:=B0.lt;have HB:Hid (Below w.heap.size w w1):=Lib.hid (Below.trans gQ (hb1.mono iQ));clear hb1;by_cases hf:f=0
 ·have HR2:=Lib.hid (HR.out.trans (ah (by simpa using hf)));subst hf;clear HR HC
  go_wp2_with fail
  refine(Ry _ 4 4 [k,q,ep,pe] _ (by have:=ae8 w1 k q ep pe 3;simpa using this) Y).mono ?_;rintro e w2 ⟨A1,d1,rfl,hb2,hown⟩;have C0:=(B0.alloc _).on hb2;have HB2:=Lib.hid ((HB.out.alloc Y _).trans (hb2.mono jQ));have HO:Hid (w2.ownsRow (w1.heap.size+1) 5 1 (.slice A1 (lu [k,q,ep,pe]).length d1) (lu [k,q,ep,pe]).length (JV (lu [k,q,ep,pe]))):=Lib.hid (by simpa using hown);have hz2:w1.heap.size+1<=w2.heap.size:=by have:=hb2.size;simpa using this
  have aM4:w.heap.size<w2.heap.size:=Y;have hl1:=Iz [k,q,ep,pe];clear hb2 hown c0 c1 c2 c3 c4 c5 c6 c7 c8 c9 cf B0 HB;obtain⟨c0,c1,c2,c3,c4,c5,c6,c7,c8,c9,cf⟩:=C0.mM
  cases he:mF k
  ·have e:=HR2.out;rw[ah (by rw[he];simp),bI]at e;subst e;clear HR2
   go_wp2_with (go_at_call 71;refine(iC _ _).mono ?_;rintro e w' ⟨rfl,rfl⟩;rw[he])
   go_ret2
   exact⟨A1,d1,E,HB2.out,Rd.wZ HO.out⟩
  have e:=HR2.out;rw[aj he,KT]at e;subst e;clear HR2;have hl2:=Iz [x0,x1,x2,x3,x4,x5];have HP:=Lib.hid (λA c w h=>Ry A 6 c [x0,x1,x2,x3,x4,x5] w h Y);simp only[length_cons,length_nil]at hl1 hl2
  go_wp2_with (go_at_call 71;refine(iC _ _).mono ?_;rintro e w' ⟨rfl,rfl⟩;rw[he])
  refine(HP.out _ _ _ (by have:=ajG (w2.alloc (.cells #[.int .i64 x0,.int .i64 x1,.int .i64 x2,.int .i64 x3,.int .i64 x4,.int .i64 x5] 53)) x0 x1 x2 x3 x4 x5 3;simpa using this)).mono ?_;rintro e w3 ⟨A2,d2,rfl,hb3,hown2⟩;have HB3:=Lib.hid (((HB2.out.alloc Y _).alloc jQ _).trans (hb3.mono jQ));have HO2:=Lib.hid (QU ((HO.out.alloc _).alloc _) hb3);have HR3:=Lib.hid (Rd.wZ hown2);have hz3:w2.heap.size<=w3.heap.size:=by have:=hb3.size;simp at this;omega
  clear hb3 hown2 HO HB2
  go_wp2_with (at_builtin;refine kP _ E (.tmp 27) (.tmp 43) _ E (w1.heap.size+1) 5 j0 _ 1 1 Tryz.underlying89 hj0 Wt Wu Wv E Y _ (lu [k,q,ep,pe]).length (JV (lu [k,q,ep,pe])) E HO2.out w3.heap.size A2 (lu [x0,x1,x2,x3,x4,x5]).length d2 (JV (lu [x0,x1,x2,x3,x4,x5])) E HR3.out (UO _) lQ Y Y ?_;intro v1 w4 hown1 hg1 Pk;obtain⟨A4,d4,rfl,_⟩:=nZ hown1;rw[<-UW]at hown1)
  have HB4:=Lib.hid (HB3.out.grown hg1 HB3.out.size (λk hk=>by have:=HO2.out.CB k hk;omega))
  go_ret2
  exact⟨A4,d4,by simp,HB4.out,by have:=Rd.wZ hown1;simpa using this⟩
 have e:=HR.out.trans (aj hf);subst e;have t0:(f==0)=false:=by simpa using hf
 have t0':(f != 0)=true:=by simpa using hf
 clear hf
 go_wp2_with fail
 go_ret2
 exact⟨none,0,E,HB.out,Rd.UZ⟩
end Go.Proofs.YtceeleolddkibaaGreatDoor
