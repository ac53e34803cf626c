import Derived.Test.YtceeleolddkibaaGreatDoorG5bd72
import Derived.Test.YtceeleolddkibaaGreatDoorGd9b5f
import Derived.Test.YtceeleolddkibaaGreatDoorGf4ad5
set_option linter.all false
set_option maxRecDepth 100000
set_option maxHeartbeats 8000000
namespace Go.Proofs.YtceeleolddkibaaGreatDoor
open List Nat Go.Proofs.Tryz ChangeShapes WideShapes RowKit
def jS(l:List UInt8)(s:Int)(r:dN):List UInt8×Int×Int:=
 if dS l s=false then([],0,6)else if (qA r).2≠0 then([],0,(qA r).2)else if 100000<l.length+(lI (qA r).1).length then([],0,14)else(l++lI (qA r).1,s,0)
def IE(r:dN):(qA r).1.length<=40:=by
 unfold qA
 split
 ·simp
 have:=Iz (iU r);have h:(iU r).length<=10:=by unfold iU;split<;>simp
 simp only;omega
def IG:(prog.info? 91).map (·.size)=some 2:=kQ
def KW(A:Option Addr)(n c:Nat)(l:List UInt8)(s:Int)(r:dN)(w:World)(h:Rd w w.heap.size 1 A n (JV l)):
 Calls prog 57 #[.agg #[.slice A n c,.int .i64 s],r.val] w (vG w (jS l s r)):=by
 obtain⟨j0,hj0,Wt,Wu,Wv⟩:=info_parts Hg;have HO0:=Lib.hid (λw h=>nX A n c l s w h);have HE0:=Lib.hid (λw=>ah2 r w);have hel:=IE r;have HR:Hid (jS l s r=if dS l s=false then([],0,6)else if (qA r).2≠0 then([],0,(qA r).2)else if 100000<l.length+(lI (qA r).1).length then([],0,14)else(l++lI (qA r).1,s,0)):=Lib.hid E;have HOM:=Lib.hid (Di l s);have HM:=Lib.hid (rO (l:=l) (s:=s));have H:=Lib.hid h;have hl:=h.qx;subst hl;clear h;generalize jS l s r=z at HR⊢;generalize qA r=em at HE0 hel HR;obtain⟨pl,pe⟩:=em;obtain⟨k,q,ep,pr,x0,x1,x2,x3,x4,x5⟩:=r;unfold dN.val at HE0⊢;simp only at HE0 HR hel⊢;have HFr:=Lib.hid (λA n c w h hn=>Yw A n c pl w h hn);have hfl:=yw pl;generalize lI pl=fr at HFr hfl HR;have aNd:fr.length<=46:=Y;clear hfl
 go_enter func57,Tryz.ntmps57
 go_wp2_with fail
 refine(HO0.out _ (by exact H.out.on gQ)).mono ?_;rintro e w1 ⟨A1,c1,rfl,hb1,hown⟩;have B1:=((iq.new1 w _ _ _).alloc _).below hb1 (by simp<;>omega);have B2:=(iq.new2 w _ _ _ _).below hb1 iQ;have hz1:w.heap.size+2<w1.heap.size:=B2.lt;have aNe:w.heap.size<w1.heap.size:=Y;have aNf:w.heap.size+1<w1.heap.size:=Y;have HB:Hid (Below w.heap.size w w1):=Lib.hid (Below.trans gQ (hb1.mono jQ));clear hb1
 rcases HOM.out with⟨e1,e2⟩|⟨e1,e2⟩
 ·rw[e1]at hown⊢;simp only at hown⊢;have HR2:=Lib.hid (HR.out.trans (ah (by rw[e2];simp)));obtain⟨m1,m2,m3⟩:=HM.out e2;have M1:=Lib.hid m1;have mi:(l.length:Int)<=100000:=Y;clear m1;have HO:Hid (w1.ownsRow (w.heap.size+1+1+1) 5 1 (.slice A1 l.length c1) l.length (JV l)):=Lib.hid (by simpa using hown);have HA1:Hid (∀k,(Value.slice A1 l.length c1).ownBlock=some k->w.heap.size+1+1<k/\k<w1.heap.size):=Lib.hid (λk hk=>⟨by have:=HO.out.CB k hk;omega,Ig HO.out k hk⟩);clear e1 e2 hown HOM HM HR;have B1:=B1.alloc (.cells #[.slice A1 l.length c1,.int .i64 s] 91);have B2:=B2.alloc (.cells #[.slice A1 l.length c1,.int .i64 s] 91);have B3:=iq.new w1 #[.slice A1 l.length c1,.int .i64 s] 91;have HB:=Lib.hid (HB.out.alloc Y (.cells #[.slice A1 l.length c1,.int .i64 s] 91));have HO:=Lib.hid (HO.out.alloc (.cells #[.slice A1 l.length c1,.int .i64 s] 91));obtain⟨c0,d1,d2,d3,d4,d5,d6,d7,d8,d9,cf⟩:=B1.mM
  go_wp2_with fail
  have hz2:w.heap.size+2< (w1.alloc (.cells #[.slice A1 l.length c1,.int .i64 s] 91)).heap.size:=by simp;omega
  have hz3:w1.heap.size< (w1.alloc (.cells #[.slice A1 l.length c1,.int .i64 s] 91)).heap.size:=by simp
  clear c0 d1 d2 d3 d4 d5 d6 d7 d8 d9 cf;generalize w1.alloc (.cells #[.slice A1 l.length c1,.int .i64 s] 91)=w2 at B1 B2 B3 HB HO hz2 hz3⊢;refine(HE0.out _).mono ?_;rintro e w3 ⟨A2,c2,rfl,hb3,hr3⟩;simp only at hr3;have B2:=B2.on hb3;have B3:=B3.on hb3;have HO:=Lib.hid (QU HO.out hb3);have HB:=Lib.hid (HB.out.trans (hb3.mono HB.out.size));have hz4:w2.heap.size<=w3.heap.size:=hb3.size;have HR3:=Lib.hid hr3;clear hb3 hr3 HE0 B1;simp only;by_cases he:pe=0
  ·have alv:=Lib.hid (HR2.out.trans (ah (by simpa using he)));subst he;clear HR2
   go_wp2_with fail
   refine(HFr.out A2 pl.length c2 _ HR3.out Y).mono ?_;rintro e w4 ⟨A3,c3,rfl,hb4,aqi⟩;have B2:=B2.on hb4;have B3:=B3.on hb4;have HO:=Lib.hid (QU HO.out hb4);have HB:=Lib.hid (HB.out.trans (hb4.mono HB.out.size));have hz5:w3.heap.size<=w4.heap.size:=hb4.size;have HR4:=Lib.hid (Rd.wZ aqi);obtain⟨b0,b1,bf⟩:=B3.yK;clear hb4 aqi HR3 HFr;by_cases hbig:100000<l.length+fr.length
   ·have e:=alv.out.trans (aj hbig);subst e;have hd1:(100000:Int)< (l.length:Int)+(fr.length:Int):=Y;clear alv hbig
    go_wp2_with (refine UC E _ (.tmp 4) (.tmp 37) E (w.heap.size+1+1) E _ E _ _ B2 IG E E ?_;intro w9 MS Fv)
    have HU:Hid (Below w.heap.size w w9):=Lib.hid (Fv.next HB.out Y);obtain⟨r0,r1,rf⟩:=MS.yK
    go_wp2_with fail
    refine bodyPost_ret (v:=.tuple #[.agg #[.slice none 0 0,.int .i64 0],.int .i64 14]) (by simp[results,Tryz.results57,go_sem,r0,r1]) E ?_;exact⟨none,0,E,HU.out,Rd.UZ,λa ha=>by cases ha⟩
   have e:=alv.out.trans (ah hbig);subst e;have hd1:(l.length:Int)+(fr.length:Int)<=100000:=Y;clear alv hbig
   go_wp2_with (first
    |(at_builtin;refine kP _ E (.tmp 39) (.tmp 40) _ E (w.heap.size+1+1+1) 5 j0 _ 1 1 Tryz.underlying89 hj0 Wt Wu Wv E Y _ l.length (JV l) E HO.out w4.heap.size A3 fr.length c3 (JV fr) E HR4.out (UO _) lQ Y Y ?_;intro v1 w5 hown1 hg1 Pk;obtain⟨A5,c5,rfl,_⟩:=nZ hown1;rw[<-UW]at hown1;have hne:=Ig HO.out;have hlw:=HO.out.CB;have HNE:=Lib.hid (asU Pk (λk=>k≠w1.heap.size/\w.heap.size+1+1<k) (λk hk=>by have:=HA1.out k hk;omega) Y);have E3:=B3.grown hg1 (λe=>by have:=HA1.out _ e;omega);have E2:=B2.grown hg1 (λe=>by have:=hlw _ e;omega);have HB5:=Lib.hid (HB.out.grown hg1 Y (λk hk=>by have:=hlw k hk;omega));have HO5:=Lib.hid hown1;clear hown1 hg1 Pk hne hlw b0 b1 bf;obtain⟨b0,b1,bf⟩:=E3.yK)
    |(refine UC rfl _ (.tmp 4) (.tmp 43) rfl (w.heap.size+1+1) rfl _ rfl _ _ ((Ih w5 w1.heap.size 0 (.slice A5 (l.length+fr.length) c5)).Pj E2 Y) IG rfl rfl ?_;intro w9 MS Fv))
   have U6:=Ih w5 w1.heap.size 0 (.slice A5 (l.length+fr.length) c5);have HU:Hid (Below w.heap.size w w9):=Lib.hid (Fv.next (U6.next HB5.out Y) Y);have HO9:=Fv.own (U6.own HO5.out (λk hk=>(HNE.out k hk).1)) (λk hk=>by have:=HNE.out k hk;omega);obtain⟨r0,r1,rf⟩:=MS.yK;refine bodyPost_ret (v:=.tuple #[.agg #[.slice A5 (l.length+fr.length) c5,.int .i64 s],.int .i64 0]) (by simp[results,Tryz.results57,go_sem,r0,r1]) E ?_;exact⟨A5,c5,by simp,HU.out,by have:=Rd.wZ HO9;simpa using this,λa ha=>by have:=Rz HO9 a ha;omega⟩
  have e:=HR2.out.trans (aj he);subst e;have t0:(pe==0)=false:=by simpa using he
  have t0':(pe != 0)=true:=by simpa using he
  clear he HR2
  go_wp2_with (refine UC E _ (.tmp 4) (.tmp 26) E (w.heap.size+1+1) E _ E _ _ B2 IG E E ?_;intro w9 MS Fv)
  have HU:Hid (Below w.heap.size w w9):=Lib.hid (Fv.next HB.out Y);obtain⟨r0,r1,rf⟩:=MS.yK
  go_wp2_with fail
  refine bodyPost_ret (v:=.tuple #[.agg #[.slice none 0 0,.int .i64 0],.int .i64 pe]) (by simp[results,Tryz.results57,go_sem,r0,r1]) E ?_;exact⟨none,0,E,HU.out,Rd.UZ,λa ha=>by cases ha⟩
 rw[e1]at hown⊢;simp only at hown⊢;have e:=HR.out.trans (aj e2);subst e;clear e1 e2 HR HOM HM hown;have B2:=B2.alloc (.cells #[.slice A1 ([]:List UInt8).length c1,.int .i64 0] 91);have HB:=Lib.hid (HB.out.alloc Y (.cells #[.slice A1 ([]:List UInt8).length c1,.int .i64 0] 91))
 go_wp2_with (refine UC E _ (.tmp 4) (.tmp 18) E (w.heap.size+1+1) E _ E _ _ B2 IG E E ?_;intro w9 MS Fv)
 have HU:Hid (Below w.heap.size w w9):=Lib.hid (Fv.next HB.out Y);obtain⟨r0,r1,rf⟩:=MS.yK
 go_wp2_with fail
 refine bodyPost_ret (v:=.tuple #[.agg #[.slice none 0 0,.int .i64 0],.int .i64 6]) (by simp[results,Tryz.results57,go_sem,r0,r1]) E ?_;exact⟨none,0,E,HU.out,Rd.UZ,λa ha=>by cases ha⟩
end Go.Proofs.YtceeleolddkibaaGreatDoor
