import Derived.Test.YtcomidffhiilcaaGreatDoorG05324
import Derived.Test.YtcomidffhiilcaaGreatDoorGd87a1
import Derived.Test.YtcomidffhiilcaaGreatDoorGf6e25
set_option maxRecDepth 100000
set_option maxHeartbeats 8000000
set_option linter.unusedSimpArgs false
set_option linter.unusedVariables false
namespace Go.Proofs.YtcomidffhiilcaaGreatDoor
open ChangeShapes WideShapes RowKit
section
variable {P:Program} {w:World} {t e:TypeId} {xo yo:Operand}
theorem uY {A:Option Addr} {n c:Nat} (h:P.underlying t=some (.slice e)):(do eqGuard .eql t xo yo (.slice A n c) (.slice none 0 0);binOp .eql t (.slice A n c) (.slice none 0 0):Sem Value).run P w= .ok (.bool A.isNone) w:=by
 rw [Sem.run_bind,show (eqGuard .eql t xo yo (.slice A n c) (.slice none 0 0)).run P w= .ok () w from rfl];exact Lib.run_eql_slice_nil w t e A n c 0 0 h
end
theorem Ir {w:World} {B s n:Nat} {xs:List Value} (h:Rd w B s none n xs):n=0/\xs=[]:=by
 have h1:n=0:=by
  rcases Nat.eq_zero_or_pos n with h0 | h0
  ·exact h0
  obtain ⟨b,off,e,_⟩:=h.2 h0
  cases e
 subst h1;exact ⟨rfl,List.eq_nil_of_length_eq_zero (by have:=h.1;omega)⟩
theorem Pk (A:Option Addr) (n c:Nat) (l:List Value) (w:World) (h:Rd w w.heap.size 2 A n l) (hone: ∀ u∈l,u.oneCell'=true) (hc:n*16<=reachBytes):
    Calls Tryz.prog 165 #[.slice A n c] w (jw w 273 2 n l):=by
 unfold reachBytes at hc;have S:=(St.start w).bX h;refine gK 8 Tryz.func165 ?_;refine cw [0] ?_;refine zN 9 ?_
 cases A with
 | none=>
  obtain ⟨rfl,rfl⟩:=Ir h;refine vv (v:= .bool true) (aC rfl rfl rfl (uY Tryz.underlying217)) ?_;refine zN 11 ?_;exact jw.of (Below.refl _ _) (jf _ _ _ _)
 | some a=>
  refine vv (v:= .bool false) (aC rfl rfl rfl (uY Tryz.underlying217)) ?_;refine zN 7 ?_;refine qJ (V:=λb=> .slice (aD b 0) 0 0) (row:= #[]) (t:=273) (n:=0) (s:=2) (xs:=[]) S (wn rfl) rfl rfl (aS (vs:=[]) rfl trivial kQ) iQ (Nat.zero_le _) rfl ?_;intro b1 w2 S3;refine zQ ?_;refine dY (news:=l) (xs':=l) 0 S3 (wn rfl) rfl rfl rfl rfl rfl rfl (St.rd 1 S3 rfl) Tryz.underlying217 TM rfl dQ hone lQ oQ rfl ?_;intro A4 c5 w6 hc8 qR S7;refine zN 5 ?_;have nN:=S7.aU [1];have ho:=nN.own 0 rfl;simp only [Nat.zero_add] at ho⊢;exact jw.of nN.low ho
theorem Pm (A:Option Addr) (n c:Nat) (l:List Value) (w:World) (h:Rd w w.heap.size 4 A n l) (hone: ∀ u∈l,u.oneCell'=true) (hc:n*32<=reachBytes):
    Calls Tryz.prog 166 #[.slice A n c] w (jw w 276 4 n l):=by
 unfold reachBytes at hc;have S:=(St.start w).bX h;refine gK 8 Tryz.func166 ?_;refine cw [0] ?_;refine zN 9 ?_
 cases A with
 | none=>
  obtain ⟨rfl,rfl⟩:=Ir h;refine vv (v:= .bool true) (aC rfl rfl rfl (uY Tryz.underlying218)) ?_;refine zN 11 ?_;exact jw.of (Below.refl _ _) (jf _ _ _ _)
 | some a=>
  refine vv (v:= .bool false) (aC rfl rfl rfl (uY Tryz.underlying218)) ?_;refine zN 7 ?_;refine qJ (V:=λb=> .slice (aD b 0) 0 0) (row:= #[]) (t:=276) (n:=0) (s:=4) (xs:=[]) S (wn rfl) rfl rfl (aS (vs:=[]) rfl trivial kQ) iQ (Nat.zero_le _) rfl ?_;intro b1 w2 S3;refine zQ ?_;refine dY (news:=l) (xs':=l) 0 S3 (wn rfl) rfl rfl rfl rfl rfl rfl (St.rd 1 S3 rfl) Tryz.underlying218 acp rfl dQ hone lQ oQ rfl ?_;intro A4 c5 w6 hc8 qR S7;refine zN 5 ?_;have nN:=S7.aU [1];have ho:=nN.own 0 rfl;simp only [Nat.zero_add] at ho⊢;exact jw.of nN.low ho
theorem dP {w:World} {base:Nat} {e:TypeId} {size:Nat} {A:Option Addr} {n c:Nat} {xs:List Value} (h:w.ownsRow base e size (.slice A n c) n xs):n<=c/\c<=maxLen:=by
 obtain ⟨A',c',e1,h1,h2⟩:=lX h
 cases e1;exact ⟨h1,h2⟩
theorem XY {α:Type} {enc:α->List Value} {sz:Nat} (hsz: ∀ x,(enc x).length=sz): ∀ (k:Nat) (l:List α),(l.flatMap enc).drop (k*sz)=(l.drop k).flatMap enc
 | 0,l=>by simp
 | k+1,[]=>by simp
 | k+1,x::l=>by rw [List.flatMap_cons,Nat.succ_mul,Nat.add_comm,<-List.drop_drop,List.drop_left' (hsz x),XY hsz k l];rfl
theorem aes {w:World} {B:Nat} {A:Option Addr} {rs:List gV} (h:Rd w B 2 A (rs.length-1) (((rs.flatMap gV.cells).drop (1*2)).take ((rs.length-1)*2))):Rd w B 2 A (rs.length-1) ((rs.drop 1).flatMap gV.cells):=by
 rw [XY (enc:=gV.cells) (sz:=2) (λ_=>rfl),List.take_of_length_le (by rw [iE (sz:=2) (λ_=>rfl),List.length_drop];exact Nat.le_refl _)] at h;exact h
theorem LZ {B g k c1 c2:Nat} {w0 w:World} {fs:List Fact} {A1 A2:Option Addr} {rs:List gV} {ls:List Ls} {W:kN} {ep nx gv kd id bd he hn:Int} (S:St B w0 w (.blk g (cZ ep nx gv (.slice A1 rs.length c1) (.slice A2 ls.length c2) W) 270:: .own 273 2 (.slice A1 rs.length c1) rs.length ((rs).flatMap gV.cells):: .own 276 4 (.slice A2 ls.length c2) ls.length ((ls).flatMap Ls.cells)::fs)) (hk:k<4) (hlen:rs.length+ls.length<=500) (hnx:0<=nx/\nx<=1073741824) (hgv:0<=gv/\gv<=1073741824) (iC:0<=ep/\ep<=1048576):
    Calls Tryz.prog 168 #[pV g 0,.agg #[iV kd,iV ((k:Nat):Int),iV id,iV bd,iV he,iV hn]] w (Eb B w0 g fs (MS ⟨ep,nx,gv,rs,ls,W⟩)):=by
 refine gK 80 Tryz.func168 ?_;refine cw [0,1] ?_;refine zN 2 ?_;refine iT S ?_;intro b1 w2 S3;refine fT S3 sS ?_;intro b4 w5 S6;refine zN 11 ?_;refine vv (ah rfl rfl (aG (St.cl 2 S6 rfl pR))) ?_;refine zQ ?_;by_cases h1:rs.length=0
 ·refine zN 7 ?_;refine vv (v:= .agg #[iV 10,iV 0,iV 0,iV 0]) gB ?_;refine sa 0 S6 kQ ?_;intro w7 S8;refine zN 7 ?_;have S9:=S8.aU [1,0];have nN:=S9.bC 1 rfl;have rJ:=nN.bC 2 rfl;rw [aed h1];refine ⟨rfl,A1,c1,A2,c2,?_⟩;dsimp only;exact rJ
 refine zN 11 ?_;refine vv (ah rfl rfl (aG (St.cl 2 S6 rfl Ar))) ?_;by_cases h2:gv=1073741824
 ·refine zN 7 ?_;refine vv (v:= .agg #[iV 14,iV 0,iV 0,iV 0]) gB ?_;refine sa 0 S6 kQ ?_;intro w12 za;refine zN 7 ?_;have jP:=za.aU [1,0];have iW:=jP.bC 1 rfl;have jR:=iW.bC 2 rfl;rw [aee h1 h2];refine ⟨rfl,A1,c1,A2,c2,?_⟩;dsimp only;exact jR
 refine zN 9 ?_;have kR:=S6.drew;refine eZ 21 20 kR [] ?_;iterate 4 refine gP ?_
 refine gk (v:=iV ep) 4 rfl kR (λ_ FX=>(ah rfl rfl (aG (St.cl 2 FX rfl xH)))) ?_;iterate 4 refine gP ?_
 refine gk (v:=iV gv) 9 rfl kR (λ_ axN=>(ah rfl rfl (aG (St.cl 2 axN rfl Ar)))) ?_;refine gk (v:= .agg #[iV ep,iV gv]) 10 rfl kR (λ_ _=>gB) ?_;iterate 4 refine gP ?_
 refine gk (v:= .slice A1 rs.length c1) 15 rfl kR (λ_ alA=>(ah rfl rfl (aG (St.cl 2 alA rfl pR)))) ?_;obtain ⟨b34,o35,rfl⟩:=Rd.addr (St.ord 3 kR rfl) oQ;obtain ⟨Ku,aqm⟩:=EL 0 (St.ord 3 kR rfl) oQ;refine gk 16 rfl kR (λ_ _=>kY 0) ?_;refine gk (v:= .agg #[iV Ku.no,iV Ku.body]) 17 rfl kR (λ_ axO=>(ah rfl rfl (dK (cs:=gV.cells Ku) (Rd.vG (St.ord 3 axO rfl) (λ_ _ h=>bU (enc:=gV.cells) (sz:=2) (λ_=>rfl) aqm h))))) ?_;refine gk (v:= .agg #[iV ep,iV gv,iV Ku.no,iV Ku.body]) 18 rfl kR (λ_ _=>gB) ?_;refine eG (m:=1) (r:=19) kQ ?_;refine mq (i:=19) rfl rfl (V:=λb=>pV b 0) (row:= #[iV 0,iV 0,iV 0,iV 0]) (t:=276) kR (wn rfl) rfl rfl (fD rfl (Tryz.zeroValue276 _) rfl) ?_;intro b41 QT qM;refine gP ?_;refine eB kQ rfl rfl rfl ?_;refine sa 0 qM kQ ?_;intro QU oP;refine zQ ?_;refine iX ?_;refine zN 8 ?_;refine vv (ah rfl rfl (aG (St.cl 3 oP rfl pR))) ?_;have hcp:=dP (oP.own 4 rfl);obtain ⟨A46,axP,axQ,axR⟩:=Bb (P:=Tryz.prog) (t:=217) (s:=2) (A:=(aD b34 o35)) (n:=rs.length) (c:=c1) (lo:=some (iV 1)) (hi:=none) (mx:=none) (l:=1) (k:=rs.length) (q:=c1) Tryz.underlying217 kQ (afW 1 rfl oQ) oQ (Nat.le_refl _) oQ;refine vv (v:= .slice A46 (rs.length-1) (c1-1)) (jA rfl rfl (jd rfl) lH lH (axP _)) ?_;have wZ:=oP.seal 4 rfl (aes (axQ _ _ _ (St.ord 4 oP rfl))) (λa h=>axR a h);refine zN 3 ?_;refine jE 3 wZ kQ ?_ (hs:=by exact Ii);intro Zm oh;refine zN 3 ?_;have zI:=oh.drew;refine eZ 13 9 zI [5] ?_;iterate 5 refine gP ?_
 refine gk (v:= .slice A2 ls.length c2) 5 rfl (St.del 5 zI) (λ_ Zn=>(ah rfl rfl (aG (St.cl 3 Zn rfl sU)))) ?_;refine gP ?_;refine eG (m:=5) (r:=7) kQ ?_;refine mq (i:=7) rfl rfl (V:=λb=> .slice (aD b 0) 1 1) (row:= #[iV ep,iV gv,iV Ku.no,iV Ku.body]) (t:=276) zI (wn rfl) rfl rfl (aS (vs:=[(0,.agg #[iV ep,iV gv,iV Ku.no,iV Ku.body])]) rfl wT kQ) ?_;intro b61 Ua uM;refine gP ?_;refine eG (m:=4) (r:=8) kQ ?_;refine kX (i:=8) rfl rfl (news:=[iV ep,iV gv,iV Ku.no,iV Ku.body]) (xs':=(ls++[(⟨ep,gv,Ku⟩:Ls)]).flatMap Ls.cells) 6 uM (wn rfl) rfl rfl rfl rfl rfl rfl (St.lI (xs:=[iV ep,iV gv,iV Ku.no,iV Ku.body]) 0 uM rfl rfl rfl) Tryz.underlying218 acp rfl dQ (aM rfl) lQ oQ (kI (enc:=Ls.cells) rfl rfl) ?_;intro A64 c65 Pg aG3 aG4 qO;refine gP ?_;refine eB kQ rfl rfl rfl ?_;refine zN 3 ?_;refine jE 4 qO kQ ?_ (hs:=by exact Ij);intro Y9 sK;refine zQ ?_;refine iX ?_;refine zN 7 ?_;refine vv (ah rfl rfl (aG (St.cl 4 sK rfl Ar))) ?_;refine vv (v:=iV (gv+1)) j6 ?_;refine zN 3 ?_;refine jE 4 sK kQ ?_ (hs:=by exact XL);intro w72 tQ;refine zN 5 ?_;refine vv (ah rfl rfl (dK (cs:=[iV ep,iV gv]) (St.rg 1 tQ rfl (l8 (x:=0) (m:=2) rfl)))) ?_;refine zN 3 ?_;refine vv (v:= .agg #[iV 0,iV ep,iV gv,iV Ku.body]) gB ?_;refine sa 2 tQ kQ ?_;intro w74 DI;refine zN 5 ?_;have Lv:=DI.aU [3,2,1,0];have xL:=Lv.bC 2 rfl;have hl1:(rs.drop 1).length=rs.length-1:=by simp
 have hl2:(ls++[(⟨ep,gv,Ku⟩:Ls)]).length=ls.length+1:=by simp
 rw [aon aqm h2];refine ⟨rfl,A46,(c1-1),A64,c65,?_⟩;dsimp only;rw [hl1,hl2];exact xL
def jr (l:List UInt8) (s:Int) (r:dH):List UInt8×Int×Int:=
 if dn l s=false then ([],0,6) else if (nH r).2≠0 then ([],0,(nH r).2) else if 100000<l.length+(jO (nH r).1).length then ([],0,14) else (l++jO (nH r).1,s,0)
theorem El (r:dH):(nH r).1.length<=40:=by
 unfold nH
 split
 ·simp
 have:=Ed (gq r);have h:(gq r).length<=10:=by unfold gq;split<;>simp
 simp only;omega
theorem Em:(Tryz.prog.info? 106).map (·.size)=some 2:=kQ
theorem GL (A:Option Addr) (n c:Nat) (l:List UInt8) (s:Int) (r:dH) (w:World) (h:Rd w w.heap.size 1 A n (byteCells l)):
  Calls Tryz.prog 95 #[.agg #[.slice A n c,.int .i64 s],r.val] w (rG w (jr l s r)):=by
 obtain ⟨j0,hj0,QD,QE,QF⟩:=info_parts Dy;have HO0:=Lib.hid (λw h=>lW A n c l s w h);have HE0:=Lib.hid (λw=>O9 r w);have hel:=El r;have HR:Hid (jr l s r=if dn l s=false then ([],0,6) else if (nH r).2≠0 then ([],0,(nH r).2) else if 100000<l.length+(jO (nH r).1).length then ([],0,14) else (l++jO (nH r).1,s,0)):=Lib.hid rfl;have HOM:=Lib.hid (zG l s);have HM:=Lib.hid (oI (l:=l) (s:=s));have H:=Lib.hid h;have hl:=h.nE;subst hl;clear h;generalize jr l s r=z at HR⊢;generalize nH r=em at HE0 hel HR;obtain ⟨pl,pe⟩:=em;obtain ⟨k,q,ep,pr,x0,x1,x2,x3,x4,x5⟩:=r;unfold dH.val at HE0⊢;simp only at HE0 HR hel⊢;have HFr:=Lib.hid (λA n c w h hn=>SK A n c pl w h hn);have hfl:=uL pl;generalize jO pl=fr at HFr hfl HR;have aG5:fr.length<=46:=oQ;clear hfl
 go_enter Tryz.func95,Tryz.ntmps95
 go_wp2_with fail
 refine (HO0.out _ (by exact H.out.on gQ)).mono ?_;rintro e w1 ⟨A1,c1,rfl,hb1,hown⟩;have B1:=((fK.new1 w _ _ _).alloc _).below hb1 (by simp<;>omega);have B2:=(fK.new2 w _ _ _ _).below hb1 iQ;have hz1:w.heap.size+2<w1.heap.size:=B2.lt;have aG6:w.heap.size<w1.heap.size:=oQ;have aG7:w.heap.size+1<w1.heap.size:=oQ;have HB:Hid (Below w.heap.size w w1):=Lib.hid (Below.trans gQ (hb1.mono jQ));clear hb1
 rcases HOM.out with ⟨e1,e2⟩ | ⟨e1,e2⟩
 ·rw [e1] at hown⊢;simp only at hown⊢;have HR2:=Lib.hid (HR.out.trans (if_neg (by rw [e2];simp)));obtain ⟨m1,m2,m3⟩:=HM.out e2;have M1:=Lib.hid m1;have mi:(l.length:Int)<=100000:=oQ;clear m1;have HO:Hid (w1.ownsRow (w.heap.size+1+1+1) 5 1 (.slice A1 l.length c1) l.length (byteCells l)):=Lib.hid (by simpa using hown);have HA1:Hid (∀ k,(Value.slice A1 l.length c1).ownBlock=some k->w.heap.size+1+1<k/\k<w1.heap.size):=Lib.hid (λk hk=>⟨by have:=HO.out.yR k hk;omega,DZ HO.out k hk⟩);clear e1 e2 hown HOM HM HR;have B1:=B1.alloc (.cells #[.slice A1 l.length c1,.int .i64 s] 106);have B2:=B2.alloc (.cells #[.slice A1 l.length c1,.int .i64 s] 106);have B3:=fK.new w1 #[.slice A1 l.length c1,.int .i64 s] 106;have HB:=Lib.hid (HB.out.alloc oQ (.cells #[.slice A1 l.length c1,.int .i64 s] 106));have HO:=Lib.hid (HO.out.alloc (.cells #[.slice A1 l.length c1,.int .i64 s] 106));obtain ⟨c0,d1,d2,d3,d4,d5,d6,d7,d8,d9,cf⟩:=B1.kF
  go_wp2_with fail
  have hz2:w.heap.size+2< (w1.alloc (.cells #[.slice A1 l.length c1,.int .i64 s] 106)).heap.size:=by simp;omega
  have hz3:w1.heap.size< (w1.alloc (.cells #[.slice A1 l.length c1,.int .i64 s] 106)).heap.size:=by simp
  clear c0 d1 d2 d3 d4 d5 d6 d7 d8 d9 cf;generalize w1.alloc (.cells #[.slice A1 l.length c1,.int .i64 s] 106)=w2 at B1 B2 B3 HB HO hz2 hz3⊢;refine (HE0.out _).mono ?_;rintro e w3 ⟨A2,c2,rfl,hb3,hr3⟩;simp only at hr3;have B2:=B2.on hb3;have B3:=B3.on hb3;have HO:=Lib.hid (Mq HO.out hb3);have HB:=Lib.hid (HB.out.trans (hb3.mono HB.out.size));have hz4:w2.heap.size<=w3.heap.size:=hb3.size;have HR3:=Lib.hid hr3;clear hb3 hr3 HE0 B1;simp only;by_cases he:pe=0
  ·have agb:=Lib.hid (HR2.out.trans (if_neg (by simpa using he)));subst he;clear HR2
   go_wp2_with fail
   refine (HFr.out A2 pl.length c2 _ HR3.out oQ).mono ?_;rintro e w4 ⟨A3,c3,rfl,hb4,akj⟩;have B2:=B2.on hb4;have B3:=B3.on hb4;have HO:=Lib.hid (Mq HO.out hb4);have HB:=Lib.hid (HB.out.trans (hb4.mono HB.out.size));have hz5:w3.heap.size<=w4.heap.size:=hb4.size;have HR4:=Lib.hid (Rd.tF akj);obtain ⟨b0,b1,bf⟩:=B3.uW;clear hb4 akj HR3 HFr;by_cases hbig:100000<l.length+fr.length
   ·have e:=agb.out.trans (if_pos hbig);subst e;have hd1:(100000:Int)< (l.length:Int)+(fr.length:Int):=oQ;clear agb hbig
    go_wp2_with (refine wpList_store_row rfl _ (.tmp 4) (.tmp 37) rfl (w.heap.size+1+1) rfl _ rfl _ _ B2 Em rfl rfl ?_;intro w9 Jd BS)
    have HU:Hid (Below w.heap.size w w9):=Lib.hid (BS.next HB.out oQ);obtain ⟨r0,r1,rf⟩:=Jd.uW
    go_wp2_with fail
    refine bodyPost_ret (v:= .tuple #[.agg #[.slice none 0 0,.int .i64 0],.int .i64 14]) (by simp [results,Tryz.results95,go_sem,r0,r1]) rfl ?_;exact ⟨none,0,rfl,HU.out,Rd.none_,λa ha=>by cases ha⟩
   have e:=agb.out.trans (if_neg hbig);subst e;have hd1:(l.length:Int)+(fr.length:Int)<=100000:=oQ;clear agb hbig
   go_wp2_with (first
    | (at_builtin;refine jC _ rfl (.tmp 39) (.tmp 40) _ rfl (w.heap.size+1+1+1) 5 j0 _ 1 1 Tryz.underlying58 hj0 QD QE QF rfl oQ _ l.length (byteCells l) rfl HO.out w4.heap.size A3 fr.length c3 (byteCells fr) rfl HR4.out (byteCells_one _) lQ oQ oQ ?_;intro v1 w5 hown1 hg1 KV;obtain ⟨A5,c5,rfl,_⟩:=lX hown1;rw [<-byteCells_append] at hown1;have hne:=DZ HO.out;have hlw:=HO.out.yR;have HNE:=Lib.hid (amR KV (λk=>k≠w1.heap.size/\w.heap.size+1+1<k) (λk hk=>by have:=HA1.out k hk;omega) oQ);have E3:=B3.grown hg1 (λe=>by have:=HA1.out _ e;omega);have E2:=B2.grown hg1 (λe=>by have:=hlw _ e;omega);have HB5:=Lib.hid (HB.out.grown hg1 oQ (λk hk=>by have:=hlw k hk;omega));have HO5:=Lib.hid hown1;clear hown1 hg1 KV hne hlw b0 b1 bf;obtain ⟨b0,b1,bf⟩:=E3.uW)
    | (refine wpList_store_row rfl _ (.tmp 4) (.tmp 43) rfl (w.heap.size+1+1) rfl _ rfl _ _ ((D5 w5 w1.heap.size 0 (.slice A5 (l.length+fr.length) c5)).blk E2 oQ) Em rfl rfl ?_;intro w9 Jd BS))
   have U6:=D5 w5 w1.heap.size 0 (.slice A5 (l.length+fr.length) c5);have HU:Hid (Below w.heap.size w w9):=Lib.hid (BS.next (U6.next HB5.out oQ) oQ);have HO9:=BS.own (U6.own HO5.out (λk hk=>(HNE.out k hk).1)) (λk hk=>by have:=HNE.out k hk;omega);obtain ⟨r0,r1,rf⟩:=Jd.uW;refine bodyPost_ret (v:= .tuple #[.agg #[.slice A5 (l.length+fr.length) c5,.int .i64 s],.int .i64 0]) (by simp [results,Tryz.results95,go_sem,r0,r1]) rfl ?_;exact ⟨A5,c5,by simp,HU.out,by have:=Rd.tF HO9;simpa using this,λa ha=>by have:=MQ HO9 a ha;omega⟩
  have e:=HR2.out.trans (if_pos he);subst e;have t0:(pe==0)=false:=by simpa using he
  have t0':(pe != 0)=true:=by simpa using he
  clear he HR2
  go_wp2_with (refine wpList_store_row rfl _ (.tmp 4) (.tmp 26) rfl (w.heap.size+1+1) rfl _ rfl _ _ B2 Em rfl rfl ?_;intro w9 Jd BS)
  have HU:Hid (Below w.heap.size w w9):=Lib.hid (BS.next HB.out oQ);obtain ⟨r0,r1,rf⟩:=Jd.uW
  go_wp2_with fail
  refine bodyPost_ret (v:= .tuple #[.agg #[.slice none 0 0,.int .i64 0],.int .i64 pe]) (by simp [results,Tryz.results95,go_sem,r0,r1]) rfl ?_;exact ⟨none,0,rfl,HU.out,Rd.none_,λa ha=>by cases ha⟩
 rw [e1] at hown⊢;simp only at hown⊢;have e:=HR.out.trans (if_pos e2);subst e;clear e1 e2 HR HOM HM hown;have B2:=B2.alloc (.cells #[.slice A1 ([]:List UInt8).length c1,.int .i64 0] 106);have HB:=Lib.hid (HB.out.alloc oQ (.cells #[.slice A1 ([]:List UInt8).length c1,.int .i64 0] 106))
 go_wp2_with (refine wpList_store_row rfl _ (.tmp 4) (.tmp 18) rfl (w.heap.size+1+1) rfl _ rfl _ _ B2 Em rfl rfl ?_;intro w9 Jd BS)
 have HU:Hid (Below w.heap.size w w9):=Lib.hid (BS.next HB.out oQ);obtain ⟨r0,r1,rf⟩:=Jd.uW
 go_wp2_with fail
 refine bodyPost_ret (v:= .tuple #[.agg #[.slice none 0 0,.int .i64 0],.int .i64 6]) (by simp [results,Tryz.results95,go_sem,r0,r1]) rfl ?_;exact ⟨none,0,rfl,HU.out,Rd.none_,λa ha=>by cases ha⟩
theorem L6 (A:Option Addr) (n c:Nat) (l:List Value) (w:World) (h:Rd w w.heap.size 6 A n l) (hone: ∀ u∈l,u.oneCell'=true) (hc:n*64<=reachBytes):
    Calls Tryz.prog 74 #[.slice A n c] w (jw w 150 6 n l):=by
 unfold reachBytes at hc;have S:=(St.start w).bX h;refine gK 8 Tryz.func74 ?_;refine cw [0] ?_;refine zN 9 ?_
 cases A with
 | none=>
  obtain ⟨rfl,rfl⟩:=Ir h;refine vv (v:= .bool true) (aC rfl rfl rfl (uY Tryz.underlying74)) ?_;refine zN 11 ?_;exact jw.of (Below.refl _ _) (jf _ _ _ _)
 | some a=>
  refine vv (v:= .bool false) (aC rfl rfl rfl (uY Tryz.underlying74)) ?_;refine zN 7 ?_;refine qJ (V:=λb=> .slice (aD b 0) 0 0) (row:= #[]) (t:=150) (n:=0) (s:=6) (xs:=[]) S (wn rfl) rfl rfl (aS (vs:=[]) rfl trivial kQ) iQ (Nat.zero_le _) rfl ?_;intro b1 w2 S3;refine zQ ?_;refine dY (news:=l) (xs':=l) 0 S3 (wn rfl) rfl rfl rfl rfl rfl rfl (St.rd 1 S3 rfl) Tryz.underlying74 anf rfl dQ hone lQ oQ rfl ?_;intro A4 c5 w6 hc8 qR S7;refine zN 5 ?_;have nN:=S7.aU [1];have ho:=nN.own 0 rfl;simp only [Nat.zero_add] at ho⊢;exact jw.of nN.low ho
end Go.Proofs.YtcomidffhiilcaaGreatDoor
