import Derived.Test.YthhnonpehllibaaGreatDoorG30dc5
import Derived.Test.YthhnonpehllibaaGreatDoorGf8921
set_option maxRecDepth 100000
set_option maxHeartbeats 8000000
namespace Go.Proofs.YthhnonpehllibaaGreatDoor
open ChangeShapes WideShapes RowKit
theorem ad1:flat tP 30 51=some [.at_ (.int .i64),.at_ (.int .i64)]:=by kernel_rfl
theorem ad2:Ij tP 30 51=true:=by kernel_rfl
theorem ahF (xs:List Value):mkV tP 51 xs= .agg xs.toArray:=by
 unfold mkV;rw [Tryz.underlying51]
theorem TU (a b c d:Int) (w:World):(binOp .eql 51 (.agg #[iV a,iV b]) (.agg #[iV c,iV d])).run tP w= .ok (.bool (a==c&&b==d)) w:=by
 have h:=wR (P:=tP) w ad1 ad2 ahF (xs:=[iV a,iV b]) (ys:=[iV c,iV d]) ⟨⟨_,rfl⟩,⟨_,rfl⟩,trivial⟩ ⟨⟨_,rfl⟩,⟨_,rfl⟩,trivial⟩;rw [show eF [iV a,iV b] [iV c,iV d]=(a==c&&b==d) by simp [eF,BS]] at h;exact h
def yw (he hn:Int) (x:Ls):Bool:=x.eD==he&&x.hno==hn
def Ql (he hn:Int) (ls:List Ls):Int:=match ls.findIdx? (yw he hn) with
 | some k=>(k:Int)
 | none=> -1
theorem KL {he hn:Int} {ls:List Ls} (h: ∀ (j:Nat) (y:Ls),j<ls.length->ls[j]? =some y->yw he hn y=false):Ql he hn ls= -1:=by
 unfold Ql;rw [List.findIdx?_eq_none_iff.2 (λy hy=>by obtain ⟨j,hj,e⟩:=List.getElem_of_mem hy;exact h j y hj (by rw [List.getElem?_eq_getElem hj,e]))]
theorem R4 {he hn:Int} {ls:List Ls} {k:Nat} {x:Ls} (h: ∀ (j:Nat) (y:Ls),j<k->ls[j]? =some y->yw he hn y=false) (hx:ls[k]? =some x) (hm:yw he hn x=true):Ql he hn ls=k:=by
 unfold Ql;obtain ⟨hk,e⟩:=List.getElem?_eq_some_iff.1 hx;rw [List.findIdx?_eq_some_iff_getElem.2 ⟨hk,by rw [e];exact hm,λj hj=>by rw [h j _ hj (List.getElem?_eq_getElem (by omega))];simp⟩]
theorem Gi {hn:Int} {ls:List Ls} (h: ∀ x∈ls,¬ x.hno=hn):(ls.filter λx=>decide (x.hno≠hn))=ls:=List.filter_eq_self.2 λx hx=>by simpa using h x hx
theorem ad3 {hn:Int} {ls:List Ls} {k:Nat} {x:Ls} (hx:ls[k]? =some x) (hm:x.hno=hn) (hu: ∀ (i j:Nat) (a b:Ls),ls[i]? =some a->ls[j]? =some b->a.hno=b.hno->i=j):(ls.filter λx=>decide (x.hno≠hn))=ls.eraseIdx k:=by
 obtain ⟨hk,e⟩:=List.getElem?_eq_some_iff.1 hx;have e1:ls=ls.take k++x::ls.drop (k+1):=by rw [<-e,<-List.drop_eq_getElem_cons hk,List.take_append_drop]
 rw [List.eraseIdx_eq_take_drop_succ]
 conv=>lhs;rw [e1]
 rw [List.filter_append,List.filter_cons,if_neg (by simp [hm])]
 congr 1
 ·refine Gi λy hy hyn=>?_;obtain ⟨j,hj,e2⟩:=List.getElem_of_mem hy;rw [List.length_take] at hj;have:=hu j k y x (by rw [List.getElem_take] at e2;rw [<-e2];exact List.getElem?_eq_getElem (by omega)) hx (by rw [hyn,hm]);omega
 refine Gi λy hy hyn=>?_;obtain ⟨j,hj,e2⟩:=List.getElem_of_mem hy;rw [List.length_drop] at hj;have:=hu (k+1+j) k y x (by rw [List.getElem_drop] at e2;rw [<-e2];exact List.getElem?_eq_getElem (by omega)) hx (by rw [hyn,hm]);omega
theorem Xd (x:Ls) (b:Nat) (he hn:Int) (w:World) (h:Rd w w.heap.size 2 (aD b 4) 1 [iV he,iV hn]):
    Calls tP 124 #[.agg #[iV x.eD,iV x.hno,iV x.msg.no,iV x.msg.body],pV b 0] w (Fb w (x.eD==he&&x.hno==hn)):=by
 have S:=(St.start w).bV h;refine gu 9 Tryz.func124 ?_;refine cw [0,1] ?_;refine zN 2 ?_;refine iK S ?_;intro b1 w2 S3;refine zN 6 ?_;refine vv (aj rfl rfl (aA (cs:=[iV x.eD,iV x.hno]) Tryz.underlying51 rfl Vl rfl (St.rg 0 S3 rfl (nS (x:=0) (m:=2) rfl)))) ?_;refine zQ ?_;refine vv (v:= .agg #[iV he,iV hn]) (aj rfl rfl (aA (cs:=[iV he,iV hn]) Tryz.underlying51 rfl Vl rfl (Rd.vQ (off:=4) (j:=0) (St.rd 1 S3 rfl) (λi u h=>by rw [Nat.zero_add];exact h)))) ?_;refine vv (v:= .bool (x.eD==he&&x.hno==hn)) (aL rfl rfl rfl (Ib (by kernel_rfl) (TU x.eD x.hno he hn _))) ?_;refine zN 5 ?_;exact ⟨rfl,S3.low⟩
theorem TV (A:Option Addr) (c b:Nat) (he hn:Int) (ls:List Ls) (w:World) (h:Rd w w.heap.size 4 A ls.length (ls.flatMap Ls.cells)) (h2:Rd w w.heap.size 2 (aD b 4) 1 [iV he,iV hn]) (hl:ls.length<=500):
    Calls tP 123 #[.slice A ls.length c,.func (.func 124) #[] #[pV b 0]] w (Vt w (Ql he hn ls)):=by
 have S:=((St.start w).bV h).bV h2;refine gu 19 Tryz.func123 ?_;refine cw [0,1] ?_;refine zN 14 ?_;refine dN (X:=Nat) (λxv=>[(0,.slice A ls.length c),(1,.func (.func 124) #[] #[pV b 0]),(4,iV 0),(7,iV ((ls.length:Nat):Int)),(8,iV ((xv:Nat):Int))]) (λxv wr=>(xv<=ls.length)/\(∀ (j:Nat) (y:Ls),j<xv->ls[j]? =some y->yw he hn y=false)/\St w.heap.size w wr [.rd 2 (aD b 4) 1 [iV he,iV hn],.rd 4 A ls.length ((ls).flatMap Ls.cells)]) (λxv=>ls.length-xv) (0) ?_ ?_ ?_
 ·exact ⟨Nat.zero_le _,λj y hj=>absurd hj (Nat.not_lt_zero _),S⟩
 ·exact ⟨rfl,rfl,rfl,rfl,rfl,trivial⟩
 rintro k w1 ⟨hi3,hi4,S2⟩
 try dsimp only at hi3 hi4 S2
 refine bC (l':=[(0,.slice A ls.length c),(1,.func (.func 124) #[] #[pV b 0]),(4,iV 0),(7,iV ((ls.length:Nat):Int)),(8,iV ((k:Nat):Int))]) ⟨rfl,rfl,rfl,rfl,rfl,trivial⟩ (aK (aC ?_));by_cases h5:((k:Nat):Int)< ((ls.length:Nat):Int)
 ·refine zN 20 ?_;obtain ⟨b6,o7,rfl⟩:=Rd.addr (St.rd 1 S2 rfl) (by omega);obtain ⟨x8,hx9⟩:=KG k (St.rd 1 S2 rfl) (by omega);refine vv (jd k) ?_;refine vv (aj rfl rfl (aA (cs:=Ls.cells x8) Tryz.underlying212 rfl Ic rfl (Rd.vQ (St.rd 1 S2 rfl) (λ_ _ h=>aZ (enc:=Ls.cells) (sz:=4) (λ_=>rfl) hx9 h)))) ?_;have HC:=λw h=>Xd x8 b he hn w h
  cases hmt:yw he hn x8
  ·rw [show (x8.eD==he&&x8.hno==hn)=false from hmt] at HC;refine vV anz (HC _ (St.rd 0 S2 rfl)) ?_;rintro _ YG ⟨rfl,at7⟩;refine ⟨_,rfl,?_⟩;have qw:=S2.on at7;refine zN 7 ?_;refine vv (v:=iV ((k+1:Nat):Int)) gD ?_;refine zN 2 ?_;refine aN (k+1) ?_ ⟨rfl,rfl,rfl,rfl,rfl,trivial⟩ (by first | omega | (dsimp only;omega));exact ⟨(by omega),(λj y hj hy=>(Nat.lt_succ_iff_lt_or_eq.1 hj).elim (λh=>hi4 j y h hy) (λh=>by rw [h,hx9] at hy;cases hy;exact hmt)),qw⟩
  rw [show (x8.eD==he&&x8.hno==hn)=true from hmt] at HC;refine vV anz (HC _ (St.rd 0 S2 rfl)) ?_;rintro _ DT ⟨rfl,afA⟩;refine ⟨_,rfl,?_⟩;have kr:=S2.on afA;refine zN 16 ?_;exact ⟨gQ (R4 hi4 hx9 hmt).symm,kr.low⟩
 refine zN 17 ?_;exact ⟨gQ (KL (λj y hj hy=>hi4 j y (by omega) hy)).symm,S2.low⟩
theorem ahG {he hn:Int} {ls:List Ls} (h: ¬ ∃ (k:Nat) (x:Ls),ls[k]? =some x/\yw he hn x=true/\ ∀ (j:Nat) (y:Ls),j<k->ls[j]? =some y->yw he hn y=false): ∀ y∈ls,yw he hn y=false:=by
 intro y hy
 rcases hf:ls.findIdx? (yw he hn) with _ | k
 ·exact List.findIdx?_eq_none_iff.1 hf y hy
 obtain ⟨hk,h1,h2⟩:=List.findIdx?_eq_some_iff_getElem.1 hf;refine absurd ⟨k,ls[k],List.getElem?_eq_getElem hk,h1,λj z hj hz=>?_⟩ h;have:=h2 j hj;obtain ⟨hj',e⟩:=List.getElem?_eq_some_iff.1 hz;rw [e] at this;simpa using this
theorem ahH {he hn:Int} {x:Ls} (h:yw he hn x=true):x.hno=hn:=by simp [yw] at h;exact h.2
theorem ahI {he hn ep:Int} {x:Ls} (h:x.eD=ep) (h1:he=ep) (h2:x.hno=hn):yw he hn x=true:=by simp [yw,h,h1,h2]
theorem ZW {B g k c1 c2:Nat} {w0 w:World} {fs:List Fact} {A1 A2:Option Addr} {rs:List fV} {ls:List Ls} {W:jX} {ep nx gv kd id bd he hn:Int} (S:St B w0 w (.blk g (cZ ep nx gv (.slice A1 rs.length c1) (.slice A2 ls.length c2) W) 206:: .own 209 2 (.slice A1 rs.length c1) rs.length ((rs).flatMap fV.cells):: .own 212 4 (.slice A2 ls.length c2) ls.length ((ls).flatMap Ls.cells)::fs)) (hk:k<4) (hlen:rs.length+ls.length<=500) (hnx:0<=nx/\nx<=1073741824) (hgv:0<=gv/\gv<=1073741824) (eD:0<=ep/\ep<=1048576) (hE: ∀ x∈ls,x.eD=ep) (hU: ∀ (i j:Nat) (a b:Ls),ls[i]? =some a->ls[j]? =some b->a.hno=b.hno->i=j):
    Calls tP 118 #[pV g 0,.agg #[iV kd,iV ((k:Nat):Int),iV id,iV bd,iV he,iV hn]] w (Eo B w0 g fs (Ga ⟨ep,nx,gv,rs,ls,W⟩ he hn)):=by
 refine gu 41 Tryz.func118 ?_;refine cw [0,1] ?_;refine zN 2 ?_;refine iK S ?_;intro b1 w2 S3;refine fF S3 sW ?_;intro b4 w5 S6;refine zN 5 ?_;refine fC S6 mixed (by kernel_rfl) ?_;refine zN 7 ?_;refine uv (v:=iV ep) (λ_ ajX=>(aj rfl rfl (ay Tryz.underlying3 rfl (St.cl 2 ajX rfl xS)))) ?_;by_cases h1:he=ep
 ·refine zQ ?_;refine eT λw16 lS=>?_;refine zN 10 ?_;refine vv (aj rfl rfl (ay Tryz.underlying163 rfl (St.cl 2 lS rfl sZ))) ?_;refine vv Jl ?_;have HI:=λA c w h h2=>TV A c b1 he hn ls w h h2 (by omega)
  rcases Classical.em (∃ (k:Nat) (x:Ls),ls[k]? =some x/\yw he hn x=true/\ ∀ (j:Nat) (y:Ls),j<k->ls[j]? =some y->yw he hn y=false) with ⟨kk,x,hx,hm,hbf⟩ | hno
  ·rw [R4 hbf hx hm] at HI;have hkk:=(List.getElem?_eq_some_iff.1 hx).1;refine dH anx (HI _ _ _ (St.ord 4 lS rfl) (acJ 1 lS rfl rfl (λj u h=>by rcases j with _ | _ | _<;>first | exact h | (simp at h)))) ?_;rintro _ Nz ⟨rfl,ajL⟩;refine ⟨_,rfl,?_⟩;have l5:=lS.on ajL;refine zN 20 ?_;refine vv (aj rfl rfl (ay Tryz.underlying163 rfl (St.cl 2 l5 rfl sZ))) ?_;refine zN 2 ?_;refine vv (v:=iV ((kk+1:Nat):Int)) gD ?_;obtain ⟨g2,rfl⟩:=Em (l5.own 4 rfl) (by omega);refine dH as3 (Tk g2 ls.length c2 kk _ (ls.flatMap Ls.cells) _ (l5.own 4 rfl) (Yn _) hkk) ?_;rintro _ DL ⟨rfl,aua,anR⟩;refine ⟨_,rfl,?_⟩;rw [JQ (enc:=Ls.cells) (sz:=4) (λ_=>rfl)] at anR;have iW:=l5.abU 4 rfl aua anR;refine zN 3 ?_;refine jw 2 iW P5 ?_ (hs:=by exact IC);intro w25 lU;refine zN 5 ?_;refine sa 0 lU dx ?_;intro NC rH;refine zN 5 ?_;have sM:=rH.aS [1,0];have sP:=sM.bH 1 rfl;have kW:=sP.bH 2 rfl;have hel:(ls.eraseIdx kk).length=ls.length-1:=List.length_eraseIdx_of_lt hkk;have hfo:=ad3 hx (ahH hm) hU;rw [amE h1 (by rw [hfo,hel];omega),hfo];refine ⟨rfl,A1,c1,(aD g2 0),c2,?_⟩;dsimp only;rw [hel];exact kW
  have hall:=ahG hno;rw [KL (λj y _ hy=>hall y (List.mem_of_getElem? hy))] at HI;refine dH anx (HI _ _ _ (St.ord 4 lS rfl) (acJ 1 lS rfl rfl (λj u h=>by rcases j with _ | _ | _<;>first | exact h | (simp at h)))) ?_;rintro _ w32 ⟨rfl,aub⟩;refine ⟨_,rfl,?_⟩;have qx:=lS.on aub;refine zN 13 ?_;refine vv (v:= .agg #[iV 7,iV 0,iV 0,iV 0]) gF ?_;refine sa 0 qx dx ?_;intro Yp nW;refine zN 6 ?_;have l6:=nW.aS [1,0];have sD:=l6.bH 1 rfl;have Df:=sD.bH 2 rfl;rw [adM h1 (by rw [Gi (λy hy hyn=>by have:=hall y hy;rw [ahI (hE y hy) h1 hyn] at this;cases this)])];refine ⟨rfl,A1,c1,A2,c2,?_⟩;dsimp only;exact Df
 refine zQ ?_;refine eT λw41 pE=>?_;refine zN 4 ?_;refine vv (v:= .agg #[iV 11,iV 0,iV 0,iV 0]) gF ?_;refine sa 0 pE dx ?_;intro w43 Fj;refine zN 6 ?_;have oH:=Fj.aS [1,0];have nI:=oH.bH 1 rfl;have zh:=nI.bH 2 rfl;rw [Zx h1];refine ⟨rfl,A1,c1,A2,c2,?_⟩;dsimp only;exact zh
end Go.Proofs.YthhnonpehllibaaGreatDoor
