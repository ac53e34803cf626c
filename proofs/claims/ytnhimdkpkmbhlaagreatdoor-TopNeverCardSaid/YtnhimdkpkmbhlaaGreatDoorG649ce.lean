import Derived.Test.YtnhimdkpkmbhlaaGreatDoorG4ea81
import Derived.Test.YtnhimdkpkmbhlaaGreatDoorG8a452
set_option maxRecDepth 100000
set_option maxHeartbeats 8000000
set_option linter.unusedSimpArgs false
set_option linter.unusedVariables false
namespace Go.Proofs.YtnhimdkpkmbhlaaGreatDoor
open ChangeShapes WideShapes RowKit
theorem agW:flat tP 30 53=some [.at_ (.int .i64),.at_ (.int .i64)]:=by kernel_rfl
theorem agX:G6 tP 30 53=true:=by kernel_rfl
theorem aln (xs:List Value):mkV tP 53 xs= .agg xs.toArray:=by
 unfold mkV;rw [Tryz.underlying53]
theorem BN (a b c d:Int) (w:World):(binOp .eql 53 (.agg #[iV a,iV b]) (.agg #[iV c,iV d])).run tP w= .ok (.bool (a==c&&b==d)) w:=by
 have h:=xL (P:=tP) w agW agX aln (xs:=[iV a,iV b]) (ys:=[iV c,iV d]) ⟨⟨_,rfl⟩,⟨_,rfl⟩,trivial⟩ ⟨⟨_,rfl⟩,⟨_,rfl⟩,trivial⟩;rw [show dY [iV a,iV b] [iV c,iV d]=(a==c&&b==d) by simp [dY,zY]] at h;exact h
def zk (he hn:Int) (x:Ls):Bool:=x.dK==he&&x.hno==hn
def SB (he hn:Int) (ls:List Ls):Int:=match ls.findIdx? (zk he hn) with
 | some k=>(k:Int)
 | none=> -1
theorem Mx {he hn:Int} {ls:List Ls} (h: ∀ (j:Nat) (y:Ls),j<ls.length->ls[j]? =some y->zk he hn y=false):SB he hn ls= -1:=by
 unfold SB;rw [List.findIdx?_eq_none_iff.2 (λy hy=>by obtain ⟨j,hj,e⟩:=List.getElem_of_mem hy;exact h j y hj (by rw [List.getElem?_eq_getElem hj,e]))]
theorem UE {he hn:Int} {ls:List Ls} {k:Nat} {x:Ls} (h: ∀ (j:Nat) (y:Ls),j<k->ls[j]? =some y->zk he hn y=false) (hx:ls[k]? =some x) (hm:zk he hn x=true):SB he hn ls=k:=by
 unfold SB;obtain ⟨hk,e⟩:=List.getElem?_eq_some_iff.1 hx;rw [List.findIdx?_eq_some_iff_getElem.2 ⟨hk,by rw [e];exact hm,λj hj=>by rw [h j _ hj (List.getElem?_eq_getElem (by omega))];simp⟩]
theorem H8 {hn:Int} {ls:List Ls} (h: ∀ x∈ls,¬ x.hno=hn):(ls.filter λx=>decide (x.hno≠hn))=ls:=List.filter_eq_self.2 λx hx=>by simpa using h x hx
theorem agY {hn:Int} {ls:List Ls} {k:Nat} {x:Ls} (hx:ls[k]? =some x) (hm:x.hno=hn) (hu: ∀ (i j:Nat) (a b:Ls),ls[i]? =some a->ls[j]? =some b->a.hno=b.hno->i=j):(ls.filter λx=>decide (x.hno≠hn))=ls.eraseIdx k:=by
 obtain ⟨hk,e⟩:=List.getElem?_eq_some_iff.1 hx;have e1:ls=ls.take k++x::ls.drop (k+1):=by rw [<-e,<-List.drop_eq_getElem_cons hk,List.take_append_drop]
 rw [List.eraseIdx_eq_take_drop_succ]
 conv=>lhs;rw [e1]
 rw [List.filter_append,List.filter_cons,if_neg (by simp [hm])]
 congr 1
 ·refine H8 λy hy hyn=>?_;obtain ⟨j,hj,e2⟩:=List.getElem_of_mem hy;rw [List.length_take] at hj;have:=hu j k y x (by rw [List.getElem_take] at e2;rw [<-e2];exact List.getElem?_eq_getElem (by omega)) hx (by rw [hyn,hm]);omega
 refine H8 λy hy hyn=>?_;obtain ⟨j,hj,e2⟩:=List.getElem_of_mem hy;rw [List.length_drop] at hj;have:=hu (k+1+j) k y x (by rw [List.getElem_drop] at e2;rw [<-e2];exact List.getElem?_eq_getElem (by omega)) hx (by rw [hyn,hm]);omega
theorem Zj (x:Ls) (b:Nat) (he hn:Int) (w:World) (h:Rd w w.heap.size 2 (aD b 4) 1 [iV he,iV hn]):
    Calls tP 44 #[.agg #[iV x.dK,iV x.hno,iV x.msg.no,iV x.msg.body],pV b 0] w (Gi w (x.dK==he&&x.hno==hn)):=by
 have S:=(St.start w).bU h;refine gq 9 Tryz.func44 ?_;refine cw [0,1] ?_;refine zN 2 ?_;refine iP S ?_;intro b1 w2 S3;refine zN 6 ?_;refine vv (aj rfl rfl (aA (cs:=[iV x.dK,iV x.hno]) Tryz.underlying53 rfl Bp rfl (St.rg 0 S3 rfl (kW (x:=0) (m:=2) rfl)))) ?_;refine zQ ?_;refine vv (v:= .agg #[iV he,iV hn]) (aj rfl rfl (aA (cs:=[iV he,iV hn]) Tryz.underlying53 rfl Bp rfl (Rd.uW (off:=4) (j:=0) (St.rd 1 S3 rfl) (λi u h=>by rw [Nat.zero_add];exact h)))) ?_;refine vv (v:= .bool (x.dK==he&&x.hno==hn)) (aR rfl rfl rfl (xO (by kernel_rfl) (BN x.dK x.hno he hn _))) ?_;refine zN 5 ?_;exact ⟨rfl,S3.low⟩
theorem Wj (A:Option Addr) (c b:Nat) (he hn:Int) (ls:List Ls) (w:World) (h:Rd w w.heap.size 4 A ls.length (ls.flatMap Ls.cells)) (h2:Rd w w.heap.size 2 (aD b 4) 1 [iV he,iV hn]) (hl:ls.length<=500):
    Calls tP 43 #[.slice A ls.length c,.func (.func 44) #[] #[pV b 0]] w (XV w (SB he hn ls)):=by
 have S:=((St.start w).bU h).bU h2;refine gq 19 Tryz.func43 ?_;refine cw [0,1] ?_;refine zN 14 ?_;refine cZ (X:=Nat) (λxv=>[(0,.slice A ls.length c),(1,.func (.func 44) #[] #[pV b 0]),(4,iV 0),(7,iV ((ls.length:Nat):Int)),(8,iV ((xv:Nat):Int))]) (λxv wr=>(xv<=ls.length)/\(∀ (j:Nat) (y:Ls),j<xv->ls[j]? =some y->zk he hn y=false)/\St w.heap.size w wr [.rd 2 (aD b 4) 1 [iV he,iV hn],.rd 4 A ls.length ((ls).flatMap Ls.cells)]) (λxv=>ls.length-xv) (0) ?_ ?_ ?_
 ·exact ⟨Nat.zero_le _,λj y hj=>absurd hj (Nat.not_lt_zero _),S⟩
 ·exact ⟨rfl,rfl,rfl,rfl,rfl,trivial⟩
 rintro k w1 ⟨hi3,hi4,S2⟩
 try dsimp only at hi3 hi4 S2
 refine bq (l':=[(0,.slice A ls.length c),(1,.func (.func 44) #[] #[pV b 0]),(4,iV 0),(7,iV ((ls.length:Nat):Int)),(8,iV ((k:Nat):Int))]) ⟨rfl,rfl,rfl,rfl,rfl,trivial⟩ (aH (aC ?_));by_cases h5:((k:Nat):Int)< ((ls.length:Nat):Int)
 ·refine zN 20 ?_;obtain ⟨b6,o7,rfl⟩:=Rd.addr (St.rd 1 S2 rfl) (by omega);obtain ⟨x8,hx9⟩:=zL k (St.rd 1 S2 rfl) (by omega);refine vv (jI k) ?_;refine vv (aj rfl rfl (aA (cs:=Ls.cells x8) Tryz.underlying64 rfl JA rfl (Rd.uW (St.rd 1 S2 rfl) (λ_ _ h=>aX (enc:=Ls.cells) (sz:=4) (λ_=>rfl) hx9 h)))) ?_;have HC:=λw h=>Zj x8 b he hn w h
  cases hmt:zk he hn x8
  ·rw [show (x8.dK==he&&x8.hno==hn)=false from hmt] at HC;refine wZ asM (HC _ (St.rd 0 S2 rfl)) ?_;rintro _ w10 ⟨rfl,aBi⟩;refine ⟨_,rfl,?_⟩;have tu:=S2.on aBi;refine zN 7 ?_;refine vv (v:=iV ((k+1:Nat):Int)) gu ?_;refine zN 2 ?_;refine aM (k+1) ?_ ⟨rfl,rfl,rfl,rfl,rfl,trivial⟩ (by first | omega | (dsimp only;omega));exact ⟨(by omega),(λj y hj hy=>(Nat.lt_succ_iff_lt_or_eq.1 hj).elim (λh=>hi4 j y h hy) (λh=>by rw [h,hx9] at hy;cases hy;exact hmt)),tu⟩
  rw [show (x8.dK==he&&x8.hno==hn)=true from hmt] at HC;refine wZ asM (HC _ (St.rd 0 S2 rfl)) ?_;rintro _ DU ⟨rfl,aiu⟩;refine ⟨_,rfl,?_⟩;have kD:=S2.on aiu;refine zN 16 ?_;exact ⟨ig (UE hi4 hx9 hmt).symm,kD.low⟩
 refine zN 17 ?_;exact ⟨ig (Mx (λj y hj hy=>hi4 j y (by omega) hy)).symm,S2.low⟩
theorem alo {he hn:Int} {ls:List Ls} (h: ¬ ∃ (k:Nat) (x:Ls),ls[k]? =some x/\zk he hn x=true/\ ∀ (j:Nat) (y:Ls),j<k->ls[j]? =some y->zk he hn y=false): ∀ y∈ls,zk he hn y=false:=by
 intro y hy
 rcases hf:ls.findIdx? (zk he hn) with _ | k
 ·exact List.findIdx?_eq_none_iff.1 hf y hy
 obtain ⟨hk,h1,h2⟩:=List.findIdx?_eq_some_iff_getElem.1 hf;refine absurd ⟨k,ls[k],List.getElem?_eq_getElem hk,h1,λj z hj hz=>?_⟩ h;have:=h2 j hj;obtain ⟨hj',e⟩:=List.getElem?_eq_some_iff.1 hz;rw [e] at this;simpa using this
theorem alp {he hn:Int} {x:Ls} (h:zk he hn x=true):x.hno=hn:=by simp [zk] at h;exact h.2
theorem alq {he hn ep:Int} {x:Ls} (h:x.dK=ep) (h1:he=ep) (h2:x.hno=hn):zk he hn x=true:=by simp [zk,h,h1,h2]
theorem acd {B g k c1 c2:Nat} {w0 w:World} {fs:List Fact} {A1 A2:Option Addr} {rs:List fD} {ls:List Ls} {W:kK} {ep nx gv kd id bd he hn:Int} (S:St B w0 w (.blk g (bO ep nx gv (.slice A1 rs.length c1) (.slice A2 ls.length c2) W) 91:: .own 62 2 (.slice A1 rs.length c1) rs.length ((rs).flatMap fD.cells):: .own 64 4 (.slice A2 ls.length c2) ls.length ((ls).flatMap Ls.cells)::fs)) (hk:k<4) (hlen:rs.length+ls.length<=500) (hnx:0<=nx/\nx<=1073741824) (hgv:0<=gv/\gv<=1073741824) (dK:0<=ep/\ep<=1048576) (hE: ∀ x∈ls,x.dK=ep) (hU: ∀ (i j:Nat) (a b:Ls),ls[i]? =some a->ls[j]? =some b->a.hno=b.hno->i=j):
    Calls tP 30 #[pV g 0,.agg #[iV kd,iV ((k:Nat):Int),iV id,iV bd,iV he,iV hn]] w (Fe B w0 g fs (za ⟨ep,nx,gv,rs,ls,W⟩ he hn)):=by
 refine gq 41 Tryz.func30 ?_;refine cw [0,1] ?_;refine zN 2 ?_;refine iP S ?_;intro b1 w2 S3;refine fJ S3 oK ?_;intro b4 w5 S6;refine zN 5 ?_;refine dR S6 mixed (by kernel_rfl) ?_;refine zN 7 ?_;refine uv (v:=iV ep) (λ_ aoi=>(aj rfl rfl (av Tryz.underlying3 rfl (St.cl 2 aoi rfl yL)))) ?_;by_cases h1:he=ep
 ·refine zQ ?_;refine fC λw16 jM=>?_;refine zN 10 ?_;refine vv (aj rfl rfl (av Tryz.underlying40 rfl (St.cl 2 jM rfl ko))) ?_;refine vv KC ?_;have HI:=λA c w h h2=>Wj A c b1 he hn ls w h h2 (by omega)
  rcases Classical.em (∃ (k:Nat) (x:Ls),ls[k]? =some x/\zk he hn x=true/\ ∀ (j:Nat) (y:Ls),j<k->ls[j]? =some y->zk he hn y=false) with ⟨kk,x,hx,hm,hbf⟩ | hno
  ·rw [UE hbf hx hm] at HI;have hkk:=(List.getElem?_eq_some_iff.1 hx).1;refine dz asL (HI _ _ _ (St.ord 4 jM rfl) (ae8 1 jM rfl rfl (λj u h=>by rcases j with _ | _ | _<;>first | exact h | (simp at h)))) ?_;rintro _ DK ⟨rfl,an4⟩;refine ⟨_,rfl,?_⟩;have jU:=jM.on an4;refine zN 20 ?_;refine vv (aj rfl rfl (av Tryz.underlying40 rfl (St.cl 2 jU rfl ko))) ?_;refine zN 2 ?_;refine vv (v:=iV ((kk+1:Nat):Int)) gu ?_;obtain ⟨g2,rfl⟩:=Fa (jU.own 4 rfl) (by omega);refine dz aAk (VH g2 ls.length c2 kk _ (ls.flatMap Ls.cells) _ (jU.own 4 rfl) (aaz _) hkk) ?_;rintro _ Gl ⟨rfl,aBj,atc⟩;refine ⟨_,rfl,?_⟩;rw [Lb (enc:=Ls.cells) (sz:=4) (λ_=>rfl)] at atc;have iY:=jU.aer 4 rfl aBj atc;refine zN 3 ?_;refine jL 2 iY Si ?_ (hs:=by exact JU);intro w25 kJ;refine zN 5 ?_;refine sa 0 kJ dh ?_;intro P7 uy;refine zN 5 ?_;have qR:=uy.aU [1,0];have oz:=qR.bK 1 rfl;have ni:=oz.bK 2 rfl;have hel:(ls.eraseIdx kk).length=ls.length-1:=List.length_eraseIdx_of_lt hkk;have hfo:=agY hx (alp hm) hU;rw [aq5 h1 (by rw [hfo,hel];omega),hfo];refine ⟨rfl,A1,c1,(aD g2 0),c2,?_⟩;dsimp only;rw [hel];exact ni
  have hall:=alo hno;rw [Mx (λj y _ hy=>hall y (List.mem_of_getElem? hy))] at HI;refine dz asL (HI _ _ _ (St.ord 4 jM rfl) (ae8 1 jM rfl rfl (λj u h=>by rcases j with _ | _ | _<;>first | exact h | (simp at h)))) ?_;rintro _ w32 ⟨rfl,aBk⟩;refine ⟨_,rfl,?_⟩;have oG:=jM.on aBk;refine zN 13 ?_;refine vv (v:= .agg #[iV 7,iV 0,iV 0,iV 0]) gF ?_;refine sa 0 oG dh ?_;intro w35 nW;refine zN 6 ?_;have qL:=nW.aU [1,0];have qU:=qL.bK 1 rfl;have Ai:=qU.bK 2 rfl;rw [agI h1 (by rw [H8 (λy hy hyn=>by have:=hall y hy;rw [alq (hE y hy) h1 hyn] at this;cases this)])];refine ⟨rfl,A1,c1,A2,c2,?_⟩;dsimp only;exact Ai
 refine zQ ?_;refine fC λw41 qV=>?_;refine zN 4 ?_;refine vv (v:= .agg #[iV 11,iV 0,iV 0,iV 0]) gF ?_;refine sa 0 qV dh ?_;intro w43 DV;refine zN 6 ?_;have ou:=DV.aU [1,0];have qW:=ou.bK 1 rfl;have wW:=qW.bK 2 rfl;rw [abI h1];refine ⟨rfl,A1,c1,A2,c2,?_⟩;dsimp only;exact wW
end Go.Proofs.YtnhimdkpkmbhlaaGreatDoor
