import Derived.Test.YtnhimdkpkmbhlaaGreatDoorG48ba2
import Derived.Test.YtnhimdkpkmbhlaaGreatDoorG5af0a
set_option maxRecDepth 100000
set_option maxHeartbeats 8000000
set_option linter.unusedSimpArgs false
set_option linter.unusedVariables false
namespace Go.Proofs.YtnhimdkpkmbhlaaGreatDoor
open ChangeShapes WideShapes RowKit
theorem acU:flat tP 30 53=some [.at_ (.int .i64),.at_ (.int .i64)]:=by kernel_rfl
theorem acV:Es tP 30 53=true:=by kernel_rfl
theorem ag0 (xs:List Value):mkV tP 53 xs= .agg xs.toArray:=by
 unfold mkV;rw [Tryz.underlying53]
theorem Ra (a b c d:Int) (w:World):(binOp .eql 53 (.agg #[iV a,iV b]) (.agg #[iV c,iV d])).run tP w= .ok (.bool (a==c&&b==d)) w:=by
 have h:=vC (P:=tP) w acU acV ag0 (xs:=[iV a,iV b]) (ys:=[iV c,iV d]) ⟨⟨_,rfl⟩,⟨_,rfl⟩,trivial⟩ ⟨⟨_,rfl⟩,⟨_,rfl⟩,trivial⟩;rw [show dW [iV a,iV b] [iV c,iV d]=(a==c&&b==d) by simp [dW,yh]] at h;exact h
def xA (he hn:Int) (x:Ls):Bool:=x.dQ==he&&x.hno==hn
def Ob (he hn:Int) (ls:List Ls):Int:=match ls.findIdx? (xA he hn) with
 | some k=>(k:Int)
 | none=> -1
theorem Jq {he hn:Int} {ls:List Ls} (h: ∀ (j:Nat) (y:Ls),j<ls.length->ls[j]? =some y->xA he hn y=false):Ob he hn ls= -1:=by
 unfold Ob;rw [List.findIdx?_eq_none_iff.2 (λy hy=>by obtain ⟨j,hj,e⟩:=List.getElem_of_mem hy;exact h j y hj (by rw [List.getElem?_eq_getElem hj,e]))]
theorem PE {he hn:Int} {ls:List Ls} {k:Nat} {x:Ls} (h: ∀ (j:Nat) (y:Ls),j<k->ls[j]? =some y->xA he hn y=false) (hx:ls[k]? =some x) (hm:xA he hn x=true):Ob he hn ls=k:=by
 unfold Ob;obtain ⟨hk,e⟩:=List.getElem?_eq_some_iff.1 hx;rw [List.findIdx?_eq_some_iff_getElem.2 ⟨hk,by rw [e];exact hm,λj hj=>by rw [h j _ hj (List.getElem?_eq_getElem (by omega))];simp⟩]
theorem EM {hn:Int} {ls:List Ls} (h: ∀ x∈ls,¬ x.hno=hn):(ls.filter λx=>decide (x.hno≠hn))=ls:=List.filter_eq_self.2 λx hx=>by simpa using h x hx
theorem acW {hn:Int} {ls:List Ls} {k:Nat} {x:Ls} (hx:ls[k]? =some x) (hm:x.hno=hn) (hu: ∀ (i j:Nat) (a b:Ls),ls[i]? =some a->ls[j]? =some b->a.hno=b.hno->i=j):(ls.filter λx=>decide (x.hno≠hn))=ls.eraseIdx k:=by
 obtain ⟨hk,e⟩:=List.getElem?_eq_some_iff.1 hx;have e1:ls=ls.take k++x::ls.drop (k+1):=by rw [<-e,<-List.drop_eq_getElem_cons hk,List.take_append_drop]
 rw [List.eraseIdx_eq_take_drop_succ]
 conv=>lhs;rw [e1]
 rw [List.filter_append,List.filter_cons,if_neg (by simp [hm])]
 congr 1
 ·refine EM λy hy hyn=>?_;obtain ⟨j,hj,e2⟩:=List.getElem_of_mem hy;rw [List.length_take] at hj;have:=hu j k y x (by rw [List.getElem_take] at e2;rw [<-e2];exact List.getElem?_eq_getElem (by omega)) hx (by rw [hyn,hm]);omega
 refine EM λy hy hyn=>?_;obtain ⟨j,hj,e2⟩:=List.getElem_of_mem hy;rw [List.length_drop] at hj;have:=hu (k+1+j) k y x (by rw [List.getElem_drop] at e2;rw [<-e2];exact List.getElem?_eq_getElem (by omega)) hx (by rw [hyn,hm]);omega
theorem UZ (x:Ls) (b:Nat) (he hn:Int) (w:World) (h:Rd w w.heap.size 2 (aD b 4) 1 [iV he,iV hn]):
    Calls tP 44 #[.agg #[iV x.dQ,iV x.hno,iV x.msg.no,iV x.msg.body],pV b 0] w (Bd w (x.dQ==he&&x.hno==hn)):=by
 have S:=(St.start w).bZ h;refine gy 9 Tryz.func44 ?_;refine cw [0,1] ?_;refine zN 2 ?_;refine iC S ?_;intro b1 w2 S3;refine zN 6 ?_;refine vv (ah rfl rfl (aA (cs:=[iV x.dQ,iV x.hno]) Tryz.underlying53 rfl SF rfl (St.rg 0 S3 rfl (je (x:=0) (m:=2) rfl)))) ?_;refine zQ ?_;refine vv (v:= .agg #[iV he,iV hn]) (ah rfl rfl (aA (cs:=[iV he,iV hn]) Tryz.underlying53 rfl SF rfl (Rd.uY (off:=4) (j:=0) (St.rd 1 S3 rfl) (λi u h=>by rw [Nat.zero_add];exact h)))) ?_;refine vv (v:= .bool (x.dQ==he&&x.hno==hn)) (aF rfl rfl rfl (uI (by kernel_rfl) (Ra x.dQ x.hno he hn _))) ?_;refine zN 5 ?_;exact ⟨rfl,S3.low⟩
theorem Rb (A:Option Addr) (c b:Nat) (he hn:Int) (ls:List Ls) (w:World) (h:Rd w w.heap.size 4 A ls.length (ls.flatMap Ls.cells)) (h2:Rd w w.heap.size 2 (aD b 4) 1 [iV he,iV hn]) (hl:ls.length<=500):
    Calls tP 43 #[.slice A ls.length c,.func (.func 44) #[] #[pV b 0]] w (SY w (Ob he hn ls)):=by
 have S:=((St.start w).bZ h).bZ h2;refine gy 19 Tryz.func43 ?_;refine cw [0,1] ?_;refine zN 14 ?_;refine eD (X:=Nat) (λxv=>[(0,.slice A ls.length c),(1,.func (.func 44) #[] #[pV b 0]),(4,iV 0),(7,iV ((ls.length:Nat):Int)),(8,iV ((xv:Nat):Int))]) (λxv wr=>(xv<=ls.length)/\(∀ (j:Nat) (y:Ls),j<xv->ls[j]? =some y->xA he hn y=false)/\St w.heap.size w wr [.rd 2 (aD b 4) 1 [iV he,iV hn],.rd 4 A ls.length ((ls).flatMap Ls.cells)]) (λxv=>ls.length-xv) (0) ?_ ?_ ?_
 ·exact ⟨Nat.zero_le _,λj y hj=>absurd hj (Nat.not_lt_zero _),S⟩
 ·exact ⟨rfl,rfl,rfl,rfl,rfl,trivial⟩
 rintro k w1 ⟨hi3,hi4,S2⟩
 try dsimp only at hi3 hi4 S2
 refine bn (l':=[(0,.slice A ls.length c),(1,.func (.func 44) #[] #[pV b 0]),(4,iV 0),(7,iV ((ls.length:Nat):Int)),(8,iV ((k:Nat):Int))]) ⟨rfl,rfl,rfl,rfl,rfl,trivial⟩ (aH (aB ?_));by_cases h5:((k:Nat):Int)< ((ls.length:Nat):Int)
 ·refine zN 20 ?_;obtain ⟨b6,o7,rfl⟩:=Rd.addr (St.rd 1 S2 rfl) (by omega);obtain ⟨x8,hx9⟩:=Ho k (St.rd 1 S2 rfl) (by omega);refine vv (jX k) ?_;refine vv (ah rfl rfl (aA (cs:=Ls.cells x8) Tryz.underlying64 rfl F7 rfl (Rd.uY (St.rd 1 S2 rfl) (λ_ _ h=>bC (enc:=Ls.cells) (sz:=4) (λ_=>rfl) hx9 h)))) ?_;have HC:=λw h=>UZ x8 b he hn w h
  cases hmt:xA he hn x8
  ·rw [show (x8.dQ==he&&x8.hno==hn)=false from hmt] at HC;refine uO an8 (HC _ (St.rd 0 S2 rfl)) ?_;rintro _ Yh ⟨rfl,aw2⟩;refine ⟨_,rfl,?_⟩;have qI:=S2.on aw2;refine zN 7 ?_;refine vv (v:=iV ((k+1:Nat):Int)) jg ?_;refine zN 2 ?_;refine aU (k+1) ?_ ⟨rfl,rfl,rfl,rfl,rfl,trivial⟩ (by first | omega | (dsimp only;omega));exact ⟨(by omega),(λj y hj hy=>(Nat.lt_succ_iff_lt_or_eq.1 hj).elim (λh=>hi4 j y h hy) (λh=>by rw [h,hx9] at hy;cases hy;exact hmt)),qI⟩
  rw [show (x8.dQ==he&&x8.hno==hn)=true from hmt] at HC;refine uO an8 (HC _ (St.rd 0 S2 rfl)) ?_;rintro _ Cm ⟨rfl,aeh⟩;refine ⟨_,rfl,?_⟩;have jY:=S2.on aeh;refine zN 16 ?_;exact ⟨gP (PE hi4 hx9 hmt).symm,jY.low⟩
 refine zN 17 ?_;exact ⟨gP (Jq (λj y hj hy=>hi4 j y (by omega) hy)).symm,S2.low⟩
theorem ag1 {he hn:Int} {ls:List Ls} (h: ¬ ∃ (k:Nat) (x:Ls),ls[k]? =some x/\xA he hn x=true/\ ∀ (j:Nat) (y:Ls),j<k->ls[j]? =some y->xA he hn y=false): ∀ y∈ls,xA he hn y=false:=by
 intro y hy
 rcases hf:ls.findIdx? (xA he hn) with _ | k
 ·exact List.findIdx?_eq_none_iff.1 hf y hy
 obtain ⟨hk,h1,h2⟩:=List.findIdx?_eq_some_iff_getElem.1 hf;refine absurd ⟨k,ls[k],List.getElem?_eq_getElem hk,h1,λj z hj hz=>?_⟩ h;have:=h2 j hj;obtain ⟨hj',e⟩:=List.getElem?_eq_some_iff.1 hz;rw [e] at this;simpa using this
theorem ag2 {he hn:Int} {x:Ls} (h:xA he hn x=true):x.hno=hn:=by simp [xA] at h;exact h.2
theorem ag3 {he hn ep:Int} {x:Ls} (h:x.dQ=ep) (h1:he=ep) (h2:x.hno=hn):xA he hn x=true:=by simp [xA,h,h1,h2]
theorem Yi {B g k c1 c2:Nat} {w0 w:World} {fs:List Fact} {A1 A2:Option Addr} {rs:List gM} {ls:List Ls} {W:kE} {ep nx gv kd id bd he hn:Int} (S:St B w0 w (.blk g (dw ep nx gv (.slice A1 rs.length c1) (.slice A2 ls.length c2) W) 91:: .own 62 2 (.slice A1 rs.length c1) rs.length ((rs).flatMap gM.cells):: .own 64 4 (.slice A2 ls.length c2) ls.length ((ls).flatMap Ls.cells)::fs)) (hk:k<4) (hlen:rs.length+ls.length<=500) (hnx:0<=nx/\nx<=1073741824) (hgv:0<=gv/\gv<=1073741824) (dQ:0<=ep/\ep<=1048576) (hE: ∀ x∈ls,x.dQ=ep) (hU: ∀ (i j:Nat) (a b:Ls),ls[i]? =some a->ls[j]? =some b->a.hno=b.hno->i=j):
    Calls tP 30 #[pV g 0,.agg #[iV kd,iV ((k:Nat):Int),iV id,iV bd,iV he,iV hn]] w (CV B w0 g fs (JX ⟨ep,nx,gv,rs,ls,W⟩ he hn)):=by
 refine gy 41 Tryz.func30 ?_;refine cw [0,1] ?_;refine zN 2 ?_;refine iC S ?_;intro b1 w2 S3;refine fO S3 rE ?_;intro b4 w5 S6;refine zN 5 ?_;refine dY S6 mixed (by kernel_rfl) ?_;refine zN 7 ?_;refine uv (v:=iV ep) (λ_ ajE=>(ah rfl rfl (av Tryz.underlying3 rfl (St.cl 2 ajE rfl wS)))) ?_;by_cases h1:he=ep
 ·refine zQ ?_;refine fC λw16 jZ=>?_;refine zN 10 ?_;refine vv (ah rfl rfl (av Tryz.underlying40 rfl (St.cl 2 jZ rfl rF))) ?_;refine vv Hq ?_;have HI:=λA c w h h2=>Rb A c b1 he hn ls w h h2 (by omega)
  rcases Classical.em (∃ (k:Nat) (x:Ls),ls[k]? =some x/\xA he hn x=true/\ ∀ (j:Nat) (y:Ls),j<k->ls[j]? =some y->xA he hn y=false) with ⟨kk,x,hx,hm,hbf⟩ | hno
  ·rw [PE hbf hx hm] at HI;have hkk:=(List.getElem?_eq_some_iff.1 hx).1;refine dN an7 (HI _ _ _ (St.ord 4 jZ rfl) (abe 1 jZ rfl rfl (λj u h=>by rcases j with _ | _ | _<;>first | exact h | (simp at h)))) ?_;rintro _ Ht ⟨rfl,ajt⟩;refine ⟨_,rfl,?_⟩;have kM:=jZ.on ajt;refine zN 20 ?_;refine vv (ah rfl rfl (av Tryz.underlying40 rfl (St.cl 2 kM rfl rF))) ?_;refine zN 2 ?_;refine vv (v:=iV ((kk+1:Nat):Int)) jg ?_;obtain ⟨g2,rfl⟩:=CU (kM.own 4 rfl) (by omega);refine dN avX (QE g2 ls.length c2 kk _ (ls.flatMap Ls.cells) _ (kM.own 4 rfl) (Wo _) hkk) ?_;rintro _ EH ⟨rfl,aw3,aoC⟩;refine ⟨_,rfl,?_⟩;rw [Im (enc:=Ls.cells) (sz:=4) (λ_=>rfl)] at aoC;have iI:=kM.aaz 4 rfl aw3 aoC;refine zN 3 ?_;refine jk 2 iI NP ?_ (hs:=by exact Gy);intro w25 nL;refine zN 5 ?_;refine sa 0 nL bQ ?_;intro KA qJ;refine zN 5 ?_;have nH:=qJ.aT [1,0];have yB:=nH.bD 1 rfl;have ni:=yB.bD 2 rfl;have hel:(ls.eraseIdx kk).length=ls.length-1:=List.length_eraseIdx_of_lt hkk;have hfo:=acW hx (ag2 hm) hU;rw [amv h1 (by rw [hfo,hel];omega),hfo];refine ⟨rfl,A1,c1,(aD g2 0),c2,?_⟩;dsimp only;rw [hel];exact ni
  have hall:=ag1 hno;rw [Jq (λj y _ hy=>hall y (List.mem_of_getElem? hy))] at HI;refine dN an7 (HI _ _ _ (St.ord 4 jZ rfl) (abe 1 jZ rfl rfl (λj u h=>by rcases j with _ | _ | _<;>first | exact h | (simp at h)))) ?_;rintro _ w32 ⟨rfl,aw4⟩;refine ⟨_,rfl,?_⟩;have qK:=jZ.on aw4;refine zN 13 ?_;refine vv (v:= .agg #[iV 7,iV 0,iV 0,iV 0]) fT ?_;refine sa 0 qK bQ ?_;intro RZ kF;refine zN 6 ?_;have pK:=kF.aT [1,0];have kT:=pK.bD 1 rfl;have zT:=kT.bD 2 rfl;rw [acJ h1 (by rw [EM (λy hy hyn=>by have:=hall y hy;rw [ag3 (hE y hy) h1 hyn] at this;cases this)])];refine ⟨rfl,A1,c1,A2,c2,?_⟩;dsimp only;exact zT
 refine zQ ?_;refine fC λw41 uL=>?_;refine zN 4 ?_;refine vv (v:= .agg #[iV 11,iV 0,iV 0,iV 0]) fT ?_;refine sa 0 uL bQ ?_;intro w43 DX;refine zN 6 ?_;have nI:=DX.aT [1,0];have qL:=nI.bD 1 rfl;have xY:=qL.bD 2 rfl;rw [XQ h1];refine ⟨rfl,A1,c1,A2,c2,?_⟩;dsimp only;exact xY
end Go.Proofs.YtnhimdkpkmbhlaaGreatDoor
