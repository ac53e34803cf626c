import Derived.Test.YtbffmhpkenoogaaGreatDoorG350f1
import Derived.Test.YtbffmhpkenoogaaGreatDoorG4cbce
set_option maxRecDepth 100000
set_option maxHeartbeats 8000000
namespace Go.Proofs.YtbffmhpkenoogaaGreatDoor
open ChangeShapes WideShapes RowKit
theorem acI:flat tP 30 73=some [.at_ (.int .i64),.at_ (.int .i64)]:=by kernel_rfl
theorem acJ:Gl tP 30 73=true:=by kernel_rfl
theorem agk (xs:List Value):mkV tP 73 xs= .agg xs.toArray:=by
 unfold mkV;rw [Tryz.underlying73]
theorem Rw (a b c d:Int) (w:World):(binOp .eql 73 (.agg #[iV a,iV b]) (.agg #[iV c,iV d])).run tP w= .ok (.bool (a==c&&b==d)) w:=by
 have h:=Bz (P:=tP) w acI acJ agk (xs:=[iV a,iV b]) (ys:=[iV c,iV d]) ⟨⟨_,rfl⟩,⟨_,rfl⟩,trivial⟩ ⟨⟨_,rfl⟩,⟨_,rfl⟩,trivial⟩;rw [show dV [iV a,iV b] [iV c,iV d]=(a==c&&b==d) by simp [dV,Ay]] at h;exact h
def xq (he hn:Int) (x:Ls):Bool:=x.eP==he&&x.hno==hn
def Oj (he hn:Int) (ls:List Ls):Int:=match ls.findIdx? (xq he hn) with
 | some k=>(k:Int)
 | none=> -1
theorem Js {he hn:Int} {ls:List Ls} (h: ∀ (j:Nat) (y:Ls),j<ls.length->ls[j]? =some y->xq he hn y=false):Oj he hn ls= -1:=by
 unfold Oj;rw [List.findIdx?_eq_none_iff.2 (λy hy=>by obtain ⟨j,hj,e⟩:=List.getElem_of_mem hy;exact h j y hj (by rw [List.getElem?_eq_getElem hj,e]))]
theorem P7 {he hn:Int} {ls:List Ls} {k:Nat} {x:Ls} (h: ∀ (j:Nat) (y:Ls),j<k->ls[j]? =some y->xq he hn y=false) (hx:ls[k]? =some x) (hm:xq he hn x=true):Oj he hn ls=k:=by
 unfold Oj;obtain ⟨hk,e⟩:=List.getElem?_eq_some_iff.1 hx;rw [List.findIdx?_eq_some_iff_getElem.2 ⟨hk,by rw [e];exact hm,λj hj=>by rw [h j _ hj (List.getElem?_eq_getElem (by omega))];simp⟩]
theorem ET {hn:Int} {ls:List Ls} (h: ∀ x∈ls,¬ x.hno=hn):(ls.filter λx=>decide (x.hno≠hn))=ls:=List.filter_eq_self.2 λx hx=>by simpa using h x hx
theorem acK {hn:Int} {ls:List Ls} {k:Nat} {x:Ls} (hx:ls[k]? =some x) (hm:x.hno=hn) (hu: ∀ (i j:Nat) (a b:Ls),ls[i]? =some a->ls[j]? =some b->a.hno=b.hno->i=j):(ls.filter λx=>decide (x.hno≠hn))=ls.eraseIdx k:=by
 obtain ⟨hk,e⟩:=List.getElem?_eq_some_iff.1 hx;have e1:ls=ls.take k++x::ls.drop (k+1):=by rw [<-e,<-List.drop_eq_getElem_cons hk,List.take_append_drop]
 rw [List.eraseIdx_eq_take_drop_succ]
 conv=>lhs;rw [e1]
 rw [List.filter_append,List.filter_cons,if_neg (by simp [hm])]
 congr 1
 ·refine ET λy hy hyn=>?_;obtain ⟨j,hj,e2⟩:=List.getElem_of_mem hy;rw [List.length_take] at hj;have:=hu j k y x (by rw [List.getElem_take] at e2;rw [<-e2];exact List.getElem?_eq_getElem (by omega)) hx (by rw [hyn,hm]);omega
 refine ET λy hy hyn=>?_;obtain ⟨j,hj,e2⟩:=List.getElem_of_mem hy;rw [List.length_drop] at hj;have:=hu (k+1+j) k y x (by rw [List.getElem_drop] at e2;rw [<-e2];exact List.getElem?_eq_getElem (by omega)) hx (by rw [hyn,hm]);omega
theorem Vi (x:Ls) (b:Nat) (he hn:Int) (w:World) (h:Rd w w.heap.size 2 (aD b 4) 1 [iV he,iV hn]):
    Calls tP 89 #[.agg #[iV x.eP,iV x.hno,iV x.msg.no,iV x.msg.body],pV b 0] w (D6 w (x.eP==he&&x.hno==hn)):=by
 have S:=(St.start w).bS h;refine fZ 9 Tryz.func89 ?_;refine cw [0,1] ?_;refine zN 2 ?_;refine iC S ?_;intro b1 w2 S3;refine zN 6 ?_;refine vv (au rfl rfl (aA (cs:=[iV x.eP,iV x.hno]) Tryz.underlying73 rfl Tk rfl (St.rg 0 S3 rfl (nG (x:=0) (m:=2) rfl)))) ?_;refine zQ ?_;refine vv (v:= .agg #[iV he,iV hn]) (au rfl rfl (aA (cs:=[iV he,iV hn]) Tryz.underlying73 rfl Tk rfl (Rd.wS (off:=4) (j:=0) (St.rd 1 S3 rfl) (λi u h=>by rw [Nat.zero_add];exact h)))) ?_;refine vv (v:= .bool (x.eP==he&&x.hno==hn)) (aO rfl rfl rfl (Gc (by kernel_rfl) (Rw x.eP x.hno he hn _))) ?_;refine zN 5 ?_;exact ⟨rfl,S3.low⟩
theorem Rx (A:Option Addr) (c b:Nat) (he hn:Int) (ls:List Ls) (w:World) (h:Rd w w.heap.size 4 A ls.length (ls.flatMap Ls.cells)) (h2:Rd w w.heap.size 2 (aD b 4) 1 [iV he,iV hn]) (hl:ls.length<=500):
    Calls tP 88 #[.slice A ls.length c,.func (.func 89) #[] #[pV b 0]] w (Tx w (Oj he hn ls)):=by
 have S:=((St.start w).bS h).bS h2;refine fZ 19 Tryz.func88 ?_;refine cw [0,1] ?_;refine zN 14 ?_;refine fH (X:=Nat) (λxv=>[(0,.slice A ls.length c),(1,.func (.func 89) #[] #[pV b 0]),(4,iV 0),(7,iV ((ls.length:Nat):Int)),(8,iV ((xv:Nat):Int))]) (λxv wr=>(xv<=ls.length)/\(∀ (j:Nat) (y:Ls),j<xv->ls[j]? =some y->xq he hn y=false)/\St w.heap.size w wr [.rd 2 (aD b 4) 1 [iV he,iV hn],.rd 4 A ls.length ((ls).flatMap Ls.cells)]) (λxv=>ls.length-xv) (0) ?_ ?_ ?_
 ·exact ⟨Nat.zero_le _,λj y hj=>absurd hj (Nat.not_lt_zero _),S⟩
 ·exact ⟨rfl,rfl,rfl,rfl,rfl,trivial⟩
 rintro k w1 ⟨hi3,hi4,S2⟩
 try dsimp only at hi3 hi4 S2
 refine bH (l':=[(0,.slice A ls.length c),(1,.func (.func 89) #[] #[pV b 0]),(4,iV 0),(7,iV ((ls.length:Nat):Int)),(8,iV ((k:Nat):Int))]) ⟨rfl,rfl,rfl,rfl,rfl,trivial⟩ (aT (aH ?_));by_cases h5:((k:Nat):Int)< ((ls.length:Nat):Int)
 ·refine zN 20 ?_;obtain ⟨b6,o7,rfl⟩:=Rd.addr (St.rd 1 S2 rfl) (by omega);obtain ⟨x8,hx9⟩:=Ku k (St.rd 1 S2 rfl) (by omega);refine vv (ku k) ?_;refine vv (au rfl rfl (aA (cs:=Ls.cells x8) Tryz.underlying90 rfl Gd rfl (Rd.wS (St.rd 1 S2 rfl) (λ_ _ h=>bV (enc:=Ls.cells) (sz:=4) (λ_=>rfl) hx9 h)))) ?_;have HC:=λw h=>Vi x8 b he hn w h
  cases hmt:xq he hn x8
  ·rw [show (x8.eP==he&&x8.hno==hn)=false from hmt] at HC;refine uQ ama (HC _ (St.rd 0 S2 rfl)) ?_;rintro _ Yw ⟨rfl,asF⟩;refine ⟨_,rfl,?_⟩;have qN:=S2.on asF;refine zN 7 ?_;refine vv (v:=iV ((k+1:Nat):Int)) jh ?_;refine zN 2 ?_;refine bQ (k+1) ?_ ⟨rfl,rfl,rfl,rfl,rfl,trivial⟩ (by first | omega | (dsimp only;omega));exact ⟨(by omega),(λj y hj hy=>(Nat.lt_succ_iff_lt_or_eq.1 hj).elim (λh=>hi4 j y h hy) (λh=>by rw [h,hx9] at hy;cases hy;exact hmt)),qN⟩
  rw [show (x8.eP==he&&x8.hno==hn)=true from hmt] at HC;refine uQ ama (HC _ (St.rd 0 S2 rfl)) ?_;rintro _ Ct ⟨rfl,aee⟩;refine ⟨_,rfl,?_⟩;have jT:=S2.on aee;refine zN 16 ?_;exact ⟨gF (P7 hi4 hx9 hmt).symm,jT.low⟩
 refine zN 17 ?_;exact ⟨gF (Js (λj y hj hy=>hi4 j y (by omega) hy)).symm,S2.low⟩
theorem agl {he hn:Int} {ls:List Ls} (h: ¬ ∃ (k:Nat) (x:Ls),ls[k]? =some x/\xq he hn x=true/\ ∀ (j:Nat) (y:Ls),j<k->ls[j]? =some y->xq he hn y=false): ∀ y∈ls,xq he hn y=false:=by
 intro y hy
 rcases hf:ls.findIdx? (xq he hn) with _ | k
 ·exact List.findIdx?_eq_none_iff.1 hf y hy
 obtain ⟨hk,h1,h2⟩:=List.findIdx?_eq_some_iff_getElem.1 hf;refine absurd ⟨k,ls[k],List.getElem?_eq_getElem hk,h1,λj z hj hz=>?_⟩ h;have:=h2 j hj;obtain ⟨hj',e⟩:=List.getElem?_eq_some_iff.1 hz;rw [e] at this;simpa using this
theorem agm {he hn:Int} {x:Ls} (h:xq he hn x=true):x.hno=hn:=by simp [xq] at h;exact h.2
theorem agn {he hn ep:Int} {x:Ls} (h:x.eP=ep) (h1:he=ep) (h2:x.hno=hn):xq he hn x=true:=by simp [xq,h,h1,h2]
theorem Yx {B g k c1 c2:Nat} {w0 w:World} {fs:List Fact} {A1 A2:Option Addr} {rs:List fJ} {ls:List Ls} {W:jO} {ep nx gv kd id bd he hn:Int} (S:St B w0 w (.blk g (cB ep nx gv (.slice A1 rs.length c1) (.slice A2 ls.length c2) W) 142:: .own 88 2 (.slice A1 rs.length c1) rs.length ((rs).flatMap fJ.cells):: .own 90 4 (.slice A2 ls.length c2) ls.length ((ls).flatMap Ls.cells)::fs)) (hk:k<4) (hlen:rs.length+ls.length<=500) (hnx:0<=nx/\nx<=1073741824) (hgv:0<=gv/\gv<=1073741824) (eP:0<=ep/\ep<=1048576) (hE: ∀ x∈ls,x.eP=ep) (hU: ∀ (i j:Nat) (a b:Ls),ls[i]? =some a->ls[j]? =some b->a.hno=b.hno->i=j):
    Calls tP 58 #[pV g 0,.agg #[iV kd,iV ((k:Nat):Int),iV id,iV bd,iV he,iV hn]] w (Da B w0 g fs (EJ ⟨ep,nx,gv,rs,ls,W⟩ he hn)):=by
 refine fZ 41 Tryz.func58 ?_;refine cw [0,1] ?_;refine zN 2 ?_;refine iC S ?_;intro b1 w2 S3;refine fI S3 rT ?_;intro b4 w5 S6;refine zN 5 ?_;refine gT S6 mixed (by kernel_rfl) ?_;refine zN 7 ?_;refine uv (v:=iV ep) (λ_ aiA=>(au rfl rfl (ay Tryz.underlying3 rfl (St.cl 2 aiA rfl wM)))) ?_;by_cases h1:he=ep
 ·refine zQ ?_;refine gY λw16 lG=>?_;refine zN 10 ?_;refine vv (au rfl rfl (ay Tryz.underlying51 rfl (St.cl 2 lG rfl rU))) ?_;refine vv Hy ?_;have HI:=λA c w h h2=>Rx A c b1 he hn ls w h h2 (by omega)
  rcases Classical.em (∃ (k:Nat) (x:Ls),ls[k]? =some x/\xq he hn x=true/\ ∀ (j:Nat) (y:Ls),j<k->ls[j]? =some y->xq he hn y=false) with ⟨kk,x,hx,hm,hbf⟩ | hno
  ·rw [P7 hbf hx hm] at HI;have hkk:=(List.getElem?_eq_some_iff.1 hx).1;refine dG al9 (HI _ _ _ (St.ord 4 lG rfl) (abm 1 lG rfl rfl (λj u h=>by rcases j with _ | _ | _<;>first | exact h | (simp at h)))) ?_;rintro _ Kv ⟨rfl,ain⟩;refine ⟨_,rfl,?_⟩;have kT:=lG.on ain;refine zN 20 ?_;refine vv (au rfl rfl (ay Tryz.underlying51 rfl (St.cl 2 kT rfl rU))) ?_;refine zN 2 ?_;refine vv (v:=iV ((kk+1:Nat):Int)) jh ?_;obtain ⟨g2,rfl⟩:=C9 (kT.own 4 rfl) (by omega);refine dG arA (QY g2 ls.length c2 kk _ (ls.flatMap Ls.cells) _ (kT.own 4 rfl) (WH _) hkk) ?_;rintro _ EO ⟨rfl,asG,amt⟩;refine ⟨_,rfl,?_⟩;rw [Io (enc:=Ls.cells) (sz:=4) (λ_=>rfl)] at amt;have iR:=kT.aaI 4 rfl asG amt;refine zN 3 ?_;refine je 2 iR NY ?_ (hs:=by exact Gz);intro w25 oP;refine zN 5 ?_;refine sa 0 oP cZ ?_;intro LA qO;refine zN 5 ?_;have sS:=qO.aR [1,0];have zV:=sS.bn 1 rfl;have mW:=zV.bn 2 rfl;have hel:(ls.eraseIdx kk).length=ls.length-1:=List.length_eraseIdx_of_lt hkk;have hfo:=acK hx (agm hm) hU;rw [ale h1 (by rw [hfo,hel];omega),hfo];refine ⟨rfl,A1,c1,(aD g2 0),c2,?_⟩;dsimp only;rw [hel];exact mW
  have hall:=agl hno;rw [Js (λj y _ hy=>hall y (List.mem_of_getElem? hy))] at HI;refine dG al9 (HI _ _ _ (St.ord 4 lG rfl) (abm 1 lG rfl rfl (λj u h=>by rcases j with _ | _ | _<;>first | exact h | (simp at h)))) ?_;rintro _ w32 ⟨rfl,asH⟩;refine ⟨_,rfl,?_⟩;have qP:=lG.on asH;refine zN 13 ?_;refine vv (v:= .agg #[iV 7,iV 0,iV 0,iV 0]) fQ ?_;refine sa 0 qP cZ ?_;intro WI nJ;refine zN 6 ?_;have pE:=nJ.aR [1,0];have sI:=pE.bn 1 rfl;have BK:=sI.bn 2 rfl;rw [acs h1 (by rw [ET (λy hy hyn=>by have:=hall y hy;rw [agn (hE y hy) h1 hyn] at this;cases this)])];refine ⟨rfl,A1,c1,A2,c2,?_⟩;dsimp only;exact BK
 refine zQ ?_;refine gY λw41 wh=>?_;refine zN 4 ?_;refine vv (v:= .agg #[iV 11,iV 0,iV 0,iV 0]) fQ ?_;refine sa 0 wh cZ ?_;intro w43 D9;refine zN 6 ?_;have nV:=D9.aR [1,0];have qQ:=nV.bn 1 rfl;have yg:=qQ.bn 2 rfl;rw [X7 h1];refine ⟨rfl,A1,c1,A2,c2,?_⟩;dsimp only;exact yg
end Go.Proofs.YtbffmhpkenoogaaGreatDoor
