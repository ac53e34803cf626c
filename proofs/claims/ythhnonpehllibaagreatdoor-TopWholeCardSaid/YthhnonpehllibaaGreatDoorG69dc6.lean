import Derived.Test.YthhnonpehllibaaGreatDoorG4caeb
import Derived.Test.YthhnonpehllibaaGreatDoorG8edca
set_option maxRecDepth 100000
set_option maxHeartbeats 8000000
set_option linter.unusedSimpArgs false
set_option linter.unusedVariables false
namespace Go.Proofs.YthhnonpehllibaaGreatDoor
open ChangeShapes WideShapes RowKit
theorem aew:flat tP 30 51=some [.at_ (.int .i64),.at_ (.int .i64)]:=by kernel_rfl
theorem aex:H8 tP 30 51=true:=by kernel_rfl
theorem aiE (xs:List Value):mkV tP 51 xs= .agg xs.toArray:=by
 unfold mkV;rw [Tryz.underlying51]
theorem TA (a b c d:Int) (w:World):(binOp .eql 51 (.agg #[iV a,iV b]) (.agg #[iV c,iV d])).run tP w= .ok (.bool (a==c&&b==d)) w:=by
 have h:=wO (P:=tP) w aew aex aiE (xs:=[iV a,iV b]) (ys:=[iV c,iV d]) ⟨⟨_,rfl⟩,⟨_,rfl⟩,trivial⟩ ⟨⟨_,rfl⟩,⟨_,rfl⟩,trivial⟩;rw [show eu [iV a,iV b] [iV c,iV d]=(a==c&&b==d) by simp [eu,BD]] at h;exact h
def yh (he hn:Int) (x:Ls):Bool:=x.dZ==he&&x.hno==hn
def P5 (he hn:Int) (ls:List Ls):Int:=match ls.findIdx? (yh he hn) with
 | some k=>(k:Int)
 | none=> -1
theorem Ky {he hn:Int} {ls:List Ls} (h: ∀ (j:Nat) (y:Ls),j<ls.length->ls[j]? =some y->yh he hn y=false):P5 he hn ls= -1:=by
 unfold P5;rw [List.findIdx?_eq_none_iff.2 (λy hy=>by obtain ⟨j,hj,e⟩:=List.getElem_of_mem hy;exact h j y hj (by rw [List.getElem?_eq_getElem hj,e]))]
theorem RD {he hn:Int} {ls:List Ls} {k:Nat} {x:Ls} (h: ∀ (j:Nat) (y:Ls),j<k->ls[j]? =some y->yh he hn y=false) (hx:ls[k]? =some x) (hm:yh he hn x=true):P5 he hn ls=k:=by
 unfold P5;obtain ⟨hk,e⟩:=List.getElem?_eq_some_iff.1 hx;rw [List.findIdx?_eq_some_iff_getElem.2 ⟨hk,by rw [e];exact hm,λj hj=>by rw [h j _ hj (List.getElem?_eq_getElem (by omega))];simp⟩]
theorem F4 {hn:Int} {ls:List Ls} (h: ∀ x∈ls,¬ x.hno=hn):(ls.filter λx=>decide (x.hno≠hn))=ls:=List.filter_eq_self.2 λx hx=>by simpa using h x hx
theorem aey {hn:Int} {ls:List Ls} {k:Nat} {x:Ls} (hx:ls[k]? =some x) (hm:x.hno=hn) (hu: ∀ (i j:Nat) (a b:Ls),ls[i]? =some a->ls[j]? =some b->a.hno=b.hno->i=j):(ls.filter λx=>decide (x.hno≠hn))=ls.eraseIdx k:=by
 obtain ⟨hk,e⟩:=List.getElem?_eq_some_iff.1 hx;have e1:ls=ls.take k++x::ls.drop (k+1):=by rw [<-e,<-List.drop_eq_getElem_cons hk,List.take_append_drop]
 rw [List.eraseIdx_eq_take_drop_succ]
 conv=>lhs;rw [e1]
 rw [List.filter_append,List.filter_cons,if_neg (by simp [hm])]
 congr 1
 ·refine F4 λy hy hyn=>?_;obtain ⟨j,hj,e2⟩:=List.getElem_of_mem hy;rw [List.length_take] at hj;have:=hu j k y x (by rw [List.getElem_take] at e2;rw [<-e2];exact List.getElem?_eq_getElem (by omega)) hx (by rw [hyn,hm]);omega
 refine F4 λy hy hyn=>?_;obtain ⟨j,hj,e2⟩:=List.getElem_of_mem hy;rw [List.length_drop] at hj;have:=hu (k+1+j) k y x (by rw [List.getElem_drop] at e2;rw [<-e2];exact List.getElem?_eq_getElem (by omega)) hx (by rw [hyn,hm]);omega
theorem WQ (x:Ls) (b:Nat) (he hn:Int) (w:World) (h:Rd w w.heap.size 2 (aD b 4) 1 [iV he,iV hn]):
    Calls tP 124 #[.agg #[iV x.dZ,iV x.hno,iV x.msg.no,iV x.msg.body],pV b 0] w (ER w (x.dZ==he&&x.hno==hn)):=by
 have S:=(St.start w).bV h;refine gB 9 Tryz.func124 ?_;refine cw [0,1] ?_;refine zN 2 ?_;refine iK S ?_;intro b1 w2 S3;refine zN 6 ?_;refine vv (aj rfl rfl (aA (cs:=[iV x.dZ,iV x.hno]) Tryz.underlying51 rfl U3 rfl (St.rg 0 S3 rfl (nP (x:=0) (m:=2) rfl)))) ?_;refine zQ ?_;refine vv (v:= .agg #[iV he,iV hn]) (aj rfl rfl (aA (cs:=[iV he,iV hn]) Tryz.underlying51 rfl U3 rfl (Rd.vM (off:=4) (j:=0) (St.rd 1 S3 rfl) (λi u h=>by rw [Nat.zero_add];exact h)))) ?_;refine vv (v:= .bool (x.dZ==he&&x.hno==hn)) (aK rfl rfl rfl (Hw (by kernel_rfl) (TA x.dZ x.hno he hn _))) ?_;refine zN 5 ?_;exact ⟨rfl,S3.low⟩
theorem TD (A:Option Addr) (c b:Nat) (he hn:Int) (ls:List Ls) (w:World) (h:Rd w w.heap.size 4 A ls.length (ls.flatMap Ls.cells)) (h2:Rd w w.heap.size 2 (aD b 4) 1 [iV he,iV hn]) (hl:ls.length<=500):
    Calls tP 123 #[.slice A ls.length c,.func (.func 124) #[] #[pV b 0]] w (Ve w (P5 he hn ls)):=by
 have S:=((St.start w).bV h).bV h2;refine gB 19 Tryz.func123 ?_;refine cw [0,1] ?_;refine zN 14 ?_;refine dW (X:=Nat) (λxv=>[(0,.slice A ls.length c),(1,.func (.func 124) #[] #[pV b 0]),(4,iV 0),(7,iV ((ls.length:Nat):Int)),(8,iV ((xv:Nat):Int))]) (λxv wr=>(xv<=ls.length)/\(∀ (j:Nat) (y:Ls),j<xv->ls[j]? =some y->yh he hn y=false)/\St w.heap.size w wr [.rd 2 (aD b 4) 1 [iV he,iV hn],.rd 4 A ls.length ((ls).flatMap Ls.cells)]) (λxv=>ls.length-xv) (0) ?_ ?_ ?_
 ·exact ⟨Nat.zero_le _,λj y hj=>absurd hj (Nat.not_lt_zero _),S⟩
 ·exact ⟨rfl,rfl,rfl,rfl,rfl,trivial⟩
 rintro k w1 ⟨hi3,hi4,S2⟩
 try dsimp only at hi3 hi4 S2
 refine bC (l':=[(0,.slice A ls.length c),(1,.func (.func 124) #[] #[pV b 0]),(4,iV 0),(7,iV ((ls.length:Nat):Int)),(8,iV ((k:Nat):Int))]) ⟨rfl,rfl,rfl,rfl,rfl,trivial⟩ (aQ (aC ?_));by_cases h5:((k:Nat):Int)< ((ls.length:Nat):Int)
 ·refine zN 20 ?_;obtain ⟨b6,o7,rfl⟩:=Rd.addr (St.rd 1 S2 rfl) (by omega);obtain ⟨x8,hx9⟩:=L6 k (St.rd 1 S2 rfl) (by omega);refine vv (jh k) ?_;refine vv (aj rfl rfl (aA (cs:=Ls.cells x8) Tryz.underlying212 rfl Hy rfl (Rd.vM (St.rd 1 S2 rfl) (λ_ _ h=>bg (enc:=Ls.cells) (sz:=4) (λ_=>rfl) hx9 h)))) ?_;have HC:=λw h=>WQ x8 b he hn w h
  cases hmt:yh he hn x8
  ·rw [show (x8.dZ==he&&x8.hno==hn)=false from hmt] at HC;refine vR apN (HC _ (St.rd 0 S2 rfl)) ?_;rintro _ Yo ⟨rfl,aym⟩;refine ⟨_,rfl,?_⟩;have qj:=S2.on aym;refine zN 7 ?_;refine vv (v:=iV ((k+1:Nat):Int)) gN ?_;refine zN 2 ?_;refine aS (k+1) ?_ ⟨rfl,rfl,rfl,rfl,rfl,trivial⟩ (by first | omega | (dsimp only;omega));exact ⟨(by omega),(λj y hj hy=>(Nat.lt_succ_iff_lt_or_eq.1 hj).elim (λh=>hi4 j y h hy) (λh=>by rw [h,hx9] at hy;cases hy;exact hmt)),qj⟩
  rw [show (x8.dZ==he&&x8.hno==hn)=true from hmt] at HC;refine vR apN (HC _ (St.rd 0 S2 rfl)) ?_;rintro _ Dr ⟨rfl,afZ⟩;refine ⟨_,rfl,?_⟩;have kg:=S2.on afZ;refine zN 16 ?_;exact ⟨gQ (RD hi4 hx9 hmt).symm,kg.low⟩
 refine zN 17 ?_;exact ⟨gQ (Ky (λj y hj hy=>hi4 j y (by omega) hy)).symm,S2.low⟩
theorem aiF {he hn:Int} {ls:List Ls} (h: ¬ ∃ (k:Nat) (x:Ls),ls[k]? =some x/\yh he hn x=true/\ ∀ (j:Nat) (y:Ls),j<k->ls[j]? =some y->yh he hn y=false): ∀ y∈ls,yh he hn y=false:=by
 intro y hy
 rcases hf:ls.findIdx? (yh he hn) with _ | k
 ·exact List.findIdx?_eq_none_iff.1 hf y hy
 obtain ⟨hk,h1,h2⟩:=List.findIdx?_eq_some_iff_getElem.1 hf;refine absurd ⟨k,ls[k],List.getElem?_eq_getElem hk,h1,λj z hj hz=>?_⟩ h;have:=h2 j hj;obtain ⟨hj',e⟩:=List.getElem?_eq_some_iff.1 hz;rw [e] at this;simpa using this
theorem aiG {he hn:Int} {x:Ls} (h:yh he hn x=true):x.hno=hn:=by simp [yh] at h;exact h.2
theorem aiH {he hn ep:Int} {x:Ls} (h:x.dZ=ep) (h1:he=ep) (h2:x.hno=hn):yh he hn x=true:=by simp [yh,h,h1,h2]
theorem ZI {B g k c1 c2:Nat} {w0 w:World} {fs:List Fact} {A1 A2:Option Addr} {rs:List fT} {ls:List Ls} {W:jV} {ep nx gv kd id bd he hn:Int} (S:St B w0 w (.blk g (cZ ep nx gv (.slice A1 rs.length c1) (.slice A2 ls.length c2) W) 206:: .own 209 2 (.slice A1 rs.length c1) rs.length ((rs).flatMap fT.cells):: .own 212 4 (.slice A2 ls.length c2) ls.length ((ls).flatMap Ls.cells)::fs)) (hk:k<4) (hlen:rs.length+ls.length<=500) (hnx:0<=nx/\nx<=1073741824) (hgv:0<=gv/\gv<=1073741824) (dZ:0<=ep/\ep<=1048576) (hE: ∀ x∈ls,x.dZ=ep) (hU: ∀ (i j:Nat) (a b:Ls),ls[i]? =some a->ls[j]? =some b->a.hno=b.hno->i=j):
    Calls tP 118 #[pV g 0,.agg #[iV kd,iV ((k:Nat):Int),iV id,iV bd,iV he,iV hn]] w (D8 B w0 g fs (FV ⟨ep,nx,gv,rs,ls,W⟩ he hn)):=by
 refine gB 41 Tryz.func118 ?_;refine cw [0,1] ?_;refine zN 2 ?_;refine iK S ?_;intro b1 w2 S3;refine fF S3 sM ?_;intro b4 w5 S6;refine zN 5 ?_;refine fu S6 mixed (by kernel_rfl) ?_;refine zN 7 ?_;refine uv (v:=iV ep) (λ_ als=>(aj rfl rfl (ay Tryz.underlying3 rfl (St.cl 2 als rfl xP)))) ?_;by_cases h1:he=ep
 ·refine zQ ?_;refine eO λw16 lN=>?_;refine zN 10 ?_;refine vv (aj rfl rfl (ay Tryz.underlying163 rfl (St.cl 2 lN rfl sN))) ?_;refine vv Ja ?_;have HI:=λA c w h h2=>TD A c b1 he hn ls w h h2 (by omega)
  rcases Classical.em (∃ (k:Nat) (x:Ls),ls[k]? =some x/\yh he hn x=true/\ ∀ (j:Nat) (y:Ls),j<k->ls[j]? =some y->yh he hn y=false) with ⟨kk,x,hx,hm,hbf⟩ | hno
  ·rw [RD hbf hx hm] at HI;have hkk:=(List.getElem?_eq_some_iff.1 hx).1;refine dI apM (HI _ _ _ (St.ord 4 lN rfl) (acH 1 lN rfl rfl (λj u h=>by rcases j with _ | _ | _<;>first | exact h | (simp at h)))) ?_;rintro _ Ng ⟨rfl,ale⟩;refine ⟨_,rfl,?_⟩;have lX:=lN.on ale;refine zN 20 ?_;refine vv (aj rfl rfl (ay Tryz.underlying163 rfl (St.cl 2 lX rfl sN))) ?_;refine zN 2 ?_;refine vv (v:=iV ((kk+1:Nat):Int)) gN ?_;obtain ⟨g2,rfl⟩:=D6 (lX.own 4 rfl) (by omega);refine dI axl (SL g2 ls.length c2 kk _ (ls.flatMap Ls.cells) _ (lX.own 4 rfl) (Ya _) hkk) ?_;rintro _ Dq ⟨rfl,ayn,aqj⟩;refine ⟨_,rfl,?_⟩;rw [JC (enc:=Ls.cells) (sz:=4) (λ_=>rfl)] at aqj;have iR:=lX.abU 4 rfl ayn aqj;refine zN 3 ?_;refine jq 2 iR PG ?_ (hs:=by exact Im);intro w25 lS;refine zN 5 ?_;refine sa 0 lS dw ?_;intro Ni rF;refine zN 5 ?_;have sD:=rF.aR [1,0];have sH:=sD.bH 1 rfl;have kU:=sH.bH 2 rfl;have hel:(ls.eraseIdx kk).length=ls.length-1:=List.length_eraseIdx_of_lt hkk;have hfo:=aey hx (aiG hm) hU;rw [aoi h1 (by rw [hfo,hel];omega),hfo];refine ⟨rfl,A1,c1,(aD g2 0),c2,?_⟩;dsimp only;rw [hel];exact kU
  have hall:=aiF hno;rw [Ky (λj y _ hy=>hall y (List.mem_of_getElem? hy))] at HI;refine dI apM (HI _ _ _ (St.ord 4 lN rfl) (acH 1 lN rfl rfl (λj u h=>by rcases j with _ | _ | _<;>first | exact h | (simp at h)))) ?_;rintro _ w32 ⟨rfl,ayo⟩;refine ⟨_,rfl,?_⟩;have qm:=lN.on ayo;refine zN 13 ?_;refine vv (v:= .agg #[iV 7,iV 0,iV 0,iV 0]) gD ?_;refine sa 0 qm dw ?_;intro Yc nT;refine zN 6 ?_;have lY:=nT.aR [1,0];have tJ:=lY.bH 1 rfl;have CJ:=tJ.bH 2 rfl;rw [aee h1 (by rw [F4 (λy hy hyn=>by have:=hall y hy;rw [aiH (hE y hy) h1 hyn] at this;cases this)])];refine ⟨rfl,A1,c1,A2,c2,?_⟩;dsimp only;exact CJ
 refine zQ ?_;refine eO λw41 pz=>?_;refine zN 4 ?_;refine vv (v:= .agg #[iV 11,iV 0,iV 0,iV 0]) gD ?_;refine sa 0 pz dw ?_;intro w43 EU;refine zN 6 ?_;have oD:=EU.aR [1,0];have nG:=oD.bH 1 rfl;have yU:=nG.bH 2 rfl;rw [Zf h1];refine ⟨rfl,A1,c1,A2,c2,?_⟩;dsimp only;exact yU
end Go.Proofs.YthhnonpehllibaaGreatDoor
