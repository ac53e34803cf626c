/- Parts of proofs: lemmas on memory, on single functions and on the plain models; no condition of their own. -/
import Derived.Test.YtbffmhpkenoogaaGreatDoorG6893ca8dd176
import Derived.Test.YtbffmhpkenoogaaGreatDoorG8468c3ef6ae1
set_option linter.unusedVariables false
set_option linter.unusedSimpArgs false
set_option linter.unnecessarySimpa false
set_option maxRecDepth 100000
set_option maxHeartbeats 8000000

namespace Go.Proofs.YtbffmhpkenoogaaGreatDoor
open Go.ChangeShapes Go.WideShapes Go.RowKit
theorem aaV:flat Tryz.prog 30 73=some [.at_ (.int .i64),.at_ (.int .i64)]:=by kernel_rfl
theorem aaW:Dg Tryz.prog 30 73=true:=by kernel_rfl
theorem aeV (xs:List Value):mkV Tryz.prog 73 xs= .agg xs.toArray:=by
 unfold mkV;rw [Tryz.underlying73]
theorem Pw (a b c d:Int) (w:World):(binOp .eql 73 (.agg #[iV a,iV b]) (.agg #[iV c,iV d])).run Tryz.prog w= .ok (.bool (a==c&&b==d)) w:=by
 have h:=Ak (P:=Tryz.prog) w aaV aaW aeV (xs:=[iV a,iV b]) (ys:=[iV c,iV d]) ⟨⟨_,rfl⟩,⟨_,rfl⟩,trivial⟩ ⟨⟨_,rfl⟩,⟨_,rfl⟩,trivial⟩;rw [show dH [iV a,iV b] [iV c,iV d]=(a==c&&b==d) by simp [dH,rG]] at h;exact h
def wE (he hn:Int) (x:Ls):Bool:=x.gG==he&&x.hno==hn
def Mg (he hn:Int) (ls:List Ls):Int:=match ls.findIdx? (wE he hn) with
 | some k=>(k:Int)
 | none=> -1
theorem G6 {he hn:Int} {ls:List Ls} (h: ∀ (j:Nat) (y:Ls),j<ls.length→ls[j]? =some y→wE he hn y=false):Mg he hn ls= -1:=by
 unfold Mg;rw [List.findIdx?_eq_none_iff.2 (fun y hy=>by obtain ⟨j,hj,e⟩:=List.getElem_of_mem hy;exact h j y hj (by rw [List.getElem?_eq_getElem hj,e]))]
theorem NS {he hn:Int} {ls:List Ls} {k:Nat} {x:Ls} (h: ∀ (j:Nat) (y:Ls),j<k→ls[j]? =some y→wE he hn y=false) (hx:ls[k]? =some x) (hm:wE he hn x=true):Mg he hn ls=k:=by
 unfold Mg;obtain ⟨hk,e⟩:=List.getElem?_eq_some_iff.1 hx;rw [List.findIdx?_eq_some_iff_getElem.2 ⟨hk,by rw [e];exact hm,fun j hj=>by rw [h j _ hj (List.getElem?_eq_getElem (by omega))];simp⟩]
theorem Dw {hn:Int} {ls:List Ls} (h: ∀ x∈ls,¬ x.hno=hn):(ls.filter fun x=>decide (x.hno≠hn))=ls:=List.filter_eq_self.2 fun x hx=>by simpa using h x hx
theorem aaX {hn:Int} {ls:List Ls} {k:Nat} {x:Ls} (hx:ls[k]? =some x) (hm:x.hno=hn) (hu: ∀ (i j:Nat) (a b:Ls),ls[i]? =some a→ls[j]? =some b→a.hno=b.hno→i=j):(ls.filter fun x=>decide (x.hno≠hn))=ls.eraseIdx k:=by
 obtain ⟨hk,e⟩:=List.getElem?_eq_some_iff.1 hx;have e1:ls=ls.take k++x::ls.drop (k+1):=by rw [←e,←List.drop_eq_getElem_cons hk,List.take_append_drop]
 rw [List.eraseIdx_eq_take_drop_succ]
 conv=>lhs;rw [e1]
 rw [List.filter_append,List.filter_cons,if_neg (by simp [hm])]
 congr 1
 ·refine Dw fun y hy hyn=>?_
  obtain ⟨j,hj,e2⟩:=List.getElem_of_mem hy;rw [List.length_take] at hj;have:=hu j k y x (by rw [List.getElem_take] at e2;rw [←e2];exact List.getElem?_eq_getElem (by omega)) hx (by rw [hyn,hm]);omega
 refine Dw fun y hy hyn=>?_
 obtain ⟨j,hj,e2⟩:=List.getElem_of_mem hy;rw [List.length_drop] at hj;have:=hu (k+1+j) k y x (by rw [List.getElem_drop] at e2;rw [←e2];exact List.getElem?_eq_getElem (by omega)) hx (by rw [hyn,hm]);omega
theorem SQ (x:Ls) (b:Nat) (he hn:Int) (w:World) (h:Rd w w.heap.size 2 (aD b 4) 1 [iV he,iV hn]):
    Calls Tryz.prog 89 #[.agg #[iV x.gG,iV x.hno,iV x.msg.no,iV x.msg.body],pV b 0] w (zV w (x.gG==he&&x.hno==hn)):=by
 have S:=(St.start w).bH h;refine fE 9 Tryz.func89 ?_;refine cw [0,1] ?_;iterate 2 refine zQ ?_
 refine gD S ?_;intro b1 w2 S3;iterate 6 refine zQ ?_
 refine vv (aj rfl rfl (aG (cs:=[iV x.gG,iV x.hno]) Tryz.underlying73 rfl LQ rfl (St.rg 0 S3 rfl (mR (x:=0) (m:=2) rfl)))) ?_;refine zQ ?_;refine vv (v:= .agg #[iV he,iV hn]) (aj rfl rfl (aG (cs:=[iV he,iV hn]) Tryz.underlying73 rfl LQ rfl (Rd.uN (off:=4) (j:=0) (St.rd 1 S3 rfl) (fun i u h=>by rw [Nat.zero_add];exact h)))) ?_;refine vv (v:= .bool (x.gG==he&&x.hno==hn)) (ah rfl rfl rfl (yB (by kernel_rfl) (Pw x.gG x.hno he hn _))) ?_;iterate 5 refine zQ ?_
 exact ⟨rfl,S3.low⟩
theorem Px (A:Option Addr) (c b:Nat) (he hn:Int) (ls:List Ls) (w:World) (h:Rd w w.heap.size 4 A ls.length (ls.flatMap Ls.cells)) (h2:Rd w w.heap.size 2 (aD b 4) 1 [iV he,iV hn]) (hl:ls.length≤500):
    Calls Tryz.prog 88 #[.slice A ls.length c,.func (.func 89) #[] #[pV b 0]] w (Q0 w (Mg he hn ls)):=by
 have S:=((St.start w).bH h).bH h2;refine fE 19 Tryz.func88 ?_;refine cw [0,1] ?_;iterate 14 refine zQ ?_
 refine fH (X:=Nat) (fun xv=>[(0,.slice A ls.length c),(1,.func (.func 89) #[] #[pV b 0]),(4,iV 0),(7,iV ((ls.length:Nat):Int)),(8,iV ((xv:Nat):Int))]) (fun xv wr=>(xv≤ls.length)∧(∀ (j:Nat) (y:Ls),j<xv→ls[j]? =some y→wE he hn y=false)∧St w.heap.size w wr [.rd 2 (aD b 4) 1 [iV he,iV hn],.rd 4 A ls.length ((ls).flatMap Ls.cells)]) (fun xv=>ls.length-xv) (0) ?_ ?_ ?_
 ·exact ⟨Nat.zero_le _,fun j y hj=>absurd hj (Nat.not_lt_zero _),S⟩
 ·exact ⟨rfl,rfl,rfl,rfl,rfl,trivial⟩
 rintro k w1 ⟨hi3,hi4,S2⟩
 try dsimp only at hi3 hi4 S2
 refine bq (l':=[(0,.slice A ls.length c),(1,.func (.func 89) #[] #[pV b 0]),(4,iV 0),(7,iV ((ls.length:Nat):Int)),(8,iV ((k:Nat):Int))]) ⟨rfl,rfl,rfl,rfl,rfl,trivial⟩ (aW (aO ?_));by_cases h5:((k:Nat):Int)< ((ls.length:Nat):Int)
 ·iterate 20 refine zQ ?_
  obtain ⟨b6,o7,rfl⟩:=Rd.addr (St.rd 1 S2 rfl) (by omega);obtain ⟨x8,hx9⟩:=FK k (St.rd 1 S2 rfl) (by omega);refine vv (gM k) ?_;refine vv (aj rfl rfl (aG (cs:=Ls.cells x8) Tryz.underlying90 rfl EB rfl (Rd.uN (St.rd 1 S2 rfl) (fun _ _ h=>bS (enc:=Ls.cells) (sz:=4) (fun _=>rfl) hx9 h)))) ?_;have HC:=fun w h=>SQ x8 b he hn w h
  cases hmt:wE he hn x8
  ·rw [show (x8.gG==he&&x8.hno==hn)=false from hmt] at HC;refine uF alP (HC _ (St.rd 0 S2 rfl)) ?_;rintro _ Ma ⟨rfl,aul⟩;refine ⟨_,rfl,?_⟩;have jQ:=S2.on aul;iterate 7 refine zQ ?_
   refine vv (v:=iV ((k+1:Nat):Int)) jv ?_;iterate 2 refine zQ ?_
   refine bY (k+1) ?_ ⟨rfl,rfl,rfl,rfl,rfl,trivial⟩ (by first | omega | (dsimp only;omega));exact ⟨(by omega),(fun j y hj hy=>(Nat.lt_succ_iff_lt_or_eq.1 hj).elim (fun h=>hi4 j y h hy) (fun h=>by rw [h,hx9] at hy;cases hy;exact hmt)),jQ⟩
  rw [show (x8.gG==he&&x8.hno==hn)=true from hmt] at HC;refine uF alP (HC _ (St.rd 0 S2 rfl)) ?_;rintro _ CG ⟨rfl,acy⟩;refine ⟨_,rfl,?_⟩;have jH:=S2.on acy;iterate 16 refine zQ ?_
  exact ⟨fQ (NS hi4 hx9 hmt).symm,jH.low⟩
 iterate 17 refine zQ ?_
 exact ⟨fQ (G6 (fun j y hj hy=>hi4 j y (by omega) hy)).symm,S2.low⟩
theorem aeW {he hn:Int} {ls:List Ls} (h: ¬ ∃ (k:Nat) (x:Ls),ls[k]? =some x∧wE he hn x=true∧ ∀ (j:Nat) (y:Ls),j<k→ls[j]? =some y→wE he hn y=false): ∀ y∈ls,wE he hn y=false:=by
 intro y hy
 rcases hf:ls.findIdx? (wE he hn) with _ | k
 ·exact List.findIdx?_eq_none_iff.1 hf y hy
 obtain ⟨hk,h1,h2⟩:=List.findIdx?_eq_some_iff_getElem.1 hf;refine absurd ⟨k,ls[k],List.getElem?_eq_getElem hk,h1,fun j z hj hz=>?_⟩ h;have:=h2 j hj;obtain ⟨hj',e⟩:=List.getElem?_eq_some_iff.1 hz;rw [e] at this;simpa using this
theorem aeX {he hn:Int} {x:Ls} (h:wE he hn x=true):x.hno=hn:=by simp [wE] at h;exact h.2
theorem aeY {he hn ep:Int} {x:Ls} (h:x.gG=ep) (h1:he=ep) (h2:x.hno=hn):wE he hn x=true:=by simp [wE,h,h1,h2]
theorem Wv {B g k c1 c2:Nat} {w0 w:World} {fs:List Fact} {A1 A2:Option Addr} {rs:List fP} {ls:List Ls} {W:jP} {ep nx gv kd id bd he hn:Int} (S:St B w0 w (.blk g (bV ep nx gv (.slice A1 rs.length c1) (.slice A2 ls.length c2) W) 142:: .own 88 2 (.slice A1 rs.length c1) rs.length ((rs).flatMap fP.cells):: .own 90 4 (.slice A2 ls.length c2) ls.length ((ls).flatMap Ls.cells)::fs)) (hk:k<4) (hlen:rs.length+ls.length≤500) (hnx:0≤nx∧nx≤1073741824) (hgv:0≤gv∧gv≤1073741824) (gG:0≤ep∧ep≤1048576) (hE: ∀ x∈ls,x.gG=ep) (hU: ∀ (i j:Nat) (a b:Ls),ls[i]? =some a→ls[j]? =some b→a.hno=b.hno→i=j):
    Calls Tryz.prog 58 #[pV g 0,.agg #[iV kd,iV ((k:Nat):Int),iV id,iV bd,iV he,iV hn]] w (BM B w0 g fs (Ic ⟨ep,nx,gv,rs,ls,W⟩ he hn)):=by
 refine fE 41 Tryz.func58 ?_;refine cw [0,1] ?_;iterate 2 refine zQ ?_
 refine gD S ?_;intro b1 w2 S3;refine eU S3 rz ?_;intro b4 w5 S6;iterate 5 refine zQ ?_
 refine eH S6 mixed (by kernel_rfl) ?_;iterate 7 refine zQ ?_
 refine uv (v:=iV ep) (fun _ ahK=>(aj rfl rfl (aA Tryz.underlying3 rfl (St.cl 2 ahK rfl vS)))) ?_;by_cases h1:he=ep
 ·refine zQ ?_;refine fC fun w16 kT=>?_
  iterate 10 refine zQ ?_
  refine vv (aj rfl rfl (aA Tryz.underlying51 rfl (St.cl 2 kT rfl rA))) ?_;refine vv FM ?_;have HI:=fun A c w h h2=>Px A c b1 he hn ls w h h2 (by omega)
  rcases Classical.em (∃ (k:Nat) (x:Ls),ls[k]? =some x∧wE he hn x=true∧ ∀ (j:Nat) (y:Ls),j<k→ls[j]? =some y→wE he hn y=false) with ⟨kk,x,hx,hm,hbf⟩ | hno
  ·rw [NS hbf hx hm] at HI;have hkk:=(List.getElem?_eq_some_iff.1 hx).1;refine dO alO (HI _ _ _ (St.ord 4 kT rfl) (Zl 1 kT rfl rfl (fun j u h=>by rcases j with _ | _ | _<;>first | exact h | (simp at h)))) ?_;rintro _ L8 ⟨rfl,VL⟩;refine ⟨_,rfl,?_⟩;have lg:=kT.on VL;iterate 20 refine zQ ?_
   refine vv (aj rfl rfl (aA Tryz.underlying51 rfl (St.cl 2 lg rfl rA))) ?_;iterate 2 refine zQ ?_
   refine vv (v:=iV ((kk+1:Nat):Int)) jv ?_;obtain ⟨g2,rfl⟩:=BK (lg.own 4 rfl) (by omega);refine dO asM (O5 g2 ls.length c2 kk _ (ls.flatMap Ls.cells) _ (lg.own 4 rfl) (Uw _) hkk) ?_;rintro _ Bh ⟨rfl,aum,aml⟩;refine ⟨_,rfl,?_⟩;rw [F9 (enc:=Ls.cells) (sz:=4) (fun _=>rfl)] at aml;have ig:=lg.YE 4 rfl aum aml;iterate 3 refine zQ ?_
   refine iU 2 ig LP ?_ (hs:=by exact EU);intro w25 kD;iterate 5 refine zQ ?_
   refine sa 0 kD dh ?_;intro JV qM;iterate 5 refine zQ ?_
   have sj:=qM.aR [1,0];have tF:=sj.aZ 1 rfl;have mF:=tF.aZ 2 rfl;have hel:(ls.eraseIdx kk).length=ls.length-1:=List.length_eraseIdx_of_lt hkk;have hfo:=aaX hx (aeX hm) hU;rw [akk h1 (by rw [hfo,hel];omega),hfo];refine ⟨rfl,A1,c1,(aD g2 0),c2,?_⟩;dsimp only;rw [hel];exact mF
  have hall:=aeW hno;rw [G6 (fun j y _ hy=>hall y (List.mem_of_getElem? hy))] at HI;refine dO alO (HI _ _ _ (St.ord 4 kT rfl) (Zl 1 kT rfl rfl (fun j u h=>by rcases j with _ | _ | _<;>first | exact h | (simp at h)))) ?_;rintro _ w32 ⟨rfl,aun⟩;refine ⟨_,rfl,?_⟩;have qY:=kT.on aun;iterate 13 refine zQ ?_
  refine vv (v:= .agg #[iV 7,iV 0,iV 0,iV 0]) gZ ?_;refine sa 0 qY dh ?_;intro VO nL;iterate 6 refine zQ ?_
  have qN:=nL.aR [1,0];have oG:=qN.aZ 1 rfl;have yV:=oG.aZ 2 rfl;rw [aaQ h1 (by rw [Dw (fun y hy hyn=>by have:=hall y hy;rw [aeY (hE y hy) h1 hyn] at this;cases this)])];refine ⟨rfl,A1,c1,A2,c2,?_⟩;dsimp only;exact yV
 refine zQ ?_;refine fC fun Zt tC=>?_
 iterate 4 refine zQ ?_
 refine vv (v:= .agg #[iV 11,iV 0,iV 0,iV 0]) gZ ?_;refine sa 0 tC dh ?_;intro w43 Ar;iterate 6 refine zQ ?_
 have mW:=Ar.aR [1,0];have qj:=mW.aZ 1 rfl;have uy:=qj.aZ 2 rfl;rw [VK h1];refine ⟨rfl,A1,c1,A2,c2,?_⟩;dsimp only;exact uy
end Go.Proofs.YtbffmhpkenoogaaGreatDoor
