/- Parts of proofs: lemmas on memory, on single functions and on the plain models; no condition of their own. -/
import Derived.Test.YtbffmhpkenoogaaGreatDoorG1bb20d619a0e
import Derived.Test.YtbffmhpkenoogaaGreatDoorG470df31e9fbe
import Derived.Test.YtbffmhpkenoogaaGreatDoorG6893ca8dd176
set_option linter.unusedVariables false
set_option linter.unusedSimpArgs false
set_option linter.unnecessarySimpa false
set_option maxRecDepth 100000
set_option maxHeartbeats 8000000

namespace Go.Proofs.YtbffmhpkenoogaaGreatDoor
open Go.ChangeShapes Go.WideShapes Go.RowKit
theorem Il (x:Ac) (w:World):
    Calls Tryz.prog 49 #[.agg #[iV x.kd,iV x.nd,iV x.qu,iV x.at_,iV x.kp,iV x.ek,iV x.ep,iV x.ei,iV x.eb,iV x.eh,iV x.en]] w (jY w (fT x)):=by
 have S:=St.start w;refine fE 35 Tryz.func49 ?_;refine cw [0] ?_;iterate 2 refine zQ ?_
 refine gD S ?_;intro b1 w2 S3;iterate 5 refine zQ ?_
 have HW:=fun w=>bA x w
 rcases hf:aX x.kd x.ek with _ | l
 ·rw [ako _ _ hf] at HW;iterate 2 refine zQ ?_
  refine cab gU S3 (HW _) ?_;intro w4 S5;iterate 12 refine zQ ?_
  rw [KY hf];exact ⟨rfl,S5.low⟩
 have hl5:=ND hf;iterate 2 refine zQ ?_
 refine cab gU S3 (HW _) ?_;intro w7 S8;refine vv (v:= .bool false) (ah rfl rfl rfl (aB (akn _ _ _ hf))) ?_;iterate 8 refine zQ ?_
 refine dO asK (DN x l hf _) ?_;rintro _ Qr ⟨zL,A11,rfl,T14⟩;refine ⟨_,rfl,?_⟩;have qK:=S8.ext T14 rfl;iterate 14 refine zQ ?_
 refine fH (X:=Nat) (fun xv=>[(1,pV b1 0),(2,iV 0),(3,.slice zL l.length l.length),(4,.slice A11 l.length l.length),(5,iV ((xv:Nat):Int))]) (fun xv wr=>(xv≤l.length)∧((l.take xv).all (LY x)=true)∧St w.heap.size w wr [.bG 1 zL l.length ((l).flatMap (ab7 x)),.bG 1 A11 l.length ((l).flatMap YI),.blk b1 #[iV x.kd,iV x.nd,iV x.qu,iV x.at_,iV x.kp,iV x.ek,iV x.ep,iV x.ei,iV x.eb,iV x.eh,iV x.en] 77]) (fun xv=>l.length-xv) (0) ?_ ?_ ?_
 ·exact ⟨Nat.zero_le _,rfl,qK⟩
 ·exact ⟨rfl,rfl,rfl,rfl,rfl,trivial⟩
 rintro k FR ⟨aui,ahH,jR⟩
 try dsimp only at aui ahH jR
 refine bq (l':=[(1,pV b1 0),(2,iV 0),(3,.slice zL l.length l.length),(4,.slice A11 l.length l.length),(5,iV ((k:Nat):Int))]) ⟨rfl,rfl,rfl,rfl,rfl,trivial⟩ (aW (aW (aO (vm ?_))));iterate 2 refine zQ ?_
 by_cases h19:((k:Nat):Int)< ((l.length:Nat):Int)
 ·iterate 9 refine zQ ?_
  refine eH jR mixed (by kernel_rfl) ?_;iterate 2 refine zQ ?_
  obtain ⟨NR,o23,rfl⟩:=Rd.addr (St.bG 0 jR rfl) (by omega);obtain ⟨x24,hx25⟩:=FK k (St.bG 0 jR rfl) (by omega);refine uv (fun _ _=>gM k) ?_;refine uv (v:=iV (x.get x24.1)) (fun _ ahn=>(aj rfl rfl (aA Tryz.underlying3 rfl (Rd.Ug (i:=0) (St.bG 0 ahn rfl) (bS (enc:=(ab7 x)) (sz:=1) (fun _=>rfl) hx25 rfl))))) ?_;iterate 2 refine zQ ?_
  obtain ⟨b30,o31,rfl⟩:=Rd.addr (St.bG 1 jR rfl) (by omega);refine uv (fun _ _=>gM k) ?_;refine uv (v:=iV x24.2) (fun _ VW=>(aj rfl rfl (aA Tryz.underlying3 rfl (Rd.Ug (i:=0) (St.bG 1 VW rfl) (bS (enc:=YI) (sz:=1) (fun _=>rfl) hx25 rfl))))) ?_;by_cases acw:0≤x.get x24.1∧x.get x24.1≤x24.2
  ·refine yu (v:= .bool true) (vs:=[iV (x.get x24.1),iV 0,iV x24.2]) (wn rfl) rfl rfl (fun _=>(lM (vs:=[iV (x.get x24.1),iV 0,iV x24.2]) rfl alJ ⟨rfl,rfl,rfl,trivial⟩)) (fun _ auj=>(ati acw _).mono fun _ _ h=>⟨h.1,h.2▸auj⟩) ?_;refine zQ ?_;refine fC fun NQ oG=>?_
   iterate 7 refine zQ ?_
   refine vv (v:=iV ((k+1:Nat):Int)) jv ?_;iterate 2 refine zQ ?_
   refine bY (k+1) ?_ ⟨rfl,rfl,rfl,rfl,rfl,trivial⟩ (by first | omega | (dsimp only;omega));exact ⟨(by omega),(NH hx25 ahH acw),oG⟩
  refine yu (v:= .bool false) (vs:=[iV (x.get x24.1),iV 0,iV x24.2]) (wn rfl) rfl rfl (fun _=>(lM (vs:=[iV (x.get x24.1),iV 0,iV x24.2]) rfl alJ ⟨rfl,rfl,rfl,trivial⟩)) (fun _ aho=>(atj acw _).mono fun _ _ h=>⟨h.1,h.2▸aho⟩) ?_;refine zQ ?_;refine fC fun Zt tC=>?_
  iterate 14 refine zQ ?_
  rw [BL hf (KZ hx25 acw)];exact ⟨rfl,tC.low⟩
 iterate 10 refine zQ ?_
 obtain rfl:k=l.length:=by omega
 have hall:=ahH;rw [List.take_length] at hall;have HN:=fun w=>Qo (a:=x.ints) (b:=(keep x).ints) rfl rfl w
 by_cases hfi:fin x l=zeros
 ·rw [decide_eq_true ((Ga hf).2 hfi)] at HN;refine zQ ?_;refine eH jR mixed (by kernel_rfl) ?_;iterate 3 refine zQ ?_
  refine yu (v:= .agg #[iV ((keep x).kd),iV ((keep x).nd),iV ((keep x).qu),iV ((keep x).at_),iV ((keep x).kp),iV ((keep x).ek),iV ((keep x).ep),iV ((keep x).ei),iV ((keep x).eb),iV ((keep x).eh),iV ((keep x).en)]) (wn rfl) rfl rfl (fun _=>(lM (vs:=[.agg #[iV x.kd,iV x.nd,iV x.qu,iV x.at_,iV x.kp,iV x.ek,iV x.ep,iV x.ei,iV x.eb,iV x.eh,iV x.en],.slice zL l.length l.length]) rfl alK ⟨rfl,rfl,trivial⟩)) (fun _ Ri=>(Eh x l hf zL l.length _ (St.bG 0 Ri rfl)).mono fun _ _ h=>⟨h.1,Ri.on h.2⟩) ?_;refine uv (v:= .bool false) (fun _ _=>(ah rfl rfl rfl (yB (by kernel_rfl) (HN _)))) ?_;refine fC fun UE sD=>?_
  iterate 11 refine zQ ?_
  rw [YH hf hall hfi];exact ⟨rfl,sD.low⟩
 rw [decide_eq_false (fun h=>hfi ((Ga hf).1 h))] at HN;refine zQ ?_;refine eH jR mixed (by kernel_rfl) ?_;iterate 3 refine zQ ?_
 refine yu (v:= .agg #[iV ((keep x).kd),iV ((keep x).nd),iV ((keep x).qu),iV ((keep x).at_),iV ((keep x).kp),iV ((keep x).ek),iV ((keep x).ep),iV ((keep x).ei),iV ((keep x).eb),iV ((keep x).eh),iV ((keep x).en)]) (wn rfl) rfl rfl (fun _=>(lM (vs:=[.agg #[iV x.kd,iV x.nd,iV x.qu,iV x.at_,iV x.kp,iV x.ek,iV x.ep,iV x.ei,iV x.eb,iV x.eh,iV x.en],.slice zL l.length l.length]) rfl alK ⟨rfl,rfl,trivial⟩)) (fun _ amk=>(Eh x l hf zL l.length _ (St.bG 0 amk rfl)).mono fun _ _ h=>⟨h.1,amk.on h.2⟩) ?_;refine uv (v:= .bool true) (fun _ _=>(ah rfl rfl rfl (yB (by kernel_rfl) (HN _)))) ?_;refine fC fun Zv yT=>?_
 iterate 10 refine zQ ?_
 rw [EP hf hall hfi];exact ⟨rfl,yT.low⟩
theorem Mf (x:Ac) (w:World):
    Calls Tryz.prog 45 #[.agg #[iV x.kd,iV x.nd,iV x.qu,iV x.at_,iV x.kp,iV x.ek,iV x.ep,iV x.ei,iV x.eb,iV x.eh,iV x.en]] w (jY w (fT x)):=by
 have S:=St.start w;refine fE 57 Tryz.func45 ?_;refine cw [0] ?_;iterate 2 refine zQ ?_
 refine gD S ?_;intro b1 w2 S3;iterate 4 refine zQ ?_
 have HF:=fun w h=>SL b1 x w h
 rcases hf:aX x.kd x.ek with _ | l
 ·rw [hf] at HF;refine zQ ?_;refine dO alI (HF _ (St.iG 0 S3 rfl rfl rfl)) ?_;rintro _ w4 ⟨rfl,hb6⟩;refine ⟨_,rfl,?_⟩;have S5:=S3.on hb6;iterate 25 refine zQ ?_
  rw [KY hf];exact ⟨rfl,S5.low⟩
 rw [hf] at HF;have hl5:=ND hf;refine zQ ?_;refine dO alI (HF _ (St.iG 0 S3 rfl rfl rfl)) ?_;rintro _ w8 ⟨A7,rfl,T10⟩;refine ⟨_,rfl,?_⟩;have S9:=S3.ext T10 rfl;iterate 28 refine zQ ?_
 refine fH (X:=Nat) (fun xv=>[(1,pV b1 0),(2,iV 0),(4,.slice A7 l.length l.length),(17,.slice A7 l.length l.length),(18,iV ((l.length:Nat):Int)),(19,iV ((xv:Nat):Int))]) (fun xv wr=>(xv≤l.length)∧((l.take xv).all (LY x)=true)∧St w.heap.size w wr [.bG 2 A7 l.length ((l).flatMap (cZ b1)),.blk b1 #[iV x.kd,iV x.nd,iV x.qu,iV x.at_,iV x.kp,iV x.ek,iV x.ep,iV x.ei,iV x.eb,iV x.eh,iV x.en] 77]) (fun xv=>l.length-xv) (0) ?_ ?_ ?_
 ·exact ⟨Nat.zero_le _,rfl,S9⟩
 ·exact ⟨rfl,rfl,rfl,rfl,rfl,rfl,trivial⟩
 rintro k Ee ⟨ahE,Ik,lq⟩
 try dsimp only at ahE Ik lq
 refine bq (l':=[(1,pV b1 0),(2,iV 0),(4,.slice A7 l.length l.length),(17,.slice A7 l.length l.length),(18,iV ((l.length:Nat):Int)),(19,iV ((k:Nat):Int))]) ⟨rfl,rfl,rfl,rfl,rfl,rfl,trivial⟩ (aW (aO ?_));by_cases V3:((k:Nat):Int)< ((l.length:Nat):Int)
 ·iterate 11 refine zQ ?_
  obtain ⟨b16,o17,rfl⟩:=Rd.addr (St.bG 0 lq rfl) (by omega);obtain ⟨x18,BS⟩:=FK k (St.bG 0 lq rfl) (by omega);refine vv (gM k) ?_;refine vv (aj rfl rfl (aG (cs:=(cZ b1) x18) Tryz.underlying164 rfl rM rfl (Rd.uN (St.bG 0 lq rfl) (fun _ _ h=>bS (enc:=(cZ b1)) (sz:=2) (fun _=>rfl) BS h)))) ?_;refine eU lq Cw ?_;intro b20 Bh ig;refine sa 0 ig rM ?_;intro JZ jB;iterate 2 refine zQ ?_
  have hp:=KX hf x18 (List.mem_of_getElem? BS);refine zQ ?_;refine eH jB mixed (by kernel_rfl) ?_;iterate 3 refine zQ ?_
  refine uv (v:=iV (x.get x18.1)) (fun _ ahI=>(aj rfl rfl (aA Tryz.underlying3 rfl (St.cl 2 ahI rfl (Ac.agp x hp.2.1))))) ?_;by_cases h29:x.get x18.1<0
  ·iterate 10 refine zQ ?_
   refine fC fun Qp oD=>?_
   iterate 14 refine zQ ?_
   rw [BL hf (KZ BS (by omega))];exact ⟨rfl,oD.low⟩
  iterate 5 refine zQ ?_
  refine ug (v:=iV (x.get x18.1)) (fun _ auk=>(aj rfl rfl (aA Tryz.underlying3 rfl (St.cl 2 auk rfl (Ac.agp x hp.2.1))))) ?_;iterate 2 refine zQ ?_
  by_cases h43:x18.2<x.get x18.1
  ·iterate 2 refine zQ ?_
   refine fC fun UJ uy=>?_
   iterate 14 refine zQ ?_
   rw [BL hf (KZ BS (by omega))];exact ⟨rfl,uy.low⟩
  iterate 2 refine zQ ?_
  refine fC fun Qw sw=>?_
  iterate 6 refine zQ ?_
  refine vv (v:=iV ((k+1:Nat):Int)) jv ?_;iterate 2 refine zQ ?_
  have oF:=sw.aR [0];refine bY (k+1) ?_ ⟨rfl,rfl,rfl,rfl,rfl,rfl,trivial⟩ (by first | omega | (dsimp only;omega));exact ⟨(by omega),(NH BS Ik (by omega)),oF⟩
 iterate 19 refine zQ ?_
 obtain rfl:k=l.length:=by omega
 have hall:=Ik;rw [List.take_length] at hall;refine fH (X:=Nat) (fun xv=>[(1,pV b1 0),(2,iV 0),(38,.slice A7 l.length l.length),(39,iV ((l.length:Nat):Int)),(40,iV ((xv:Nat):Int))]) (fun xv wr=>(xv≤l.length)∧St w.heap.size w wr [.bG 2 A7 l.length ((l).flatMap (cZ b1)),.blk b1 (nT (xS x.ints (l.take xv))) 77]) (fun xv=>l.length-xv) (0) ?_ ?_ ?_
 ·exact ⟨Nat.zero_le _,lq⟩
 ·exact ⟨rfl,rfl,rfl,rfl,rfl,trivial⟩
 rintro j Wu ⟨J3,jw⟩
 try dsimp only at J3 jw
 refine bq (l':=[(1,pV b1 0),(2,iV 0),(38,.slice A7 l.length l.length),(39,iV ((l.length:Nat):Int)),(40,iV ((j:Nat):Int))]) ⟨rfl,rfl,rfl,rfl,rfl,trivial⟩ (aW (aO ?_));by_cases h56:((j:Nat):Int)< ((l.length:Nat):Int)
 ·iterate 11 refine zQ ?_
  obtain ⟨b57,o58,rfl⟩:=Rd.addr (St.bG 0 jw rfl) (by omega);obtain ⟨x59,ahJ⟩:=FK j (St.bG 0 jw rfl) (by omega);refine vv (gM j) ?_;refine vv (aj rfl rfl (aG (cs:=(cZ b1) x59) Tryz.underlying164 rfl rM rfl (Rd.uN (St.bG 0 jw rfl) (fun _ _ h=>bS (enc:=(cZ b1)) (sz:=2) (fun _=>rfl) ahJ h)))) ?_;refine eU jw Cw ?_;intro b61 VY uO;refine sa 0 uO rM ?_;intro GZ xV;iterate 6 refine zQ ?_
  have hp:=KX hf x59 (List.mem_of_getElem? ahJ);refine ES (row':=nT (xS x.ints (l.take (j+1)))) 2 xV (wn rfl) rfl rfl rfl rfl rfl rfl fM rfl (by rw [lS (by rw [vR];rfl)];omega) (by rw [yQ,aaH ahJ]) ?_;intro NP oN;iterate 4 refine zQ ?_
  refine vv (v:=iV ((j+1:Nat):Int)) jv ?_;iterate 2 refine zQ ?_
  have uz:=oN.aR [0];refine bY (j+1) ?_ ⟨rfl,rfl,rfl,rfl,rfl,trivial⟩ (by first | omega | (dsimp only;omega));exact ⟨(by omega),uz⟩
 iterate 12 refine zQ ?_
 obtain rfl:j=l.length:=by omega
 rw [List.take_length] at jw;iterate 2 refine zQ ?_
 refine vv (aj rfl rfl (aA Tryz.underlying3 rfl (St.cl 1 jw rfl (VJ (by rw [NI _ _ (fun p hp=>(KX hf p hp).1)];rfl))))) ?_;by_cases h69:x.kd=2
 ·iterate 7 refine zQ ?_
  refine ES (row':=nT ((xS x.ints l).set 5 0)) 1 jw (wn rfl) rfl rfl rfl rfl rfl rfl fM rfl (by rw [lS (by simp only [List.length_set,vR];rfl)];decide) yQ ?_;intro UA qh;iterate 5 refine zQ ?_
  refine ES (row':=nT (((xS x.ints l).set 5 0).set 0 0)) 1 qh (wn rfl) rfl rfl rfl rfl rfl rfl fM rfl (by rw [lS (by simp only [List.length_set,vR];rfl)];decide) yQ ?_;intro VZ qL;iterate 4 refine zQ ?_
  have hfn:fin x l=((xS x.ints l).set 5 0).set 0 0:=by unfold fin;rw [if_pos h69]
  have hfl:(((xS x.ints l).set 5 0).set 0 0).length=11:=by simp only [List.length_set,vR];rfl
  have HN:=fun w=>Qo (a:=((xS x.ints l).set 5 0).set 0 0) (b:=zeros) hfl rfl w
  rw [←hfn] at HN;by_cases hfi:fin x l=zeros
  ·rw [decide_eq_true hfi] at HN;rw [hfn] at HN;refine zQ ?_;refine vv (v:= .agg (nT (((xS x.ints l).set 5 0).set 0 0))) (aj rfl rfl (pR 1 qL rfl Tryz.underlying77 rfl jA (lS hfl))) ?_;refine zQ ?_;refine vv (v:= .bool false) (ah rfl rfl rfl (yB (by kernel_rfl) (HN _))) ?_;iterate 12 refine zQ ?_
   rw [YH hf hall hfi];exact ⟨rfl,qL.low⟩
  rw [decide_eq_false hfi] at HN;rw [hfn] at HN;refine zQ ?_;refine vv (v:= .agg (nT (((xS x.ints l).set 5 0).set 0 0))) (aj rfl rfl (pR 1 qL rfl Tryz.underlying77 rfl jA (lS hfl))) ?_;refine zQ ?_;refine vv (v:= .bool true) (ah rfl rfl rfl (yB (by kernel_rfl) (HN _))) ?_;iterate 11 refine zQ ?_
  rw [EP hf hall hfi];exact ⟨rfl,qL.low⟩
 iterate 9 refine zQ ?_
 refine ES (row':=nT ((xS x.ints l).set 0 0)) 1 jw (wn rfl) rfl rfl rfl rfl rfl rfl fM rfl (by rw [lS (by simp only [List.length_set,vR];rfl)];decide) yQ ?_;intro UC vH;iterate 4 refine zQ ?_
 have hfn:fin x l=(xS x.ints l).set 0 0:=by unfold fin;rw [if_neg h69]
 have hfl:((xS x.ints l).set 0 0).length=11:=by simp only [List.length_set,vR];rfl
 have HN:=fun w=>Qo (a:=(xS x.ints l).set 0 0) (b:=zeros) hfl rfl w
 rw [←hfn] at HN;by_cases hfi:fin x l=zeros
 ·rw [decide_eq_true hfi] at HN;rw [hfn] at HN;refine zQ ?_;refine vv (v:= .agg (nT ((xS x.ints l).set 0 0))) (aj rfl rfl (pR 1 vH rfl Tryz.underlying77 rfl jA (lS hfl))) ?_;refine zQ ?_;refine vv (v:= .bool false) (ah rfl rfl rfl (yB (by kernel_rfl) (HN _))) ?_;iterate 12 refine zQ ?_
  rw [YH hf hall hfi];exact ⟨rfl,vH.low⟩
 rw [decide_eq_false hfi] at HN;rw [hfn] at HN;refine zQ ?_;refine vv (v:= .agg (nT ((xS x.ints l).set 0 0))) (aj rfl rfl (pR 1 vH rfl Tryz.underlying77 rfl jA (lS hfl))) ?_;refine zQ ?_;refine vv (v:= .bool true) (ah rfl rfl rfl (yB (by kernel_rfl) (HN _))) ?_;iterate 11 refine zQ ?_
 rw [EP hf hall hfi];exact ⟨rfl,vH.low⟩
end Go.Proofs.YtbffmhpkenoogaaGreatDoor
