import Derived.Test.YtcomidffhiilcaaGreatDoorG3dc69
import Derived.Test.YtcomidffhiilcaaGreatDoorG52a66
import Derived.Test.YtcomidffhiilcaaGreatDoorGd55f6
import Derived.Test.YtcomidffhiilcaaGreatDoorGf6e00
set_option maxRecDepth 100000
set_option maxHeartbeats 8000000
set_option linter.unusedSimpArgs false
set_option linter.unusedVariables false
namespace Go.Proofs.YtcomidffhiilcaaGreatDoor
open ChangeShapes WideShapes RowKit
def fO.fit:fO->Prop
 | .serve q evs _ _ _=>q<4/\evs.length<=2000
 | .begun q _=>q<4
 | .got q _ _=>q<4
 | .jU q b _=>q<4/\aj b=0
 | .forget q _=>q<4
noncomputable def Cl.more (w:Cl) (n:Nat):Cl:=if (w.au n).pend=none then Cl.drain n (w.au n).inbox w else w
def Nd.box (X:Nd) (r:List iO):Nd:={ X with inbox:=r }
section
variable {m:Cl} {n q:Nat} {X:Nd} {b b':bK}
theorem IU {α:Type} (f:Nat->α) (k:Nat) (u v:α):upd (upd f k u) k v=upd f k v:=by
 funext j
 unfold upd
 split<;>rfl
theorem Gi (h:(m.au n).pend≠none):m.more n=m:=if_neg h
theorem RI (h:(m.au n).inbox=[]):m.more n=m:=by
 unfold Cl.more;rw [h]
 split<;>rfl
theorem NP {l:iO} {r:List iO} (h:(m.au n).pend=none) (h1:(m.au n).inbox=l::r) (hq:l.q<4):m.more n=((m.put n ((m.au n).box r)).handle n l).more n:=by
 show m.more n=((m.put n { m.au n with inbox:=r }).handle n l).more n
 have e:=(yA (m:=m.put n { m.au n with inbox:=r }) (n:=n) (l:=l) hq).u7;rw [show (m.put n { m.au n with inbox:=r }).au n={ m.au n with inbox:=r } from upd_same _ _ _] at e;unfold Cl.more;rw [if_pos h,h1,Cl.drain,e]
theorem NQ (h:(m.au n).up=false):m.step n=m:=if_pos h
theorem Bz (h:(m.au n).up=true) (h1:(m.au n).pend=none):m.step n=if ((m.more n).au n).pend=none then (m.more n).aad n else m.more n:=by
 unfold Cl.step;rw [if_neg (by rw [h];simp),h1];unfold Cl.more;rw [if_pos h1]
def Nd.vo (X:Nd):Nd:={ X with syn:=X.data.length,pend:=none }
def Nd.eO (X:Nd) (q:Nat) (b:bK):Nd:={ X with bs:=upd X.bs q b }
theorem uJ (X:Nd) (q:Nat) (b:bK):(m.put n X).eO n q b=m.put n (X.eO q b):=by
 unfold Cl.eO Cl.put;dsimp only;rw [upd_same,IU];rfl
theorem qX {p:fO} (hX:m.au n=X) (hu:X.up=true) (hp:X.pend=some p):m.step n=(m.put n X.vo).ze n p:=by
 subst hX;unfold Cl.step;rw [if_neg (by rw [hu];simp),hp];rfl
theorem iw (X:Nd):(m.put n X).au n=X:=upd_same _ _ _
theorem BD {evs:List Ev} {op:Ev} {num:Int} {a:jo} (hX:m.au n=X) (hu:X.up=true) (hp:X.pend=some (.serve q evs op num a)) (hb:X.bs q=b) (hs:serves b):
  m.step n={ (m.put n (X.vo.eO q { b with evs:=evs })) with aX:=m.aX++[⟨n,q,b.ep,op,a,num⟩],shown:=oz m.shown n q (b.ep,evs.length),fly:=m.fly++[pG n num a nowhere] }:=by
 rw [qX hX hu hp]
 show ((m.put n X.vo).eO n q { ((m.put n X.vo).au n).bs q with evs:=evs }).done n q op num a=_
 rw [iw,uJ,show X.vo.bs q=b from hb];rw [JX (b:={ b with evs:=evs }) (iw _) (upd_same _ _ _) hs];rfl
theorem Mh {evs:List Ev} {op:Ev} {num:Int} {a:jo} (hX:m.au n=X) (hu:X.up=true) (hp:X.pend=some (.serve q evs op num a)) (hb:X.bs q=b) (hs: ¬ serves b):
  m.step n={ (m.put n (X.vo.eO q { b with evs:=evs })) with fly:=m.fly++[pG n num a (X.hints q)] }:=by
 rw [qX hX hu hp]
 show ((m.put n X.vo).eO n q { ((m.put n X.vo).au n).bs q with evs:=evs }).done n q op num a=_
 rw [iw,uJ,show X.vo.bs q=b from hb];rw [Oz (b:={ b with evs:=evs }) (iw _) (upd_same _ _ _) hs];rfl
theorem KN (hX:m.au n=X) (hu:X.up=true) (hp:X.pend=some (.begun q b)):m.step n={ (m.put n (X.vo.eO q b)) with fly:=m.fly++[Ay n q b] }:=by
 rw [qX hX hu hp]
 show ((m.put n X.vo).eO n q b).have_ n q=_
 rw [uJ];unfold Cl.have_ Cl.send;rw [iw,show (X.vo.eO q b).bs q=b from upd_same _ _ _];rfl
theorem Da (hX:m.au n=X) (hu:X.up=true) (hp:X.pend=some (.got q b true)):
  m.step n={ (m.put n { (X.vo.eO q b) with sure:=upd X.sure q false }) with aX:=m.aX++[⟨n,q,b.ep,cO,iH,-1⟩],shown:=oz m.shown n q (b.ep,b.evs.length) }:=by
 rw [qX hX hu hp];unfold Cl.ze;dsimp only;rw [if_pos rfl,uJ];simp only [iw];unfold Cl.tell Cl.put;dsimp only;rw [IU,upd_same]
 show ({ m with au:=_,aX:=m.aX++[⟨n,q,((X.vo.eO q b).bs q).ep,cO,iH,-1⟩],shown:=oz m.shown n q (((X.vo.eO q b).bs q).ep,((X.vo.eO q b).bs q).evs.length) }:Cl)=_
 rw [show (X.vo.eO q b).bs q=b from upd_same _ _ _];rfl
theorem RJ (hX:m.au n=X) (hu:X.up=true) (hp:X.pend=some (.got q b false)):m.step n={ (m.put n (X.vo.eO q b)) with fly:=m.fly++[Ay n q b] }:=by
 rw [qX hX hu hp];unfold Cl.ze;dsimp only;rw [if_neg iQ,uJ];unfold Cl.have_ Cl.send;rw [iw,show (X.vo.eO q b).bs q=b from upd_same _ _ _];rfl
theorem NR {at_:Int} (hX:m.au n=X) (hu:X.up=true) (hp:X.pend=some (.jU q b at_)):m.step n={ (m.put n (X.vo.eO q b)) with fly:=uF n q b at_ m.fly }:=by
 rw [qX hX hu hp]
 show ((m.put n X.vo).eO n q b).part n q at_=_
 rw [uJ];unfold Cl.part Cl.send uF;rw [iw,show (X.vo.eO q b).bs q=b from upd_same _ _ _]
 split
 ·rfl
 rfl
theorem G7 (hX:m.au n=X) (hu:X.up=true) (hp:X.pend=some (.forget q b)):m.step n=m.put n (X.vo.eO q b):=by
 rw [qX hX hu hp]
 show (m.put n X.vo).eO n q b=_
 rw [uJ]
end
theorem ajp {P:Program} {t e:TypeId} {A:Option Addr} {n c s:Nat} (k:Nat) (hu:P.underlying t=some (.slice e)) (hz:(P.info? e).map (·.size)=some s) (hk:k<=n) (w:World):
  (Instr.sliceAt t (.slice A n c) (some (.int .i64 ((k:Nat):Int))) none none).run P w= .ok (.slice (if c=k then A else A.map (·.add (k*s))) (n-k) (c-k)) w:=by
 obtain ⟨z,hq,hs⟩: ∃ z,P.info? e=some z/\z.size=s:=by
  cases h:P.info? e with
  | none=>simp [h] at hz
  | some z=>exact ⟨z,rfl,by simpa [h] using hz⟩
 have h1:(sizeOf e).run P w= .ok s w:=by simp [sizeOf,typeInfo,hq,hs,Sem.run_bind,Result.andThen]
 have hb:=λw=>afW (P:=P) (n:=n) (c:=c) (kd:= .i64) k rfl hk w;simp [Instr.sliceAt,Instr.slice,run_underlying hu,Sem.run_bind,Result.andThen,hb,h1]
section
variable {K:CK} {B n:Nat} {w0 w w':World} {fs gs:List Fact} {m:Cl} {H:List LX}
theorem Wd.on (h:Wd K B w0 w fs m H) (hb:Below w.heap.size w w'):Wd K B w0 w' fs m H:=by
 obtain ⟨R,G,S⟩:=h;exact ⟨R,G,S.on hb⟩
theorem Wd.ext (h:Wd K B w0 w fs m H) (T:St w.heap.size w w' gs) (hg:gs.all Fact.Hl=true):Wd K B w0 w' (gs++fs) m H:=by
 obtain ⟨R,G,S⟩:=h;refine ⟨R,G,?_⟩;have:=S.ext T hg;rwa [<-List.append_assoc] at this
theorem Wd.G8 (h:Wd K B w0 w (gs++fs) m H):St B w0 w gs:=by
 obtain ⟨R,_,S⟩:=h;exact S.sub (by rw [List.append_assoc];exact List.sublist_append_left _ _)
theorem Wd.less (h:Wd K B w0 w (gs++fs) m H):Wd K B w0 w fs m H:=by
 obtain ⟨R,G,S⟩:=h;exact ⟨R,G,S.sub (by rw [List.append_assoc];exact List.sublist_append_right _ _)⟩
theorem Wd.drew (h:Wd K B w0 w fs m H):Wd K B w0 w.drew fs m H:=by
 obtain ⟨R,G,S⟩:=h;exact ⟨R,G,S.drew⟩
end
theorem Tx (ro ep fr tg rd:Int) (A:Option Addr) (c:Nat) (l:List Ev) (kd qu e pe:Int) (x:Ev) (hlc:l.length<=c) (w:World) (h:Rd w w.heap.size 6 A l.length (bn l)) (hb:l.length*48<=reachBytes):
  Calls Tryz.prog 81 #[.agg #[iV ro,iV ep,iV fr,iV tg,iV rd,.slice A l.length c],.agg #[iV kd,iV qu,iV e,iV pe,iV x.kind,iV x.producer,iV x.id,iV x.body,iV x.aL,iV x.hno]] w (mo w (dV ⟨ro,ep,fr,tg,rd,l⟩ ⟨kd,qu,e,pe,x⟩)):=by
 by_cases hk:1<=kd/\kd<=7
 ·rcases (by omega:kd=1\/kd=2\/kd=3\/kd=4\/kd=5\/kd=6\/kd=7) with rfl | rfl | rfl | rfl | rfl | rfl | rfl
  ·exact afd ro ep fr tg rd A c l qu e pe x hlc w h hb
  ·exact aeO ro ep fr tg rd A c l qu e pe x hlc w h hb
  ·exact aeS ro ep fr tg rd A c l qu e pe x hlc w h hb
  ·exact afe ro ep fr tg rd A c l qu e pe x hlc w h hb
  ·exact aeP ro ep fr tg rd A c l qu e pe x hlc w h hb
  ·exact aeQ ro ep fr tg rd A c l qu e pe x hlc w h hb
  exact aeR ro ep fr tg rd A c l qu e pe x hlc w h hb
 exact aff ro ep fr tg rd A c l kd qu e pe x hk w h hb
theorem G9 (w:World):(Instr.makeSlice 74 (iV 4) (iV 4)).run tP w= .ok (.slice (aD w.heap.size 0) 4 4) (w.alloc (.cells (sG.flatMap BX.cells).toArray 150)):=by
 obtain ⟨i0,hi0,hz0,hz1,hz2⟩:=info_parts (P:=tP) (e:=150) (z:= .agg zB) (size:=6) (bytes:=64) kQ;have:=run_makeSlice (P:=tP) w 74 150 i0 _ Tryz.underlying74 hi0 hz0 .i64 .i64 4 4 oQ oQ (by rw [hz1];decide) (by rw [hz2];omega) oQ;rw [this,hz1];rw [show madeCells (Value.agg zB).cells ((4:Int).toNat*6)=(sG.flatMap BX.cells).toArray from by kernel_rfl];rfl
theorem afk: ∀ y∈sG,y.b.evs.length<=y.c/\y.b.evs.length<=0:=by
 intro y hy;simp [sG] at hy;subst hy;exact ⟨Nat.le_refl _,Nat.le_refl _⟩
theorem adA {bs:List BX} {k q:Nat} {z:BX} (h: ∀ y∈bs,y.b.evs.length<=y.c/\y.b.evs.length<=k) (h1:z.b.evs.length<=z.c) (h2:z.b.evs.length<=k+1): ∀ y∈bs.set q z,y.b.evs.length<=y.c/\y.b.evs.length<=k+1:=by
 intro y hy
 rcases List.mem_or_eq_of_mem_set hy with h3 | h3
 ·exact ⟨(h y h3).1,Nat.le_succ_of_le (h y h3).2⟩
 rw [h3];exact ⟨h1,h2⟩
theorem aa1 (A:Option Addr) (c:Nat) (l:List dH) (w:World) (h:Rd w w.heap.size 10 A l.length (l.flatMap dH.cells)) (hb:l.length*80<=reachBytes):
    Calls tP 51 #[.slice A l.length c] w (aoZ w (allM l)):=by
 have S:=(St.start w).bX h;have hb2:=hb;unfold reachBytes at hb2;refine gK 46 Tryz.func51 ?_;refine cw [0] ?_;refine zN 9 ?_;refine qJ (V:=λb=> .slice (aD b 0) 4 4) (row:=(sG.flatMap BX.cells).toArray) (t:=150) (n:=4) (s:=6) (xs:=sG.flatMap BX.cells) S (wn rfl) rfl rfl (Gp rfl rfl rfl (G9 _)) rfl dQ rfl ?_;intro b1 w2 S3;refine zN 12 ?_;have S4:=ai0 S3;refine eP (X:=Nat×(List BX)) (λxv=>[(2,.slice none 0 0),(3,iV 0),(4,iV 0),(5,.slice (aD b1 0) 4 4),(12,.slice A l.length c),(13,iV ((l.length:Nat):Int)),(14,iV ((xv.1:Nat):Int))]) (λxv wr=>(xv.1<=l.length)/\(allM l=nP (l.drop xv.1) xv.1 (xv.2.map BX.b))/\(xv.2.length=4)/\(∀ y∈xv.2,y.b.evs.length<=y.c/\y.b.evs.length<=xv.1)/\St w.heap.size w wr ((oB b1 xv.2)::(.rd 10 A l.length ((l).flatMap dH.cells))::eT xv.2)) (λxv=>l.length-xv.1) (0,sG) ?_ ?_ ?_
 ·exact ⟨Nat.zero_le _,rfl,rfl,afk,S4⟩
 ·exact CU
 rintro ⟨k,bs⟩ w5 ⟨Rv,Gc,hi9,nJ,S6⟩
 try dsimp only at Rv Gc hi9 nJ S6
 refine bg (l':=[(2,.slice none 0 0),(3,iV 0),(4,iV 0),(5,.slice (aD b1 0) 4 4),(12,.slice A l.length c),(13,iV ((l.length:Nat):Int)),(14,iV ((k:Nat):Int))]) CU (aA (av ?_));by_cases h11:((k:Nat):Int)< ((l.length:Nat):Int)
 ·refine zN 12 ?_;obtain ⟨b12,o13,rfl⟩:=Rd.addr (St.rd 1 S6 rfl) oQ;obtain ⟨xM,Ve⟩:=EL k (St.rd 1 S6 rfl) oQ;refine vv (kY k) ?_;refine vv (ah rfl rfl (dK (cs:=dH.cells xM) (Rd.vG (St.rd 1 S6 rfl) (λ_ _ h=>bU (enc:=dH.cells) (sz:=10) (λ_=>rfl) Ve h)))) ?_;refine fT S6 wu ?_;intro b16 Kt iU;refine zQ ?_;refine stA 0 iU kQ ?_;intro BZ kD;refine zN 6 ?_;refine cab eQ kD (jI xM _) ?_;intro CW iM;refine zN 6 ?_;by_cases Pe:aJ xM=0
  ·refine zN 7 ?_;have hrz:=zP Pe;have hq4:xM.queue.toNat<4:=oQ;obtain ⟨y,hy⟩: ∃ y,bs[xM.queue.toNat]? =some y:=⟨_,List.getElem?_eq_getElem oQ⟩;have sP:=nJ y (List.mem_of_getElem? hy);obtain ⟨R,hR⟩: ∃ R,dV y.b xM=R:=⟨_,rfl⟩;have hap:dV (II (bs.map BX.b) xM.queue) xM=R:=by rw [aiZ hy];exact hR
   have hal:=Z9 (b:=y.b) (r:=xM);rw [hR] at hal;have HP:=λw h=>Tx y.b.role y.b.ep y.b.fr y.b.tg y.b.rd y.A y.c y.b.evs xM.kind xM.queue xM.epoch xM.peer xM.ev sP.1 w h hQ;rw [show dV ⟨y.b.role,y.b.ep,y.b.fr,y.b.tg,y.b.rd,y.b.evs⟩ ⟨xM.kind,xM.queue,xM.epoch,xM.peer,xM.ev⟩=R from hR] at HP;have iy:=iM.drew;refine aF 13 iy [] ?_;refine aI 3 ?_;refine ak 3 rfl iy (λ_ _=>kY xM.queue.toNat) ?_;refine ak (v:= .agg (bR y.b y.A y.c)) 4 rfl iy (λ_ aaF=>(ah rfl rfl (dK (cs:=BX.cells y) (Rd.vG (St.ord 1 aaF rfl) (λ_ _ h=>bU (enc:=BX.cells) (sz:=6) (λ_=>rfl) hy h))))) ?_;refine dJ ?_;refine fu (n:=6) (r:=6) (s:=10) kQ ?_ ?_
   ·refine j5 6 rfl eQ (HP _ (ac7 (pre:=[_,_,_]) iy hy)) ?_;rintro _ XW ⟨A32,c33,apl,rfl,T37⟩;refine ⟨_,rfl,?_⟩;have og:=iy.ext T37 rfl;refine aI 4 ?_;refine aY 10 ?_;refine lM 10 rfl og fM ?_;intro b41 QT qM;refine dJ ?_;refine aY 11 ?_;refine Y0 11 rfl 0 qM kQ ?_;intro QU oP;refine aI 3 ?_;refine zN 5 ?_;by_cases h47:R.2=0
    ·refine zN 11 ?_;refine vv (kY xM.queue.toNat) ?_;refine lZ (xs':=(bs.set xM.queue.toNat ⟨R.1,A32,c33⟩).flatMap BX.cells) 3 oP (wn rfl) rfl rfl rfl rfl rfl rfl wm rfl (aM rfl) (by omega) (by rw [Nat.zero_add];exact qz (enc:=BX.cells) (sz:=6) (λ_=>rfl) ⟨R.1,A32,c33⟩ _ bs (by omega)) ?_;intro ZL u6;refine zN 4 ?_;refine vv (v:=iV ((k+1:Nat):Int)) j6 ?_;refine zN 2 ?_;have wZ:=u6.aU [2,0];have uh:=wZ.dZ [0,2,2];have oh:=ac8 (pre:=[_,_]) (z:=⟨R.1,A32,c33⟩) (k:=xM.queue.toNat) uh oQ;refine bT (k+1,bs.set xM.queue.toNat ⟨R.1,A32,c33⟩) ?_ CU (by first | omega | (dsimp only;omega));exact ⟨uQ,(by dsimp only;rw [Gc,Rj Ve Pe hap h47,List.map_set]),(by dsimp only;rw [List.length_set];exact hi9),(adA nJ apl (Nat.le_trans hal (Nat.succ_le_succ sP.2))),oh⟩
    refine zN 21 ?_;rw [show allM l=_ from Gc.trans (X7 Ve Pe hap h47)];exact ⟨λ_=>⟨rfl,oP.low⟩,λT h=>(by cases h)⟩
   refine lM 10 rfl iy fM ?_;intro b53 w54 vI;refine dJ ?_;refine aY 6 ?_;refine j5 6 rfl eQ (HP _ (ac7 (pre:=[_,_,_,_]) vI hy)) ?_;rintro _ w59 ⟨A56,c57,apm,rfl,T61⟩;refine ⟨_,rfl,?_⟩;have M8:=vI.ext T61 rfl;refine aI 4 ?_;refine aY 11 ?_;refine Y0 11 rfl 1 M8 kQ ?_;intro w65 EX;refine aI 3 ?_;refine zN 5 ?_;by_cases h68:R.2=0
   ·refine zN 11 ?_;refine vv (kY xM.queue.toNat) ?_;refine lZ (xs':=(bs.set xM.queue.toNat ⟨R.1,A56,c57⟩).flatMap BX.cells) 3 EX (wn rfl) rfl rfl rfl rfl rfl rfl wm rfl (aM rfl) (by omega) (by rw [Nat.zero_add];exact qz (enc:=BX.cells) (sz:=6) (λ_=>rfl) ⟨R.1,A56,c57⟩ _ bs (by omega)) ?_;intro w69 r9;refine zN 4 ?_;refine vv (v:=iV ((k+1:Nat):Int)) j6 ?_;refine zN 2 ?_;have sK:=r9.aU [2,1];have Ca:=sK.dZ [0,2,2];have tQ:=ac8 (pre:=[_,_]) (z:=⟨R.1,A56,c57⟩) (k:=xM.queue.toNat) Ca oQ;refine bT (k+1,bs.set xM.queue.toNat ⟨R.1,A56,c57⟩) ?_ CU (by first | omega | (dsimp only;omega));exact ⟨uQ,(by dsimp only;rw [Gc,Rj Ve Pe hap h68,List.map_set]),(by dsimp only;rw [List.length_set];exact hi9),(adA nJ apm (Nat.le_trans hal (Nat.succ_le_succ sP.2))),tQ⟩
   refine zN 21 ?_;rw [show allM l=_ from Gc.trans (X7 Ve Pe hap h68)];exact ⟨λ_=>⟨rfl,EX.low⟩,λT h=>(by cases h)⟩
  refine zN 21 ?_;rw [show allM l=_ from Gc.trans (aiW Ve Pe)];exact ⟨λ_=>⟨rfl,iM.low⟩,λT h=>(by cases h)⟩
 refine zN 20 ?_;have Ji:=S6.aU [1];rw [show allM l=_ from Gc.trans (aiX oQ)];exact ⟨λh=>(by cases h),λT h=>(by cases h;exact ⟨b1,bs,rfl,hi9,λy hy=>(nJ y hy).1,rfl,Ji⟩)⟩
theorem J3 (bs:List BX):(eT bs).all Fact.Hl=true:=by
 unfold eT;rw [List.all_map];exact List.all_eq_true.2 λ_ _=>rfl
theorem He (A:Option Addr) (c:Nat) (l:List UInt8) (s:Int) (w:World) (h:Rd w w.heap.size 1 A l.length (byteCells l)) {TT:List bK} (hT:Cw l s=some TT) (hb:(uw (jL l s).1 (jL l s).2.1).1.length*80<=reachBytes):
    Calls Tryz.prog 29 #[.agg #[.slice A l.length c,iV s]] w (λe w'=> ∃ A2 c2 b bs,bs.map BX.b=TT/\bs.length=4/\(∀ y∈bs,y.b.evs.length<=y.c)/\e= .returned (.tuple #[.agg #[.slice A2 (jL l s).1.length c2,iV (jL l s).2.1],.slice (aD b 0) 4 4])/\St w.heap.size w w' (.own 150 6 (.slice (aD b 0) 4 4) 4 (bs.flatMap BX.cells):: .bI 1 A2 (jL l s).1.length (byteCells (jL l s).1)::eT bs)):=by
 have S:=(St.start w).bX h;unfold Cw at hT;have HR:=λw h=>Pp A c l s w h;obtain ⟨P1,hP1⟩: ∃ r,jL l s=r:=⟨_,rfl⟩;rw [hP1] at hT hb HR⊢;have HD:=λA c w h=>Dh A c P1.1 P1.2.1 w h;obtain ⟨P2,hP2⟩: ∃ r,uw P1.1 P1.2.1=r:=⟨_,rfl⟩;rw [hP2] at hT hb HD;refine gK 31 Tryz.func29 ?_;refine cw [0] ?_;refine zN 2 ?_;refine iT S ?_;intro b1 w2 S3;refine fT S3 yI ?_;intro b4 w5 S6;refine zN 6 ?_;refine dL eQ (HR _ (St.rd 2 S6 rfl)) ?_;rintro _ w9 ⟨A7,c8,rfl,T11⟩;refine ⟨_,rfl,?_⟩;have nN:=S6.ext T11 rfl;refine zN 3 ?_;refine fT nN yI ?_;intro b12 Ce jP;refine sa 0 jP kQ ?_;intro C8 jR;refine zN 6 ?_;refine dL eQ (HD A7 c8 _ (St.bI 1 jR rfl)) ?_;rintro _ BZ ⟨LJ,c18,rfl,T21⟩;refine ⟨_,rfl,?_⟩;have kD:=jR.ext T21 rfl;refine zN 12 ?_;refine dL eQ (((aa1 LJ c18 P2.1 _ (St.ord 0 kD rfl) hb).mono λ_ _ h=>h.2 TT hT)) ?_;rintro _ Jj ⟨Q7,bs,hm,hl,hcc,rfl,T26⟩;refine ⟨_,rfl,?_⟩;have jq:=kD.ext T26 (by simp [J3,Fact.Hl]);have iy:St _ _ Jj ((oB Q7 bs)::(.own 155 10 (.slice LJ P2.1.length c18) P2.1.length ((P2.1).flatMap dH.cells))::(.blk b12 #[.slice A7 P1.1.length c8,iV P1.2.1] 106)::(.bI 1 A7 P1.1.length (byteCells P1.1))::(.blk b4 #[.slice none 0 0,iV 0] 106)::(.blk b1 #[.slice A l.length c,iV s] 106)::(.rd 1 A l.length (byteCells l))::eT bs):=St.perm jq (List.Perm.cons _ (List.perm_append_comm (l₁:=eT bs)));clear kD;refine zN 13 ?_;refine stA 4 iy kQ ?_;intro MW sJ;refine zN 5 ?_;have oW:=sJ.aU [6,5,4,2,1];exact ⟨A7,c8,Q7,bs,hm,hl,hcc,rfl,oW⟩
theorem nD {B kn n turn:Nat} {up:Bool} {tv bv iv pv:Value} {syn:Int} {Hh:Nat->Pl} {Us:Nat->Bool} {w0 w:World} {fs:List Fact} (S:St B w0 w ((.blk kn (dF n up (tv) syn (bv) Hh Us (iv) (pv) turn) 110)::fs)) (hu:Uk B w0):
    Calls Tryz.prog 40 #[pV kn 0] w (λe w'=>e= .returned (.tuple #[])/\ ∃ bb:Nat,St B w0 w' ((.blk kn (dF n up (tv) syn (.slice (aD bb 0) 4 4) (λ_=>nowhere) (λ_=>false) (.slice none 0 0) (.nilFunc) turn) 110):: .own 150 6 (.slice (aD bb 0) 4 4) 4 (sG.flatMap BX.cells)::fs)):=by
 refine gK 27 Tryz.func40 ?_;refine cw [0] ?_;refine zN 3 ?_;refine qJ (V:=λb=> .slice (aD b 0) 4 4) (row:=(sG.flatMap BX.cells).toArray) (t:=150) (n:=4) (s:=6) (xs:=sG.flatMap BX.cells) S (wn rfl) rfl rfl (Gp rfl rfl rfl (G9 _)) rfl dQ rfl ?_;intro b1 w2 S3;refine zN 2 ?_;refine jE (row':=dF n up (tv) syn (.slice (aD b1 0) 4 4) Hh Us (iv) (pv) turn) 1 S3 kQ ?_;intro w4 S5;refine zN 5 ?_;refine vv (v:= .agg #[.bool false,.bool false,.bool false,.bool false]) yz ?_;refine zN 2 ?_;refine jE (row':=dF n up (tv) syn (.slice (aD b1 0) 4 4) Hh (λ_=>false) (iv) (pv) turn) 1 S5 kQ ?_;intro w6 S7;refine zN 9 ?_;refine FJ (lY (aA (av (vv Cm ?_))));refine zN 14 ?_;have S8:=S7.drew;refine aF 7 S8 [1] ?_;refine aI 2 ?_;refine ak (v:= .agg #[iV (-1),iV 0]) 2 rfl (St.del 1 S8) (λ_ azT=>(ah rfl rfl (dK (cs:=[iV (-1),iV 0]) (Uk.rg hu azT)))) ?_;refine aI 2 ?_;refine ak (v:=pV kn (5+0*2)) 5 rfl (St.del 1 S8) (λ_ _=>(aZ rfl rfl rfl (fE 0 Tryz.underlying33 kQ rfl dQ))) ?_;refine aY 6 ?_;refine sD (i:=6) rfl rfl (cs:= #[iV (-1),iV 0]) (row':=dF n up (tv) syn (.slice (aD b1 0) 4 4) (upd Hh 0 (⟨-1,0⟩:Pl)) (λ_=>false) (iv) (pv) turn) (fs':=(_::(.blk kn (dF n up (tv) syn (.slice (aD b1 0) 4 4) (upd Hh 0 (⟨-1,0⟩:Pl)) (λ_=>false) (iv) (pv) turn) 110)::fs)) 1 S8 (wn rfl) rfl rfl rfl rfl rfl rfl Lf rfl (aM rfl) (by rw [show Array.size (dF _ _ _ _ _ _ _ _ _ _)=20 from rfl];omega) (DU (by decide) (p:=(⟨-1,0⟩:Pl))) rfl ?_;intro C8 jR;refine aI 2 ?_;refine zN 3 ?_;refine vv (v:=iV 1) j6 ?_;refine zN 2 ?_;refine qb (lY (aA (av (vv Cm ?_))));refine zN 14 ?_;have kR:=jR.drew;refine aF 7 kR [1] ?_;refine aI 2 ?_;refine ak (v:= .agg #[iV (-1),iV 0]) 2 rfl (St.del 1 kR) (λ_ aaM=>(ah rfl rfl (dK (cs:=[iV (-1),iV 0]) (Uk.rg hu aaM)))) ?_;refine aI 2 ?_;refine ak (v:=pV kn (5+1*2)) 5 rfl (St.del 1 kR) (λ_ _=>(aZ rfl rfl rfl (fE 1 Tryz.underlying33 kQ rfl dQ))) ?_;refine aY 6 ?_;refine sD (i:=6) rfl rfl (cs:= #[iV (-1),iV 0]) (row':=dF n up (tv) syn (.slice (aD b1 0) 4 4) (upd (upd Hh 0 (⟨-1,0⟩:Pl)) 1 (⟨-1,0⟩:Pl)) (λ_=>false) (iv) (pv) turn) (fs':=(_::(.blk kn (dF n up (tv) syn (.slice (aD b1 0) 4 4) (upd (upd Hh 0 (⟨-1,0⟩:Pl)) 1 (⟨-1,0⟩:Pl)) (λ_=>false) (iv) (pv) turn) 110)::fs)) 1 kR (wn rfl) rfl rfl rfl rfl rfl rfl Lf rfl (aM rfl) (by rw [show Array.size (dF _ _ _ _ _ _ _ _ _ _)=20 from rfl];omega) (DU (by decide) (p:=(⟨-1,0⟩:Pl))) rfl ?_;intro LG iy;refine aI 2 ?_;refine zN 3 ?_;refine vv (v:=iV 2) j6 ?_;refine zN 2 ?_;refine qb (lY (aA (av (vv Cm ?_))));refine zN 14 ?_;have nV:=iy.drew;refine aF 7 nV [1] ?_;refine aI 2 ?_;refine ak (v:= .agg #[iV (-1),iV 0]) 2 rfl (St.del 1 nV) (λ_ aa2=>(ah rfl rfl (dK (cs:=[iV (-1),iV 0]) (Uk.rg hu aa2)))) ?_;refine aI 2 ?_;refine ak (v:=pV kn (5+2*2)) 5 rfl (St.del 1 nV) (λ_ _=>(aZ rfl rfl rfl (fE 2 Tryz.underlying33 kQ rfl dQ))) ?_;refine aY 6 ?_;refine sD (i:=6) rfl rfl (cs:= #[iV (-1),iV 0]) (row':=dF n up (tv) syn (.slice (aD b1 0) 4 4) (upd (upd (upd Hh 0 (⟨-1,0⟩:Pl)) 1 (⟨-1,0⟩:Pl)) 2 (⟨-1,0⟩:Pl)) (λ_=>false) (iv) (pv) turn) (fs':=(_::(.blk kn (dF n up (tv) syn (.slice (aD b1 0) 4 4) (upd (upd (upd Hh 0 (⟨-1,0⟩:Pl)) 1 (⟨-1,0⟩:Pl)) 2 (⟨-1,0⟩:Pl)) (λ_=>false) (iv) (pv) turn) 110)::fs)) 1 nV (wn rfl) rfl rfl rfl rfl rfl rfl Lf rfl (aM rfl) (by rw [show Array.size (dF _ _ _ _ _ _ _ _ _ _)=20 from rfl];omega) (DU (by decide) (p:=(⟨-1,0⟩:Pl))) rfl ?_;intro XV mX
 refine aI 2 ?_;refine zN 3 ?_;refine vv (v:=iV 3) j6 ?_;refine zN 2 ?_;refine qb (lY (aA (av (vv Cm ?_))));refine zN 14 ?_;have uj:=mX.drew;refine aF 7 uj [1] ?_;refine aI 2 ?_;refine ak (v:= .agg #[iV (-1),iV 0]) 2 rfl (St.del 1 uj) (λ_ amu=>(ah rfl rfl (dK (cs:=[iV (-1),iV 0]) (Uk.rg hu amu)))) ?_;refine aI 2 ?_;refine ak (v:=pV kn (5+3*2)) 5 rfl (St.del 1 uj) (λ_ _=>(aZ rfl rfl rfl (fE 3 Tryz.underlying33 kQ rfl dQ))) ?_;refine aY 6 ?_;refine sD (i:=6) rfl rfl (cs:= #[iV (-1),iV 0]) (row':=dF n up (tv) syn (.slice (aD b1 0) 4 4) (upd (upd (upd (upd Hh 0 (⟨-1,0⟩:Pl)) 1 (⟨-1,0⟩:Pl)) 2 (⟨-1,0⟩:Pl)) 3 (⟨-1,0⟩:Pl)) (λ_=>false) (iv) (pv) turn) (fs':=(_::(.blk kn (dF n up (tv) syn (.slice (aD b1 0) 4 4) (upd (upd (upd (upd Hh 0 (⟨-1,0⟩:Pl)) 1 (⟨-1,0⟩:Pl)) 2 (⟨-1,0⟩:Pl)) 3 (⟨-1,0⟩:Pl)) (λ_=>false) (iv) (pv) turn) 110)::fs)) 1 uj (wn rfl) rfl rfl rfl rfl rfl rfl Lf rfl (aM rfl) (by rw [show Array.size (dF _ _ _ _ _ _ _ _ _ _)=20 from rfl];omega) (DU (by decide) (p:=(⟨-1,0⟩:Pl))) rfl ?_;intro QT qM;refine aI 2 ?_;refine zN 3 ?_;refine vv (v:=iV 4) j6 ?_;refine zN 2 ?_;refine qb (lY (aA (av (vv abU ?_))));refine zN 14 ?_;refine jE (row':=dF n up (tv) syn (.slice (aD b1 0) 4 4) (upd (upd (upd (upd Hh 0 (⟨-1,0⟩:Pl)) 1 (⟨-1,0⟩:Pl)) 2 (⟨-1,0⟩:Pl)) 3 (⟨-1,0⟩:Pl)) (λ_=>false) (.slice none 0 0) (pv) turn) 1 qM kQ ?_;intro QU oP;refine zN 2 ?_;refine jE (row':=dF n up (tv) syn (.slice (aD b1 0) 4 4) (upd (upd (upd (upd Hh 0 (⟨-1,0⟩:Pl)) 1 (⟨-1,0⟩:Pl)) 2 (⟨-1,0⟩:Pl)) 3 (⟨-1,0⟩:Pl)) (λ_=>false) (.slice none 0 0) (.nilFunc) turn) 1 oP kQ ?_;intro Ub vJ;refine zQ ?_;refine aK (l':=[]) trivial (nZ ?_);have pW:=vJ.dZ [0,1];exact ⟨rfl,b1,pW⟩
theorem aa3 {calls:Nat} {nv fv sv tv x:Value} {d:Dir} {sh:Nat->Nat->Int×Int}:cB (lq nv d fv sh sv tv calls) 0 [x]=lq x d fv sh sv tv calls:=Hu (Nat.le_of_ble_eq_true rfl) rfl
theorem St.flip {B:Nat} {w0 w:World} {gs fs:List Fact} (S:St B w0 w (gs++fs)):St B w0 w (fs++gs):=S.perm List.perm_append_comm
def akR (a b c d e:Nat):Nat->Nat
 | 0=>a
 | 1=>b
 | 2=>c
 | 3=>d
 | _=>e
theorem NS {L:List Fact}: ∀ y∈sG,Bv L y:=λy hy=>by
 have:y=Pz:=by simpa [sG] using hy
 subst this;exact ⟨Ro.none_,Nat.zero_le _⟩
theorem Tz {B:Nat} {w0 w:World} {fs:List Fact} (S:St B w0 w fs) (hu:Uk B w0):
    Calls Tryz.prog 27 #[] w (λe w'=> ∃ K:CK,e= .returned (pV K.wb 0)/\Wd K B w0 w' fs PD []):=by
 refine gK 27 Tryz.func27 ?_;refine bg (l':=[]) trivial (aA (av (va ?_)));refine zN 4 ?_;refine dL eQ (VY _ (Uk.nw hu S)) ?_;rintro _ w1 ⟨rfl,hb3⟩;refine ⟨_,rfl,?_⟩;have S2:=S.on hb3;refine vv (v:= .agg (lq (.slice none 0 0) (⟨nowhere,nowhere,nowhere,nowhere⟩:Dir) (.slice none 0 0) (λ_ _=>(0,0)) (.slice none 0 0) (.slice none 0 0) 0)) gB ?_;refine iT S2 ?_;intro b4 w5 S6;refine zN 10 ?_;refine FJ (lY (aA (av (vv Cm ?_))));refine zN 17 ?_;refine vv (v:= .agg (dF 0 true (.slice none 0 0) 0 (.slice none 0 0) (λ_=>(⟨0,0⟩:Pl)) (λ_=>false) (.slice none 0 0) (.nilFunc) 0)) gB ?_;refine iT S6 ?_;intro b7 w8 S9;refine zN 6 ?_;refine dL eQ (nD S9 hu) ?_;rintro _ EW ⟨rfl,azU,kP⟩;refine ⟨_,rfl,?_⟩;refine zN 2 ?_;have za:=kP.nil 104 1;refine zN 5 ?_;refine vv (ah rfl rfl (aG (St.cl 3 za rfl zy))) ?_;refine zQ ?_;refine bsI za ?_;intro b14 C8 jR;refine dY (news:=[pV b7 0]) (xs':=[gL b7]) 1 jR (wn rfl) rfl rfl rfl rfl rfl rfl (St.lI (xs:=[pV b7 0]) 0 jR rfl rfl rfl) Tryz.underlying96 Dw rfl dQ (aM rfl) lQ oQ rfl ?_;intro LJ c18 BZ hc21 aHZ kD;refine zN 2 ?_;refine jE 4 kD kQ ?_ (hs:=by exact aa3);intro Jj jq;refine zN 4 ?_;refine vv (v:=iV 1) j6 ?_;refine zN 2 ?_;refine qb (lY (aA (av (vv Cm ?_))));refine zN 17 ?_;refine vv (v:= .agg (dF 1 true (.slice none 0 0) 0 (.slice none 0 0) (λ_=>(⟨0,0⟩:Pl)) (λ_=>false) (.slice none 0 0) (.nilFunc) 0)) gB ?_;refine iT jq ?_;intro QV Jh qx;refine zN 6 ?_;refine dL eQ (nD qx hu) ?_;rintro _ XZ ⟨rfl,azV,uq⟩;refine ⟨_,rfl,?_⟩;refine zN 7 ?_;refine vv (ah rfl rfl (aG (St.cl 6 uq rfl zy))) ?_;refine zQ ?_;refine bsI uq ?_;intro b31 w32 kE;refine dY (news:=[pV QV 0]) (xs':=[gL b7,gL QV]) 4 kE (wn rfl) rfl rfl rfl rfl rfl rfl (St.lI (xs:=[pV QV 0]) 0 kE rfl rfl rfl) Tryz.underlying96 Dw rfl dQ (aM rfl) lQ oQ rfl ?_;intro A34 c35 w36 hc38 ay7 o8;refine zN 2 ?_;refine jE 7 o8 kQ ?_ (hs:=by exact aa3);intro w40 Jf;refine zN 4 ?_;refine vv (v:=iV 2) j6 ?_;refine zN 2 ?_;refine qb (lY (aA (av (vv Cm ?_))));refine zN 17 ?_;refine vv (v:= .agg (dF 2 true (.slice none 0 0) 0 (.slice none 0 0) (λ_=>(⟨0,0⟩:Pl)) (λ_=>false) (.slice none 0 0) (.nilFunc) 0)) gB ?_;refine iT Jf ?_;intro X9 w43 yO;refine zN 6 ?_;refine dL eQ (nD yO hu) ?_;rintro _ Ub ⟨rfl,azW,vJ⟩;refine ⟨_,rfl,?_⟩;refine zN 7 ?_;refine vv (ah rfl rfl (aG (St.cl 9 vJ rfl zy))) ?_;refine zQ ?_;refine bsI vJ ?_;intro X6 w49 wZ;refine dY (news:=[pV X9 0]) (xs':=[gL b7,gL QV,gL X9]) 7 wZ (wn rfl) rfl rfl rfl rfl rfl rfl (St.lI (xs:=[pV X9 0]) 0 wZ rfl rfl rfl) Tryz.underlying96 Dw rfl dQ (aM rfl) lQ oQ rfl ?_;intro A51 c52 w53 aH0 aH1 lC;refine zN 2 ?_;refine jE 10 lC kQ ?_ (hs:=by exact aa3);intro w57 um;refine zN 4 ?_;refine vv (v:=iV 3) j6 ?_;refine zN 2 ?_;refine qb (lY (aA (av (vv Cm ?_))));refine zN 17 ?_;refine vv (v:= .agg (dF 3 true (.slice none 0 0) 0 (.slice none 0 0) (λ_=>(⟨0,0⟩:Pl)) (λ_=>false) (.slice none 0 0) (.nilFunc) 0)) gB ?_;refine iT um ?_;intro b59 Zu EY;refine zN 6 ?_;refine dL eQ (nD EY hu) ?_;rintro _ w63 ⟨rfl,azX,S64⟩;refine ⟨_,rfl,?_⟩;refine zN 7 ?_;refine vv (ah rfl rfl (aG (St.cl 12 S64 rfl zy))) ?_
 refine zQ ?_;refine bsI S64 ?_;intro b65 Pg qO;refine dY (news:=[pV b59 0]) (xs':=[gL b7,gL QV,gL X9,gL b59]) 10 qO (wn rfl) rfl rfl rfl rfl rfl rfl (St.lI (xs:=[pV b59 0]) 0 qO rfl rfl rfl) Tryz.underlying96 Dw rfl dQ (aM rfl) lQ oQ rfl ?_;intro A68 c69 Y9 aH2 aH3 sK;refine zN 2 ?_;refine jE 13 sK kQ ?_ (hs:=by exact aa3);intro w74 DI;refine zN 4 ?_;refine vv (v:=iV 4) j6 ?_;refine zN 2 ?_;refine qb (lY (aA (av (vv Cm ?_))));refine zN 17 ?_;refine vv (v:= .agg (dF 4 true (.slice none 0 0) 0 (.slice none 0 0) (λ_=>(⟨0,0⟩:Pl)) (λ_=>false) (.slice none 0 0) (.nilFunc) 0)) gB ?_;refine iT DI ?_;intro b76 w77 Jm;refine zN 6 ?_;refine dL eQ (nD Jm hu) ?_;rintro _ w80 ⟨rfl,azY,tO⟩;refine ⟨_,rfl,?_⟩;refine zN 7 ?_;refine vv (ah rfl rfl (aG (St.cl 15 tO rfl zy))) ?_;refine zQ ?_;refine bsI tO ?_;intro b82 w83 CZ;refine dY (news:=[pV b76 0]) (xs':=[gL b7,gL QV,gL X9,gL b59,gL b76]) 13 CZ (wn rfl) rfl rfl rfl rfl rfl rfl (St.lI (xs:=[pV b76 0]) 0 CZ rfl rfl rfl) Tryz.underlying96 Dw rfl dQ (aM rfl) lQ oQ rfl ?_;intro A85 c86 w87 aH4 aH5 GY;refine zN 2 ?_;refine jE 16 GY kQ ?_ (hs:=by exact aa3);intro w91 yL;refine zN 4 ?_;refine vv (v:=iV 5) j6 ?_;refine zN 2 ?_;refine qb (lY (aA (av (vv abU ?_))));refine zN 17 ?_;have yZ:St _ _ _ (_::_::_::_::_::_::_::_::_::_::_::_::_::_::_::_::_::fs):=yL.bC 13 rfl;have GJ:=yZ.aU [12,9,6,3,0];have F3:=GJ.nil 123 7;have EZ:=F3.nil 50 14;have Cc:=EZ.nil 125 23;have Bo:=Cc.BO 125 23;have Zd:=Bo.BO 125 23;have rW:=Zd.BO 125 23;have vS:=rW.BO 125 23;have sZ:=vS.BO 125 23;have qU:=sZ.dZ [16];have yj:=qU.dZ [5];have rY:=yj.dZ [10];have Cx:=rY.dZ [10];have xX:=Cx.dZ [7];have uU:=xX.dZ [12];have IE:=uU.dZ [12];have qP:=IE.dZ [9];have FR:=qP.dZ [14];have vP:=FR.dZ [14];have nI:=vP.dZ [11];have Ep:=nI.dZ [16];have qQ:=Ep.dZ [16];have yh:=qQ.dZ [13];have zA:=yh.dZ [18];have vR:=zA.dZ [18];have tq:=vR.dZ [18];have qC:=tq.dZ [18];have zu:=qC.dZ [18];have Cu:=zu.dZ [19];refine ⟨⟨b4,akR b7 QV X9 b59 b76⟩,rfl,⟨λj=>⟨akR azU azV azW azX azY j,none,0,sG,none,0,[],.nilFunc⟩,none,0,[],none,0,none,0,A85,c86,[.bI 1 A85 5 [gL b7,gL QV,gL X9,gL b59,gL b76]]⟩,?_,St.flip (gs:=[_,_,_,_,_,_,_,_,_,_,_,_,_,_,_,_,_,_,_,_]) (fs:=fs) Cu⟩;exact ⟨rfl,λx hx=>(by cases hx),λn hn=>⟨rfl,NS,Ro.none_,rfl,λy hy=>(by cases hy),rfl⟩,Ro.bI (List.mem_singleton.2 rfl),λx hx=>(by cases hx)⟩
end Go.Proofs.YtcomidffhiilcaaGreatDoor
