import Derived.Deep.RegionWith
import Derived.Test.YtefabpdniidmbaaGreatDoorCards
import Derived.Test.YtefabpdniidmbaaGreatDoorTie
import Derived.Deep.DeepHandedRow
import Derived.Lib.LaidTab
import Derived.Test.YtefabpdniidmbaaGreatDoorGf5e84
set_option linter.all false
set_option maxRecDepth 100000
set_option maxHeartbeats 8000000
namespace Go.Proofs.YtefabpdniidmbaaGreatDoor
open List Nat Go.Proofs.Tryz ChangeShapes WideShapes RowKit
def tk(b:List UInt8)(i:Nat):Int×Int:=pz (b.drop (4*i))
def iM(b:List UInt8)(k j:Nat):Int:=if j<k then(tk b j).1 else 0
def om(b:List UInt8)(k:Nat):cO:=⟨iM b k 0,iM b k 1,iM b k 2,iM b k 3,⟨iM b k 4,iM b k 5,iM b k 6,iM b k 7,iM b k 8,iM b k 9⟩⟩
def lI(b:List UInt8):Nat:=if kR (tk b 0).1=true then 10 else 4
def zy(b:List UInt8):Nat->Int
 | 0=>0
 |k+1=>if zy b k≠0 then zy b k else(tk b k).2
def qm:cO:=⟨0,0,0,0,⟨0,0,0,0,0,0⟩⟩
def tQ(b:List UInt8):cO×Int:=
 if zy b (lI b)≠0 then(qm,zy b (lI b))else if b.length≠4*lI b\/aH (om b (lI b))≠0 then(qm,3)else(om b (lI b),0)
def akT(w:World)(r:cO×Int)(e:Ending)(w':World):Prop:=e=.returned (.tuple #[r.1.val,.int .i64 r.2])/\Below w.heap.size w w'
def vD{b:List UInt8}:∀ {k:Nat},(∀j,j<k->(tk b j).2=0)->zy b k=0
 | 0,_=>rfl
 |k+1,h=>by
  rw[zy,vD (λj I=>h j Y),if_neg iQ];exact h k Y
def Kw{b:List UInt8}{k:Nat}(h:∀j,j<k->(tk b j).2=0)(I:(tk b k).2≠0):∀m,k<m->zy b m=(tk b k).2
 | 0,hm=>absurd hm Y
 |m+1,hm=>by
  rw[zy];by_cases e:k=m
  ·subst e;rw[vD h,if_neg iQ]
  rw[Kw h I m Y,if_pos I]
def CV(b:List UInt8)(k:Nat):Array Value:= #[.int .i64 (iM b k 0),.int .i64 (iM b k 1),.int .i64 (iM b k 2),.int .i64 (iM b k 3),.int .i64 (iM b k 4),.int .i64 (iM b k 5),.int .i64 (iM b k 6),.int .i64 (iM b k 7),.int .i64 (iM b k 8),.int .i64 (iM b k 9)]
def Il(b:List UInt8)(k:Nat)(I:k<10):(CV b k).setIfInBounds k (.int .i64 (tk b k).1)=CV b (k+1):=by
 have h:k=0\/k=1\/k=2\/k=3\/k=4\/k=5\/k=6\/k=7\/k=8\/k=9:=Y
 rcases h with rfl|rfl|rfl|rfl|rfl|rfl|rfl|rfl|rfl|rfl
 all_goals simp[CV,iM,tk]
def DX(b:List UInt8)(k j:Nat)(I:j<10):(CV b k)[j]? =some (.int .i64 (iM b k j)):=by
 have h:j=0\/j=1\/j=2\/j=3\/j=4\/j=5\/j=6\/j=7\/j=8\/j=9:=Y
 rcases h with rfl|rfl|rfl|rfl|rfl|rfl|rfl|rfl|rfl|rfl<;>rfl
def U1(R:Nat)(w:World):(Instr.index 202 (.agg #[.pointer (some ⟨R,0,none⟩),.pointer (some ⟨R,1,none⟩),.pointer (some ⟨R,2,none⟩),.pointer (some ⟨R,3,none⟩),.pointer (some ⟨R,4,none⟩),.pointer (some ⟨R,5,none⟩),.pointer (some ⟨R,6,none⟩),.pointer (some ⟨R,7,none⟩),.pointer (some ⟨R,8,none⟩),.pointer (some ⟨R,9,none⟩)]) (.int .i64 0)).run prog w=.ok (.pointer (some ⟨R,0,none⟩)) w:=kQ
def U2(R:Nat)(w:World):(Instr.index 202 (.agg #[.pointer (some ⟨R,0,none⟩),.pointer (some ⟨R,1,none⟩),.pointer (some ⟨R,2,none⟩),.pointer (some ⟨R,3,none⟩),.pointer (some ⟨R,4,none⟩),.pointer (some ⟨R,5,none⟩),.pointer (some ⟨R,6,none⟩),.pointer (some ⟨R,7,none⟩),.pointer (some ⟨R,8,none⟩),.pointer (some ⟨R,9,none⟩)]) (.int .i64 1)).run prog w=.ok (.pointer (some ⟨R,1,none⟩)) w:=kQ
def U3(R:Nat)(w:World):(Instr.index 202 (.agg #[.pointer (some ⟨R,0,none⟩),.pointer (some ⟨R,1,none⟩),.pointer (some ⟨R,2,none⟩),.pointer (some ⟨R,3,none⟩),.pointer (some ⟨R,4,none⟩),.pointer (some ⟨R,5,none⟩),.pointer (some ⟨R,6,none⟩),.pointer (some ⟨R,7,none⟩),.pointer (some ⟨R,8,none⟩),.pointer (some ⟨R,9,none⟩)]) (.int .i64 2)).run prog w=.ok (.pointer (some ⟨R,2,none⟩)) w:=kQ
def U4(R:Nat)(w:World):(Instr.index 202 (.agg #[.pointer (some ⟨R,0,none⟩),.pointer (some ⟨R,1,none⟩),.pointer (some ⟨R,2,none⟩),.pointer (some ⟨R,3,none⟩),.pointer (some ⟨R,4,none⟩),.pointer (some ⟨R,5,none⟩),.pointer (some ⟨R,6,none⟩),.pointer (some ⟨R,7,none⟩),.pointer (some ⟨R,8,none⟩),.pointer (some ⟨R,9,none⟩)]) (.int .i64 3)).run prog w=.ok (.pointer (some ⟨R,3,none⟩)) w:=kQ
def Im(R:Nat)(w:World):(Instr.index 202 (.agg #[.pointer (some ⟨R,0,none⟩),.pointer (some ⟨R,1,none⟩),.pointer (some ⟨R,2,none⟩),.pointer (some ⟨R,3,none⟩),.pointer (some ⟨R,4,none⟩),.pointer (some ⟨R,5,none⟩),.pointer (some ⟨R,6,none⟩),.pointer (some ⟨R,7,none⟩),.pointer (some ⟨R,8,none⟩),.pointer (some ⟨R,9,none⟩)]) (.int .i64 4)).run prog w=.ok (.pointer (some ⟨R,4,none⟩)) w:=kQ
def U5(R:Nat)(w:World):(Instr.index 202 (.agg #[.pointer (some ⟨R,0,none⟩),.pointer (some ⟨R,1,none⟩),.pointer (some ⟨R,2,none⟩),.pointer (some ⟨R,3,none⟩),.pointer (some ⟨R,4,none⟩),.pointer (some ⟨R,5,none⟩),.pointer (some ⟨R,6,none⟩),.pointer (some ⟨R,7,none⟩),.pointer (some ⟨R,8,none⟩),.pointer (some ⟨R,9,none⟩)]) (.int .i64 5)).run prog w=.ok (.pointer (some ⟨R,5,none⟩)) w:=kQ
def U7(R:Nat)(w:World):(Instr.index 202 (.agg #[.pointer (some ⟨R,0,none⟩),.pointer (some ⟨R,1,none⟩),.pointer (some ⟨R,2,none⟩),.pointer (some ⟨R,3,none⟩),.pointer (some ⟨R,4,none⟩),.pointer (some ⟨R,5,none⟩),.pointer (some ⟨R,6,none⟩),.pointer (some ⟨R,7,none⟩),.pointer (some ⟨R,8,none⟩),.pointer (some ⟨R,9,none⟩)]) (.int .i64 6)).run prog w=.ok (.pointer (some ⟨R,6,none⟩)) w:=kQ
def U8(R:Nat)(w:World):(Instr.index 202 (.agg #[.pointer (some ⟨R,0,none⟩),.pointer (some ⟨R,1,none⟩),.pointer (some ⟨R,2,none⟩),.pointer (some ⟨R,3,none⟩),.pointer (some ⟨R,4,none⟩),.pointer (some ⟨R,5,none⟩),.pointer (some ⟨R,6,none⟩),.pointer (some ⟨R,7,none⟩),.pointer (some ⟨R,8,none⟩),.pointer (some ⟨R,9,none⟩)]) (.int .i64 7)).run prog w=.ok (.pointer (some ⟨R,7,none⟩)) w:=kQ
def Va(R:Nat)(w:World):(Instr.index 202 (.agg #[.pointer (some ⟨R,0,none⟩),.pointer (some ⟨R,1,none⟩),.pointer (some ⟨R,2,none⟩),.pointer (some ⟨R,3,none⟩),.pointer (some ⟨R,4,none⟩),.pointer (some ⟨R,5,none⟩),.pointer (some ⟨R,6,none⟩),.pointer (some ⟨R,7,none⟩),.pointer (some ⟨R,8,none⟩),.pointer (some ⟨R,9,none⟩)]) (.int .i64 8)).run prog w=.ok (.pointer (some ⟨R,8,none⟩)) w:=kQ
def Vb(R:Nat)(w:World):(Instr.index 202 (.agg #[.pointer (some ⟨R,0,none⟩),.pointer (some ⟨R,1,none⟩),.pointer (some ⟨R,2,none⟩),.pointer (some ⟨R,3,none⟩),.pointer (some ⟨R,4,none⟩),.pointer (some ⟨R,5,none⟩),.pointer (some ⟨R,6,none⟩),.pointer (some ⟨R,7,none⟩),.pointer (some ⟨R,8,none⟩),.pointer (some ⟨R,9,none⟩)]) (.int .i64 9)).run prog w=.ok (.pointer (some ⟨R,9,none⟩)) w:=kQ
def Yk(R:Nat)(k:Nat)(I:k<10)(w:World):(Instr.index 202 (.agg #[.pointer (some ⟨R,0,none⟩),.pointer (some ⟨R,1,none⟩),.pointer (some ⟨R,2,none⟩),.pointer (some ⟨R,3,none⟩),.pointer (some ⟨R,4,none⟩),.pointer (some ⟨R,5,none⟩),.pointer (some ⟨R,6,none⟩),.pointer (some ⟨R,7,none⟩),.pointer (some ⟨R,8,none⟩),.pointer (some ⟨R,9,none⟩)]) (.int .i64 k)).run prog w=.ok (.pointer (some ⟨R,k,none⟩)) w:=by
 have h:k=0\/k=1\/k=2\/k=3\/k=4\/k=5\/k=6\/k=7\/k=8\/k=9:=Y
 rcases h with rfl|rfl|rfl|rfl|rfl|rfl|rfl|rfl|rfl|rfl
 ·exact U1 R w
 ·exact U2 R w
 ·exact U3 R w
 ·exact U4 R w
 ·exact Im R w
 ·exact U5 R w
 ·exact U7 R w
 ·exact U8 R w
 ·exact Va R w
 exact Vb R w
def aeS(A:Option Addr)(n c:Nat)(b:List UInt8)(w:World)(h:Rd w w.heap.size 1 A n (Gt b))(hn:n<=c)(hcm:c<=maxLen):
 Calls prog 75 #[.slice A n c] w (akT w (tQ b)):=by
 have hmf:∀(fn:Fn) (first cap:Array Value) (w:World),(Instr.makeFunc fn first cap).run prog w=.ok (.func fn first cap) w:=λ_ _ _ _=>E;have hl:=h.nT;subst hl;have H:=Lib.hid h;have HIX:=Lib.hid (Yk w.heap.size);clear h;generalize hz:tQ b=z;have HZ:=Lib.hid hz;clear hz
 go_enter_defers func75,ntmps75
 go_wp2_with fail
 go_loopw [0,26] (λv i wr=> ∃k:Nat,k<=10/\i=.int .i64 k/\ ∃A2 c2,v=.slice A2 (b.length-4*k) c2/\b.length-4*k<=c2/\c2<=maxLen/\4*k<=b.length/\Rd wr w.heap.size 1 A2 (b.length-4*k) (Gt (b.drop (4*k)))/\(∀j,j<k->(tk b j).2=0)/\(4<k->kR (tk b 0).1=true)/\gB wr w.heap.size (CV b k) 138/\gB wr (w.heap.size+1) #[.int .i64 0] 52/\Below w.heap.size w wr) (λ_ i _=>10-(intOf i).toNat)
 case atStart=>
  refine⟨0,by omega,E,A,c,by simp,by simpa using hn,hcm,by omega,?_,λj hj=>absurd hj Y,λh=>absurd h Y,?_,gB.new1 w _ _ _,by go_grown⟩
  ·have:=((H.out.alloc (Nat.le_refl _) (.cells tL 138)).alloc iQ (.cells #[.int .i64 0] 52));simpa[tL]using this
  exact(gB.new w _ _).alloc _
 case round=>
  obtain⟨k,hk,rfl,A2,c2,rfl,hc2,hcm2,h4k,hr,hall,hev,hR,hE,hB⟩:=hrel;have HR:=Lib.hid hr;have HA:=Lib.hid hall;have HV:=Lib.hid hev;have HB:=Lib.hid hB;have HBR:=Lib.hid hR;have HBE:=Lib.hid hE;have hz0:w.heap.size+1<wr.heap.size:=hE.lt;have r0:wr.cell? ⟨w.heap.size,0,none⟩=some (.int .i64 (iM b k 0)):=hR.cell (DX b k 0 Y);clear hr hall hev hB hR hE;by_cases hlt:k<10
  ·have hix:=HIX.out k hlt;by_cases h4:k=4
   ·subst h4;have aJv:=Im w.heap.size;have e04:iM b 4 0=(tk b 0).1:=if_pos Y
    cases he:kR (iM b 4 0)
    ·have IG:lI b=4:=by unfold lI;rw[if_neg (by rw[<-e04,he];simp)]
     clear e04;have hez:zy b (lI b)=0:=by rw[IG];exact vD HA.out
     have Mq:=Lib.hid (λw=>jM (om b 4) w);have HD:Hid (tQ b=if b.length≠4*4\/aH (om b 4)≠0 then(qm,3)else(om b 4,0)):=Lib.hid (by unfold tQ;rw[hez,if_neg iQ,IG]);clear hez IG;have DR:=HBR.out;have DE:=HBE.out;by_cases hlen:b.length=4*4
     ·have e0:b.length-4*4=0:=Y;rw[e0];clear e0;have HD2:Hid (z=if aH (om b 4)≠0 then(qm,3)else(om b 4,0)):=Lib.hid (by
       rw[<-HZ.out,HD.out];by_cases hf:aH (om b 4)≠0
       ·rw[if_pos (.inr hf),if_pos hf]
       rw[if_neg (λh=>h.elim (λh=>h hlen) hf),if_neg hf])
      generalize aH (om b 4)=f at Mq HD2;unfold om cO.val at Mq;simp only at Mq;unfold CV at DR;obtain⟨y0,y1,y2,y3,y4,y5,y6,y7,y8,y9,yf⟩:=DR.kU;clear hlen HD
      go_wp2_with (go_at_call 77;refine(gq _ _).mono ?_;rintro e w' ⟨rfl,rfl⟩;first|rw[he]|skip)
      refine(Mq.out _).mono ?_;rintro e w3 ⟨rfl,hb3⟩;have DR:=DR.on hb3;have DE:=DE.on hb3;have HB2:=Lib.hid (HB.out.trans (hb3.mono HB.out.size));have hz3:w.heap.size+1<w3.heap.size:=DE.lt;clear hb3 y0 y1 y2 y3 y4 y5 y6 y7 y8 y9 yf;by_cases hf:f=0
      ·have HF:=Lib.hid (HD2.out.trans (if_neg (by simpa using hf)));subst hf;clear HD2;obtain⟨y0,y1,y2,y3,y4,y5,y6,y7,y8,y9,yf⟩:=DR.kU;have x0:=DE.cell (k:=0) E;have xf:=DE.free
       go_wp2_with (refine QH E _ (.tmp 2) (.tmp 56) E w.heap.size E _ E _ _ DR Ej E E ?_;intro w9 JK CP;have DE9:=CP.Mg DE Y;have x0:=DE9.cell (k:=0) E;have xf:=DE9.free)
       obtain⟨g0,g1,g2,g3,g4,g5,g6,g7,g8,g9,gf⟩:=(JK.other ⟨w.heap.size+1,0,none⟩ iQ (.int .i64 0)).kU;have g10:=(DE9.wz 0 (.int .i64 0)).cell (k:=0) E;have HB9:=CP.next HB2.out (Nat.le_refl _);refine leaves_cons (f:=101) (args:= #[.pointer (some ⟨w.heap.size,0,none⟩),.pointer (some ⟨w.heap.size+1,0,none⟩)]) iQ (by simp[go_sem]) ?_;refine(K9 w.heap.size (w.heap.size+1) _).mono ?_;rintro e u' wf ⟨rfl,rfl,rfl⟩;simp[Leaves,settle,results,results75,go_sem,g0,g1,g2,g3,g4,g5,g6,g7,g8,g9,g10];rw[HF.out];exact⟨E,HB9.setCell iQ _⟩
      have HF:=Lib.hid (HD2.out.trans (if_pos hf));have u1:(f==0)=false:=by simpa using hf
      have u2:(f != 0)=true:=by simpa using hf
      clear hf HD2
      go_wp2_with fail
      refine leaves_cons (f:=101) (args:= #[.pointer (some ⟨w.heap.size,0,none⟩),.pointer (some ⟨w.heap.size+1,0,none⟩)]) iQ (by simp[go_sem]) ?_;refine(og w.heap.size (w.heap.size+1) 3 0 _ _ Y DR (by rfl) DE).mono ?_;rintro e u' w9 ⟨rfl,rfl,V6,JV,V7⟩;unfold tL at JV;obtain⟨g0,g1,g2,g3,g4,g5,g6,g7,g8,g9,gf⟩:=JV.kU;have g10:w9.cell? ⟨w.heap.size+1,0,none⟩=some (.int .i64 3):=V7.cell E;simp[Leaves,settle,results,results75,go_sem,g0,g1,g2,g3,g4,g5,g6,g7,g8,g9,g10];rw[HF.out];exact⟨E,HB2.out.trans (V6 w.heap.size (Nat.le_refl _) Y)⟩
     have hd1:0<b.length-4*4:=Y;have hd2:(0:Int)< ((b.length-4*4:Nat):Int):=Y;have HF:Hid (z=(qm,3)):=Lib.hid (by rw[<-HZ.out,HD.out,if_pos (.inl hlen)]);have HB2:=HB;clear hlen
     go_wp2_with (go_at_call 77;refine(gq _ _).mono ?_;rintro e w' ⟨rfl,rfl⟩;first|rw[he]|skip)
     refine leaves_cons (f:=101) (args:= #[.pointer (some ⟨w.heap.size,0,none⟩),.pointer (some ⟨w.heap.size+1,0,none⟩)]) iQ (by simp[go_sem]) ?_;refine(og w.heap.size (w.heap.size+1) 3 0 _ _ Y DR (by rfl) DE).mono ?_;rintro e u' w9 ⟨rfl,rfl,V6,JV,V7⟩;unfold tL at JV;obtain⟨g0,g1,g2,g3,g4,g5,g6,g7,g8,g9,gf⟩:=JV.kU;have g10:w9.cell? ⟨w.heap.size+1,0,none⟩=some (.int .i64 3):=V7.cell E;simp[Leaves,settle,results,results75,go_sem,g0,g1,g2,g3,g4,g5,g6,g7,g8,g9,g10];rw[HF.out];exact⟨E,HB2.out.trans (V6 w.heap.size (Nat.le_refl _) Y)⟩
    have E04:=Lib.hid e04;clear e04
    go_wp2_with (go_at_call 77;refine(gq _ _).mono ?_;rintro e w' ⟨rfl,rfl⟩;rw[he])
    have HV5:Hid (4<4+1->kR (tk b 0).1=true):=Lib.hid (λ_=>by rw[<-E04.out];exact he);have HM:Hid (4<lI b):=Lib.hid (by unfold lI;rw[if_pos (by rw[<-E04.out];exact he)];omega);clear he;refine(La A2 (b.length-4*4) c2 (b.drop (4*4)) _ HR.out hc2 hcm2).mono ?_;rintro e w2 ⟨⟨q,rfl⟩,hk2⟩
    rcases hk2 with⟨hk0,A3,c3,rfl,hc3,an7,h43,hr3⟩|⟨hk0,rfl⟩
    ·have DR:=HBR.out.drewN q;have DE:=Lib.hid (HBE.out.drewN q);have HB2:=Lib.hid (JD HB.out q);have HR3:=Lib.hid (hr3.drewN q);have HA2:Hid (∀j,j<4+1->(tk b j).2=0):=Lib.hid (λj hj=>by
      by_cases e:j=4
      ·rw[e];exact hk0
      exact HA.out j Y)
     have HS:=Lib.hid (Il b 4 hlt);have ck:=DR.cell (DX b 4 4 hlt);have fk:=DR.free 4;have HDR:=Lib.hid DR;clear hk0 hr3 DR r0;simp only
     go_wp2_with fail
     go_roundw
     case rel=>
      refine⟨4+1,by omega,by go_num,A3,c3,by rw[show b.length-4*4-4=b.length-4*(4+1) by omega],by omega,an7,by omega,?_,HA2.out,(by first|exact HV5.out|exact λ_=>trivial),?_,?_,?_⟩
      ·have:=HR3.out.setCell (p:=⟨w.heap.size,4,none⟩) (Nat.le_refl _) (.int .i64 (pz (b.drop (4*4))).1);rw[drop_drop,show 4*4+4=4*(4+1) by omega,show b.length-4*4-4=b.length-4*(4+1) by omega]at this;exact this
      ·exact(HDR.out.wz 4 _).cast HS.out
      ·exact DE.out.other _ iQ _
      exact HB2.out.setCell iQ _
     case measure=>first|(simp[intOf];done)|(simp[intOf];omega)
    have e1:=Kw HA.out (show(tk b 4).2≠0 from hk0) (lI b) HM.out;have e2:tQ b=(qm,(tk b 4).2):=by
     unfold tQ;rw[e1,if_pos (show(tk b 4).2≠0 from hk0)]
    have HF:=Lib.hid (HZ.out.symm.trans e2);have DR:=HBR.out.drewN q;have DE:=HBE.out.drewN q;have HB2:=Lib.hid (JD HB.out q);clear e1 e2 hk0;simp only
    go_wp2_with fail
    refine leaves_cons (f:=101) (args:= #[.pointer (some ⟨w.heap.size,0,none⟩),.pointer (some ⟨w.heap.size+1,0,none⟩)]) iQ (by simp[go_sem]) ?_;refine(og w.heap.size (w.heap.size+1) (tk b 4).2 0 _ _ Y DR (by rfl) DE).mono ?_;rintro e u' w9 ⟨rfl,rfl,V6,JV,V7⟩;unfold tL at JV;obtain⟨g0,g1,g2,g3,g4,g5,g6,g7,g8,g9,gf⟩:=JV.kU;have g10:w9.cell? ⟨w.heap.size+1,0,none⟩=some (.int .i64 (tk b 4).2):=V7.cell E;simp[Leaves,settle,results,results75,go_sem,g0,g1,g2,g3,g4,g5,g6,g7,g8,g9,g10];rw[HF.out];exact⟨E,HB2.out.trans (V6 w.heap.size (Nat.le_refl _) Y)⟩
   have t1:((k:Int)==4)=false:=by rw[beq_eq_false_iff_ne];omega
   have t2:(k==4)=false:=by rw[beq_eq_false_iff_ne];omega
   have HV5:Hid (4<k+1->kR (tk b 0).1=true):=Lib.hid (λh=>HV.out Y);have HM:Hid (k<lI b):=Lib.hid (by
    unfold lI;by_cases h5:4<k
    ·rw[if_pos (HV.out h5)];omega
    split<;>omega)
   clear h4
   go_wp2_with fail
   refine(La A2 (b.length-4*k) c2 (b.drop (4*k)) _ HR.out hc2 hcm2).mono ?_;rintro e w2 ⟨⟨q,rfl⟩,hk2⟩
   rcases hk2 with⟨hk0,A3,c3,rfl,hc3,an7,h43,hr3⟩|⟨hk0,rfl⟩
   ·have DR:=HBR.out.drewN q;have DE:=Lib.hid (HBE.out.drewN q);have HB2:=Lib.hid (JD HB.out q);have HR3:=Lib.hid (hr3.drewN q);have HA2:Hid (∀j,j<k+1->(tk b j).2=0):=Lib.hid (λj hj=>by
     by_cases e:j=k
     ·rw[e];exact hk0
     exact HA.out j Y)
    have HS:=Lib.hid (Il b k hlt);have ck:=DR.cell (DX b k k hlt);have fk:=DR.free k;have HDR:=Lib.hid DR;clear hk0 hr3 DR r0;simp only
    go_wp2_with fail
    go_roundw
    case rel=>
     refine⟨k+1,by omega,by go_num,A3,c3,by rw[show b.length-4*k-4=b.length-4*(k+1) by omega],by omega,an7,by omega,?_,HA2.out,(by first|exact HV5.out|exact λ_=>trivial),?_,?_,?_⟩
     ·have:=HR3.out.setCell (p:=⟨w.heap.size,k,none⟩) (Nat.le_refl _) (.int .i64 (pz (b.drop (4*k))).1);rw[drop_drop,show 4*k+4=4*(k+1) by omega,show b.length-4*k-4=b.length-4*(k+1) by omega]at this;exact this
     ·exact(HDR.out.wz k _).cast HS.out
     ·exact DE.out.other _ iQ _
     exact HB2.out.setCell iQ _
    case measure=>first|(simp[intOf];done)|(simp[intOf];omega)
   have e1:=Kw HA.out (show(tk b k).2≠0 from hk0) (lI b) HM.out;have e2:tQ b=(qm,(tk b k).2):=by
    unfold tQ;rw[e1,if_pos (show(tk b k).2≠0 from hk0)]
   have HF:=Lib.hid (HZ.out.symm.trans e2);have DR:=HBR.out.drewN q;have DE:=HBE.out.drewN q;have HB2:=Lib.hid (JD HB.out q);clear e1 e2 hk0;simp only
   go_wp2_with fail
   refine leaves_cons (f:=101) (args:= #[.pointer (some ⟨w.heap.size,0,none⟩),.pointer (some ⟨w.heap.size+1,0,none⟩)]) iQ (by simp[go_sem]) ?_;refine(og w.heap.size (w.heap.size+1) (tk b k).2 0 _ _ Y DR (by rfl) DE).mono ?_;rintro e u' w9 ⟨rfl,rfl,V6,JV,V7⟩;unfold tL at JV;obtain⟨g0,g1,g2,g3,g4,g5,g6,g7,g8,g9,gf⟩:=JV.kU;have g10:w9.cell? ⟨w.heap.size+1,0,none⟩=some (.int .i64 (tk b k).2):=V7.cell E;simp[Leaves,settle,results,results75,go_sem,g0,g1,g2,g3,g4,g5,g6,g7,g8,g9,g10];rw[HF.out];exact⟨E,HB2.out.trans (V6 w.heap.size (Nat.le_refl _) Y)⟩
  obtain rfl:k=10:=Y;have IG:lI b=10:=by unfold lI;rw[if_pos (HV.out Y)]
  clear hlt hk;have hez:zy b (lI b)=0:=by rw[IG];exact vD HA.out
  have Mq:=Lib.hid (λw=>jM (om b 10) w);have HD:Hid (tQ b=if b.length≠4*10\/aH (om b 10)≠0 then(qm,3)else(om b 10,0)):=Lib.hid (by unfold tQ;rw[hez,if_neg iQ,IG]);clear hez IG;have DR:=HBR.out;have DE:=HBE.out;by_cases hlen:b.length=4*10
  ·have e0:b.length-4*10=0:=Y;rw[e0];clear e0;have HD2:Hid (z=if aH (om b 10)≠0 then(qm,3)else(om b 10,0)):=Lib.hid (by
    rw[<-HZ.out,HD.out];by_cases hf:aH (om b 10)≠0
    ·rw[if_pos (.inr hf),if_pos hf]
    rw[if_neg (λh=>h.elim (λh=>h hlen) hf),if_neg hf])
   generalize aH (om b 10)=f at Mq HD2;unfold om cO.val at Mq;simp only at Mq;unfold CV at DR;obtain⟨y0,y1,y2,y3,y4,y5,y6,y7,y8,y9,yf⟩:=DR.kU;clear hlen HD
   go_wp2_with (go_at_call 77;refine(gq _ _).mono ?_;rintro e w' ⟨rfl,rfl⟩;first|rw[he]|skip)
   refine(Mq.out _).mono ?_;rintro e w3 ⟨rfl,hb3⟩;have DR:=DR.on hb3;have DE:=DE.on hb3;have HB2:=Lib.hid (HB.out.trans (hb3.mono HB.out.size));have hz3:w.heap.size+1<w3.heap.size:=DE.lt;clear hb3 y0 y1 y2 y3 y4 y5 y6 y7 y8 y9 yf;by_cases hf:f=0
   ·have HF:=Lib.hid (HD2.out.trans (if_neg (by simpa using hf)));subst hf;clear HD2;obtain⟨y0,y1,y2,y3,y4,y5,y6,y7,y8,y9,yf⟩:=DR.kU;have x0:=DE.cell (k:=0) E;have xf:=DE.free
    go_wp2_with (refine QH E _ (.tmp 2) (.tmp 56) E w.heap.size E _ E _ _ DR Ej E E ?_;intro w9 JK CP;have DE9:=CP.Mg DE Y;have x0:=DE9.cell (k:=0) E;have xf:=DE9.free)
    obtain⟨g0,g1,g2,g3,g4,g5,g6,g7,g8,g9,gf⟩:=(JK.other ⟨w.heap.size+1,0,none⟩ iQ (.int .i64 0)).kU;have g10:=(DE9.wz 0 (.int .i64 0)).cell (k:=0) E;have HB9:=CP.next HB2.out (Nat.le_refl _);refine leaves_cons (f:=101) (args:= #[.pointer (some ⟨w.heap.size,0,none⟩),.pointer (some ⟨w.heap.size+1,0,none⟩)]) iQ (by simp[go_sem]) ?_;refine(K9 w.heap.size (w.heap.size+1) _).mono ?_;rintro e u' wf ⟨rfl,rfl,rfl⟩;simp[Leaves,settle,results,results75,go_sem,g0,g1,g2,g3,g4,g5,g6,g7,g8,g9,g10];rw[HF.out];exact⟨E,HB9.setCell iQ _⟩
   have HF:=Lib.hid (HD2.out.trans (if_pos hf));have u1:(f==0)=false:=by simpa using hf
   have u2:(f != 0)=true:=by simpa using hf
   clear hf HD2
   go_wp2_with fail
   refine leaves_cons (f:=101) (args:= #[.pointer (some ⟨w.heap.size,0,none⟩),.pointer (some ⟨w.heap.size+1,0,none⟩)]) iQ (by simp[go_sem]) ?_;refine(og w.heap.size (w.heap.size+1) 3 0 _ _ Y DR (by rfl) DE).mono ?_;rintro e u' w9 ⟨rfl,rfl,V6,JV,V7⟩;unfold tL at JV;obtain⟨g0,g1,g2,g3,g4,g5,g6,g7,g8,g9,gf⟩:=JV.kU;have g10:w9.cell? ⟨w.heap.size+1,0,none⟩=some (.int .i64 3):=V7.cell E;simp[Leaves,settle,results,results75,go_sem,g0,g1,g2,g3,g4,g5,g6,g7,g8,g9,g10];rw[HF.out];exact⟨E,HB2.out.trans (V6 w.heap.size (Nat.le_refl _) Y)⟩
  have hd1:0<b.length-4*10:=Y;have hd2:(0:Int)< ((b.length-4*10:Nat):Int):=Y;have HF:Hid (z=(qm,3)):=Lib.hid (by rw[<-HZ.out,HD.out,if_pos (.inl hlen)]);have HB2:=HB;clear hlen
  go_wp2_with (go_at_call 77;refine(gq _ _).mono ?_;rintro e w' ⟨rfl,rfl⟩;first|rw[he]|skip)
  refine leaves_cons (f:=101) (args:= #[.pointer (some ⟨w.heap.size,0,none⟩),.pointer (some ⟨w.heap.size+1,0,none⟩)]) iQ (by simp[go_sem]) ?_;refine(og w.heap.size (w.heap.size+1) 3 0 _ _ Y DR (by rfl) DE).mono ?_;rintro e u' w9 ⟨rfl,rfl,V6,JV,V7⟩;unfold tL at JV;obtain⟨g0,g1,g2,g3,g4,g5,g6,g7,g8,g9,gf⟩:=JV.kU;have g10:w9.cell? ⟨w.heap.size+1,0,none⟩=some (.int .i64 3):=V7.cell E;simp[Leaves,settle,results,results75,go_sem,g0,g1,g2,g3,g4,g5,g6,g7,g8,g9,g10];rw[HF.out];exact⟨E,HB2.out.trans (V6 w.heap.size (Nat.le_refl _) Y)⟩
def CW(l:List UInt8):Int×Int:=l.foldl (λs c=>(s.1+c.toNat,s.2+(s.1+c.toNat))) (1,0)
def agt(l:List UInt8)(x:UInt8):CW (l++[x])=((CW l).1+x.toNat,(CW l).2+((CW l).1+x.toNat)):=by simp[CW]
def Td{l:List UInt8}{k:Nat}{x:UInt8}(h:l[k]? =some x):CW (l.take (k+1))=((CW (l.take k)).1+x.toNat,(CW (l.take k)).2+((CW (l.take k)).1+x.toNat)):=by
 rw[<-agt,take_add_one,h];rfl
def Yl(l:List UInt8)(M:l.length<=1048576)(k:Nat)(O:k<=l.length):1<=(CW (l.take k)).1/\(CW (l.take k)).1<=1+255*k/\0<=(CW (l.take k)).2/\(CW (l.take k)).2<=267386881*k:=by
 induction k with
 |zero=>simp[CW]
 |succ k I=>
  have I:=I Y;have J:l[k]? =some l[k]:=getElem?_eq_getElem Y;have h:(l[k]).toNat<=255:=by have:=(l[k]).toNat_lt;omega
  rw[Td J];generalize CW (l.take k)=s at I;generalize (l[k]).toNat=v at h;obtain⟨h1,Z,h3,h4⟩:=I;refine⟨?_,?_,?_,?_⟩<;>simp only<;>omega
def Al(l:List UInt8):Int:=(CW l).2 % 65521*65536+(CW l).1 % 65521
def Rd.aq0{w:World}{B n k:Nat}{A:Option Addr}{l:List UInt8}(h:Rd w B 1 A n (Gt l))(J:k<n):∃b off x,A=some ⟨b,off,none⟩/\b<B/\l[k]? =some x/\w.cell? ⟨b,off+k,none⟩=some (.int .u8 x.toNat):=by
 obtain⟨b,off,u,e,M,I,O⟩:=h.at_ J;simp only[Gt,getElem?_map,Option.map_eq_some_iff]at I;obtain⟨x,I,rfl⟩:=I;exact⟨b,off,x,e,M,I,O⟩
def Og(A:Option Addr)(n c:Nat)(l:List UInt8)(w:World){B:Nat}(h:Rd w B 1 A n (Gt l))(hn:n<=1048576):
 Calls prog 74 #[.slice A n c] w λe w'=>e=.returned (.int .i64 (Al l))/\ ∃q,w'=w.drewN q:=by
 have hl:=h.nT;have H:=Lib.hid h;have HL:=Lib.hid hl;have HBD:=Lib.hid (Yl l Y);have HZ0:Hid (∀z,z=Al l->z=(CW l).2 % 65521*65536+(CW l).1 % 65521):=Lib.hid (λz h=>h);generalize hz:Al l=z;have HZ:=Lib.hid (HZ0.out z hz.symm);clear h hl hz HZ0
 go_enter func74,ntmps74
 go_wp2_with fail
 go_loopw [3,4,9] (λa b i wr=> ∃k:Nat,k<=n/\i=.int .i64 k/\a=.int .i64 ((CW (l.take k)).1 % 65521)/\b=.int .i64 ((CW (l.take k)).2 % 65521)/\ ∃q,wr=w.drewN q) (λ_ _ i _=>n-(intOf i).toNat)
 case atStart=>exact⟨0,by omega,E,E,E,0,E⟩
 case round=>
  obtain⟨k,hk,rfl,rfl,rfl,q,rfl⟩:=hrel;obtain⟨b1,b2,b3,b4⟩:=HBD.out k (by have:=HL.out;omega);by_cases hlt:k<n
  ·obtain⟨b,off,x,rfl,hb,hx,hc⟩:=H.out.aq0 hlt;have hx255:x.toNat<=255:=by have:=x.toNat_lt;omega
   have HE:=Lib.hid (Td hx);clear hx;generalize CW (l.take k)=s at HE b1 b2 b3 b4⊢;obtain⟨s1,s2⟩:=s;simp only at b1 b2 b3 b4 HE⊢;have k1:0<=s1 % 65521/\s1 % 65521<65521:=Y;have k2:0<=s2 % 65521/\s2 % 65521<65521:=Y;have HS1:Hid ((s1+(x.toNat:Int)) % 65521=(s1 % 65521+x.toNat) % 65521):=Lib.hid Y;have HS2:Hid ((s2+(s1+(x.toNat:Int))) % 65521=(s2 % 65521+(s1 % 65521+x.toNat) % 65521) % 65521):=Lib.hid Y;obtain⟨k1a,k1b⟩:=k1;obtain⟨k2a,k2b⟩:=k2;generalize s1 % 65521=u1 at HS1 HS2 k1a k1b⊢;generalize s2 % 65521=u2 at HS2 k2a k2b⊢;have m1:(u1+(x.toNat:Int)).tmod 65521=(u1+x.toNat) % 65521:=Int.tmod_eq_emod_of_nonneg Y;have k3:0<=(u1+(x.toNat:Int)) % 65521/\(u1+(x.toNat:Int)) % 65521<65521:=Y;obtain⟨k3a,k3b⟩:=k3;generalize (u1+(x.toNat:Int)) % 65521=u3 at m1 HS1 HS2 k3a k3b;have m2:(u2+u3).tmod 65521=(u2+u3) % 65521:=Int.tmod_eq_emod_of_nonneg Y
   go_wp2_with fail
   go_roundw
   case rel=>exact⟨k+1,by omega,by go_num,by rw[HE.out,HS1.out],by rw[HE.out,HS2.out],q,E⟩
   case measure=>simp[intOf];omega
  obtain rfl:k=n:=Y;have e1:l.take k=l:=take_of_length_le (by have:=HL.out;omega);rw[e1]at b1 b2 b3 b4⊢;clear e1 HBD;generalize CW l=s at HZ b1 b2 b3 b4⊢;obtain⟨s1,s2⟩:=s;simp only at b1 b2 b3 b4 HZ⊢;have k1:0<=s1 % 65521/\s1 % 65521<65521:=Y;have k2:0<=s2 % 65521/\s2 % 65521<65521:=Y;obtain⟨k1a,k1b⟩:=k1;obtain⟨k2a,k2b⟩:=k2;have ho:=azo (s2 % 65521) (s1 % 65521) k2a Y k1a Y;have HO:=Lib.hid ho;clear b1 b2 b3 b4
  go_wp2_with fail
  go_ret
  exact⟨by rw[HZ.out];rfl,q,E⟩
def Jd{w:World}{base:Nat}{e:TypeId}{size n c:Nat}{A:Option Addr}{xs:List Value}(h:w.ownsRow base e size (.slice A n c) n xs):n<=c:=by
 obtain⟨A2,c2,hv,I,_⟩:=mY h;simp only[Value.slice.injEq]at hv;obtain⟨_,_,rfl⟩:=hv;exact I
def aav(w:World)(e:TypeId)(size:Nat):(w.alloc (.cells #[] e)).ownsRow w.heap.size e size (.slice (some ⟨w.heap.size,0,none⟩) 0 0) 0 []:=by
 refine⟨by simp,.inr ⟨w.heap.size,0,#[],E,Nat.le_refl _,heap_alloc_new w _,Nat.le_refl _,zero_le _,by simp,by simp⟩⟩
def aeV(A:Option Addr)(n c:Nat)(l:List UInt8)(w:World)(h:Rd w w.heap.size 1 A n (Gt l))(hc:n<=reachBytes):
 Calls prog 69 #[.slice A n c] w (jA w 5 1 n (Gt l)):=by
 have hc':n<=140737488351232:=hc;obtain⟨i0,hi0,hz0,hz1,hz2⟩:=info_parts Ei
 cases A with
 |none=>
  have hn:n=0:=by
   rcases eq_zero_or_pos n with h0|h0
   ·exact h0
   obtain⟨b,off,e,_⟩:=h.2 h0
   cases e
  subst hn;have hl:Gt l=[]:=eq_nil_of_length_eq_zero (by have:=h.1;omega);rw[hl];clear hl h
  go_enter func69,ntmps69
  have he:= @Lib.run_eql_slice_nil prog
  go_wp2
  go_ret
  exact jA.of (Below.refl _ _) (jk _ _ _ _)
 |some a=>
  go_enter func69,ntmps69
  have he:= @Lib.run_eql_slice_nil prog
  go_wp2_with (at_builtin;refine jF _ E (.tmp 5) (.tmp 6) _ E w.heap.size 5 i0 _ 1 1 underlying99 hi0 hz0 hz1 hz2 E Y (.slice (some ⟨w.heap.size,0,none⟩) 0 0) 0 [] E (aav w 5 1) w.heap.size (some a) n c (Gt l) E (h.alloc (Nat.le_refl _) _) (Q5 l) lQ Y iQ ?_;intro v1 w1 hown1 hg1 Mf)
  go_ret
  simp only[Nat.zero_add,nil_append]at hown1;exact jA.of (((Below.refl _ w).alloc (Nat.le_refl _) _).grown hg1 iQ (by simp[Value.ownBlock])) hown1
def dx(l:List UInt8)(s:Int):Bool:=decide (l.length<=100000)&&decide (0<=s)&&decide (s<=l.length)
def II(l:List UInt8)(s:Int):List UInt8×Int×Bool:=if dx l s=true then(l,s,true)else([],0,false)
def ET(w:World)(r:List UInt8×Int×Bool)(e:Ending)(w':World):Prop:=
 ∃A c,e=.returned (.tuple #[.agg #[.slice A r.1.length c,.int .i64 r.2.1],.bool r.2.2])/\Below w.heap.size w w'/\w'.ownsRow w.heap.size 5 1 (.slice A r.1.length c) r.1.length (Gt r.1)
def ET.no(w:World){o:Obj}{o':Obj}(W:World)(hW:W=(w.alloc o).alloc o'):Below w.heap.size w W:=by
 subst hW
 go_grown
def agu(A:Option Addr)(n c:Nat)(l:List UInt8)(s:Int)(w:World)(h:Rd w w.heap.size 1 A n (Gt l))(h1:0<=s)(h2:s<=n)(h3:n<=100000):
 Calls prog 52 #[.agg #[.slice A n c,.int .i64 s]] w (ET w (l,s,true)):=by
 have HL:=Lib.hid h.nT;have H:=Lib.hid h;clear h
 go_enter func52,ntmps52
 go_wp2
 go_region_with (go_at_call 69;refine(aeV A n c l _ (by exact H.out.on gQ) hQ).mono ?_;rintro e w1 ⟨A1,c1,rfl,hb1,hown1⟩;obtain⟨hc1,hf1⟩:=CZ hb1)
 all_goals (have hz1:=hb1.size;simp at hz1)
 all_goals go_wp2
 all_goals refine bodyPost_ret (v:=.tuple #[.agg #[.slice A1 n c1,.int .i64 s],.bool true]) (by simp[results,results52,go_sem,hc1]) E ?_
 all_goals (have hB:Below w.heap.size w w1:=Below.trans gQ (hb1.mono jQ))
 all_goals (obtain rfl:=HL.out)
 all_goals exact⟨A1,c1,E,by go_grown,(ownsRow_setCell_below (ownsRow_setCell_below (base:=w.heap.size+1+1) (hown1.lower iQ) iQ _) iQ _).lower Y⟩
def akU(A:Option Addr)(n c:Nat)(s:Int)(w:World)(Nc:s<0\/(n:Int)<s\/100000<n):
 Calls prog 52 #[.agg #[.slice A n c,.int .i64 s]] w (ET w ([],0,false)):=by
 by_cases h1:s<0
 ·clear Nc
  go_enter func52,ntmps52
  go_wp2
  refine bodyPost_ret (v:=.tuple #[.agg #[.slice none 0 0,.int .i64 0],.bool false]) (by simp[results,results52,go_sem]) E ?_;exact⟨none,0,E,by go_grown,jk _ _ _ _⟩
 by_cases h2:(n:Int)<s
 ·have h1':0<=s:=Y;clear Nc h1
  go_enter func52,ntmps52
  go_wp2
  refine bodyPost_ret (v:=.tuple #[.agg #[.slice none 0 0,.int .i64 0],.bool false]) (by simp[results,results52,go_sem]) E ?_;exact⟨none,0,E,by go_grown,jk _ _ _ _⟩
 have h1':0<=s:=Y;have h2':s<=n:=Y;have h3:100000<n:=Y;clear Nc h1 h2
 go_enter func52,ntmps52
 go_wp2
 refine bodyPost_ret (v:=.tuple #[.agg #[.slice none 0 0,.int .i64 0],.bool false]) (by simp[results,results52,go_sem]) E ?_;exact⟨none,0,E,by go_grown,jk _ _ _ _⟩
def Ce{l:List UInt8}{s:Int}(h1:0<=s)(h:s<=l.length)(I:l.length<=100000):II l s=(l,s,true):=if_pos (by simp[dx,h1,h,I])
def agv{l:List UInt8}{s:Int}(h:s<0\/(l.length:Int)<s\/100000<l.length):II l s=([],0,false):=if_neg (by simp[dx];omega)
def l7(A:Option Addr)(n c:Nat)(l:List UInt8)(s:Int)(w:World)(h:Rd w w.heap.size 1 A n (Gt l)):
 Calls prog 52 #[.agg #[.slice A n c,.int .i64 s]] w (ET w (II l s)):=by
 have J:=h.nT;by_cases I:0<=s/\s<=n/\n<=100000
 ·rw[Ce I.1 Y Y];exact agu A n c l s w h I.1 I.2.1 I.2.2
 rw[agv Y];exact akU A n c s w Y
def rY(w:World)(r:List UInt8×Int×Int)(e:Ending)(w':World):Prop:=
 ∃A c,e=.returned (.tuple #[.agg #[.slice A r.1.length c,.int .i64 r.2.1],.int .i64 r.2.2])/\Below w.heap.size w w'/\Rd w' w'.heap.size 1 A r.1.length (Gt r.1)/\ ∀a,A=some a->w.heap.size<=a.block/\a.block<w'.heap.size
def Oh{w:World}{base:Nat}{e:TypeId}{size:Nat}{A:Option Addr}{n c:Nat}{xs:List Value}(h:w.ownsRow base e size (.slice A n c) n xs):∀a,A=some a->base<=a.block/\a.block<w.heap.size:=λa I=>⟨h.zI a.block (by rw[I];rfl),by
 obtain⟨_,⟨J,_⟩|⟨g,cap,M,hv,_,O,_⟩⟩:=h
 ·cases J;cases I
 cases hv;cases I;exact(Array.getElem?_eq_some_iff.1 O).1⟩
def Xb(l:List UInt8)(s:Int):List UInt8×Int×Int:=if dx l s=true then(l,l.length,0)else([],0,6)
def AB(l:List UInt8)(s:Int):(II l s=(l,s,true)/\dx l s=true)\/(II l s=([],0,false)/\dx l s=false):=by
 unfold II
 cases h:dx l s<;>simp
def pI{l:List UInt8}{s:Int}(h:dx l s=true):l.length<=100000/\0<=s/\s<=l.length:=by
 simp[dx]at h;omega
def pJ(A:Option Addr)(n c:Nat)(l:List UInt8)(s:Int)(w:World)(h:Rd w w.heap.size 1 A n (Gt l)):
 Calls prog 46 #[.agg #[.slice A n c,.int .i64 s]] w (rY w (Xb l s)):=by
 have H:=Lib.hid h;clear h;have HO:=Lib.hid (l7 A n c l s)
 rcases AB l s with⟨ho,hm⟩|⟨ho,hm⟩
 ·rw[show Xb l s=(l,(l.length:Int),0)from if_pos hm];rw[ho]at HO;obtain⟨hm1,_,_⟩:=pI hm;clear ho hm
  go_enter func46,ntmps46
  go_wp2_with fail
  refine(HO.out _ (by exact H.out.on gQ)).mono ?_;rintro e w1 ⟨A1,c1,rfl,hb1,hown1⟩;have hz0:w.heap.size<w1.heap.size:=by have:=hb1.size;simp at this;omega
  have hz1:w.heap.size+1<w1.heap.size:=by have:=hb1.size;simp at this;omega
  obtain⟨hc1,hf1⟩:=CZ hb1;have HB:Hid (Below w.heap.size w w1):=Lib.hid (Below.trans gQ (hb1.mono jQ));have HR:=Lib.hid (World.ownsRow.lower (base':=w.heap.size+1+1) hown1 iQ);clear hb1 hown1
  go_wp2
  refine bodyPost_ret (v:=.tuple #[.agg #[.slice A1 l.length c1,.int .i64 l.length],.int .i64 0]) (by simp[results,results46,go_sem,hc1,hz1]<;>omega) E ?_;have hB:=HB.out;have hz:=hB.size;exact⟨A1,c1,E,by go_grown,Rd.uf ((ownsRow_setCell_below (ownsRow_setCell_below HR.out iQ _) iQ _).alloc _),λa ha=>by have:=Oh HR.out a ha;refine⟨by omega,?_⟩;simp;omega⟩
 rw[show Xb l s=([],0,6)from if_neg (by simp[hm])];rw[ho]at HO;clear ho hm
 go_enter func46,ntmps46
 go_wp2_with fail
 refine(HO.out _ (by exact H.out.on gQ)).mono ?_;rintro e w1 ⟨A1,c1,rfl,hb1,hown1⟩;have hz0:w.heap.size<w1.heap.size:=by have:=hb1.size;simp at this;omega
 have hz1:w.heap.size+1<w1.heap.size:=by have:=hb1.size;simp at this;omega
 obtain⟨hc1,hf1⟩:=CZ hb1;have HB:Hid (Below w.heap.size w w1):=Lib.hid (Below.trans gQ (hb1.mono jQ));clear hb1 hown1
 go_wp2
 refine bodyPost_ret (v:=.tuple #[.agg #[.slice none 0 0,.int .i64 0],.int .i64 6]) (by simp[results,results46,go_sem,hc1,hz1]<;>omega) E ?_;have hB:=HB.out;have hz:=hB.size;exact⟨none,0,E,by go_grown,Rd.Q8,λa ha=>by cases ha⟩
def nG(l:List UInt8)(s keep:Int):List UInt8×Int×Int:=
 if dx l s=true then if keep<0 then([],0,2)else if (l.length:Int)-s<keep then(l,l.length,0)else(l.take (s+keep).toNat,s+keep,0)else([],0,6)
def Rd.take{w:World}{B size n:Nat}{A:Option Addr}{xs:List Value}(h:Rd w B size A n xs){m:Nat}(J:m<=n):Rd w B size A m (xs.take (m*size)):=by
 refine⟨?_,λZ=>?_⟩
 ·rw[length_take,h.1];exact Nat.min_eq_left (mul_le_mul_right _ J)
 obtain⟨b,off,e,M,O⟩:=h.2 Y;refine⟨b,off,e,M,λj u I=>O j u ?_⟩;rw[getElem?_take]at I
 split at I
 ·exact I
 cases I
def aaW(l:List UInt8)(m:Nat):(Gt l).take m=Gt (l.take m):=by simp[Gt,map_take]
def abM(A:Option Addr)(n c:Nat)(l:List UInt8)(s keep:Int)(w:World)(h:Rd w w.heap.size 1 A n (Gt l))(hm:dx l s=true)(h0:0<=keep)(hk:(l.length:Int)-s<keep):
 Calls prog 36 #[.agg #[.slice A n c,.int .i64 s],.int .i64 keep] w (rY w (l,l.length,0)):=by
 have H:=Lib.hid h;clear h;have HO:=Lib.hid (l7 A n c l s);obtain⟨hm1,hs0,hs1⟩:=pI hm;rw[Ce hs0 hs1 hm1]at HO;obtain⟨s',rfl⟩:=Int.eq_ofNat_of_zero_le hs0;clear hm
 go_enter func36,ntmps36
 go_wp2_with fail
 refine(HO.out _ (by exact H.out.on gQ)).mono ?_;rintro e w1 ⟨A1,c1,rfl,hb1,hown1⟩;have hz0:w.heap.size<w1.heap.size:=by have:=hb1.size;simp at this;omega
 have hz1:w.heap.size+1<w1.heap.size:=by have:=hb1.size;simp at this;omega
 obtain⟨hc1,hf1⟩:=CZ hb1;have HB:Hid (Below w.heap.size w w1):=Lib.hid (Below.trans gQ (hb1.mono jQ));have hcap:=Jd hown1;have HR:=Lib.hid (World.ownsRow.lower (base':=w.heap.size+1+1) hown1 iQ);clear hb1 hown1;have e1:(s':Int)+((l.length:Int)-s')=l.length:=Y
 go_wp2
 refine bodyPost_ret (v:=.tuple #[.agg #[.slice A1 l.length l.length,.int .i64 l.length],.int .i64 0]) (by simp[results,results36,go_sem,hc1,hz1]<;>omega) E ?_;have hB:=HB.out;have hz:=hB.size;exact⟨A1,l.length,E,by go_grown,Rd.KX ((ownsRow_setCell_below (ownsRow_setCell_below HR.out iQ _) iQ _).alloc _),λa ha=>by have:=Oh HR.out a ha;refine⟨by omega,?_⟩;simp;omega⟩
def Ym(A:Option Addr)(n c:Nat)(l:List UInt8)(s keep:Int)(w:World)(h:Rd w w.heap.size 1 A n (Gt l))(hm:dx l s=true)(h0:0<=keep)(hk:¬(l.length:Int)-s<keep):
 Calls prog 36 #[.agg #[.slice A n c,.int .i64 s],.int .i64 keep] w (rY w (l.take (s+keep).toNat,s+keep,0)):=by
 have H:=Lib.hid h;clear h;have HO:=Lib.hid (l7 A n c l s);obtain⟨hm1,hs0,hs1⟩:=pI hm;rw[Ce hs0 hs1 hm1]at HO;obtain⟨s',rfl⟩:=Int.eq_ofNat_of_zero_le hs0;obtain⟨k',rfl⟩:=Int.eq_ofNat_of_zero_le h0;have hsk:s'+k'<=l.length:=Y;have hk':(s':Int)+k'<=l.length:=Y;clear hm;rw[show((s':Int)+(k':Int)).toNat=s'+k' by omega]
 go_enter func36,ntmps36
 go_wp2_with fail
 refine(HO.out _ (by exact H.out.on gQ)).mono ?_;rintro e w1 ⟨A1,c1,rfl,hb1,hown1⟩;have hz0:w.heap.size<w1.heap.size:=by have:=hb1.size;simp at this;omega
 have hz1:w.heap.size+1<w1.heap.size:=by have:=hb1.size;simp at this;omega
 obtain⟨hc1,hf1⟩:=CZ hb1;have HB:Hid (Below w.heap.size w w1):=Lib.hid (Below.trans gQ (hb1.mono jQ));have hcap:=Jd hown1;have HR:=Lib.hid (World.ownsRow.lower (base':=w.heap.size+1+1) hown1 iQ);clear hb1 hown1
 go_wp2
 refine bodyPost_ret (v:=.tuple #[.agg #[.slice A1 (s'+k') (s'+k'),.int .i64 (s'+k')],.int .i64 0]) (by simp[results,results36,go_sem,hc1,hz1]<;>omega) E ?_;have hB:=HB.out;have hz:=hB.size;have hl:(l.take (s'+k')).length=s'+k':=by rw[length_take];omega
 have hr:=(Rd.KX ((ownsRow_setCell_below (ownsRow_setCell_below HR.out (a:=⟨w.heap.size+1,0,none⟩) iQ (.slice A1 (s'+k') (s'+k'))) (a:=⟨w.heap.size+1,1,none⟩) iQ (.int .i64 (s'+k'))).alloc (.cells #[.slice A1 l.length c1,.int .i64 s'] 101))).take hsk;rw[Nat.mul_one,aaW]at hr
 try simp only[show(s':Int)+min (k':Int) ((l.length:Int)-s')=(s':Int)+k' by omega,show((s':Int)+(k':Int)).toNat=s'+k' by omega]
 exact⟨A1,s'+k',by simp only[hl],by go_grown,by simpa only[hl]using hr,λa ha=>by have:=Oh HR.out a ha;refine⟨by omega,?_⟩;simp;omega⟩
def abN(A:Option Addr)(n c:Nat)(l:List UInt8)(s keep:Int)(w:World)(h:Rd w w.heap.size 1 A n (Gt l))(hm:dx l s=true)(h0:keep<0):
 Calls prog 36 #[.agg #[.slice A n c,.int .i64 s],.int .i64 keep] w (rY w ([],0,2)):=by
 have H:=Lib.hid h;clear h;have HO:=Lib.hid (l7 A n c l s);obtain⟨hm1,hs0,hs1⟩:=pI hm;rw[Ce hs0 hs1 hm1]at HO;clear hm
 go_enter func36,ntmps36
 go_wp2_with fail
 refine(HO.out _ (by exact H.out.on gQ)).mono ?_;rintro e w1 ⟨A1,c1,rfl,hb1,hown1⟩;have hz0:w.heap.size<w1.heap.size:=by have:=hb1.size;simp at this;omega
 have hz1:w.heap.size+1<w1.heap.size:=by have:=hb1.size;simp at this;omega
 obtain⟨hc1,hf1⟩:=CZ hb1;have HB:Hid (Below w.heap.size w w1):=Lib.hid (Below.trans gQ (hb1.mono jQ));have hcap:=Jd hown1;have HR:=Lib.hid (World.ownsRow.lower (base':=w.heap.size+1+1) hown1 iQ);clear hb1 hown1
 go_wp2
 refine bodyPost_ret (v:=.tuple #[.agg #[.slice none 0 0,.int .i64 0],.int .i64 2]) (by simp[results,results36,go_sem,hc1,hz1]<;>omega) E ?_;have hB:=HB.out;have hz:=hB.size;exact⟨none,0,E,by go_grown,Rd.Q8,λa ha=>by cases ha⟩
def agw(A:Option Addr)(n c:Nat)(l:List UInt8)(s keep:Int)(w:World)(h:Rd w w.heap.size 1 A n (Gt l))(hm:dx l s=false):
 Calls prog 36 #[.agg #[.slice A n c,.int .i64 s],.int .i64 keep] w (rY w ([],0,6)):=by
 have H:=Lib.hid h;clear h;have HO:=Lib.hid (l7 A n c l s)
 rcases AB l s with⟨_,hm'⟩|⟨ho,_⟩
 ·rw[hm]at hm';cases hm'
 rw[ho]at HO;clear ho hm
 go_enter func36,ntmps36
 go_wp2_with fail
 refine(HO.out _ (by exact H.out.on gQ)).mono ?_;rintro e w1 ⟨A1,c1,rfl,hb1,hown1⟩;have hz0:w.heap.size<w1.heap.size:=by have:=hb1.size;simp at this;omega
 have hz1:w.heap.size+1<w1.heap.size:=by have:=hb1.size;simp at this;omega
 obtain⟨hc1,hf1⟩:=CZ hb1;have HB:Hid (Below w.heap.size w w1):=Lib.hid (Below.trans gQ (hb1.mono jQ));have hcap:=Jd hown1;have HR:=Lib.hid (World.ownsRow.lower (base':=w.heap.size+1+1) hown1 iQ);clear hb1 hown1
 go_wp2
 refine bodyPost_ret (v:=.tuple #[.agg #[.slice none 0 0,.int .i64 0],.int .i64 6]) (by simp[results,results36,go_sem,hc1,hz1]<;>omega) E ?_;have hB:=HB.out;have hz:=hB.size;exact⟨none,0,E,by go_grown,Rd.Q8,λa ha=>by cases ha⟩
def Ve(A:Option Addr)(n c:Nat)(l:List UInt8)(s keep:Int)(w:World)(h:Rd w w.heap.size 1 A n (Gt l)):
 Calls prog 36 #[.agg #[.slice A n c,.int .i64 s],.int .i64 keep] w (rY w (nG l s keep)):=by
 unfold nG
 cases I:dx l s
 ·rw[if_neg iQ];exact agw A n c l s keep w h I
 rw[if_pos E];by_cases M:keep<0
 ·rw[if_pos M];exact abN A n c l s keep w h I M
 rw[if_neg M];by_cases J:(l.length:Int)-s<keep
 ·rw[if_pos J];exact abM A n c l s keep w h I Y J
 rw[if_neg J];exact Ym A n c l s keep w h I Y J
def QZ(p:List UInt8):List UInt8:=UInt8.ofNat (p.length / 256)::UInt8.ofNat (p.length % 256)::p
def jT(p:List UInt8):List UInt8:=QZ p++zL (Al (QZ p))
def vE(p:List UInt8):(jT p).length=p.length+6:=by simp[jT,QZ,zL]
def Yn(p:List UInt8):(QZ p).length=p.length+2:=by simp[QZ]
def Yo{n:Int}(I:0<=n)(h1:n<=4294967295):
 Gt (zL n)=[.int .u8 (n / 16777216),.int .u8 (n / 65536 % 256),.int .u8 (n / 256 % 256),.int .u8 (n % 256)]:=by
 have h:∀m:Int,0<=m->m<=255->((UInt8.ofNat m.toNat).toNat:Int)=m:=by
  intro m a b;simp;omega
 simp only[Gt,zL,map_cons,map_nil];rw[h _ Y Y,h _ Y Y,h _ Y Y,h _ Y Y]
def Lj(l:List UInt8):0<=Al l/\Al l<=4293984240:=by
 unfold Al;omega
def aeW(p:List UInt8)(h:p.length<=65535):Gt (QZ p)=[.int .u8 ((p.length:Int) / 256),.int .u8 ((p.length:Int) % 256)]++Gt p:=by
 simp only[QZ,Gt,map_cons,cons_append,nil_append,List.cons.injEq,Value.int.injEq,true_and,and_true]
 constructor
 ·simp;omega
 simp
def two_bytes(w:World)(a b:Int):(w.alloc (.cells #[.int .u8 a,.int .u8 b] 5)).ownsRow w.heap.size 5 1 (.slice (some ⟨w.heap.size,0,none⟩) 2 2) 2 [.int .u8 a,.int .u8 b]:=
 Zc w _ 5 2 1 E (by simp[maxLen])
def Yp(w:World)(s:Int)(h:0<=s)(h1:s<=4294967295):Rd (w.alloc (.cells #[.int .u8 (s / 16777216),.int .u8 (s / 65536 % 256),.int .u8 (s / 256 % 256),.int .u8 (s % 256)] 5)) (w.heap.size+1) 1 (some ⟨w.heap.size,0,none⟩) 4 (Gt (zL s)):=by
 rw[Yo h h1];exact Rd.ah4 w 5 _ 4 1 E
def Vf(A:Option Addr)(n c:Nat)(p:List UInt8)(w:World)(h:Rd w w.heap.size 1 A n (Gt p))(hn:n<=1000):
 Calls prog 85 #[.slice A n c] w (jA w 5 1 (jT p).length (Gt (jT p))):=by
 obtain⟨j0,hj0,SH,SI,SK⟩:=info_parts Ei;have hl:=h.nT;subst hl;have H:=Lib.hid h;have HC:=Lib.hid (aeW p Y);have HS:=Lib.hid (λA n c w (h:Rd w w.heap.size 1 A n (Gt (QZ p)))=>Og A n c (QZ p) w h (by have:=h.nT;have:=Yn p;omega));have HF:Hid ((jT p).length=p.length+6/\Gt (jT p)=Gt (QZ p)++Gt (zL (Al (QZ p)))):=Lib.hid ⟨vE p,by rw[jT,Q7]⟩;obtain⟨s0,s1⟩:=Lj (QZ p);clear h;generalize jT p=z at HF⊢;generalize Al (QZ p)=s at HS HF s0 s1;have H4:=Lib.hid (λw=>Yp w s s0 Y);have H2:=Lib.hid (two_bytes w ((p.length:Int) / 256) ((p.length:Int) % 256))
 go_enter func85,ntmps85
 go_wp2_with (at_builtin;refine jF _ E (.tmp 12) (.tmp 13) _ E w.heap.size 5 j0 _ 1 1 underlying99 hj0 SH SI SK E Y (.slice (some ⟨w.heap.size,0,none⟩) 2 2) 2 _ E H2.out w.heap.size A p.length c (Gt p) E (by exact H.out.alloc (Nat.le_refl _) _) (Q5 _) lQ Y iQ ?_;intro v1 w3 hown1 hg1 Mf;obtain⟨A4,c4,rfl,_⟩:=mY hown1;rw[<-HC.out]at hown1)
 have HB3:Hid (Below w.heap.size w w3):=Lib.hid (Below.grown gQ hg1 iQ (λk hk=>by simp[Value.ownBlock]at hk;omega));have HO3:=Lib.hid hown1;have HR3:=Lib.hid (Rd.uf hown1);have hz3:w.heap.size<w3.heap.size:=by have:=hg1.size;simp at this;omega
 clear hown1 hg1 Mf
 go_wp2_with fail
 refine(HS.out _ _ _ _ (by exact HR3.out)).mono ?_;rintro e w4 ⟨rfl,q,rfl⟩;have HO4:Hid ((w3.drewN q).ownsRow w.heap.size 5 1 (.slice A4 (2+p.length) c4) (2+p.length) (Gt (QZ p))):=HO3;have HB4:=Lib.hid (JD HB3.out q);have hz4:w.heap.size< (w3.drewN q).heap.size:=hz3;clear HO3 HR3;generalize w3.drewN q=w4 at HO4 HB4 hz4⊢
 go_wp2_with (at_builtin;refine jF _ E (.tmp 17) (.tmp 29) _ E w.heap.size 5 j0 _ 1 1 underlying99 hj0 SH SI SK E Y _ (2+p.length) (Gt (QZ p)) E (HO4.out.alloc _) (w4.heap.size+1) (some ⟨w4.heap.size,0,none⟩) 4 4 (Gt (zL s)) E (H4.out w4) (Q5 _) lQ Y jQ ?_;intro v1 w5 hown1 hg1 Mf;obtain⟨A5,c5,rfl,_⟩:=mY hown1;rw[<-HF.out.2,show 2+p.length+4=z.length by rw[HF.out.1];omega]at hown1)
 have HB5:=Lib.hid (((HB4.out.alloc Y _).grown hg1 jQ (λk hk=>HO4.out.zI k hk)))
 go_ret
 rw[show 2+p.length+4=z.length by rw[HF.out.1];omega];exact⟨A5,c5,E,HB5.out,hown1⟩
def jc(l:List UInt8)(s:Int)(r:cO):List UInt8×Int×Int:=
 if dx l s=false then([],0,6)else if (nW r).2≠0 then([],0,(nW r).2)else if 100000<l.length+(jT (nW r).1).length then([],0,14)else(l++jT (nW r).1,s,0)
def EU(r:cO):(nW r).1.length<=40:=by
 unfold nW
 split
 ·simp
 have:=EK (gJ r);have h:(gJ r).length<=10:=by unfold gJ;split<;>simp
 simp only;omega
def EW:(prog.info? 101).map (·.size)=some 2:=kQ
def Io(A:Option Addr)(n c:Nat)(l:List UInt8)(s:Int)(r:cO)(w:World)(h:Rd w w.heap.size 1 A n (Gt l)):
 Calls prog 63 #[.agg #[.slice A n c,.int .i64 s],r.val] w (rY w (jc l s r)):=by
 obtain⟨j0,hj0,SH,SI,SK⟩:=info_parts Ei;have HO0:=Lib.hid (λw h=>l7 A n c l s w h);have HE0:=Lib.hid (λw=>aeM r w);have hel:=EU r;have HR:Hid (jc l s r=if dx l s=false then([],0,6)else if (nW r).2≠0 then([],0,(nW r).2)else if 100000<l.length+(jT (nW r).1).length then([],0,14)else(l++jT (nW r).1,s,0)):=Lib.hid E;have HOM:=Lib.hid (AB l s);have HM:=Lib.hid (pI (l:=l) (s:=s));have H:=Lib.hid h;have hl:=h.nT;subst hl;clear h;generalize jc l s r=z at HR⊢;generalize nW r=em at HE0 hel HR;obtain⟨pl,pe⟩:=em;obtain⟨k,q,ep,pr,x0,x1,x2,x3,x4,x5⟩:=r;unfold cO.val at HE0⊢;simp only at HE0 HR hel⊢;have HFr:=Lib.hid (λA n c w h hn=>Vf A n c pl w h hn);have hfl:=vE pl;generalize jT pl=fr at HFr hfl HR;have aJw:fr.length<=46:=Y;clear hfl
 go_enter func63,ntmps63
 go_wp2_with fail
 refine(HO0.out _ (by exact H.out.on gQ)).mono ?_;rintro e w1 ⟨A1,c1,rfl,hb1,hown⟩;have B1:=((gB.new1 w _ _ _).alloc _).below hb1 (by simp<;>omega);have B2:=(gB.new2 w _ _ _ _).below hb1 iQ;have hz1:w.heap.size+2<w1.heap.size:=B2.lt;have aJx:w.heap.size<w1.heap.size:=Y;have aJy:w.heap.size+1<w1.heap.size:=Y;have HB:Hid (Below w.heap.size w w1):=Lib.hid (Below.trans gQ (hb1.mono jQ));clear hb1
 rcases HOM.out with⟨e1,e2⟩|⟨e1,e2⟩
 ·rw[e1]at hown⊢;simp only at hown⊢;have HR2:=Lib.hid (HR.out.trans (if_neg (by rw[e2];simp)));obtain⟨m1,m2,m3⟩:=HM.out e2;have M1:=Lib.hid m1;have mi:(l.length:Int)<=100000:=Y;clear m1;have HO:Hid (w1.ownsRow (w.heap.size+1+1+1) 5 1 (.slice A1 l.length c1) l.length (Gt l)):=Lib.hid (by simpa using hown);have HA1:Hid (∀k,(Value.slice A1 l.length c1).ownBlock=some k->w.heap.size+1+1<k/\k<w1.heap.size):=Lib.hid (λk hk=>⟨by have:=HO.out.zI k hk;omega,EC HO.out k hk⟩);clear e1 e2 hown HOM HM HR;have B1:=B1.alloc (.cells #[.slice A1 l.length c1,.int .i64 s] 101);have B2:=B2.alloc (.cells #[.slice A1 l.length c1,.int .i64 s] 101);have B3:=gB.new w1 #[.slice A1 l.length c1,.int .i64 s] 101;have HB:=Lib.hid (HB.out.alloc Y (.cells #[.slice A1 l.length c1,.int .i64 s] 101));have HO:=Lib.hid (HO.out.alloc (.cells #[.slice A1 l.length c1,.int .i64 s] 101));obtain⟨c0,d1,d2,d3,d4,d5,d6,d7,d8,d9,cf⟩:=B1.kU
  go_wp2_with fail
  have hz2:w.heap.size+2< (w1.alloc (.cells #[.slice A1 l.length c1,.int .i64 s] 101)).heap.size:=by simp;omega
  have hz3:w1.heap.size< (w1.alloc (.cells #[.slice A1 l.length c1,.int .i64 s] 101)).heap.size:=by simp
  clear c0 d1 d2 d3 d4 d5 d6 d7 d8 d9 cf;generalize w1.alloc (.cells #[.slice A1 l.length c1,.int .i64 s] 101)=w2 at B1 B2 B3 HB HO hz2 hz3⊢;refine(HE0.out _).mono ?_;rintro e w3 ⟨A2,c2,rfl,hb3,hr3⟩;simp only at hr3;have B2:=B2.on hb3;have B3:=B3.on hb3;have HO:=Lib.hid (Nz HO.out hb3);have HB:=Lib.hid (HB.out.trans (hb3.mono HB.out.size));have hz4:w2.heap.size<=w3.heap.size:=hb3.size;have HR3:=Lib.hid hr3;clear hb3 hr3 HE0 B1;simp only;by_cases he:pe=0
  ·have aii:=Lib.hid (HR2.out.trans (if_neg (by simpa using he)));subst he;clear HR2
   go_wp2_with fail
   refine(HFr.out A2 pl.length c2 _ HR3.out Y).mono ?_;rintro e w4 ⟨A3,c3,rfl,hb4,amR⟩;have B2:=B2.on hb4;have B3:=B3.on hb4;have HO:=Lib.hid (Nz HO.out hb4);have HB:=Lib.hid (HB.out.trans (hb4.mono HB.out.size));have hz5:w3.heap.size<=w4.heap.size:=hb4.size;have HR4:=Lib.hid (Rd.uf amR);obtain⟨b0,b1,bf⟩:=B3.vO;clear hb4 amR HR3 HFr;by_cases hbig:100000<l.length+fr.length
   ·have e:=aii.out.trans (if_pos hbig);subst e;have hd1:(100000:Int)< (l.length:Int)+(fr.length:Int):=Y;clear aii hbig
    go_wp2_with (refine QH E _ (.tmp 4) (.tmp 37) E (w.heap.size+1+1) E _ E _ _ B2 EW E E ?_;intro w9 JK CP)
    have HU:Hid (Below w.heap.size w w9):=Lib.hid (CP.next HB.out Y);obtain⟨r0,r1,rf⟩:=JK.vO
    go_wp2_with fail
    refine bodyPost_ret (v:=.tuple #[.agg #[.slice none 0 0,.int .i64 0],.int .i64 14]) (by simp[results,results63,go_sem,r0,r1]) E ?_;exact⟨none,0,E,HU.out,Rd.Q8,λa ha=>by cases ha⟩
   have e:=aii.out.trans (if_neg hbig);subst e;have hd1:(l.length:Int)+(fr.length:Int)<=100000:=Y;clear aii hbig
   go_wp2_with (first
    |(at_builtin;refine jF _ E (.tmp 39) (.tmp 40) _ E (w.heap.size+1+1+1) 5 j0 _ 1 1 underlying99 hj0 SH SI SK E Y _ l.length (Gt l) E HO.out w4.heap.size A3 fr.length c3 (Gt fr) E HR4.out (Q5 _) lQ Y Y ?_;intro v1 w5 hown1 hg1 Mf;obtain⟨A5,c5,rfl,_⟩:=mY hown1;rw[<-Q7]at hown1;have hne:=EC HO.out;have hlw:=HO.out.zI;have HNE:=Lib.hid (apf Mf (λk=>k≠w1.heap.size/\w.heap.size+1+1<k) (λk hk=>by have:=HA1.out k hk;omega) Y);have E3:=B3.grown hg1 (λe=>by have:=HA1.out _ e;omega);have E2:=B2.grown hg1 (λe=>by have:=hlw _ e;omega);have HB5:=Lib.hid (HB.out.grown hg1 Y (λk hk=>by have:=hlw k hk;omega));have HO5:=Lib.hid hown1;clear hown1 hg1 Mf hne hlw b0 b1 bf;obtain⟨b0,b1,bf⟩:=E3.vO)
    |(refine QH rfl _ (.tmp 4) (.tmp 43) rfl (w.heap.size+1+1) rfl _ rfl _ _ ((ED w5 w1.heap.size 0 (.slice A5 (l.length+fr.length) c5)).Mg E2 Y) EW rfl rfl ?_;intro w9 JK CP))
   have U6:=ED w5 w1.heap.size 0 (.slice A5 (l.length+fr.length) c5);have HU:Hid (Below w.heap.size w w9):=Lib.hid (CP.next (U6.next HB5.out Y) Y);have HO9:=CP.own (U6.own HO5.out (λk hk=>(HNE.out k hk).1)) (λk hk=>by have:=HNE.out k hk;omega);obtain⟨r0,r1,rf⟩:=JK.vO;refine bodyPost_ret (v:=.tuple #[.agg #[.slice A5 (l.length+fr.length) c5,.int .i64 s],.int .i64 0]) (by simp[results,results63,go_sem,r0,r1]) E ?_;exact⟨A5,c5,by simp,HU.out,by have:=Rd.uf HO9;simpa using this,λa ha=>by have:=Oh HO9 a ha;omega⟩
  have e:=HR2.out.trans (if_pos he);subst e;have t0:(pe==0)=false:=by simpa using he
  have t0':(pe != 0)=true:=by simpa using he
  clear he HR2
  go_wp2_with (refine QH E _ (.tmp 4) (.tmp 26) E (w.heap.size+1+1) E _ E _ _ B2 EW E E ?_;intro w9 JK CP)
  have HU:Hid (Below w.heap.size w w9):=Lib.hid (CP.next HB.out Y);obtain⟨r0,r1,rf⟩:=JK.vO
  go_wp2_with fail
  refine bodyPost_ret (v:=.tuple #[.agg #[.slice none 0 0,.int .i64 0],.int .i64 pe]) (by simp[results,results63,go_sem,r0,r1]) E ?_;exact⟨none,0,E,HU.out,Rd.Q8,λa ha=>by cases ha⟩
 rw[e1]at hown⊢;simp only at hown⊢;have e:=HR.out.trans (if_pos e2);subst e;clear e1 e2 HR HOM HM hown;have B2:=B2.alloc (.cells #[.slice A1 ([]:List UInt8).length c1,.int .i64 0] 101);have HB:=Lib.hid (HB.out.alloc Y (.cells #[.slice A1 ([]:List UInt8).length c1,.int .i64 0] 101))
 go_wp2_with (refine QH E _ (.tmp 4) (.tmp 18) E (w.heap.size+1+1) E _ E _ _ B2 EW E E ?_;intro w9 JK CP)
 have HU:Hid (Below w.heap.size w w9):=Lib.hid (CP.next HB.out Y);obtain⟨r0,r1,rf⟩:=JK.vO
 go_wp2_with fail
 refine bodyPost_ret (v:=.tuple #[.agg #[.slice none 0 0,.int .i64 0],.int .i64 6]) (by simp[results,results63,go_sem,r0,r1]) E ?_;exact⟨none,0,E,HU.out,Rd.Q8,λa ha=>by cases ha⟩
structure Pl where
 node:Int
 Mc:Int
 deriving DecidableEq
structure QK where
 p0:Pl
 p1:Pl
 p2:Pl
 p3:Pl
 deriving DecidableEq
def QK.cells(d:QK):List Value:=[.int .i64 d.p0.node,.int .i64 d.p0.Mc,.int .i64 d.p1.node,.int .i64 d.p1.Mc,.int .i64 d.p2.node,.int .i64 d.p2.Mc,.int .i64 d.p3.node,.int .i64 d.p3.Mc]
def QK.val(d:QK):Value:=.agg #[.int .i64 d.p0.node,.int .i64 d.p0.Mc,.int .i64 d.p1.node,.int .i64 d.p1.Mc,.int .i64 d.p2.node,.int .i64 d.p2.Mc,.int .i64 d.p3.node,.int .i64 d.p3.Mc]
def QK.at(d:QK):Nat->Pl
 | 0=>d.p0
 | 1=>d.p1
 | 2=>d.p2
 |_=>d.p3
def QK.set(d:QK)(k:Nat)(p:Pl):QK:=
 match k with
 | 0=>{d with p0:=p}
 | 1=>{d with p1:=p}
 | 2=>{d with p2:=p}
 |_=>{d with p3:=p}
def nH:Pl:=⟨0,0⟩
def nowhere:Pl:=⟨-1,0⟩
def kY:QK:=⟨nH,nH,nH,nH⟩
def yS(p:Pl):Prop:=(p.node= -1/\p.Mc=0)\/(0<=p.node/\p.node<=4/\1<=p.Mc/\p.Mc<=1048576)
open Classical in
noncomputable def gI(d:QK):Int:=if ∀k,k<4->yS (d.at k)then 0 else 6
def aeX{d:QK}{k:Nat}(I:k<4)(h:¬yS (d.at k)):gI d=6:=if_neg (λJ=>h (J k I))
def BL{d:QK}(h:∀k,k<4->yS (d.at k)):gI d=0:=if_pos h
def abH{d:QK}(h:gI d=0):∀k,k<4->yS (d.at k):=by
 unfold gI at h
 split at h
 ·assumption
 cases h
def Ll(a b:Pl):eD [.int .i64 a.node,.int .i64 a.Mc] [.int .i64 b.node,.int .i64 b.Mc]=decide (a=b):=by
 have:=zm (xs:=[a.node,a.Mc]) (ys:=[b.node,b.Mc]) E;simp only[map_cons,map_nil]at this;rw[this,Bool.eq_iff_iff];obtain⟨a1,a2⟩:=a;obtain⟨b1,b2⟩:=b;simp
def ZT:flat prog 30 27=some (replicate 2 (.at_ (.int .i64))):=kQ
def ZU:EG prog 30 27=true:=kQ
def aeT(xs:List Value):mkV prog 27 xs=.agg xs.toArray:=by
 unfold mkV;rw[underlying27]
def Lm(a b:Pl)(w:World):(binOp .eql 27 (.agg #[.int .i64 a.node,.int .i64 a.Mc]) (.agg #[.int .i64 b.node,.int .i64 b.Mc])).run prog w=.ok (.bool (decide (a=b))) w:=by
 rw[<-Ll];exact xu (P:=prog) w ZT ZU aeT (yw [a.node,a.Mc]) (yw [b.node,b.Mc])
def Yq(a b:Pl)(w:World):(binOp .neq 27 (.agg #[.int .i64 a.node,.int .i64 a.Mc]) (.agg #[.int .i64 b.node,.int .i64 b.Mc])).run prog w=.ok (.bool (!decide (a=b))) w:=by
 rw[<-Ll];exact sI (P:=prog) w ZT ZU aeT (yw [a.node,a.Mc]) (yw [b.node,b.Mc])
def abO(n0 h n1 I J M O Z:Int)(w:World):(Instr.index 28 (.agg #[.int .i64 n0,.int .i64 h,.int .i64 n1,.int .i64 I,.int .i64 J,.int .i64 M,.int .i64 O,.int .i64 Z]) (.int .i64 0)).run prog w=.ok (.agg #[.int .i64 n0,.int .i64 h]) w:=kQ
def abP(n0 I n1 h J M O Z:Int)(w:World):(Instr.index 28 (.agg #[.int .i64 n0,.int .i64 I,.int .i64 n1,.int .i64 h,.int .i64 J,.int .i64 M,.int .i64 O,.int .i64 Z]) (.int .i64 1)).run prog w=.ok (.agg #[.int .i64 n1,.int .i64 h]) w:=kQ
def abQ(n0 J n1 M h I O Z:Int)(w:World):(Instr.index 28 (.agg #[.int .i64 n0,.int .i64 J,.int .i64 n1,.int .i64 M,.int .i64 h,.int .i64 I,.int .i64 O,.int .i64 Z]) (.int .i64 2)).run prog w=.ok (.agg #[.int .i64 h,.int .i64 I]) w:=kQ
def abR(n0 J n1 M O Z h I:Int)(w:World):(Instr.index 28 (.agg #[.int .i64 n0,.int .i64 J,.int .i64 n1,.int .i64 M,.int .i64 O,.int .i64 Z,.int .i64 h,.int .i64 I]) (.int .i64 3)).run prog w=.ok (.agg #[.int .i64 h,.int .i64 I]) w:=kQ
def agx(d:QK)(k:Nat)(I:k<4)(w:World):(Instr.index 28 (.agg #[.int .i64 d.p0.node,.int .i64 d.p0.Mc,.int .i64 d.p1.node,.int .i64 d.p1.Mc,.int .i64 d.p2.node,.int .i64 d.p2.Mc,.int .i64 d.p3.node,.int .i64 d.p3.Mc]) (.int .i64 k)).run prog w=.ok (.agg #[.int .i64 (d.at k).node,.int .i64 (d.at k).Mc]) w:=by
 have h:k=0\/k=1\/k=2\/k=3:=Y
 rcases h with rfl|rfl|rfl|rfl
 ·exact abO _ _ _ _ _ _ _ _ w
 ·exact abP _ _ _ _ _ _ _ _ w
 ·exact abQ _ _ _ _ _ _ _ _ w
 exact abR _ _ _ _ _ _ _ _ w
structure Nw (w:World):Prop where
 c0:w.cell? ⟨0,0,none⟩=some (.int .i64 (-1))
 c1:w.cell? ⟨0,1,none⟩=some (.int .i64 0)
 lt:0<w.heap.size
def Nw.on{w w':World}(h:Nw w)(I:Below w.heap.size w w'):Nw w':=
 ⟨(I.cell (p:=⟨0,0,none⟩) h.lt).trans h.c0,(I.cell (p:=⟨0,1,none⟩) h.lt).trans h.c1,Nat.lt_of_lt_of_le h.lt I.size⟩
def awm(w:World)(k:Int)(e:Ending)(w':World):Prop:=e=.returned (.int .i64 k)/\Below w.heap.size w w'
def aeU(w:World)(r:Pl×Int)(e:Ending)(w':World):Prop:=e=.returned (.tuple #[.agg #[.int .i64 r.1.node,.int .i64 r.1.Mc],.int .i64 r.2])/\Below w.heap.size w w'
def ZV(w:World)(r:QK×Int)(e:Ending)(w':World):Prop:=e=.returned (.tuple #[r.1.val,.int .i64 r.2])/\Below w.heap.size w w'
def ae3(d:QK)(w:World)(hn:Nw w):Calls prog 81 #[d.val] w (awm w (gI d)):=by
 have HN:=Lib.hid hn;have HI:=Lib.hid (agx d);have HF:=Lib.hid (λk hk h=>aeX (d:=d) (k:=k) hk h);have H0:=Lib.hid (BL (d:=d));clear hn;generalize gI d=z at HF H0⊢;have hat:=Lib.hid (E:d.at=d.at);generalize d.at=f at HI HF H0 hat;clear hat;obtain⟨⟨n0,e0⟩,⟨n1,e1⟩,⟨n2,e2⟩,⟨n3,e3⟩⟩:=d;unfold QK.val;simp only at HI⊢
 go_enter func81,ntmps81
 go_wp2_with fail
 go_loopw [7] (λi wr=> ∃k:Nat,k<=4/\i=.int .i64 k/\(∀j,j<k->yS (f j))/\Below w.heap.size w wr) (λi _=>4-(intOf i).toNat)
 case atStart=>exact⟨0,by omega,E,λj hj=>absurd hj Y,by go_grown⟩
 case round=>
  obtain⟨k,hk,rfl,hall,hb⟩:=hrel;have hsz:w.heap.size<=wr.heap.size:=hb.size;have HB:=Lib.hid hb;have HA:=Lib.hid hall;by_cases hlt:k<4
  ·have hi:=HI.out k hlt;have HFk:=Lib.hid (HF.out k hlt);have HQ:Hid (yS (f k)-> ∀j,j<k+1->yS (f j)):=Lib.hid (λh j hj=>by
    by_cases e:j=k
    ·rw[e];exact h
    exact HA.out j Y)
   obtain⟨g0,g1,g2⟩:=HN.out.on hb;generalize f k=p at hi HFk HQ;have hq:=Lm p nowhere;unfold nowhere at hq;simp only at hq;clear hall;by_cases hp:p=⟨-1,0⟩
   ·have HG:=Lib.hid (HQ.out (by rw[hp];exact .inl ⟨E,E⟩));have hd:decide (p=⟨-1,0⟩)=true:=by simpa using hp
    rw[hd]at hq;clear hp hd;obtain⟨pn,pe⟩:=p;simp only at hi hq
    go_wp2_with fail
    go_roundw
    case rel=>exact⟨k+1,by omega,by go_num,HG.out,by go_grown⟩
    case measure=>simp[intOf];omega
   have hd:decide (p=⟨-1,0⟩)=false:=by simpa using hp
   rw[hd]at hq;clear hd;obtain⟨pn,pe⟩:=p;simp only[Pl.mk.injEq]at hi hq hp;have HP:=Lib.hid hp;clear hp;by_cases b1:pn<0
   ·have hp:=HP.out;have e:=HFk.out (by unfold yS;simp only;omega);subst e
    go_wp2_with fail
    go_ret
    exact⟨E,by go_grown⟩
   by_cases b2:5<=pn
   ·have e:=HFk.out (by unfold yS;simp only;omega);subst e
    go_wp2_with fail
    go_ret
    exact⟨E,by go_grown⟩
   by_cases b3:pe<1
   ·have e:=HFk.out (by unfold yS;simp only;omega);subst e
    go_wp2_with fail
    go_ret
    exact⟨E,by go_grown⟩
   by_cases b4:1048576<pe
   ·have e:=HFk.out (by unfold yS;simp only;omega);subst e
    go_wp2_with fail
    go_ret
    exact⟨E,by go_grown⟩
   have HG:=Lib.hid (HQ.out (by unfold yS;simp only;omega))
   go_wp2_with fail
   go_roundw
   case rel=>exact⟨k+1,by omega,by go_num,HG.out,by go_grown⟩
   case measure=>simp[intOf];omega
  obtain rfl:k=4:=Y;have e:=H0.out HA.out;subst e;clear hall
  go_wp2_with fail
  go_ret
  exact⟨E,by go_grown⟩
section
open ChangeAt
def akV:ownKnob prog.godebug=none:=kQ
def agy:prog.globalNamed "berthshift/directory.nowhere" =some 0:=kQ
def ae4:(prog.globals[0]?).map (·.type)=some 27:=kQ
def lt_of_cell{w:World}{p:Addr}{u:Value}(h:w.cell? p=some u):p.block<w.heap.size:=by
 rcases Nat.lt_or_ge p.block w.heap.size with h1|h1
 ·exact h1
 have I:w.heap[p.block]? =none:=Array.getElem?_eq_none h1;simp[World.cell?,I]at h
section
variable {H:Type}{enc:TypeId×Value->H}{P:Program}
def aa4{f:FuncId}{fn:Func}{s:ChangeSpec}{bt:TypeId}(J:Zb P fn.params.toList=true)(I:s.vars=[])(hres:fn.resultTypes= #[bt])(hbt:P.underlying bt=some .bool)
  (hs:∀ds:List (DataW H),ds.length=fn.params.toList.length->s.fn H ds={results:=[.lit (.bool true)],args:=ds})
  (W:World) (base:Nat) (args:Array Value) (ds gs:List (DataW H)) (M:List MemPlace)
  (walk:dZ (QA P W) args.toList fn.params.toList->Calls P f args W λe W'=>e=.returned (.bool true)/\Below W.heap.size W W')
  (hval:∀(j:Nat) t v,fn.params[j]? =some t->args[j]? =some v->Value.okWide P W .any base t v)
  (hW:DataW.Whole enc P fn.params.toList s.vars false W args.toList ds gs M)
  (hz:(DataW.weightsEach P (fn.params.toList++s.plain.varTypes P) (ds++gs)).all (· <=reachBytes)=true):
  Calls P f args W λe W'=> ∃v,e=.returned v/\s.post enc P fn false true false false W args v W':=by
 simp only[Zb,Bool.and_eq_true,all_eq_true,decide_eq_true_eq]at J;obtain⟨hl,J⟩:=J;have hW':=hW;have hlt:=hW.lt;obtain⟨p,q,hA,hV,rfl,_,_⟩:=hW;rw[I]at hV;have hg:gs=[]/\q=[]:=by
  cases gs with
  |nil=>exact⟨E,hV⟩
  |cons g gs=>exact hV.elim
 obtain⟨rfl,rfl⟩:=hg;have hvt:s.plain.varTypes P=[]:=by unfold DataSpec.varTypes ChangeSpec.plain;simp[I]
 rw[hvt,append_nil,append_nil]at hz;have hzz:∀b∈DataW.weightsEach P fn.params.toList ds,b<=reachBytes:=λb hb=>by simpa using all_eq_true.1 hz b hb
 have O:=Za hA (λj t v h1 h2=>hval j t v (by simpa using h1) (by simpa using h2)) (λt ht=>(J t ht).1.1) hzz (λx hx=>hlt x (mem_append.2 (.inl hx)));have hlen:ds.length=fn.params.toList.length:=by
  have:∀ {ts:List TypeId} {vs:List Value} {ds:List (DataW H)} {ps:List MemPlace},DataW.TrodAll enc P W 0 (λ_=>true) true ts vs ds ps->ds.length=ts.length:=by
   intro ts
   induction ts with
   |nil=>intro vs ds ps h;obtain⟨_,rfl,_⟩:=trodAll_nil h;rfl
   |cons t ts ih=>
    intro vs ds ps h;obtain⟨v,vs',d,ds',p,q,rfl,rfl,rfl,h0,h1⟩:=trodAll_cons h;simp[ih h1]
  exact this hA
 refine(walk O).mono λe W' ⟨he,hb⟩=>?_;have Z:=hs (ds++[]) (by simpa using hlen);refine⟨_,he,ds,[],p++[],[],p,[],hW',?_,?_,?_,hb.frame _,λh=>by cases h⟩
 ·rw[Z,hres];exact trodAll_mk1 (shut_bool hbt true)
 ·rw[Z];simp only[append_nil];exact Dv hl hb hA (λt ht=>⟨(J t ht).1.2,(J t ht).2⟩) (λx hx=>hlt x (mem_append.2 (.inl hx)))
 rw[Z,I];simp[DataW.TrodVars]
end
end
def agz(w:World)(e:Ending)(w':World):Prop:=e=.returned (.agg #[.int .i64 (-1),.int .i64 0,.int .i64 (-1),.int .i64 0,.int .i64 (-1),.int .i64 0,.int .i64 (-1),.int .i64 0])/\Below w.heap.size w w'
def MN:Nat->Array Value
 | 0=> #[.int .i64 0,.int .i64 0,.int .i64 0,.int .i64 0,.int .i64 0,.int .i64 0,.int .i64 0,.int .i64 0]
 |k+1=>((MN k).setIfInBounds (k*2) (.int .i64 (-1))).setIfInBounds (k*2+1) (.int .i64 0)
def Yr(k:Nat):(MN k).size=8:=by
 induction k with
 |zero=>rfl
 |succ k h=>simp[MN,h]
def Oi(k j:Nat)(h:j<8):∃u,(MN k)[j]? =some u:=⟨_,Array.getElem?_eq_getElem (by rw[Yr];exact h)⟩
def Yt(w:World)(hn:Nw w):Calls prog 29 #[] w (agz w):=by
 have HN:=Lib.hid hn;clear hn
 go_enter func29,ntmps29
 go_wp2_with fail
 go_loopw [3] (λi wr=> ∃k:Nat,k<=4/\i=.int .i64 k/\gB wr w.heap.size #[.int .i64 0,.int .i64 0,.int .i64 0,.int .i64 0,.int .i64 0,.int .i64 0,.int .i64 0,.int .i64 0] 30/\gB wr (w.heap.size+1) (MN k) 30/\Below w.heap.size w wr) (λi _=>4-(intOf i).toNat)
 case atStart=>exact⟨0,by omega,E,(gB.new _ _ _).alloc _,gB.new1 _ _ _ _,by go_grown⟩
 case round=>
  obtain⟨k,hk,rfl,h0,h1,hb⟩:=hrel;have hsz:w.heap.size<=wr.heap.size:=hb.size;have H0:=Lib.hid h0;have H1:=Lib.hid h1;have HB:=Lib.hid hb;by_cases hlt:k<4
  ·obtain⟨g0,g1,g2⟩:=HN.out.on hb;obtain⟨u,hu⟩:=Oi k (k*2) Y;obtain⟨u',hu'⟩:=Oi k (k*2+1) Y;have c0:=h1.cell hu;have c1:=h1.cell hu';have cf:=h1.free;clear h0 h1 hb hu hu'
   go_wp2_with fail
   go_roundw
   case rel=>
    have hB:=HB.out;exact⟨k+1,by omega,by go_num,(H0.out.other _ iQ _).other _ iQ _,(H1.out.wz _ _).wz _ _,by go_grown⟩
   case measure=>simp[intOf];omega
  obtain rfl:k=4:=Y;have e4:MN 4= #[.int .i64 (-1),.int .i64 0,.int .i64 (-1),.int .i64 0,.int .i64 (-1),.int .i64 0,.int .i64 (-1),.int .i64 0]:=rfl;rw[e4]at h1;clear e4;obtain⟨c0,c1,c2,c3,c4,c5,c6,c7,cf⟩:=h1.CF;obtain⟨r0,r1,r2,r3,r4,r5,r6,r7,rf⟩:=h0.CF;clear h0 h1 H1
  go_wp2_with fail
  refine bodyPost_ret (v:=.agg #[.int .i64 (-1),.int .i64 0,.int .i64 (-1),.int .i64 0,.int .i64 (-1),.int .i64 0,.int .i64 (-1),.int .i64 0]) (by simp[results,results29,go_sem,r0,r1,r2,r3,r4,r5,r6,r7]) E ?_;have hB:=HB.out;exact⟨E,by go_grown⟩
end Go.Proofs.YtefabpdniidmbaaGreatDoor
