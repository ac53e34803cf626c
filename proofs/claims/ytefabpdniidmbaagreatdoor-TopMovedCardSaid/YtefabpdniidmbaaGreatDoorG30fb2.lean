import Derived.Recover
import Derived.Defers
import Derived.Test.YtefabpdniidmbaaGreatDoorG50f7f
import Derived.Test.YtefabpdniidmbaaGreatDoorGd4de3
set_option linter.all false
set_option maxRecDepth 100000
set_option maxHeartbeats 8000000
namespace Go.Proofs.YtefabpdniidmbaaGreatDoor
open List Nat Go.Proofs.Tryz ChangeShapes WideShapes RowKit
def aeA(c:Int):Value:=.iface 201 (.agg #[.int .i64 c])
def wm:Array Value:= #[.int .i64 0,.int .i64 0,.int .i64 0,.int .i64 0,.int .i64 0,.int .i64 0,.int .i64 0,.int .i64 0,.int .i64 0,.int .i64 0]
def Gn:(prog.info? 138).map (·.size)=some 10:=kQ
def aaK(R mP:Nat)(c:Int)(w:World)(e:Ending)(u':FrameMode)(w':World):Prop:=
 e=.returned (.tuple #[])/\u'=.panicking [{v:=aeA c,recovered:=true}]/\(∀B,B<=R->B<=mP->Below B w w')/\iM w' R wm 138/\iM w' mP #[.int .i64 c] 52
def qI(R mP:Nat)(c x:Int)(row:Array Value)(w:World)(hne:R≠mP)(h1:iM w R row 138)(hs:row.size=10)(h2:iM w mP #[.int .i64 x] 52):
 CallsD prog 101 #[.pointer (some ⟨R,0,none⟩),.pointer (some ⟨mP,0,none⟩)] (.panicking [{v:=aeA c,recovered:=false}]) w (aaK R mP c w):=by
 refine callsD_of_wpS func101 E λc₀ cs hu=>?_;apply wpS_seq;apply wpS_region;simp[wpOpsS,go_sem,recoverD,hu,ntmps101,Exit.thenS,aeA];refine wpS_of_wp ?_;rw[show((#[.pointer (some ⟨R,0,none⟩),.pointer (some ⟨mP,0,none⟩)]:Array Value)++((Array.replicate 8 undef).setIfInBounds 1 (.iface 201 (.agg #[.int .i64 c]))).setIfInBounds 0 (.iface 201 (.agg #[.int .i64 c])))= #[.pointer (some ⟨R,0,none⟩),.pointer (some ⟨mP,0,none⟩),.iface 201 (.agg #[.int .i64 c]),.iface 201 (.agg #[.int .i64 c]),undef,undef,undef,undef,undef,undef]from E];obtain⟨z0,z1,z2,z3,z4,z5,z6,z7,z8,z9,rfl⟩:∃z0 z1 z2 z3 z4 z5 z6 z7 z8 z9,row= #[z0,z1,z2,z3,z4,z5,z6,z7,z8,z9]:=by
  obtain⟨l⟩:=row
  match l,hs with
  |[z0,z1,z2,z3,z4,z5,z6,z7,z8,z9],_=>exact⟨_,_,_,_,_,_,_,_,_,_,E⟩
 obtain⟨c0,c1,c2,c3,c4,c5,c6,c7,c8,c9,cf⟩:=h1.mU;have e0:=h2.cell (k:=0) E;have ef:=h2.free;have ht:∀w,(Instr.typeAssert (.iface 201 (.agg #[.int .i64 c])) 20 201 false).run prog w=.ok (.agg #[.int .i64 c]) w:=λw=>by kernel_rfl
 go_wp2_with fail
 refine wp_region_any kQ ?_;change wpAny _ _ _ _ _ _ _ (World.drew _);have U0:=Jr w R;have D1:=h1.drew;have D2:=h2.drew;generalize World.drew w=w6 at U0 D1 D2⊢;clear c0 c1 c2 c3 c4 c5 c6 c7 c8 c9 cf e0 ef;refine wpAny_take (i:=0) (v:=?_) E kQ kQ kQ (λ_ _ _ h=>h) (Or.inl ⟨by rfl,?_⟩) ?_
 ·exact .agg #[.int .i64 0,.int .i64 0,.int .i64 0,.int .i64 0,.int .i64 0,.int .i64 0,.int .i64 0,.int .i64 0,.int .i64 0,.int .i64 0]
 ·intro w;go_simp
 refine wpAny_take (i:=1) (v:=?_) E kQ kQ kQ (λ_ _ _ h=>h) (Or.inl ⟨by rfl,?_⟩) ?_
 ·exact .iface 201 (.agg #[.int .i64 c])
 ·intro w;go_simp
 refine wpAny_ready (rs:=[2,4]) kQ iQ ?_;refine AllReady.cons E (λK hK=>?_) (AllReady.cons E (λK hK=>?_) AllReady.nil)
 ·go_simp
  refine hK _ _ ?_;clear hK K;refine wpAny_ready (rs:=[3,4]) kQ iQ ?_;refine AllReady.cons E (λK hK=>?_) (AllReady.cons E (λK hK=>?_) AllReady.nil)
  ·go_simp
   refine hK _ _ ?_;clear hK K;refine wpAny_ready (rs:=[4]) kQ iQ ?_;refine AllReady.cons E (λK hK=>?_) AllReady.nil;refine xS E _ (.tmp 0) (.tmp 6) E R E _ E _ _ D1 Gn E E ?_;intro w9 Mc EM;refine hK _ _ ?_;clear hK K;have D2:=EM.Oy D2 hne.symm;refine wpAny_ready (rs:=[5]) kQ iQ ?_;refine AllReady.cons E (λK hK=>?_) AllReady.nil;have e0:=D2.cell (k:=0) E;have ef:=D2.free
   go_simp
   refine hK _ _ ?_;clear hK K;refine wpAny_done kQ ?_ _
   go_wp2_with fail
   simp[bodyPostS,results,results101];exact⟨E,E,λB hR hE=>((U0.below hR).trans (EM.below hR)).setCell (by simpa using hE) _,Mc.other _ (by simpa using hne) _,D2.yO 0 _⟩
  refine xS E _ (.tmp 0) (.tmp 6) E R E _ E _ _ D1 Gn E E ?_;intro w9 Mc EM;refine hK _ _ ?_;clear hK K;have D2:=EM.Oy D2 hne.symm;refine wpAny_ready (rs:=[3]) kQ iQ ?_;refine AllReady.cons E (λK hK=>?_) AllReady.nil
  go_simp
  refine hK _ _ ?_;clear hK K;refine wpAny_ready (rs:=[5]) kQ iQ ?_;refine AllReady.cons E (λK hK=>?_) AllReady.nil;have e0:=D2.cell (k:=0) E;have ef:=D2.free
  go_simp
  refine hK _ _ ?_;clear hK K;refine wpAny_done kQ ?_ _
  go_wp2_with fail
  simp[bodyPostS,results,results101];exact⟨E,E,λB hR hE=>((U0.below hR).trans (EM.below hR)).setCell (by simpa using hE) _,Mc.other _ (by simpa using hne) _,D2.yO 0 _⟩
 refine xS E _ (.tmp 0) (.tmp 6) E R E _ E _ _ D1 Gn E E ?_;intro w9 Mc EM;refine hK _ _ ?_;clear hK K;have D2:=EM.Oy D2 hne.symm;refine wpAny_ready (rs:=[2]) kQ iQ ?_;refine AllReady.cons E (λK hK=>?_) AllReady.nil
 go_simp
 refine hK _ _ ?_;clear hK K;refine wpAny_ready (rs:=[3]) kQ iQ ?_;refine AllReady.cons E (λK hK=>?_) AllReady.nil
 go_simp
 refine hK _ _ ?_;clear hK K;refine wpAny_ready (rs:=[5]) kQ iQ ?_;refine AllReady.cons E (λK hK=>?_) AllReady.nil;have e0:=D2.cell (k:=0) E;have ef:=D2.free
 go_simp
 refine hK _ _ ?_;clear hK K;refine wpAny_done kQ ?_ _
 go_wp2_with fail
 simp[bodyPostS,results,results101];exact⟨E,E,λB hR hE=>((U0.below hR).trans (EM.below hR)).setCell (by simpa using hE) _,Mc.other _ (by simpa using hne) _,D2.yO 0 _⟩
def NQ(R mP:Nat)(w:World):
 CallsD prog 101 #[.pointer (some ⟨R,0,none⟩),.pointer (some ⟨mP,0,none⟩)] .returning w λe u' w'=>e=.returned (.tuple #[])/\u'=.returning/\w'=w:=by
 refine callsD_of_wpS func101 E λc₀ cs hu=>?_;apply wpS_seq;apply wpS_region;simp[wpOpsS,go_sem,recoverD,hu,ntmps101,Exit.thenS];refine wpS_of_wp ?_
 go_wp2_with fail
 cases c₀;simp_all [bodyPostS,results,results101]
def MS(B n:Nat)(l:List UInt8)(w:World)(e:Ending)(w':World):Prop:=
 (∃q,w'=w.drewN q)/\(((rz l).2=0/\ ∃A c,e=.returned (.tuple #[.int .i64 (rz l).1,.slice A (n-4) c])/\n-4<=c/\c<=maxLen/\4<=n/\Rd w B 1 A (n-4) (Jq (l.drop 4)))\/((rz l).2≠0/\e=.panicked [{v:=aeA (rz l).2,recovered:=false}]))
def aaL{l:List UInt8}(h:(rz l).2=0):4<=l.length:=by
 rcases sF l.length 4 with h1|h1
 ·rw[J8 h1]at h
  cases h
 exact h1
def acg(l:List UInt8)(m:Nat):(Jq l).drop m=Jq (l.drop m):=by simp[Jq,map_drop]
def NR(A:Option Addr)(n c:Nat)(l:List UInt8)(w:World){B:Nat}(h:Rd w B 1 A n (Jq l))(hn:n<=c)(hcm:c<=maxLen):
 Calls prog 102 #[.slice A n c] w (MS B n l w):=by
 have HT:=Lib.hid (λw (h:Rd w B 1 A n (Jq l))=>aaB A n c l w h hn);have H:=Lib.hid h;have H4:=Lib.hid (aaL (l:=l));have hl:=h.qD;subst hl;unfold maxLen at hcm;have HP:Hid (∀e w',MS B l.length l w e w'=((∃q,w'=w.drewN q)/\(((rz l).2=0/\ ∃A c,e=.returned (.tuple #[.int .i64 (rz l).1,.slice A (l.length-4) c])/\l.length-4<=c/\c<=maxLen/\4<=l.length/\Rd w B 1 A (l.length-4) (Jq (l.drop 4)))\/((rz l).2≠0/\e=.panicked [{v:=aeA (rz l).2,recovered:=false}])))):=Lib.hid (λ_ _=>E);generalize MS B l.length l w=Post at HP⊢;generalize rz l=t at HT H4 HP;obtain⟨t1,t2⟩:=t;clear h;by_cases ht:t2=0
 ·have h4:=H4.out ht;subst ht;by_cases hc4:c=4
  ·subst hc4;have h4i:(4:Int)<=(l.length:Int):=Y;have hl4:=Lib.hid (show l.length=4 by omega)
   go_enter func102,ntmps102
   go_wp2_with fail
   refine(HT.out _ H.out).mono ?_;rintro e w1 ⟨rfl,rfl⟩;simp only
   go_wp2_with fail
   go_region
   go_wp2_with fail
   rw[HP.out];have e1:=hl4.out;have e2:l.length-4=0:=Y;rw[e2,F5 (oz e1)];exact⟨⟨1,E⟩,.inl ⟨trivial,A,0,E,aB,aG _,h4,Rd.Ur⟩⟩
  have aN4:(c==4)=false:=by simpa using hc4
  have h4i:(4:Int)<=(l.length:Int):=Y;have H5:=Lib.hid (H.out.cut (k:=4) h4 hn);rw[ah hc4]at H5
  go_enter func102,ntmps102
  go_wp2_with fail
  refine(HT.out _ H.out).mono ?_;rintro e w1 ⟨rfl,rfl⟩;simp only
  go_wp2_with fail
  go_region
  go_wp2_with fail
  rw[HP.out];refine⟨⟨1,E⟩,.inl ⟨trivial,_,_,E,by omega,by unfold maxLen;omega,h4,?_⟩⟩;have h5:=H5.out;rw[Dy,acg]at h5;exact h5
 have hb1:(t2==0)=false:=by simpa using ht
 have hb2:(t2 != 0)=true:=by simpa using ht
 have HT2:=Lib.hid ht;clear ht
 go_enter func102,ntmps102
 go_wp2_with fail
 refine(HT.out _ H.out).mono ?_;rintro e w1 ⟨rfl,rfl⟩;simp only
 go_wp2_with fail
 refine⟨E,?_⟩;rw[HP.out];exact⟨⟨0,E⟩,.inr ⟨HT2.out,E⟩⟩
def tk(b:List UInt8)(i:Nat):Int×Int:=rz (b.drop (4*i))
def jJ(b:List UInt8)(k j:Nat):Int:=if j<k then(tk b j).1 else 0
def qJ(b:List UInt8)(k:Nat):dN:=⟨jJ b k 0,jJ b k 1,jJ b k 2,jJ b k 3,⟨jJ b k 4,jJ b k 5,jJ b k 6,jJ b k 7,jJ b k 8,jJ b k 9⟩⟩
def nI(b:List UInt8):Nat:=if mQ (tk b 0).1=true then 10 else 4
def BU(b:List UInt8):Nat->Int
 | 0=>0
 |k+1=>if BU b k≠0 then BU b k else(tk b k).2
def sJ:dN:=⟨0,0,0,0,⟨0,0,0,0,0,0⟩⟩
def wo(b:List UInt8):dN×Int:=
 if BU b (nI b)≠0 then(sJ,BU b (nI b))else if b.length≠4*nI b\/aO (qJ b (nI b))≠0 then(sJ,3)else(qJ b (nI b),0)
def anI(w:World)(r:dN×Int)(e:Ending)(w':World):Prop:=e=.returned (.tuple #[r.1.val,.int .i64 r.2])/\Below w.heap.size w w'
def xO{b:List UInt8}:∀ {k:Nat},(∀j,j<k->(tk b j).2=0)->BU b k=0
 | 0,_=>rfl
 |k+1,h=>by
  rw[BU,xO (λj I=>h j Y),ah iQ];exact h k Y
def MU{b:List UInt8}{k:Nat}(h:∀j,j<k->(tk b j).2=0)(I:(tk b k).2≠0):∀m,k<m->BU b m=(tk b k).2
 | 0,hm=>av hm Y
 |m+1,hm=>by
  rw[BU];by_cases e:k=m
  ·subst e;rw[xO h,ah iQ]
  rw[MU h I m Y,au I]
def EN(b:List UInt8)(k:Nat):Array Value:= #[.int .i64 (jJ b k 0),.int .i64 (jJ b k 1),.int .i64 (jJ b k 2),.int .i64 (jJ b k 3),.int .i64 (jJ b k 4),.int .i64 (jJ b k 5),.int .i64 (jJ b k 6),.int .i64 (jJ b k 7),.int .i64 (jJ b k 8),.int .i64 (jJ b k 9)]
def Kg(b:List UInt8)(k:Nat)(I:k<10):(EN b k).setIfInBounds k (.int .i64 (tk b k).1)=EN b (k+1):=by
 have h:k=0\/k=1\/k=2\/k=3\/k=4\/k=5\/k=6\/k=7\/k=8\/k=9:=Y
 rcases h with rfl|rfl|rfl|rfl|rfl|rfl|rfl|rfl|rfl|rfl
 all_goals simp[EN,jJ,tk]
def FL(b:List UInt8)(k j:Nat)(I:j<10):(EN b k)[j]? =some (.int .i64 (jJ b k j)):=by
 have h:j=0\/j=1\/j=2\/j=3\/j=4\/j=5\/j=6\/j=7\/j=8\/j=9:=Y
 rcases h with rfl|rfl|rfl|rfl|rfl|rfl|rfl|rfl|rfl|rfl<;>rfl
def XT(R:Nat)(w:World):(Instr.index 202 (.agg #[.pointer (some ⟨R,0,none⟩),.pointer (some ⟨R,1,none⟩),.pointer (some ⟨R,2,none⟩),.pointer (some ⟨R,3,none⟩),.pointer (some ⟨R,4,none⟩),.pointer (some ⟨R,5,none⟩),.pointer (some ⟨R,6,none⟩),.pointer (some ⟨R,7,none⟩),.pointer (some ⟨R,8,none⟩),.pointer (some ⟨R,9,none⟩)]) (.int .i64 0)).run prog w=.ok (.pointer (some ⟨R,0,none⟩)) w:=kQ
def XU(R:Nat)(w:World):(Instr.index 202 (.agg #[.pointer (some ⟨R,0,none⟩),.pointer (some ⟨R,1,none⟩),.pointer (some ⟨R,2,none⟩),.pointer (some ⟨R,3,none⟩),.pointer (some ⟨R,4,none⟩),.pointer (some ⟨R,5,none⟩),.pointer (some ⟨R,6,none⟩),.pointer (some ⟨R,7,none⟩),.pointer (some ⟨R,8,none⟩),.pointer (some ⟨R,9,none⟩)]) (.int .i64 1)).run prog w=.ok (.pointer (some ⟨R,1,none⟩)) w:=kQ
def XV(R:Nat)(w:World):(Instr.index 202 (.agg #[.pointer (some ⟨R,0,none⟩),.pointer (some ⟨R,1,none⟩),.pointer (some ⟨R,2,none⟩),.pointer (some ⟨R,3,none⟩),.pointer (some ⟨R,4,none⟩),.pointer (some ⟨R,5,none⟩),.pointer (some ⟨R,6,none⟩),.pointer (some ⟨R,7,none⟩),.pointer (some ⟨R,8,none⟩),.pointer (some ⟨R,9,none⟩)]) (.int .i64 2)).run prog w=.ok (.pointer (some ⟨R,2,none⟩)) w:=kQ
def XW(R:Nat)(w:World):(Instr.index 202 (.agg #[.pointer (some ⟨R,0,none⟩),.pointer (some ⟨R,1,none⟩),.pointer (some ⟨R,2,none⟩),.pointer (some ⟨R,3,none⟩),.pointer (some ⟨R,4,none⟩),.pointer (some ⟨R,5,none⟩),.pointer (some ⟨R,6,none⟩),.pointer (some ⟨R,7,none⟩),.pointer (some ⟨R,8,none⟩),.pointer (some ⟨R,9,none⟩)]) (.int .i64 3)).run prog w=.ok (.pointer (some ⟨R,3,none⟩)) w:=kQ
def Kh(R:Nat)(w:World):(Instr.index 202 (.agg #[.pointer (some ⟨R,0,none⟩),.pointer (some ⟨R,1,none⟩),.pointer (some ⟨R,2,none⟩),.pointer (some ⟨R,3,none⟩),.pointer (some ⟨R,4,none⟩),.pointer (some ⟨R,5,none⟩),.pointer (some ⟨R,6,none⟩),.pointer (some ⟨R,7,none⟩),.pointer (some ⟨R,8,none⟩),.pointer (some ⟨R,9,none⟩)]) (.int .i64 4)).run prog w=.ok (.pointer (some ⟨R,4,none⟩)) w:=kQ
def XY(R:Nat)(w:World):(Instr.index 202 (.agg #[.pointer (some ⟨R,0,none⟩),.pointer (some ⟨R,1,none⟩),.pointer (some ⟨R,2,none⟩),.pointer (some ⟨R,3,none⟩),.pointer (some ⟨R,4,none⟩),.pointer (some ⟨R,5,none⟩),.pointer (some ⟨R,6,none⟩),.pointer (some ⟨R,7,none⟩),.pointer (some ⟨R,8,none⟩),.pointer (some ⟨R,9,none⟩)]) (.int .i64 5)).run prog w=.ok (.pointer (some ⟨R,5,none⟩)) w:=kQ
def XZ(R:Nat)(w:World):(Instr.index 202 (.agg #[.pointer (some ⟨R,0,none⟩),.pointer (some ⟨R,1,none⟩),.pointer (some ⟨R,2,none⟩),.pointer (some ⟨R,3,none⟩),.pointer (some ⟨R,4,none⟩),.pointer (some ⟨R,5,none⟩),.pointer (some ⟨R,6,none⟩),.pointer (some ⟨R,7,none⟩),.pointer (some ⟨R,8,none⟩),.pointer (some ⟨R,9,none⟩)]) (.int .i64 6)).run prog w=.ok (.pointer (some ⟨R,6,none⟩)) w:=kQ
def X0(R:Nat)(w:World):(Instr.index 202 (.agg #[.pointer (some ⟨R,0,none⟩),.pointer (some ⟨R,1,none⟩),.pointer (some ⟨R,2,none⟩),.pointer (some ⟨R,3,none⟩),.pointer (some ⟨R,4,none⟩),.pointer (some ⟨R,5,none⟩),.pointer (some ⟨R,6,none⟩),.pointer (some ⟨R,7,none⟩),.pointer (some ⟨R,8,none⟩),.pointer (some ⟨R,9,none⟩)]) (.int .i64 7)).run prog w=.ok (.pointer (some ⟨R,7,none⟩)) w:=kQ
def X4(R:Nat)(w:World):(Instr.index 202 (.agg #[.pointer (some ⟨R,0,none⟩),.pointer (some ⟨R,1,none⟩),.pointer (some ⟨R,2,none⟩),.pointer (some ⟨R,3,none⟩),.pointer (some ⟨R,4,none⟩),.pointer (some ⟨R,5,none⟩),.pointer (some ⟨R,6,none⟩),.pointer (some ⟨R,7,none⟩),.pointer (some ⟨R,8,none⟩),.pointer (some ⟨R,9,none⟩)]) (.int .i64 8)).run prog w=.ok (.pointer (some ⟨R,8,none⟩)) w:=kQ
def X6(R:Nat)(w:World):(Instr.index 202 (.agg #[.pointer (some ⟨R,0,none⟩),.pointer (some ⟨R,1,none⟩),.pointer (some ⟨R,2,none⟩),.pointer (some ⟨R,3,none⟩),.pointer (some ⟨R,4,none⟩),.pointer (some ⟨R,5,none⟩),.pointer (some ⟨R,6,none⟩),.pointer (some ⟨R,7,none⟩),.pointer (some ⟨R,8,none⟩),.pointer (some ⟨R,9,none⟩)]) (.int .i64 9)).run prog w=.ok (.pointer (some ⟨R,9,none⟩)) w:=kQ
def aaM(R:Nat)(k:Nat)(I:k<10)(w:World):(Instr.index 202 (.agg #[.pointer (some ⟨R,0,none⟩),.pointer (some ⟨R,1,none⟩),.pointer (some ⟨R,2,none⟩),.pointer (some ⟨R,3,none⟩),.pointer (some ⟨R,4,none⟩),.pointer (some ⟨R,5,none⟩),.pointer (some ⟨R,6,none⟩),.pointer (some ⟨R,7,none⟩),.pointer (some ⟨R,8,none⟩),.pointer (some ⟨R,9,none⟩)]) (.int .i64 k)).run prog w=.ok (.pointer (some ⟨R,k,none⟩)) w:=by
 have h:k=0\/k=1\/k=2\/k=3\/k=4\/k=5\/k=6\/k=7\/k=8\/k=9:=Y
 rcases h with rfl|rfl|rfl|rfl|rfl|rfl|rfl|rfl|rfl|rfl
 ·exact XT R w
 ·exact XU R w
 ·exact XV R w
 ·exact XW R w
 ·exact Kh R w
 ·exact XY R w
 ·exact XZ R w
 ·exact X0 R w
 ·exact X4 R w
 exact X6 R w
def ahw(A:Option Addr)(n c:Nat)(b:List UInt8)(w:World)(h:Rd w w.heap.size 1 A n (Jq b))(hn:n<=c)(hcm:c<=maxLen):
 Calls prog 75 #[.slice A n c] w (anI w (wo b)):=by
 have hmf:∀(fn:Fn) (first cap:Array Value) (w:World),(Instr.makeFunc fn first cap).run prog w=.ok (.func fn first cap) w:=λ_ _ _ _=>E;have hl:=h.qD;subst hl;have H:=Lib.hid h;have HIX:=Lib.hid (aaM w.heap.size);clear h;generalize hz:wo b=z;have HZ:=Lib.hid hz;clear hz
 go_enter_defers func75,ntmps75
 go_wp2_with fail
 go_loopw [0,26] (λv i wr=> ∃k:Nat,k<=10/\i=.int .i64 k/\ ∃A2 c2,v=.slice A2 (b.length-4*k) c2/\b.length-4*k<=c2/\c2<=maxLen/\4*k<=b.length/\Rd wr w.heap.size 1 A2 (b.length-4*k) (Jq (b.drop (4*k)))/\(∀j,j<k->(tk b j).2=0)/\(4<k->mQ (tk b 0).1=true)/\iM wr w.heap.size (EN b k) 138/\iM wr (w.heap.size+1) #[.int .i64 0] 52/\Below w.heap.size w wr) (λ_ i _=>10-(intOf i).toNat)
 case atStart=>
  refine⟨0,by omega,E,A,c,by simp,by simpa using hn,hcm,by omega,?_,λj hj=>av hj Y,λh=>av h Y,?_,iM.new1 w _ _ _,by go_grown⟩
  ·have:=((H.out.alloc aB (.cells wm 138)).alloc iQ (.cells #[.int .i64 0] 52));simpa[wm]using this
  exact(iM.new w _ _).alloc _
 case round=>
  obtain⟨k,hk,rfl,A2,c2,rfl,hc2,hcm2,h4k,hr,hall,hev,hR,hE,hB⟩:=hrel;have HR:=Lib.hid hr;have HA:=Lib.hid hall;have HV:=Lib.hid hev;have HB:=Lib.hid hB;have HBR:=Lib.hid hR;have HBE:=Lib.hid hE;have hz0:w.heap.size+1<wr.heap.size:=hE.lt;have r0:wr.cell? ⟨w.heap.size,0,none⟩=some (.int .i64 (jJ b k 0)):=hR.cell (FL b k 0 Y);clear hr hall hev hB hR hE;by_cases hlt:k<10
  ·have hix:=HIX.out k hlt;by_cases h4:k=4
   ·subst h4;have aN5:=Kh w.heap.size;have e04:jJ b 4 0=(tk b 0).1:=au Y
    cases he:mQ (jJ b 4 0)
    ·have KC:nI b=4:=by unfold nI;rw[ah (by rw[<-e04,he];simp)]
     clear e04;have hez:BU b (nI b)=0:=by rw[KC];exact xO HA.out
     have OL:=Lib.hid (λw=>lF (qJ b 4) w);have HD:Hid (wo b=if b.length≠4*4\/aO (qJ b 4)≠0 then(sJ,3)else(qJ b 4,0)):=Lib.hid (by unfold wo;rw[hez,ah iQ,KC]);clear hez KC;have DR:=HBR.out;have DE:=HBE.out;by_cases hlen:b.length=4*4
     ·have e0:b.length-4*4=0:=Y;rw[e0];clear e0;have HD2:Hid (z=if aO (qJ b 4)≠0 then(sJ,3)else(qJ b 4,0)):=Lib.hid (by
       rw[<-HZ.out,HD.out];by_cases hf:aO (qJ b 4)≠0
       ·rw[au (.inr hf),au hf]
       rw[ah (λh=>h.elim (λh=>h hlen) hf),ah hf])
      generalize aO (qJ b 4)=f at OL HD2;unfold qJ dN.val at OL;simp only at OL;unfold EN at DR;obtain⟨y0,y1,y2,y3,y4,y5,y6,y7,y8,y9,yf⟩:=DR.mU;clear hlen HD
      go_wp2_with (go_at_call 77;refine(iH _ _).mono ?_;rintro e w' ⟨rfl,rfl⟩;first|rw[he]|skip)
      refine(OL.out _).mono ?_;rintro e w3 ⟨rfl,hb3⟩;have DR:=DR.on hb3;have DE:=DE.on hb3;have HB2:=Lib.hid (HB.out.trans (hb3.mono HB.out.size));have hz3:w.heap.size+1<w3.heap.size:=DE.lt;clear hb3 y0 y1 y2 y3 y4 y5 y6 y7 y8 y9 yf;by_cases hf:f=0
      ·have HF:=Lib.hid (HD2.out.trans (ah (by simpa using hf)));subst hf;clear HD2;obtain⟨y0,y1,y2,y3,y4,y5,y6,y7,y8,y9,yf⟩:=DR.mU;have x0:=DE.cell (k:=0) E;have xf:=DE.free
       go_wp2_with (refine TS E _ (.tmp 2) (.tmp 56) E w.heap.size E _ E _ _ DR Gn E E ?_;intro w9 Mc EM;have DE9:=EM.Oy DE Y;have x0:=DE9.cell (k:=0) E;have xf:=DE9.free)
       obtain⟨g0,g1,g2,g3,g4,g5,g6,g7,g8,g9,gf⟩:=(Mc.other ⟨w.heap.size+1,0,none⟩ iQ (.int .i64 0)).mU;have g10:=(DE9.yO 0 (.int .i64 0)).cell (k:=0) E;have HB9:=EM.next HB2.out aB;refine leaves_cons (f:=101) (args:= #[.pointer (some ⟨w.heap.size,0,none⟩),.pointer (some ⟨w.heap.size+1,0,none⟩)]) iQ (by simp[go_sem]) ?_;refine(NQ w.heap.size (w.heap.size+1) _).mono ?_;rintro e u' wf ⟨rfl,rfl,rfl⟩;simp[Leaves,settle,results,results75,go_sem,g0,g1,g2,g3,g4,g5,g6,g7,g8,g9,g10];rw[HF.out];exact⟨E,HB9.setCell iQ _⟩
      have HF:=Lib.hid (HD2.out.trans (au hf));have u1:(f==0)=false:=by simpa using hf
      have u2:(f != 0)=true:=by simpa using hf
      clear hf HD2
      go_wp2_with fail
      refine leaves_cons (f:=101) (args:= #[.pointer (some ⟨w.heap.size,0,none⟩),.pointer (some ⟨w.heap.size+1,0,none⟩)]) iQ (by simp[go_sem]) ?_;refine(qI w.heap.size (w.heap.size+1) 3 0 _ _ Y DR (by rfl) DE).mono ?_;rintro e u' w9 ⟨rfl,rfl,YS,Md,YT⟩;unfold wm at Md;obtain⟨g0,g1,g2,g3,g4,g5,g6,g7,g8,g9,gf⟩:=Md.mU;have g10:w9.cell? ⟨w.heap.size+1,0,none⟩=some (.int .i64 3):=YT.cell E;simp[Leaves,settle,results,results75,go_sem,g0,g1,g2,g3,g4,g5,g6,g7,g8,g9,g10];rw[HF.out];exact⟨E,HB2.out.trans (YS w.heap.size aB Y)⟩
     have hd1:0<b.length-4*4:=Y;have hd2:(0:Int)< ((b.length-4*4:Nat):Int):=Y;have HF:Hid (z=(sJ,3)):=Lib.hid (by rw[<-HZ.out,HD.out,au (.inl hlen)]);have HB2:=HB;clear hlen
     go_wp2_with (go_at_call 77;refine(iH _ _).mono ?_;rintro e w' ⟨rfl,rfl⟩;first|rw[he]|skip)
     refine leaves_cons (f:=101) (args:= #[.pointer (some ⟨w.heap.size,0,none⟩),.pointer (some ⟨w.heap.size+1,0,none⟩)]) iQ (by simp[go_sem]) ?_;refine(qI w.heap.size (w.heap.size+1) 3 0 _ _ Y DR (by rfl) DE).mono ?_;rintro e u' w9 ⟨rfl,rfl,YS,Md,YT⟩;unfold wm at Md;obtain⟨g0,g1,g2,g3,g4,g5,g6,g7,g8,g9,gf⟩:=Md.mU;have g10:w9.cell? ⟨w.heap.size+1,0,none⟩=some (.int .i64 3):=YT.cell E;simp[Leaves,settle,results,results75,go_sem,g0,g1,g2,g3,g4,g5,g6,g7,g8,g9,g10];rw[HF.out];exact⟨E,HB2.out.trans (YS w.heap.size aB Y)⟩
    have E04:=Lib.hid e04;clear e04
    go_wp2_with (go_at_call 77;refine(iH _ _).mono ?_;rintro e w' ⟨rfl,rfl⟩;rw[he])
    have HV5:Hid (4<4+1->mQ (tk b 0).1=true):=Lib.hid (λ_=>by rw[<-E04.out];exact he);have HM:Hid (4<nI b):=Lib.hid (by unfold nI;rw[au (by rw[<-E04.out];exact he)];omega);clear he;refine(NR A2 (b.length-4*4) c2 (b.drop (4*4)) _ HR.out hc2 hcm2).mono ?_;rintro e w2 ⟨⟨q,rfl⟩,hk2⟩
    rcases hk2 with⟨hk0,A3,c3,rfl,hc3,aqX,h43,hr3⟩|⟨hk0,rfl⟩
    ·have DR:=HBR.out.drewN q;have DE:=Lib.hid (HBE.out.drewN q);have HB2:=Lib.hid (LU HB.out q);have HR3:=Lib.hid (hr3.drewN q);have HA2:Hid (∀j,j<4+1->(tk b j).2=0):=Lib.hid (λj hj=>by
      by_cases e:j=4
      ·rw[e];exact hk0
      exact HA.out j Y)
     have HS:=Lib.hid (Kg b 4 hlt);have ck:=DR.cell (FL b 4 4 hlt);have fk:=DR.free 4;have HDR:=Lib.hid DR;clear hk0 hr3 DR r0;simp only
     go_wp2_with fail
     go_roundw
     case rel=>
      refine⟨4+1,by omega,by go_num,A3,c3,by rw[show b.length-4*4-4=b.length-4*(4+1) by omega],by omega,aqX,by omega,?_,HA2.out,(by first|exact HV5.out|exact λ_=>trivial),?_,?_,?_⟩
      ·have:=HR3.out.setCell (p:=⟨w.heap.size,4,none⟩) aB (.int .i64 (rz (b.drop (4*4))).1);rw[lW,show 4*4+4=4*(4+1) by omega,show b.length-4*4-4=b.length-4*(4+1) by omega]at this;exact this
      ·exact(HDR.out.yO 4 _).cast HS.out
      ·exact DE.out.other _ iQ _
      exact HB2.out.setCell iQ _
     case measure=>first|(simp[intOf];done)|(simp[intOf];omega)
    have e1:=MU HA.out (show(tk b 4).2≠0 from hk0) (nI b) HM.out;have e2:wo b=(sJ,(tk b 4).2):=by
     unfold wo;rw[e1,au (show(tk b 4).2≠0 from hk0)]
    have HF:=Lib.hid (HZ.out.symm.trans e2);have DR:=HBR.out.drewN q;have DE:=HBE.out.drewN q;have HB2:=Lib.hid (LU HB.out q);clear e1 e2 hk0;simp only
    go_wp2_with fail
    refine leaves_cons (f:=101) (args:= #[.pointer (some ⟨w.heap.size,0,none⟩),.pointer (some ⟨w.heap.size+1,0,none⟩)]) iQ (by simp[go_sem]) ?_;refine(qI w.heap.size (w.heap.size+1) (tk b 4).2 0 _ _ Y DR (by rfl) DE).mono ?_;rintro e u' w9 ⟨rfl,rfl,YS,Md,YT⟩;unfold wm at Md;obtain⟨g0,g1,g2,g3,g4,g5,g6,g7,g8,g9,gf⟩:=Md.mU;have g10:w9.cell? ⟨w.heap.size+1,0,none⟩=some (.int .i64 (tk b 4).2):=YT.cell E;simp[Leaves,settle,results,results75,go_sem,g0,g1,g2,g3,g4,g5,g6,g7,g8,g9,g10];rw[HF.out];exact⟨E,HB2.out.trans (YS w.heap.size aB Y)⟩
   have t1:((k:Int)==4)=false:=by rw[Az];omega
   have t2:(k==4)=false:=by rw[Az];omega
   have HV5:Hid (4<k+1->mQ (tk b 0).1=true):=Lib.hid (λh=>HV.out Y);have HM:Hid (k<nI b):=Lib.hid (by
    unfold nI;by_cases h5:4<k
    ·rw[au (HV.out h5)];omega
    split<;>omega)
   clear h4
   go_wp2_with fail
   refine(NR A2 (b.length-4*k) c2 (b.drop (4*k)) _ HR.out hc2 hcm2).mono ?_;rintro e w2 ⟨⟨q,rfl⟩,hk2⟩
   rcases hk2 with⟨hk0,A3,c3,rfl,hc3,aqX,h43,hr3⟩|⟨hk0,rfl⟩
   ·have DR:=HBR.out.drewN q;have DE:=Lib.hid (HBE.out.drewN q);have HB2:=Lib.hid (LU HB.out q);have HR3:=Lib.hid (hr3.drewN q);have HA2:Hid (∀j,j<k+1->(tk b j).2=0):=Lib.hid (λj hj=>by
     by_cases e:j=k
     ·rw[e];exact hk0
     exact HA.out j Y)
    have HS:=Lib.hid (Kg b k hlt);have ck:=DR.cell (FL b k k hlt);have fk:=DR.free k;have HDR:=Lib.hid DR;clear hk0 hr3 DR r0;simp only
    go_wp2_with fail
    go_roundw
    case rel=>
     refine⟨k+1,by omega,by go_num,A3,c3,by rw[show b.length-4*k-4=b.length-4*(k+1) by omega],by omega,aqX,by omega,?_,HA2.out,(by first|exact HV5.out|exact λ_=>trivial),?_,?_,?_⟩
     ·have:=HR3.out.setCell (p:=⟨w.heap.size,k,none⟩) aB (.int .i64 (rz (b.drop (4*k))).1);rw[lW,show 4*k+4=4*(k+1) by omega,show b.length-4*k-4=b.length-4*(k+1) by omega]at this;exact this
     ·exact(HDR.out.yO k _).cast HS.out
     ·exact DE.out.other _ iQ _
     exact HB2.out.setCell iQ _
    case measure=>first|(simp[intOf];done)|(simp[intOf];omega)
   have e1:=MU HA.out (show(tk b k).2≠0 from hk0) (nI b) HM.out;have e2:wo b=(sJ,(tk b k).2):=by
    unfold wo;rw[e1,au (show(tk b k).2≠0 from hk0)]
   have HF:=Lib.hid (HZ.out.symm.trans e2);have DR:=HBR.out.drewN q;have DE:=HBE.out.drewN q;have HB2:=Lib.hid (LU HB.out q);clear e1 e2 hk0;simp only
   go_wp2_with fail
   refine leaves_cons (f:=101) (args:= #[.pointer (some ⟨w.heap.size,0,none⟩),.pointer (some ⟨w.heap.size+1,0,none⟩)]) iQ (by simp[go_sem]) ?_;refine(qI w.heap.size (w.heap.size+1) (tk b k).2 0 _ _ Y DR (by rfl) DE).mono ?_;rintro e u' w9 ⟨rfl,rfl,YS,Md,YT⟩;unfold wm at Md;obtain⟨g0,g1,g2,g3,g4,g5,g6,g7,g8,g9,gf⟩:=Md.mU;have g10:w9.cell? ⟨w.heap.size+1,0,none⟩=some (.int .i64 (tk b k).2):=YT.cell E;simp[Leaves,settle,results,results75,go_sem,g0,g1,g2,g3,g4,g5,g6,g7,g8,g9,g10];rw[HF.out];exact⟨E,HB2.out.trans (YS w.heap.size aB Y)⟩
  obtain rfl:k=10:=Y;have KC:nI b=10:=by unfold nI;rw[au (HV.out Y)]
  clear hlt hk;have hez:BU b (nI b)=0:=by rw[KC];exact xO HA.out
  have OL:=Lib.hid (λw=>lF (qJ b 10) w);have HD:Hid (wo b=if b.length≠4*10\/aO (qJ b 10)≠0 then(sJ,3)else(qJ b 10,0)):=Lib.hid (by unfold wo;rw[hez,ah iQ,KC]);clear hez KC;have DR:=HBR.out;have DE:=HBE.out;by_cases hlen:b.length=4*10
  ·have e0:b.length-4*10=0:=Y;rw[e0];clear e0;have HD2:Hid (z=if aO (qJ b 10)≠0 then(sJ,3)else(qJ b 10,0)):=Lib.hid (by
    rw[<-HZ.out,HD.out];by_cases hf:aO (qJ b 10)≠0
    ·rw[au (.inr hf),au hf]
    rw[ah (λh=>h.elim (λh=>h hlen) hf),ah hf])
   generalize aO (qJ b 10)=f at OL HD2;unfold qJ dN.val at OL;simp only at OL;unfold EN at DR;obtain⟨y0,y1,y2,y3,y4,y5,y6,y7,y8,y9,yf⟩:=DR.mU;clear hlen HD
   go_wp2_with (go_at_call 77;refine(iH _ _).mono ?_;rintro e w' ⟨rfl,rfl⟩;first|rw[he]|skip)
   refine(OL.out _).mono ?_;rintro e w3 ⟨rfl,hb3⟩;have DR:=DR.on hb3;have DE:=DE.on hb3;have HB2:=Lib.hid (HB.out.trans (hb3.mono HB.out.size));have hz3:w.heap.size+1<w3.heap.size:=DE.lt;clear hb3 y0 y1 y2 y3 y4 y5 y6 y7 y8 y9 yf;by_cases hf:f=0
   ·have HF:=Lib.hid (HD2.out.trans (ah (by simpa using hf)));subst hf;clear HD2;obtain⟨y0,y1,y2,y3,y4,y5,y6,y7,y8,y9,yf⟩:=DR.mU;have x0:=DE.cell (k:=0) E;have xf:=DE.free
    go_wp2_with (refine TS E _ (.tmp 2) (.tmp 56) E w.heap.size E _ E _ _ DR Gn E E ?_;intro w9 Mc EM;have DE9:=EM.Oy DE Y;have x0:=DE9.cell (k:=0) E;have xf:=DE9.free)
    obtain⟨g0,g1,g2,g3,g4,g5,g6,g7,g8,g9,gf⟩:=(Mc.other ⟨w.heap.size+1,0,none⟩ iQ (.int .i64 0)).mU;have g10:=(DE9.yO 0 (.int .i64 0)).cell (k:=0) E;have HB9:=EM.next HB2.out aB;refine leaves_cons (f:=101) (args:= #[.pointer (some ⟨w.heap.size,0,none⟩),.pointer (some ⟨w.heap.size+1,0,none⟩)]) iQ (by simp[go_sem]) ?_;refine(NQ w.heap.size (w.heap.size+1) _).mono ?_;rintro e u' wf ⟨rfl,rfl,rfl⟩;simp[Leaves,settle,results,results75,go_sem,g0,g1,g2,g3,g4,g5,g6,g7,g8,g9,g10];rw[HF.out];exact⟨E,HB9.setCell iQ _⟩
   have HF:=Lib.hid (HD2.out.trans (au hf));have u1:(f==0)=false:=by simpa using hf
   have u2:(f != 0)=true:=by simpa using hf
   clear hf HD2
   go_wp2_with fail
   refine leaves_cons (f:=101) (args:= #[.pointer (some ⟨w.heap.size,0,none⟩),.pointer (some ⟨w.heap.size+1,0,none⟩)]) iQ (by simp[go_sem]) ?_;refine(qI w.heap.size (w.heap.size+1) 3 0 _ _ Y DR (by rfl) DE).mono ?_;rintro e u' w9 ⟨rfl,rfl,YS,Md,YT⟩;unfold wm at Md;obtain⟨g0,g1,g2,g3,g4,g5,g6,g7,g8,g9,gf⟩:=Md.mU;have g10:w9.cell? ⟨w.heap.size+1,0,none⟩=some (.int .i64 3):=YT.cell E;simp[Leaves,settle,results,results75,go_sem,g0,g1,g2,g3,g4,g5,g6,g7,g8,g9,g10];rw[HF.out];exact⟨E,HB2.out.trans (YS w.heap.size aB Y)⟩
  have hd1:0<b.length-4*10:=Y;have hd2:(0:Int)< ((b.length-4*10:Nat):Int):=Y;have HF:Hid (z=(sJ,3)):=Lib.hid (by rw[<-HZ.out,HD.out,au (.inl hlen)]);have HB2:=HB;clear hlen
  go_wp2_with (go_at_call 77;refine(iH _ _).mono ?_;rintro e w' ⟨rfl,rfl⟩;first|rw[he]|skip)
  refine leaves_cons (f:=101) (args:= #[.pointer (some ⟨w.heap.size,0,none⟩),.pointer (some ⟨w.heap.size+1,0,none⟩)]) iQ (by simp[go_sem]) ?_;refine(qI w.heap.size (w.heap.size+1) 3 0 _ _ Y DR (by rfl) DE).mono ?_;rintro e u' w9 ⟨rfl,rfl,YS,Md,YT⟩;unfold wm at Md;obtain⟨g0,g1,g2,g3,g4,g5,g6,g7,g8,g9,gf⟩:=Md.mU;have g10:w9.cell? ⟨w.heap.size+1,0,none⟩=some (.int .i64 3):=YT.cell E;simp[Leaves,settle,results,results75,go_sem,g0,g1,g2,g3,g4,g5,g6,g7,g8,g9,g10];rw[HF.out];exact⟨E,HB2.out.trans (YS w.heap.size aB Y)⟩
noncomputable def uD(d:TW)(q:Int):Pl×Int:=if iI d≠0 then(qg,iI d)else if q<0\/3<q then(qg,2)else(d.at q.toNat,0)
noncomputable def aN(d:TW)(q:Int):Pl×Int:=if (uD d q).2=0/\(uD d q).1=nowhere then(qg,7)else uD d q
def NS{d:TW}{q:Int}(h:iI d≠0):uD d q=(qg,iI d):=au h
def NT{d:TW}{q:Int}(h:iI d=0)(I:q<0\/3<q):uD d q=(qg,2):=by
 unfold uD;rw[ah Y,au I]
def Tg{d:TW}{q:Int}(h:iI d=0)(I:¬(q<0\/3<q)):uD d q=(d.at q.toNat,0):=by
 unfold uD;rw[ah Y,ah I]
def ahy{d:TW}{q:Int}(h:iI d≠0):aN d q=(qg,iI d):=by
 unfold aN;rw[NS h,ah (λI=>h I.1)]
def ahz{d:TW}{q:Int}(h:iI d=0)(I:q<0\/3<q):aN d q=(qg,2):=by
 unfold aN;rw[NT h I,ah (λJ=>by cases J.1)]
def X7{d:TW}{q:Int}(h:iI d=0)(I:¬(q<0\/3<q))(hn:d.at q.toNat=nowhere):aN d q=(qg,7):=by
 unfold aN;rw[Tg h I,au ⟨E,hn⟩]
def DY{d:TW}{q:Int}(h:iI d=0)(I:¬(q<0\/3<q))(hn:d.at q.toNat≠nowhere):aN d q=(d.at q.toNat,0):=by
 unfold aN;rw[Tg h I,ah (λJ=>hn J.2)]
def QM(d:TW)(q:Int)(w:World)(hn:Nw w):Calls prog 61 #[d.val,.int .i64 q] w (aho w (uD d q)):=by
 have HN:=Lib.hid hn;have HC:=Lib.hid (λw h=>ahs d w h);have HR0:Hid (∀r,r=uD d q->r=if iI d≠0 then(qg,iI d)else if q<0\/3<q then(qg,2)else(d.at q.toNat,0)):=Lib.hid (λr h=>h);generalize hr:uD d q=r;have HR:=Lib.hid (HR0.out r hr.symm);clear hn hr HR0;generalize iI d=z at HC HR;obtain⟨⟨n0,e0⟩,⟨n1,e1⟩,⟨n2,e2⟩,⟨n3,e3⟩⟩:=d;unfold TW.val at*;simp only at HC⊢
 go_enter func61,ntmps61
 go_wp2_with fail
 refine(HC.out _ (HN.out.on gQ)).mono ?_;rintro e w1 ⟨rfl,hb1⟩;have B0:=((iM.new w _ _).alloc _).below hb1 jQ;have B1:=(iM.new1 w _ _ _).below hb1 iQ;obtain⟨c0,c1,c2,c3,c4,c5,c6,c7,cf⟩:=B0.ED;obtain⟨r0,r1,rf⟩:=B1.xZ;have hz0:w.heap.size<w1.heap.size:=B0.lt;have hz1:w.heap.size+1<w1.heap.size:=B1.lt;have HB:Hid (Below w.heap.size w w1):=Lib.hid (Below.trans gQ (hb1.mono jQ));clear hb1;by_cases hz:z=0
 ·subst hz;by_cases q0:q<0
  ·have e:=HR.out;rw[ah Y,au Y]at e;subst e
   go_wp2_with fail
   refine bodyPost_ret (v:=.tuple #[.agg #[.int .i64 0,.int .i64 0],.int .i64 2]) (by simp[results,results61,go_sem,r0,r1]) E ?_;have hB:=HB.out;exact⟨E,by go_grown⟩
  by_cases q4:4<=q
  ·have e:=HR.out;rw[ah Y,au Y]at e;subst e
   go_wp2_with fail
   refine bodyPost_ret (v:=.tuple #[.agg #[.int .i64 0,.int .i64 0],.int .i64 2]) (by simp[results,results61,go_sem,r0,r1]) E ?_;have hB:=HB.out;exact⟨E,by go_grown⟩
  rcases(show q=0\/q=1\/q=2\/q=3 by omega)with rfl|rfl|rfl|rfl
  ·have e:=HR.out;rw[ah Y,ah Y]at e;subst e
   go_wp2_with fail
   refine bodyPost_ret (v:=.tuple #[.agg #[.int .i64 n0,.int .i64 e0],.int .i64 0]) (by simp[results,results61,go_sem,r0,r1]) E ?_;have hB:=HB.out;exact⟨E,by go_grown⟩
  ·have e:=HR.out;rw[ah Y,ah Y]at e;subst e
   go_wp2_with fail
   refine bodyPost_ret (v:=.tuple #[.agg #[.int .i64 n1,.int .i64 e1],.int .i64 0]) (by simp[results,results61,go_sem,r0,r1]) E ?_;have hB:=HB.out;exact⟨E,by go_grown⟩
  ·have e:=HR.out;rw[ah Y,ah Y]at e;subst e
   go_wp2_with fail
   refine bodyPost_ret (v:=.tuple #[.agg #[.int .i64 n2,.int .i64 e2],.int .i64 0]) (by simp[results,results61,go_sem,r0,r1]) E ?_;have hB:=HB.out;exact⟨E,by go_grown⟩
  have e:=HR.out;rw[ah Y,ah Y]at e;subst e
  go_wp2_with fail
  refine bodyPost_ret (v:=.tuple #[.agg #[.int .i64 n3,.int .i64 e3],.int .i64 0]) (by simp[results,results61,go_sem,r0,r1]) E ?_;have hB:=HB.out;exact⟨E,by go_grown⟩
 have e:=HR.out;rw[au hz]at e;subst e
 go_wp2_with fail
 refine bodyPost_ret (v:=.tuple #[.agg #[.int .i64 0,.int .i64 0],.int .i64 z]) (by simp[results,results61,go_sem,r0,r1]) E ?_;have hB:=HB.out;exact⟨E,by go_grown⟩
def aeB{d:TW}{q:Int}(h:(uD d q).2=0):0<=q/\q<=3:=by
 by_cases I:iI d=0
 ·by_cases J:q<0\/3<q
  ·rw[NT I J]at h
   cases h
  exact⟨by omega,by omega⟩
 rw[NS I]at h;exact av h I
noncomputable def uX(d:TW)(q node:Int):TW×Int:=
 if (uD d q).2≠0 then(mX,(uD d q).2)else if node<0\/4<node then(mX,2)else if (uD d q).1≠nowhere then(mX,8)else(d.set q.toNat ⟨node,1⟩,0)
def Ki{d:TW}{q:Int}(h:(aN d q).2=0):0<=q/\q<=3/\(aN d q).1=d.at q.toNat/\(aN d q).1≠nowhere/\zP (aN d q).1:=by
 by_cases I:iI d=0
 ·by_cases J:q<0\/3<q
  ·rw[ahz I J]at h
   cases h
  by_cases hn:d.at q.toNat=nowhere
  ·rw[X7 I J hn]at h
   cases h
  rw[DY I J hn];exact⟨by omega,by omega,E,hn,adb I _ Y⟩
 rw[ahy I]at h;exact av h I
noncomputable def yI(d:TW)(q ME node:Int):TW×Int:=
 if (aN d q).2≠0 then(mX,(aN d q).2)else if node<0\/4<node then(mX,2)else if (aN d q).1.ME≠ME then(mX,15)
 else if (aN d q).1.node=node then(mX,8)else if ME=1048576 then(mX,14)else(d.set q.toNat ⟨node,ME+1⟩,0)
def qz(d:TW)(q:Int)(w:World)(hn:Nw w):Calls prog 51 #[d.val,D q] w (aho w (aN d q)):=by
 have HN:=Lib.hid hn;have HC:=Lib.hid (λw h=>QM d q w h);have HR:Hid (aN d q=if (uD d q).2=0/\(uD d q).1=nowhere then(qg,7)else uD d q):=Lib.hid E;clear hn;generalize aN d q=r at*;generalize uD d q=a at*;obtain⟨⟨pn,pe⟩,z⟩:=a;have hq:=NH ⟨pn,pe⟩ nowhere;unfold nowhere at hq;simp only at hq;obtain⟨⟨n0,e0⟩,⟨n1,e1⟩,⟨n2,e2⟩,⟨n3,e3⟩⟩:=d;unfold TW.val at*;simp only at HC HR⊢
 go_enter func51,ntmps51
 go_wp2_with fail
 refine(HC.out _ (HN.out.on gQ)).mono ?_;rintro e w1 ⟨rfl,hb1⟩;have B1:=(iM.new1 w _ _ _).below hb1 iQ;obtain⟨r0,r1,rf⟩:=B1.xZ;have hz1:w.heap.size+1<w1.heap.size:=B1.lt;have HB:Hid (Below w.heap.size w w1):=Lib.hid (Below.trans gQ (hb1.mono jQ));obtain⟨g0,g1,g2⟩:=HN.out.on HB.out;clear hb1;by_cases hz:z=0
 ·by_cases hp:(⟨pn,pe⟩:Pl)=nowhere
  ·have e:=HR.out;rw[au ⟨hz,hp⟩]at e;subst e;subst hz;have hd:decide ((⟨pn,pe⟩:Pl)=⟨-1,0⟩)=true:=by simpa[nowhere]using hp
   rw[hd]at hq;clear hp hd
   go_wp2_with fail
   refine bodyPost_ret (v:=.tuple #[.agg #[D 0,D 0],D 7]) (by simp[results,results51,go_sem,World.cell?_alloc_lt,hz1,r0,r1]) E ?_;have hB:=HB.out;exact⟨E,by go_grown⟩
  have e:=HR.out;rw[ah (λh=>hp h.2)]at e;subst e;subst hz;have hd:decide ((⟨pn,pe⟩:Pl)=⟨-1,0⟩)=false:=by simpa[nowhere]using hp
  rw[hd]at hq;clear hp hd
  go_wp2_with fail
  refine bodyPost_ret (v:=.tuple #[.agg #[D pn,D pe],D 0]) (by simp[results,results51,go_sem,World.cell?_alloc_lt,hz1,r0,r1]) E ?_;have hB:=HB.out;exact⟨E,by go_grown⟩
 have e:=HR.out;rw[ah (λh=>hz h.1)]at e;subst e;have hz':(z==0)=false:=by simpa using hz
 clear hq
 go_wp2_with fail
 refine bodyPost_ret (v:=.tuple #[.agg #[D pn,D pe],D z]) (by simp[results,results51,go_sem,World.cell?_alloc_lt,hz1,r0,r1]) E ?_;have hB:=HB.out;exact⟨E,by go_grown⟩
end Go.Proofs.YtefabpdniidmbaaGreatDoor
