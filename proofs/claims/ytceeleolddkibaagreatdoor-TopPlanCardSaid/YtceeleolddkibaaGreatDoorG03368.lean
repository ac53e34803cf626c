import Derived.Recover
import Derived.Defers
import Derived.Test.YtceeleolddkibaaGreatDoorG45bda
import Derived.Test.YtceeleolddkibaaGreatDoorG5fe45
import Derived.Test.YtceeleolddkibaaGreatDoorGb49f5
set_option linter.all false
set_option maxRecDepth 100000
set_option maxHeartbeats 8000000
namespace Go.Proofs.YtceeleolddkibaaGreatDoor
open List Nat Go.Proofs.Tryz ChangeShapes WideShapes RowKit
def ae6(c:Int):Value:=.iface 196 (.agg #[.int .i64 c])
def wR:Array Value:= #[.int .i64 0,.int .i64 0,.int .i64 0,.int .i64 0,.int .i64 0,.int .i64 0,.int .i64 0,.int .i64 0,.int .i64 0,.int .i64 0]
def Ht:(prog.info? 132).map (·.size)=some 10:=kQ
def abg(R l7:Nat)(c:Int)(w:World)(e:Ending)(u':FrameMode)(w':World):Prop:=
 e=.returned (.tuple #[])/\u'=.panicking [{v:=ae6 c,recovered:=true}]/\(∀B,B<=R->B<=l7->Below B w w')/\iq w' R wR 132/\iq w' l7 #[.int .i64 c] 45
def qF(R l7:Nat)(c x:Int)(row:Array Value)(w:World)(hne:R≠l7)(h1:iq w R row 132)(hs:row.size=10)(h2:iq w l7 #[.int .i64 x] 45):
 CallsD prog 95 #[.pointer (some ⟨R,0,none⟩),.pointer (some ⟨l7,0,none⟩)] (.panicking [{v:=ae6 c,recovered:=false}]) w (abg R l7 c w):=by
 refine callsD_of_wpS func95 E λc₀ cs hu=>?_;apply wpS_seq;apply wpS_region;simp[wpOpsS,go_sem,recoverD,hu,Tryz.ntmps95,Exit.thenS,ae6];refine wpS_of_wp ?_;rw[show((#[.pointer (some ⟨R,0,none⟩),.pointer (some ⟨l7,0,none⟩)]:Array Value)++((Array.replicate 8 undef).setIfInBounds 1 (.iface 196 (.agg #[.int .i64 c]))).setIfInBounds 0 (.iface 196 (.agg #[.int .i64 c])))= #[.pointer (some ⟨R,0,none⟩),.pointer (some ⟨l7,0,none⟩),.iface 196 (.agg #[.int .i64 c]),.iface 196 (.agg #[.int .i64 c]),undef,undef,undef,undef,undef,undef]from E];obtain⟨z0,z1,z2,z3,z4,z5,z6,z7,z8,z9,rfl⟩:∃z0 z1 z2 z3 z4 z5 z6 z7 z8 z9,row= #[z0,z1,z2,z3,z4,z5,z6,z7,z8,z9]:=by
  obtain⟨l⟩:=row
  match l,hs with
  |[z0,z1,z2,z3,z4,z5,z6,z7,z8,z9],_=>exact⟨_,_,_,_,_,_,_,_,_,_,E⟩
 obtain⟨c0,c1,c2,c3,c4,c5,c6,c7,c8,c9,cf⟩:=h1.mM;have e0:=h2.cell (k:=0) E;have ef:=h2.free;have ht:∀w,(Instr.typeAssert (.iface 196 (.agg #[.int .i64 c])) 20 196 false).run prog w=.ok (.agg #[.int .i64 c]) w:=λw=>by kernel_rfl
 go_wp2_with fail
 refine wp_region_any kQ ?_;change wpAny _ _ _ _ _ _ _ (World.drew _);have U0:=JW w R;have D1:=h1.drew;have D2:=h2.drew;generalize World.drew w=w6 at U0 D1 D2⊢;clear c0 c1 c2 c3 c4 c5 c6 c7 c8 c9 cf e0 ef;refine wpAny_take (i:=0) (v:=?_) E kQ kQ kQ (λ_ _ _ h=>h) (Or.inl ⟨by rfl,?_⟩) ?_
 ·exact .agg #[.int .i64 0,.int .i64 0,.int .i64 0,.int .i64 0,.int .i64 0,.int .i64 0,.int .i64 0,.int .i64 0,.int .i64 0,.int .i64 0]
 ·intro w;go_simp
 refine wpAny_take (i:=1) (v:=?_) E kQ kQ kQ (λ_ _ _ h=>h) (Or.inl ⟨by rfl,?_⟩) ?_
 ·exact .iface 196 (.agg #[.int .i64 c])
 ·intro w;go_simp
 refine wpAny_ready (rs:=[2,4]) kQ iQ ?_;refine AllReady.cons E (λK hK=>?_) (AllReady.cons E (λK hK=>?_) AllReady.nil)
 ·go_simp
  refine hK _ _ ?_;clear hK K;refine wpAny_ready (rs:=[3,4]) kQ iQ ?_;refine AllReady.cons E (λK hK=>?_) (AllReady.cons E (λK hK=>?_) AllReady.nil)
  ·go_simp
   refine hK _ _ ?_;clear hK K;refine wpAny_ready (rs:=[4]) kQ iQ ?_;refine AllReady.cons E (λK hK=>?_) AllReady.nil;refine yE E _ (.tmp 0) (.tmp 6) E R E _ E _ _ D1 Ht E E ?_;intro w9 MS Fv;refine hK _ _ ?_;clear hK K;have D2:=Fv.Pj D2 hne.symm;refine wpAny_ready (rs:=[5]) kQ iQ ?_;refine AllReady.cons E (λK hK=>?_) AllReady.nil;have e0:=D2.cell (k:=0) E;have ef:=D2.free
   go_simp
   refine hK _ _ ?_;clear hK K;refine wpAny_done kQ ?_ _
   go_wp2_with fail
   simp[bodyPostS,results,Tryz.results95];exact⟨E,E,λB hR hE=>((U0.below hR).trans (Fv.below hR)).setCell (by simpa using hE) _,MS.other _ (by simpa using hne) _,D2.yD 0 _⟩
  refine yE E _ (.tmp 0) (.tmp 6) E R E _ E _ _ D1 Ht E E ?_;intro w9 MS Fv;refine hK _ _ ?_;clear hK K;have D2:=Fv.Pj D2 hne.symm;refine wpAny_ready (rs:=[3]) kQ iQ ?_;refine AllReady.cons E (λK hK=>?_) AllReady.nil
  go_simp
  refine hK _ _ ?_;clear hK K;refine wpAny_ready (rs:=[5]) kQ iQ ?_;refine AllReady.cons E (λK hK=>?_) AllReady.nil;have e0:=D2.cell (k:=0) E;have ef:=D2.free
  go_simp
  refine hK _ _ ?_;clear hK K;refine wpAny_done kQ ?_ _
  go_wp2_with fail
  simp[bodyPostS,results,Tryz.results95];exact⟨E,E,λB hR hE=>((U0.below hR).trans (Fv.below hR)).setCell (by simpa using hE) _,MS.other _ (by simpa using hne) _,D2.yD 0 _⟩
 refine yE E _ (.tmp 0) (.tmp 6) E R E _ E _ _ D1 Ht E E ?_;intro w9 MS Fv;refine hK _ _ ?_;clear hK K;have D2:=Fv.Pj D2 hne.symm;refine wpAny_ready (rs:=[2]) kQ iQ ?_;refine AllReady.cons E (λK hK=>?_) AllReady.nil
 go_simp
 refine hK _ _ ?_;clear hK K;refine wpAny_ready (rs:=[3]) kQ iQ ?_;refine AllReady.cons E (λK hK=>?_) AllReady.nil
 go_simp
 refine hK _ _ ?_;clear hK K;refine wpAny_ready (rs:=[5]) kQ iQ ?_;refine AllReady.cons E (λK hK=>?_) AllReady.nil;have e0:=D2.cell (k:=0) E;have ef:=D2.free
 go_simp
 refine hK _ _ ?_;clear hK K;refine wpAny_done kQ ?_ _
 go_wp2_with fail
 simp[bodyPostS,results,Tryz.results95];exact⟨E,E,λB hR hE=>((U0.below hR).trans (Fv.below hR)).setCell (by simpa using hE) _,MS.other _ (by simpa using hne) _,D2.yD 0 _⟩
def OB(R l7:Nat)(w:World):
 CallsD prog 95 #[.pointer (some ⟨R,0,none⟩),.pointer (some ⟨l7,0,none⟩)] .returning w λe u' w'=>e=.returned (.tuple #[])/\u'=.returning/\w'=w:=by
 refine callsD_of_wpS func95 E λc₀ cs hu=>?_;apply wpS_seq;apply wpS_region;simp[wpOpsS,go_sem,recoverD,hu,Tryz.ntmps95,Exit.thenS];refine wpS_of_wp ?_
 go_wp2_with fail
 cases c₀;simp_all [bodyPostS,results,Tryz.results95]
def Ny(B n:Nat)(l:List UInt8)(w:World)(e:Ending)(w':World):Prop:=
 (∃q,w'=w.drewN q)/\(((rC l).2=0/\ ∃A c,e=.returned (.tuple #[.int .i64 (rC l).1,.slice A (n-4) c])/\n-4<=c/\c<=maxLen/\4<=n/\Rd w B 1 A (n-4) (JV (l.drop 4)))\/((rC l).2≠0/\e=.panicked [{v:=ae6 (rC l).2,recovered:=false}]))
def abh{l:List UInt8}(h:(rC l).2=0):4<=l.length:=by
 rcases qU l.length 4 with h1|h1
 ·rw[KL h1]at h
  cases h
 exact h1
def acX(l:List UInt8)(m:Nat):(JV l).drop m=JV (l.drop m):=by simp[JV,map_drop]
def OC(A:Option Addr)(n c:Nat)(l:List UInt8)(w:World){B:Nat}(h:Rd w B 1 A n (JV l))(hn:n<=c)(hcm:c<=maxLen):
 Calls prog 96 #[.slice A n c] w (Ny B n l w):=by
 have HT:=Lib.hid (λw (h:Rd w B 1 A n (JV l))=>aa6 A n c l w h hn);have H:=Lib.hid h;have H4:=Lib.hid (abh (l:=l));have hl:=h.qx;subst hl;unfold maxLen at hcm;have HP:Hid (∀e w',Ny B l.length l w e w'=((∃q,w'=w.drewN q)/\(((rC l).2=0/\ ∃A c,e=.returned (.tuple #[.int .i64 (rC l).1,.slice A (l.length-4) c])/\l.length-4<=c/\c<=maxLen/\4<=l.length/\Rd w B 1 A (l.length-4) (JV (l.drop 4)))\/((rC l).2≠0/\e=.panicked [{v:=ae6 (rC l).2,recovered:=false}])))):=Lib.hid (λ_ _=>E);generalize Ny B l.length l w=Post at HP⊢;generalize rC l=t at HT H4 HP;obtain⟨t1,t2⟩:=t;clear h;by_cases ht:t2=0
 ·have h4:=H4.out ht;subst ht;by_cases hc4:c=4
  ·subst hc4;have h4i:(4:Int)<=(l.length:Int):=Y;have hl4:=Lib.hid (show l.length=4 by omega)
   go_enter func96,Tryz.ntmps96
   go_wp2_with fail
   refine(HT.out _ H.out).mono ?_;rintro e w1 ⟨rfl,rfl⟩;simp only
   go_wp2_with fail
   go_region
   go_wp2_with fail
   rw[HP.out];have e1:=hl4.out;have e2:l.length-4=0:=Y;rw[e2,GL (oq e1)];exact⟨⟨1,E⟩,.inl ⟨trivial,A,0,E,aB,aC _,h4,Rd.UZ⟩⟩
  have aM2:(c==4)=false:=by simpa using hc4
  have h4i:(4:Int)<=(l.length:Int):=Y;have H5:=Lib.hid (H.out.cut (k:=4) h4 hn);rw[ah hc4]at H5
  go_enter func96,Tryz.ntmps96
  go_wp2_with fail
  refine(HT.out _ H.out).mono ?_;rintro e w1 ⟨rfl,rfl⟩;simp only
  go_wp2_with fail
  go_region
  go_wp2_with fail
  rw[HP.out];refine⟨⟨1,E⟩,.inl ⟨trivial,_,_,E,by omega,by unfold maxLen;omega,h4,?_⟩⟩;have h5:=H5.out;rw[Bq,acX]at h5;exact h5
 have hb1:(t2==0)=false:=by simpa using ht
 have hb2:(t2 != 0)=true:=by simpa using ht
 have HT2:=Lib.hid ht;clear ht
 go_enter func96,Tryz.ntmps96
 go_wp2_with fail
 refine(HT.out _ H.out).mono ?_;rintro e w1 ⟨rfl,rfl⟩;simp only
 go_wp2_with fail
 refine⟨E,?_⟩;rw[HP.out];exact⟨⟨0,E⟩,.inr ⟨HT2.out,E⟩⟩
def tk(b:List UInt8)(i:Nat):Int×Int:=rC (b.drop (4*i))
def jG(b:List UInt8)(k j:Nat):Int:=if j<k then(tk b j).1 else 0
def qG(b:List UInt8)(k:Nat):dN:=⟨jG b k 0,jG b k 1,jG b k 2,jG b k 3,⟨jG b k 4,jG b k 5,jG b k 6,jG b k 7,jG b k 8,jG b k 9⟩⟩
def nD(b:List UInt8):Nat:=if mF (tk b 0).1=true then 10 else 4
def Cv(b:List UInt8):Nat->Int
 | 0=>0
 |k+1=>if Cv b k≠0 then Cv b k else(tk b k).2
def sV:dN:=⟨0,0,0,0,⟨0,0,0,0,0,0⟩⟩
def wS(b:List UInt8):dN×Int:=
 if Cv b (nD b)≠0 then(sV,Cv b (nD b))else if b.length≠4*nD b\/aM (qG b (nD b))≠0 then(sV,3)else(qG b (nD b),0)
def aok(w:World)(r:dN×Int)(e:Ending)(w':World):Prop:=e=.returned (.tuple #[r.1.val,.int .i64 r.2])/\Below w.heap.size w w'
def yt{b:List UInt8}:∀ {k:Nat},(∀j,j<k->(tk b j).2=0)->Cv b k=0
 | 0,_=>rfl
 |k+1,h=>by
  rw[Cv,yt (λj I=>h j Y),ah iQ];exact h k Y
def Nz{b:List UInt8}{k:Nat}(h:∀j,j<k->(tk b j).2=0)(I:(tk b k).2≠0):∀m,k<m->Cv b m=(tk b k).2
 | 0,hm=>av hm Y
 |m+1,hm=>by
  rw[Cv];by_cases e:k=m
  ·subst e;rw[yt h,ah iQ]
  rw[Nz h I m Y,aj I]
def Fw(b:List UInt8)(k:Nat):Array Value:= #[.int .i64 (jG b k 0),.int .i64 (jG b k 1),.int .i64 (jG b k 2),.int .i64 (jG b k 3),.int .i64 (jG b k 4),.int .i64 (jG b k 5),.int .i64 (jG b k 6),.int .i64 (jG b k 7),.int .i64 (jG b k 8),.int .i64 (jG b k 9)]
def KQ(b:List UInt8)(k:Nat)(I:k<10):(Fw b k).setIfInBounds k (.int .i64 (tk b k).1)=Fw b (k+1):=by
 have h:k=0\/k=1\/k=2\/k=3\/k=4\/k=5\/k=6\/k=7\/k=8\/k=9:=Y
 rcases h with rfl|rfl|rfl|rfl|rfl|rfl|rfl|rfl|rfl|rfl
 all_goals simp[Fw,jG,tk]
def Gq(b:List UInt8)(k j:Nat)(I:j<10):(Fw b k)[j]? =some (.int .i64 (jG b k j)):=by
 have h:j=0\/j=1\/j=2\/j=3\/j=4\/j=5\/j=6\/j=7\/j=8\/j=9:=Y
 rcases h with rfl|rfl|rfl|rfl|rfl|rfl|rfl|rfl|rfl|rfl<;>rfl
def Yj(R:Nat)(w:World):(Instr.index 197 (.agg #[.pointer (some ⟨R,0,none⟩),.pointer (some ⟨R,1,none⟩),.pointer (some ⟨R,2,none⟩),.pointer (some ⟨R,3,none⟩),.pointer (some ⟨R,4,none⟩),.pointer (some ⟨R,5,none⟩),.pointer (some ⟨R,6,none⟩),.pointer (some ⟨R,7,none⟩),.pointer (some ⟨R,8,none⟩),.pointer (some ⟨R,9,none⟩)]) (.int .i64 0)).run prog w=.ok (.pointer (some ⟨R,0,none⟩)) w:=kQ
def Yk(R:Nat)(w:World):(Instr.index 197 (.agg #[.pointer (some ⟨R,0,none⟩),.pointer (some ⟨R,1,none⟩),.pointer (some ⟨R,2,none⟩),.pointer (some ⟨R,3,none⟩),.pointer (some ⟨R,4,none⟩),.pointer (some ⟨R,5,none⟩),.pointer (some ⟨R,6,none⟩),.pointer (some ⟨R,7,none⟩),.pointer (some ⟨R,8,none⟩),.pointer (some ⟨R,9,none⟩)]) (.int .i64 1)).run prog w=.ok (.pointer (some ⟨R,1,none⟩)) w:=kQ
def Yl(R:Nat)(w:World):(Instr.index 197 (.agg #[.pointer (some ⟨R,0,none⟩),.pointer (some ⟨R,1,none⟩),.pointer (some ⟨R,2,none⟩),.pointer (some ⟨R,3,none⟩),.pointer (some ⟨R,4,none⟩),.pointer (some ⟨R,5,none⟩),.pointer (some ⟨R,6,none⟩),.pointer (some ⟨R,7,none⟩),.pointer (some ⟨R,8,none⟩),.pointer (some ⟨R,9,none⟩)]) (.int .i64 2)).run prog w=.ok (.pointer (some ⟨R,2,none⟩)) w:=kQ
def Ym(R:Nat)(w:World):(Instr.index 197 (.agg #[.pointer (some ⟨R,0,none⟩),.pointer (some ⟨R,1,none⟩),.pointer (some ⟨R,2,none⟩),.pointer (some ⟨R,3,none⟩),.pointer (some ⟨R,4,none⟩),.pointer (some ⟨R,5,none⟩),.pointer (some ⟨R,6,none⟩),.pointer (some ⟨R,7,none⟩),.pointer (some ⟨R,8,none⟩),.pointer (some ⟨R,9,none⟩)]) (.int .i64 3)).run prog w=.ok (.pointer (some ⟨R,3,none⟩)) w:=kQ
def KR(R:Nat)(w:World):(Instr.index 197 (.agg #[.pointer (some ⟨R,0,none⟩),.pointer (some ⟨R,1,none⟩),.pointer (some ⟨R,2,none⟩),.pointer (some ⟨R,3,none⟩),.pointer (some ⟨R,4,none⟩),.pointer (some ⟨R,5,none⟩),.pointer (some ⟨R,6,none⟩),.pointer (some ⟨R,7,none⟩),.pointer (some ⟨R,8,none⟩),.pointer (some ⟨R,9,none⟩)]) (.int .i64 4)).run prog w=.ok (.pointer (some ⟨R,4,none⟩)) w:=kQ
def Yn(R:Nat)(w:World):(Instr.index 197 (.agg #[.pointer (some ⟨R,0,none⟩),.pointer (some ⟨R,1,none⟩),.pointer (some ⟨R,2,none⟩),.pointer (some ⟨R,3,none⟩),.pointer (some ⟨R,4,none⟩),.pointer (some ⟨R,5,none⟩),.pointer (some ⟨R,6,none⟩),.pointer (some ⟨R,7,none⟩),.pointer (some ⟨R,8,none⟩),.pointer (some ⟨R,9,none⟩)]) (.int .i64 5)).run prog w=.ok (.pointer (some ⟨R,5,none⟩)) w:=kQ
def Yo(R:Nat)(w:World):(Instr.index 197 (.agg #[.pointer (some ⟨R,0,none⟩),.pointer (some ⟨R,1,none⟩),.pointer (some ⟨R,2,none⟩),.pointer (some ⟨R,3,none⟩),.pointer (some ⟨R,4,none⟩),.pointer (some ⟨R,5,none⟩),.pointer (some ⟨R,6,none⟩),.pointer (some ⟨R,7,none⟩),.pointer (some ⟨R,8,none⟩),.pointer (some ⟨R,9,none⟩)]) (.int .i64 6)).run prog w=.ok (.pointer (some ⟨R,6,none⟩)) w:=kQ
def Yp(R:Nat)(w:World):(Instr.index 197 (.agg #[.pointer (some ⟨R,0,none⟩),.pointer (some ⟨R,1,none⟩),.pointer (some ⟨R,2,none⟩),.pointer (some ⟨R,3,none⟩),.pointer (some ⟨R,4,none⟩),.pointer (some ⟨R,5,none⟩),.pointer (some ⟨R,6,none⟩),.pointer (some ⟨R,7,none⟩),.pointer (some ⟨R,8,none⟩),.pointer (some ⟨R,9,none⟩)]) (.int .i64 7)).run prog w=.ok (.pointer (some ⟨R,7,none⟩)) w:=kQ
def Yq(R:Nat)(w:World):(Instr.index 197 (.agg #[.pointer (some ⟨R,0,none⟩),.pointer (some ⟨R,1,none⟩),.pointer (some ⟨R,2,none⟩),.pointer (some ⟨R,3,none⟩),.pointer (some ⟨R,4,none⟩),.pointer (some ⟨R,5,none⟩),.pointer (some ⟨R,6,none⟩),.pointer (some ⟨R,7,none⟩),.pointer (some ⟨R,8,none⟩),.pointer (some ⟨R,9,none⟩)]) (.int .i64 8)).run prog w=.ok (.pointer (some ⟨R,8,none⟩)) w:=kQ
def Yr(R:Nat)(w:World):(Instr.index 197 (.agg #[.pointer (some ⟨R,0,none⟩),.pointer (some ⟨R,1,none⟩),.pointer (some ⟨R,2,none⟩),.pointer (some ⟨R,3,none⟩),.pointer (some ⟨R,4,none⟩),.pointer (some ⟨R,5,none⟩),.pointer (some ⟨R,6,none⟩),.pointer (some ⟨R,7,none⟩),.pointer (some ⟨R,8,none⟩),.pointer (some ⟨R,9,none⟩)]) (.int .i64 9)).run prog w=.ok (.pointer (some ⟨R,9,none⟩)) w:=kQ
def abj(R:Nat)(k:Nat)(I:k<10)(w:World):(Instr.index 197 (.agg #[.pointer (some ⟨R,0,none⟩),.pointer (some ⟨R,1,none⟩),.pointer (some ⟨R,2,none⟩),.pointer (some ⟨R,3,none⟩),.pointer (some ⟨R,4,none⟩),.pointer (some ⟨R,5,none⟩),.pointer (some ⟨R,6,none⟩),.pointer (some ⟨R,7,none⟩),.pointer (some ⟨R,8,none⟩),.pointer (some ⟨R,9,none⟩)]) (.int .i64 k)).run prog w=.ok (.pointer (some ⟨R,k,none⟩)) w:=by
 have h:k=0\/k=1\/k=2\/k=3\/k=4\/k=5\/k=6\/k=7\/k=8\/k=9:=Y
 rcases h with rfl|rfl|rfl|rfl|rfl|rfl|rfl|rfl|rfl|rfl
 ·exact Yj R w
 ·exact Yk R w
 ·exact Yl R w
 ·exact Ym R w
 ·exact KR R w
 ·exact Yn R w
 ·exact Yo R w
 ·exact Yp R w
 ·exact Yq R w
 exact Yr R w
def ah0(A:Option Addr)(n c:Nat)(b:List UInt8)(w:World)(h:Rd w w.heap.size 1 A n (JV b))(hn:n<=c)(hcm:c<=maxLen):
 Calls prog 69 #[.slice A n c] w (aok w (wS b)):=by
 have hmf:∀(fn:Fn) (first cap:Array Value) (w:World),(Instr.makeFunc fn first cap).run prog w=.ok (.func fn first cap) w:=λ_ _ _ _=>E;have hl:=h.qx;subst hl;have H:=Lib.hid h;have HIX:=Lib.hid (abj w.heap.size);clear h;generalize hz:wS b=z;have HZ:=Lib.hid hz;clear hz
 go_enter_defers func69,ntmps69
 go_wp2_with fail
 go_loopw [0,26] (λv i wr=> ∃k:Nat,k<=10/\i=.int .i64 k/\ ∃A2 c2,v=.slice A2 (b.length-4*k) c2/\b.length-4*k<=c2/\c2<=maxLen/\4*k<=b.length/\Rd wr w.heap.size 1 A2 (b.length-4*k) (JV (b.drop (4*k)))/\(∀j,j<k->(tk b j).2=0)/\(4<k->mF (tk b 0).1=true)/\iq wr w.heap.size (Fw b k) 132/\iq wr (w.heap.size+1) #[.int .i64 0] 45/\Below w.heap.size w wr) (λ_ i _=>10-(intOf i).toNat)
 case atStart=>
  refine⟨0,by omega,E,A,c,by simp,by simpa using hn,hcm,by omega,?_,λj hj=>av hj Y,λh=>av h Y,?_,iq.new1 w _ _ _,by go_grown⟩
  ·have:=((H.out.alloc aB (.cells wR 132)).alloc iQ (.cells #[.int .i64 0] 45));simpa[wR]using this
  exact(iq.new w _ _).alloc _
 case round=>
  obtain⟨k,hk,rfl,A2,c2,rfl,hc2,hcm2,h4k,hr,hall,hev,hR,hE,hB⟩:=hrel;have HR:=Lib.hid hr;have HA:=Lib.hid hall;have HV:=Lib.hid hev;have HB:=Lib.hid hB;have HBR:=Lib.hid hR;have HBE:=Lib.hid hE;have hz0:w.heap.size+1<wr.heap.size:=hE.lt;have r0:wr.cell? ⟨w.heap.size,0,none⟩=some (.int .i64 (jG b k 0)):=hR.cell (Gq b k 0 Y);clear hr hall hev hB hR hE;by_cases hlt:k<10
  ·have hix:=HIX.out k hlt;by_cases h4:k=4
   ·subst h4;have aM3:=KR w.heap.size;have e04:jG b 4 0=(tk b 0).1:=aj Y
    cases he:mF (jG b 4 0)
    ·have Lb:nD b=4:=by unfold nD;rw[ah (by rw[<-e04,he];simp)]
     clear e04;have hez:Cv b (nD b)=0:=by rw[Lb];exact yt HA.out
     have Pt:=Lib.hid (λw=>lq (qG b 4) w);have HD:Hid (wS b=if b.length≠4*4\/aM (qG b 4)≠0 then(sV,3)else(qG b 4,0)):=Lib.hid (by unfold wS;rw[hez,ah iQ,Lb]);clear hez Lb;have DR:=HBR.out;have DE:=HBE.out;by_cases hlen:b.length=4*4
     ·have e0:b.length-4*4=0:=Y;rw[e0];clear e0;have HD2:Hid (z=if aM (qG b 4)≠0 then(sV,3)else(qG b 4,0)):=Lib.hid (by
       rw[<-HZ.out,HD.out];by_cases hf:aM (qG b 4)≠0
       ·rw[aj (.inr hf),aj hf]
       rw[ah (λh=>h.elim (λh=>h hlen) hf),ah hf])
      generalize aM (qG b 4)=f at Pt HD2;unfold qG dN.val at Pt;simp only at Pt;unfold Fw at DR;obtain⟨y0,y1,y2,y3,y4,y5,y6,y7,y8,y9,yf⟩:=DR.mM;clear hlen HD
      go_wp2_with (go_at_call 71;refine(iC _ _).mono ?_;rintro e w' ⟨rfl,rfl⟩;first|rw[he]|skip)
      refine(Pt.out _).mono ?_;rintro e w3 ⟨rfl,hb3⟩;have DR:=DR.on hb3;have DE:=DE.on hb3;have HB2:=Lib.hid (HB.out.trans (hb3.mono HB.out.size));have hz3:w.heap.size+1<w3.heap.size:=DE.lt;clear hb3 y0 y1 y2 y3 y4 y5 y6 y7 y8 y9 yf;by_cases hf:f=0
      ·have HF:=Lib.hid (HD2.out.trans (ah (by simpa using hf)));subst hf;clear HD2;obtain⟨y0,y1,y2,y3,y4,y5,y6,y7,y8,y9,yf⟩:=DR.mM;have x0:=DE.cell (k:=0) E;have xf:=DE.free
       go_wp2_with (refine UC E _ (.tmp 2) (.tmp 56) E w.heap.size E _ E _ _ DR Ht E E ?_;intro w9 MS Fv;have DE9:=Fv.Pj DE Y;have x0:=DE9.cell (k:=0) E;have xf:=DE9.free)
       obtain⟨g0,g1,g2,g3,g4,g5,g6,g7,g8,g9,gf⟩:=(MS.other ⟨w.heap.size+1,0,none⟩ iQ (.int .i64 0)).mM;have g10:=(DE9.yD 0 (.int .i64 0)).cell (k:=0) E;have HB9:=Fv.next HB2.out aB;refine leaves_cons (f:=95) (args:= #[.pointer (some ⟨w.heap.size,0,none⟩),.pointer (some ⟨w.heap.size+1,0,none⟩)]) iQ (by simp[go_sem]) ?_;refine(OB w.heap.size (w.heap.size+1) _).mono ?_;rintro e u' wf ⟨rfl,rfl,rfl⟩;simp[Leaves,settle,results,Tryz.results69,go_sem,g0,g1,g2,g3,g4,g5,g6,g7,g8,g9,g10];rw[HF.out];exact⟨E,HB9.setCell iQ _⟩
      have HF:=Lib.hid (HD2.out.trans (aj hf));have u1:(f==0)=false:=by simpa using hf
      have u2:(f != 0)=true:=by simpa using hf
      clear hf HD2
      go_wp2_with fail
      refine leaves_cons (f:=95) (args:= #[.pointer (some ⟨w.heap.size,0,none⟩),.pointer (some ⟨w.heap.size+1,0,none⟩)]) iQ (by simp[go_sem]) ?_;refine(qF w.heap.size (w.heap.size+1) 3 0 _ _ Y DR (by rfl) DE).mono ?_;rintro e u' w9 ⟨rfl,rfl,Zd,MU,Ze⟩;unfold wR at MU;obtain⟨g0,g1,g2,g3,g4,g5,g6,g7,g8,g9,gf⟩:=MU.mM;have g10:w9.cell? ⟨w.heap.size+1,0,none⟩=some (.int .i64 3):=Ze.cell E;simp[Leaves,settle,results,Tryz.results69,go_sem,g0,g1,g2,g3,g4,g5,g6,g7,g8,g9,g10];rw[HF.out];exact⟨E,HB2.out.trans (Zd w.heap.size aB Y)⟩
     have hd1:0<b.length-4*4:=Y;have hd2:(0:Int)< ((b.length-4*4:Nat):Int):=Y;have HF:Hid (z=(sV,3)):=Lib.hid (by rw[<-HZ.out,HD.out,aj (.inl hlen)]);have HB2:=HB;clear hlen
     go_wp2_with (go_at_call 71;refine(iC _ _).mono ?_;rintro e w' ⟨rfl,rfl⟩;first|rw[he]|skip)
     refine leaves_cons (f:=95) (args:= #[.pointer (some ⟨w.heap.size,0,none⟩),.pointer (some ⟨w.heap.size+1,0,none⟩)]) iQ (by simp[go_sem]) ?_;refine(qF w.heap.size (w.heap.size+1) 3 0 _ _ Y DR (by rfl) DE).mono ?_;rintro e u' w9 ⟨rfl,rfl,Zd,MU,Ze⟩;unfold wR at MU;obtain⟨g0,g1,g2,g3,g4,g5,g6,g7,g8,g9,gf⟩:=MU.mM;have g10:w9.cell? ⟨w.heap.size+1,0,none⟩=some (.int .i64 3):=Ze.cell E;simp[Leaves,settle,results,Tryz.results69,go_sem,g0,g1,g2,g3,g4,g5,g6,g7,g8,g9,g10];rw[HF.out];exact⟨E,HB2.out.trans (Zd w.heap.size aB Y)⟩
    have E04:=Lib.hid e04;clear e04
    go_wp2_with (go_at_call 71;refine(iC _ _).mono ?_;rintro e w' ⟨rfl,rfl⟩;rw[he])
    have HV5:Hid (4<4+1->mF (tk b 0).1=true):=Lib.hid (λ_=>by rw[<-E04.out];exact he);have HM:Hid (4<nD b):=Lib.hid (by unfold nD;rw[aj (by rw[<-E04.out];exact he)];omega);clear he;refine(OC A2 (b.length-4*4) c2 (b.drop (4*4)) _ HR.out hc2 hcm2).mono ?_;rintro e w2 ⟨⟨q,rfl⟩,hk2⟩
    rcases hk2 with⟨hk0,A3,c3,rfl,hc3,arB,h43,hr3⟩|⟨hk0,rfl⟩
    ·have DR:=HBR.out.drewN q;have DE:=Lib.hid (HBE.out.drewN q);have HB2:=Lib.hid (MN HB.out q);have HR3:=Lib.hid (hr3.drewN q);have HA2:Hid (∀j,j<4+1->(tk b j).2=0):=Lib.hid (λj hj=>by
      by_cases e:j=4
      ·rw[e];exact hk0
      exact HA.out j Y)
     have HS:=Lib.hid (KQ b 4 hlt);have ck:=DR.cell (Gq b 4 4 hlt);have fk:=DR.free 4;have HDR:=Lib.hid DR;clear hk0 hr3 DR r0;simp only
     go_wp2_with fail
     go_roundw
     case rel=>
      refine⟨4+1,by omega,by go_num,A3,c3,by rw[show b.length-4*4-4=b.length-4*(4+1) by omega],by omega,arB,by omega,?_,HA2.out,(by first|exact HV5.out|exact λ_=>trivial),?_,?_,?_⟩
      ·have:=HR3.out.setCell (p:=⟨w.heap.size,4,none⟩) aB (.int .i64 (rC (b.drop (4*4))).1);rw[lT,show 4*4+4=4*(4+1) by omega,show b.length-4*4-4=b.length-4*(4+1) by omega]at this;exact this
      ·exact(HDR.out.yD 4 _).cast HS.out
      ·exact DE.out.other _ iQ _
      exact HB2.out.setCell iQ _
     case measure=>first|(simp[intOf];done)|(simp[intOf];omega)
    have e1:=Nz HA.out (show(tk b 4).2≠0 from hk0) (nD b) HM.out;have e2:wS b=(sV,(tk b 4).2):=by
     unfold wS;rw[e1,aj (show(tk b 4).2≠0 from hk0)]
    have HF:=Lib.hid (HZ.out.symm.trans e2);have DR:=HBR.out.drewN q;have DE:=HBE.out.drewN q;have HB2:=Lib.hid (MN HB.out q);clear e1 e2 hk0;simp only
    go_wp2_with fail
    refine leaves_cons (f:=95) (args:= #[.pointer (some ⟨w.heap.size,0,none⟩),.pointer (some ⟨w.heap.size+1,0,none⟩)]) iQ (by simp[go_sem]) ?_;refine(qF w.heap.size (w.heap.size+1) (tk b 4).2 0 _ _ Y DR (by rfl) DE).mono ?_;rintro e u' w9 ⟨rfl,rfl,Zd,MU,Ze⟩;unfold wR at MU;obtain⟨g0,g1,g2,g3,g4,g5,g6,g7,g8,g9,gf⟩:=MU.mM;have g10:w9.cell? ⟨w.heap.size+1,0,none⟩=some (.int .i64 (tk b 4).2):=Ze.cell E;simp[Leaves,settle,results,Tryz.results69,go_sem,g0,g1,g2,g3,g4,g5,g6,g7,g8,g9,g10];rw[HF.out];exact⟨E,HB2.out.trans (Zd w.heap.size aB Y)⟩
   have t1:((k:Int)==4)=false:=by rw[Bh];omega
   have t2:(k==4)=false:=by rw[Bh];omega
   have HV5:Hid (4<k+1->mF (tk b 0).1=true):=Lib.hid (λh=>HV.out Y);have HM:Hid (k<nD b):=Lib.hid (by
    unfold nD;by_cases h5:4<k
    ·rw[aj (HV.out h5)];omega
    split<;>omega)
   clear h4
   go_wp2_with fail
   refine(OC A2 (b.length-4*k) c2 (b.drop (4*k)) _ HR.out hc2 hcm2).mono ?_;rintro e w2 ⟨⟨q,rfl⟩,hk2⟩
   rcases hk2 with⟨hk0,A3,c3,rfl,hc3,arB,h43,hr3⟩|⟨hk0,rfl⟩
   ·have DR:=HBR.out.drewN q;have DE:=Lib.hid (HBE.out.drewN q);have HB2:=Lib.hid (MN HB.out q);have HR3:=Lib.hid (hr3.drewN q);have HA2:Hid (∀j,j<k+1->(tk b j).2=0):=Lib.hid (λj hj=>by
     by_cases e:j=k
     ·rw[e];exact hk0
     exact HA.out j Y)
    have HS:=Lib.hid (KQ b k hlt);have ck:=DR.cell (Gq b k k hlt);have fk:=DR.free k;have HDR:=Lib.hid DR;clear hk0 hr3 DR r0;simp only
    go_wp2_with fail
    go_roundw
    case rel=>
     refine⟨k+1,by omega,by go_num,A3,c3,by rw[show b.length-4*k-4=b.length-4*(k+1) by omega],by omega,arB,by omega,?_,HA2.out,(by first|exact HV5.out|exact λ_=>trivial),?_,?_,?_⟩
     ·have:=HR3.out.setCell (p:=⟨w.heap.size,k,none⟩) aB (.int .i64 (rC (b.drop (4*k))).1);rw[lT,show 4*k+4=4*(k+1) by omega,show b.length-4*k-4=b.length-4*(k+1) by omega]at this;exact this
     ·exact(HDR.out.yD k _).cast HS.out
     ·exact DE.out.other _ iQ _
     exact HB2.out.setCell iQ _
    case measure=>first|(simp[intOf];done)|(simp[intOf];omega)
   have e1:=Nz HA.out (show(tk b k).2≠0 from hk0) (nD b) HM.out;have e2:wS b=(sV,(tk b k).2):=by
    unfold wS;rw[e1,aj (show(tk b k).2≠0 from hk0)]
   have HF:=Lib.hid (HZ.out.symm.trans e2);have DR:=HBR.out.drewN q;have DE:=HBE.out.drewN q;have HB2:=Lib.hid (MN HB.out q);clear e1 e2 hk0;simp only
   go_wp2_with fail
   refine leaves_cons (f:=95) (args:= #[.pointer (some ⟨w.heap.size,0,none⟩),.pointer (some ⟨w.heap.size+1,0,none⟩)]) iQ (by simp[go_sem]) ?_;refine(qF w.heap.size (w.heap.size+1) (tk b k).2 0 _ _ Y DR (by rfl) DE).mono ?_;rintro e u' w9 ⟨rfl,rfl,Zd,MU,Ze⟩;unfold wR at MU;obtain⟨g0,g1,g2,g3,g4,g5,g6,g7,g8,g9,gf⟩:=MU.mM;have g10:w9.cell? ⟨w.heap.size+1,0,none⟩=some (.int .i64 (tk b k).2):=Ze.cell E;simp[Leaves,settle,results,Tryz.results69,go_sem,g0,g1,g2,g3,g4,g5,g6,g7,g8,g9,g10];rw[HF.out];exact⟨E,HB2.out.trans (Zd w.heap.size aB Y)⟩
  obtain rfl:k=10:=Y;have Lb:nD b=10:=by unfold nD;rw[aj (HV.out Y)]
  clear hlt hk;have hez:Cv b (nD b)=0:=by rw[Lb];exact yt HA.out
  have Pt:=Lib.hid (λw=>lq (qG b 10) w);have HD:Hid (wS b=if b.length≠4*10\/aM (qG b 10)≠0 then(sV,3)else(qG b 10,0)):=Lib.hid (by unfold wS;rw[hez,ah iQ,Lb]);clear hez Lb;have DR:=HBR.out;have DE:=HBE.out;by_cases hlen:b.length=4*10
  ·have e0:b.length-4*10=0:=Y;rw[e0];clear e0;have HD2:Hid (z=if aM (qG b 10)≠0 then(sV,3)else(qG b 10,0)):=Lib.hid (by
    rw[<-HZ.out,HD.out];by_cases hf:aM (qG b 10)≠0
    ·rw[aj (.inr hf),aj hf]
    rw[ah (λh=>h.elim (λh=>h hlen) hf),ah hf])
   generalize aM (qG b 10)=f at Pt HD2;unfold qG dN.val at Pt;simp only at Pt;unfold Fw at DR;obtain⟨y0,y1,y2,y3,y4,y5,y6,y7,y8,y9,yf⟩:=DR.mM;clear hlen HD
   go_wp2_with (go_at_call 71;refine(iC _ _).mono ?_;rintro e w' ⟨rfl,rfl⟩;first|rw[he]|skip)
   refine(Pt.out _).mono ?_;rintro e w3 ⟨rfl,hb3⟩;have DR:=DR.on hb3;have DE:=DE.on hb3;have HB2:=Lib.hid (HB.out.trans (hb3.mono HB.out.size));have hz3:w.heap.size+1<w3.heap.size:=DE.lt;clear hb3 y0 y1 y2 y3 y4 y5 y6 y7 y8 y9 yf;by_cases hf:f=0
   ·have HF:=Lib.hid (HD2.out.trans (ah (by simpa using hf)));subst hf;clear HD2;obtain⟨y0,y1,y2,y3,y4,y5,y6,y7,y8,y9,yf⟩:=DR.mM;have x0:=DE.cell (k:=0) E;have xf:=DE.free
    go_wp2_with (refine UC E _ (.tmp 2) (.tmp 56) E w.heap.size E _ E _ _ DR Ht E E ?_;intro w9 MS Fv;have DE9:=Fv.Pj DE Y;have x0:=DE9.cell (k:=0) E;have xf:=DE9.free)
    obtain⟨g0,g1,g2,g3,g4,g5,g6,g7,g8,g9,gf⟩:=(MS.other ⟨w.heap.size+1,0,none⟩ iQ (.int .i64 0)).mM;have g10:=(DE9.yD 0 (.int .i64 0)).cell (k:=0) E;have HB9:=Fv.next HB2.out aB;refine leaves_cons (f:=95) (args:= #[.pointer (some ⟨w.heap.size,0,none⟩),.pointer (some ⟨w.heap.size+1,0,none⟩)]) iQ (by simp[go_sem]) ?_;refine(OB w.heap.size (w.heap.size+1) _).mono ?_;rintro e u' wf ⟨rfl,rfl,rfl⟩;simp[Leaves,settle,results,Tryz.results69,go_sem,g0,g1,g2,g3,g4,g5,g6,g7,g8,g9,g10];rw[HF.out];exact⟨E,HB9.setCell iQ _⟩
   have HF:=Lib.hid (HD2.out.trans (aj hf));have u1:(f==0)=false:=by simpa using hf
   have u2:(f != 0)=true:=by simpa using hf
   clear hf HD2
   go_wp2_with fail
   refine leaves_cons (f:=95) (args:= #[.pointer (some ⟨w.heap.size,0,none⟩),.pointer (some ⟨w.heap.size+1,0,none⟩)]) iQ (by simp[go_sem]) ?_;refine(qF w.heap.size (w.heap.size+1) 3 0 _ _ Y DR (by rfl) DE).mono ?_;rintro e u' w9 ⟨rfl,rfl,Zd,MU,Ze⟩;unfold wR at MU;obtain⟨g0,g1,g2,g3,g4,g5,g6,g7,g8,g9,gf⟩:=MU.mM;have g10:w9.cell? ⟨w.heap.size+1,0,none⟩=some (.int .i64 3):=Ze.cell E;simp[Leaves,settle,results,Tryz.results69,go_sem,g0,g1,g2,g3,g4,g5,g6,g7,g8,g9,g10];rw[HF.out];exact⟨E,HB2.out.trans (Zd w.heap.size aB Y)⟩
  have hd1:0<b.length-4*10:=Y;have hd2:(0:Int)< ((b.length-4*10:Nat):Int):=Y;have HF:Hid (z=(sV,3)):=Lib.hid (by rw[<-HZ.out,HD.out,aj (.inl hlen)]);have HB2:=HB;clear hlen
  go_wp2_with (go_at_call 71;refine(iC _ _).mono ?_;rintro e w' ⟨rfl,rfl⟩;first|rw[he]|skip)
  refine leaves_cons (f:=95) (args:= #[.pointer (some ⟨w.heap.size,0,none⟩),.pointer (some ⟨w.heap.size+1,0,none⟩)]) iQ (by simp[go_sem]) ?_;refine(qF w.heap.size (w.heap.size+1) 3 0 _ _ Y DR (by rfl) DE).mono ?_;rintro e u' w9 ⟨rfl,rfl,Zd,MU,Ze⟩;unfold wR at MU;obtain⟨g0,g1,g2,g3,g4,g5,g6,g7,g8,g9,gf⟩:=MU.mM;have g10:w9.cell? ⟨w.heap.size+1,0,none⟩=some (.int .i64 3):=Ze.cell E;simp[Leaves,settle,results,Tryz.results69,go_sem,g0,g1,g2,g3,g4,g5,g6,g7,g8,g9,g10];rw[HF.out];exact⟨E,HB2.out.trans (Zd w.heap.size aB Y)⟩
end Go.Proofs.YtceeleolddkibaaGreatDoor
