import Derived.Recover
import Derived.Defers
import Derived.Test.YtcomidffhiilcaaGreatDoorG5cb02
import Derived.Test.YtcomidffhiilcaaGreatDoorGeb831
set_option maxRecDepth 100000
set_option maxHeartbeats 8000000
set_option linter.unusedSimpArgs false
set_option linter.unusedVariables false
namespace Go.Proofs.YtcomidffhiilcaaGreatDoor
open ChangeShapes WideShapes RowKit
def Y4 (c:Int):Value:= .iface 242 (.agg #[.int .i64 c])
def sV:Array Value:= #[.int .i64 0,.int .i64 0,.int .i64 0,.int .i64 0,.int .i64 0,.int .i64 0,.int .i64 0,.int .i64 0,.int .i64 0,.int .i64 0]
theorem DC:(Tryz.prog.info? 155).map (·.size)=some 10:=kQ
def V9 (R E:Nat) (c:Int) (w:World) (e:Ending) (u':FrameMode) (w':World):Prop:=
 e= .returned (.tuple #[])/\u'= .panicking [{ v:=Y4 c,recovered:=true }]/\(∀ B,B<=R->B<=E->Below B w w')/\fK w' R sV 155/\fK w' E #[.int .i64 c] 25
theorem nL (R E:Nat) (c x:Int) (row:Array Value) (w:World) (hne:R≠E) (h1:fK w R row 155) (hs:row.size=10) (h2:fK w E #[.int .i64 x] 25):
  CallsD Tryz.prog 144 #[.pointer (some ⟨R,0,none⟩),.pointer (some ⟨E,0,none⟩)] (.panicking [{ v:=Y4 c,recovered:=false }]) w (V9 R E c w):=by
 refine callsD_of_wpS Tryz.func144 rfl λc₀ cs hu=>?_;apply wpS_seq;apply wpS_region;simp [wpOpsS,go_sem,recoverD,hu,Tryz.ntmps144,Exit.thenS,Y4];refine wpS_of_wp ?_;rw [show ((#[.pointer (some ⟨R,0,none⟩),.pointer (some ⟨E,0,none⟩)]:Array Value)++((Array.replicate 8 undef).setIfInBounds 1 (.iface 242 (.agg #[.int .i64 c]))).setIfInBounds 0 (.iface 242 (.agg #[.int .i64 c])))= #[.pointer (some ⟨R,0,none⟩),.pointer (some ⟨E,0,none⟩),.iface 242 (.agg #[.int .i64 c]),.iface 242 (.agg #[.int .i64 c]),undef,undef,undef,undef,undef,undef] from rfl];obtain ⟨z0,z1,z2,z3,z4,z5,z6,z7,z8,z9,rfl⟩: ∃ z0 z1 z2 z3 z4 z5 z6 z7 z8 z9,row= #[z0,z1,z2,z3,z4,z5,z6,z7,z8,z9]:=by
  obtain ⟨l⟩:=row
  match l,hs with
  | [z0,z1,z2,z3,z4,z5,z6,z7,z8,z9],_=>exact ⟨_,_,_,_,_,_,_,_,_,_,rfl⟩
 obtain ⟨c0,c1,c2,c3,c4,c5,c6,c7,c8,c9,cf⟩:=h1.kF;have e0:=h2.cell (k:=0) rfl;have ef:=h2.free;have ht: ∀ w,(Instr.typeAssert (.iface 242 (.agg #[.int .i64 c])) 20 242 false).run Tryz.prog w= .ok (.agg #[.int .i64 c]) w:=λw=>by kernel_rfl
 go_wp2_with fail
 refine wp_region_any kQ ?_;change wpAny _ _ _ _ _ _ _ (World.drew _);have U0:=FC w R;have D1:=h1.drew;have D2:=h2.drew;generalize World.drew w=w6 at U0 D1 D2⊢;clear c0 c1 c2 c3 c4 c5 c6 c7 c8 c9 cf e0 ef;refine wpAny_take (i:=0) (v:=?_) rfl kQ kQ kQ (λ_ _ _ h=>h) (Or.inl ⟨by rfl,?_⟩) ?_
 ·exact .agg #[.int .i64 0,.int .i64 0,.int .i64 0,.int .i64 0,.int .i64 0,.int .i64 0,.int .i64 0,.int .i64 0,.int .i64 0,.int .i64 0]
 ·intro w;go_simp
 refine wpAny_take (i:=1) (v:=?_) rfl kQ kQ kQ (λ_ _ _ h=>h) (Or.inl ⟨by rfl,?_⟩) ?_
 ·exact .iface 242 (.agg #[.int .i64 c])
 ·intro w;go_simp
 refine wpAny_ready (rs:=[2,4]) kQ iQ ?_;refine AllReady.cons rfl (λK hK=>?_) (AllReady.cons rfl (λK hK=>?_) AllReady.nil)
 ·go_simp
  refine hK _ _ ?_;clear hK K;refine wpAny_ready (rs:=[3,4]) kQ iQ ?_;refine AllReady.cons rfl (λK hK=>?_) (AllReady.cons rfl (λK hK=>?_) AllReady.nil)
  ·go_simp
   refine hK _ _ ?_;clear hK K;refine wpAny_ready (rs:=[4]) kQ iQ ?_;refine AllReady.cons rfl (λK hK=>?_) AllReady.nil;refine uS rfl _ (.tmp 0) (.tmp 6) rfl R rfl _ rfl _ _ D1 DC rfl rfl ?_;intro w9 Jd BS;refine hK _ _ ?_;clear hK K;have D2:=BS.blk D2 hne.symm;refine wpAny_ready (rs:=[5]) kQ iQ ?_;refine AllReady.cons rfl (λK hK=>?_) AllReady.nil;have e0:=D2.cell (k:=0) rfl;have ef:=D2.free
   go_simp
   refine hK _ _ ?_;clear hK K;refine wpAny_done kQ ?_ _
   go_wp2_with fail
   simp [bodyPostS,results,Tryz.results144];exact ⟨rfl,rfl,λB hR hE=>((U0.below hR).trans (BS.below hR)).setCell (by simpa using hE) _,Jd.other _ (by simpa using hne) _,D2.vK 0 _⟩
  refine uS rfl _ (.tmp 0) (.tmp 6) rfl R rfl _ rfl _ _ D1 DC rfl rfl ?_;intro w9 Jd BS;refine hK _ _ ?_;clear hK K;have D2:=BS.blk D2 hne.symm;refine wpAny_ready (rs:=[3]) kQ iQ ?_;refine AllReady.cons rfl (λK hK=>?_) AllReady.nil
  go_simp
  refine hK _ _ ?_;clear hK K;refine wpAny_ready (rs:=[5]) kQ iQ ?_;refine AllReady.cons rfl (λK hK=>?_) AllReady.nil;have e0:=D2.cell (k:=0) rfl;have ef:=D2.free
  go_simp
  refine hK _ _ ?_;clear hK K;refine wpAny_done kQ ?_ _
  go_wp2_with fail
  simp [bodyPostS,results,Tryz.results144];exact ⟨rfl,rfl,λB hR hE=>((U0.below hR).trans (BS.below hR)).setCell (by simpa using hE) _,Jd.other _ (by simpa using hne) _,D2.vK 0 _⟩
 refine uS rfl _ (.tmp 0) (.tmp 6) rfl R rfl _ rfl _ _ D1 DC rfl rfl ?_;intro w9 Jd BS;refine hK _ _ ?_;clear hK K;have D2:=BS.blk D2 hne.symm;refine wpAny_ready (rs:=[2]) kQ iQ ?_;refine AllReady.cons rfl (λK hK=>?_) AllReady.nil
 go_simp
 refine hK _ _ ?_;clear hK K;refine wpAny_ready (rs:=[3]) kQ iQ ?_;refine AllReady.cons rfl (λK hK=>?_) AllReady.nil
 go_simp
 refine hK _ _ ?_;clear hK K;refine wpAny_ready (rs:=[5]) kQ iQ ?_;refine AllReady.cons rfl (λK hK=>?_) AllReady.nil;have e0:=D2.cell (k:=0) rfl;have ef:=D2.free
 go_simp
 refine hK _ _ ?_;clear hK K;refine wpAny_done kQ ?_ _
 go_wp2_with fail
 simp [bodyPostS,results,Tryz.results144];exact ⟨rfl,rfl,λB hR hE=>((U0.below hR).trans (BS.below hR)).setCell (by simpa using hE) _,Jd.other _ (by simpa using hne) _,D2.vK 0 _⟩
theorem Ko (R E:Nat) (w:World):
  CallsD Tryz.prog 144 #[.pointer (some ⟨R,0,none⟩),.pointer (some ⟨E,0,none⟩)] .returning w λe u' w'=>e= .returned (.tuple #[])/\u'= .returning/\w'=w:=by
 refine callsD_of_wpS Tryz.func144 rfl λc₀ cs hu=>?_;apply wpS_seq;apply wpS_region;simp [wpOpsS,go_sem,recoverD,hu,Tryz.ntmps144,Exit.thenS];refine wpS_of_wp ?_
 go_wp2_with fail
 cases c₀;simp_all [bodyPostS,results,Tryz.results144]
def JL (B n:Nat) (l:List UInt8) (w:World) (e:Ending) (w':World):Prop:=
 (∃ q,w'=w.drewN q)/\(((ou l).2=0/\ ∃ A c,e= .returned (.tuple #[.int .i64 (ou l).1,.slice A (n-4) c])/\n-4<=c/\c<=maxLen/\4<=n/\Rd w B 1 A (n-4) (byteCells (l.drop 4)))\/((ou l).2≠0/\e= .panicked [{ v:=Y4 (ou l).2,recovered:=false }]))
theorem Wh {l:List UInt8} (h:(ou l).2=0):4<=l.length:=by
 rcases Nat.lt_or_ge l.length 4 with h1 | h1
 ·rw [Gx h1] at h
  cases h
 exact h1
theorem KZ (l:List UInt8) (m:Nat):(byteCells l).drop m=byteCells (l.drop m):=by simp [byteCells,List.map_drop]
theorem Kq (A:Option Addr) (n c:Nat) (l:List UInt8) (w:World) {B:Nat} (h:Rd w B 1 A n (byteCells l)) (hn:n<=c) (hcm:c<=maxLen):
  Calls Tryz.prog 145 #[.slice A n c] w (JL B n l w):=by
 have HT:=Lib.hid (λw (h:Rd w B 1 A n (byteCells l))=>VT A n c l w h hn);have H:=Lib.hid h;have H4:=Lib.hid (Wh (l:=l));have hl:=h.nE;subst hl;unfold maxLen at hcm;have HP:Hid (∀ e w',JL B l.length l w e w'=((∃ q,w'=w.drewN q)/\(((ou l).2=0/\ ∃ A c,e= .returned (.tuple #[.int .i64 (ou l).1,.slice A (l.length-4) c])/\l.length-4<=c/\c<=maxLen/\4<=l.length/\Rd w B 1 A (l.length-4) (byteCells (l.drop 4)))\/((ou l).2≠0/\e= .panicked [{ v:=Y4 (ou l).2,recovered:=false }])))):=Lib.hid (λ_ _=>rfl);generalize JL B l.length l w=Post at HP⊢;generalize ou l=t at HT H4 HP;obtain ⟨t1,t2⟩:=t;clear h;by_cases ht:t2=0
 ·have h4:=H4.out ht;subst ht;by_cases hc4:c=4
  ·subst hc4;have h4i:(4:Int)<=(l.length:Int):=oQ;have hl4:=Lib.hid (show l.length=4 by omega)
   go_enter Tryz.func145,Tryz.ntmps145
   go_wp2_with fail
   refine (HT.out _ H.out).mono ?_;rintro e w1 ⟨rfl,rfl⟩;simp only
   go_wp2_with fail
   go_region
   go_wp2_with fail
   rw [HP.out];have e1:=hl4.out;have e2:l.length-4=0:=oQ;rw [e2,List.drop_of_length_le (Nat.le_of_eq e1)];exact ⟨⟨1,rfl⟩,.inl ⟨trivial,A,0,rfl,Nat.le_refl _,Nat.zero_le _,h4,Rd.none_⟩⟩
  have aGu:(c==4)=false:=by simpa using hc4
  have h4i:(4:Int)<=(l.length:Int):=oQ;have H5:=Lib.hid (H.out.cut (k:=4) h4 hn);rw [if_neg hc4] at H5
  go_enter Tryz.func145,Tryz.ntmps145
  go_wp2_with fail
  refine (HT.out _ H.out).mono ?_;rintro e w1 ⟨rfl,rfl⟩;simp only
  go_wp2_with fail
  go_region
  go_wp2_with fail
  rw [HP.out];refine ⟨⟨1,rfl⟩,.inl ⟨trivial,_,_,rfl,by omega,by unfold maxLen;omega,h4,?_⟩⟩;have h5:=H5.out;rw [Nat.mul_one,KZ] at h5;exact h5
 have hb1:(t2==0)=false:=by simpa using ht
 have hb2:(t2 != 0)=true:=by simpa using ht
 have HT2:=Lib.hid ht;clear ht
 go_enter Tryz.func145,Tryz.ntmps145
 go_wp2_with fail
 refine (HT.out _ H.out).mono ?_;rintro e w1 ⟨rfl,rfl⟩;simp only
 go_wp2_with fail
 refine ⟨rfl,?_⟩;rw [HP.out];exact ⟨⟨0,rfl⟩,.inr ⟨HT2.out,rfl⟩⟩
def tk (b:List UInt8) (i:Nat):Int×Int:=ou (b.drop (4*i))
def iL (b:List UInt8) (k j:Nat):Int:=if j<k then (tk b j).1 else 0
def nM (b:List UInt8) (k:Nat):dH:=⟨iL b k 0,iL b k 1,iL b k 2,iL b k 3,⟨iL b k 4,iL b k 5,iL b k 6,iL b k 7,iL b k 8,iL b k 9⟩⟩
def kZ (b:List UInt8):Nat:=if kW (tk b 0).1=true then 10 else 4
def yK (b:List UInt8):Nat->Int
 | 0=>0
 | k+1=>if yK b k≠0 then yK b k else (tk b k).2
def pU:dH:=⟨0,0,0,0,⟨0,0,0,0,0,0⟩⟩
def sW (b:List UInt8):dH×Int:=
 if yK b (kZ b)≠0 then (pU,yK b (kZ b)) else if b.length≠4*kZ b\/aJ (nM b (kZ b))≠0 then (pU,3) else (nM b (kZ b),0)
def aiI (w:World) (r:dH×Int) (e:Ending) (w':World):Prop:=e= .returned (.tuple #[r.1.val,.int .i64 r.2])/\Below w.heap.size w w'
theorem uK {b:List UInt8}: ∀ {k:Nat},(∀ j,j<k->(tk b j).2=0)->yK b k=0
 | 0,_=>rfl
 | k+1,h=>by
  rw [yK,uK (λj hj=>h j oQ),if_neg iQ];exact h k oQ
theorem JM {b:List UInt8} {k:Nat} (h: ∀ j,j<k->(tk b j).2=0) (hk:(tk b k).2≠0): ∀ m,k<m->yK b m=(tk b k).2
 | 0,hm=>absurd hm oQ
 | m+1,hm=>by
  rw [yK];by_cases e:k=m
  ·subst e;rw [uK h,if_neg iQ]
  rw [JM h hk m oQ,if_pos hk]
def BU (b:List UInt8) (k:Nat):Array Value:= #[.int .i64 (iL b k 0),.int .i64 (iL b k 1),.int .i64 (iL b k 2),.int .i64 (iL b k 3),.int .i64 (iL b k 4),.int .i64 (iL b k 5),.int .i64 (iL b k 6),.int .i64 (iL b k 7),.int .i64 (iL b k 8),.int .i64 (iL b k 9)]
theorem GA (b:List UInt8) (k:Nat) (hk:k<10):(BU b k).setIfInBounds k (.int .i64 (tk b k).1)=BU b (k+1):=by
 have h:k=0\/k=1\/k=2\/k=3\/k=4\/k=5\/k=6\/k=7\/k=8\/k=9:=oQ
 rcases h with rfl | rfl | rfl | rfl | rfl | rfl | rfl | rfl | rfl | rfl
 all_goals simp [BU,iL,tk]
theorem Dg (b:List UInt8) (k j:Nat) (hj:j<10):(BU b k)[j]? =some (.int .i64 (iL b k j)):=by
 have h:j=0\/j=1\/j=2\/j=3\/j=4\/j=5\/j=6\/j=7\/j=8\/j=9:=oQ
 rcases h with rfl | rfl | rfl | rfl | rfl | rfl | rfl | rfl | rfl | rfl<;>rfl
theorem Sz (R:Nat) (w:World):(Instr.index 243 (.agg #[.pointer (some ⟨R,0,none⟩),.pointer (some ⟨R,1,none⟩),.pointer (some ⟨R,2,none⟩),.pointer (some ⟨R,3,none⟩),.pointer (some ⟨R,4,none⟩),.pointer (some ⟨R,5,none⟩),.pointer (some ⟨R,6,none⟩),.pointer (some ⟨R,7,none⟩),.pointer (some ⟨R,8,none⟩),.pointer (some ⟨R,9,none⟩)]) (.int .i64 0)).run Tryz.prog w= .ok (.pointer (some ⟨R,0,none⟩)) w:=kQ
theorem SA (R:Nat) (w:World):(Instr.index 243 (.agg #[.pointer (some ⟨R,0,none⟩),.pointer (some ⟨R,1,none⟩),.pointer (some ⟨R,2,none⟩),.pointer (some ⟨R,3,none⟩),.pointer (some ⟨R,4,none⟩),.pointer (some ⟨R,5,none⟩),.pointer (some ⟨R,6,none⟩),.pointer (some ⟨R,7,none⟩),.pointer (some ⟨R,8,none⟩),.pointer (some ⟨R,9,none⟩)]) (.int .i64 1)).run Tryz.prog w= .ok (.pointer (some ⟨R,1,none⟩)) w:=kQ
theorem SB (R:Nat) (w:World):(Instr.index 243 (.agg #[.pointer (some ⟨R,0,none⟩),.pointer (some ⟨R,1,none⟩),.pointer (some ⟨R,2,none⟩),.pointer (some ⟨R,3,none⟩),.pointer (some ⟨R,4,none⟩),.pointer (some ⟨R,5,none⟩),.pointer (some ⟨R,6,none⟩),.pointer (some ⟨R,7,none⟩),.pointer (some ⟨R,8,none⟩),.pointer (some ⟨R,9,none⟩)]) (.int .i64 2)).run Tryz.prog w= .ok (.pointer (some ⟨R,2,none⟩)) w:=kQ
theorem SC (R:Nat) (w:World):(Instr.index 243 (.agg #[.pointer (some ⟨R,0,none⟩),.pointer (some ⟨R,1,none⟩),.pointer (some ⟨R,2,none⟩),.pointer (some ⟨R,3,none⟩),.pointer (some ⟨R,4,none⟩),.pointer (some ⟨R,5,none⟩),.pointer (some ⟨R,6,none⟩),.pointer (some ⟨R,7,none⟩),.pointer (some ⟨R,8,none⟩),.pointer (some ⟨R,9,none⟩)]) (.int .i64 3)).run Tryz.prog w= .ok (.pointer (some ⟨R,3,none⟩)) w:=kQ
theorem GD (R:Nat) (w:World):(Instr.index 243 (.agg #[.pointer (some ⟨R,0,none⟩),.pointer (some ⟨R,1,none⟩),.pointer (some ⟨R,2,none⟩),.pointer (some ⟨R,3,none⟩),.pointer (some ⟨R,4,none⟩),.pointer (some ⟨R,5,none⟩),.pointer (some ⟨R,6,none⟩),.pointer (some ⟨R,7,none⟩),.pointer (some ⟨R,8,none⟩),.pointer (some ⟨R,9,none⟩)]) (.int .i64 4)).run Tryz.prog w= .ok (.pointer (some ⟨R,4,none⟩)) w:=kQ
theorem SE (R:Nat) (w:World):(Instr.index 243 (.agg #[.pointer (some ⟨R,0,none⟩),.pointer (some ⟨R,1,none⟩),.pointer (some ⟨R,2,none⟩),.pointer (some ⟨R,3,none⟩),.pointer (some ⟨R,4,none⟩),.pointer (some ⟨R,5,none⟩),.pointer (some ⟨R,6,none⟩),.pointer (some ⟨R,7,none⟩),.pointer (some ⟨R,8,none⟩),.pointer (some ⟨R,9,none⟩)]) (.int .i64 5)).run Tryz.prog w= .ok (.pointer (some ⟨R,5,none⟩)) w:=kQ
theorem SF (R:Nat) (w:World):(Instr.index 243 (.agg #[.pointer (some ⟨R,0,none⟩),.pointer (some ⟨R,1,none⟩),.pointer (some ⟨R,2,none⟩),.pointer (some ⟨R,3,none⟩),.pointer (some ⟨R,4,none⟩),.pointer (some ⟨R,5,none⟩),.pointer (some ⟨R,6,none⟩),.pointer (some ⟨R,7,none⟩),.pointer (some ⟨R,8,none⟩),.pointer (some ⟨R,9,none⟩)]) (.int .i64 6)).run Tryz.prog w= .ok (.pointer (some ⟨R,6,none⟩)) w:=kQ
theorem SG (R:Nat) (w:World):(Instr.index 243 (.agg #[.pointer (some ⟨R,0,none⟩),.pointer (some ⟨R,1,none⟩),.pointer (some ⟨R,2,none⟩),.pointer (some ⟨R,3,none⟩),.pointer (some ⟨R,4,none⟩),.pointer (some ⟨R,5,none⟩),.pointer (some ⟨R,6,none⟩),.pointer (some ⟨R,7,none⟩),.pointer (some ⟨R,8,none⟩),.pointer (some ⟨R,9,none⟩)]) (.int .i64 7)).run Tryz.prog w= .ok (.pointer (some ⟨R,7,none⟩)) w:=kQ
theorem SH (R:Nat) (w:World):(Instr.index 243 (.agg #[.pointer (some ⟨R,0,none⟩),.pointer (some ⟨R,1,none⟩),.pointer (some ⟨R,2,none⟩),.pointer (some ⟨R,3,none⟩),.pointer (some ⟨R,4,none⟩),.pointer (some ⟨R,5,none⟩),.pointer (some ⟨R,6,none⟩),.pointer (some ⟨R,7,none⟩),.pointer (some ⟨R,8,none⟩),.pointer (some ⟨R,9,none⟩)]) (.int .i64 8)).run Tryz.prog w= .ok (.pointer (some ⟨R,8,none⟩)) w:=kQ
theorem SI (R:Nat) (w:World):(Instr.index 243 (.agg #[.pointer (some ⟨R,0,none⟩),.pointer (some ⟨R,1,none⟩),.pointer (some ⟨R,2,none⟩),.pointer (some ⟨R,3,none⟩),.pointer (some ⟨R,4,none⟩),.pointer (some ⟨R,5,none⟩),.pointer (some ⟨R,6,none⟩),.pointer (some ⟨R,7,none⟩),.pointer (some ⟨R,8,none⟩),.pointer (some ⟨R,9,none⟩)]) (.int .i64 9)).run Tryz.prog w= .ok (.pointer (some ⟨R,9,none⟩)) w:=kQ
theorem Wi (R:Nat) (k:Nat) (hk:k<10) (w:World):(Instr.index 243 (.agg #[.pointer (some ⟨R,0,none⟩),.pointer (some ⟨R,1,none⟩),.pointer (some ⟨R,2,none⟩),.pointer (some ⟨R,3,none⟩),.pointer (some ⟨R,4,none⟩),.pointer (some ⟨R,5,none⟩),.pointer (some ⟨R,6,none⟩),.pointer (some ⟨R,7,none⟩),.pointer (some ⟨R,8,none⟩),.pointer (some ⟨R,9,none⟩)]) (.int .i64 k)).run Tryz.prog w= .ok (.pointer (some ⟨R,k,none⟩)) w:=by
 have h:k=0\/k=1\/k=2\/k=3\/k=4\/k=5\/k=6\/k=7\/k=8\/k=9:=oQ
 rcases h with rfl | rfl | rfl | rfl | rfl | rfl | rfl | rfl | rfl | rfl
 ·exact Sz R w
 ·exact SA R w
 ·exact SB R w
 ·exact SC R w
 ·exact GD R w
 ·exact SE R w
 ·exact SF R w
 ·exact SG R w
 ·exact SH R w
 exact SI R w
theorem O7 (A:Option Addr) (n c:Nat) (b:List UInt8) (w:World) (h:Rd w w.heap.size 1 A n (byteCells b)) (hn:n<=c) (hcm:c<=maxLen):
  Calls Tryz.prog 107 #[.slice A n c] w (aiI w (sW b)):=by
 have hmf: ∀ (fn:Fn) (first cap:Array Value) (w:World),(Instr.makeFunc fn first cap).run Tryz.prog w= .ok (.func fn first cap) w:=λ_ _ _ _=>rfl;have hl:=h.nE;subst hl;have H:=Lib.hid h;have HIX:=Lib.hid (Wi w.heap.size);clear h;generalize hz:sW b=z;have HZ:=Lib.hid hz;clear hz
 go_enter_defers Tryz.func107,Tryz.ntmps107
 go_wp2_with fail
 go_loopw [0,26] (λv i wr=> ∃ k:Nat,k<=10/\i= .int .i64 k/\ ∃ A2 c2,v= .slice A2 (b.length-4*k) c2/\b.length-4*k<=c2/\c2<=maxLen/\4*k<=b.length/\Rd wr w.heap.size 1 A2 (b.length-4*k) (byteCells (b.drop (4*k)))/\(∀ j,j<k->(tk b j).2=0)/\(4<k->kW (tk b 0).1=true)/\fK wr w.heap.size (BU b k) 155/\fK wr (w.heap.size+1) #[.int .i64 0] 25/\Below w.heap.size w wr) (λ_ i _=>10-(intOf i).toNat)
 case atStart=>
  refine ⟨0,by omega,rfl,A,c,by simp,by simpa using hn,hcm,by omega,?_,λj hj=>absurd hj oQ,λh=>absurd h oQ,?_,fK.new1 w _ _ _,by go_grown⟩
  ·have:=((H.out.alloc (Nat.le_refl _) (.cells sV 155)).alloc iQ (.cells #[.int .i64 0] 25));simpa [sV] using this
  exact (fK.new w _ _).alloc _
 case round=>
  obtain ⟨k,hk,rfl,A2,c2,rfl,hc2,hcm2,h4k,hr,hall,hev,hR,hE,hB⟩:=hrel;have HR:=Lib.hid hr;have HA:=Lib.hid hall;have HV:=Lib.hid hev;have HB:=Lib.hid hB;have HBR:=Lib.hid hR;have HBE:=Lib.hid hE;have hz0:w.heap.size+1<wr.heap.size:=hE.lt;have r0:wr.cell? ⟨w.heap.size,0,none⟩=some (.int .i64 (iL b k 0)):=hR.cell (Dg b k 0 oQ);clear hr hall hev hB hR hE;by_cases hlt:k<10
  ·have hix:=HIX.out k hlt;by_cases h4:k=4
   ·subst h4;have aGv:=GD w.heap.size;have e04:iL b 4 0=(tk b 0).1:=if_pos oQ
    cases he:kW (iL b 4 0)
    ·have Hr:kZ b=4:=by unfold kZ;rw [if_neg (by rw [<-e04,he];simp)]
     clear e04;have hez:yK b (kZ b)=0:=by rw [Hr];exact uK HA.out
     have K3:=Lib.hid (λw=>jI (nM b 4) w);have HD:Hid (sW b=if b.length≠4*4\/aJ (nM b 4)≠0 then (pU,3) else (nM b 4,0)):=Lib.hid (by unfold sW;rw [hez,if_neg iQ,Hr]);clear hez Hr;have DR:=HBR.out;have DE:=HBE.out;by_cases hlen:b.length=4*4
     ·have e0:b.length-4*4=0:=oQ;rw [e0];clear e0;have HD2:Hid (z=if aJ (nM b 4)≠0 then (pU,3) else (nM b 4,0)):=Lib.hid (by
       rw [<-HZ.out,HD.out];by_cases hf:aJ (nM b 4)≠0
       ·rw [if_pos (.inr hf),if_pos hf]
       rw [if_neg (λh=>h.elim (λh=>h hlen) hf),if_neg hf])
      generalize aJ (nM b 4)=f at K3 HD2;unfold nM dH.val at K3;simp only at K3;unfold BU at DR;obtain ⟨y0,y1,y2,y3,y4,y5,y6,y7,y8,y9,yf⟩:=DR.kF;clear hlen HD
      go_wp2_with (go_at_call 109;refine (fI _ _).mono ?_;rintro e w' ⟨rfl,rfl⟩;first | rw [he] | skip)
      refine (K3.out _).mono ?_;rintro e w3 ⟨rfl,hb3⟩;have DR:=DR.on hb3;have DE:=DE.on hb3;have HB2:=Lib.hid (HB.out.trans (hb3.mono HB.out.size));have hz3:w.heap.size+1<w3.heap.size:=DE.lt;clear hb3 y0 y1 y2 y3 y4 y5 y6 y7 y8 y9 yf;by_cases hf:f=0
      ·have HF:=Lib.hid (HD2.out.trans (if_neg (by simpa using hf)));subst hf;clear HD2;obtain ⟨y0,y1,y2,y3,y4,y5,y6,y7,y8,y9,yf⟩:=DR.kF;have x0:=DE.cell (k:=0) rfl;have xf:=DE.free
       go_wp2_with (refine wpList_store_row rfl _ (.tmp 2) (.tmp 56) rfl w.heap.size rfl _ rfl _ _ DR DC rfl rfl ?_;intro w9 Jd BS;have DE9:=BS.blk DE oQ;have x0:=DE9.cell (k:=0) rfl;have xf:=DE9.free)
       obtain ⟨g0,g1,g2,g3,g4,g5,g6,g7,g8,g9,gf⟩:=(Jd.other ⟨w.heap.size+1,0,none⟩ iQ (.int .i64 0)).kF;have g10:=(DE9.vK 0 (.int .i64 0)).cell (k:=0) rfl;have HB9:=BS.next HB2.out (Nat.le_refl _);refine leaves_cons (f:=144) (args:= #[.pointer (some ⟨w.heap.size,0,none⟩),.pointer (some ⟨w.heap.size+1,0,none⟩)]) iQ (by simp [go_sem]) ?_;refine (Ko w.heap.size (w.heap.size+1) _).mono ?_;rintro e u' wf ⟨rfl,rfl,rfl⟩;simp [Leaves,settle,results,Tryz.results107,go_sem,g0,g1,g2,g3,g4,g5,g6,g7,g8,g9,g10];rw [HF.out];exact ⟨rfl,HB9.setCell iQ _⟩
      have HF:=Lib.hid (HD2.out.trans (if_pos hf));have u1:(f==0)=false:=by simpa using hf
      have u2:(f != 0)=true:=by simpa using hf
      clear hf HD2
      go_wp2_with fail
      refine leaves_cons (f:=144) (args:= #[.pointer (some ⟨w.heap.size,0,none⟩),.pointer (some ⟨w.heap.size+1,0,none⟩)]) iQ (by simp [go_sem]) ?_;refine (nL w.heap.size (w.heap.size+1) 3 0 _ _ oQ DR (by rfl) DE).mono ?_;rintro e u' w9 ⟨rfl,rfl,O8,Je,TV⟩;unfold sV at Je;obtain ⟨g0,g1,g2,g3,g4,g5,g6,g7,g8,g9,gf⟩:=Je.kF;have g10:w9.cell? ⟨w.heap.size+1,0,none⟩=some (.int .i64 3):=TV.cell rfl;simp [Leaves,settle,results,Tryz.results107,go_sem,g0,g1,g2,g3,g4,g5,g6,g7,g8,g9,g10];rw [HF.out];exact ⟨rfl,HB2.out.trans (O8 w.heap.size (Nat.le_refl _) oQ)⟩
     have hd1:0<b.length-4*4:=oQ;have hd2:(0:Int)< ((b.length-4*4:Nat):Int):=oQ;have HF:Hid (z=(pU,3)):=Lib.hid (by rw [<-HZ.out,HD.out,if_pos (.inl hlen)]);have HB2:=HB;clear hlen
     go_wp2_with (go_at_call 109;refine (fI _ _).mono ?_;rintro e w' ⟨rfl,rfl⟩;first | rw [he] | skip)
     refine leaves_cons (f:=144) (args:= #[.pointer (some ⟨w.heap.size,0,none⟩),.pointer (some ⟨w.heap.size+1,0,none⟩)]) iQ (by simp [go_sem]) ?_;refine (nL w.heap.size (w.heap.size+1) 3 0 _ _ oQ DR (by rfl) DE).mono ?_;rintro e u' w9 ⟨rfl,rfl,O8,Je,TV⟩;unfold sV at Je;obtain ⟨g0,g1,g2,g3,g4,g5,g6,g7,g8,g9,gf⟩:=Je.kF;have g10:w9.cell? ⟨w.heap.size+1,0,none⟩=some (.int .i64 3):=TV.cell rfl;simp [Leaves,settle,results,Tryz.results107,go_sem,g0,g1,g2,g3,g4,g5,g6,g7,g8,g9,g10];rw [HF.out];exact ⟨rfl,HB2.out.trans (O8 w.heap.size (Nat.le_refl _) oQ)⟩
    have E04:=Lib.hid e04;clear e04
    go_wp2_with (go_at_call 109;refine (fI _ _).mono ?_;rintro e w' ⟨rfl,rfl⟩;rw [he])
    have HV5:Hid (4<4+1->kW (tk b 0).1=true):=Lib.hid (λ_=>by rw [<-E04.out];exact he);have HM:Hid (4<kZ b):=Lib.hid (by unfold kZ;rw [if_pos (by rw [<-E04.out];exact he)];omega);clear he;refine (Kq A2 (b.length-4*4) c2 (b.drop (4*4)) _ HR.out hc2 hcm2).mono ?_;rintro e w2 ⟨⟨q,rfl⟩,hk2⟩
    rcases hk2 with ⟨hk0,A3,c3,rfl,hc3,ali,h43,hr3⟩ | ⟨hk0,rfl⟩
    ·have DR:=HBR.out.drewN q;have DE:=Lib.hid (HBE.out.drewN q);have HB2:=Lib.hid (IZ HB.out q);have HR3:=Lib.hid (hr3.drewN q);have HA2:Hid (∀ j,j<4+1->(tk b j).2=0):=Lib.hid (λj hj=>by
      by_cases e:j=4
      ·rw [e];exact hk0
      exact HA.out j oQ)
     have HS:=Lib.hid (GA b 4 hlt);have ck:=DR.cell (Dg b 4 4 hlt);have fk:=DR.free 4;have HDR:=Lib.hid DR;clear hk0 hr3 DR r0;simp only
     go_wp2_with fail
     go_roundw
     case rel=>
      refine ⟨4+1,by omega,by go_num,A3,c3,by rw [show b.length-4*4-4=b.length-4*(4+1) by omega],by omega,ali,by omega,?_,HA2.out,(by first | exact HV5.out | exact λ_=>trivial),?_,?_,?_⟩
      ·have:=HR3.out.setCell (p:=⟨w.heap.size,4,none⟩) (Nat.le_refl _) (.int .i64 (ou (b.drop (4*4))).1);rw [List.drop_drop,show 4*4+4=4*(4+1) by omega,show b.length-4*4-4=b.length-4*(4+1) by omega] at this;exact this
      ·exact (HDR.out.vK 4 _).cast HS.out
      ·exact DE.out.other _ iQ _
      exact HB2.out.setCell iQ _
     case measure=>first | (simp [intOf];done) | (simp [intOf];omega)
    have e1:=JM HA.out (show (tk b 4).2≠0 from hk0) (kZ b) HM.out;have e2:sW b=(pU,(tk b 4).2):=by
     unfold sW;rw [e1,if_pos (show (tk b 4).2≠0 from hk0)]
    have HF:=Lib.hid (HZ.out.symm.trans e2);have DR:=HBR.out.drewN q;have DE:=HBE.out.drewN q;have HB2:=Lib.hid (IZ HB.out q);clear e1 e2 hk0;simp only
    go_wp2_with fail
    refine leaves_cons (f:=144) (args:= #[.pointer (some ⟨w.heap.size,0,none⟩),.pointer (some ⟨w.heap.size+1,0,none⟩)]) iQ (by simp [go_sem]) ?_;refine (nL w.heap.size (w.heap.size+1) (tk b 4).2 0 _ _ oQ DR (by rfl) DE).mono ?_;rintro e u' w9 ⟨rfl,rfl,O8,Je,TV⟩;unfold sV at Je;obtain ⟨g0,g1,g2,g3,g4,g5,g6,g7,g8,g9,gf⟩:=Je.kF;have g10:w9.cell? ⟨w.heap.size+1,0,none⟩=some (.int .i64 (tk b 4).2):=TV.cell rfl;simp [Leaves,settle,results,Tryz.results107,go_sem,g0,g1,g2,g3,g4,g5,g6,g7,g8,g9,g10];rw [HF.out];exact ⟨rfl,HB2.out.trans (O8 w.heap.size (Nat.le_refl _) oQ)⟩
   have t1:((k:Int)==4)=false:=by rw [beq_eq_false_iff_ne];omega
   have t2:(k==4)=false:=by rw [beq_eq_false_iff_ne];omega
   have HV5:Hid (4<k+1->kW (tk b 0).1=true):=Lib.hid (λh=>HV.out oQ);have HM:Hid (k<kZ b):=Lib.hid (by
    unfold kZ;by_cases h5:4<k
    ·rw [if_pos (HV.out h5)];omega
    split<;>omega)
   clear h4
   go_wp2_with fail
   refine (Kq A2 (b.length-4*k) c2 (b.drop (4*k)) _ HR.out hc2 hcm2).mono ?_;rintro e w2 ⟨⟨q,rfl⟩,hk2⟩
   rcases hk2 with ⟨hk0,A3,c3,rfl,hc3,ali,h43,hr3⟩ | ⟨hk0,rfl⟩
   ·have DR:=HBR.out.drewN q;have DE:=Lib.hid (HBE.out.drewN q);have HB2:=Lib.hid (IZ HB.out q);have HR3:=Lib.hid (hr3.drewN q);have HA2:Hid (∀ j,j<k+1->(tk b j).2=0):=Lib.hid (λj hj=>by
     by_cases e:j=k
     ·rw [e];exact hk0
     exact HA.out j oQ)
    have HS:=Lib.hid (GA b k hlt);have ck:=DR.cell (Dg b k k hlt);have fk:=DR.free k;have HDR:=Lib.hid DR;clear hk0 hr3 DR r0;simp only
    go_wp2_with fail
    go_roundw
    case rel=>
     refine ⟨k+1,by omega,by go_num,A3,c3,by rw [show b.length-4*k-4=b.length-4*(k+1) by omega],by omega,ali,by omega,?_,HA2.out,(by first | exact HV5.out | exact λ_=>trivial),?_,?_,?_⟩
     ·have:=HR3.out.setCell (p:=⟨w.heap.size,k,none⟩) (Nat.le_refl _) (.int .i64 (ou (b.drop (4*k))).1);rw [List.drop_drop,show 4*k+4=4*(k+1) by omega,show b.length-4*k-4=b.length-4*(k+1) by omega] at this;exact this
     ·exact (HDR.out.vK k _).cast HS.out
     ·exact DE.out.other _ iQ _
     exact HB2.out.setCell iQ _
    case measure=>first | (simp [intOf];done) | (simp [intOf];omega)
   have e1:=JM HA.out (show (tk b k).2≠0 from hk0) (kZ b) HM.out;have e2:sW b=(pU,(tk b k).2):=by
    unfold sW;rw [e1,if_pos (show (tk b k).2≠0 from hk0)]
   have HF:=Lib.hid (HZ.out.symm.trans e2);have DR:=HBR.out.drewN q;have DE:=HBE.out.drewN q;have HB2:=Lib.hid (IZ HB.out q);clear e1 e2 hk0;simp only
   go_wp2_with fail
   refine leaves_cons (f:=144) (args:= #[.pointer (some ⟨w.heap.size,0,none⟩),.pointer (some ⟨w.heap.size+1,0,none⟩)]) iQ (by simp [go_sem]) ?_;refine (nL w.heap.size (w.heap.size+1) (tk b k).2 0 _ _ oQ DR (by rfl) DE).mono ?_;rintro e u' w9 ⟨rfl,rfl,O8,Je,TV⟩;unfold sV at Je;obtain ⟨g0,g1,g2,g3,g4,g5,g6,g7,g8,g9,gf⟩:=Je.kF;have g10:w9.cell? ⟨w.heap.size+1,0,none⟩=some (.int .i64 (tk b k).2):=TV.cell rfl;simp [Leaves,settle,results,Tryz.results107,go_sem,g0,g1,g2,g3,g4,g5,g6,g7,g8,g9,g10];rw [HF.out];exact ⟨rfl,HB2.out.trans (O8 w.heap.size (Nat.le_refl _) oQ)⟩
  obtain rfl:k=10:=oQ;have Hr:kZ b=10:=by unfold kZ;rw [if_pos (HV.out oQ)]
  clear hlt hk;have hez:yK b (kZ b)=0:=by rw [Hr];exact uK HA.out
  have K3:=Lib.hid (λw=>jI (nM b 10) w);have HD:Hid (sW b=if b.length≠4*10\/aJ (nM b 10)≠0 then (pU,3) else (nM b 10,0)):=Lib.hid (by unfold sW;rw [hez,if_neg iQ,Hr]);clear hez Hr;have DR:=HBR.out;have DE:=HBE.out;by_cases hlen:b.length=4*10
  ·have e0:b.length-4*10=0:=oQ;rw [e0];clear e0;have HD2:Hid (z=if aJ (nM b 10)≠0 then (pU,3) else (nM b 10,0)):=Lib.hid (by
    rw [<-HZ.out,HD.out];by_cases hf:aJ (nM b 10)≠0
    ·rw [if_pos (.inr hf),if_pos hf]
    rw [if_neg (λh=>h.elim (λh=>h hlen) hf),if_neg hf])
   generalize aJ (nM b 10)=f at K3 HD2;unfold nM dH.val at K3;simp only at K3;unfold BU at DR;obtain ⟨y0,y1,y2,y3,y4,y5,y6,y7,y8,y9,yf⟩:=DR.kF;clear hlen HD
   go_wp2_with (go_at_call 109;refine (fI _ _).mono ?_;rintro e w' ⟨rfl,rfl⟩;first | rw [he] | skip)
   refine (K3.out _).mono ?_;rintro e w3 ⟨rfl,hb3⟩;have DR:=DR.on hb3;have DE:=DE.on hb3;have HB2:=Lib.hid (HB.out.trans (hb3.mono HB.out.size));have hz3:w.heap.size+1<w3.heap.size:=DE.lt;clear hb3 y0 y1 y2 y3 y4 y5 y6 y7 y8 y9 yf;by_cases hf:f=0
   ·have HF:=Lib.hid (HD2.out.trans (if_neg (by simpa using hf)));subst hf;clear HD2;obtain ⟨y0,y1,y2,y3,y4,y5,y6,y7,y8,y9,yf⟩:=DR.kF;have x0:=DE.cell (k:=0) rfl;have xf:=DE.free
    go_wp2_with (refine wpList_store_row rfl _ (.tmp 2) (.tmp 56) rfl w.heap.size rfl _ rfl _ _ DR DC rfl rfl ?_;intro w9 Jd BS;have DE9:=BS.blk DE oQ;have x0:=DE9.cell (k:=0) rfl;have xf:=DE9.free)
    obtain ⟨g0,g1,g2,g3,g4,g5,g6,g7,g8,g9,gf⟩:=(Jd.other ⟨w.heap.size+1,0,none⟩ iQ (.int .i64 0)).kF;have g10:=(DE9.vK 0 (.int .i64 0)).cell (k:=0) rfl;have HB9:=BS.next HB2.out (Nat.le_refl _);refine leaves_cons (f:=144) (args:= #[.pointer (some ⟨w.heap.size,0,none⟩),.pointer (some ⟨w.heap.size+1,0,none⟩)]) iQ (by simp [go_sem]) ?_;refine (Ko w.heap.size (w.heap.size+1) _).mono ?_;rintro e u' wf ⟨rfl,rfl,rfl⟩;simp [Leaves,settle,results,Tryz.results107,go_sem,g0,g1,g2,g3,g4,g5,g6,g7,g8,g9,g10];rw [HF.out];exact ⟨rfl,HB9.setCell iQ _⟩
   have HF:=Lib.hid (HD2.out.trans (if_pos hf));have u1:(f==0)=false:=by simpa using hf
   have u2:(f != 0)=true:=by simpa using hf
   clear hf HD2
   go_wp2_with fail
   refine leaves_cons (f:=144) (args:= #[.pointer (some ⟨w.heap.size,0,none⟩),.pointer (some ⟨w.heap.size+1,0,none⟩)]) iQ (by simp [go_sem]) ?_;refine (nL w.heap.size (w.heap.size+1) 3 0 _ _ oQ DR (by rfl) DE).mono ?_;rintro e u' w9 ⟨rfl,rfl,O8,Je,TV⟩;unfold sV at Je;obtain ⟨g0,g1,g2,g3,g4,g5,g6,g7,g8,g9,gf⟩:=Je.kF;have g10:w9.cell? ⟨w.heap.size+1,0,none⟩=some (.int .i64 3):=TV.cell rfl;simp [Leaves,settle,results,Tryz.results107,go_sem,g0,g1,g2,g3,g4,g5,g6,g7,g8,g9,g10];rw [HF.out];exact ⟨rfl,HB2.out.trans (O8 w.heap.size (Nat.le_refl _) oQ)⟩
  have hd1:0<b.length-4*10:=oQ;have hd2:(0:Int)< ((b.length-4*10:Nat):Int):=oQ;have HF:Hid (z=(pU,3)):=Lib.hid (by rw [<-HZ.out,HD.out,if_pos (.inl hlen)]);have HB2:=HB;clear hlen
  go_wp2_with (go_at_call 109;refine (fI _ _).mono ?_;rintro e w' ⟨rfl,rfl⟩;first | rw [he] | skip)
  refine leaves_cons (f:=144) (args:= #[.pointer (some ⟨w.heap.size,0,none⟩),.pointer (some ⟨w.heap.size+1,0,none⟩)]) iQ (by simp [go_sem]) ?_;refine (nL w.heap.size (w.heap.size+1) 3 0 _ _ oQ DR (by rfl) DE).mono ?_;rintro e u' w9 ⟨rfl,rfl,O8,Je,TV⟩;unfold sV at Je;obtain ⟨g0,g1,g2,g3,g4,g5,g6,g7,g8,g9,gf⟩:=Je.kF;have g10:w9.cell? ⟨w.heap.size+1,0,none⟩=some (.int .i64 3):=TV.cell rfl;simp [Leaves,settle,results,Tryz.results107,go_sem,g0,g1,g2,g3,g4,g5,g6,g7,g8,g9,g10];rw [HF.out];exact ⟨rfl,HB2.out.trans (O8 w.heap.size (Nat.le_refl _) oQ)⟩
end Go.Proofs.YtcomidffhiilcaaGreatDoor
