import Derived.Deep.RegionHeld3
import Derived.Test.YtnhimdkpkmbhlaaGreatDoorG9daf5
set_option maxRecDepth 100000
set_option maxHeartbeats 8000000
set_option linter.unusedSimpArgs false
set_option linter.unusedVariables false
namespace Go.Proofs.YtnhimdkpkmbhlaaGreatDoor
section
open ChangeShapes WideShapes RowKit
def ara:List Sh:=[.at_ (.int .i64),.at_ .bool,.at_ .bool,.at_ .bool,.at_ .bool,.at_ .bool,.at_ .bool,.at_ .bool,.at_ .bool]
theorem kV.kd (a:kV):eu Kd a.cells ara:=⟨⟨_,rfl⟩,⟨_,rfl⟩,⟨_,rfl⟩,⟨_,rfl⟩,⟨_,rfl⟩,⟨_,rfl⟩,⟨_,rfl⟩,⟨_,rfl⟩,⟨_,rfl⟩,trivial⟩
def sF (x:kV) (id:Int):Bool×Int:=
 if fE x≠0 then (false,fE x)
 else if id<0\/1073741824<id then (false,2)
 else if x.top<=id then (false,0)
 else if id<x.top-8 then (false,9)
 else (x.at (id-(x.top-8)).toNat,0)
def ab7 (w:World) (r:Bool×Int) (e:Ending) (w':World):Prop:=e= .returned (.tuple #[.bool r.1,.int .i64 r.2])/\Below w.heap.size w w'
theorem Bp {x:kV} (h:fE x=0):0<=x.top/\x.top<=1073741825:=by
 unfold fE at h
 split at h
 ·rename_i hh
  simp only [Bool.and_eq_true,decide_eq_true_eq] at hh;exact ⟨hh.1.1.1,hh.1.1.2⟩
 cases h
theorem Xr (x:kV): ∀ k,k<8->(x.cells)[k+1]? =some (.bool (x.at k)):=by
 intro k hk;have h:k=0\/k=1\/k=2\/k=3\/k=4\/k=5\/k=6\/k=7:=by omega
 rcases h with rfl | rfl | rfl | rfl | rfl | rfl | rfl | rfl<;>rfl
theorem QA (x:kV) (id:Int) (w:World):Calls Tryz.prog 64 #[x.val,.int .i64 id] w (ab7 w (sF x id)):=by
 have HC:=Lib.hid (Dt x);have HL:=Lib.hid (xQ x);have HX:=Lib.hid (Xr x);have HT:=Lib.hid (Bp (x:=x));have HZ0:Hid (∀ r,r=sF x id->r=if fE x≠0 then (false,fE x)
  else if id<0\/1073741824<id then (false,2)
  else if x.top<=id then (false,0)
  else if id<x.top-8 then (false,9)
  else (x.at (id-(x.top-8)).toNat,0)):=Lib.hid (λr h=>h)
 generalize hr:sF x id=r;have HZ:=Lib.hid (HZ0.out r hr.symm);clear hr HZ0;generalize fE x=z at HC HT HZ;have hat:=Lib.hid (rfl:x.at=x.at);generalize x.at=f at HX HZ hat;clear hat;obtain ⟨t,b0,b1,b2,b3,b4,b5,b6,b7⟩:=x;unfold kV.val at*;unfold kV.cells at HX;simp only at HT HX HZ HL
 go_enter Tryz.func64,Tryz.ntmps64
 go_wp2_with fail
 refine (HC.out _).mono ?_;rintro e w1 ⟨rfl,hb1⟩;have c0:=hb1.cell (p:=⟨w.heap.size,0,none⟩) (by simp);have c1:=hb1.cell (p:=⟨w.heap.size,1,none⟩) (by simp);have c2:=hb1.cell (p:=⟨w.heap.size,2,none⟩) (by simp);have c3:=hb1.cell (p:=⟨w.heap.size,3,none⟩) (by simp);have c4:=hb1.cell (p:=⟨w.heap.size,4,none⟩) (by simp);have c5:=hb1.cell (p:=⟨w.heap.size,5,none⟩) (by simp);have c6:=hb1.cell (p:=⟨w.heap.size,6,none⟩) (by simp);have c7:=hb1.cell (p:=⟨w.heap.size,7,none⟩) (by simp);have c8:=hb1.cell (p:=⟨w.heap.size,8,none⟩) (by simp);simp only [World.cell?_alloc_mark] at c0 c1 c2 c3 c4 c5 c6 c7 c8;have hsz:w.heap.size+1<=w1.heap.size:=by have:=hb1.size;simpa using this
 have HK:Hid (∀ k,k<8->w1.cell? ⟨w.heap.size,1+k,none⟩=some (.bool (f k))):=by
  intro k hk;have ck:=hb1.cell (p:=⟨w.heap.size,1+k,none⟩) (by simp);rw [World.cell?_alloc_mark] at ck;rw [ck,Nat.add_comm 1 k];simpa using HX.out k hk
 have HB:Hid (Below w.heap.size w w1):=Lib.hid (((Below.refl _ w).alloc (Nat.le_refl _) _).trans (hb1.mono (by simp)));clear hb1 HX HC;by_cases hz:z=0
 ·obtain ⟨h0,h1⟩:=HT.out hz;subst hz;have HZ:=Lib.hid (HZ.out.trans (if_neg (by simp)));clear HT;by_cases i0:id<0
  ·have e:=HZ.out;rw [if_pos (by omega)] at e;subst e
   go_wp2_with fail
   go_ret2
   exact ⟨rfl,HB.out⟩
  by_cases i1:1073741824<id
  ·have e:=HZ.out;rw [if_pos (by omega)] at e;subst e
   go_wp2_with fail
   go_ret2
   exact ⟨rfl,HB.out⟩
  have HZ:=Lib.hid (HZ.out.trans (if_neg (by omega)));by_cases i2:t<=id
  ·have e:=HZ.out;rw [if_pos (by omega)] at e;subst e
   go_wp2_with fail
   go_ret2
   exact ⟨rfl,HB.out⟩
  have HZ:=Lib.hid (HZ.out.trans (if_neg (by omega)));by_cases i3:id<t-8
  ·have e:=HZ.out;rw [if_pos (by omega)] at e;subst e
   go_wp2_with fail
   refine (HL.out _ h0 h1).mono ?_;rintro e w2 ⟨rfl,hb2⟩;have HB2:=Lib.hid hb2;clear hb2
   go_wp2_with fail
   go_ret2
   exact ⟨rfl,HB.out.trans (HB2.out.mono (by omega))⟩
  have e:=HZ.out;rw [if_neg (by omega)] at e;subst e;obtain ⟨k,hk⟩:=Int.eq_ofNat_of_zero_le (show 0<=id-(t-8) by omega);have hk8:k<8:=by omega
  rw [hk,Int.toNat_natCast];have HKK:=Lib.hid hk;have ck:=HK.out k hk8
  go_wp2_with fail
  refine (HL.out _ h0 h1).mono ?_;rintro e w2 ⟨rfl,hb2⟩;have d0:=hb2.cell (p:=⟨w.heap.size,0,none⟩) (by simp;omega);have d1:=hb2.cell (p:=⟨w.heap.size,1,none⟩) (by simp;omega);have d2:=hb2.cell (p:=⟨w.heap.size,2,none⟩) (by simp;omega);have d3:=hb2.cell (p:=⟨w.heap.size,3,none⟩) (by simp;omega);have d4:=hb2.cell (p:=⟨w.heap.size,4,none⟩) (by simp;omega);have d5:=hb2.cell (p:=⟨w.heap.size,5,none⟩) (by simp;omega);have d6:=hb2.cell (p:=⟨w.heap.size,6,none⟩) (by simp;omega);have d7:=hb2.cell (p:=⟨w.heap.size,7,none⟩) (by simp;omega);have d8:=hb2.cell (p:=⟨w.heap.size,8,none⟩) (by simp;omega);have dk:=hb2.cell (p:=⟨w.heap.size,1+k,none⟩) (by simp;omega);rw [c0] at d0;rw [c1] at d1;rw [c2] at d2;rw [c3] at d3;rw [c4] at d4;rw [c5] at d5;rw [c6] at d6;rw [c7] at d7;rw [c8] at d8;rw [ck] at dk;have HB2:=Lib.hid hb2;clear hb2
  go_wp2_with fail
  refine (HL.out _ h0 h1).mono ?_;rintro e w3 ⟨rfl,hb3⟩;have HB3:=Lib.hid hb3;have g0:=hb3.cell (p:=⟨w.heap.size,1+k,none⟩) (by simp;have:=HB2.out.size;omega);rw [dk] at g0;clear hb3
  go_wp2_with fail
  go_ret2
  exact ⟨by show Ending.returned (.tuple #[.bool (f k),.int .i64 0])=_;rw [HKK.out,Int.toNat_natCast],(HB.out.trans (HB2.out.mono (by omega))).trans (HB3.out.mono (by have:=HB2.out.size;omega))⟩
 have e:=HZ.out;rw [if_pos hz] at e;subst e
 go_wp2_with fail
 go_ret2
 exact ⟨rfl,HB.out⟩
end
section
def Xt (x:kV) (id:Int):kV:=ahT (max x.top (id+1)) (l9 (max x.top (id+1)) (oz x.top x.at 8++[id]))
end
section
open ChangeShapes WideShapes RowKit
def ze:kV:=⟨0,false,false,false,false,false,false,false,false⟩
def jG (x:kV) (id:Int):kV×Bool×Int:=
 if (sF x id).2≠0 then (ze,false,(sF x id).2) else if (sF x id).1=true then (x,false,0) else (Xt x id,true,0)
def Xu (w:World) (r:kV×Bool×Int) (e:Ending) (w':World):Prop:=e= .returned (.tuple #[r.1.val,.bool r.2.1,.int .i64 r.2.2])/\Below w.heap.size w w'
theorem Lb {x:kV} {id:Int} (h:(sF x id).2=0):fE x=0/\0<=id/\id<=1073741824:=by
 unfold sF at h;by_cases h1:fE x=0
 ·by_cases h2:id<0\/1073741824<id
  ·simp [h1,h2] at h
  exact ⟨h1,by omega,by omega⟩
 simp [h1] at h
end
end Go.Proofs.YtnhimdkpkmbhlaaGreatDoor
