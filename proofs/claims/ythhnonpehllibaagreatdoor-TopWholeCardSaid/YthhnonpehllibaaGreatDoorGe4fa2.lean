import Derived.Deep.RegionHeld3
import Derived.Test.YthhnonpehllibaaGreatDoorG25c21
set_option maxRecDepth 100000
set_option maxHeartbeats 8000000
set_option linter.unusedSimpArgs false
set_option linter.unusedVariables false
namespace Go.Proofs.YthhnonpehllibaaGreatDoor
section
open ChangeShapes WideShapes RowKit
def asS:List Sh:=[.at_ (.int .i64),.at_ .bool,.at_ .bool,.at_ .bool,.at_ .bool,.at_ .bool,.at_ .bool,.at_ .bool,.at_ .bool]
theorem kG.kd (a:kG):dL Kd a.cells asS:=⟨⟨_,rfl⟩,⟨_,rfl⟩,⟨_,rfl⟩,⟨_,rfl⟩,⟨_,rfl⟩,⟨_,rfl⟩,⟨_,rfl⟩,⟨_,rfl⟩,⟨_,rfl⟩,trivial⟩
def pX (x:kG) (id:Int):Bool×Int:=
 if dG x≠0 then (false,dG x)
 else if id<0\/1073741824<id then (false,2)
 else if x.top<=id then (false,0)
 else if id<x.top-8 then (false,9)
 else (x.at (id-(x.top-8)).toNat,0)
def adK (w:World) (r:Bool×Int) (e:Ending) (w':World):Prop:=e= .returned (.tuple #[.bool r.1,.int .i64 r.2])/\Below w.heap.size w w'
theorem rQ {x:kG} (h:dG x=0):0<=x.top/\x.top<=1073741825:=by
 unfold dG at h
 split at h
 ·rename_i hh
  simp only [Bool.and_eq_true,decide_eq_true_eq] at hh;exact ⟨hh.1.1.1,hh.1.1.2⟩
 cases h
theorem YU (x:kG): ∀ k,k<8->(x.cells)[k+1]? =some (.bool (x.at k)):=by
 intro k hk;have h:k=0\/k=1\/k=2\/k=3\/k=4\/k=5\/k=6\/k=7:=by omega
 rcases h with rfl | rfl | rfl | rfl | rfl | rfl | rfl | rfl<;>rfl
theorem SH (x:kG) (id:Int) (w:World):Calls Tryz.prog 129 #[x.val,.int .i64 id] w (adK w (pX x id)):=by
 have HC:=Lib.hid (EF x);have HL:=Lib.hid (yK x);have HX:=Lib.hid (YU x);have HT:=Lib.hid (rQ (x:=x));have HZ0:Hid (∀ r,r=pX x id->r=if dG x≠0 then (false,dG x)
  else if id<0\/1073741824<id then (false,2)
  else if x.top<=id then (false,0)
  else if id<x.top-8 then (false,9)
  else (x.at (id-(x.top-8)).toNat,0)):=Lib.hid (λr h=>h)
 generalize hr:pX x id=r;have HZ:=Lib.hid (HZ0.out r hr.symm);clear hr HZ0;generalize dG x=z at HC HT HZ;have hat:=Lib.hid (rfl:x.at=x.at);generalize x.at=f at HX HZ hat;clear hat;obtain ⟨t,b0,b1,b2,b3,b4,b5,b6,b7⟩:=x;unfold kG.val at*;unfold kG.cells at HX;simp only at HT HX HZ HL
 go_enter Tryz.func129,Tryz.ntmps129
 go_wp2_with fail
 refine (HC.out _).mono ?_;rintro e w1 ⟨rfl,hb1⟩;have c0:=hb1.cell (p:=⟨w.heap.size,0,none⟩) (by simp);have c1:=hb1.cell (p:=⟨w.heap.size,1,none⟩) (by simp);have c2:=hb1.cell (p:=⟨w.heap.size,2,none⟩) (by simp);have c3:=hb1.cell (p:=⟨w.heap.size,3,none⟩) (by simp);have c4:=hb1.cell (p:=⟨w.heap.size,4,none⟩) (by simp);have c5:=hb1.cell (p:=⟨w.heap.size,5,none⟩) (by simp);have c6:=hb1.cell (p:=⟨w.heap.size,6,none⟩) (by simp);have c7:=hb1.cell (p:=⟨w.heap.size,7,none⟩) (by simp);have c8:=hb1.cell (p:=⟨w.heap.size,8,none⟩) (by simp);simp only [World.cell?_alloc_mark] at c0 c1 c2 c3 c4 c5 c6 c7 c8;have hsz:w.heap.size+1<=w1.heap.size:=by have:=hb1.size;simpa using this
 have HK:Hid (∀ k,k<8->w1.cell? ⟨w.heap.size,1+k,none⟩=some (.bool (f k))):=by
  intro k hk;have ck:=hb1.cell (p:=⟨w.heap.size,1+k,none⟩) (by simp);rw [World.cell?_alloc_mark] at ck;rw [ck,Nat.add_comm 1 k];simpa using HX.out k hk
 have HB:Hid (Below w.heap.size w w1):=Lib.hid (((Below.refl _ w).alloc (Nat.le_refl _) _).trans (hb1.mono (by simp)));clear hb1 HX HC;by_cases hz:z=0
 ·obtain ⟨h0,h1⟩:=HT.out hz;subst hz;have HZ:=Lib.hid (HZ.out.trans (if_neg (by simp)));clear HT;by_cases i0:id<0
  ·have e:=HZ.out;rw [if_pos (by omega)] at e;subst e
   go_wp2_with fail
   go_ret2
   exact ⟨rfl,HB.out⟩
  by_cases i1:1073741824<id
  ·have e:=HZ.out;rw [if_pos (by omega)] at e;subst e
   go_wp2_with fail
   go_ret2
   exact ⟨rfl,HB.out⟩
  have HZ:=Lib.hid (HZ.out.trans (if_neg (by omega)));by_cases i2:t<=id
  ·have e:=HZ.out;rw [if_pos (by omega)] at e;subst e
   go_wp2_with fail
   go_ret2
   exact ⟨rfl,HB.out⟩
  have HZ:=Lib.hid (HZ.out.trans (if_neg (by omega)));by_cases i3:id<t-8
  ·have e:=HZ.out;rw [if_pos (by omega)] at e;subst e
   go_wp2_with fail
   refine (HL.out _ h0 h1).mono ?_;rintro e w2 ⟨rfl,hb2⟩;have HB2:=Lib.hid hb2;clear hb2
   go_wp2_with fail
   go_ret2
   exact ⟨rfl,HB.out.trans (HB2.out.mono (by omega))⟩
  have e:=HZ.out;rw [if_neg (by omega)] at e;subst e;obtain ⟨k,hk⟩:=Int.eq_ofNat_of_zero_le (show 0<=id-(t-8) by omega);have hk8:k<8:=by omega
  rw [hk,Int.toNat_natCast];have HKK:=Lib.hid hk;have ck:=HK.out k hk8
  go_wp2_with fail
  refine (HL.out _ h0 h1).mono ?_;rintro e w2 ⟨rfl,hb2⟩;have d0:=hb2.cell (p:=⟨w.heap.size,0,none⟩) (by simp;omega);have d1:=hb2.cell (p:=⟨w.heap.size,1,none⟩) (by simp;omega);have d2:=hb2.cell (p:=⟨w.heap.size,2,none⟩) (by simp;omega);have d3:=hb2.cell (p:=⟨w.heap.size,3,none⟩) (by simp;omega);have d4:=hb2.cell (p:=⟨w.heap.size,4,none⟩) (by simp;omega);have d5:=hb2.cell (p:=⟨w.heap.size,5,none⟩) (by simp;omega);have d6:=hb2.cell (p:=⟨w.heap.size,6,none⟩) (by simp;omega);have d7:=hb2.cell (p:=⟨w.heap.size,7,none⟩) (by simp;omega);have d8:=hb2.cell (p:=⟨w.heap.size,8,none⟩) (by simp;omega);have dk:=hb2.cell (p:=⟨w.heap.size,1+k,none⟩) (by simp;omega);rw [c0] at d0;rw [c1] at d1;rw [c2] at d2;rw [c3] at d3;rw [c4] at d4;rw [c5] at d5;rw [c6] at d6;rw [c7] at d7;rw [c8] at d8;rw [ck] at dk;have HB2:=Lib.hid hb2;clear hb2
  go_wp2_with fail
  refine (HL.out _ h0 h1).mono ?_;rintro e w3 ⟨rfl,hb3⟩;have HB3:=Lib.hid hb3;have g0:=hb3.cell (p:=⟨w.heap.size,1+k,none⟩) (by simp;have:=HB2.out.size;omega);rw [dk] at g0;clear hb3
  go_wp2_with fail
  go_ret2
  exact ⟨by show Ending.returned (.tuple #[.bool (f k),.int .i64 0])=_;rw [HKK.out,Int.toNat_natCast],(HB.out.trans (HB2.out.mono (by omega))).trans (HB3.out.mono (by have:=HB2.out.size;omega))⟩
 have e:=HZ.out;rw [if_pos hz] at e;subst e
 go_wp2_with fail
 go_ret2
 exact ⟨rfl,HB.out⟩
theorem ahd {t:Int} {f:Nat->Bool} {k:Nat} {y:Int}:y∈jo t f k↔ ∃ i,i<k/\f i=true/\y=t-8+i:=by
 induction k with
 | zero=>simp [jo]
 | succ k ih=>
  unfold jo
  split
  ·rename_i hf
   rw [List.mem_append,ih,List.mem_singleton]
   constructor
   ·rintro (⟨i,h1,h2,h3⟩ | h)
    ·exact ⟨i,by omega,h2,h3⟩
    exact ⟨k,by omega,hf,h⟩
   rintro ⟨i,h1,h2,h3⟩;by_cases hik:i=k
   ·subst hik;exact .inr h3
   exact .inl ⟨i,by omega,h2,h3⟩
  rename_i hf
  rw [ih]
  constructor
  ·rintro ⟨i,h1,h2,h3⟩;exact ⟨i,by omega,h2,h3⟩
  rintro ⟨i,h1,h2,h3⟩;have:i≠k:=by rintro rfl;exact hf h2
  exact ⟨i,by omega,h2,h3⟩
end
section
theorem Rb (t:Int) (i:Nat) (hi:i<8): ∀ (l:List Int) (bs:List Bool),bs.length=8->
  (l.foldl (λbs x=>oz bs (x-t+8)) bs).getD i false=(bs.getD i false || decide (t-8+i∈l))
 | [],bs,_=>by simp
 | x::l,bs,h=>by
  rw [List.foldl_cons,Rb t i hi l _ (by rw [Ka];exact h)];have key:(oz bs (x-t+8)).getD i false=(bs.getD i false || decide (t-8+(i:Int)=x)):=by
   unfold oz
   split
   ·rename_i h0
    rw [adI,h];by_cases e:t-8+(i:Int)=x
    ·rw [if_pos (by omega)];simp [e]
    rw [if_neg (by omega)];simp [e]
   rename_i h0
   have e: ¬ t-8+(i:Int)=x:=by omega
   simp [e]
  rw [key,Bool.or_assoc]
  congr 1
  rw [Bool.eq_iff_iff];simp
theorem Wi (t:Int) (l:List Int) (i:Nat) (hi:i<8):(kR t l).getD i false=decide (t-8+i∈l):=by
 unfold kR;rw [Rb t i hi l _ rfl];have:([false,false,false,false,false,false,false,false]:List Bool).getD i false=false:=by
  match i with
  | 0 | 1 | 2 | 3 | 4 | 5 | 6 | 7=>rfl
  | n+8=>rfl
 rw [this,Bool.false_or]
def BQ (x:kG) (id:Int):kG:=abL (max x.top (id+1)) (kR (max x.top (id+1)) (jo x.top x.at 8++[id]))
theorem Pn {x:kG} (h:dG x=0):(x.top=0/\jo x.top x.at 8=[])\/(0<x.top/\jo x.top x.at 8≠[]/\(jo x.top x.at 8).getLastD 0=x.top-1):=by
 have h0:=rQ h;unfold dG at h
 split at h
 ·rename_i hh
  simp only [Bool.and_eq_true,decide_eq_true_eq,Bool.or_eq_true,Bool.not_eq_true',decide_eq_false_iff_not] at hh;obtain ⟨⟨_,hw⟩,h7⟩:=hh;by_cases ht:0<x.top
  ·right
   have hb:x.at 7=true:=by
    rcases h7 with h | h
    ·exact absurd ht h
    exact h
   have e:jo x.top x.at 8=jo x.top x.at 7++[x.top-1]:=by
    show (if x.at 7=true then _ else _)=_
    rw [hb,if_pos rfl,show x.top-8+((7:Nat):Int)=x.top-1 by omega]
   exact ⟨ht,by rw [e];simp,by rw [e];simp⟩
  left
  have ht0:x.top=0:=by omega
  refine ⟨ht0,List.eq_nil_iff_forall_not_mem.2 λy hy=>?_⟩;obtain ⟨i,h1,h2,h3⟩:=ahd.1 hy;have:=qO.1 hw i h1 h2;omega
 cases h
end
section
open ChangeShapes WideShapes RowKit
def Aa:kG:=⟨0,false,false,false,false,false,false,false,false⟩
def iT (x:kG) (id:Int):kG×Bool×Int:=
 if (pX x id).2≠0 then (Aa,false,(pX x id).2) else if (pX x id).1=true then (x,false,0) else (BQ x id,true,0)
def YV (w:World) (r:kG×Bool×Int) (e:Ending) (w':World):Prop:=e= .returned (.tuple #[r.1.val,.bool r.2.1,.int .i64 r.2.2])/\Below w.heap.size w w'
theorem FP {x:kG} {id:Int} (h:(pX x id).2=0):dG x=0/\0<=id/\id<=1073741824:=by
 unfold pX at h;by_cases h1:dG x=0
 ·by_cases h2:id<0\/1073741824<id
  ·simp [h1,h2] at h
  exact ⟨h1,by omega,by omega⟩
 simp [h1] at h
end
end Go.Proofs.YthhnonpehllibaaGreatDoor
