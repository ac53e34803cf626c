import Derived.RegionTactic
import Derived.Test.YtbffmhpkenoogaaGreatDoorG4a4c6
set_option maxRecDepth 100000
set_option maxHeartbeats 8000000
namespace Go.Proofs.YtbffmhpkenoogaaGreatDoor
open ChangeShapes WideShapes RowKit
theorem dS (n lo hi:Int) (w:World):
  Calls Tryz.prog 86 #[.int .i64 n,.int .i64 lo,.int .i64 hi] w λe w'=>e= .returned (.bool (jN n lo hi))/\w=w':=by
 by_cases h1:lo<=n<;>by_cases h2:n<=hi
 all_goals
  go_enter Tryz.func86,Tryz.ntmps86
  go_wp2
  go_ret
  exact ⟨by simp [jN];omega,rfl⟩
def aZ (e:Ev):Int:=
 if ¬ (1<=e.kind/\e.kind<=4) then 3
 else if e.kind=1/\ ¬ (jN e.producer 0 3&&jN e.id 0 1073741824&&jN e.body 0 1000000)=true then 2
 else if e.kind=3/\ ¬ (jN e.aN 0 1048576&&jN e.hno 0 1073741824)=true then 2
 else if e.kind≠1/\ ¬ (e.producer=0/\e.id=0/\e.body=0) then 3
 else if e.kind≠3/\ ¬ (e.aN=0/\e.hno=0) then 3
 else 0
def lQ (w:World) (k:Int) (e:Ending) (w':World):Prop:=e= .returned (.int .i64 k)/\Below w.heap.size w w'
theorem Ey (p i b he hn:Int) (w:World) (hb:(jN p 0 3&&jN i 0 1073741824&&jN b 0 1000000)=false):
  Calls Tryz.prog 53 #[Ev.val ⟨1,p,i,b,he,hn⟩] w (lQ w 2):=by
 unfold Ev.val
 cases r1:jN p 0 3<;>cases r2:jN i 0 1073741824<;>cases r3:jN b 0 1000000<;>simp [r1,r2,r3] at hb
 all_goals
  go_enter Tryz.func53,Tryz.ntmps53
  go_wp2_with (go_at_call 86;refine (dS _ _ _ _).mono ?_;rintro e w' ⟨rfl,rfl⟩)
  go_region
  go_wp2_with (go_at_call 86;refine (dS _ _ _ _).mono ?_;rintro e w' ⟨rfl,rfl⟩)
  go_ret
  exact ⟨rfl,by go_grown⟩
theorem KI (p i b he hn:Int) (w:World) (hb:(jN p 0 3&&jN i 0 1073741824&&jN b 0 1000000)=true):
  Calls Tryz.prog 53 #[Ev.val ⟨1,p,i,b,he,hn⟩] w (lQ w (if he=0/\hn=0 then 0 else 3)):=by
 unfold Ev.val;simp only [Bool.and_eq_true] at hb;obtain ⟨⟨r1,r2⟩,r3⟩:=hb;have hq:=qw ⟨1,p,i,b,0,0⟩ ⟨1,p,i,b,he,hn⟩;simp only [Ev.mk.injEq,true_and] at hq;by_cases z:0=he/\0=hn
 ·rw [if_pos ⟨z.1.symm,z.2.symm⟩];rw [show decide (0=he/\0=hn)=true by simpa using z] at hq;obtain ⟨rfl,rfl⟩:=z
  go_enter Tryz.func53,Tryz.ntmps53
  go_wp2_with (go_at_call 86;refine (dS _ _ _ _).mono ?_;rintro e w' ⟨rfl,rfl⟩)
  go_region
  go_wp2_with (go_at_call 86;refine (dS _ _ _ _).mono ?_;rintro e w' ⟨rfl,rfl⟩)
  go_ret
  exact ⟨rfl,by go_grown⟩
 rw [if_neg (λh=>z ⟨h.1.symm,h.2.symm⟩)];rw [show decide (0=he/\0=hn)=false by simpa using z] at hq;have HZ:=Lib.hid z;clear z
 go_enter Tryz.func53,Tryz.ntmps53
 go_wp2_with (go_at_call 86;refine (dS _ _ _ _).mono ?_;rintro e w' ⟨rfl,rfl⟩)
 go_region
 go_wp2_with (go_at_call 86;refine (dS _ _ _ _).mono ?_;rintro e w' ⟨rfl,rfl⟩)
 go_ret
 exact ⟨rfl,by go_grown⟩
theorem KJ (p i b he hn:Int) (w:World) (hb:(jN he 0 1048576&&jN hn 0 1073741824)=false):
  Calls Tryz.prog 53 #[Ev.val ⟨3,p,i,b,he,hn⟩] w (lQ w 2):=by
 unfold Ev.val
 cases r1:jN he 0 1048576<;>cases r2:jN hn 0 1073741824<;>simp [r1,r2] at hb
 all_goals
  go_enter Tryz.func53,Tryz.ntmps53
  go_wp2_with (go_at_call 86;refine (dS _ _ _ _).mono ?_;rintro e w' ⟨rfl,rfl⟩)
  go_ret
  exact ⟨rfl,by go_grown⟩
theorem Xw (p i b he hn:Int) (w:World) (hb:(jN he 0 1048576&&jN hn 0 1073741824)=true):
  Calls Tryz.prog 53 #[Ev.val ⟨3,p,i,b,he,hn⟩] w (lQ w (if p=0/\i=0/\b=0 then 0 else 3)):=by
 unfold Ev.val;simp only [Bool.and_eq_true] at hb;obtain ⟨r1,r2⟩:=hb;have hq:=qw ⟨3,0,0,0,he,hn⟩ ⟨3,p,i,b,he,hn⟩;simp only [Ev.mk.injEq,true_and,and_true] at hq;by_cases z:0=p/\0=i/\0=b
 ·rw [if_pos ⟨z.1.symm,z.2.1.symm,z.2.2.symm⟩];rw [show decide (0=p/\0=i/\0=b)=true by simpa using z] at hq;obtain ⟨rfl,rfl,rfl⟩:=z
  go_enter Tryz.func53,Tryz.ntmps53
  go_wp2_with (go_at_call 86;refine (dS _ _ _ _).mono ?_;rintro e w' ⟨rfl,rfl⟩)
  go_ret
  exact ⟨rfl,by go_grown⟩
 rw [if_neg (λh=>z ⟨h.1.symm,h.2.1.symm,h.2.2.symm⟩)];rw [show decide (0=p/\0=i/\0=b)=false by simpa using z] at hq;have HZ:=Lib.hid z;clear z
 go_enter Tryz.func53,Tryz.ntmps53
 go_wp2_with (go_at_call 86;refine (dS _ _ _ _).mono ?_;rintro e w' ⟨rfl,rfl⟩)
 go_ret
 exact ⟨rfl,by go_grown⟩
theorem Uu (k p i b he hn:Int) (w:World) (hk:k=2\/k=4):
  Calls Tryz.prog 53 #[Ev.val ⟨k,p,i,b,he,hn⟩] w (lQ w (if p=0/\i=0/\b=0/\he=0/\hn=0 then 0 else 3)):=by
 unfold Ev.val;have hq:=qw ⟨k,0,0,0,0,0⟩ ⟨k,p,i,b,he,hn⟩;simp only [Ev.mk.injEq,true_and] at hq;by_cases z:0=p/\0=i/\0=b/\0=he/\0=hn
 ·rw [if_pos ⟨z.1.symm,z.2.1.symm,z.2.2.1.symm,z.2.2.2.1.symm,z.2.2.2.2.symm⟩];rw [show decide (0=p/\0=i/\0=b/\0=he/\0=hn)=true by simpa using z] at hq;obtain ⟨rfl,rfl,rfl,rfl,rfl⟩:=z
  rcases hk with rfl | rfl
  all_goals
   go_enter Tryz.func53,Tryz.ntmps53
   go_wp2_with (go_at_call 86;refine (dS _ _ _ _).mono ?_;rintro e w' ⟨rfl,rfl⟩)
   go_ret
   exact ⟨rfl,by go_grown⟩
 rw [if_neg (λh=>z ⟨h.1.symm,h.2.1.symm,h.2.2.1.symm,h.2.2.2.1.symm,h.2.2.2.2.symm⟩)];rw [show decide (0=p/\0=i/\0=b/\0=he/\0=hn)=false by simpa using z] at hq;have HZ:=Lib.hid z;clear z
 rcases hk with rfl | rfl
 all_goals
  go_enter Tryz.func53,Tryz.ntmps53
  go_wp2_with (go_at_call 86;refine (dS _ _ _ _).mono ?_;rintro e w' ⟨rfl,rfl⟩)
  go_ret
  exact ⟨rfl,by go_grown⟩
theorem Uv (k p i b he hn:Int) (w:World) (h1:(k==1)=false) (h2:(k==2)=false) (h3:(k==3)=false) (h4:(k==4)=false):
  Calls Tryz.prog 53 #[Ev.val ⟨k,p,i,b,he,hn⟩] w (lQ w 3):=by
 unfold Ev.val
 go_enter Tryz.func53,Tryz.ntmps53
 go_wp2_with (go_at_call 86;refine (dS _ _ _ _).mono ?_;rintro e w' ⟨rfl,rfl⟩)
 go_ret
 exact ⟨rfl,by go_grown⟩
theorem Fq (e:Ev) (w:World):Calls Tryz.prog 53 #[e.val] w (lQ w (aZ e)):=by
 obtain ⟨k,p,i,b,he,hn⟩:=e;by_cases k1:k=1
 ·subst k1
  cases hb:(jN p 0 3&&jN i 0 1073741824&&jN b 0 1000000)
  ·have hf:aZ ⟨1,p,i,b,he,hn⟩=2:=by simp only [aZ,hb];simp
   rw [hf];exact Ey p i b he hn w hb
  have hf:aZ ⟨1,p,i,b,he,hn⟩=if he=0/\hn=0 then 0 else 3:=by
   simp only [aZ,hb];by_cases z:he=0/\hn=0<;>simp [z]
  rw [hf];exact KI p i b he hn w hb
 by_cases k3:k=3
 ·subst k3
  cases hb:(jN he 0 1048576&&jN hn 0 1073741824)
  ·have hf:aZ ⟨3,p,i,b,he,hn⟩=2:=by simp only [aZ,hb];simp
   rw [hf];exact KJ p i b he hn w hb
  have hf:aZ ⟨3,p,i,b,he,hn⟩=if p=0/\i=0/\b=0 then 0 else 3:=by
   simp only [aZ,hb];by_cases z:p=0/\i=0/\b=0<;>simp [z]
  rw [hf];exact Xw p i b he hn w hb
 by_cases k24:k=2\/k=4
 ·have hf:aZ ⟨k,p,i,b,he,hn⟩=if p=0/\i=0/\b=0/\he=0/\hn=0 then 0 else 3:=by
   have hk:1<=k/\k<=4:=by omega
   simp only [aZ,hk,and_self,not_true_eq_false,if_false,k1,k3,false_and,ne_eq,not_false_eq_true,true_and];by_cases z:p=0/\i=0/\b=0<;>by_cases y:he=0/\hn=0<;>simp [z,y]<;>omega
  rw [hf];exact Uu k p i b he hn w k24
 have hf:aZ ⟨k,p,i,b,he,hn⟩=3:=by
  have hk: ¬ (1<=k/\k<=4):=by omega
  simp only [aZ,hk,not_false_eq_true,if_true]
 rw [hf];exact Uv k p i b he hn w (beq_eq_false_iff_ne.2 (by omega)) (beq_eq_false_iff_ne.2 (by omega)) (beq_eq_false_iff_ne.2 (by omega)) (beq_eq_false_iff_ne.2 (by omega))
structure dz where
 kind:Int
 queue:Int
 epoch:Int
 peer:Int
 ev:Ev
 deriving DecidableEq
def dz.val (r:dz):Value:= .agg #[.int .i64 r.kind,.int .i64 r.queue,.int .i64 r.epoch,.int .i64 r.peer,.int .i64 r.ev.kind,.int .i64 r.ev.producer,.int .i64 r.ev.id,.int .i64 r.ev.body,.int .i64 r.ev.aN,.int .i64 r.ev.hno]
def jQ (k:Int):Bool:=k==2 || k==5
def aL:Ev:=⟨0,0,0,0,0,0⟩
def aJ (r:dz):Int:=
 if jN r.kind 1 7=false then 3
 else if (jN r.queue 0 3&&jN r.epoch 0 1048576&&jN r.peer 0 4)=false then 2
 else if jQ r.kind=true then aZ r.ev
 else if r.ev=aL then 0 else 3
theorem fC (k:Int) (w:World):Calls Tryz.prog 133 #[.int .i64 k] w λe w'=>e= .returned (.bool (jQ k))/\w=w':=by
 unfold jQ
 cases h1:(k==2)<;>cases h2:(k==5)
 all_goals
  go_enter Tryz.func133,Tryz.ntmps133
  go_wp2
  go_ret
  exact ⟨by simp,rfl⟩
theorem QN (r:dz) (w:World) (h:jN r.kind 1 7=false):Calls Tryz.prog 111 #[r.val] w (lQ w 3):=by
 obtain ⟨k,q,ep,pe,x0,x1,x2,x3,x4,x5⟩:=r;unfold dz.val;simp only at h
 rcases Xu.1 h with h1 | h1
 all_goals
  clear h
  go_enter Tryz.func111,Tryz.ntmps111
  go_wp2_with (first | (go_at_call 86;refine (dS _ _ _ _).mono ?_;rintro e w' ⟨rfl,rfl⟩) | (go_at_call 133;refine (fC _ _).mono ?_;rintro e w' ⟨rfl,rfl⟩))
  go_ret
  exact ⟨rfl,by go_grown⟩
theorem Nu (r:dz) (w:World) (h:jN r.kind 1 7=true) (hb:(jN r.queue 0 3&&jN r.epoch 0 1048576&&jN r.peer 0 4)=false):Calls Tryz.prog 111 #[r.val] w (lQ w 2):=by
 obtain ⟨k,q,ep,pe,x0,x1,x2,x3,x4,x5⟩:=r;unfold dz.val;simp only at h hb;obtain ⟨hk0,hk1⟩:=CP.1 h
 cases r1:jN q 0 3<;>cases r2:jN ep 0 1048576<;>cases r3:jN pe 0 4<;>simp [r1,r2,r3] at hb
 all_goals
  go_enter Tryz.func111,Tryz.ntmps111
  go_wp2_with (first | (go_at_call 86;refine (dS _ _ _ _).mono ?_;rintro e w' ⟨rfl,rfl⟩) | (go_at_call 133;refine (fC _ _).mono ?_;rintro e w' ⟨rfl,rfl⟩))
  go_ret
  exact ⟨rfl,by go_grown⟩
theorem QO (r:dz) (w:World) (h:jN r.kind 1 7=true) (hb:(jN r.queue 0 3&&jN r.epoch 0 1048576&&jN r.peer 0 4)=true) (he:jQ r.kind=false):Calls Tryz.prog 111 #[r.val] w (lQ w (if r.ev=aL then 0 else 3)):=by
 obtain ⟨k,q,ep,pe,x0,x1,x2,x3,x4,x5⟩:=r;unfold dz.val;simp only at h hb he⊢;obtain ⟨hk0,hk1⟩:=CP.1 h;simp only [Bool.and_eq_true] at hb;obtain ⟨⟨r1,r2⟩,r3⟩:=hb;have hq:=qw ⟨x0,x1,x2,x3,x4,x5⟩ aL;by_cases z:(⟨x0,x1,x2,x3,x4,x5⟩:Ev)=aL
 ·rw [if_pos z];rw [show decide ((⟨x0,x1,x2,x3,x4,x5⟩:Ev)=aL)=true from decide_eq_true z] at hq;simp only [aL] at hq z;simp only [Ev.mk.injEq] at z;obtain ⟨rfl,rfl,rfl,rfl,rfl,rfl⟩:=z
  go_enter Tryz.func111,Tryz.ntmps111
  go_wp2_with (first | (go_at_call 86;refine (dS _ _ _ _).mono ?_;rintro e w' ⟨rfl,rfl⟩) | (go_at_call 133;refine (fC _ _).mono ?_;rintro e w' ⟨rfl,rfl⟩))
  go_ret
  exact ⟨rfl,by go_grown⟩
 rw [if_neg z];rw [show decide ((⟨x0,x1,x2,x3,x4,x5⟩:Ev)=aL)=false from decide_eq_false z] at hq;simp only [aL] at hq;have HZ:=Lib.hid z;clear z
 go_enter Tryz.func111,Tryz.ntmps111
 go_wp2_with (first | (go_at_call 86;refine (dS _ _ _ _).mono ?_;rintro e w' ⟨rfl,rfl⟩) | (go_at_call 133;refine (fC _ _).mono ?_;rintro e w' ⟨rfl,rfl⟩))
 go_ret
 exact ⟨rfl,by go_grown⟩
theorem Nv (r:dz) (w:World) (h:jN r.kind 1 7=true) (hb:(jN r.queue 0 3&&jN r.epoch 0 1048576&&jN r.peer 0 4)=true) (he:jQ r.kind=true):Calls Tryz.prog 111 #[r.val] w (lQ w (aZ r.ev)):=by
 have HC:=Lib.hid (Fq r.ev);generalize aZ r.ev=z at HC;obtain ⟨k,q,ep,pe,x0,x1,x2,x3,x4,x5⟩:=r;unfold dz.val;unfold Ev.val at HC;simp only at h hb he HC⊢;obtain ⟨hk0,hk1⟩:=CP.1 h;simp only [Bool.and_eq_true] at hb;obtain ⟨⟨r1,r2⟩,r3⟩:=hb;have hk:k=2\/k=5:=by unfold jQ at he;simp at he;exact he
 rcases hk with rfl | rfl
 all_goals
  go_enter Tryz.func111,Tryz.ntmps111
  go_wp2_with (first | (go_at_call 86;refine (dS _ _ _ _).mono ?_;rintro e w' ⟨rfl,rfl⟩) | (go_at_call 133;refine (fC _ _).mono ?_;rintro e w' ⟨rfl,rfl⟩))
  refine (HC.out _).mono ?_;rintro e w1 ⟨rfl,hb1⟩;have HB:=Lib.hid hb1;clear hb1
  go_wp2_with fail
  go_ret
  exact ⟨rfl,((Below.refl _ w).alloc (Nat.le_refl _) _).trans (HB.out.mono (by simp))⟩
theorem ji (r:dz) (w:World):Calls Tryz.prog 111 #[r.val] w (lQ w (aJ r)):=by
 unfold aJ
 cases h:jN r.kind 1 7
 ·rw [if_pos rfl];exact QN r w h
 rw [if_neg (by simp)]
 cases hb:(jN r.queue 0 3&&jN r.epoch 0 1048576&&jN r.peer 0 4)
 ·rw [if_pos rfl];exact Nu r w h hb
 rw [if_neg (by simp)]
 cases he:jQ r.kind
 ·rw [if_neg (by simp)];exact QO r w h hb he
 rw [if_pos rfl];exact Nv r w h hb he
end Go.Proofs.YtbffmhpkenoogaaGreatDoor
