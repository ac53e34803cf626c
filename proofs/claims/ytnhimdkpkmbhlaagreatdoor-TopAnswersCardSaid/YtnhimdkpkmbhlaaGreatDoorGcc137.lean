import Derived.RegionTactic
import Derived.Test.YtnhimdkpkmbhlaaGreatDoorG2108f
set_option maxRecDepth 100000
set_option maxHeartbeats 8000000
set_option linter.unusedSimpArgs false
set_option linter.unusedVariables false
namespace Go.Proofs.YtnhimdkpkmbhlaaGreatDoor
open ChangeShapes WideShapes RowKit
theorem eB (n lo hi:Int) (w:World):
  Calls Tryz.prog 41 #[.int .i64 n,.int .i64 lo,.int .i64 hi] w λe w'=>e= .returned (.bool (jU n lo hi))/\w=w':=by
 by_cases h1:lo<=n<;>by_cases h2:n<=hi
 all_goals
  go_enter Tryz.func41,Tryz.ntmps41
  go_wp2
  go_ret
  exact ⟨by simp [jU];omega,rfl⟩
def bE (e:Ev):Int:=
 if ¬ (1<=e.kind/\e.kind<=4) then 3
 else if e.kind=1/\ ¬ (jU e.producer 0 3&&jU e.id 0 1073741824&&jU e.body 0 1000000)=true then 2
 else if e.kind=3/\ ¬ (jU e.aQ 0 1048576&&jU e.hno 0 1073741824)=true then 2
 else if e.kind≠1/\ ¬ (e.producer=0/\e.id=0/\e.body=0) then 3
 else if e.kind≠3/\ ¬ (e.aQ=0/\e.hno=0) then 3
 else 0
def l5 (w:World) (k:Int) (e:Ending) (w':World):Prop:=e= .returned (.int .i64 k)/\Below w.heap.size w w'
theorem En (p i b he hn:Int) (w:World) (hb:(jU p 0 3&&jU i 0 1073741824&&jU b 0 1000000)=false):
  Calls Tryz.prog 25 #[Ev.val ⟨1,p,i,b,he,hn⟩] w (l5 w 2):=by
 unfold Ev.val
 cases r1:jU p 0 3<;>cases r2:jU i 0 1073741824<;>cases r3:jU b 0 1000000<;>simp [r1,r2,r3] at hb
 all_goals
  go_enter Tryz.func25,Tryz.ntmps25
  go_wp2_with (go_at_call 41;refine (eB _ _ _ _).mono ?_;rintro e w' ⟨rfl,rfl⟩)
  go_region
  go_wp2_with (go_at_call 41;refine (eB _ _ _ _).mono ?_;rintro e w' ⟨rfl,rfl⟩)
  go_ret
  exact ⟨rfl,by go_grown⟩
theorem KI (p i b he hn:Int) (w:World) (hb:(jU p 0 3&&jU i 0 1073741824&&jU b 0 1000000)=true):
  Calls Tryz.prog 25 #[Ev.val ⟨1,p,i,b,he,hn⟩] w (l5 w (if he=0/\hn=0 then 0 else 3)):=by
 unfold Ev.val;simp only [Bool.and_eq_true] at hb;obtain ⟨⟨r1,r2⟩,r3⟩:=hb;have hq:=qw ⟨1,p,i,b,0,0⟩ ⟨1,p,i,b,he,hn⟩;simp only [Ev.mk.injEq,true_and] at hq;by_cases z:0=he/\0=hn
 ·rw [if_pos ⟨z.1.symm,z.2.symm⟩];rw [show decide (0=he/\0=hn)=true by simpa using z] at hq;obtain ⟨rfl,rfl⟩:=z
  go_enter Tryz.func25,Tryz.ntmps25
  go_wp2_with (go_at_call 41;refine (eB _ _ _ _).mono ?_;rintro e w' ⟨rfl,rfl⟩)
  go_region
  go_wp2_with (go_at_call 41;refine (eB _ _ _ _).mono ?_;rintro e w' ⟨rfl,rfl⟩)
  go_ret
  exact ⟨rfl,by go_grown⟩
 rw [if_neg (λh=>z ⟨h.1.symm,h.2.symm⟩)];rw [show decide (0=he/\0=hn)=false by simpa using z] at hq;have HZ:=Lib.hid z;clear z
 go_enter Tryz.func25,Tryz.ntmps25
 go_wp2_with (go_at_call 41;refine (eB _ _ _ _).mono ?_;rintro e w' ⟨rfl,rfl⟩)
 go_region
 go_wp2_with (go_at_call 41;refine (eB _ _ _ _).mono ?_;rintro e w' ⟨rfl,rfl⟩)
 go_ret
 exact ⟨rfl,by go_grown⟩
theorem KJ (p i b he hn:Int) (w:World) (hb:(jU he 0 1048576&&jU hn 0 1073741824)=false):
  Calls Tryz.prog 25 #[Ev.val ⟨3,p,i,b,he,hn⟩] w (l5 w 2):=by
 unfold Ev.val
 cases r1:jU he 0 1048576<;>cases r2:jU hn 0 1073741824<;>simp [r1,r2] at hb
 all_goals
  go_enter Tryz.func25,Tryz.ntmps25
  go_wp2_with (go_at_call 41;refine (eB _ _ _ _).mono ?_;rintro e w' ⟨rfl,rfl⟩)
  go_ret
  exact ⟨rfl,by go_grown⟩
theorem Xi (p i b he hn:Int) (w:World) (hb:(jU he 0 1048576&&jU hn 0 1073741824)=true):
  Calls Tryz.prog 25 #[Ev.val ⟨3,p,i,b,he,hn⟩] w (l5 w (if p=0/\i=0/\b=0 then 0 else 3)):=by
 unfold Ev.val;simp only [Bool.and_eq_true] at hb;obtain ⟨r1,r2⟩:=hb;have hq:=qw ⟨3,0,0,0,he,hn⟩ ⟨3,p,i,b,he,hn⟩;simp only [Ev.mk.injEq,true_and,and_true] at hq;by_cases z:0=p/\0=i/\0=b
 ·rw [if_pos ⟨z.1.symm,z.2.1.symm,z.2.2.symm⟩];rw [show decide (0=p/\0=i/\0=b)=true by simpa using z] at hq;obtain ⟨rfl,rfl,rfl⟩:=z
  go_enter Tryz.func25,Tryz.ntmps25
  go_wp2_with (go_at_call 41;refine (eB _ _ _ _).mono ?_;rintro e w' ⟨rfl,rfl⟩)
  go_ret
  exact ⟨rfl,by go_grown⟩
 rw [if_neg (λh=>z ⟨h.1.symm,h.2.1.symm,h.2.2.symm⟩)];rw [show decide (0=p/\0=i/\0=b)=false by simpa using z] at hq;have HZ:=Lib.hid z;clear z
 go_enter Tryz.func25,Tryz.ntmps25
 go_wp2_with (go_at_call 41;refine (eB _ _ _ _).mono ?_;rintro e w' ⟨rfl,rfl⟩)
 go_ret
 exact ⟨rfl,by go_grown⟩
theorem Ud (k p i b he hn:Int) (w:World) (hk:k=2\/k=4):
  Calls Tryz.prog 25 #[Ev.val ⟨k,p,i,b,he,hn⟩] w (l5 w (if p=0/\i=0/\b=0/\he=0/\hn=0 then 0 else 3)):=by
 unfold Ev.val;have hq:=qw ⟨k,0,0,0,0,0⟩ ⟨k,p,i,b,he,hn⟩;simp only [Ev.mk.injEq,true_and] at hq;by_cases z:0=p/\0=i/\0=b/\0=he/\0=hn
 ·rw [if_pos ⟨z.1.symm,z.2.1.symm,z.2.2.1.symm,z.2.2.2.1.symm,z.2.2.2.2.symm⟩];rw [show decide (0=p/\0=i/\0=b/\0=he/\0=hn)=true by simpa using z] at hq;obtain ⟨rfl,rfl,rfl,rfl,rfl⟩:=z
  rcases hk with rfl | rfl
  all_goals
   go_enter Tryz.func25,Tryz.ntmps25
   go_wp2_with (go_at_call 41;refine (eB _ _ _ _).mono ?_;rintro e w' ⟨rfl,rfl⟩)
   go_ret
   exact ⟨rfl,by go_grown⟩
 rw [if_neg (λh=>z ⟨h.1.symm,h.2.1.symm,h.2.2.1.symm,h.2.2.2.1.symm,h.2.2.2.2.symm⟩)];rw [show decide (0=p/\0=i/\0=b/\0=he/\0=hn)=false by simpa using z] at hq;have HZ:=Lib.hid z;clear z
 rcases hk with rfl | rfl
 all_goals
  go_enter Tryz.func25,Tryz.ntmps25
  go_wp2_with (go_at_call 41;refine (eB _ _ _ _).mono ?_;rintro e w' ⟨rfl,rfl⟩)
  go_ret
  exact ⟨rfl,by go_grown⟩
theorem Ue (k p i b he hn:Int) (w:World) (h1:(k==1)=false) (h2:(k==2)=false) (h3:(k==3)=false) (h4:(k==4)=false):
  Calls Tryz.prog 25 #[Ev.val ⟨k,p,i,b,he,hn⟩] w (l5 w 3):=by
 unfold Ev.val
 go_enter Tryz.func25,Tryz.ntmps25
 go_wp2_with (go_at_call 41;refine (eB _ _ _ _).mono ?_;rintro e w' ⟨rfl,rfl⟩)
 go_ret
 exact ⟨rfl,by go_grown⟩
theorem Fh (e:Ev) (w:World):Calls Tryz.prog 25 #[e.val] w (l5 w (bE e)):=by
 obtain ⟨k,p,i,b,he,hn⟩:=e;by_cases k1:k=1
 ·subst k1
  cases hb:(jU p 0 3&&jU i 0 1073741824&&jU b 0 1000000)
  ·have hf:bE ⟨1,p,i,b,he,hn⟩=2:=by simp only [bE,hb];simp
   rw [hf];exact En p i b he hn w hb
  have hf:bE ⟨1,p,i,b,he,hn⟩=if he=0/\hn=0 then 0 else 3:=by
   simp only [bE,hb];by_cases z:he=0/\hn=0<;>simp [z]
  rw [hf];exact KI p i b he hn w hb
 by_cases k3:k=3
 ·subst k3
  cases hb:(jU he 0 1048576&&jU hn 0 1073741824)
  ·have hf:bE ⟨3,p,i,b,he,hn⟩=2:=by simp only [bE,hb];simp
   rw [hf];exact KJ p i b he hn w hb
  have hf:bE ⟨3,p,i,b,he,hn⟩=if p=0/\i=0/\b=0 then 0 else 3:=by
   simp only [bE,hb];by_cases z:p=0/\i=0/\b=0<;>simp [z]
  rw [hf];exact Xi p i b he hn w hb
 by_cases k24:k=2\/k=4
 ·have hf:bE ⟨k,p,i,b,he,hn⟩=if p=0/\i=0/\b=0/\he=0/\hn=0 then 0 else 3:=by
   have hk:1<=k/\k<=4:=by omega
   simp only [bE,hk,and_self,not_true_eq_false,if_false,k1,k3,false_and,ne_eq,not_false_eq_true,true_and];by_cases z:p=0/\i=0/\b=0<;>by_cases y:he=0/\hn=0<;>simp [z,y]<;>omega
  rw [hf];exact Ud k p i b he hn w k24
 have hf:bE ⟨k,p,i,b,he,hn⟩=3:=by
  have hk: ¬ (1<=k/\k<=4):=by omega
  simp only [bE,hk,not_false_eq_true,if_true]
 rw [hf];exact Ue k p i b he hn w (beq_eq_false_iff_ne.2 (by omega)) (beq_eq_false_iff_ne.2 (by omega)) (beq_eq_false_iff_ne.2 (by omega)) (beq_eq_false_iff_ne.2 (by omega))
structure dM where
 kind:Int
 queue:Int
 epoch:Int
 peer:Int
 ev:Ev
 deriving DecidableEq
def dM.val (r:dM):Value:= .agg #[.int .i64 r.kind,.int .i64 r.queue,.int .i64 r.epoch,.int .i64 r.peer,.int .i64 r.ev.kind,.int .i64 r.ev.producer,.int .i64 r.ev.id,.int .i64 r.ev.body,.int .i64 r.ev.aQ,.int .i64 r.ev.hno]
def kG (k:Int):Bool:=k==2 || k==5
def aS:Ev:=⟨0,0,0,0,0,0⟩
def aM (r:dM):Int:=
 if jU r.kind 1 7=false then 3
 else if (jU r.queue 0 3&&jU r.epoch 0 1048576&&jU r.peer 0 4)=false then 2
 else if kG r.kind=true then bE r.ev
 else if r.ev=aS then 0 else 3
theorem fI (k:Int) (w:World):Calls Tryz.prog 113 #[.int .i64 k] w λe w'=>e= .returned (.bool (kG k))/\w=w':=by
 unfold kG
 cases h1:(k==2)<;>cases h2:(k==5)
 all_goals
  go_enter Tryz.func113,Tryz.ntmps113
  go_wp2
  go_ret
  exact ⟨by simp,rfl⟩
theorem Qu (r:dM) (w:World) (h:jU r.kind 1 7=false):Calls Tryz.prog 85 #[r.val] w (l5 w 3):=by
 obtain ⟨k,q,ep,pe,x0,x1,x2,x3,x4,x5⟩:=r;unfold dM.val;simp only at h
 rcases Xg.1 h with h1 | h1
 all_goals
  clear h
  go_enter Tryz.func85,Tryz.ntmps85
  go_wp2_with (first | (go_at_call 41;refine (eB _ _ _ _).mono ?_;rintro e w' ⟨rfl,rfl⟩) | (go_at_call 113;refine (fI _ _).mono ?_;rintro e w' ⟨rfl,rfl⟩))
  go_ret
  exact ⟨rfl,by go_grown⟩
theorem Np (r:dM) (w:World) (h:jU r.kind 1 7=true) (hb:(jU r.queue 0 3&&jU r.epoch 0 1048576&&jU r.peer 0 4)=false):Calls Tryz.prog 85 #[r.val] w (l5 w 2):=by
 obtain ⟨k,q,ep,pe,x0,x1,x2,x3,x4,x5⟩:=r;unfold dM.val;simp only at h hb;obtain ⟨hk0,hk1⟩:=CB.1 h
 cases r1:jU q 0 3<;>cases r2:jU ep 0 1048576<;>cases r3:jU pe 0 4<;>simp [r1,r2,r3] at hb
 all_goals
  go_enter Tryz.func85,Tryz.ntmps85
  go_wp2_with (first | (go_at_call 41;refine (eB _ _ _ _).mono ?_;rintro e w' ⟨rfl,rfl⟩) | (go_at_call 113;refine (fI _ _).mono ?_;rintro e w' ⟨rfl,rfl⟩))
  go_ret
  exact ⟨rfl,by go_grown⟩
theorem Qv (r:dM) (w:World) (h:jU r.kind 1 7=true) (hb:(jU r.queue 0 3&&jU r.epoch 0 1048576&&jU r.peer 0 4)=true) (he:kG r.kind=false):Calls Tryz.prog 85 #[r.val] w (l5 w (if r.ev=aS then 0 else 3)):=by
 obtain ⟨k,q,ep,pe,x0,x1,x2,x3,x4,x5⟩:=r;unfold dM.val;simp only at h hb he⊢;obtain ⟨hk0,hk1⟩:=CB.1 h;simp only [Bool.and_eq_true] at hb;obtain ⟨⟨r1,r2⟩,r3⟩:=hb;have hq:=qw ⟨x0,x1,x2,x3,x4,x5⟩ aS;by_cases z:(⟨x0,x1,x2,x3,x4,x5⟩:Ev)=aS
 ·rw [if_pos z];rw [show decide ((⟨x0,x1,x2,x3,x4,x5⟩:Ev)=aS)=true from decide_eq_true z] at hq;simp only [aS] at hq z;simp only [Ev.mk.injEq] at z;obtain ⟨rfl,rfl,rfl,rfl,rfl,rfl⟩:=z
  go_enter Tryz.func85,Tryz.ntmps85
  go_wp2_with (first | (go_at_call 41;refine (eB _ _ _ _).mono ?_;rintro e w' ⟨rfl,rfl⟩) | (go_at_call 113;refine (fI _ _).mono ?_;rintro e w' ⟨rfl,rfl⟩))
  go_ret
  exact ⟨rfl,by go_grown⟩
 rw [if_neg z];rw [show decide ((⟨x0,x1,x2,x3,x4,x5⟩:Ev)=aS)=false from decide_eq_false z] at hq;simp only [aS] at hq;have HZ:=Lib.hid z;clear z
 go_enter Tryz.func85,Tryz.ntmps85
 go_wp2_with (first | (go_at_call 41;refine (eB _ _ _ _).mono ?_;rintro e w' ⟨rfl,rfl⟩) | (go_at_call 113;refine (fI _ _).mono ?_;rintro e w' ⟨rfl,rfl⟩))
 go_ret
 exact ⟨rfl,by go_grown⟩
theorem Nq (r:dM) (w:World) (h:jU r.kind 1 7=true) (hb:(jU r.queue 0 3&&jU r.epoch 0 1048576&&jU r.peer 0 4)=true) (he:kG r.kind=true):Calls Tryz.prog 85 #[r.val] w (l5 w (bE r.ev)):=by
 have HC:=Lib.hid (Fh r.ev);generalize bE r.ev=z at HC;obtain ⟨k,q,ep,pe,x0,x1,x2,x3,x4,x5⟩:=r;unfold dM.val;unfold Ev.val at HC;simp only at h hb he HC⊢;obtain ⟨hk0,hk1⟩:=CB.1 h;simp only [Bool.and_eq_true] at hb;obtain ⟨⟨r1,r2⟩,r3⟩:=hb;have hk:k=2\/k=5:=by unfold kG at he;simp at he;exact he
 rcases hk with rfl | rfl
 all_goals
  go_enter Tryz.func85,Tryz.ntmps85
  go_wp2_with (first | (go_at_call 41;refine (eB _ _ _ _).mono ?_;rintro e w' ⟨rfl,rfl⟩) | (go_at_call 113;refine (fI _ _).mono ?_;rintro e w' ⟨rfl,rfl⟩))
  refine (HC.out _).mono ?_;rintro e w1 ⟨rfl,hb1⟩;have HB:=Lib.hid hb1;clear hb1
  go_wp2_with fail
  go_ret
  exact ⟨rfl,((Below.refl _ w).alloc (Nat.le_refl _) _).trans (HB.out.mono (by simp))⟩
theorem jo (r:dM) (w:World):Calls Tryz.prog 85 #[r.val] w (l5 w (aM r)):=by
 unfold aM
 cases h:jU r.kind 1 7
 ·rw [if_pos rfl];exact Qu r w h
 rw [if_neg (by simp)]
 cases hb:(jU r.queue 0 3&&jU r.epoch 0 1048576&&jU r.peer 0 4)
 ·rw [if_pos rfl];exact Np r w h hb
 rw [if_neg (by simp)]
 cases he:kG r.kind
 ·rw [if_neg (by simp)];exact Qv r w h hb he
 rw [if_pos rfl];exact Nq r w h hb he
end Go.Proofs.YtnhimdkpkmbhlaaGreatDoor
