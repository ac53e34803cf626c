import Derived.RegionTactic
import Derived.Test.YthhnonpehllibaaGreatDoorG0360b
set_option maxRecDepth 100000
set_option maxHeartbeats 8000000
namespace Go.Proofs.YthhnonpehllibaaGreatDoor
open ChangeShapes WideShapes RowKit
theorem eu (n lo hi:Int) (w:World):
  Calls Tryz.prog 71 #[.int .i64 n,.int .i64 lo,.int .i64 hi] w λe w'=>e= .returned (.bool (jW n lo hi))/\w=w':=by
 by_cases h1:lo<=n<;>by_cases h2:n<=hi
 all_goals
  go_enter Tryz.func71,Tryz.ntmps71
  go_wp2
  go_ret
  exact ⟨by simp [jW];omega,rfl⟩
def bD (e:Ev):Int:=
 if ¬ (1<=e.kind/\e.kind<=4) then 3
 else if e.kind=1/\ ¬ (jW e.producer 0 3&&jW e.id 0 1073741824&&jW e.body 0 1000000)=true then 2
 else if e.kind=3/\ ¬ (jW e.aR 0 1048576&&jW e.hno 0 1073741824)=true then 2
 else if e.kind≠1/\ ¬ (e.producer=0/\e.id=0/\e.body=0) then 3
 else if e.kind≠3/\ ¬ (e.aR=0/\e.hno=0) then 3
 else 0
def l9 (w:World) (k:Int) (e:Ending) (w':World):Prop:=e= .returned (.int .i64 k)/\Below w.heap.size w w'
theorem FU (p i b he hn:Int) (w:World) (hb:(jW p 0 3&&jW i 0 1073741824&&jW b 0 1000000)=false):
  Calls Tryz.prog 73 #[Ev.val ⟨1,p,i,b,he,hn⟩] w (l9 w 2):=by
 unfold Ev.val
 cases r1:jW p 0 3<;>cases r2:jW i 0 1073741824<;>cases r3:jW b 0 1000000<;>simp [r1,r2,r3] at hb
 all_goals
  go_enter Tryz.func73,Tryz.ntmps73
  go_wp2_with (go_at_call 71;refine (eu _ _ _ _).mono ?_;rintro e w' ⟨rfl,rfl⟩)
  go_region
  go_wp2_with (go_at_call 71;refine (eu _ _ _ _).mono ?_;rintro e w' ⟨rfl,rfl⟩)
  go_ret
  exact ⟨rfl,by go_grown⟩
theorem ME (p i b he hn:Int) (w:World) (hb:(jW p 0 3&&jW i 0 1073741824&&jW b 0 1000000)=true):
  Calls Tryz.prog 73 #[Ev.val ⟨1,p,i,b,he,hn⟩] w (l9 w (if he=0/\hn=0 then 0 else 3)):=by
 unfold Ev.val;simp only [Bool.and_eq_true] at hb;obtain ⟨⟨r1,r2⟩,r3⟩:=hb;have hq:=qP ⟨1,p,i,b,0,0⟩ ⟨1,p,i,b,he,hn⟩;simp only [Ev.mk.injEq,true_and] at hq;by_cases z:0=he/\0=hn
 ·rw [if_pos ⟨z.1.symm,z.2.symm⟩];rw [show decide (0=he/\0=hn)=true by simpa using z] at hq;obtain ⟨rfl,rfl⟩:=z
  go_enter Tryz.func73,Tryz.ntmps73
  go_wp2_with (go_at_call 71;refine (eu _ _ _ _).mono ?_;rintro e w' ⟨rfl,rfl⟩)
  go_region
  go_wp2_with (go_at_call 71;refine (eu _ _ _ _).mono ?_;rintro e w' ⟨rfl,rfl⟩)
  go_ret
  exact ⟨rfl,by go_grown⟩
 rw [if_neg (λh=>z ⟨h.1.symm,h.2.symm⟩)];rw [show decide (0=he/\0=hn)=false by simpa using z] at hq;have HZ:=Lib.hid z;clear z
 go_enter Tryz.func73,Tryz.ntmps73
 go_wp2_with (go_at_call 71;refine (eu _ _ _ _).mono ?_;rintro e w' ⟨rfl,rfl⟩)
 go_region
 go_wp2_with (go_at_call 71;refine (eu _ _ _ _).mono ?_;rintro e w' ⟨rfl,rfl⟩)
 go_ret
 exact ⟨rfl,by go_grown⟩
theorem MF (p i b he hn:Int) (w:World) (hb:(jW he 0 1048576&&jW hn 0 1073741824)=false):
  Calls Tryz.prog 73 #[Ev.val ⟨3,p,i,b,he,hn⟩] w (l9 w 2):=by
 unfold Ev.val
 cases r1:jW he 0 1048576<;>cases r2:jW hn 0 1073741824<;>simp [r1,r2] at hb
 all_goals
  go_enter Tryz.func73,Tryz.ntmps73
  go_wp2_with (go_at_call 71;refine (eu _ _ _ _).mono ?_;rintro e w' ⟨rfl,rfl⟩)
  go_ret
  exact ⟨rfl,by go_grown⟩
theorem Y3 (p i b he hn:Int) (w:World) (hb:(jW he 0 1048576&&jW hn 0 1073741824)=true):
  Calls Tryz.prog 73 #[Ev.val ⟨3,p,i,b,he,hn⟩] w (l9 w (if p=0/\i=0/\b=0 then 0 else 3)):=by
 unfold Ev.val;simp only [Bool.and_eq_true] at hb;obtain ⟨r1,r2⟩:=hb;have hq:=qP ⟨3,0,0,0,he,hn⟩ ⟨3,p,i,b,he,hn⟩;simp only [Ev.mk.injEq,true_and,and_true] at hq;by_cases z:0=p/\0=i/\0=b
 ·rw [if_pos ⟨z.1.symm,z.2.1.symm,z.2.2.symm⟩];rw [show decide (0=p/\0=i/\0=b)=true by simpa using z] at hq;obtain ⟨rfl,rfl,rfl⟩:=z
  go_enter Tryz.func73,Tryz.ntmps73
  go_wp2_with (go_at_call 71;refine (eu _ _ _ _).mono ?_;rintro e w' ⟨rfl,rfl⟩)
  go_ret
  exact ⟨rfl,by go_grown⟩
 rw [if_neg (λh=>z ⟨h.1.symm,h.2.1.symm,h.2.2.symm⟩)];rw [show decide (0=p/\0=i/\0=b)=false by simpa using z] at hq;have HZ:=Lib.hid z;clear z
 go_enter Tryz.func73,Tryz.ntmps73
 go_wp2_with (go_at_call 71;refine (eu _ _ _ _).mono ?_;rintro e w' ⟨rfl,rfl⟩)
 go_ret
 exact ⟨rfl,by go_grown⟩
theorem Wj (k p i b he hn:Int) (w:World) (hk:k=2\/k=4):
  Calls Tryz.prog 73 #[Ev.val ⟨k,p,i,b,he,hn⟩] w (l9 w (if p=0/\i=0/\b=0/\he=0/\hn=0 then 0 else 3)):=by
 unfold Ev.val;have hq:=qP ⟨k,0,0,0,0,0⟩ ⟨k,p,i,b,he,hn⟩;simp only [Ev.mk.injEq,true_and] at hq;by_cases z:0=p/\0=i/\0=b/\0=he/\0=hn
 ·rw [if_pos ⟨z.1.symm,z.2.1.symm,z.2.2.1.symm,z.2.2.2.1.symm,z.2.2.2.2.symm⟩];rw [show decide (0=p/\0=i/\0=b/\0=he/\0=hn)=true by simpa using z] at hq;obtain ⟨rfl,rfl,rfl,rfl,rfl⟩:=z
  rcases hk with rfl | rfl
  all_goals
   go_enter Tryz.func73,Tryz.ntmps73
   go_wp2_with (go_at_call 71;refine (eu _ _ _ _).mono ?_;rintro e w' ⟨rfl,rfl⟩)
   go_ret
   exact ⟨rfl,by go_grown⟩
 rw [if_neg (λh=>z ⟨h.1.symm,h.2.1.symm,h.2.2.1.symm,h.2.2.2.1.symm,h.2.2.2.2.symm⟩)];rw [show decide (0=p/\0=i/\0=b/\0=he/\0=hn)=false by simpa using z] at hq;have HZ:=Lib.hid z;clear z
 rcases hk with rfl | rfl
 all_goals
  go_enter Tryz.func73,Tryz.ntmps73
  go_wp2_with (go_at_call 71;refine (eu _ _ _ _).mono ?_;rintro e w' ⟨rfl,rfl⟩)
  go_ret
  exact ⟨rfl,by go_grown⟩
theorem Wm (k p i b he hn:Int) (w:World) (h1:(k==1)=false) (h2:(k==2)=false) (h3:(k==3)=false) (h4:(k==4)=false):
  Calls Tryz.prog 73 #[Ev.val ⟨k,p,i,b,he,hn⟩] w (l9 w 3):=by
 unfold Ev.val
 go_enter Tryz.func73,Tryz.ntmps73
 go_wp2_with (go_at_call 71;refine (eu _ _ _ _).mono ?_;rintro e w' ⟨rfl,rfl⟩)
 go_ret
 exact ⟨rfl,by go_grown⟩
theorem GH (e:Ev) (w:World):Calls Tryz.prog 73 #[e.val] w (l9 w (bD e)):=by
 obtain ⟨k,p,i,b,he,hn⟩:=e;by_cases k1:k=1
 ·subst k1
  cases hb:(jW p 0 3&&jW i 0 1073741824&&jW b 0 1000000)
  ·have hf:bD ⟨1,p,i,b,he,hn⟩=2:=by simp only [bD,hb];simp
   rw [hf];exact FU p i b he hn w hb
  have hf:bD ⟨1,p,i,b,he,hn⟩=if he=0/\hn=0 then 0 else 3:=by
   simp only [bD,hb];by_cases z:he=0/\hn=0<;>simp [z]
  rw [hf];exact ME p i b he hn w hb
 by_cases k3:k=3
 ·subst k3
  cases hb:(jW he 0 1048576&&jW hn 0 1073741824)
  ·have hf:bD ⟨3,p,i,b,he,hn⟩=2:=by simp only [bD,hb];simp
   rw [hf];exact MF p i b he hn w hb
  have hf:bD ⟨3,p,i,b,he,hn⟩=if p=0/\i=0/\b=0 then 0 else 3:=by
   simp only [bD,hb];by_cases z:p=0/\i=0/\b=0<;>simp [z]
  rw [hf];exact Y3 p i b he hn w hb
 by_cases k24:k=2\/k=4
 ·have hf:bD ⟨k,p,i,b,he,hn⟩=if p=0/\i=0/\b=0/\he=0/\hn=0 then 0 else 3:=by
   have hk:1<=k/\k<=4:=by omega
   simp only [bD,hk,and_self,not_true_eq_false,if_false,k1,k3,false_and,ne_eq,not_false_eq_true,true_and];by_cases z:p=0/\i=0/\b=0<;>by_cases y:he=0/\hn=0<;>simp [z,y]<;>omega
  rw [hf];exact Wj k p i b he hn w k24
 have hf:bD ⟨k,p,i,b,he,hn⟩=3:=by
  have hk: ¬ (1<=k/\k<=4):=by omega
  simp only [bD,hk,not_false_eq_true,if_true]
 rw [hf];exact Wm k p i b he hn w (beq_eq_false_iff_ne.2 (by omega)) (beq_eq_false_iff_ne.2 (by omega)) (beq_eq_false_iff_ne.2 (by omega)) (beq_eq_false_iff_ne.2 (by omega))
structure dF where
 kind:Int
 queue:Int
 epoch:Int
 peer:Int
 ev:Ev
 deriving DecidableEq
def dF.val (r:dF):Value:= .agg #[.int .i64 r.kind,.int .i64 r.queue,.int .i64 r.epoch,.int .i64 r.peer,.int .i64 r.ev.kind,.int .i64 r.ev.producer,.int .i64 r.ev.id,.int .i64 r.ev.body,.int .i64 r.ev.aR,.int .i64 r.ev.hno]
def jZ (k:Int):Bool:=k==2 || k==5
def aT:Ev:=⟨0,0,0,0,0,0⟩
def aM (r:dF):Int:=
 if jW r.kind 1 7=false then 3
 else if (jW r.queue 0 3&&jW r.epoch 0 1048576&&jW r.peer 0 4)=false then 2
 else if jZ r.kind=true then bD r.ev
 else if r.ev=aT then 0 else 3
theorem fM (k:Int) (w:World):Calls Tryz.prog 72 #[.int .i64 k] w λe w'=>e= .returned (.bool (jZ k))/\w=w':=by
 unfold jZ
 cases h1:(k==2)<;>cases h2:(k==5)
 all_goals
  go_enter Tryz.func72,Tryz.ntmps72
  go_wp2
  go_ret
  exact ⟨by simp,rfl⟩
theorem Ta (r:dF) (w:World) (h:jW r.kind 1 7=false):Calls Tryz.prog 54 #[r.val] w (l9 w 3):=by
 obtain ⟨k,q,ep,pe,x0,x1,x2,x3,x4,x5⟩:=r;unfold dF.val;simp only at h
 rcases Y1.1 h with h1 | h1
 all_goals
  clear h
  go_enter Tryz.func54,Tryz.ntmps54
  go_wp2_with (first | (go_at_call 71;refine (eu _ _ _ _).mono ?_;rintro e w' ⟨rfl,rfl⟩) | (go_at_call 72;refine (fM _ _).mono ?_;rintro e w' ⟨rfl,rfl⟩))
  go_ret
  exact ⟨rfl,by go_grown⟩
theorem Pv (r:dF) (w:World) (h:jW r.kind 1 7=true) (hb:(jW r.queue 0 3&&jW r.epoch 0 1048576&&jW r.peer 0 4)=false):Calls Tryz.prog 54 #[r.val] w (l9 w 2):=by
 obtain ⟨k,q,ep,pe,x0,x1,x2,x3,x4,x5⟩:=r;unfold dF.val;simp only at h hb;obtain ⟨hk0,hk1⟩:=Eb.1 h
 cases r1:jW q 0 3<;>cases r2:jW ep 0 1048576<;>cases r3:jW pe 0 4<;>simp [r1,r2,r3] at hb
 all_goals
  go_enter Tryz.func54,Tryz.ntmps54
  go_wp2_with (first | (go_at_call 71;refine (eu _ _ _ _).mono ?_;rintro e w' ⟨rfl,rfl⟩) | (go_at_call 72;refine (fM _ _).mono ?_;rintro e w' ⟨rfl,rfl⟩))
  go_ret
  exact ⟨rfl,by go_grown⟩
theorem Tc (r:dF) (w:World) (h:jW r.kind 1 7=true) (hb:(jW r.queue 0 3&&jW r.epoch 0 1048576&&jW r.peer 0 4)=true) (he:jZ r.kind=false):Calls Tryz.prog 54 #[r.val] w (l9 w (if r.ev=aT then 0 else 3)):=by
 obtain ⟨k,q,ep,pe,x0,x1,x2,x3,x4,x5⟩:=r;unfold dF.val;simp only at h hb he⊢;obtain ⟨hk0,hk1⟩:=Eb.1 h;simp only [Bool.and_eq_true] at hb;obtain ⟨⟨r1,r2⟩,r3⟩:=hb;have hq:=qP ⟨x0,x1,x2,x3,x4,x5⟩ aT;by_cases z:(⟨x0,x1,x2,x3,x4,x5⟩:Ev)=aT
 ·rw [if_pos z];rw [show decide ((⟨x0,x1,x2,x3,x4,x5⟩:Ev)=aT)=true from decide_eq_true z] at hq;simp only [aT] at hq z;simp only [Ev.mk.injEq] at z;obtain ⟨rfl,rfl,rfl,rfl,rfl,rfl⟩:=z
  go_enter Tryz.func54,Tryz.ntmps54
  go_wp2_with (first | (go_at_call 71;refine (eu _ _ _ _).mono ?_;rintro e w' ⟨rfl,rfl⟩) | (go_at_call 72;refine (fM _ _).mono ?_;rintro e w' ⟨rfl,rfl⟩))
  go_ret
  exact ⟨rfl,by go_grown⟩
 rw [if_neg z];rw [show decide ((⟨x0,x1,x2,x3,x4,x5⟩:Ev)=aT)=false from decide_eq_false z] at hq;simp only [aT] at hq;have HZ:=Lib.hid z;clear z
 go_enter Tryz.func54,Tryz.ntmps54
 go_wp2_with (first | (go_at_call 71;refine (eu _ _ _ _).mono ?_;rintro e w' ⟨rfl,rfl⟩) | (go_at_call 72;refine (fM _ _).mono ?_;rintro e w' ⟨rfl,rfl⟩))
 go_ret
 exact ⟨rfl,by go_grown⟩
theorem Pw (r:dF) (w:World) (h:jW r.kind 1 7=true) (hb:(jW r.queue 0 3&&jW r.epoch 0 1048576&&jW r.peer 0 4)=true) (he:jZ r.kind=true):Calls Tryz.prog 54 #[r.val] w (l9 w (bD r.ev)):=by
 have HC:=Lib.hid (GH r.ev);generalize bD r.ev=z at HC;obtain ⟨k,q,ep,pe,x0,x1,x2,x3,x4,x5⟩:=r;unfold dF.val;unfold Ev.val at HC;simp only at h hb he HC⊢;obtain ⟨hk0,hk1⟩:=Eb.1 h;simp only [Bool.and_eq_true] at hb;obtain ⟨⟨r1,r2⟩,r3⟩:=hb;have hk:k=2\/k=5:=by unfold jZ at he;simp at he;exact he
 rcases hk with rfl | rfl
 all_goals
  go_enter Tryz.func54,Tryz.ntmps54
  go_wp2_with (first | (go_at_call 71;refine (eu _ _ _ _).mono ?_;rintro e w' ⟨rfl,rfl⟩) | (go_at_call 72;refine (fM _ _).mono ?_;rintro e w' ⟨rfl,rfl⟩))
  refine (HC.out _).mono ?_;rintro e w1 ⟨rfl,hb1⟩;have HB:=Lib.hid hb1;clear hb1
  go_wp2_with fail
  go_ret
  exact ⟨rfl,((Below.refl _ w).alloc (Nat.le_refl _) _).trans (HB.out.mono (by simp))⟩
theorem jC (r:dF) (w:World):Calls Tryz.prog 54 #[r.val] w (l9 w (aM r)):=by
 unfold aM
 cases h:jW r.kind 1 7
 ·rw [if_pos rfl];exact Ta r w h
 rw [if_neg (by simp)]
 cases hb:(jW r.queue 0 3&&jW r.epoch 0 1048576&&jW r.peer 0 4)
 ·rw [if_pos rfl];exact Pv r w h hb
 rw [if_neg (by simp)]
 cases he:jZ r.kind
 ·rw [if_neg (by simp)];exact Tc r w h hb he
 rw [if_pos rfl];exact Pw r w h hb he
end Go.Proofs.YthhnonpehllibaaGreatDoor
