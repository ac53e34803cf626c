import Derived.Test.YtlfgjcahpppbbaaGreatDoorG67939
set_option maxRecDepth 100000
set_option maxHeartbeats 8000000
set_option linter.unusedSimpArgs false
set_option linter.unusedVariables false
namespace Go.Proofs.YtlfgjcahpppbbaaGreatDoor
open ChangeShapes WideShapes RowKit
theorem eP (n lo hi:Int) (w:World):
  Calls Tryz.prog 52 #[.int .i64 n,.int .i64 lo,.int .i64 hi] w λe w'=>e= .returned (.bool (jP n lo hi))/\w=w':=by
 by_cases h1:lo<=n<;>by_cases h2:n<=hi
 all_goals
  go_enter Tryz.func52,Tryz.ntmps52
  go_wp2
  go_ret
  exact ⟨by simp [jP];omega,rfl⟩
def aX (e:Ev):Int:=
 if ¬ (1<=e.kind/\e.kind<=4) then 3
 else if e.kind=1/\ ¬ (jP e.producer 0 3&&jP e.id 0 1073741824&&jP e.body 0 1000000)=true then 2
 else if e.kind=3/\ ¬ (jP e.aG 0 1048576&&jP e.hno 0 1073741824)=true then 2
 else if e.kind≠1/\ ¬ (e.producer=0/\e.id=0/\e.body=0) then 3
 else if e.kind≠3/\ ¬ (e.aG=0/\e.hno=0) then 3
 else 0
def mV (w:World) (k:Int) (e:Ending) (w':World):Prop:=e= .returned (.int .i64 k)/\Below w.heap.size w w'
theorem Gv (p i b he hn:Int) (w:World) (hb:(jP p 0 3&&jP i 0 1073741824&&jP b 0 1000000)=false):
  Calls Tryz.prog 26 #[Ev.val ⟨1,p,i,b,he,hn⟩] w (mV w 2):=by
 unfold Ev.val
 cases r1:jP p 0 3<;>cases r2:jP i 0 1073741824<;>cases r3:jP b 0 1000000<;>simp [r1,r2,r3] at hb
 all_goals
  go_enter Tryz.func26,Tryz.ntmps26
  go_wp2_with (go_at_call 52;refine (eP _ _ _ _).mono ?_;rintro e w' ⟨rfl,rfl⟩)
  go_region
  go_wp2_with (go_at_call 52;refine (eP _ _ _ _).mono ?_;rintro e w' ⟨rfl,rfl⟩)
  go_ret
  exact ⟨rfl,by go_grown⟩
theorem Nf (p i b he hn:Int) (w:World) (hb:(jP p 0 3&&jP i 0 1073741824&&jP b 0 1000000)=true):
  Calls Tryz.prog 26 #[Ev.val ⟨1,p,i,b,he,hn⟩] w (mV w (if he=0/\hn=0 then 0 else 3)):=by
 unfold Ev.val;simp only [Bool.and_eq_true] at hb;obtain ⟨⟨r1,r2⟩,r3⟩:=hb;have hq:=ru ⟨1,p,i,b,0,0⟩ ⟨1,p,i,b,he,hn⟩;simp only [Ev.mk.injEq,true_and] at hq;by_cases z:0=he/\0=hn
 ·rw [if_pos ⟨z.1.symm,z.2.symm⟩];rw [show decide (0=he/\0=hn)=true by simpa using z] at hq;obtain ⟨rfl,rfl⟩:=z
  go_enter Tryz.func26,Tryz.ntmps26
  go_wp2_with (go_at_call 52;refine (eP _ _ _ _).mono ?_;rintro e w' ⟨rfl,rfl⟩)
  go_region
  go_wp2_with (go_at_call 52;refine (eP _ _ _ _).mono ?_;rintro e w' ⟨rfl,rfl⟩)
  go_ret
  exact ⟨rfl,by go_grown⟩
 rw [if_neg (λh=>z ⟨h.1.symm,h.2.symm⟩)];rw [show decide (0=he/\0=hn)=false by simpa using z] at hq;have HZ:=Lib.hid z;clear z
 go_enter Tryz.func26,Tryz.ntmps26
 go_wp2_with (go_at_call 52;refine (eP _ _ _ _).mono ?_;rintro e w' ⟨rfl,rfl⟩)
 go_region
 go_wp2_with (go_at_call 52;refine (eP _ _ _ _).mono ?_;rintro e w' ⟨rfl,rfl⟩)
 go_ret
 exact ⟨rfl,by go_grown⟩
theorem Ng (p i b he hn:Int) (w:World) (hb:(jP he 0 1048576&&jP hn 0 1073741824)=false):
  Calls Tryz.prog 26 #[Ev.val ⟨3,p,i,b,he,hn⟩] w (mV w 2):=by
 unfold Ev.val
 cases r1:jP he 0 1048576<;>cases r2:jP hn 0 1073741824<;>simp [r1,r2] at hb
 all_goals
  go_enter Tryz.func26,Tryz.ntmps26
  go_wp2_with (go_at_call 52;refine (eP _ _ _ _).mono ?_;rintro e w' ⟨rfl,rfl⟩)
  go_ret
  exact ⟨rfl,by go_grown⟩
theorem aaH (p i b he hn:Int) (w:World) (hb:(jP he 0 1048576&&jP hn 0 1073741824)=true):
  Calls Tryz.prog 26 #[Ev.val ⟨3,p,i,b,he,hn⟩] w (mV w (if p=0/\i=0/\b=0 then 0 else 3)):=by
 unfold Ev.val;simp only [Bool.and_eq_true] at hb;obtain ⟨r1,r2⟩:=hb;have hq:=ru ⟨3,0,0,0,he,hn⟩ ⟨3,p,i,b,he,hn⟩;simp only [Ev.mk.injEq,true_and,and_true] at hq;by_cases z:0=p/\0=i/\0=b
 ·rw [if_pos ⟨z.1.symm,z.2.1.symm,z.2.2.symm⟩];rw [show decide (0=p/\0=i/\0=b)=true by simpa using z] at hq;obtain ⟨rfl,rfl,rfl⟩:=z
  go_enter Tryz.func26,Tryz.ntmps26
  go_wp2_with (go_at_call 52;refine (eP _ _ _ _).mono ?_;rintro e w' ⟨rfl,rfl⟩)
  go_ret
  exact ⟨rfl,by go_grown⟩
 rw [if_neg (λh=>z ⟨h.1.symm,h.2.1.symm,h.2.2.symm⟩)];rw [show decide (0=p/\0=i/\0=b)=false by simpa using z] at hq;have HZ:=Lib.hid z;clear z
 go_enter Tryz.func26,Tryz.ntmps26
 go_wp2_with (go_at_call 52;refine (eP _ _ _ _).mono ?_;rintro e w' ⟨rfl,rfl⟩)
 go_ret
 exact ⟨rfl,by go_grown⟩
theorem XO (k p i b he hn:Int) (w:World) (hk:k=2\/k=4):
  Calls Tryz.prog 26 #[Ev.val ⟨k,p,i,b,he,hn⟩] w (mV w (if p=0/\i=0/\b=0/\he=0/\hn=0 then 0 else 3)):=by
 unfold Ev.val;have hq:=ru ⟨k,0,0,0,0,0⟩ ⟨k,p,i,b,he,hn⟩;simp only [Ev.mk.injEq,true_and] at hq;by_cases z:0=p/\0=i/\0=b/\0=he/\0=hn
 ·rw [if_pos ⟨z.1.symm,z.2.1.symm,z.2.2.1.symm,z.2.2.2.1.symm,z.2.2.2.2.symm⟩];rw [show decide (0=p/\0=i/\0=b/\0=he/\0=hn)=true by simpa using z] at hq;obtain ⟨rfl,rfl,rfl,rfl,rfl⟩:=z
  rcases hk with rfl | rfl
  all_goals
   go_enter Tryz.func26,Tryz.ntmps26
   go_wp2_with (go_at_call 52;refine (eP _ _ _ _).mono ?_;rintro e w' ⟨rfl,rfl⟩)
   go_ret
   exact ⟨rfl,by go_grown⟩
 rw [if_neg (λh=>z ⟨h.1.symm,h.2.1.symm,h.2.2.1.symm,h.2.2.2.1.symm,h.2.2.2.2.symm⟩)];rw [show decide (0=p/\0=i/\0=b/\0=he/\0=hn)=false by simpa using z] at hq;have HZ:=Lib.hid z;clear z
 rcases hk with rfl | rfl
 all_goals
  go_enter Tryz.func26,Tryz.ntmps26
  go_wp2_with (go_at_call 52;refine (eP _ _ _ _).mono ?_;rintro e w' ⟨rfl,rfl⟩)
  go_ret
  exact ⟨rfl,by go_grown⟩
theorem XP (k p i b he hn:Int) (w:World) (h1:(k==1)=false) (h2:(k==2)=false) (h3:(k==3)=false) (h4:(k==4)=false):
  Calls Tryz.prog 26 #[Ev.val ⟨k,p,i,b,he,hn⟩] w (mV w 3):=by
 unfold Ev.val
 go_enter Tryz.func26,Tryz.ntmps26
 go_wp2_with (go_at_call 52;refine (eP _ _ _ _).mono ?_;rintro e w' ⟨rfl,rfl⟩)
 go_ret
 exact ⟨rfl,by go_grown⟩
theorem Hy (e:Ev) (w:World):Calls Tryz.prog 26 #[e.val] w (mV w (aX e)):=by
 obtain ⟨k,p,i,b,he,hn⟩:=e;by_cases k1:k=1
 ·subst k1
  cases hb:(jP p 0 3&&jP i 0 1073741824&&jP b 0 1000000)
  ·have hf:aX ⟨1,p,i,b,he,hn⟩=2:=by simp only [aX,hb];simp
   rw [hf];exact Gv p i b he hn w hb
  have hf:aX ⟨1,p,i,b,he,hn⟩=if he=0/\hn=0 then 0 else 3:=by
   simp only [aX,hb];by_cases z:he=0/\hn=0<;>simp [z]
  rw [hf];exact Nf p i b he hn w hb
 by_cases k3:k=3
 ·subst k3
  cases hb:(jP he 0 1048576&&jP hn 0 1073741824)
  ·have hf:aX ⟨3,p,i,b,he,hn⟩=2:=by simp only [aX,hb];simp
   rw [hf];exact Ng p i b he hn w hb
  have hf:aX ⟨3,p,i,b,he,hn⟩=if p=0/\i=0/\b=0 then 0 else 3:=by
   simp only [aX,hb];by_cases z:p=0/\i=0/\b=0<;>simp [z]
  rw [hf];exact aaH p i b he hn w hb
 by_cases k24:k=2\/k=4
 ·have hf:aX ⟨k,p,i,b,he,hn⟩=if p=0/\i=0/\b=0/\he=0/\hn=0 then 0 else 3:=by
   have hk:1<=k/\k<=4:=oQ;simp only [aX,hk,and_self,not_true_eq_false,if_false,k1,k3,false_and,ne_eq,not_false_eq_true,true_and];by_cases z:p=0/\i=0/\b=0<;>by_cases y:he=0/\hn=0<;>simp [z,y]<;>omega
  rw [hf];exact XO k p i b he hn w k24
 have hf:aX ⟨k,p,i,b,he,hn⟩=3:=by
  have hk: ¬ (1<=k/\k<=4):=oQ;simp only [aX,hk,not_false_eq_true,if_true]
 rw [hf];exact XP k p i b he hn w (beq_eq_false_iff_ne.2 oQ) (beq_eq_false_iff_ne.2 oQ) (beq_eq_false_iff_ne.2 oQ) (beq_eq_false_iff_ne.2 oQ)
structure dD where
 kind:Int
 queue:Int
 epoch:Int
 peer:Int
 ev:Ev
 deriving DecidableEq
def dD.val (r:dD):Value:= .agg #[.int .i64 r.kind,.int .i64 r.queue,.int .i64 r.epoch,.int .i64 r.peer,.int .i64 r.ev.kind,.int .i64 r.ev.producer,.int .i64 r.ev.id,.int .i64 r.ev.body,.int .i64 r.ev.aG,.int .i64 r.ev.hno]
def kC (k:Int):Bool:=k==2 || k==5
def aO:Ev:=⟨0,0,0,0,0,0⟩
def aJ (r:dD):Int:=
 if jP r.kind 1 7=false then 3
 else if (jP r.queue 0 3&&jP r.epoch 0 1048576&&jP r.peer 0 4)=false then 2
 else if kC r.kind=true then aX r.ev
 else if r.ev=aO then 0 else 3
theorem fO (k:Int) (w:World):Calls Tryz.prog 98 #[.int .i64 k] w λe w'=>e= .returned (.bool (kC k))/\w=w':=by
 unfold kC
 cases h1:(k==2)<;>cases h2:(k==5)
 all_goals
  go_enter Tryz.func98,Tryz.ntmps98
  go_wp2
  go_ret
  exact ⟨by simp,rfl⟩
theorem Uv (r:dD) (w:World) (h:jP r.kind 1 7=false):Calls Tryz.prog 76 #[r.val] w (mV w 3):=by
 obtain ⟨k,q,ep,pe,x0,x1,x2,x3,x4,x5⟩:=r;unfold dD.val;simp only at h
 rcases aaz.1 h with h1 | h1
 all_goals
  clear h
  go_enter Tryz.func76,Tryz.ntmps76
  go_wp2_with (first | (go_at_call 52;refine (eP _ _ _ _).mono ?_;rintro e w' ⟨rfl,rfl⟩) | (go_at_call 98;refine (fO _ _).mono ?_;rintro e w' ⟨rfl,rfl⟩))
  go_ret
  exact ⟨rfl,by go_grown⟩
theorem QE (r:dD) (w:World) (h:jP r.kind 1 7=true) (hb:(jP r.queue 0 3&&jP r.epoch 0 1048576&&jP r.peer 0 4)=false):Calls Tryz.prog 76 #[r.val] w (mV w 2):=by
 obtain ⟨k,q,ep,pe,x0,x1,x2,x3,x4,x5⟩:=r;unfold dD.val;simp only at h hb;obtain ⟨hk0,hk1⟩:=ES.1 h
 cases r1:jP q 0 3<;>cases r2:jP ep 0 1048576<;>cases r3:jP pe 0 4<;>simp [r1,r2,r3] at hb
 all_goals
  go_enter Tryz.func76,Tryz.ntmps76
  go_wp2_with (first | (go_at_call 52;refine (eP _ _ _ _).mono ?_;rintro e w' ⟨rfl,rfl⟩) | (go_at_call 98;refine (fO _ _).mono ?_;rintro e w' ⟨rfl,rfl⟩))
  go_ret
  exact ⟨rfl,by go_grown⟩
theorem Uw (r:dD) (w:World) (h:jP r.kind 1 7=true) (hb:(jP r.queue 0 3&&jP r.epoch 0 1048576&&jP r.peer 0 4)=true) (he:kC r.kind=false):Calls Tryz.prog 76 #[r.val] w (mV w (if r.ev=aO then 0 else 3)):=by
 obtain ⟨k,q,ep,pe,x0,x1,x2,x3,x4,x5⟩:=r;unfold dD.val;simp only at h hb he⊢;obtain ⟨hk0,hk1⟩:=ES.1 h;simp only [Bool.and_eq_true] at hb;obtain ⟨⟨r1,r2⟩,r3⟩:=hb;have hq:=ru ⟨x0,x1,x2,x3,x4,x5⟩ aO;by_cases z:(⟨x0,x1,x2,x3,x4,x5⟩:Ev)=aO
 ·rw [if_pos z];rw [show decide ((⟨x0,x1,x2,x3,x4,x5⟩:Ev)=aO)=true from decide_eq_true z] at hq;simp only [aO] at hq z;simp only [Ev.mk.injEq] at z;obtain ⟨rfl,rfl,rfl,rfl,rfl,rfl⟩:=z
  go_enter Tryz.func76,Tryz.ntmps76
  go_wp2_with (first | (go_at_call 52;refine (eP _ _ _ _).mono ?_;rintro e w' ⟨rfl,rfl⟩) | (go_at_call 98;refine (fO _ _).mono ?_;rintro e w' ⟨rfl,rfl⟩))
  go_ret
  exact ⟨rfl,by go_grown⟩
 rw [if_neg z];rw [show decide ((⟨x0,x1,x2,x3,x4,x5⟩:Ev)=aO)=false from decide_eq_false z] at hq;simp only [aO] at hq;have HZ:=Lib.hid z;clear z
 go_enter Tryz.func76,Tryz.ntmps76
 go_wp2_with (first | (go_at_call 52;refine (eP _ _ _ _).mono ?_;rintro e w' ⟨rfl,rfl⟩) | (go_at_call 98;refine (fO _ _).mono ?_;rintro e w' ⟨rfl,rfl⟩))
 go_ret
 exact ⟨rfl,by go_grown⟩
theorem QF (r:dD) (w:World) (h:jP r.kind 1 7=true) (hb:(jP r.queue 0 3&&jP r.epoch 0 1048576&&jP r.peer 0 4)=true) (he:kC r.kind=true):Calls Tryz.prog 76 #[r.val] w (mV w (aX r.ev)):=by
 have HC:=Lib.hid (Hy r.ev);generalize aX r.ev=z at HC;obtain ⟨k,q,ep,pe,x0,x1,x2,x3,x4,x5⟩:=r;unfold dD.val;unfold Ev.val at HC;simp only at h hb he HC⊢;obtain ⟨hk0,hk1⟩:=ES.1 h;simp only [Bool.and_eq_true] at hb;obtain ⟨⟨r1,r2⟩,r3⟩:=hb;have hk:k=2\/k=5:=by unfold kC at he;simp at he;exact he
 rcases hk with rfl | rfl
 all_goals
  go_enter Tryz.func76,Tryz.ntmps76
  go_wp2_with (first | (go_at_call 52;refine (eP _ _ _ _).mono ?_;rintro e w' ⟨rfl,rfl⟩) | (go_at_call 98;refine (fO _ _).mono ?_;rintro e w' ⟨rfl,rfl⟩))
  refine (HC.out _).mono ?_;rintro e w1 ⟨rfl,hb1⟩;have HB:=Lib.hid hb1;clear hb1
  go_wp2_with fail
  go_ret
  exact ⟨rfl,((Below.refl _ w).alloc (Nat.le_refl _) _).trans (HB.out.mono iQ)⟩
theorem jH (r:dD) (w:World):Calls Tryz.prog 76 #[r.val] w (mV w (aJ r)):=by
 unfold aJ
 cases h:jP r.kind 1 7
 ·rw [if_pos rfl];exact Uv r w h
 rw [if_neg iQ]
 cases hb:(jP r.queue 0 3&&jP r.epoch 0 1048576&&jP r.peer 0 4)
 ·rw [if_pos rfl];exact QE r w h hb
 rw [if_neg iQ]
 cases he:kC r.kind
 ·rw [if_neg iQ];exact Uw r w h hb he
 rw [if_pos rfl];exact QF r w h hb he
end Go.Proofs.YtlfgjcahpppbbaaGreatDoor
