import Derived.RegionTactic
import Derived.Test.YthhnonpehllibaaGreatDoorG7d120
set_option maxRecDepth 100000
set_option maxHeartbeats 8000000
set_option linter.unusedSimpArgs false
set_option linter.unusedVariables false
namespace Go.Proofs.YthhnonpehllibaaGreatDoor
open ChangeShapes WideShapes RowKit
theorem dX (n lo hi:Int) (w:World):
  Calls Tryz.prog 71 #[.int .i64 n,.int .i64 lo,.int .i64 hi] w λe w'=>e= .returned (.bool (jU n lo hi))/\w=w':=by
 by_cases h1:lo<=n<;>by_cases h2:n<=hi
 all_goals
  go_enter Tryz.func71,Tryz.ntmps71
  go_wp2
  go_ret
  exact ⟨by simp [jU];omega,rfl⟩
def bq (e:Ev):Int:=
 if ¬ (1<=e.kind/\e.kind<=4) then 3
 else if e.kind=1/\ ¬ (jU e.producer 0 3&&jU e.id 0 1073741824&&jU e.body 0 1000000)=true then 2
 else if e.kind=3/\ ¬ (jU e.aO 0 1048576&&jU e.hno 0 1073741824)=true then 2
 else if e.kind≠1/\ ¬ (e.producer=0/\e.id=0/\e.body=0) then 3
 else if e.kind≠3/\ ¬ (e.aO=0/\e.hno=0) then 3
 else 0
def l6 (w:World) (k:Int) (e:Ending) (w':World):Prop:=e= .returned (.int .i64 k)/\Below w.heap.size w w'
theorem FE (p i b he hn:Int) (w:World) (hb:(jU p 0 3&&jU i 0 1073741824&&jU b 0 1000000)=false):
  Calls Tryz.prog 73 #[Ev.val ⟨1,p,i,b,he,hn⟩] w (l6 w 2):=by
 unfold Ev.val
 cases r1:jU p 0 3<;>cases r2:jU i 0 1073741824<;>cases r3:jU b 0 1000000<;>simp [r1,r2,r3] at hb
 all_goals
  go_enter Tryz.func73,Tryz.ntmps73
  go_wp2_with (go_at_call 71;refine (dX _ _ _ _).mono ?_;rintro e w' ⟨rfl,rfl⟩)
  go_region
  go_wp2_with (go_at_call 71;refine (dX _ _ _ _).mono ?_;rintro e w' ⟨rfl,rfl⟩)
  go_ret
  exact ⟨rfl,by go_grown⟩
theorem Mh (p i b he hn:Int) (w:World) (hb:(jU p 0 3&&jU i 0 1073741824&&jU b 0 1000000)=true):
  Calls Tryz.prog 73 #[Ev.val ⟨1,p,i,b,he,hn⟩] w (l6 w (if he=0/\hn=0 then 0 else 3)):=by
 unfold Ev.val;simp only [Bool.and_eq_true] at hb;obtain ⟨⟨r1,r2⟩,r3⟩:=hb;have hq:=qN ⟨1,p,i,b,0,0⟩ ⟨1,p,i,b,he,hn⟩;simp only [Ev.mk.injEq,true_and] at hq;by_cases z:0=he/\0=hn
 ·rw [if_pos ⟨z.1.symm,z.2.symm⟩];rw [show decide (0=he/\0=hn)=true by simpa using z] at hq;obtain ⟨rfl,rfl⟩:=z
  go_enter Tryz.func73,Tryz.ntmps73
  go_wp2_with (go_at_call 71;refine (dX _ _ _ _).mono ?_;rintro e w' ⟨rfl,rfl⟩)
  go_region
  go_wp2_with (go_at_call 71;refine (dX _ _ _ _).mono ?_;rintro e w' ⟨rfl,rfl⟩)
  go_ret
  exact ⟨rfl,by go_grown⟩
 rw [if_neg (λh=>z ⟨h.1.symm,h.2.symm⟩)];rw [show decide (0=he/\0=hn)=false by simpa using z] at hq;have HZ:=Lib.hid z;clear z
 go_enter Tryz.func73,Tryz.ntmps73
 go_wp2_with (go_at_call 71;refine (dX _ _ _ _).mono ?_;rintro e w' ⟨rfl,rfl⟩)
 go_region
 go_wp2_with (go_at_call 71;refine (dX _ _ _ _).mono ?_;rintro e w' ⟨rfl,rfl⟩)
 go_ret
 exact ⟨rfl,by go_grown⟩
theorem Mi (p i b he hn:Int) (w:World) (hb:(jU he 0 1048576&&jU hn 0 1073741824)=false):
  Calls Tryz.prog 73 #[Ev.val ⟨3,p,i,b,he,hn⟩] w (l6 w 2):=by
 unfold Ev.val
 cases r1:jU he 0 1048576<;>cases r2:jU hn 0 1073741824<;>simp [r1,r2] at hb
 all_goals
  go_enter Tryz.func73,Tryz.ntmps73
  go_wp2_with (go_at_call 71;refine (dX _ _ _ _).mono ?_;rintro e w' ⟨rfl,rfl⟩)
  go_ret
  exact ⟨rfl,by go_grown⟩
theorem YL (p i b he hn:Int) (w:World) (hb:(jU he 0 1048576&&jU hn 0 1073741824)=true):
  Calls Tryz.prog 73 #[Ev.val ⟨3,p,i,b,he,hn⟩] w (l6 w (if p=0/\i=0/\b=0 then 0 else 3)):=by
 unfold Ev.val;simp only [Bool.and_eq_true] at hb;obtain ⟨r1,r2⟩:=hb;have hq:=qN ⟨3,0,0,0,he,hn⟩ ⟨3,p,i,b,he,hn⟩;simp only [Ev.mk.injEq,true_and,and_true] at hq;by_cases z:0=p/\0=i/\0=b
 ·rw [if_pos ⟨z.1.symm,z.2.1.symm,z.2.2.symm⟩];rw [show decide (0=p/\0=i/\0=b)=true by simpa using z] at hq;obtain ⟨rfl,rfl,rfl⟩:=z
  go_enter Tryz.func73,Tryz.ntmps73
  go_wp2_with (go_at_call 71;refine (dX _ _ _ _).mono ?_;rintro e w' ⟨rfl,rfl⟩)
  go_ret
  exact ⟨rfl,by go_grown⟩
 rw [if_neg (λh=>z ⟨h.1.symm,h.2.1.symm,h.2.2.symm⟩)];rw [show decide (0=p/\0=i/\0=b)=false by simpa using z] at hq;have HZ:=Lib.hid z;clear z
 go_enter Tryz.func73,Tryz.ntmps73
 go_wp2_with (go_at_call 71;refine (dX _ _ _ _).mono ?_;rintro e w' ⟨rfl,rfl⟩)
 go_ret
 exact ⟨rfl,by go_grown⟩
theorem VU (k p i b he hn:Int) (w:World) (hk:k=2\/k=4):
  Calls Tryz.prog 73 #[Ev.val ⟨k,p,i,b,he,hn⟩] w (l6 w (if p=0/\i=0/\b=0/\he=0/\hn=0 then 0 else 3)):=by
 unfold Ev.val;have hq:=qN ⟨k,0,0,0,0,0⟩ ⟨k,p,i,b,he,hn⟩;simp only [Ev.mk.injEq,true_and] at hq;by_cases z:0=p/\0=i/\0=b/\0=he/\0=hn
 ·rw [if_pos ⟨z.1.symm,z.2.1.symm,z.2.2.1.symm,z.2.2.2.1.symm,z.2.2.2.2.symm⟩];rw [show decide (0=p/\0=i/\0=b/\0=he/\0=hn)=true by simpa using z] at hq;obtain ⟨rfl,rfl,rfl,rfl,rfl⟩:=z
  rcases hk with rfl | rfl
  all_goals
   go_enter Tryz.func73,Tryz.ntmps73
   go_wp2_with (go_at_call 71;refine (dX _ _ _ _).mono ?_;rintro e w' ⟨rfl,rfl⟩)
   go_ret
   exact ⟨rfl,by go_grown⟩
 rw [if_neg (λh=>z ⟨h.1.symm,h.2.1.symm,h.2.2.1.symm,h.2.2.2.1.symm,h.2.2.2.2.symm⟩)];rw [show decide (0=p/\0=i/\0=b/\0=he/\0=hn)=false by simpa using z] at hq;have HZ:=Lib.hid z;clear z
 rcases hk with rfl | rfl
 all_goals
  go_enter Tryz.func73,Tryz.ntmps73
  go_wp2_with (go_at_call 71;refine (dX _ _ _ _).mono ?_;rintro e w' ⟨rfl,rfl⟩)
  go_ret
  exact ⟨rfl,by go_grown⟩
theorem VW (k p i b he hn:Int) (w:World) (h1:(k==1)=false) (h2:(k==2)=false) (h3:(k==3)=false) (h4:(k==4)=false):
  Calls Tryz.prog 73 #[Ev.val ⟨k,p,i,b,he,hn⟩] w (l6 w 3):=by
 unfold Ev.val
 go_enter Tryz.func73,Tryz.ntmps73
 go_wp2_with (go_at_call 71;refine (dX _ _ _ _).mono ?_;rintro e w' ⟨rfl,rfl⟩)
 go_ret
 exact ⟨rfl,by go_grown⟩
theorem Gt (e:Ev) (w:World):Calls Tryz.prog 73 #[e.val] w (l6 w (bq e)):=by
 obtain ⟨k,p,i,b,he,hn⟩:=e;by_cases k1:k=1
 ·subst k1
  cases hb:(jU p 0 3&&jU i 0 1073741824&&jU b 0 1000000)
  ·have hf:bq ⟨1,p,i,b,he,hn⟩=2:=by simp only [bq,hb];simp
   rw [hf];exact FE p i b he hn w hb
  have hf:bq ⟨1,p,i,b,he,hn⟩=if he=0/\hn=0 then 0 else 3:=by
   simp only [bq,hb];by_cases z:he=0/\hn=0<;>simp [z]
  rw [hf];exact Mh p i b he hn w hb
 by_cases k3:k=3
 ·subst k3
  cases hb:(jU he 0 1048576&&jU hn 0 1073741824)
  ·have hf:bq ⟨3,p,i,b,he,hn⟩=2:=by simp only [bq,hb];simp
   rw [hf];exact Mi p i b he hn w hb
  have hf:bq ⟨3,p,i,b,he,hn⟩=if p=0/\i=0/\b=0 then 0 else 3:=by
   simp only [bq,hb];by_cases z:p=0/\i=0/\b=0<;>simp [z]
  rw [hf];exact YL p i b he hn w hb
 by_cases k24:k=2\/k=4
 ·have hf:bq ⟨k,p,i,b,he,hn⟩=if p=0/\i=0/\b=0/\he=0/\hn=0 then 0 else 3:=by
   have hk:1<=k/\k<=4:=by omega
   simp only [bq,hk,and_self,not_true_eq_false,if_false,k1,k3,false_and,ne_eq,not_false_eq_true,true_and];by_cases z:p=0/\i=0/\b=0<;>by_cases y:he=0/\hn=0<;>simp [z,y]<;>omega
  rw [hf];exact VU k p i b he hn w k24
 have hf:bq ⟨k,p,i,b,he,hn⟩=3:=by
  have hk: ¬ (1<=k/\k<=4):=by omega
  simp only [bq,hk,not_false_eq_true,if_true]
 rw [hf];exact VW k p i b he hn w (beq_eq_false_iff_ne.2 (by omega)) (beq_eq_false_iff_ne.2 (by omega)) (beq_eq_false_iff_ne.2 (by omega)) (beq_eq_false_iff_ne.2 (by omega))
structure dB where
 kind:Int
 queue:Int
 epoch:Int
 peer:Int
 ev:Ev
 deriving DecidableEq
def dB.val (r:dB):Value:= .agg #[.int .i64 r.kind,.int .i64 r.queue,.int .i64 r.epoch,.int .i64 r.peer,.int .i64 r.ev.kind,.int .i64 r.ev.producer,.int .i64 r.ev.id,.int .i64 r.ev.body,.int .i64 r.ev.aO,.int .i64 r.ev.hno]
def jX (k:Int):Bool:=k==2 || k==5
def aP:Ev:=⟨0,0,0,0,0,0⟩
def aL (r:dB):Int:=
 if jU r.kind 1 7=false then 3
 else if (jU r.queue 0 3&&jU r.epoch 0 1048576&&jU r.peer 0 4)=false then 2
 else if jX r.kind=true then bq r.ev
 else if r.ev=aP then 0 else 3
theorem fK (k:Int) (w:World):Calls Tryz.prog 72 #[.int .i64 k] w λe w'=>e= .returned (.bool (jX k))/\w=w':=by
 unfold jX
 cases h1:(k==2)<;>cases h2:(k==5)
 all_goals
  go_enter Tryz.func72,Tryz.ntmps72
  go_wp2
  go_ret
  exact ⟨by simp,rfl⟩
theorem SA (r:dB) (w:World) (h:jU r.kind 1 7=false):Calls Tryz.prog 54 #[r.val] w (l6 w 3):=by
 obtain ⟨k,q,ep,pe,x0,x1,x2,x3,x4,x5⟩:=r;unfold dB.val;simp only at h
 rcases YJ.1 h with h1 | h1
 all_goals
  clear h
  go_enter Tryz.func54,Tryz.ntmps54
  go_wp2_with (first | (go_at_call 71;refine (dX _ _ _ _).mono ?_;rintro e w' ⟨rfl,rfl⟩) | (go_at_call 72;refine (fK _ _).mono ?_;rintro e w' ⟨rfl,rfl⟩))
  go_ret
  exact ⟨rfl,by go_grown⟩
theorem Pd (r:dB) (w:World) (h:jU r.kind 1 7=true) (hb:(jU r.queue 0 3&&jU r.epoch 0 1048576&&jU r.peer 0 4)=false):Calls Tryz.prog 54 #[r.val] w (l6 w 2):=by
 obtain ⟨k,q,ep,pe,x0,x1,x2,x3,x4,x5⟩:=r;unfold dB.val;simp only at h hb;obtain ⟨hk0,hk1⟩:=DN.1 h
 cases r1:jU q 0 3<;>cases r2:jU ep 0 1048576<;>cases r3:jU pe 0 4<;>simp [r1,r2,r3] at hb
 all_goals
  go_enter Tryz.func54,Tryz.ntmps54
  go_wp2_with (first | (go_at_call 71;refine (dX _ _ _ _).mono ?_;rintro e w' ⟨rfl,rfl⟩) | (go_at_call 72;refine (fK _ _).mono ?_;rintro e w' ⟨rfl,rfl⟩))
  go_ret
  exact ⟨rfl,by go_grown⟩
theorem SB (r:dB) (w:World) (h:jU r.kind 1 7=true) (hb:(jU r.queue 0 3&&jU r.epoch 0 1048576&&jU r.peer 0 4)=true) (he:jX r.kind=false):Calls Tryz.prog 54 #[r.val] w (l6 w (if r.ev=aP then 0 else 3)):=by
 obtain ⟨k,q,ep,pe,x0,x1,x2,x3,x4,x5⟩:=r;unfold dB.val;simp only at h hb he⊢;obtain ⟨hk0,hk1⟩:=DN.1 h;simp only [Bool.and_eq_true] at hb;obtain ⟨⟨r1,r2⟩,r3⟩:=hb;have hq:=qN ⟨x0,x1,x2,x3,x4,x5⟩ aP;by_cases z:(⟨x0,x1,x2,x3,x4,x5⟩:Ev)=aP
 ·rw [if_pos z];rw [show decide ((⟨x0,x1,x2,x3,x4,x5⟩:Ev)=aP)=true from decide_eq_true z] at hq;simp only [aP] at hq z;simp only [Ev.mk.injEq] at z;obtain ⟨rfl,rfl,rfl,rfl,rfl,rfl⟩:=z
  go_enter Tryz.func54,Tryz.ntmps54
  go_wp2_with (first | (go_at_call 71;refine (dX _ _ _ _).mono ?_;rintro e w' ⟨rfl,rfl⟩) | (go_at_call 72;refine (fK _ _).mono ?_;rintro e w' ⟨rfl,rfl⟩))
  go_ret
  exact ⟨rfl,by go_grown⟩
 rw [if_neg z];rw [show decide ((⟨x0,x1,x2,x3,x4,x5⟩:Ev)=aP)=false from decide_eq_false z] at hq;simp only [aP] at hq;have HZ:=Lib.hid z;clear z
 go_enter Tryz.func54,Tryz.ntmps54
 go_wp2_with (first | (go_at_call 71;refine (dX _ _ _ _).mono ?_;rintro e w' ⟨rfl,rfl⟩) | (go_at_call 72;refine (fK _ _).mono ?_;rintro e w' ⟨rfl,rfl⟩))
 go_ret
 exact ⟨rfl,by go_grown⟩
theorem Pe (r:dB) (w:World) (h:jU r.kind 1 7=true) (hb:(jU r.queue 0 3&&jU r.epoch 0 1048576&&jU r.peer 0 4)=true) (he:jX r.kind=true):Calls Tryz.prog 54 #[r.val] w (l6 w (bq r.ev)):=by
 have HC:=Lib.hid (Gt r.ev);generalize bq r.ev=z at HC;obtain ⟨k,q,ep,pe,x0,x1,x2,x3,x4,x5⟩:=r;unfold dB.val;unfold Ev.val at HC;simp only at h hb he HC⊢;obtain ⟨hk0,hk1⟩:=DN.1 h;simp only [Bool.and_eq_true] at hb;obtain ⟨⟨r1,r2⟩,r3⟩:=hb;have hk:k=2\/k=5:=by unfold jX at he;simp at he;exact he
 rcases hk with rfl | rfl
 all_goals
  go_enter Tryz.func54,Tryz.ntmps54
  go_wp2_with (first | (go_at_call 71;refine (dX _ _ _ _).mono ?_;rintro e w' ⟨rfl,rfl⟩) | (go_at_call 72;refine (fK _ _).mono ?_;rintro e w' ⟨rfl,rfl⟩))
  refine (HC.out _).mono ?_;rintro e w1 ⟨rfl,hb1⟩;have HB:=Lib.hid hb1;clear hb1
  go_wp2_with fail
  go_ret
  exact ⟨rfl,((Below.refl _ w).alloc (Nat.le_refl _) _).trans (HB.out.mono (by simp))⟩
theorem jy (r:dB) (w:World):Calls Tryz.prog 54 #[r.val] w (l6 w (aL r)):=by
 unfold aL
 cases h:jU r.kind 1 7
 ·rw [if_pos rfl];exact SA r w h
 rw [if_neg (by simp)]
 cases hb:(jU r.queue 0 3&&jU r.epoch 0 1048576&&jU r.peer 0 4)
 ·rw [if_pos rfl];exact Pd r w h hb
 rw [if_neg (by simp)]
 cases he:jX r.kind
 ·rw [if_neg (by simp)];exact SB r w h hb he
 rw [if_pos rfl];exact Pe r w h hb he
end Go.Proofs.YthhnonpehllibaaGreatDoor
