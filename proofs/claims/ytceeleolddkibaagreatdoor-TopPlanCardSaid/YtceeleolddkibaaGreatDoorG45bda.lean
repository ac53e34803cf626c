import Derived.Test.YtceeleolddkibaaGreatDoorG37a0f
set_option linter.all false
set_option maxRecDepth 100000
set_option maxHeartbeats 8000000
namespace Go.Proofs.YtceeleolddkibaaGreatDoor
open List Nat Go.Proofs.Tryz ChangeShapes WideShapes RowKit
def fT(n lo hi:Int)(w:World):
 Calls prog 70 #[.int .i64 n,.int .i64 lo,.int .i64 hi] w λe w'=>e=.returned (.bool (mo n lo hi))/\w=w':=by
 by_cases h1:lo<=n<;>by_cases h2:n<=hi
 all_goals
  go_enter func70,Tryz.ntmps70
  go_wp2
  go_ret
  exact⟨by simp[mo];omega,E⟩
def bJ(e:Ev):Int:=
 if ¬(1<=e.kind/\e.kind<=4)then 3
 else if e.kind=1/\ ¬(mo e.Pv 0 3&&mo e.id 0 1073741824&&mo e.body 0 1000000)=true then 2
 else if e.kind=3/\ ¬(mo e.Qs 0 1048576&&mo e.Qz 0 1073741824)=true then 2
 else if e.kind≠1/\ ¬(e.Pv=0/\e.id=0/\e.body=0)then 3
 else if e.kind≠3/\ ¬(e.Qs=0/\e.Qz=0)then 3
 else 0
def pO(w:World)(k:Int)(e:Ending)(w':World):Prop:=e=.returned (.int .i64 k)/\Below w.heap.size w w'
def acz(p i b he hn:Int)(w:World)(hb:(mo p 0 3&&mo i 0 1073741824&&mo b 0 1000000)=false):
 Calls prog 72 #[Ev.val ⟨1,p,i,b,he,hn⟩] w (pO w 2):=by
 unfold Ev.val
 cases r1:mo p 0 3<;>cases r2:mo i 0 1073741824<;>cases r3:mo b 0 1000000<;>simp[r1,r2,r3]at hb
 all_goals
  go_enter func72,Tryz.ntmps72
  go_wp2_with (go_at_call 70;refine(fT _ _ _ _).mono ?_;rintro e w' ⟨rfl,rfl⟩)
  go_region
  go_wp2_with (go_at_call 70;refine(fT _ _ _ _).mono ?_;rintro e w' ⟨rfl,rfl⟩)
  go_ret
  exact⟨E,by go_grown⟩
def ac3(p i b he hn:Int)(w:World)(hb:(mo p 0 3&&mo i 0 1073741824&&mo b 0 1000000)=true):
 Calls prog 72 #[Ev.val ⟨1,p,i,b,he,hn⟩] w (pO w (if he=0/\hn=0 then 0 else 3)):=by
 unfold Ev.val;simp only[Bool.and_eq_true]at hb;obtain⟨⟨r1,r2⟩,r3⟩:=hb;have hq:=uV ⟨1,p,i,b,0,0⟩ ⟨1,p,i,b,he,hn⟩;simp only[Ev.mk.injEq,true_and]at hq;by_cases z:0=he/\0=hn
 ·rw[aj ⟨z.1.symm,z.2.symm⟩];rw[show decide (0=he/\0=hn)=true by simpa using z]at hq;obtain⟨rfl,rfl⟩:=z
  go_enter func72,Tryz.ntmps72
  go_wp2_with (go_at_call 70;refine(fT _ _ _ _).mono ?_;rintro e w' ⟨rfl,rfl⟩)
  go_region
  go_wp2_with (go_at_call 70;refine(fT _ _ _ _).mono ?_;rintro e w' ⟨rfl,rfl⟩)
  go_ret
  exact⟨E,by go_grown⟩
 rw[ah (λh=>z ⟨h.1.symm,h.2.symm⟩)];rw[show decide (0=he/\0=hn)=false by simpa using z]at hq;have HZ:=Lib.hid z;clear z
 go_enter func72,Tryz.ntmps72
 go_wp2_with (go_at_call 70;refine(fT _ _ _ _).mono ?_;rintro e w' ⟨rfl,rfl⟩)
 go_region
 go_wp2_with (go_at_call 70;refine(fT _ _ _ _).mono ?_;rintro e w' ⟨rfl,rfl⟩)
 go_ret
 exact⟨E,by go_grown⟩
def ac4(p i b he hn:Int)(w:World)(hb:(mo he 0 1048576&&mo hn 0 1073741824)=false):
 Calls prog 72 #[Ev.val ⟨3,p,i,b,he,hn⟩] w (pO w 2):=by
 unfold Ev.val
 cases r1:mo he 0 1048576<;>cases r2:mo hn 0 1073741824<;>simp[r1,r2]at hb
 all_goals
  go_enter func72,Tryz.ntmps72
  go_wp2_with (go_at_call 70;refine(fT _ _ _ _).mono ?_;rintro e w' ⟨rfl,rfl⟩)
  go_ret
  exact⟨E,by go_grown⟩
def ael(p i b he hn:Int)(w:World)(hb:(mo he 0 1048576&&mo hn 0 1073741824)=true):
 Calls prog 72 #[Ev.val ⟨3,p,i,b,he,hn⟩] w (pO w (if p=0/\i=0/\b=0 then 0 else 3)):=by
 unfold Ev.val;simp only[Bool.and_eq_true]at hb;obtain⟨r1,r2⟩:=hb;have hq:=uV ⟨3,0,0,0,he,hn⟩ ⟨3,p,i,b,he,hn⟩;simp only[Ev.mk.injEq,true_and,and_true]at hq;by_cases z:0=p/\0=i/\0=b
 ·rw[aj ⟨z.1.symm,z.2.1.symm,z.2.2.symm⟩];rw[show decide (0=p/\0=i/\0=b)=true by simpa using z]at hq;obtain⟨rfl,rfl,rfl⟩:=z
  go_enter func72,Tryz.ntmps72
  go_wp2_with (go_at_call 70;refine(fT _ _ _ _).mono ?_;rintro e w' ⟨rfl,rfl⟩)
  go_ret
  exact⟨E,by go_grown⟩
 rw[ah (λh=>z ⟨h.1.symm,h.2.1.symm,h.2.2.symm⟩)];rw[show decide (0=p/\0=i/\0=b)=false by simpa using z]at hq;have HZ:=Lib.hid z;clear z
 go_enter func72,Tryz.ntmps72
 go_wp2_with (go_at_call 70;refine(fT _ _ _ _).mono ?_;rintro e w' ⟨rfl,rfl⟩)
 go_ret
 exact⟨E,by go_grown⟩
def aaQ(k p i b he hn:Int)(w:World)(hk:k=2\/k=4):
 Calls prog 72 #[Ev.val ⟨k,p,i,b,he,hn⟩] w (pO w (if p=0/\i=0/\b=0/\he=0/\hn=0 then 0 else 3)):=by
 unfold Ev.val;have hq:=uV ⟨k,0,0,0,0,0⟩ ⟨k,p,i,b,he,hn⟩;simp only[Ev.mk.injEq,true_and]at hq;by_cases z:0=p/\0=i/\0=b/\0=he/\0=hn
 ·rw[aj ⟨z.1.symm,z.2.1.symm,z.2.2.1.symm,z.2.2.2.1.symm,z.2.2.2.2.symm⟩];rw[show decide (0=p/\0=i/\0=b/\0=he/\0=hn)=true by simpa using z]at hq;obtain⟨rfl,rfl,rfl,rfl,rfl⟩:=z
  rcases hk with rfl|rfl
  all_goals
   go_enter func72,Tryz.ntmps72
   go_wp2_with (go_at_call 70;refine(fT _ _ _ _).mono ?_;rintro e w' ⟨rfl,rfl⟩)
   go_ret
   exact⟨E,by go_grown⟩
 rw[ah (λh=>z ⟨h.1.symm,h.2.1.symm,h.2.2.1.symm,h.2.2.2.1.symm,h.2.2.2.2.symm⟩)];rw[show decide (0=p/\0=i/\0=b/\0=he/\0=hn)=false by simpa using z]at hq;have HZ:=Lib.hid z;clear z
 rcases hk with rfl|rfl
 all_goals
  go_enter func72,Tryz.ntmps72
  go_wp2_with (go_at_call 70;refine(fT _ _ _ _).mono ?_;rintro e w' ⟨rfl,rfl⟩)
  go_ret
  exact⟨E,by go_grown⟩
def aaR(k p i b he hn:Int)(w:World)(h1:(k==1)=false)(h2:(k==2)=false)(h3:(k==3)=false)(h4:(k==4)=false):
 Calls prog 72 #[Ev.val ⟨k,p,i,b,he,hn⟩] w (pO w 3):=by
 unfold Ev.val
 go_enter func72,Tryz.ntmps72
 go_wp2_with (go_at_call 70;refine(fT _ _ _ _).mono ?_;rintro e w' ⟨rfl,rfl⟩)
 go_ret
 exact⟨E,by go_grown⟩
def KA(e:Ev)(w:World):Calls prog 72 #[e.val] w (pO w (bJ e)):=by
 obtain⟨k,p,i,b,he,hn⟩:=e;by_cases O:k=1
 ·subst O
  cases I:(mo p 0 3&&mo i 0 1073741824&&mo b 0 1000000)
  ·have h:bJ ⟨1,p,i,b,he,hn⟩=2:=by simp only[bJ,I];simp
   rw[h];exact acz p i b he hn w I
  have h:bJ ⟨1,p,i,b,he,hn⟩=if he=0/\hn=0 then 0 else 3:=by
   simp only[bJ,I];by_cases z:he=0/\hn=0<;>simp[z]
  rw[h];exact ac3 p i b he hn w I
 by_cases Z:k=3
 ·subst Z
  cases I:(mo he 0 1048576&&mo hn 0 1073741824)
  ·have h:bJ ⟨3,p,i,b,he,hn⟩=2:=by simp only[bJ,I];simp
   rw[h];exact ac4 p i b he hn w I
  have h:bJ ⟨3,p,i,b,he,hn⟩=if p=0/\i=0/\b=0 then 0 else 3:=by
   simp only[bJ,I];by_cases z:p=0/\i=0/\b=0<;>simp[z]
  rw[h];exact ael p i b he hn w I
 by_cases J:k=2\/k=4
 ·have h:bJ ⟨k,p,i,b,he,hn⟩=if p=0/\i=0/\b=0/\he=0/\hn=0 then 0 else 3:=by
   have M:1<=k/\k<=4:=Y;simp only[bJ,M,and_self,not_true_eq_false,if_false,O,Z,false_and,ne_eq,not_false_eq_true,true_and];by_cases z:p=0/\i=0/\b=0<;>by_cases y:he=0/\hn=0<;>simp[z,y]<;>omega
  rw[h];exact aaQ k p i b he hn w J
 have h:bJ ⟨k,p,i,b,he,hn⟩=3:=by
  have M:¬(1<=k/\k<=4):=Y;simp only[bJ,M,not_false_eq_true,if_true]
 rw[h];exact aaR k p i b he hn w (Bh.2 Y) (Bh.2 Y) (Bh.2 Y) (Bh.2 Y)
structure dN where
 kind:Int
 Qu:Int
 Pf:Int
 Vk:Int
 ev:Ev
 deriving DecidableEq
def dN.val(r:dN):Value:=.agg #[.int .i64 r.kind,.int .i64 r.Qu,.int .i64 r.Pf,.int .i64 r.Vk,.int .i64 r.ev.kind,.int .i64 r.ev.Pv,.int .i64 r.ev.id,.int .i64 r.ev.body,.int .i64 r.ev.Qs,.int .i64 r.ev.Qz]
def mF(k:Int):Bool:=k==2 || k==5
def aU:Ev:=⟨0,0,0,0,0,0⟩
def aM(r:dN):Int:=
 if mo r.kind 1 7=false then 3
 else if (mo r.Qu 0 3&&mo r.Pf 0 1048576&&mo r.Vk 0 4)=false then 2
 else if mF r.kind=true then bJ r.ev
 else if r.ev=aU then 0 else 3
def iC(k:Int)(w:World):Calls prog 71 #[.int .i64 k] w λe w'=>e=.returned (.bool (mF k))/\w=w':=by
 unfold mF
 cases h1:(k==2)<;>cases h2:(k==5)
 all_goals
  go_enter func71,Tryz.ntmps71
  go_wp2
  go_ret
  exact⟨by simp,E⟩
def XZ(r:dN)(w:World)(h:mo r.kind 1 7=false):Calls prog 53 #[r.val] w (pO w 3):=by
 obtain⟨k,q,ep,pe,x0,x1,x2,x3,x4,x5⟩:=r;unfold dN.val;simp only at h
 rcases aed.1 h with h1|h1
 all_goals
  clear h
  go_enter func53,Tryz.ntmps53
  go_wp2_with (first|(go_at_call 70;refine(fT _ _ _ _).mono ?_;rintro e w' ⟨rfl,rfl⟩)|(go_at_call 71;refine(iC _ _).mono ?_;rintro e w' ⟨rfl,rfl⟩))
  go_ret
  exact⟨E,by go_grown⟩
def afi(r:dN)(w:World)(h:mo r.kind 1 7=true)(hb:(mo r.Qu 0 3&&mo r.Pf 0 1048576&&mo r.Vk 0 4)=false):Calls prog 53 #[r.val] w (pO w 2):=by
 obtain⟨k,q,ep,pe,x0,x1,x2,x3,x4,x5⟩:=r;unfold dN.val;simp only at h hb;obtain⟨hk0,hk1⟩:=Il.1 h
 cases r1:mo q 0 3<;>cases r2:mo ep 0 1048576<;>cases r3:mo pe 0 4<;>simp[r1,r2,r3]at hb
 all_goals
  go_enter func53,Tryz.ntmps53
  go_wp2_with (first|(go_at_call 70;refine(fT _ _ _ _).mono ?_;rintro e w' ⟨rfl,rfl⟩)|(go_at_call 71;refine(iC _ _).mono ?_;rintro e w' ⟨rfl,rfl⟩))
  go_ret
  exact⟨E,by go_grown⟩
def X0(r:dN)(w:World)(h:mo r.kind 1 7=true)(hb:(mo r.Qu 0 3&&mo r.Pf 0 1048576&&mo r.Vk 0 4)=true)(he:mF r.kind=false):Calls prog 53 #[r.val] w (pO w (if r.ev=aU then 0 else 3)):=by
 obtain⟨k,q,ep,pe,x0,x1,x2,x3,x4,x5⟩:=r;unfold dN.val;simp only at h hb he⊢;obtain⟨hk0,hk1⟩:=Il.1 h;simp only[Bool.and_eq_true]at hb;obtain⟨⟨r1,r2⟩,r3⟩:=hb;have hq:=uV ⟨x0,x1,x2,x3,x4,x5⟩ aU;by_cases z:(⟨x0,x1,x2,x3,x4,x5⟩:Ev)=aU
 ·rw[aj z];rw[show decide ((⟨x0,x1,x2,x3,x4,x5⟩:Ev)=aU)=true from jU z]at hq;simp only[aU]at hq z;simp only[Ev.mk.injEq]at z;obtain⟨rfl,rfl,rfl,rfl,rfl,rfl⟩:=z
  go_enter func53,Tryz.ntmps53
  go_wp2_with (first|(go_at_call 70;refine(fT _ _ _ _).mono ?_;rintro e w' ⟨rfl,rfl⟩)|(go_at_call 71;refine(iC _ _).mono ?_;rintro e w' ⟨rfl,rfl⟩))
  go_ret
  exact⟨E,by go_grown⟩
 rw[ah z];rw[show decide ((⟨x0,x1,x2,x3,x4,x5⟩:Ev)=aU)=false from jc z]at hq;simp only[aU]at hq;have HZ:=Lib.hid z;clear z
 go_enter func53,Tryz.ntmps53
 go_wp2_with (first|(go_at_call 70;refine(fT _ _ _ _).mono ?_;rintro e w' ⟨rfl,rfl⟩)|(go_at_call 71;refine(iC _ _).mono ?_;rintro e w' ⟨rfl,rfl⟩))
 go_ret
 exact⟨E,by go_grown⟩
def afl(r:dN)(w:World)(h:mo r.kind 1 7=true)(hb:(mo r.Qu 0 3&&mo r.Pf 0 1048576&&mo r.Vk 0 4)=true)(he:mF r.kind=true):Calls prog 53 #[r.val] w (pO w (bJ r.ev)):=by
 have HC:=Lib.hid (KA r.ev);generalize bJ r.ev=z at HC;obtain⟨k,q,ep,pe,x0,x1,x2,x3,x4,x5⟩:=r;unfold dN.val;unfold Ev.val at HC;simp only at h hb he HC⊢;obtain⟨hk0,hk1⟩:=Il.1 h;simp only[Bool.and_eq_true]at hb;obtain⟨⟨r1,r2⟩,r3⟩:=hb;have hk:k=2\/k=5:=by unfold mF at he;simp at he;exact he
 rcases hk with rfl|rfl
 all_goals
  go_enter func53,Tryz.ntmps53
  go_wp2_with (first|(go_at_call 70;refine(fT _ _ _ _).mono ?_;rintro e w' ⟨rfl,rfl⟩)|(go_at_call 71;refine(iC _ _).mono ?_;rintro e w' ⟨rfl,rfl⟩))
  refine(HC.out _).mono ?_;rintro e w1 ⟨rfl,hb1⟩;have HB:=Lib.hid hb1;clear hb1
  go_wp2_with fail
  go_ret
  exact⟨E,((Below.refl _ w).alloc aB _).trans (HB.out.mono iQ)⟩
def lq(r:dN)(w:World):Calls prog 53 #[r.val] w (pO w (aM r)):=by
 unfold aM
 cases h:mo r.kind 1 7
 ·rw[aj E];exact XZ r w h
 rw[ah iQ]
 cases I:(mo r.Qu 0 3&&mo r.Pf 0 1048576&&mo r.Vk 0 4)
 ·rw[aj E];exact afi r w h I
 rw[ah iQ]
 cases he:mF r.kind
 ·rw[ah iQ];exact X0 r w h I he
 rw[aj E];exact afl r w h I he
end Go.Proofs.YtceeleolddkibaaGreatDoor
